/- What the told functions answer, part 1. No condition. -/
import Derived.Test.YtigikpefcbcgkaaGreatDoorFn
import Derived.Laws.Bits64b
set_option linter.all false
namespace Go.DI.Th
open Go Go.RowKit Go.DI

def Ev {α : Type} (g : Nat -> Option α) (r : α) : Prop := ∃ K, ∀ k, K <= k -> g k = some r
theorem Ev.now {α : Type} (r : α) : Ev (fun _ => some r) r := ⟨0, fun _ _ => rfl⟩
theorem Ev.rounds {α : Type} {g : Nat -> Option α} {r : α} (h : Ev g r) : ∃ k, g k = some r := by
 obtain ⟨K, h⟩ := h
 exact ⟨K, h K (Nat.le_refl _)⟩
theorem Ev.bind {α β : Type} {g : Nat -> Option α} {f : Nat -> α -> Option β} {a : α} {r : β} (h : Ev g a) (k : Ev (fun n => f n a) r) : Ev (fun n => (g n).bind (f n)) r := by
 obtain ⟨K, h⟩ := h
 obtain ⟨K', k⟩ := k
 refine ⟨max K K', fun n hn => ?_⟩
 show (g n).bind (f n) = some r
 rw [h n (by omega)]
 exact k n (by omega)
theorem Ev.step {α : Type} {g f : Nat -> Option α} {r : α} (h : ∀ k, g (k + 1) = f k) (k : Ev f r) : Ev g r := by
 obtain ⟨K, k⟩ := k
 refine ⟨K + 1, fun n hn => ?_⟩
 obtain ⟨m, rfl⟩ : ∃ m, n = m + 1 := ⟨n - 1, by omega⟩
 rw [h]
 exact k m (by omega)
theorem Ev.congr {α : Type} {g f : Nat -> Option α} {r : α} (h : ∀ k, g k = f k) (k : Ev f r) : Ev g r := by
 obtain ⟨K, k⟩ := k
 exact ⟨K, fun n hn => by rw [h]; exact k n hn⟩
theorem Ev.of_eq {α : Type} {g : Nat -> Option α} {r r' : α} (h : Ev g r) (e : r = r') : Ev g r' := e ▸ h
theorem Ev.if_pos {α : Type} {c : Prop} [Decidable c] {g f : Nat -> Option α} {r : α} (h : c) (k : Ev g r) : Ev (fun n => if c then g n else f n) r := Ev.congr (fun _ => _root_.if_pos h) k
theorem Ev.if_neg {α : Type} {c : Prop} [Decidable c] {g f : Nat -> Option α} {r : α} (h : ¬ c) (k : Ev f r) : Ev (fun n => if c then g n else f n) r := Ev.congr (fun _ => _root_.if_neg h) k


theorem wrap_id {i : Int} (h0 : -9223372036854775808 <= i) (h : i <= 9223372036854775807) : wrap64 i = i := by
 unfold wrap64; omega
theorem w64 (n : Int) : IntKind.u64.wrap n = n % 18446744073709551616 := IntKind.wrap_u64 n
theorem and_low {x : Int} (h0 : 0 <= x) (h1 : x < 18446744073709551616) : Go.bits .and .u64 x 4294967295 = x % 4294967296 := by
 obtain ⟨n, rfl⟩ : ∃ n : Nat, x = n := ⟨x.toNat, by omega⟩
 have := bits_and_u64_nat n 4294967295 (by omega) (by omega)
 have e : n &&& 4294967295 = n % 4294967296 := Nat.and_two_pow_sub_one_eq_mod n 32
 rw [show (4294967295 : Int) = ((4294967295 : Nat) : Int) from rfl, this, e]
 omega
theorem or_sum {x y : Int} (h0 : 0 <= x) (h1 : x < 4294967296) (h2 : 0 <= y) (h3 : y < 4294967296) : Go.bits .or .u64 (IntKind.u64.wrap (x * 4294967296)) y = x * 4294967296 + y := by
 obtain ⟨n, rfl⟩ : ∃ n : Nat, x = n := ⟨x.toNat, by omega⟩
 obtain ⟨m, rfl⟩ : ∃ n : Nat, y = n := ⟨y.toNat, by omega⟩
 have e1 : IntKind.u64.wrap ((n : Int) * 4294967296) = ((4294967296 * n : Nat) : Int) := by rw [w64]; omega
 rw [e1, bits_or_u64_nat _ m (by omega) (by omega)]
 have : 4294967296 * n ||| m = 4294967296 * n + m := by
  have := Nat.two_pow_add_eq_or_of_lt (i := 32) (b := m) (by omega) n
  simpa using this.symm
 rw [this]
 omega

def val : List Int -> Nat
 | [] => 0
 | x :: l => (x % 4294967296).toNat + 4294967296 * val l

def lm (n : Nat) : List Int := if n = 0 then [] else ((n % 4294967296 : Nat) : Int) :: lm (n / 4294967296)
termination_by n
decreasing_by omega

def Ok (l : List Int) : Prop := ∀ x ∈ l, 0 <= x /\ x < 4294967296
def U (l : List Int) : Prop := ∀ x ∈ l, 0 <= x /\ x < 18446744073709551616
theorem Ok.U {l : List Int} (h : Ok l) : U l := fun x hx => by have := h x hx; omega
theorem Ok.nil : Ok [] := fun x hx => by cases hx
theorem Ok.cons {x : Int} {l : List Int} (h : 0 <= x /\ x < 4294967296) (hl : Ok l) : Ok (x :: l) := fun y hy => by
 rcases List.mem_cons.1 hy with rfl | hy
 ·exact h
 ·exact hl y hy
theorem Ok.append {a b : List Int} (ha : Ok a) (hb : Ok b) : Ok (a ++ b) := fun x hx => by
 rcases List.mem_append.1 hx with h | h
 ·exact ha x h
 ·exact hb x h
theorem Ok.take {a : List Int} (h : Ok a) (n : Nat) : Ok (a.take n) := fun x hx => h x (List.mem_of_mem_take hx)
theorem Ok.drop {a : List Int} (h : Ok a) (n : Nat) : Ok (a.drop n) := fun x hx => h x (List.mem_of_mem_drop hx)
theorem Ok.zeros (n : Nat) : Ok (List.replicate n 0) := fun x hx => by
 rw [(List.mem_replicate.1 hx).2]; omega
theorem Ok.tail {x : Int} {l : List Int} (h : Ok (x :: l)) : Ok l := fun y hy => h y (List.mem_cons_of_mem _ hy)
theorem Ok.head {x : Int} {l : List Int} (h : Ok (x :: l)) : 0 <= x /\ x < 4294967296 := h x List.mem_cons_self
theorem rd_ok {l : List Int} (h : Ok l) (i : Int) : 0 <= rd l i /\ rd l i < 4294967296 := by
 unfold rd
 rw [List.getD_eq_getElem?_getD]
 by_cases hi : i.toNat < l.length
 ·rw [List.getElem?_eq_getElem hi]
  exact h _ (List.getElem_mem hi)
 ·rw [List.getElem?_eq_none (by omega)]
  simp
theorem rd_U {l : List Int} (h : U l) (i : Int) : 0 <= rd l i /\ rd l i < 18446744073709551616 := by
 unfold rd
 rw [List.getD_eq_getElem?_getD]
 by_cases hi : i.toNat < l.length
 ·rw [List.getElem?_eq_getElem hi]
  exact h _ (List.getElem_mem hi)
 ·rw [List.getElem?_eq_none (by omega)]
  simp

theorem val_cons (x : Int) (l : List Int) : val (x :: l) = (x % 4294967296).toNat + 4294967296 * val l := rfl
theorem lm_zero : lm 0 = [] := by rw [lm]; simp
theorem lm_pos {n : Nat} (h : n ≠ 0) : lm n = ((n % 4294967296 : Nat) : Int) :: lm (n / 4294967296) := by
 conv => lhs; rw [lm]
 rw [if_neg h]
theorem val_lm (n : Nat) : val (lm n) = n := by
 induction n using Nat.strongRecOn with
 | _ n ih =>
  by_cases h : n = 0
  ·subst h; rw [lm_zero]; rfl
  ·rw [lm_pos h, val_cons, ih _ (by omega)]
   omega
theorem lm_ok (n : Nat) : Ok (lm n) := by
 induction n using Nat.strongRecOn with
 | _ n ih =>
  by_cases h : n = 0
  ·subst h; rw [lm_zero]; exact Ok.nil
  ·rw [lm_pos h]
   exact Ok.cons (by omega) (ih _ (by omega))
theorem val_append (a b : List Int) : val (a ++ b) = val a + 4294967296 ^ a.length * val b := by
 induction a with
 | nil => simp [val]
 | cons x a ih =>
  rw [List.cons_append, val_cons, val_cons, ih, List.length_cons, Nat.pow_succ, Nat.mul_add]
  have : 4294967296 * (4294967296 ^ a.length * val b) = 4294967296 ^ a.length * 4294967296 * val b := by
   rw [<- Nat.mul_assoc, Nat.mul_comm 4294967296 (4294967296 ^ a.length)]
  omega
theorem val_zeros (n : Nat) : val (List.replicate n 0) = 0 := by
 induction n with
 | zero => rfl
 | succ n ih => rw [List.replicate_succ, val_cons, ih]; rfl
theorem val_lt (l : List Int) : val l < 4294967296 ^ l.length := by
 induction l with
 | nil => simp [val]
 | cons x l ih =>
  rw [val_cons, List.length_cons, Nat.pow_succ]
  have h1 : (x % 4294967296).toNat < 4294967296 := by
   have := Int.emod_lt_of_pos x (b := 4294967296) (by decide)
   have := Int.emod_nonneg x (b := 4294967296) (by decide)
   omega
  have h2 : 4294967296 * (val l + 1) <= 4294967296 * 4294967296 ^ l.length := Nat.mul_le_mul_left _ ih
  rw [Nat.mul_comm (4294967296 ^ l.length)]
  omega
theorem val_single (x : Int) : val [x] = (x % 4294967296).toNat := by simp [val]
theorem val_snoc (l : List Int) (x : Int) : val (l ++ [x]) = val l + 4294967296 ^ l.length * (x % 4294967296).toNat := by rw [val_append, val_single]

theorem lm_val {l : List Int} (h : Ok l) (hl : ∀ x, l.getLast? = some x -> x ≠ 0) : lm (val l) = l := by
 induction l with
 | nil => exact lm_zero
 | cons x l ih =>
  have hx := h.head
  have e : x % 4294967296 = x := Int.emod_eq_of_lt hx.1 hx.2
  by_cases hl0 : l = []
  ·subst hl0
   have hx0 : x ≠ 0 := hl x rfl
   have hv : val [x] = x.toNat := by rw [val_single, e]
   rw [hv, lm_pos (by omega), show x.toNat / 4294967296 = 0 by omega, lm_zero, show x.toNat % 4294967296 = x.toNat by omega]
   congr 1
   omega
  ·have hl' : lm (val l) = l := ih h.tail (fun y hy => hl y (by rw [List.getLast?_cons, hy]; rfl))
   have hv0 : val l ≠ 0 := by
    intro h0
    rw [h0, lm_zero] at hl'
    exact hl0 hl'.symm
   have hv : val (x :: l) = x.toNat + 4294967296 * val l := by rw [val_cons, e]
   rw [hv, lm_pos (by omega), show (x.toNat + 4294967296 * val l) / 4294967296 = val l by omega, show (x.toNat + 4294967296 * val l) % 4294967296 = x.toNat by omega, hl']
   congr 1
   omega
def len (n : Nat) : Nat := (lm n).length
theorem len_zero : len 0 = 0 := by unfold len; rw [lm_zero]; rfl
theorem len_pos {n : Nat} (h : n ≠ 0) : len n = len (n / 4294967296) + 1 := by unfold len; rw [lm_pos h]; rfl
theorem len_eq_zero {n : Nat} : len n = 0 ↔ n = 0 := by
 constructor
 ·intro h
  by_cases h0 : n = 0
  ·exact h0
  ·rw [len_pos h0] at h; omega
 ·rintro rfl; exact len_zero
theorem lt_pow_len (n : Nat) : n < 4294967296 ^ len n := by
 have := val_lt (lm n)
 rwa [val_lm] at this
theorem pow_le_len {n : Nat} (h : n ≠ 0) : 4294967296 ^ (len n - 1) <= n := by
 induction n using Nat.strongRecOn with
 | _ n ih =>
  rw [len_pos h, Nat.add_sub_cancel]
  by_cases h2 : n / 4294967296 = 0
  ·rw [h2, len_zero]; omega
  ·have := ih _ (by omega) h2
   rw [len_pos h2, Nat.pow_succ]
   rw [len_pos h2, Nat.add_sub_cancel] at this
   omega
theorem len_le {n k : Nat} (h : n < 4294967296 ^ k) : len n <= k := by
 by_cases h0 : n = 0
 ·subst h0; rw [len_zero]; omega
 ·have h1 := pow_le_len h0
  have h2 : 4294967296 ^ (len n - 1) < 4294967296 ^ k := by omega
  have := (Nat.pow_lt_pow_iff_right (by decide : 1 < 4294967296)).1 h2
  omega
theorem len_mono {a b : Nat} (h : a <= b) : len a <= len b := len_le (Nat.lt_of_le_of_lt h (lt_pow_len b))
theorem len_add (a b : Nat) : len (a + b) <= max (len a) (len b) + 1 := by
 apply len_le
 have h1 := lt_pow_len a
 have h2 := lt_pow_len b
 have h3 : 4294967296 ^ len a <= 4294967296 ^ max (len a) (len b) := Nat.pow_le_pow_right (by decide) (Nat.le_max_left _ _)
 have h4 : 4294967296 ^ len b <= 4294967296 ^ max (len a) (len b) := Nat.pow_le_pow_right (by decide) (Nat.le_max_right _ _)
 rw [Nat.pow_succ]
 omega
theorem len_mul (a b : Nat) : len (a * b) <= len a + len b := by
 apply len_le
 rw [Nat.pow_add]
 have h1 := lt_pow_len a
 have h2 := lt_pow_len b
 have h0 : 0 < 4294967296 ^ len b := Nat.pow_pos (by decide)
 calc a * b <= a * 4294967296 ^ len b := Nat.mul_le_mul_left _ (by omega)
  _ < 4294967296 ^ len a * 4294967296 ^ len b := Nat.mul_lt_mul_of_pos_right h1 h0
theorem val_len (l : List Int) : len (val l) <= l.length := len_le (val_lt l)
theorem lm_length (n : Nat) : (lm n).length = len n := rfl
theorem lt_of_len_lt {a b : Nat} (h : len a < len b) : a < b := by
 have hb : b ≠ 0 := by
  rintro rfl
  rw [len_zero] at h
  omega
 have h1 := lt_pow_len a
 have h2 := pow_le_len hb
 have h3 : 4294967296 ^ len a <= 4294967296 ^ (len b - 1) := Nat.pow_le_pow_right (by decide) (by omega)
 omega

theorem rd_nat (l : List Int) (i : Nat) : rd l (i : Int) = l.getD i 0 := by simp [rd]
theorem take_succ_rd (l : List Int) (i : Nat) (h : i < l.length) : l.take (i + 1) = l.take i ++ [rd l i] := by
 rw [List.take_succ_eq_append_getElem h, rd_nat, List.getD_eq_getElem?_getD, List.getElem?_eq_getElem h]
 rfl
theorem drop_rd (l : List Int) (i : Nat) (h : i < l.length) : l.drop i = rd l i :: l.drop (i + 1) := by
 rw [rd_nat, List.getD_eq_getElem?_getD, List.getElem?_eq_getElem h]
 exact List.drop_eq_getElem_cons h
theorem val_take_succ (l : List Int) (i : Nat) (h : i < l.length) : val (l.take (i + 1)) = val (l.take i) + 4294967296 ^ i * (rd l i % 4294967296).toNat := by
 rw [take_succ_rd l i h, val_snoc, List.length_take, Nat.min_eq_left (Nat.le_of_lt h)]
theorem val_drop (l : List Int) (i : Nat) (h : i < l.length) : val (l.drop i) = (rd l i % 4294967296).toNat + 4294967296 * val (l.drop (i + 1)) := by
 rw [drop_rd l i h, val_cons]
theorem fill (done : List Int) (d : Nat) (v : Int) : (done ++ List.replicate (d + 1) (0 : Int)).set done.length v = done ++ [v] ++ List.replicate d 0 := by
 rw [List.set_append_right _ _ (Nat.le_refl _), Nat.sub_self, List.replicate_succ]
 simp
theorem fillr (done : List Int) (d : Nat) (v : Int) : (List.replicate (d + 1) (0 : Int) ++ done).set d v = List.replicate d 0 ++ v :: done := by
 rw [List.replicate_succ', List.append_assoc, List.set_append_right _ _ (by simp)]
 simp


end Go.DI.Th
namespace Go.DI.Th
open Go Go.RowKit Go.DI

theorem wr_succ (m : Nat) (h : m <= 1125899906842624) : wrap64 ((m : Int) + 1) = ((m + 1 : Nat) : Int) := by
 rw [wrap_id (by omega) (by omega)]; omega
theorem gt_at {α : Type} (d : α) (a : List α) (x : α) (b : List α) : gt d (a ++ x :: b) (a.length : Int) = x := by
 unfold gt
 rw [Int.toNat_natCast, List.getD_eq_getElem?_getD, List.getElem?_append_right (Nat.le_refl _), Nat.sub_self]
 rfl
theorem lt_at {α : Type} (a : List α) (x : α) (b : List α) : (a.length : Int) < ((a ++ x :: b).length : Int) := by
 rw [List.length_append, List.length_cons]; omega
theorem wr_at {α : Type} (a : List α) (x : α) (h : a.length <= 1125899906842624) : wrap64 ((a.length : Int) + 1) = ((a ++ [x]).length : Int) := by
 rw [wr_succ _ h, List.length_append, List.length_singleton]
theorem nn0 (n : Nat) : (0 : Int) <= (n : Int) := Int.natCast_nonneg n
theorem Ev.guard {P c : Prop} [Decidable P] [Decidable c] {f : Nat -> Option Bool} (hc : c -> ¬ P) (h : ¬ c -> Ev f (decide P)) : Ev (fun n => if c then some false else f n) (decide P) := by
 by_cases h1 : c
 ·rw [decide_eq_false (hc h1)]
  exact Ev.if_pos h1 (Ev.now _)
 ·exact Ev.if_neg h1 (h h1)
end Go.DI.Th
namespace Go.DI.Th
open Go Go.RowKit Go.DI

def toL (b : ByteArray) : List UInt8 := b.data.toList
def ofL (l : List UInt8) : ByteArray := ⟨l.toArray⟩
theorem toL_ofL (l : List UInt8) : toL (ofL l) = l := rfl
theorem toL_append (a b : ByteArray) : toL (a ++ b) = toL a ++ toL b := by unfold toL; simp
theorem toL_inj {a b : ByteArray} (h : toL a = toL b) : a = b := by
 unfold toL at h
 have := Array.toList_inj.1 h
 cases a; cases b
 simpa using this
theorem size_toL (b : ByteArray) : b.size = (toL b).length := (Array.length_toList (xs := b.data)).symm
theorem toL_extract (b : ByteArray) (i j : Nat) : toL (b.extract i j) = ((toL b).drop i).take (j - i) := by
 unfold toL
 rw [ByteArray.data_extract]
 simp
theorem bt_at {b : ByteArray} {p : List UInt8} {c : UInt8} {r : List UInt8} (h : toL b = p ++ c :: r) : bt b (p.length : Int) = (c.toNat : Int) := by
 have hl : p.length < b.size := by rw [size_toL, h, List.length_append, List.length_cons]; omega
 show btI b (p.length : Int) = _
 unfold btI
 rw [Int.toNat_natCast, dif_pos hl]
 have : b[p.length]'hl = c := by
  have h1 : b[p.length]'hl = (toL b)[p.length]'(by rw [<- size_toL]; exact hl) := rfl
  rw [h1]
  simp [h]
 rw [this]
theorem sz_at {b : ByteArray} {p : List UInt8} {c : UInt8} {r : List UInt8} (h : toL b = p ++ c :: r) : (p.length : Int) < (b.size : Int) := by
 rw [size_toL, h, List.length_append, List.length_cons]; omega
theorem sz_end {b : ByteArray} {p : List UInt8} (h : toL b = p) : b.size = p.length := by rw [size_toL, h]
theorem ext_at {b : ByteArray} {p w r : List UInt8} (h : toL b = p ++ (w ++ r)) : b.extract p.length (p.length + w.length) = ofL w := by
 apply toL_inj
 rw [toL_extract, h, toL_ofL]
 simp
theorem Ev.succ {α : Type} {g : Nat -> Option α} {r : α} (h : Ev (fun k => g (k + 1)) r) : Ev g r := Ev.step (fun _ => rfl) h
end Go.DI.Th
namespace Go.DI.Th
open Go Go.RowKit Go.DI

theorem limb_eq (l : List Int) (i : Int) (h : 0 <= i) : nat_limb.f l i = some (rd l i) := by
 unfold nat_limb.f
 by_cases h1 : i < (l.length : Int)
 ·rw [if_pos h1, if_pos h]
 ·rw [if_neg h1]
  unfold rd
  rw [List.getD_eq_getElem?_getD, List.getElem?_eq_none (by omega)]
  rfl
theorem rd_beyond (l : List Int) (i : Int) (h : (l.length : Int) <= i) : rd l i = 0 := by
 unfold rd
 rw [List.getD_eq_getElem?_getD, List.getElem?_eq_none (by omega)]
 rfl

theorem trim_from (l : List Int) (hl : Ok l) (hn : l.length <= 9223372036854775807) : ∀ n : Nat, n <= l.length -> val l = val (l.take n) -> Ev (fun k => nat_trim.l0 k l (n : Int)) (lm (val l)) := by
 intro n
 induction n with
 | zero =>
  intro _ hv
  refine Ev.step (fun k => ?_) (Ev.now _)
  simp only [nat_trim.l0]
  rw [if_neg (by omega), if_pos (by simp), hv]
  simp [val, lm_zero]
 | succ m ih =>
  intro hm hv
  have e : wrap64 (((m + 1 : Nat) : Int) - 1) = (m : Int) := by rw [wrap_id (by omega) (by omega)]; omega
  have hr := rd_ok hl (m : Int)
  by_cases h0 : rd l (m : Int) = 0
  ·refine Ev.step (fun k => ?_) (ih (by omega) ?_)
   ·simp only [nat_trim.l0]
    rw [if_pos (by omega), e, if_pos (by omega), if_pos (by omega), if_pos h0]
   ·rw [hv, val_take_succ l m (by omega), h0]
    simp
  ·refine Ev.step (fun k => ?_) (Ev.now _)
   simp only [nat_trim.l0]
   rw [if_pos (by omega), e, if_pos (by omega), if_pos (by omega), if_neg h0, if_neg (by omega), if_pos (by omega), if_pos (by omega)]
   have e2 : (((m + 1 : Nat) : Int)).toNat = m + 1 := by omega
   rw [e2, hv, lm_val (hl.take (m + 1))]
   intro x hx
   rw [take_succ_rd l m (by omega), List.getLast?_concat] at hx
   cases hx
   exact h0
theorem trim_ev (l : List Int) (hl : Ok l) (hn : l.length <= 9223372036854775807) : Ev (fun k => nat_trim.f k l) (lm (val l)) :=
 trim_from l hl hn l.length (Nat.le_refl _) (by rw [List.take_length])

theorem trimM_l0 (l : List Int) : ∀ (k : Nat) (n : Int), nat_trimM.l0 k l n = nat_trim.l0 k l n
 | 0, _ => rfl
 | k + 1, n => by
  simp only [nat_trimM.l0, nat_trim.l0, trimM_l0 l k]
theorem trimM_eq (k : Nat) (l : List Int) : nat_trimM.f k l = nat_trim.f k l := trimM_l0 l k _

def low (l : List Int) : List Int := l.map (· % 4294967296)
theorem low_ok (l : List Int) : Ok (low l) := by
 intro x hx
 obtain ⟨y, _, rfl⟩ := List.mem_map.1 hx
 exact ⟨Int.emod_nonneg _ (by decide), Int.emod_lt_of_pos _ (by decide)⟩
theorem low_val (l : List Int) : val (low l) = val l := by
 induction l with
 | nil => rfl
 | cons x l ih =>
  show val (x % 4294967296 :: low l) = _
  rw [val_cons, val_cons, ih, Int.emod_emod_of_dvd _ (Int.dvd_refl _)]
theorem low_take_succ (l : List Int) (i : Nat) (h : i < l.length) : low (l.take (i + 1)) = low (l.take i) ++ [rd l i % 4294967296] := by
 rw [take_succ_rd l i h, low, low, List.map_append]
 rfl
theorem low_length (l : List Int) : (low l).length = l.length := List.length_map _
theorem clean_loop (l : List Int) (hl : U l) (hn : l.length <= 35184372088832) (d : Nat) : ∀ i : Nat, i + d = l.length ->
 Ev (fun k => nat_Clean.l0 k (low (l.take i) ++ List.replicate d 0) l (l.length : Int) (i : Int)) (lm (val l)) := by
 induction d with
 | zero =>
  intro i hi
  obtain rfl : i = l.length := by omega
  refine Ev.step (f := fun k => (nat_trim.f k (low l)).bind fun t => some t) (fun k => ?_) (Ev.bind ?_ (Ev.now _))
  ·simp only [nat_Clean.l0]
   rw [if_neg (by omega), List.take_length]
   simp
  ·have := trim_ev (low l) (low_ok l) (by rw [low_length]; omega)
   rwa [low_val] at this
 | succ d ih =>
  intro i hi
  refine Ev.step (fun k => ?_) (ih (i + 1) (by omega))
  have hr := rd_U hl (i : Int)
  have hlen : (low (l.take i)).length = i := by rw [low_length, List.length_take]; omega
  simp only [nat_Clean.l0]
  rw [if_pos (by omega), if_pos (by omega), if_pos (by omega), if_pos (by rw [List.length_append, hlen, List.length_replicate]; omega), and_low hr.1 hr.2, wrap_id (by omega) (by omega), low_take_succ l i (by omega)]
  have := fill (low (l.take i)) d (rd l (i : Int) % 4294967296)
  rw [hlen] at this
  rw [show ((i : Int)).toNat = i by omega, this]
  rfl
theorem clean_ev (l : List Int) (hl : U l) (hn : l.length <= 35184372088832) : Ev (fun k => nat_Clean.f k l) (lm (val l)) := by
 refine Ev.congr (fun k => ?_) (clean_loop l hl hn l.length 0 (by omega))
 unfold nat_Clean.f
 rw [if_pos (by omega), show ((l.length : Int)).toNat = l.length by omega]
 rfl
theorem of_ev (a : Int) (h0 : 0 <= a) (h1 : a < 18446744073709551616) : Ev (fun k => nat_Of.f k a) (lm a.toNat) := by
 have hok : Ok [a % 4294967296, a / 4294967296] := by
  intro x hx
  simp only [List.mem_cons, List.not_mem_nil, or_false] at hx
  rcases hx with rfl | rfl <;> omega
 have h := trim_ev _ hok (by simp)
 have hv : val [a % 4294967296, a / 4294967296] = a.toNat := by simp only [val]; omega
 rw [hv] at h
 refine Ev.congr (f := fun k => (nat_trim.f k [a % 4294967296, a / 4294967296]).bind fun t => some t) (fun k => ?_) (Ev.bind h (Ev.now _))
 unfold nat_Of.f
 rw [and_low h0 h1]

def cmp (a b : Nat) : Int := if a < b then -1 else if b < a then 1 else 0
theorem split_at (l : List Int) (i : Nat) : val l = val (l.take i) + 4294967296 ^ (l.take i).length * val (l.drop i) := by
 conv => lhs; rw [<- List.take_append_drop i l]
 exact val_append _ _
theorem less_of_drop {a b : List Int} {i : Nat} (hl : a.length = b.length) (hi : i <= a.length) (h : val (a.drop i) < val (b.drop i)) : val a < val b := by
 rw [split_at a i, split_at b i, List.length_take, List.length_take, <- hl, Nat.min_eq_left hi]
 have h1 := val_lt (a.take i)
 rw [List.length_take, Nat.min_eq_left hi] at h1
 have h2 : 4294967296 ^ i * (val (a.drop i) + 1) <= 4294967296 ^ i * val (b.drop i) := Nat.mul_le_mul_left _ h
 rw [Nat.mul_add] at h2
 omega
theorem order_loop (a b : List Int) (ha : Ok a) (hb : Ok b) (hl : a.length = b.length) (hn : a.length <= 9223372036854775807) : ∀ n : Nat, n <= a.length -> val (a.drop n) = val (b.drop n) ->
 Ev (fun k => nat_order.l0 k a b ((n : Int) - 1)) (cmp (val a) (val b)) := by
 intro n
 induction n with
 | zero =>
  intro _ hv
  refine Ev.step (fun k => ?_) (Ev.now _)
  simp only [nat_order.l0]
  simp only [List.drop_zero] at hv
  rw [if_neg (by omega)]
  unfold cmp
  rw [if_neg (by omega), if_neg (by omega)]
 | succ m ih =>
  intro hm hv
  have e : ((m + 1 : Nat) : Int) - 1 = (m : Int) := by omega
  have ra := rd_ok ha (m : Int)
  have rb := rd_ok hb (m : Int)
  have da := val_drop a m (by omega)
  have db := val_drop b m (by omega)
  rw [Int.emod_eq_of_lt ra.1 ra.2] at da
  rw [Int.emod_eq_of_lt rb.1 rb.2] at db
  by_cases h1 : rd a (m : Int) < rd b (m : Int)
  ·refine Ev.step (fun k => ?_) (Ev.now _)
   simp only [nat_order.l0]
   rw [e, if_pos (by omega), if_pos (by omega), if_pos (by omega), if_pos h1]
   unfold cmp
   rw [if_pos (less_of_drop hl (i := m) (by omega) (by omega))]
  ·by_cases h2 : rd a (m : Int) > rd b (m : Int)
   ·refine Ev.step (fun k => ?_) (Ev.now _)
    simp only [nat_order.l0]
    rw [e, if_pos (by omega), if_pos (by omega), if_pos (by omega), if_neg h1, if_pos h2]
    have := less_of_drop hl.symm (i := m) (by omega) (by omega)
    unfold cmp
    rw [if_neg (by omega), if_pos this]
   ·refine Ev.step (fun k => ?_) (ih (by omega) (by omega))
    simp only [nat_order.l0]
    rw [e, if_pos (by omega), if_pos (by omega), if_pos (by omega), if_neg h1, if_neg h2, wrap_id (by omega) (by omega)]
theorem order_ev (a b : Nat) (ha : len a <= 35184372088832) (_hb : len b <= 35184372088832) : Ev (fun k => nat_order.f k (lm a) (lm b)) (cmp a b) := by
 by_cases h1 : (lm a).length < (lm b).length
 ·refine Ev.congr (fun k => ?_) (Ev.now _)
  unfold nat_order.f
  rw [if_pos (by omega)]
  unfold cmp
  rw [if_pos (lt_of_len_lt h1)]
 ·by_cases h2 : (lm b).length < (lm a).length
  ·refine Ev.congr (fun k => ?_) (Ev.now _)
   unfold nat_order.f
   rw [if_neg (by omega), if_pos (by omega)]
   have := lt_of_len_lt h2
   unfold cmp
   rw [if_neg (by omega), if_pos this]
  ·have hl : (lm a).length = (lm b).length := by omega
   have h := order_loop (lm a) (lm b) (lm_ok a) (lm_ok b) hl (by rw [lm_length]; omega) (lm a).length (Nat.le_refl _) (by rw [List.drop_length, hl, List.drop_length])
   rw [val_lm, val_lm] at h
   refine Ev.congr (fun k => ?_) h
   unfold nat_order.f
   rw [if_neg (by omega), if_neg (by omega), wrap_id (by omega) (by rw [lm_length]; omega)]
theorem cmp_ev (a b : List Int) (ha : U a) (hb : U b) (hla : a.length <= 35184372088832) (hlb : b.length <= 35184372088832) : Ev (fun k => nat_Cmp.f k a b) (cmp (val a) (val b)) := by
 refine Ev.bind (clean_ev a ha hla) (Ev.bind (clean_ev b hb hlb) (Ev.bind (order_ev _ _ ?_ ?_) (Ev.now _)))
 ·exact Nat.le_trans (val_len a) hla
 ·exact Nat.le_trans (val_len b) hlb

theorem val_take_rd (l : List Int) (hl : Ok l) (i : Nat) : (val (l.take (i + 1)) : Int) = val (l.take i) + 4294967296 ^ i * rd l i := by
 by_cases h : i < l.length
 ·have r := rd_ok hl (i : Int)
  have := val_take_succ l i h
  rw [Int.emod_eq_of_lt r.1 r.2] at this
  rw [this]
  have e : ((rd l (i : Int)).toNat : Int) = rd l i := by omega
  rw [Int.natCast_add, Int.natCast_mul, e, Int.natCast_pow]
  rfl
 ·rw [List.take_of_length_le (by omega), List.take_of_length_le (by omega), rd_beyond l i (by omega)]
  simp
theorem val_snoc_int (l : List Int) (x : Int) (hx : 0 <= x /\ x < 4294967296) : (val (l ++ [x]) : Int) = val l + 4294967296 ^ l.length * x := by
 rw [val_snoc, Int.emod_eq_of_lt hx.1 hx.2]
 have e : (x.toNat : Int) = x := by omega
 rw [Int.natCast_add, Int.natCast_mul, e, Int.natCast_pow]
 rfl

theorem minus_loop (a b : List Int) (ha : Ok a) (hb : Ok b) (hn : a.length <= 35184372088832) (hle : val b <= val a) (d : Nat) : ∀ (done : List Int) (debt : Int), Ok done -> done.length + d = a.length -> (debt = 0 \/ debt = 1) ->
 (val (a.take done.length) : Int) + 4294967296 ^ done.length * debt = val done + val (b.take done.length) ->
 Ev (fun k => nat_minus.l0 k a b (done ++ List.replicate d 0) debt (a.length : Int) (done.length : Int)) (lm (val a - val b)) := by
 induction d with
 | zero =>
  intro done debt hd hl hdebt hv
  have hl' : done.length = a.length := by omega
  have h1 := val_lt done
  have h2 := val_lt b
  rw [hl', List.take_length] at hv
  have hb2 : val (b.take a.length) = val b := by
   have h3 := split_at b a.length
   by_cases hba : b.length <= a.length
   ·rw [List.take_of_length_le hba]
   ·have h4 : (b.take a.length).length = a.length := by rw [List.length_take]; omega
    rw [h4] at h3
    have h5 := val_lt a
    by_cases h6 : val (b.drop a.length) = 0
    ·rw [h6] at h3; omega
    ·have : 4294967296 ^ a.length * 1 <= 4294967296 ^ a.length * val (b.drop a.length) := Nat.mul_le_mul_left _ (by omega)
     omega
  rw [hb2] at hv
  have hz : val done = val a - val b := by
   rcases hdebt with rfl | rfl
   ·simp at hv
    omega
   ·exfalso
    rw [hl'] at h1
    have e : (4294967296 : Int) ^ a.length = ((4294967296 ^ a.length : Nat) : Int) := by rw [Int.natCast_pow]; rfl
    rw [Int.mul_one, e] at hv
    omega
  refine Ev.step (f := fun k => (nat_trim.f k done).bind fun t => some t) (fun k => ?_) (Ev.bind ?_ (Ev.now _))
  ·simp only [nat_minus.l0]
   rw [if_neg (by omega)]
   simp
  ·have := trim_ev done hd (by omega)
   rwa [hz] at this
 | succ d ih =>
  intro done debt hd hl hdebt hv
  have ra := rd_ok ha (done.length : Int)
  have rb := rd_ok hb (done.length : Int)
  have va := val_take_rd a ha done.length
  have vb := val_take_rd b hb done.length
  have hx : ∃ (y nd : Int), (0 <= y /\ y < 4294967296) /\ (nd = 0 \/ nd = 1) /\ rd a done.length + 4294967296 * nd = y + rd b done.length + debt /\
   Go.bits .and .u64 (IntKind.u64.wrap ((IntKind.u64.wrap ((IntKind.u64.wrap (4294967296 + (rd a done.length))) - (rd b done.length))) - debt)) 4294967295 = y /\
   IntKind.u64.wrap (1 - ((IntKind.u64.wrap ((IntKind.u64.wrap ((IntKind.u64.wrap (4294967296 + (rd a done.length))) - (rd b done.length))) - debt)) / 4294967296)) = nd := by
   have e : IntKind.u64.wrap ((IntKind.u64.wrap ((IntKind.u64.wrap (4294967296 + (rd a done.length))) - (rd b done.length))) - debt) = 4294967296 + rd a done.length - rd b done.length - debt := by
    simp only [w64]
    omega
   rw [e, and_low (by omega) (by omega)]
   simp only [w64]
   refine ⟨_, 1 - (4294967296 + rd a done.length - rd b done.length - debt) / 4294967296, ⟨Int.emod_nonneg _ (by decide), Int.emod_lt_of_pos _ (by decide)⟩, ?_, ?_, rfl, ?_⟩ <;> omega
  obtain ⟨y, nd, hy, hnd, hsum, e1, e2⟩ := hx
  refine Ev.step (fun k => ?_) (ih (done ++ [y]) nd (hd.append (Ok.cons hy Ok.nil)) (by simp; omega) hnd ?_)
  ·simp only [nat_minus.l0]
   rw [if_pos (by omega), if_pos (by omega), if_pos (by omega), limb_eq b _ (by omega)]
   simp only [Option.bind_some]
   rw [if_pos (by simp; omega), e1, e2, wrap_id (by omega) (by omega), show ((done.length : Int)).toNat = done.length by omega, fill]
   simp
  ·rw [List.length_append, List.length_singleton, va, vb, val_snoc_int done y hy, Int.pow_succ]
   have : (4294967296 : Int) ^ done.length * (rd a done.length + 4294967296 * nd) = 4294967296 ^ done.length * (y + rd b done.length + debt) := by rw [hsum]
   simp only [Int.mul_add] at this
   rw [<- Int.mul_assoc] at this
   omega
theorem minus_ev (a b : List Int) (ha : Ok a) (hb : Ok b) (hn : a.length <= 35184372088832) (hle : val b <= val a) : Ev (fun k => nat_minus.f k a b) (lm (val a - val b)) := by
 have h := minus_loop a b ha hb hn hle a.length [] 0 Ok.nil (by simp) (Or.inl rfl) (by simp [val])
 refine Ev.congr (fun k => ?_) h
 unfold nat_minus.f
 rw [if_pos (by omega), show ((a.length : Int)).toNat = a.length by omega]
 simp only [Option.bind_some, List.length_replicate]
 rfl

theorem small_loop (a : List Int) (ha : Ok a) (hn : a.length <= 35184372088832) (dv : Int) (h0 : 0 < dv) (h1 : dv < 4294967296) : ∀ (n : Nat) (done : List Int) (rest : Int), Ok done -> done.length + n = a.length -> 0 <= rest -> rest < dv ->
 (val (a.drop n) : Int) = dv * val done + rest ->
 Ev (fun k => nat_small.l0 k a dv (List.replicate n 0 ++ done) rest ((n : Int) - 1)) (lm (val a / dv.toNat), ((val a % dv.toNat : Nat) : Int)) := by
 intro n
 induction n with
 | zero =>
  intro done rest hd hl hr0 hr1 hv
  obtain ⟨dn, rfl⟩ : ∃ m : Nat, dv = m := ⟨dv.toNat, by omega⟩
  obtain ⟨rn, rfl⟩ : ∃ m : Nat, rest = m := ⟨rest.toNat, by omega⟩
  rw [List.drop_zero] at hv
  have hv' : val a = dn * val done + rn := by omega
  have hq : val a / dn = val done := by
   rw [hv', Nat.mul_add_div (by omega), Nat.div_eq_of_lt (by omega)]
   omega
  have hm : val a % dn = rn := by rw [hv', Nat.mul_add_mod, Nat.mod_eq_of_lt (by omega)]
  rw [Int.toNat_natCast, hq, hm]
  refine Ev.step (f := fun k => (nat_trim.f k done).bind fun t => some (t, (rn : Int))) (fun k => ?_) (Ev.bind (trim_ev done hd (by omega)) (Ev.now _))
  simp only [nat_small.l0]
  rw [if_neg (by omega)]
  rfl
 | succ m ih =>
  intro done rest hd hl hr0 hr1 hv
  have ra := rd_ok ha (m : Int)
  have da := val_drop a m (by omega)
  rw [Int.emod_eq_of_lt ra.1 ra.2] at da
  have e : ((m + 1 : Nat) : Int) - 1 = (m : Int) := by omega
  have eo := or_sum (x := rest) (y := rd a m) hr0 (by omega) ra.1 ra.2
  have hx0 : 0 <= rest * 4294967296 + rd a m := by omega
  have hq1 : (rest * 4294967296 + rd a m) / dv < 4294967296 := by
   apply Int.ediv_lt_of_lt_mul h0
   have : (rest + 1) * 4294967296 <= dv * 4294967296 := Int.mul_le_mul_of_nonneg_right (by omega) (by decide)
   omega
  have hq0 : 0 <= (rest * 4294967296 + rd a m) / dv := Int.ediv_nonneg hx0 (by omega)
  have ht : Int.tdiv (rest * 4294967296 + rd a m) dv = (rest * 4294967296 + rd a m) / dv := Int.tdiv_eq_ediv_of_nonneg hx0
  have hm : Int.tmod (rest * 4294967296 + rd a m) dv = (rest * 4294967296 + rd a m) % dv := Int.tmod_eq_emod_of_nonneg hx0
  have hs := Int.mul_ediv_add_emod (rest * 4294967296 + rd a m) dv
  refine Ev.step (fun k => ?_) (ih ((rest * 4294967296 + rd a m) / dv :: done) ((rest * 4294967296 + rd a m) % dv) (Ok.cons ⟨hq0, hq1⟩ hd) (by simp; omega) (Int.emod_nonneg _ (by omega)) (Int.emod_lt_of_pos _ h0) ?_)
  ·simp only [nat_small.l0]
   rw [e, if_pos (by omega), if_pos (by omega), if_neg (by omega), if_pos (by simp; omega), eo, ht, hm, wrap_id (by omega) (by omega), w64, Int.emod_eq_of_lt hq0 (by omega), show ((m : Int)).toNat = m by omega, fillr]
  ·rw [da, val_cons]
   rw [Int.emod_eq_of_lt hq0 hq1]
   have : dv * (((rest * 4294967296 + rd a m) / dv) + 4294967296 * val done) = dv * ((rest * 4294967296 + rd a m) / dv) + 4294967296 * (dv * val done) := by rw [Int.mul_add, <- Int.mul_assoc, Int.mul_comm dv 4294967296, Int.mul_assoc]
   have e3 : (((((rest * 4294967296 + rd a m) / dv).toNat + 4294967296 * val done : Nat)) : Int) = ((rest * 4294967296 + rd a m) / dv) + 4294967296 * val done := by omega
   rw [e3, this]
   omega
theorem small_ev (a : List Int) (ha : Ok a) (hn : a.length <= 35184372088832) (d : Nat) (h0 : 0 < d) (h1 : d < 4294967296) : Ev (fun k => nat_small.f k a (d : Int)) (lm (val a / d), ((val a % d : Nat) : Int)) := by
 have h := small_loop a ha hn (d : Int) (by omega) (by omega) a.length [] 0 Ok.nil (by simp) (by omega) (by omega) (by simp [val])
 rw [Int.toNat_natCast] at h
 refine Ev.congr (fun k => ?_) h
 unfold nat_small.f
 rw [if_pos (by omega), show ((a.length : Int)).toNat = a.length by omega, wrap_id (by omega) (by omega), List.append_nil]


end Go.DI.Th
namespace Go.DI.Th
open Go Go.RowKit Go.DI

theorem rd_at (a : List Int) (x : Int) (b : List Int) : rd (a ++ x :: b) (a.length : Int) = x := by
 rw [rd_nat, List.getD_eq_getElem?_getD, List.getElem?_append_right (Nat.le_refl _), Nat.sub_self]
 rfl
theorem set_at (a : List Int) (x : Int) (b : List Int) (y : Int) : (a ++ x :: b).set a.length y = a ++ y :: b := by
 rw [List.set_append_right _ _ (Nat.le_refl _), Nat.sub_self]
 rfl
theorem val_append_int (a b : List Int) : (val (a ++ b) : Int) = val a + 4294967296 ^ a.length * val b := by
 rw [val_append, Int.natCast_add, Int.natCast_mul, Int.natCast_pow]
 rfl
theorem ar1 (p vD c vM x vB m b y z : Int) (hv : vD + p * c = vM + x * vB) (hx : 4294967296 * z + y = c + m + x * b) :
 vD + p * y + p * 4294967296 * z = vM + p * m + x * (vB + p * b) := by grind
theorem ar2 (p q vL vD c vM x vB vP vA : Int) (h1 : vP = vL + p * vM) (hv : vP = vA * vB) (h2 : vD + q * c = vM + x * vB) : vL + p * vD + p * q * c = (vA + p * x) * vB := by grind
theorem ar3 (p t vD c vA x y z : Nat) (hv : vD + p * c = vA * t) (hs : y + 4294967296 * z = c + x * t) : vD + p * y + p * 4294967296 * z = (vA + p * x) * t := by grind
theorem ar4 (p q r : Nat) : p * (4294967296 * (q * r)) = (p * q) * (4294967296 * r) := by grind
theorem mul_inner (a b : List Int) (ha : Ok a) (hb : Ok b) (hn : a.length + b.length <= 35184372088832) (i : Nat) (hi : i < a.length) (L mid : List Int) (hL : L.length = i) (hm : Ok mid) (hml : mid.length = b.length) (Z : List Int) (hZ : Z.length = a.length - i)
 (r : List Int)
 (cont : ∀ D c, Ok D -> (0 <= c /\ c < 4294967296) -> D.length = b.length -> (val D : Int) + 4294967296 ^ b.length * c = val mid + rd a i * val b ->
  Ev (fun k => nat_Mul.l0 k b ((L ++ D ++ Z).set (i + b.length) c) a (a.length : Int) ((i : Int) + 1)) r) (d : Nat) :
 ∀ (D : List Int) (c : Int), Ok D -> (0 <= c /\ c < 4294967296) -> D.length + d = b.length -> (val D : Int) + 4294967296 ^ D.length * c = val (mid.take D.length) + rd a i * val (b.take D.length) ->
 Ev (fun k => nat_Mul.l1 k b (L ++ D ++ mid.drop D.length ++ Z) i (rd a i) c a (a.length : Int) (i : Int) b (b.length : Int) (D.length : Int)) r := by
 have ra := rd_ok ha (i : Int)
 induction d with
 | zero =>
  intro D c hD hc hl hv
  have hl' : D.length = b.length := by omega
  have h := cont D c hD hc hl' (by
   rw [hl', List.take_of_length_le (by omega), List.take_length] at hv
   exact hv)
  refine Ev.step (fun k => ?_) h
  simp only [nat_Mul.l1]
  have hlen : (L ++ D ++ mid.drop D.length ++ Z).length = i + b.length + (a.length - i) := by simp; omega
  rw [if_neg (by omega), wrap_id (by omega) (by omega), if_pos (by omega), if_pos (by rw [hlen]; omega), wrap_id (by omega) (by omega)]
  rw [List.drop_of_length_le (by omega), List.append_nil, show ((i : Int) + (b.length : Int)).toNat = i + b.length by omega]
 | succ d ih =>
  intro D c hD hc hl hv
  have rb := rd_ok hb (D.length : Int)
  have rm := rd_ok hm (D.length : Int)
  have vb := val_take_rd b hb D.length
  have vm := val_take_rd mid hm D.length
  have hdrop := drop_rd mid D.length (by omega)
  have hsum0 : 0 <= rd a i * rd b D.length := Int.mul_nonneg ra.1 rb.1
  have hsum1 : rd a i * rd b D.length <= 4294967295 * 4294967295 := Int.mul_le_mul (by omega) (by omega) rb.1 (by omega)
  have hread : rd (L ++ D ++ mid.drop D.length ++ Z) ((i : Int) + (D.length : Int)) = rd mid D.length := by
   rw [hdrop, List.append_assoc, List.cons_append]
   have := rd_at (L ++ D) (rd mid D.length) (mid.drop (D.length + 1) ++ Z)
   rw [List.length_append, hL] at this
   rw [show (i : Int) + (D.length : Int) = ((i + D.length : Nat) : Int) by omega]
   exact this
  have hset : ∀ y, (L ++ D ++ mid.drop D.length ++ Z).set (i + D.length) y = L ++ (D ++ [y]) ++ mid.drop (D ++ [y]).length ++ Z := by
   intro y
   rw [hdrop, List.append_assoc, List.cons_append]
   have := set_at (L ++ D) (rd mid D.length) (mid.drop (D.length + 1) ++ Z) y
   rw [List.length_append, hL] at this
   rw [this]
   simp
  have hlen : (L ++ D ++ mid.drop D.length ++ Z).length = i + b.length + (a.length - i) := by simp; omega
  have et : IntKind.u64.wrap (c + (IntKind.u64.wrap (rd mid D.length + (IntKind.u64.wrap (rd a i * rd b D.length))))) = c + rd mid D.length + rd a i * rd b D.length := by
   simp only [w64]
   omega
  refine Ev.step (fun k => ?_) (ih (D ++ [(c + rd mid D.length + rd a i * rd b D.length) % 4294967296]) ((c + rd mid D.length + rd a i * rd b D.length) / 4294967296) (hD.append (Ok.cons ⟨Int.emod_nonneg _ (by decide), Int.emod_lt_of_pos _ (by decide)⟩ Ok.nil)) (by omega) (by simp; omega) ?_)
  ·simp only [nat_Mul.l1]
   rw [if_pos (by omega), if_pos (by omega), if_pos (by omega), wrap_id (i := (i : Int) + (D.length : Int)) (by omega) (by omega), if_pos (by omega), if_pos (by rw [hlen]; omega), wrap_id (i := (D.length : Int) + 1) (by omega) (by omega), hread, et, and_low (by omega) (by omega), show ((i : Int) + (D.length : Int)).toNat = i + D.length by omega, hset]
   simp
  ·rw [List.length_append, List.length_singleton, vb, vm, val_snoc_int D _ ⟨Int.emod_nonneg _ (by decide), Int.emod_lt_of_pos _ (by decide)⟩, Int.pow_succ]
   have hx := Int.mul_ediv_add_emod (c + rd mid D.length + rd a i * rd b D.length) 4294967296
   exact ar1 _ _ _ _ _ _ _ _ _ _ hv hx

theorem mul_outer (a b : List Int) (ha : Ok a) (hb : Ok b) (hn : a.length + b.length <= 35184372088832) (d : Nat) : ∀ (i : Nat) (P : List Int), Ok P -> i + d = a.length -> P.length = i + b.length -> (val P : Int) = val (a.take i) * val b ->
 Ev (fun k => nat_Mul.l0 k b (P ++ List.replicate d 0) a (a.length : Int) (i : Int)) (lm (val a * val b)) := by
 induction d with
 | zero =>
  intro i P hP hi hl hv
  obtain rfl : i = a.length := by omega
  rw [List.take_length] at hv
  have hv' : val P = val a * val b := by
   have : ((val P : Nat) : Int) = ((val a * val b : Nat) : Int) := by rw [hv, Int.natCast_mul]
   omega
  refine Ev.step (f := fun k => (nat_trim.f k P).bind fun t => some t) (fun k => ?_) (Ev.bind ?_ (Ev.now _))
  ·simp only [nat_Mul.l0]
   rw [if_neg (by omega)]
   simp
  ·have := trim_ev P hP (by omega)
   rwa [hv'] at this
 | succ d ih =>
  intro i P hP hi hl hv
  have ra := rd_ok ha (i : Int)
  have va := val_take_rd a ha i
  have hmid : Ok (P.drop i) := hP.drop i
  have hsplit := val_append_int (P.take i) (P.drop i)
  rw [List.take_append_drop, List.length_take, Nat.min_eq_left (by omega)] at hsplit
  refine Ev.step (f := fun k => nat_Mul.l1 k b (P ++ List.replicate (d + 1) 0) i (rd a i) 0 a (a.length : Int) (i : Int) b (b.length : Int) 0) (fun k => ?_) ?_
  ·simp only [nat_Mul.l0]
   rw [if_pos (by omega), if_pos (by omega), if_pos (by omega)]
  ·have h := mul_inner a b ha hb hn i (by omega) (P.take i) (P.drop i) (by rw [List.length_take]; omega) hmid (by rw [List.length_drop]; omega) (List.replicate (d + 1) 0) (by rw [List.length_replicate]; omega) (lm (val a * val b)) (by
    intro D c hD hc hDl hDv
    have hlen : (P.take i ++ D).length = i + b.length := by rw [List.length_append, List.length_take, hDl]; omega
    have := ih (i + 1) (P.take i ++ D ++ [c]) (((hP.take i).append hD).append (Ok.cons hc Ok.nil)) (by omega) (by rw [List.length_append, hlen]; simp; omega) (by
     rw [val_snoc_int _ c hc, hlen, val_append_int, List.length_take, Nat.min_eq_left (by omega), va, Int.pow_add]
     exact ar2 _ _ _ _ _ _ _ _ _ _ hsplit hv hDv)
    refine Ev.congr (fun k => ?_) this
    have hs := fill (P.take i ++ D) d c
    rw [hlen] at hs
    rw [hs]
    rfl) b.length [] 0 Ok.nil (by omega) (by simp) (by simp [val])
   refine Ev.congr (fun k => ?_) h
   simp
theorem mulL_ev (a b : List Int) (ha : Ok a) (hb : Ok b) (hn : a.length + b.length <= 35184372088832) :
 Ev (fun k => nat_Mul.l0 k b (List.replicate (a.length + b.length) 0) a (a.length : Int) 0) (lm (val a * val b)) := by
 have h := mul_outer a b ha hb hn a.length 0 (List.replicate b.length 0) (Ok.zeros _) (by omega) (by simp) (by rw [val_zeros]; simp [val])
 refine Ev.congr (fun k => ?_) h
 rw [List.replicate_append_replicate, Nat.add_comm]
 rfl
theorem mul_ev (a b : List Int) (ha : U a) (hb : U b) (hn : a.length + b.length <= 35184372088832) : Ev (fun k => nat_Mul.f k a b) (lm (val a * val b)) := by
 have h := mulL_ev (lm (val a)) (lm (val b)) (lm_ok _) (lm_ok _) (by
  have := val_len a
  have := val_len b
  rw [lm_length, lm_length]; omega)
 rw [val_lm, val_lm] at h
 refine Ev.bind (clean_ev a ha (by omega)) (Ev.bind (clean_ev b hb (by omega)) ?_)
 have h1 := val_len a
 have h2 := val_len b
 refine Ev.congr (fun k => ?_) h
 have e : wrap64 (((lm (val a)).length : Int) + ((lm (val b)).length : Int)) = (((lm (val a)).length + (lm (val b)).length : Nat) : Int) := by
  rw [wrap_id (by rw [lm_length, lm_length]; omega) (by rw [lm_length, lm_length]; omega)]; omega
 rw [e, if_pos (by omega), if_pos (by rw [lm_length, lm_length]; omega), Int.toNat_natCast]

theorem shl_small {x : Int} (hx : 0 <= x /\ x < 4294967296) (s : Nat) (hs : s < 32) : shl .u64 x (s : Int) = x * 2 ^ s := by
 unfold shl shlI
 have e : min ((s : Int)).toNat (IntKind.u64.bits) = s := by
  have : IntKind.u64.bits = 64 := rfl
  rw [this, Int.toNat_natCast]; omega
 rw [e, w64]
 have h1 : (2 : Int) ^ s <= 2 ^ 31 := by
  have := Nat.pow_le_pow_right (n := 2) (by decide) (show s <= 31 by omega)
  have h2 : ((2 ^ s : Nat) : Int) <= ((2 ^ 31 : Nat) : Int) := by omega
  rwa [Int.natCast_pow, Int.natCast_pow] at h2
 have h0 : (0 : Int) <= 2 ^ s := Int.le_of_lt (Int.pow_pos (by decide))
 have h3 : x * 2 ^ s <= 4294967295 * 2 ^ 31 := Int.mul_le_mul (by omega) h1 h0 (by decide)
 have h4 : 0 <= x * 2 ^ s := Int.mul_nonneg hx.1 h0
 omega
theorem or_low (s q c : Nat) (hc : c < 2 ^ s) (h : 2 ^ s * q + c < 18446744073709551616) : Go.bits .or .u64 (c : Int) ((2 ^ s * q : Nat) : Int) = ((2 ^ s * q + c : Nat) : Int) := by
 rw [bits_or_u64_nat c _ (by omega) (by omega), Nat.or_comm, <- Nat.two_pow_add_eq_or_of_lt hc q]
theorem shl_step (x c s : Nat) (hx : x < 4294967296) (hs : s < 32) (hc : c < 2 ^ s) : ∃ y z : Nat, y < 4294967296 /\ z < 2 ^ s /\ y + 4294967296 * z = c + x * 2 ^ s /\
 Go.bits .or .u64 (c : Int) (Go.bits .and .u64 (shl .u64 (x : Int) (s : Int)) 4294967295) = y /\ shl .u64 (x : Int) (s : Int) / 4294967296 = z := by
 rw [shl_small (x := (x : Int)) (by omega) s hs]
 have hp : 2 ^ s * 2 ^ (32 - s) = 4294967296 := by rw [<- Nat.pow_add, show s + (32 - s) = 32 by omega]
 have e : (x : Int) * 2 ^ s = ((x * 2 ^ s : Nat) : Int) := by rw [Int.natCast_mul, Int.natCast_pow]; rfl
 have hps : 0 < 2 ^ s := Nat.pow_pos (by decide)
 have hxs : x * 2 ^ s < 4294967296 * 2 ^ s := Nat.mul_lt_mul_of_pos_right hx hps
 have h31 : 2 ^ s <= 2147483648 := by
  have := Nat.pow_le_pow_right (n := 2) (by decide) (show s <= 31 by omega)
  simpa using this
 have hm : x * 2 ^ s % 4294967296 = 2 ^ s * (x % 2 ^ (32 - s)) := by rw [<- hp, Nat.mul_comm x, Nat.mul_mod_mul_left]
 have hlt : x % 2 ^ (32 - s) < 2 ^ (32 - s) := Nat.mod_lt _ (Nat.pow_pos (by decide))
 have hle : 2 ^ s * (x % 2 ^ (32 - s) + 1) <= 4294967296 := by rw [<- hp]; exact Nat.mul_le_mul_left _ hlt
 rw [Nat.mul_add] at hle
 rw [e, and_low (by omega) (by omega), show ((x * 2 ^ s : Nat) : Int) % 4294967296 = ((x * 2 ^ s % 4294967296 : Nat) : Int) by omega, hm, or_low s _ c hc (by omega)]
 refine ⟨_, x * 2 ^ s / 4294967296, ?_, ?_, ?_, rfl, by omega⟩
 ·omega
 ·rw [Nat.div_lt_iff_lt_mul (by decide), Nat.mul_comm (2 ^ s)]; exact hxs
 ·rw [<- hm]; omega

theorem wr_add (n w : Nat) (h : w + n <= 1125899906842624) : wrap64 ((n : Int) + (w : Int)) = ((w + n : Nat) : Int) := by
 rw [wrap_id (by omega) (by omega)]; omega
theorem wr_one (m : Nat) (h : m <= 1125899906842624) : wrap64 ((m : Int) + 1) = (m : Int) + 1 := wrap_id (by omega) (by omega)
def ShlInv (a D : List Int) (c s : Nat) : Prop := val D + 4294967296 ^ D.length * c = val (a.take D.length) * 2 ^ s
def ShlC (c s : Nat) : Prop := c < 2 ^ s
theorem ShlC.lt {c s : Nat} (h : ShlC c s) (hs : s < 32) : c < 4294967296 := by
 have := Nat.pow_le_pow_right (n := 2) (by decide) (show s <= 31 by omega)
 have h' : c < 2 ^ s := h
 have e : (2 : Nat) ^ 31 = 2147483648 := rfl
 omega
theorem shl_next (a D : List Int) (hi : D.length < a.length) (ha : Ok a) (x c y z s : Nat) (hx : rd a (D.length : Int) = x) (hy : y < 4294967296) (hv : ShlInv a D c s) (hsum : y + 4294967296 * z = c + x * 2 ^ s) : ShlInv a (D ++ [(y : Int)]) z s := by
 have ra := rd_ok ha (D.length : Int)
 have va := val_take_succ a D.length hi
 rw [Int.emod_eq_of_lt ra.1 ra.2, hx, Int.toNat_natCast] at va
 unfold ShlInv at hv ⊢
 rw [List.length_append, List.length_singleton, va, val_snoc, Nat.pow_succ]
 have : ((y : Int) % 4294967296).toNat = y := by clear hv hsum va; omega
 rw [this]
 exact ar3 _ _ _ _ _ _ _ _ hv hsum
theorem shl_end (a D : List Int) (w c s : Nat) (hl : D.length = a.length) (hc : c < 4294967296) (hv : ShlInv a D c s) : val (List.replicate w 0 ++ D ++ [(c : Int)]) = 4294967296 ^ w * (val a * 2 ^ s) := by
 unfold ShlInv at hv
 rw [hl, List.take_length] at hv
 rw [List.append_assoc, val_append, val_zeros, List.length_replicate, val_snoc, hl, <- hv]
 have : ((c : Int) % 4294967296).toNat = c := by clear hv; omega
 rw [this, Nat.zero_add]
theorem shl_loop (a : List Int) (ha : Ok a) (w s : Nat) (hs : s < 32) (hn : a.length + w <= 35184372088830) (d : Nat) : ∀ (D : List Int) (c : Nat), Ok D -> ShlC c s -> D.length + d = a.length -> ShlInv a D c s ->
 Ev (fun k => nat_shl.l0 k (w : Int) (s : Int) (List.replicate w 0 ++ D ++ (c : Int) :: List.replicate d 0) a (a.length : Int) (D.length : Int)) (lm (4294967296 ^ w * (val a * 2 ^ s))) := by
 induction d with
 | zero =>
  intro D c hD hc hl hv
  have hc' := hc.lt hs
  have hok : Ok (List.replicate w 0 ++ D ++ [(c : Int)]) := ((Ok.zeros w).append hD).append (Ok.cons (by omega) Ok.nil)
  have hlen : (List.replicate w 0 ++ D ++ [(c : Int)]).length = w + D.length + 1 := by simp; omega
  have ht := trim_ev _ hok (by omega)
  rw [shl_end a D w c s (by omega) hc' hv] at ht
  refine Ev.step (f := fun k => (nat_trim.f k (List.replicate w 0 ++ D ++ [(c : Int)])).bind fun t => some t) (fun k => ?_) (Ev.bind ht (Ev.now _))
  simp only [nat_shl.l0, trimM_eq]
  rw [if_neg (by omega)]
  rfl
 | succ d ih =>
  intro D c hD hc hl hv
  have ra := rd_ok ha (D.length : Int)
  obtain ⟨x, hx⟩ : ∃ x : Nat, rd a (D.length : Int) = x := ⟨(rd a (D.length : Int)).toNat, by omega⟩
  have hxlt : x < 4294967296 := by omega
  have hlen : (List.replicate w (0 : Int) ++ D).length = w + D.length := by rw [List.length_append, List.length_replicate]
  have hall : (List.replicate w (0 : Int) ++ D ++ (c : Int) :: List.replicate (d + 1) 0).length = w + D.length + 1 + (d + 1) := by rw [List.length_append, hlen, List.length_cons, List.length_replicate]; omega
  have g1 : w + D.length <= 1125899906842624 := by omega
  have g2 : D.length <= 1125899906842624 := by omega
  have g3 : D.length < a.length := by omega
  have c1 : (D.length : Int) < (a.length : Int) := by omega
  have c2 : 0 <= (D.length : Int) := by omega
  have c3 : 0 <= (s : Int) := by omega
  have c4 : 0 <= ((w + D.length : Nat) : Int) := by omega
  have c5 : ((w + D.length : Nat) : Int) < ((List.replicate w (0 : Int) ++ D ++ (c : Int) :: List.replicate (d + 1) 0).length : Int) := by omega
  have c6 : 0 <= ((w + D.length + 1 : Nat) : Int) := by omega
  have c7 : ((w + D.length + 1 : Nat) : Int) < ((List.replicate w (0 : Int) ++ D ++ (c : Int) :: List.replicate (d + 1) 0).length : Int) := by omega
  have hdl : ∀ y : Int, (D ++ [y]).length + d = a.length := fun y => by rw [List.length_append, List.length_singleton]; omega
  have hread : rd (List.replicate w 0 ++ D ++ (c : Int) :: List.replicate (d + 1) 0) ((w + D.length : Nat) : Int) = (c : Int) := by
   have := rd_at (List.replicate w 0 ++ D) (c : Int) (List.replicate (d + 1) 0)
   rwa [hlen] at this
  obtain ⟨y, z, hy, hz, hsum, e1, e2⟩ := shl_step x c s hxlt hs hc
  have hnext := shl_next a D g3 ha x c y z s hx hy hv hsum
  have hylt : (0 : Int) <= (y : Int) /\ (y : Int) < 4294967296 := by clear e1 e2 hsum hread hx ra; omega
  have ew := wr_add D.length w g1
  have ew1 := wr_succ (w + D.length) g1
  have ew2 := wr_succ D.length g2
  have s1 := set_at (List.replicate w 0 ++ D) (c : Int) (List.replicate (d + 1) 0) (y : Int)
  rw [hlen] at s1
  have s2 := set_at (List.replicate w 0 ++ D ++ [(y : Int)]) 0 (List.replicate d 0) (z : Int)
  rw [List.length_append, hlen, List.length_singleton] at s2
  have s3 : List.replicate w 0 ++ D ++ (y : Int) :: List.replicate (d + 1) 0 = List.replicate w 0 ++ D ++ [(y : Int)] ++ 0 :: List.replicate d 0 := by rw [List.replicate_succ, List.append_assoc (List.replicate w 0 ++ D)]; rfl
  refine Ev.step (fun k => ?_) (ih (D ++ [(y : Int)]) z (hD.append (Ok.cons hylt Ok.nil)) hz (hdl _) hnext)
  simp only [nat_shl.l0, List.length_set]
  rw [ew, ew1, ew2, if_pos c1, if_pos c2, if_pos c1, if_pos c3, if_pos c4, if_pos c5, if_pos c6, if_pos c7, hread, hx, e1, e2, Int.toNat_natCast, Int.toNat_natCast, s1, s3, s2, List.length_append, List.length_singleton, <- List.append_assoc]
theorem shl_ev (a : List Int) (ha : Ok a) (n : Nat) (hn : a.length + n <= 35184372088830) : Ev (fun k => nat_shl.f k a (n : Int)) (lm (val a * 2 ^ n)) := by
 have h := shl_loop a ha (n / 32) (n % 32) (Nat.mod_lt _ (by decide)) (by omega) a.length [] 0 Ok.nil (Nat.pow_pos (by decide)) (by simp) (by simp [val, ShlInv])
 have e : 4294967296 ^ (n / 32) * (val a * 2 ^ (n % 32)) = val a * 2 ^ n := by
  have : (4294967296 : Nat) ^ (n / 32) * 2 ^ (n % 32) = 2 ^ n := by
   rw [show (4294967296 : Nat) = 2 ^ 32 from rfl, <- Nat.pow_mul, <- Nat.pow_add]
   congr 1
   omega
  rw [Nat.mul_left_comm, this]
 rw [e] at h
 refine Ev.congr (fun k => ?_) h
 unfold nat_shl.f
 have t1 : wrap64 (Int.tdiv (n : Int) 32) = ((n / 32 : Nat) : Int) := by rw [show Int.tdiv (n : Int) 32 = ((n / 32 : Nat) : Int) from rfl, wrap_id (by omega) (by omega)]
 have t2 : Int.tmod (n : Int) 32 = ((n % 32 : Nat) : Int) := rfl
 rw [t1, t2, wrap_id (i := (a.length : Int) + _) (by omega) (by omega), wrap_id (by omega) (by omega), if_pos (by omega), if_pos (by omega)]
 have e3 : ((a.length : Int) + ((n / 32 : Nat) : Int) + 1).toNat = n / 32 + (a.length + 1) := by omega
 rw [e3, <- List.replicate_append_replicate, List.replicate_succ]
 simp

theorem shr_small {x : Int} (s : Nat) (hs : s < 32) : shr .u64 x (s : Int) = x / 2 ^ s := by
 unfold shr shrI
 have e : min ((s : Int)).toNat (IntKind.u64.bits) = s := by
  have : IntKind.u64.bits = 64 := rfl
  rw [this, Int.toNat_natCast]; omega
 rw [e]
theorem drop_two (a : List Int) (ha : Ok a) (j : Nat) : ∃ r : Nat, val (a.drop j) = (rd a (j : Int)).toNat + 4294967296 * (rd a ((j : Int) + 1)).toNat + 18446744073709551616 * r := by
 have r0 := rd_ok ha (j : Int)
 have r1 := rd_ok ha ((j : Int) + 1)
 by_cases h : j < a.length
 ·have d0 := val_drop a j h
  rw [Int.emod_eq_of_lt r0.1 r0.2] at d0
  by_cases h1 : j + 1 < a.length
  ·have d1 := val_drop a (j + 1) h1
   have e : ((j + 1 : Nat) : Int) = (j : Int) + 1 := by omega
   rw [e, Int.emod_eq_of_lt r1.1 r1.2] at d1
   refine ⟨val (a.drop (j + 1 + 1)), ?_⟩
   rw [d0, d1]
   omega
  ·refine ⟨0, ?_⟩
   have d1 : val (a.drop (j + 1)) = 0 := by rw [List.drop_of_length_le (by omega)]; rfl
   rw [d0, d1, rd_beyond a ((j : Int) + 1) (by omega)]
   rfl
 ·refine ⟨0, ?_⟩
  rw [List.drop_of_length_le (by omega), rd_beyond a _ (by omega), rd_beyond a _ (by omega)]
  rfl
theorem shr_limb (X s : Nat) (x t r : Nat) (hs : s < 32) (hX : X = x + 4294967296 * t + 18446744073709551616 * r) : X / 2 ^ s % 4294967296 = (x + 4294967296 * t) / 2 ^ s % 4294967296 := by
 have hp : 2 ^ s * 2 ^ (32 - s) = 4294967296 := by rw [<- Nat.pow_add, show s + (32 - s) = 32 by omega]
 have e : X = (x + 4294967296 * t) + 2 ^ s * (4294967296 * (2 ^ (32 - s) * r)) := by
  rw [hX, ar4, hp, <- Nat.mul_assoc]
 rw [e, Nat.add_mul_div_left _ _ (Nat.pow_pos (by decide)), Nat.add_mul_mod_self_left]
def ShrInv (X s : Nat) (D : List Int) : Prop := val D = X / 2 ^ s % 4294967296 ^ D.length
def shrl (X s : Nat) : Nat := X / 2 ^ s % 4294967296
theorem shrl_lt (X s : Nat) : shrl X s < 4294967296 := Nat.mod_lt _ (by decide)
theorem shr_step (a : List Int) (ha : Ok a) (j s : Nat) (hs : s < 32) :
 Go.bits .and .u64 (shr .u64 (Go.bits .or .u64 (IntKind.u64.wrap (rd a ((j : Int) + 1) * 4294967296)) (rd a (j : Int))) (s : Int)) 4294967295 = ((shrl (val (a.drop j)) s : Nat) : Int) := by
 have r0 := rd_ok ha (j : Int)
 have r1 := rd_ok ha ((j : Int) + 1)
 obtain ⟨r, hr⟩ := drop_two a ha j
 unfold shrl
 rw [shr_limb _ s _ _ r hs hr, or_sum r1.1 r1.2 r0.1 r0.2, shr_small s hs]
 have hb : (rd a ((j : Int) + 1) * 4294967296 + rd a (j : Int)) = (((rd a (j : Int)).toNat + 4294967296 * (rd a ((j : Int) + 1)).toNat : Nat) : Int) := by clear hr; omega
 have hlt : (rd a (j : Int)).toNat + 4294967296 * (rd a ((j : Int) + 1)).toNat < 18446744073709551616 := by clear hr; omega
 clear hr
 rw [hb]
 generalize (rd a (j : Int)).toNat + 4294967296 * (rd a ((j : Int) + 1)).toNat = z at hlt ⊢
 have hq : (z : Int) / 2 ^ s = ((z / 2 ^ s : Nat) : Int) := by rw [Int.natCast_ediv, Int.natCast_pow]; rfl
 have hle : z / 2 ^ s <= z := Nat.div_le_self _ _
 rw [hq]
 generalize z / 2 ^ s = y at hle ⊢
 rw [and_low (by omega) (by omega)]
 omega
theorem drop_more (a : List Int) (w n : Nat) (h : w + n <= a.length) : val (a.drop (w + n)) = val (a.drop w) / 4294967296 ^ n := by
 rw [<- List.drop_drop]
 have h1 := split_at (a.drop w) n
 have h2 := val_lt ((a.drop w).take n)
 have h3 : ((a.drop w).take n).length = n := by rw [List.length_take, List.length_drop]; omega
 rw [h3] at h1 h2
 rw [h1, Nat.add_mul_div_left _ _ (Nat.pow_pos (by decide)), Nat.div_eq_of_lt h2, Nat.zero_add]
theorem shr_next (a : List Int) (w s : Nat) (D : List Int) (h : w + D.length <= a.length) (hv : ShrInv (val (a.drop w)) s D) : ShrInv (val (a.drop w)) s (D ++ [((shrl (val (a.drop (w + D.length))) s : Nat) : Int)]) := by
 have hlt := shrl_lt (val (a.drop (w + D.length))) s
 unfold ShrInv at hv ⊢
 rw [List.length_append, List.length_singleton, val_snoc, hv, Nat.pow_succ]
 have e2 : ((((shrl (val (a.drop (w + D.length))) s : Nat) : Int)) % 4294967296).toNat = shrl (val (a.drop (w + D.length))) s := by clear hv; omega
 rw [e2]
 unfold shrl
 rw [drop_more a w _ h, Nat.div_div_eq_div_mul, Nat.mul_comm (4294967296 ^ D.length) (2 ^ s), <- Nat.div_div_eq_div_mul, Nat.mod_mul]
theorem shr_end (a : List Int) (w s : Nat) (D : List Int) (h : D.length = a.length - w) (hv : ShrInv (val (a.drop w)) s D) : val D = val (a.drop w) / 2 ^ s := by
 unfold ShrInv at hv
 have h1 := val_lt (a.drop w)
 rw [List.length_drop, <- h] at h1
 rw [hv, Nat.mod_eq_of_lt (Nat.lt_of_le_of_lt (Nat.div_le_self _ _) h1)]
theorem shr_loop (a : List Int) (ha : Ok a) (w s : Nat) (hs : s < 32) (hn : a.length <= 35184372088830) (hw : w <= a.length) (d : Nat) : ∀ (D : List Int), Ok D -> D.length + d = a.length - w -> ShrInv (val (a.drop w)) s D ->
 Ev (fun k => nat_shr.l0 k a (w : Int) (s : Int) (D ++ List.replicate d 0) ((a.length - w : Nat) : Int) (D.length : Int)) (lm (val (a.drop w) / 2 ^ s)) := by
 induction d with
 | zero =>
  intro D hD hl hv
  have ht := trim_ev D hD (by omega)
  rw [shr_end a w s D (by omega) hv] at ht
  refine Ev.step (f := fun k => (nat_trim.f k D).bind fun t => some t) (fun k => ?_) (Ev.bind ht (Ev.now _))
  simp only [nat_shr.l0]
  rw [if_neg (by omega), List.replicate_zero, List.append_nil]
 | succ d ih =>
  intro D hD hl hv
  have g1 : w + D.length <= 1125899906842624 := by omega
  have g2 : D.length <= 1125899906842624 := by omega
  have g3 : w + D.length <= a.length := by omega
  have c1 : (D.length : Int) < ((a.length - w : Nat) : Int) := by omega
  have c2 : 0 <= ((w + D.length : Nat) : Int) := by omega
  have c3 : ((w + D.length : Nat) : Int) < (a.length : Int) := by omega
  have c4 : 0 <= (s : Int) := by omega
  have c5 : 0 <= (D.length : Int) := by omega
  have c6 : (D.length : Int) < ((D ++ List.replicate (d + 1) (0 : Int)).length : Int) := by rw [List.length_append, List.length_replicate]; omega
  have c7 : 0 <= ((w + D.length : Nat) : Int) + 1 := by omega
  have hdl : ∀ y : Int, (D ++ [y]).length + d = a.length - w := fun y => by rw [List.length_append, List.length_singleton]; omega
  have hy := shr_step a ha (w + D.length) s hs
  have hlt := shrl_lt (val (a.drop (w + D.length))) s
  have hnext := shr_next a w s D g3 hv
  have e0 := wr_add D.length w g1
  have e1 := wr_one (w + D.length) g1
  have e2 := wr_succ D.length g2
  generalize shrl (val (a.drop (w + D.length))) s = y at hy hlt hnext
  refine Ev.step (fun k => ?_) (ih (D ++ [(y : Int)]) (hD.append (Ok.cons ⟨Int.natCast_nonneg _, by clear hy e0 e1 e2; omega⟩ Ok.nil)) (hdl _) hnext)
  simp only [nat_shr.l0]
  rw [if_pos c1, e0, e1, limb_eq _ _ c7]
  simp only [Option.bind_some]
  rw [if_pos c2, if_pos c3, if_pos c4, if_pos c5, if_pos c6, hy, e2, Int.toNat_natCast, fill, List.length_append, List.length_singleton]
theorem shr_ev (a : List Int) (ha : Ok a) (n : Nat) (hn : a.length <= 35184372088830) (hn2 : n <= 9223372036854775807) : Ev (fun k => nat_shr.f k a (n : Int)) (lm (val a / 2 ^ n)) := by
 have t1 : wrap64 (Int.tdiv (n : Int) 32) = ((n / 32 : Nat) : Int) := by rw [show Int.tdiv (n : Int) 32 = ((n / 32 : Nat) : Int) from rfl, wrap_id (by omega) (by omega)]
 have t2 : Int.tmod (n : Int) 32 = ((n % 32 : Nat) : Int) := rfl
 have hpow : (2 : Nat) ^ n = 4294967296 ^ (n / 32) * 2 ^ (n % 32) := by
  rw [show (4294967296 : Nat) = 2 ^ 32 from rfl, <- Nat.pow_mul, <- Nat.pow_add]
  congr 1
  omega
 by_cases hw : a.length <= n / 32
 ·have h0 : val a / 2 ^ n = 0 := by
   apply Nat.div_eq_of_lt
   rw [hpow]
   have h1 := val_lt a
   have h2 : 4294967296 ^ a.length <= 4294967296 ^ (n / 32) := Nat.pow_le_pow_right (by decide) hw
   have h3 : 0 < 2 ^ (n % 32) := Nat.pow_pos (by decide)
   have h4 : 4294967296 ^ (n / 32) * 1 <= 4294967296 ^ (n / 32) * 2 ^ (n % 32) := Nat.mul_le_mul_left _ h3
   omega
  rw [h0, lm_zero]
  refine Ev.congr (fun k => ?_) (Ev.now _)
  unfold nat_shr.f
  rw [t1, if_pos (by omega)]
 ·have h := shr_loop a ha (n / 32) (n % 32) (Nat.mod_lt _ (by decide)) hn (by omega) (a.length - n / 32) [] Ok.nil (by simp) (by simp [val, Nat.mod_one, ShrInv])
  have hd : val (a.drop (n / 32)) = val a / 4294967296 ^ (n / 32) := by
   have h1 := split_at a (n / 32)
   have h2 := val_lt (a.take (n / 32))
   have h3 : (a.take (n / 32)).length = n / 32 := by rw [List.length_take]; omega
   rw [h3] at h1 h2
   conv => rhs; rw [h1]
   rw [Nat.add_mul_div_left _ _ (Nat.pow_pos (by decide)), Nat.div_eq_of_lt h2, Nat.zero_add]
  rw [hd, Nat.div_div_eq_div_mul, <- hpow] at h
  refine Ev.congr (fun k => ?_) h
  unfold nat_shr.f
  rw [t1, t2, if_neg (by omega), wrap_id (by omega) (by omega), if_pos (by omega), if_pos (by omega), show ((a.length : Int) - ((n / 32 : Nat) : Int)).toNat = a.length - n / 32 by omega]
  simp only [Option.bind_some, List.length_replicate]
  rfl


end Go.DI.Th
namespace Go.DI.Th
open Go Go.RowKit Go.DI

theorem tk1 (p vu dc vd t vv y dbt c u v dbt' c' : Int) (hv : vu + p * (dbt + c) = vd + t * vv) (h1 : u + 4294967296 * dbt' = y + dc + dbt) (h2 : 4294967296 * c' + dc = c + t * v) :
 (vu + p * u) + p * 4294967296 * (dbt' + c') = (vd + p * y) + t * (vv + p * v) := by grind
def TakeInv (u v : List Int) (t : Nat) (D : List Int) (c debt : Int) : Prop :=
 (val (u.take D.length) : Int) + 4294967296 ^ D.length * (debt + c) = val D + t * val (v.take D.length)
def CarryInv (v : List Int) (t n : Nat) (c : Int) : Prop := c = ((t * val (v.take n) / 4294967296 ^ n : Nat) : Int)
theorem carry_next (t V p x : Nat) (hV : V < p) : t * (V + p * x) / (p * 4294967296) = (t * V / p + t * x) / 4294967296 := by
 have hp : 0 < p := by omega
 rw [<- Nat.div_div_eq_div_mul, Nat.mul_add, show t * (p * x) = p * (t * x) by rw [Nat.mul_left_comm], Nat.add_mul_div_left _ _ hp]
theorem carry_lt (t V p : Nat) (hV : V < p) (ht : t <= 4294967296) : t * V / p < 4294967296 := by
 rw [Nat.div_lt_iff_lt_mul (by omega)]
 have : t * V <= 4294967296 * V := Nat.mul_le_mul_right _ ht
 omega
theorem CarryInv.range {v : List Int} {t n : Nat} {c : Int} (h : CarryInv v t n c) (ht : t <= 4294967296) : 0 <= c /\ c < 4294967296 := by
 have h1 := val_lt (v.take n)
 have hlt : val (v.take n) < 4294967296 ^ n := by
  have : 4294967296 ^ (v.take n).length <= 4294967296 ^ n := Nat.pow_le_pow_right (by decide) (by rw [List.length_take]; exact Nat.min_le_left _ _)
  exact Nat.lt_of_lt_of_le h1 this
 have := carry_lt t _ _ hlt ht
 unfold CarryInv at h
 rw [h]
 generalize t * val (v.take n) / 4294967296 ^ n = z at this
 omega
theorem val_take_rdN (l : List Int) (hl : Ok l) (i : Nat) : val (l.take (i + 1)) = val (l.take i) + 4294967296 ^ i * (rd l i).toNat := by
 by_cases h : i < l.length
 ·have r := rd_ok hl (i : Int)
  have := val_take_succ l i h
  rwa [Int.emod_eq_of_lt r.1 r.2] at this
 ·rw [List.take_of_length_le (by omega), List.take_of_length_le (by omega), rd_beyond l i (by omega)]
  rfl
theorem CarryInv.next {v : List Int} (hv : Ok v) {t n : Nat} {c : Int} (h : CarryInv v t n c) : CarryInv v t (n + 1) ((c + (t : Int) * rd v n) / 4294967296) := by
 have r := rd_ok hv (n : Int)
 have h1 := val_lt (v.take n)
 have hlt : val (v.take n) < 4294967296 ^ n := by
  have : 4294967296 ^ (v.take n).length <= 4294967296 ^ n := Nat.pow_le_pow_right (by decide) (by rw [List.length_take]; exact Nat.min_le_left _ _)
  exact Nat.lt_of_lt_of_le h1 this
 unfold CarryInv at h ⊢
 rw [val_take_rdN v hv n, Nat.pow_succ, carry_next _ _ _ _ hlt, h]
 obtain ⟨m, hm⟩ : ∃ m : Nat, rd v (n : Int) = m := ⟨(rd v (n : Int)).toNat, by clear h h1 hlt; omega⟩
 rw [hm, Int.toNat_natCast, <- Int.natCast_mul, <- Int.natCast_add]
 rfl
theorem take_limb (u v c debt t : Int) (hu : 0 <= u /\ u < 4294967296) (hv : 0 <= v /\ v < 4294967296) (hc : 0 <= c /\ c < 4294967296) (hd : debt = 0 \/ debt = 1) (ht : 0 <= t /\ t <= 4294967296) :
 ∃ y dbt' lowc, (0 <= y /\ y < 4294967296) /\ (dbt' = 0 \/ dbt' = 1) /\ u + 4294967296 * dbt' = y + lowc + debt /\ 4294967296 * ((c + t * v) / 4294967296) + lowc = c + t * v /\
  IntKind.u64.wrap (c + (IntKind.u64.wrap (t * v))) = c + t * v /\
  Go.bits .and .u64 (IntKind.u64.wrap ((IntKind.u64.wrap ((IntKind.u64.wrap (4294967296 + u)) - (Go.bits .and .u64 (c + t * v) 4294967295))) - debt)) 4294967295 = y /\
  IntKind.u64.wrap (1 - ((IntKind.u64.wrap ((IntKind.u64.wrap ((IntKind.u64.wrap (4294967296 + u)) - (Go.bits .and .u64 (c + t * v) 4294967295))) - debt)) / 4294967296)) = dbt' := by
 have h0 : 0 <= t * v := Int.mul_nonneg ht.1 hv.1
 have h1 : t * v <= 4294967296 * 4294967295 := Int.mul_le_mul ht.2 (by omega) hv.1 (by decide)
 generalize t * v = m at h0 h1 ⊢
 rw [and_low (x := c + m) (by omega) (by omega)]
 have hlow0 : 0 <= (c + m) % 4294967296 := Int.emod_nonneg _ (by decide)
 have hlow1 : (c + m) % 4294967296 < 4294967296 := Int.emod_lt_of_pos _ (by decide)
 have hdm := Int.mul_ediv_add_emod (c + m) 4294967296
 generalize (c + m) % 4294967296 = lw at hlow0 hlow1 hdm ⊢
 have e : IntKind.u64.wrap ((IntKind.u64.wrap ((IntKind.u64.wrap (4294967296 + u)) - lw)) - debt) = 4294967296 + u - lw - debt := by
  simp only [w64]
  omega
 rw [e, and_low (by omega) (by omega)]
 simp only [w64]
 refine ⟨(4294967296 + u - lw - debt) % 4294967296, 1 - (4294967296 + u - lw - debt) / 4294967296, lw, ⟨Int.emod_nonneg _ (by decide), Int.emod_lt_of_pos _ (by decide)⟩, ?_, ?_, hdm, ?_, rfl, ?_⟩ <;> omega
theorem TakeInv.next {u v : List Int} (hu : Ok u) (hv : Ok v) {t : Nat} {D : List Int} {c debt y dbt' lowc : Int} (h : TakeInv u v t D c debt) (hy : 0 <= y /\ y < 4294967296) (h1 : rd u D.length + 4294967296 * dbt' = y + lowc + debt)
 (h2 : 4294967296 * ((c + t * rd v D.length) / 4294967296) + lowc = c + t * rd v D.length) : TakeInv u v t (D ++ [y]) ((c + t * rd v D.length) / 4294967296) dbt' := by
 unfold TakeInv at h ⊢
 rw [List.length_append, List.length_singleton, val_take_rd u hu, val_take_rd v hv, val_snoc_int D y hy, Int.pow_succ]
 exact tk1 _ _ _ _ _ _ _ _ _ _ _ _ _ h h1 h2
theorem take_loop (u v : List Int) (hu : Ok u) (hv : Ok v) (t : Nat) (ht : t <= 4294967296) (hn : u.length <= 35184372088832) (d : Nat) : ∀ (D : List Int) (c debt : Int), Ok D -> D.length + d = u.length -> (debt = 0 \/ debt = 1) -> CarryInv v t D.length c -> TakeInv u v t D c debt ->
 ∃ (D' : List Int) (c' debt' : Int), Ok D' /\ D'.length = u.length /\ (debt' = 0 \/ debt' = 1) /\ CarryInv v t u.length c' /\ TakeInv u v t D' c' debt' /\
  Ev (fun k => nat_take.l0 k (D ++ u.drop D.length) v (t : Int) c debt (u.length : Int) (D.length : Int)) ((debt' == 1), D') := by
 induction d with
 | zero =>
  intro D c debt hD hl hdebt hc hi
  have hl' : D.length = u.length := by omega
  refine ⟨D, c, debt, hD, hl', hdebt, by rw [<- hl']; exact hc, hi, Ev.step (fun k => ?_) (Ev.now _)⟩
  simp only [nat_take.l0]
  rw [if_neg (by omega), List.drop_of_length_le (by omega), List.append_nil]
 | succ d ih =>
  intro D c debt hD hl hdebt hc hi
  have g1 : (D.length : Int) < (u.length : Int) := by omega
  have g2 : 0 <= (D.length : Int) := by omega
  have g3 : (D.length : Int) < ((D ++ u.drop D.length).length : Int) := by rw [List.length_append, List.length_drop]; omega
  have g4 : D.length <= 1125899906842624 := by omega
  have g5 : D.length < u.length := by omega
  have hdl : ∀ y : Int, (D ++ [y]).length + d = u.length := fun y => by rw [List.length_append, List.length_singleton]; omega
  have hdrop := drop_rd u D.length g5
  have hread : rd (D ++ u.drop D.length) (D.length : Int) = rd u D.length := by
   rw [hdrop]; exact rd_at _ _ _
  have hset : ∀ y, (D ++ u.drop D.length).set D.length y = (D ++ [y]) ++ u.drop (D ++ [y]).length := by
   intro y
   rw [hdrop, set_at, List.length_append, List.length_singleton, List.append_assoc]
   rfl
  have ru := rd_ok hu (D.length : Int)
  have rv := rd_ok hv (D.length : Int)
  obtain ⟨y, dbt', lowc, hy, hdb, a1, a2, a3, a4, a5⟩ := take_limb (rd u D.length) (rd v D.length) c debt (t : Int) ru rv (hc.range ht) hdebt ⟨Int.natCast_nonneg _, Int.ofNat_le.2 ht⟩
  have hc' := hc.next hv
  have hlen1 : (D ++ [y]).length = D.length + 1 := by rw [List.length_append, List.length_singleton]
  obtain ⟨D', c', debt', b1, b2, b3, b4, b5, b6⟩ := ih (D ++ [y]) ((c + t * rd v D.length) / 4294967296) dbt' (hD.append (Ok.cons hy Ok.nil)) (hdl y) hdb (by rw [hlen1]; exact hc') (hi.next hu hv hy a1 a2)
  refine ⟨D', c', debt', b1, b2, b3, b4, b5, Ev.step (fun k => ?_) b6⟩
  have ew := wr_succ D.length g4
  simp only [nat_take.l0]
  rw [if_pos g1, limb_eq v _ g2]
  simp only [Option.bind_some]
  rw [if_pos g2, if_pos g3, hread, a3, a4, a5, ew, Int.toNat_natCast, hset, hlen1]
theorem take_ev (u v : List Int) (hu : Ok u) (hv : Ok v) (t : Nat) (ht : t <= 4294967296) (hn : u.length <= 35184372088832) (hl : v.length < u.length) :
 ∃ (D : List Int) (b : Bool), Ok D /\ D.length = u.length /\ val u + (if b then 4294967296 ^ u.length else 0) = val D + t * val v /\ Ev (fun k => nat_take.f k u v (t : Int)) (b, D) := by
 obtain ⟨D, c, debt, h1, h2, h3, h4, h5, h6⟩ := take_loop u v hu hv t ht hn u.length [] 0 0 Ok.nil (by simp) (Or.inl rfl) (by simp [CarryInv, val]) (by simp [TakeInv, val])
 have hvl : v.take u.length = v := List.take_of_length_le (Nat.le_of_lt hl)
 have hc0 : c = 0 := by
  unfold CarryInv at h4
  rw [hvl] at h4
  have hv1 := val_lt v
  have : t * val v < 4294967296 ^ u.length := by
   have e1 : t * val v <= 4294967296 * val v := Nat.mul_le_mul_right _ ht
   have e2 : 4294967296 * val v < 4294967296 * 4294967296 ^ v.length := Nat.mul_lt_mul_of_pos_left hv1 (by decide)
   have e3 : 4294967296 * 4294967296 ^ v.length = 4294967296 ^ (v.length + 1) := by rw [Nat.pow_succ, Nat.mul_comm]
   have e4 : 4294967296 ^ (v.length + 1) <= 4294967296 ^ u.length := Nat.pow_le_pow_right (by decide) hl
   exact Nat.lt_of_le_of_lt e1 (Nat.lt_of_lt_of_le e2 (by rw [e3]; exact e4))
  rw [Nat.div_eq_of_lt this] at h4
  exact h4
 refine ⟨D, (debt == 1), h1, h2, ?_, ?_⟩
 ·unfold TakeInv at h5
  rw [h2, List.take_length, hvl, hc0] at h5
  clear h4 h6
  have e : ((val u + (if (debt == 1) = true then 4294967296 ^ u.length else 0) : Nat) : Int) = ((val D + t * val v : Nat) : Int) := by
   rw [Int.natCast_add, Int.natCast_add, Int.natCast_mul, <- h5]
   rcases h3 with rfl | rfl
   ·simp
   ·simp
  exact Int.ofNat.inj e
 ·refine Ev.congr (fun k => ?_) h6
  unfold nat_take.f
  rfl

theorem gv1 (p vu vv vd c y u v c' : Nat) (hv : vd + p * c = vu + vv) (h1 : y + 4294967296 * c' = c + u + v) :
 (vd + p * y) + p * 4294967296 * c' = (vu + p * u) + (vv + p * v) := by grind
def GiveInv (u v D : List Int) (c : Nat) : Prop := val D + 4294967296 ^ D.length * c = val (u.take D.length) + val (v.take D.length)
theorem GiveInv.next {u v : List Int} (hu : Ok u) (hv : Ok v) {D : List Int} {c y c' : Nat} (h : GiveInv u v D c) (hy : y < 4294967296) (h1 : y + 4294967296 * c' = c + (rd u D.length).toNat + (rd v D.length).toNat) : GiveInv u v (D ++ [(y : Int)]) c' := by
 unfold GiveInv at h ⊢
 have e : ((y : Int) % 4294967296).toNat = y := by clear h h1; omega
 rw [List.length_append, List.length_singleton, val_take_rdN u hu, val_take_rdN v hv, val_snoc, e, Nat.pow_succ]
 exact gv1 _ _ _ _ _ _ _ _ _ h h1
theorem give_limb (u v : Int) (c : Nat) (hu : 0 <= u /\ u < 4294967296) (hv : 0 <= v /\ v < 4294967296) (hc : c <= 1) :
 ∃ y c' : Nat, y < 4294967296 /\ c' <= 1 /\ y + 4294967296 * c' = c + u.toNat + v.toNat /\ Go.bits .and .u64 (IntKind.u64.wrap ((c : Int) + (IntKind.u64.wrap (u + v)))) 4294967295 = y /\ (IntKind.u64.wrap ((c : Int) + (IntKind.u64.wrap (u + v)))) / 4294967296 = c' := by
 have e : IntKind.u64.wrap ((c : Int) + (IntKind.u64.wrap (u + v))) = ((c + u.toNat + v.toNat : Nat) : Int) := by simp only [w64]; omega
 rw [e, and_low (by omega) (by omega)]
 exact ⟨(c + u.toNat + v.toNat) % 4294967296, (c + u.toNat + v.toNat) / 4294967296, by omega, by omega, by omega, by omega, by omega⟩
theorem give_loop (u v : List Int) (hu : Ok u) (hv : Ok v) (hn : u.length <= 35184372088832) (d : Nat) : ∀ (D : List Int) (c : Nat), Ok D -> c <= 1 -> D.length + d = u.length -> GiveInv u v D c ->
 ∃ (D' : List Int) (c' : Nat), Ok D' /\ D'.length = u.length /\ GiveInv u v D' c' /\ Ev (fun k => nat_give.l0 k (D ++ u.drop D.length) v (c : Int) (u.length : Int) (D.length : Int)) D' := by
 induction d with
 | zero =>
  intro D c hD hc hl hi
  refine ⟨D, c, hD, by omega, hi, Ev.step (fun k => ?_) (Ev.now _)⟩
  simp only [nat_give.l0]
  rw [if_neg (by omega), List.drop_of_length_le (by omega), List.append_nil]
 | succ d ih =>
  intro D c hD hc hl hi
  have g1 : (D.length : Int) < (u.length : Int) := by omega
  have g2 : 0 <= (D.length : Int) := by omega
  have g3 : (D.length : Int) < ((D ++ u.drop D.length).length : Int) := by rw [List.length_append, List.length_drop]; omega
  have g4 : D.length <= 1125899906842624 := by omega
  have g5 : D.length < u.length := by omega
  have hdl : ∀ y : Int, (D ++ [y]).length + d = u.length := fun y => by rw [List.length_append, List.length_singleton]; omega
  have hdrop := drop_rd u D.length g5
  have hread : rd (D ++ u.drop D.length) (D.length : Int) = rd u D.length := by
   rw [hdrop]; exact rd_at _ _ _
  have hset : ∀ y, (D ++ u.drop D.length).set D.length y = (D ++ [y]) ++ u.drop (D ++ [y]).length := by
   intro y
   rw [hdrop, set_at, List.length_append, List.length_singleton, List.append_assoc]
   rfl
  have ru := rd_ok hu (D.length : Int)
  have rv := rd_ok hv (D.length : Int)
  obtain ⟨y, c', hy, hc', a1, a2, a3⟩ := give_limb _ _ c ru rv hc
  have hlen1 : (D ++ [(y : Int)]).length = D.length + 1 := by rw [List.length_append, List.length_singleton]
  obtain ⟨D', c2, b1, b2, b3, b4⟩ := ih (D ++ [(y : Int)]) c' (hD.append (Ok.cons ⟨Int.natCast_nonneg _, Int.ofNat_lt.2 hy⟩ Ok.nil)) hc' (hdl _) (hi.next hu hv hy a1)
  refine ⟨D', c2, b1, b2, b3, Ev.step (fun k => ?_) b4⟩
  have ew := wr_succ D.length g4
  simp only [nat_give.l0]
  rw [if_pos g1, if_pos g2, if_pos g3, limb_eq v _ g2]
  simp only [Option.bind_some]
  rw [hread, a2, a3, ew, Int.toNat_natCast, hset, hlen1]
theorem give_ev (u v : List Int) (hu : Ok u) (hv : Ok v) (hn : u.length <= 35184372088832) (hl : v.length < u.length) :
 ∃ (D : List Int) (c : Nat), Ok D /\ D.length = u.length /\ val D + 4294967296 ^ u.length * c = val u + val v /\ Ev (fun k => nat_give.f k u v) D := by
 obtain ⟨D, c, h1, h2, h3, h4⟩ := give_loop u v hu hv hn u.length [] 0 Ok.nil (by omega) (by simp) (by simp [GiveInv, val])
 refine ⟨D, c, h1, h2, ?_, ?_⟩
 ·unfold GiveInv at h3
  rwa [h2, List.take_length, List.take_of_length_le (Nat.le_of_lt hl)] at h3
 ·refine Ev.congr (fun k => ?_) h4
  unfold nat_give.f
  rfl

theorem kd1 (B P g v1 v2 r u2 VL UL two : Nat) (h2 : two = g * v1 + r) (hg : r * B + u2 + 1 <= g * v2) (hU : UL + 1 <= P) :
 UL + P * (u2 + B * two) + 1 <= g * (VL + P * (v2 + B * v1)) := by
 have h1 : P * (r * B + u2 + 1) <= P * (g * v2) := Nat.mul_le_mul_left _ hg
 have e1 : P * (r * B + u2 + 1) + P * (B * (g * v1)) = P * (u2 + B * two) + P := by rw [h2]; grind
 have e2 : g * (VL + P * (v2 + B * v1)) = g * VL + P * (g * v2) + P * (B * (g * v1)) := by grind
 have e3 : 0 <= g * VL := Nat.zero_le _
 rw [e2]
 generalize P * (u2 + B * two) = a at *
 generalize P * (B * (g * v1)) = b at *
 generalize P * (g * v2) = c at *
 generalize P * (r * B + u2 + 1) = d at *
 omega
theorem kd2 (B P g v1 v2 r u2 VL UL two : Nat) (h2 : two = g * v1 + r) (hg : g * v2 <= r * B + u2) (hgB : g <= B) (hVL : VL + 1 <= P) (hv1 : 1 <= v1) (hB : 1 <= B) :
 g * (VL + P * (v2 + B * v1)) + 1 <= UL + P * (u2 + B * two) + (VL + P * (v2 + B * v1)) := by
 have h1 : P * (g * v2) <= P * (r * B + u2) := Nat.mul_le_mul_left _ hg
 have e1 : P * (r * B + u2) + P * (B * (g * v1)) = P * (u2 + B * two) := by rw [h2]; grind
 have e2 : g * (VL + P * (v2 + B * v1)) = g * VL + P * (g * v2) + P * (B * (g * v1)) := by grind
 have e3 : g * VL <= B * VL := Nat.mul_le_mul_right _ hgB
 have e4 : B * (VL + 1) <= B * P := Nat.mul_le_mul_left _ hVL
 have e5 : P * (B * 1) <= P * (B * v1) := Nat.mul_le_mul_left _ (Nat.mul_le_mul_left _ hv1)
 have e6 : P * (v2 + B * v1) = P * v2 + P * (B * v1) := Nat.mul_add _ _ _
 have e7 : B * (VL + 1) = B * VL + B := by rw [Nat.mul_add, Nat.mul_one]
 have e8 : B * P = P * (B * 1) := by rw [Nat.mul_one, Nat.mul_comm]
 rw [e2, e6]
 generalize P * (u2 + B * two) = a at *
 generalize P * (B * (g * v1)) = b at *
 generalize P * (g * v2) = c at *
 generalize P * (r * B + u2) = d at *
 generalize P * (B * v1) = f at *
 generalize P * (B * 1) = h at *
 generalize P * v2 = i at *
 generalize g * VL = j at *
 generalize B * VL = l at *
 omega
theorem kd3 (B P g v1 v2 u2 VL UL two : Nat) (h : two + 1 <= (g + 1) * v1) (hu2 : u2 + 1 <= B) (hU : UL + 1 <= P) :
 UL + P * (u2 + B * two) + 1 <= (g + 1) * (VL + P * (v2 + B * v1)) := by
 have h1 : P * (B * (two + 1)) <= P * (B * ((g + 1) * v1)) := Nat.mul_le_mul_left _ (Nat.mul_le_mul_left _ h)
 have e1 : P * (B * (two + 1)) = P * (B * two) + P * B := by grind
 have e2 : (g + 1) * (VL + P * (v2 + B * v1)) = (g + 1) * VL + P * ((g + 1) * v2) + P * (B * ((g + 1) * v1)) := by grind
 have e3 : P * (u2 + 1) <= P * B := Nat.mul_le_mul_left _ hu2
 have e4 : P * (u2 + B * two) = P * u2 + P * (B * two) := Nat.mul_add _ _ _
 have e5 : P * (u2 + 1) = P * u2 + P := by rw [Nat.mul_add, Nat.mul_one]
 rw [e2, e4]
 generalize P * (B * two) = a at *
 generalize P * (B * ((g + 1) * v1)) = b at *
 generalize P * ((g + 1) * v2) = c at *
 generalize (g + 1) * VL = d at *
 generalize P * (B * (two + 1)) = f at *
 generalize P * B = h at *
 generalize P * u2 = i at *
 omega
theorem kd4 (B P v1 v2 u2 VL UL two : Nat) (h : UL + P * (u2 + B * two) < B * (VL + P * (v2 + B * v1))) (hV : VL + 1 <= P) (hv2 : v2 + 1 <= B) (hB : 0 < B) : two < B * (v1 + 1) := by
 have h1 : P * (v2 + 1) <= P * B := Nat.mul_le_mul_left _ hv2
 have h2 : B * (VL + P * (v2 + B * v1)) + B <= B * (P * (B * (v1 + 1))) := by
  have : VL + P * (v2 + B * v1) + 1 <= P * (B * (v1 + 1)) := by
   have e1 : P * (v2 + B * v1) = P * v2 + P * (B * v1) := Nat.mul_add _ _ _
   have e2 : P * (B * (v1 + 1)) = P * (B * v1) + P * B := by grind
   have e3 : P * (v2 + 1) = P * v2 + P := by rw [Nat.mul_add, Nat.mul_one]
   omega
  have := Nat.mul_le_mul_left B this
  rwa [Nat.mul_add B _ 1, Nat.mul_one] at this
 have hP : 0 < P * B := Nat.mul_pos (by omega) hB
 have h3 : P * (u2 + B * two) = P * u2 + (P * B) * two := by grind
 have h4 : B * (P * (B * (v1 + 1))) = (P * B) * (B * (v1 + 1)) := by grind
 rw [h3] at h
 rw [h4] at h2
 apply Nat.lt_of_mul_lt_mul_left (a := P * B)
 generalize (P * B) * two = a at *
 generalize (P * B) * (B * (v1 + 1)) = b at *
 generalize B * (VL + P * (v2 + B * v1)) = c at *
 generalize P * u2 = d at *
 omega

structure Guess (U V two v1 v2 u2 P UL VL : Nat) : Prop where
 hU : U = UL + P * (u2 + 4294967296 * two)
 hV : V = VL + P * (v2 + 4294967296 * v1)
 hUL : UL + 1 <= P
 hVL : VL + 1 <= P
 hu2 : u2 < 4294967296
 hv2 : v2 < 4294967296
 hv1 : 2147483648 <= v1
 hv1' : v1 < 4294967296
 hlt : U < 4294967296 * V
def GInv (U V two v1 g r : Nat) : Prop := two = g * v1 + r /\ U < (g + 1) * V
def GEnd (U V g : Nat) : Prop := U < (g + 1) * V /\ g * V < U + V /\ g <= 4294967296
theorem Guess.more {U V two v1 v2 u2 P UL VL g r : Nat} (G : Guess U V two v1 v2 u2 P UL VL) (h : GInv U V two v1 g r) (hc : 4294967296 <= g \/ r * 4294967296 + u2 < g * v2) : 1 <= g /\ GInv U V two v1 (g - 1) (r + v1) := by
 have hlt : U < g * V := by
  rcases hc with hc | hc
  ·exact Nat.lt_of_lt_of_le G.hlt (Nat.mul_le_mul_right _ hc)
  ·have := kd1 4294967296 P g v1 v2 r u2 VL UL two h.1 hc G.hUL
   rw [<- G.hU, <- G.hV] at this
   exact this
 have hg : 1 <= g := by
  rcases Nat.eq_zero_or_pos g with h0 | h0
  ·rw [h0, Nat.zero_mul] at hlt; omega
  ·exact h0
 refine ⟨hg, ?_, by rw [Nat.sub_add_cancel hg]; exact hlt⟩
 obtain ⟨m, rfl⟩ : ∃ m, g = m + 1 := ⟨g - 1, by omega⟩
 rw [h.1, Nat.add_sub_cancel, Nat.add_mul, Nat.one_mul]
 omega
theorem Guess.stop {U V two v1 v2 u2 P UL VL g r : Nat} (G : Guess U V two v1 v2 u2 P UL VL) (h : GInv U V two v1 g r) (hg : g <= 4294967296) (hc : 4294967296 <= r \/ g * v2 <= r * 4294967296 + u2) : GEnd U V g := by
 have hle : g * v2 <= r * 4294967296 + u2 := by
  rcases hc with hc | hc
  ·have h1 : g * v2 <= 4294967296 * v2 := Nat.mul_le_mul_right _ hg
   have := G.hv2
   omega
  ·exact hc
 have h1 := G.hv1
 have := kd2 4294967296 P g v1 v2 r u2 VL UL two h.1 hle hg G.hVL (by omega) (by decide)
 rw [<- G.hU, <- G.hV] at this
 exact ⟨h.2, this, hg⟩
theorem Guess.start {U V two v1 v2 u2 P UL VL : Nat} (G : Guess U V two v1 v2 u2 P UL VL) : GInv U V two v1 (two / v1) (two % v1) /\ two / v1 <= 4294967297 := by
 have h1 := G.hv1
 have hlt2 : two < 4294967296 * (v1 + 1) := by
  have h := G.hlt
  rw [G.hU, G.hV] at h
  exact kd4 4294967296 P v1 v2 u2 VL UL two h G.hVL G.hv2 (by decide)
 refine ⟨⟨(by rw [Nat.mul_comm]; exact (Nat.div_add_mod two v1).symm), ?_⟩, ?_⟩
 ·have h2 : two + 1 <= (two / v1 + 1) * v1 := by
   have := Nat.lt_mul_div_succ two (show 0 < v1 by omega)
   rw [Nat.mul_comm] at this
   exact this
  have := kd3 4294967296 P (two / v1) v1 v2 u2 VL UL two h2 G.hu2 G.hUL
  rw [<- G.hU, <- G.hV] at this
  exact this
 ·have : two / v1 < 4294967298 := by
   rw [Nat.div_lt_iff_lt_mul (by omega)]
   omega
  omega

def digTail (k : Nat) (u v : List Int) (g : Int) : Option (Int × List Int) := (nat_take.f k u v g).bind fun (b, D) => if D.length = u.length then (if b = true then (if D.length = u.length then ((nat_give.f k D v).bind fun t => if t.length = D.length then some (IntKind.u64.wrap (g - 1), t) else none) else none) else (if D.length = u.length then some (g, D) else none)) else none
theorem digit_j2 (u v : List Int) (hu : Ok u) (hv : Ok v) (hn : u.length <= 35184372088832) (hl : v.length + 1 = u.length) (hV : 0 < val v) (g : Nat) (h : GEnd (val u) (val v) g) :
 ∃ D : List Int, Ok D /\ D.length = u.length /\ val D = val u % val v /\ Ev (fun k => digTail k u v (g : Int)) (((val u / val v : Nat) : Int), D) := by
 obtain ⟨h1, h2, h3⟩ := h
 obtain ⟨D, b, d1, d2, d3, d4⟩ := take_ev u v hu hv g h3 hn (by omega)
 have hDlt := val_lt D
 have hulen := val_lt u
 rw [d2] at hDlt
 cases b with
 | false =>
  rw [if_neg (by simp), Nat.add_zero] at d3
  have hq : val u / val v = g := by
   rw [Nat.div_eq_iff hV]
   constructor
   ·rw [Nat.mul_comm] at d3 ⊢; omega
   ·rw [Nat.add_mul, Nat.one_mul] at h1; omega
  have hm : val u % val v = val D := by
   have := Nat.div_add_mod (val u) (val v)
   rw [hq, Nat.mul_comm] at this
   omega
  refine ⟨D, d1, d2, hm.symm, Ev.bind d4 ?_⟩
  rw [hq]
  exact Ev.congr (fun k => by dsimp only; rw [if_pos d2, if_neg (by simp), if_pos d2]) (Ev.now _)
 | true =>
  rw [if_pos rfl] at d3
  obtain ⟨D2, c, e1, e2, e3, e4⟩ := give_ev D v d1 hv (by omega) (by omega)
  rw [d2] at e2 e3
  have hD2 := val_lt D2
  rw [e2] at hD2
  have hg1 : 1 <= g := by
   rcases Nat.eq_zero_or_pos g with h0 | h0
   ·rw [h0, Nat.zero_mul] at d3; omega
   ·exact h0
  obtain ⟨m, rfl⟩ : ∃ m, g = m + 1 := ⟨g - 1, by omega⟩
  rw [Nat.add_mul, Nat.one_mul] at d3 h2
  have hc : c = 1 := by
   rcases Nat.lt_or_ge c 1 with h0 | h0
   ·obtain rfl : c = 0 := by omega
    rw [Nat.mul_zero] at e3
    omega
   ·rcases Nat.lt_or_ge 1 c with h5 | h5
    ·have : 4294967296 ^ u.length * 2 <= 4294967296 ^ u.length * c := Nat.mul_le_mul_left _ h5
     have hvl := val_lt v
     have h6 : 4294967296 ^ v.length <= 4294967296 ^ u.length := Nat.pow_le_pow_right (by decide) (by omega)
     omega
    ·omega
  rw [hc, Nat.mul_one] at e3
  have hval : val D2 + m * val v = val u := by omega
  have hlt : val D2 < val v := by omega
  have hq : val u / val v = m := by
   rw [Nat.div_eq_iff hV]
   constructor
   ·omega
   ·omega
  have hm : val u % val v = val D2 := by
   have := Nat.div_add_mod (val u) (val v)
   rw [hq, Nat.mul_comm] at this
   omega
  refine ⟨D2, e1, e2, hm.symm, Ev.bind d4 ?_⟩
  refine Ev.congr (f := fun k => (nat_give.f k D v).bind fun t => if t.length = D.length then some (((m : Nat) : Int), t) else none) (fun k => ?_) (Ev.bind e4 ?_)
  ·have ew : IntKind.u64.wrap (((m + 1 : Nat) : Int) - 1) = (m : Int) := by
    clear d4 e4 e3 d3 h1 h2 hval hq hm hDlt hulen hD2
    rw [w64]; omega
   dsimp only
   rw [if_pos d2, if_pos rfl, if_pos d2, ew]
  ·rw [hq, e2, d2]
   exact Ev.congr (fun k => by rw [if_pos rfl]) (Ev.now _)

theorem digit_loop (u v : List Int) (hu : Ok u) (hv : Ok v) (hn : u.length <= 35184372088832) (hl : v.length + 1 = u.length) (hv2 : 2 <= v.length) (two P UL VL : Nat)
 (G : Guess (val u) (val v) two (rd v (v.length - 1 : Nat)).toNat (rd v (v.length - 2 : Nat)).toNat (rd u (v.length - 2 : Nat)).toNat P UL VL) (fuel : Nat) : ∀ (g r : Nat), 4294967296 - r <= fuel -> r < 4294967296 -> g <= 4294967297 -> GInv (val u) (val v) two (rd v (v.length - 1 : Nat)).toNat g r ->
 ∃ D : List Int, Ok D /\ D.length = u.length /\ val D = val u % val v /\ Ev (fun k => nat_digit.l0 k u v (v.length : Int) (g : Int) (r : Int)) (((val u / val v : Nat) : Int), D) := by
 have hV0 : 0 < val v := by
  have h1 := G.hV
  have h2 := G.hv1
  have h3 := G.hVL
  rcases Nat.eq_zero_or_pos (val v) with h0 | h0
  ·rw [h0] at h1
   have : 0 < P * ((rd v (v.length - 2 : Nat)).toNat + 4294967296 * (rd v (v.length - 1 : Nat)).toNat) := Nat.mul_pos (by omega) (by omega)
   omega
  ·exact h0
 have rv1 := rd_ok hv (v.length - 1 : Nat)
 have rv2 := rd_ok hv (v.length - 2 : Nat)
 have ru2 := rd_ok hu (v.length - 2 : Nat)
 have w1 : wrap64 ((v.length : Int) - 1) = ((v.length - 1 : Nat) : Int) := by clear G rv1 rv2 ru2; rw [wrap_id (by omega) (by omega)]; omega
 have w2 : wrap64 ((v.length : Int) - 2) = ((v.length - 2 : Nat) : Int) := by clear G rv1 rv2 ru2 w1; rw [wrap_id (by omega) (by omega)]; omega
 have b1 : (0 : Int) <= ((v.length - 1 : Nat) : Int) := Int.natCast_nonneg _
 have b2 : (0 : Int) <= ((v.length - 2 : Nat) : Int) := Int.natCast_nonneg _
 have b3 : ((v.length - 1 : Nat) : Int) < (v.length : Int) := by clear G rv1 rv2 ru2 w1 w2; omega
 have b4 : ((v.length - 2 : Nat) : Int) < (v.length : Int) := by clear G rv1 rv2 ru2 w1 w2; omega
 have b5 : ((v.length - 2 : Nat) : Int) < (u.length : Int) := by clear G rv1 rv2 ru2 w1 w2; omega
 obtain ⟨x1, hx1⟩ : ∃ x : Nat, rd v (v.length - 1 : Nat) = x := ⟨(rd v (v.length - 1 : Nat)).toNat, by clear G w1 w2; omega⟩
 obtain ⟨x2, hx2⟩ : ∃ x : Nat, rd v (v.length - 2 : Nat) = x := ⟨(rd v (v.length - 2 : Nat)).toNat, by clear G w1 w2; omega⟩
 obtain ⟨y2, hy2⟩ : ∃ x : Nat, rd u (v.length - 2 : Nat) = x := ⟨(rd u (v.length - 2 : Nat)).toNat, by clear G w1 w2; omega⟩
 rw [hx1, hx2, hy2] at G
 rw [hx1]
 simp only [Int.toNat_natCast] at G ⊢
 clear rv1 rv2 ru2
 induction fuel with
 | zero =>
  intro g r hf hr
  omega
 | succ fuel ih =>
  intro g r hf hr hg hI
  have k1 := G.hv1
  have k2 := G.hv1'
  have k3 := G.hv2
  have k4 := G.hu2
  have hmore : (4294967296 <= g \/ r * 4294967296 + y2 < g * x2) -> ∃ D : List Int, Ok D /\ D.length = u.length /\ val D = val u % val v /\ Ev (fun k => if 0 <= (wrap64 ((v.length : Int) - 1)) then (if (wrap64 ((v.length : Int) - 1)) < (v.length : Int) then (if (IntKind.u64.wrap ((r : Int) + (rd v (wrap64 ((v.length : Int) - 1))))) >= 4294967296 then digTail k u v (IntKind.u64.wrap ((g : Int) - 1)) else nat_digit.l0 k u v (v.length : Int) (IntKind.u64.wrap ((g : Int) - 1)) (IntKind.u64.wrap ((r : Int) + (rd v (wrap64 ((v.length : Int) - 1)))))) else none) else none) (((val u / val v : Nat) : Int), D) := by
   intro hc
   obtain ⟨hg1, hI'⟩ := G.more hI hc
   have eg : IntKind.u64.wrap ((g : Int) - 1) = ((g - 1 : Nat) : Int) := by clear w1 w2 hx1 hx2 hy2 hI' hI hc ih; rw [w64]; omega
   have er : IntKind.u64.wrap ((r : Int) + (x1 : Int)) = ((r + x1 : Nat) : Int) := by clear w1 w2 hx1 hx2 hy2 hI' hI hc ih eg; rw [w64]; omega
   by_cases hbig : 4294967296 <= r + x1
   ·obtain ⟨D, d1, d2, d3, d4⟩ := digit_j2 u v hu hv hn hl hV0 (g - 1) (G.stop hI' (by omega) (Or.inl hbig))
    have hbig' : (((r + x1 : Nat) : Int)) >= 4294967296 := by clear w1 w2 hx1 hx2 hy2 hI' hI hc ih eg er d4; omega
    refine ⟨D, d1, d2, d3, Ev.congr (fun k => ?_) d4⟩
    rw [w1, if_pos b1, if_pos b3, hx1, er, if_pos hbig', eg]
   ·obtain ⟨D, d1, d2, d3, d4⟩ := ih (g - 1) (r + x1) (by omega) (by omega) (by omega) hI'
    have hbig' : ¬ (((r + x1 : Nat) : Int)) >= 4294967296 := by clear w1 w2 hx1 hx2 hy2 hI' hI hc ih eg er d4; omega
    refine ⟨D, d1, d2, d3, Ev.congr (fun k => ?_) d4⟩
    rw [w1, if_pos b1, if_pos b3, hx1, er, if_neg hbig', eg]
  by_cases hgB : 4294967296 <= g
  ·obtain ⟨D, d1, d2, d3, d4⟩ := hmore (Or.inl hgB)
   have hgB' : (g : Int) >= 4294967296 := by clear w1 w2 hx1 hx2 hy2 hI ih d4; omega
   refine ⟨D, d1, d2, d3, Ev.step (fun k => ?_) d4⟩
   rw [nat_digit.l0, if_pos hgB']
   rfl
  ·have hgB' : ¬ (g : Int) >= 4294967296 := by clear w1 w2 hx1 hx2 hy2 hI ih; omega
   have em : IntKind.u64.wrap ((g : Int) * (x2 : Int)) = ((g * x2 : Nat) : Int) := by
    have h1 : g * x2 <= 4294967295 * 4294967295 := Nat.mul_le_mul (by omega) (by omega)
    rw [<- Int.natCast_mul]
    clear w1 w2 hx1 hx2 hy2 hI ih hmore
    generalize g * x2 = z at h1 ⊢
    rw [w64]; omega
   have eo : Go.bits .or .u64 (IntKind.u64.wrap ((r : Int) * 4294967296)) (y2 : Int) = ((r * 4294967296 + y2 : Nat) : Int) := by
    have h1 : (0 : Int) <= (r : Int) /\ (r : Int) < 4294967296 /\ (0 : Int) <= (y2 : Int) /\ (y2 : Int) < 4294967296 := by clear w1 w2 hx1 hx2 hy2 hI ih hmore em; omega
    rw [or_sum h1.1 h1.2.1 h1.2.2.1 h1.2.2.2, Int.natCast_add, Int.natCast_mul]
    rfl
   by_cases hc : r * 4294967296 + y2 < g * x2
   ·obtain ⟨D, d1, d2, d3, d4⟩ := hmore (Or.inr hc)
    refine ⟨D, d1, d2, d3, Ev.step (fun k => ?_) d4⟩
    rw [nat_digit.l0, if_neg hgB', w2, if_pos b2, if_pos b4, if_pos b5, hx2, hy2, em, eo, if_pos (Int.ofNat_lt.2 hc)]
    rfl
   ·obtain ⟨D, d1, d2, d3, d4⟩ := digit_j2 u v hu hv hn hl hV0 g (G.stop hI (by omega) (Or.inr (by omega)))
    refine ⟨D, d1, d2, d3, Ev.step (fun k => ?_) d4⟩
    rw [nat_digit.l0, if_neg hgB', w2, if_pos b2, if_pos b4, if_pos b5, hx2, hy2, em, eo, if_neg (fun h => hc (Int.ofNat_lt.1 h))]
    rfl
theorem split_two (l : List Int) (hl : Ok l) (m : Nat) (h : m < l.length) : val l = val (l.take m) + 4294967296 ^ m * ((rd l (m : Nat)).toNat + 4294967296 * val (l.drop (m + 1))) := by
 have r := rd_ok hl (m : Int)
 have h1 := split_at l m
 have h2 := val_drop l m h
 rw [Int.emod_eq_of_lt r.1 r.2] at h2
 rw [List.length_take, Nat.min_eq_left (Nat.le_of_lt h), h2] at h1
 exact h1
theorem drop_one (l : List Int) (hl : Ok l) (m : Nat) (h : m + 1 = l.length) : val (l.drop m) = (rd l (m : Nat)).toNat := by
 have r := rd_ok hl (m : Int)
 have h2 := val_drop l m (by omega)
 have e : val (l.drop (m + 1)) = 0 := by rw [List.drop_of_length_le (by omega)]; rfl
 rw [Int.emod_eq_of_lt r.1 r.2, e] at h2
 exact h2
theorem digit_ev (u v : List Int) (hu : Ok u) (hv : Ok v) (hn : u.length <= 35184372088832) (hl : v.length + 1 = u.length) (hv2 : 2 <= v.length) (hnorm : 2147483648 <= (rd v (v.length - 1 : Nat)).toNat) (hlt : val u < 4294967296 * val v) :
 ∃ D : List Int, Ok D /\ D.length = u.length /\ val D = val u % val v /\ Ev (fun k => nat_digit.f k u v) (((val u / val v : Nat) : Int), D) := by
 obtain ⟨m, hm⟩ : ∃ m, v.length = m + 2 := ⟨v.length - 2, by omega⟩
 have ru0 := rd_ok hu (v.length : Nat)
 have ru1 := rd_ok hu (v.length - 1 : Nat)
 have ru2 := rd_ok hu (v.length - 2 : Nat)
 have rv1 := rd_ok hv (v.length - 1 : Nat)
 have rv2 := rd_ok hv (v.length - 2 : Nat)
 have hvs := split_two v hv (v.length - 2) (by omega)
 have hvd := drop_one v hv (v.length - 1) (by omega)
 have hus := split_two u hu (v.length - 2) (by omega)
 have hud := val_drop u (v.length - 1) (by omega)
 have hud2 := drop_one u hu v.length (by omega)
 have e21 : v.length - 2 + 1 = v.length - 1 := by omega
 have e11 : v.length - 1 + 1 = v.length := by omega
 rw [e21, hvd] at hvs
 rw [e11, hud2, Int.emod_eq_of_lt ru1.1 ru1.2] at hud
 rw [e21, hud] at hus
 have hul := val_lt (u.take (v.length - 2))
 have hvl := val_lt (v.take (v.length - 2))
 rw [List.length_take, Nat.min_eq_left (by omega)] at hul hvl
 have G : Guess (val u) (val v) ((rd u (v.length - 1 : Nat)).toNat + 4294967296 * (rd u (v.length : Nat)).toNat) (rd v (v.length - 1 : Nat)).toNat (rd v (v.length - 2 : Nat)).toNat (rd u (v.length - 2 : Nat)).toNat (4294967296 ^ (v.length - 2)) (val (u.take (v.length - 2))) (val (v.take (v.length - 2))) :=
  ⟨hus, hvs, hul, hvl, by clear hus hvs hul hvl hud hvd hud2; omega, by clear hus hvs hul hvl hud hvd hud2; omega, hnorm, by clear hus hvs hul hvl hud hvd hud2; omega, hlt⟩
 obtain ⟨hI, hg⟩ := G.start
 clear hus hvs hud hvd hud2 hul hvl
 obtain ⟨x1, hx1⟩ : ∃ x : Nat, rd v (v.length - 1 : Nat) = x := ⟨(rd v (v.length - 1 : Nat)).toNat, by clear G hI hg; omega⟩
 obtain ⟨y1, hy1⟩ : ∃ x : Nat, rd u (v.length - 1 : Nat) = x := ⟨(rd u (v.length - 1 : Nat)).toNat, by clear G hI hg; omega⟩
 obtain ⟨y0, hy0⟩ : ∃ x : Nat, rd u (v.length : Nat) = x := ⟨(rd u (v.length : Nat)).toNat, by clear G hI hg; omega⟩
 have z1 : x1 < 4294967296 /\ 2147483648 <= x1 := by clear G hI hg; omega
 have z2 : y1 < 4294967296 /\ y0 < 4294967296 := by clear G hI hg; omega
 have hmod : (y1 + 4294967296 * y0) % x1 < x1 := Nat.mod_lt _ (by omega)
 have hmod2 : (y1 + 4294967296 * y0) % x1 < 4294967296 := by omega
 obtain ⟨D, d1, d2, d3, d4⟩ := digit_loop u v hu hv hn hl hv2 _ _ _ _ G 4294967296 (((rd u (v.length - 1 : Nat)).toNat + 4294967296 * (rd u (v.length : Nat)).toNat) / (rd v (v.length - 1 : Nat)).toNat) (((rd u (v.length - 1 : Nat)).toNat + 4294967296 * (rd u (v.length : Nat)).toNat) % (rd v (v.length - 1 : Nat)).toNat) (Nat.sub_le _ _) (by rw [hy1, hy0, hx1]; simpa only [Int.toNat_natCast] using hmod2) hg hI
 refine ⟨D, d1, d2, d3, Ev.congr (fun k => ?_) d4⟩
 rw [hy1, hy0, hx1]
 simp only [Int.toNat_natCast]
 have w1 : wrap64 ((v.length : Int) - 1) = ((v.length - 1 : Nat) : Int) := by
  clear G hI hg d4 ru0 ru1 ru2 rv1 rv2 hx1 hy1 hy0 hmod hmod2
  rw [wrap_id (by omega) (by omega)]; omega
 have b1 : (0 : Int) <= ((v.length - 1 : Nat) : Int) := Int.natCast_nonneg _
 have b0 : (0 : Int) <= (v.length : Int) := Int.natCast_nonneg _
 have b2 : (v.length : Int) < (u.length : Int) := by clear G hI hg d4 ru0 ru1 ru2 rv1 rv2 hx1 hy1 hy0 hmod hmod2 w1; omega
 have b3 : ((v.length - 1 : Nat) : Int) < (u.length : Int) := by clear G hI hg d4 ru0 ru1 ru2 rv1 rv2 hx1 hy1 hy0 hmod hmod2 w1; omega
 have b4 : ((v.length - 1 : Nat) : Int) < (v.length : Int) := by clear G hI hg d4 ru0 ru1 ru2 rv1 rv2 hx1 hy1 hy0 hmod hmod2 w1; omega
 have b5 : ¬ ((x1 : Int) = 0) := by clear G hI hg d4 ru0 ru1 ru2 rv1 rv2 hx1 hy1 hy0 hmod hmod2 w1; omega
 have eo : Go.bits .or .u64 (IntKind.u64.wrap ((y0 : Int) * 4294967296)) (y1 : Int) = ((y1 + 4294967296 * y0 : Nat) : Int) := by
  have h1 : (0 : Int) <= (y0 : Int) /\ (y0 : Int) < 4294967296 /\ (0 : Int) <= (y1 : Int) /\ (y1 : Int) < 4294967296 := by
   clear G hI hg d4 ru0 ru1 ru2 rv1 rv2 hx1 hy1 hy0 hmod hmod2 w1; omega
  rw [or_sum h1.1 h1.2.1 h1.2.2.1 h1.2.2.2, Int.natCast_add, Int.natCast_mul, Int.add_comm, Int.mul_comm]
  rfl
 have et : Int.tdiv ((y1 + 4294967296 * y0 : Nat) : Int) (x1 : Int) = (((y1 + 4294967296 * y0) / x1 : Nat) : Int) := rfl
 have er : Int.tmod ((y1 + 4294967296 * y0 : Nat) : Int) (x1 : Int) = (((y1 + 4294967296 * y0) % x1 : Nat) : Int) := rfl
 have eq : IntKind.u64.wrap (((y1 + 4294967296 * y0) / x1 : Nat) : Int) = (((y1 + 4294967296 * y0) / x1 : Nat) : Int) := by
  rw [hy1, hy0, hx1] at hg
  simp only [Int.toNat_natCast] at hg
  clear G hI d4 ru0 ru1 ru2 rv1 rv2 hx1 hy1 hy0 hmod hmod2 w1 eo et er
  generalize (y1 + 4294967296 * y0) / x1 = z at hg ⊢
  rw [w64]; omega
 unfold nat_digit.f
 rw [if_pos b2, w1, if_pos b1, if_pos b3, if_pos b4, hx1, if_neg b5, hy0, hy1, eo, et, er, eq]


end Go.DI.Th
namespace Go.DI.Th
open Go Go.RowKit Go.DI

def bl (n : Nat) : Nat := if n = 0 then 0 else Nat.log2 n + 1
theorem bl_lt (n : Nat) : n < 2 ^ bl n := by
 unfold bl
 by_cases h : n = 0
 ·rw [if_pos h, h]; decide
 ·rw [if_neg h]; exact Nat.lt_log2_self
theorem bl_le {n : Nat} (h : n ≠ 0) : 2 ^ (bl n - 1) <= n := by
 unfold bl
 rw [if_neg h, Nat.add_sub_cancel]
 exact Nat.log2_self_le h
theorem bl_eq {n k : Nat} (h1 : 2 ^ k <= n) (h2 : n < 2 ^ (k + 1)) : bl n = k + 1 := by
 have h0 : n ≠ 0 := by
  have := Nat.two_pow_pos k
  omega
 unfold bl
 rw [if_neg h0, (Nat.log2_eq_iff h0).2 ⟨h1, h2⟩]
theorem bl_shift (n s : Nat) (h : 2 ^ s <= n) : bl n = s + bl (n / 2 ^ s) := by
 have hp := Nat.two_pow_pos s
 have h0 : n / 2 ^ s ≠ 0 := by
  have := (Nat.le_div_iff_mul_le hp (x := 1) (y := n)).2 (by omega)
  omega
 obtain ⟨k, hk⟩ : ∃ k, bl (n / 2 ^ s) = k + 1 := ⟨Nat.log2 (n / 2 ^ s), by unfold bl; rw [if_neg h0]⟩
 have h1 := bl_le h0
 have h2 := bl_lt (n / 2 ^ s)
 rw [hk] at h1 h2 ⊢
 rw [Nat.add_sub_cancel] at h1
 have h3 := (Nat.le_div_iff_mul_le hp).1 h1
 have h4 := (Nat.div_lt_iff_lt_mul hp).1 h2
 rw [<- Nat.pow_add] at h3 h4
 rw [bl_eq (k := k + s) h3 (by rw [show k + s + 1 = k + 1 + s by omega]; exact h4)]
 omega
theorem len8_at (n : Nat) (h : n < 256) : bt cst_len8 (n : Int) = (bl n : Int) := by
 have : ∀ i : Fin 256, bt cst_len8 ((i.1 : Nat) : Int) = ((bl i.1 : Nat) : Int) := by decide +kernel
 exact this ⟨n, h⟩
theorem len8_size : (cst_len8.size : Int) = 256 := by decide +kernel
theorem w8 (n : Nat) (h : n < 256) : IntKind.u8.wrap (n : Int) = (n : Int) := by
 rw [IntKind.wrap_u8]; omega
theorem bl_small (n : Nat) (h : n < 256) : bl n <= 8 := by
 have : ∀ i : Fin 256, bl i.1 <= 8 := by decide +kernel
 exact this ⟨n, h⟩
theorem len32_eq (n : Nat) (h : n < 4294967296) : bits_Len32.f (n : Int) = some (bl n : Int) := by
 unfold bits_Len32.f
 have part : ∀ m : Nat, m < 256 -> ∀ c : Int, 0 <= c -> c <= 24 -> (if 0 <= IntKind.u8.wrap (m : Int) then (if IntKind.u8.wrap (m : Int) < (cst_len8.size : Int) then (some (wrap64 (c + wrap64 (bt cst_len8 (IntKind.u8.wrap (m : Int)))))) else none) else none) = some (c + (bl m : Int)) := by
  intro m hm c hc hc2
  have := bl_small m hm
  rw [w8 m hm, if_pos (by omega), len8_size, if_pos (by omega), len8_at m hm, wrap_id (i := (bl m : Int)) (by omega) (by omega), wrap_id (by omega) (by omega)]
 have d1 : (n : Int) / 65536 = ((n / 65536 : Nat) : Int) := rfl
 have d2 : ((n / 65536 : Nat) : Int) / 256 = ((n / 65536 / 256 : Nat) : Int) := rfl
 have d3 : (n : Int) / 256 = ((n / 256 : Nat) : Int) := rfl
 by_cases h1 : (n : Int) >= 65536
 ·rw [if_pos h1, d1, d2]
  have s1 := bl_shift n 16 (by omega)
  by_cases h2 : ((n / 65536 : Nat) : Int) >= 256
  ·have s2 := bl_shift (n / 65536) 8 (by omega)
   rw [if_pos h2, wrap_id (i := 16 + 8) (by omega) (by omega), part _ (by omega) (16 + 8) (by omega) (by omega)]
   have : (2 : Nat) ^ 16 = 65536 := rfl
   have : (2 : Nat) ^ 8 = 256 := rfl
   simp only [*]
   congr 1
   omega
  ·rw [if_neg h2, part _ (by omega) 16 (by omega) (by omega)]
   have : (2 : Nat) ^ 16 = 65536 := rfl
   simp only [*]
   congr 1
 ·rw [if_neg h1]
  by_cases h2 : (n : Int) >= 256
  ·have s2 := bl_shift n 8 (by omega)
   rw [if_pos h2, d3, wrap_id (i := 0 + 8) (by omega) (by omega), part _ (by omega) (0 + 8) (by omega) (by omega)]
   have : (2 : Nat) ^ 8 = 256 := rfl
   simp only [*]
   congr 1
  ·rw [if_neg h2, part n (by omega) 0 (by omega) (by omega)]
   congr 1
   omega
theorem bl_32 (n : Nat) (h : n < 4294967296) : bl n <= 32 := by
 by_cases h0 : n = 0
 ·subst h0; decide
 ·have := bl_le h0
  apply Classical.byContradiction
  intro hc
  have := Nat.pow_le_pow_right (n := 2) (by decide) (show 32 <= bl n - 1 by omega)
  omega
theorem lz32_eq (n : Nat) (h : n < 4294967296) : bits_LeadingZeros32.f (n : Int) = some ((32 - bl n : Nat) : Int) := by
 have := bl_32 n h
 unfold bits_LeadingZeros32.f
 rw [len32_eq n h, Option.bind_some, wrap_id (by omega) (by omega)]
 congr 1
 omega
theorem bl_norm (n : Nat) (h0 : n ≠ 0) (h : n < 4294967296) : 2147483648 <= n * 2 ^ (32 - bl n) /\ n * 2 ^ (32 - bl n) < 4294967296 := by
 have h1 := bl_32 n h
 have h2 := bl_le h0
 have h3 := bl_lt n
 have hb : 1 <= bl n := by
  unfold bl; rw [if_neg h0]; omega
 have e1 : 2 ^ (bl n - 1) * 2 ^ (32 - bl n) = 2147483648 := by rw [<- Nat.pow_add, show bl n - 1 + (32 - bl n) = 31 by omega]
 have e2 : 2 ^ bl n * 2 ^ (32 - bl n) = 4294967296 := by rw [<- Nat.pow_add, show bl n + (32 - bl n) = 32 by omega]
 have h4 := Nat.mul_le_mul_right (2 ^ (32 - bl n)) h2
 have h5 := Nat.mul_lt_mul_of_pos_right h3 (Nat.two_pow_pos (32 - bl n))
 omega

theorem odd_part : ∀ n : Nat, n ≠ 0 -> ∃ t m, n = 2 ^ t * (2 * m + 1) := by
 intro n
 induction n using Nat.strongRecOn with
 | ind n ih =>
  intro h
  rcases Nat.mod_two_eq_zero_or_one n with h1 | h1
  ·obtain ⟨t, m, hm⟩ := ih (n / 2) (by omega) (by omega)
   refine ⟨t + 1, m, ?_⟩
   rw [Nat.pow_succ, Nat.mul_comm (2 ^ t) 2, Nat.mul_assoc, <- hm]
   omega
  ·exact ⟨0, n / 2, by rw [Nat.pow_zero, Nat.one_mul]; omega⟩
theorem odd_unique : ∀ (t t' m m' : Nat), 2 ^ t * (2 * m + 1) = 2 ^ t' * (2 * m' + 1) -> t = t'
 | 0, 0, _, _, _ => rfl
 | 0, t' + 1, m, m', h => by
  rw [Nat.pow_succ, Nat.mul_comm (2 ^ t') 2, Nat.mul_assoc] at h
  omega
 | t + 1, 0, m, m', h => by
  rw [Nat.pow_succ, Nat.mul_comm (2 ^ t) 2, Nat.mul_assoc] at h
  omega
 | t + 1, t' + 1, m, m', h => by
  rw [Nat.pow_succ, Nat.pow_succ, Nat.mul_comm (2 ^ t') 2, Nat.mul_comm (2 ^ t) 2, Nat.mul_assoc, Nat.mul_assoc] at h
  rw [odd_unique t t' m m' (by omega)]
theorem and_minus (x t m : Nat) (hx : x = 2 ^ t * (2 * m + 1)) (h : x < 2 ^ 64) : x &&& (2 ^ 64 - x) = 2 ^ t := by
 have hp := Nat.two_pow_pos t
 have ht : t < 64 := by
  apply Classical.byContradiction
  intro hc
  have h1 := Nat.pow_le_pow_right (n := 2) (by decide) (show 64 <= t by omega)
  have h2 : 2 ^ t * 1 <= 2 ^ t * (2 * m + 1) := Nat.mul_le_mul_left _ (by omega)
  omega
 have hy : x = (2 ^ t * (2 * m) + (2 ^ t - 1)) + 1 := by
  rw [hx, Nat.mul_add]; omega
 have hx0 : x = 2 ^ t * (2 * m + 1) + 0 := hx
 apply Nat.eq_of_testBit_eq
 intro i
 rw [Nat.testBit_and, Nat.testBit_two_pow]
 have e1 : (2 ^ 64 - x).testBit i = (decide (i < 64) && !(2 ^ t * (2 * m) + (2 ^ t - 1)).testBit i) := by
  conv => lhs; rw [hy]
  exact Nat.testBit_two_pow_sub_succ (by omega) i
 have e2 : x.testBit i = if i < t then (0 : Nat).testBit i else (2 * m + 1).testBit (i - t) := by
  conv => lhs; rw [hx0]
  exact Nat.testBit_two_pow_mul_add _ hp i
 rw [e1, e2, Nat.testBit_two_pow_mul_add _ (by omega) i]
 by_cases h1 : i < t
 ·rw [if_pos h1, if_pos h1, Nat.zero_testBit, Bool.false_and, decide_eq_false (by omega)]
 ·rw [if_neg h1, if_neg h1]
  obtain ⟨j, rfl⟩ : ∃ j, i = t + j := ⟨i - t, by omega⟩
  rw [Nat.add_sub_cancel_left]
  cases j with
  | zero =>
   rw [Nat.testBit_zero, Nat.testBit_zero]
   simp
   omega
  | succ j =>
   rw [Nat.testBit_succ, Nat.testBit_succ, show (2 * m + 1) / 2 = m by omega, show 2 * m / 2 = m by omega]
   rw [decide_eq_false (show ¬ t = t + (j + 1) by omega)]
   cases m.testBit j <;> simp
theorem tz64_eq (x t m : Nat) (hx : x = 2 ^ t * (2 * m + 1)) (h : x < 18446744073709551616) : bits_TrailingZeros64.f (x : Int) = some (t : Int) := by
 have hp := Nat.two_pow_pos t
 have h0 : 0 < x := by
  rw [hx]; exact Nat.mul_pos hp (by omega)
 have ht : t < 64 := by
  apply Classical.byContradiction
  intro hc
  have h1 := Nat.pow_le_pow_right (n := 2) (by decide) (show 64 <= t by omega)
  have h2 : 2 ^ t * 1 <= 2 ^ t * (2 * m + 1) := Nat.mul_le_mul_left _ (by omega)
  omega
 have e : Go.bits .and .u64 (x : Int) (IntKind.u64.wrap (0 - (x : Int))) = ((2 ^ t : Nat) : Int) := by
  have e1 : IntKind.u64.wrap (0 - (x : Int)) = ((2 ^ 64 - x : Nat) : Int) := by
   rw [w64]; omega
  rw [e1, bits_and_u64_nat x _ h (by omega), and_minus x t m hx h]
 unfold bits_TrailingZeros64.f
 rw [if_neg (by omega), e]
 have : ∀ i : Fin 64, (if 0 <= ((IntKind.u64.wrap (((2 ^ i.1 : Nat) : Int) * 285870213051353865)) / 288230376151711744) then (if ((IntKind.u64.wrap (((2 ^ i.1 : Nat) : Int) * 285870213051353865)) / 288230376151711744) < 64 then (some (wrap64 ((rd tab_deBruijn64tab ((IntKind.u64.wrap (((2 ^ i.1 : Nat) : Int) * 285870213051353865)) / 288230376151711744))))) else none) else none) = some ((i.1 : Nat) : Int) := by decide +kernel
 exact this ⟨t, ht⟩

theorem zeros_loop (a : List Int) (ha : Ok a) (hn : a.length <= 35184372088832) (T M : Nat) (hT : val a = 2 ^ T * (2 * M + 1)) (d : Nat) : ∀ i : Nat, i + d = a.length -> val (a.take i) = 0 ->
 Ev (fun k => nat_zeros.l0 k ((32 * i : Nat) : Int) a (a.length : Int) (i : Int)) (T : Int) := by
 have hp := Nat.two_pow_pos T
 have h0 : 0 < val a := by
  rw [hT]; exact Nat.mul_pos hp (by omega)
 induction d with
 | zero =>
  intro i hi hv
  obtain rfl : i = a.length := by omega
  rw [List.take_length] at hv
  omega
 | succ d ih =>
  intro i hi hv
  have ra := rd_ok ha (i : Int)
  by_cases hz : rd a (i : Int) = 0
  ·refine Ev.step (fun k => ?_) (ih (i + 1) (by omega) ?_)
   ·rw [nat_zeros.l0, if_pos (by omega), if_pos (by omega), if_pos (by omega), if_neg (by omega), wrap_id (by omega) (by omega), wrap_id (by omega) (by omega)]
    congr 1
   ·rw [val_take_succ a i (by omega), hv, hz]; rfl
  ·obtain ⟨x, hx⟩ : ∃ x : Nat, rd a (i : Int) = x := ⟨(rd a i).toNat, by omega⟩
   obtain ⟨t, m, hm⟩ := odd_part x (by omega)
   have ht : t < 32 := by
    apply Classical.byContradiction
    intro hc
    have h1 := Nat.pow_le_pow_right (n := 2) (by decide) (show 32 <= t by omega)
    have h2 : 2 ^ t * 1 <= 2 ^ t * (2 * m + 1) := Nat.mul_le_mul_left _ (by omega)
    omega
   have hs := split_two a ha i (by omega)
   rw [hv, Nat.zero_add, hx, Int.toNat_natCast, hm, hT] at hs
   have e1 : (4294967296 : Nat) ^ i = 2 ^ (32 * i) := by rw [show (4294967296 : Nat) = 2 ^ 32 from rfl, <- Nat.pow_mul]
   have e2 : (4294967296 : Nat) = 2 ^ t * (2 * 2 ^ (31 - t)) := by
    rw [show 2 * 2 ^ (31 - t) = 2 ^ (31 - t + 1) by rw [Nat.pow_succ, Nat.mul_comm], <- Nat.pow_add, show t + (31 - t + 1) = 32 by omega]
   have e3 : 2 ^ t * (2 * m + 1) + 4294967296 * val (a.drop (i + 1)) = 2 ^ t * (2 * (m + 2 ^ (31 - t) * val (a.drop (i + 1))) + 1) := by
    conv => lhs; rw [e2]
    grind
   rw [e3, e1, <- Nat.mul_assoc, <- Nat.pow_add] at hs
   have hTe := odd_unique _ _ _ _ hs
   refine Ev.step (fun k => ?_) (Ev.now _)
   rw [nat_zeros.l0, if_pos (by omega), if_pos (by omega), if_pos (by omega), if_pos (by omega), hx, tz64_eq x t m hm (by omega), Option.bind_some, wrap_id (i := 32 * (i : Int)) (by omega) (by omega), wrap_id (by omega) (by omega), hTe]
   congr 1
theorem zeros_ev (a : List Int) (ha : Ok a) (hn : a.length <= 35184372088832) (T M : Nat) (hT : val a = 2 ^ T * (2 * M + 1)) : Ev (fun k => nat_zeros.f k a) (T : Int) :=
 zeros_loop a ha hn T M hT a.length 0 (by omega) rfl

theorem lm_one {n : Nat} (h0 : n ≠ 0) (h : n < 4294967296) : lm n = [(n : Int)] := by
 rw [lm_pos h0, Nat.mod_eq_of_lt h, Nat.div_eq_of_lt h, lm_zero]
theorem lm_two {n : Nat} (h0 : 4294967296 <= n) (h : n < 18446744073709551616) : lm n = [((n % 4294967296 : Nat) : Int), ((n / 4294967296 : Nat) : Int)] := by
 rw [lm_pos (by omega), lm_one (by omega) (by omega)]
theorem len_le_one {n : Nat} : len n <= 1 ↔ n < 4294967296 := by
 constructor
 ·intro h
  have h1 := lt_pow_len n
  have h2 := Nat.pow_le_pow_right (n := 4294967296) (by decide) h
  omega
 ·intro h
  exact len_le (by omega)
theorem len_le_two {n : Nat} : len n <= 2 ↔ n < 18446744073709551616 := by
 constructor
 ·intro h
  have h1 := lt_pow_len n
  have h2 := Nat.pow_le_pow_right (n := 4294967296) (by decide) h
  omega
 ·intro h
  exact len_le (by omega)
theorem to_ev (a : List Int) (ha : U a) (hn : a.length <= 35184372088832) : Ev (fun k => nat_To.f k a) (if val a < 18446744073709551616 then ((val a : Int), true) else (0, false)) := by
 refine Ev.bind (clean_ev a ha hn) ?_
 generalize val a = n
 rw [lm_length]
 by_cases h0 : n = 0
 ·subst h0
  refine Ev.congr (fun k => ?_) (Ev.now _)
  rw [if_pos (by rw [len_zero]; rfl)]
  rfl
 ·have l0 : len n ≠ 0 := fun h => h0 (len_eq_zero.1 h)
  by_cases h1 : n < 4294967296
  ·have l1 := len_le_one.2 h1
   refine Ev.congr (fun k => ?_) (Ev.now _)
   rw [if_neg (by omega), if_pos (by omega), if_pos (by omega), if_pos (by omega), lm_one h0 h1]
   rfl
  ·have l1 : ¬ len n <= 1 := fun h => h1 (len_le_one.1 h)
   by_cases h2 : n < 18446744073709551616
   ·have l2 := len_le_two.2 h2
    refine Ev.congr (fun k => ?_) (Ev.now _)
    rw [if_neg (by omega), if_neg (by omega), if_pos (by omega), if_pos (by omega), if_pos (by omega), if_pos h2, lm_two (by omega) h2]
    have := or_sum (x := ((n / 4294967296 : Nat) : Int)) (y := ((n % 4294967296 : Nat) : Int)) (by omega) (by omega) (by omega) (by omega)
    show some ((Go.bits .or .u64 (IntKind.u64.wrap (((n / 4294967296 : Nat) : Int) * 4294967296)) ((n % 4294967296 : Nat) : Int)), true) = _
    rw [this]
    congr 2
    omega
   ·have l2 : ¬ len n <= 2 := fun h => h2 (len_le_two.1 h)
    refine Ev.congr (fun k => ?_) (Ev.now _)
    rw [if_neg (by omega), if_neg (by omega), if_neg (by omega), if_neg h2]

theorem euclid_loop : ∀ (y x : Nat), x < 18446744073709551616 -> y < 18446744073709551616 -> Ev (fun k => nat_euclid.l0 k (x : Int) (y : Int)) (lm (Nat.gcd x y)) := by
 intro y
 induction y using Nat.strongRecOn with
 | ind y ih =>
  intro x hx hy
  by_cases h0 : y = 0
  ·subst h0
   rw [Nat.gcd_zero_right]
   refine Ev.step (f := fun k => (nat_Of.f k (x : Int)).bind fun v => some v) (fun k => ?_) (Ev.bind (of_ev (x : Int) (by omega) (by omega)) (Ev.now _))
   rw [nat_euclid.l0, if_neg (by omega)]
  ·refine Ev.step (fun k => ?_) ((ih (x % y) (Nat.mod_lt _ (by omega)) y hy (Nat.lt_trans (Nat.mod_lt _ (by omega)) hy)).of_eq ?_)
   ·rw [nat_euclid.l0, if_pos (by omega), if_neg (by omega)]
    rfl
   ·rw [Nat.gcd_comm x y, Nat.gcd_rec y x, Nat.gcd_comm]
theorem euclid_ev (a b : Nat) (ha : a < 18446744073709551616) (hb : b < 18446744073709551616) : Ev (fun k => nat_euclid.f k (lm a) (lm b)) (lm (Nat.gcd a b)) := by
 have l : ∀ n : Nat, n < 18446744073709551616 -> (lm n).length <= 35184372088832 := fun n h => by
  have := len_le_two.2 h
  rw [lm_length]; omega
 have e1 := to_ev (lm a) (lm_ok a).U (l a ha)
 have e2 := to_ev (lm b) (lm_ok b).U (l b hb)
 rw [val_lm, if_pos ha] at e1
 rw [val_lm, if_pos hb] at e2
 exact Ev.bind e1 (Ev.bind e2 (euclid_loop b a ha hb))
end Go.DI.Th
namespace Go.DI.Th
open Go Go.RowKit Go.DI

theorem val_drop_div (l : List Int) (i : Nat) (h : i <= l.length) : val (l.drop i) = val l / 4294967296 ^ i := by
 have := drop_more l 0 i (by omega)
 rwa [Nat.zero_add, List.drop_zero] at this
theorem val_take_mod (l : List Int) (i : Nat) (h : i <= l.length) : val (l.take i) = val l % 4294967296 ^ i := by
 have h1 := split_at l i
 rw [List.length_take, Nat.min_eq_left h] at h1
 have h2 := val_lt (l.take i)
 rw [List.length_take, Nat.min_eq_left h] at h2
 rw [h1, Nat.add_mul_mod_self_left, Nat.mod_eq_of_lt h2]
theorem rd_top (m : Nat) (h : m ≠ 0) : (rd (lm m) ((len m - 1 : Nat) : Int)).toNat = m / 4294967296 ^ (len m - 1) := by
 have h0 : len m ≠ 0 := fun e => h (len_eq_zero.1 e)
 have h1 := drop_one (lm m) (lm_ok m) (len m - 1) (by rw [lm_length]; omega)
 rw [<- h1, val_drop_div _ _ (by rw [lm_length]; omega), val_lm]
theorem len_eq_of {m k : Nat} (h1 : 4294967296 ^ k <= m) (h2 : m < 4294967296 ^ (k + 1)) : len m = k + 1 := by
 have h3 := len_le h2
 apply Nat.le_antisymm h3
 apply Classical.byContradiction
 intro hc
 have h4 := lt_pow_len m
 have h5 := Nat.pow_le_pow_right (n := 4294967296) (by decide) (show len m <= k by omega)
 omega

theorem lg1 (A T P B V q D d Z : Nat) (hA : A = (T + P * (V * q + D)) + P * B * (d * V)) (hZ : Z = 0) : A = (T + P * (D + B * Z)) + P * ((q + B * d) * V) := by subst hZ; grind
theorem long_step (v u done : List Int) (s : Int) (j k : Nat) (hul : u.length <= 1099511627776) (hjn : j + 1 + v.length <= u.length) (hdl : done.length + (j + 1) <= 1099511627776) :
 nat_long.l0 (k + 1) s v u (v.length : Int) (List.replicate (j + 1) 0 ++ done) (((j + 1 : Nat) : Int) - 1) =
 (nat_digit.f k ((u.drop j).take (v.length + 1)) v).bind fun v12 => if v12.2.length = ((u.drop j).take (v.length + 1)).length then nat_long.l0 k s v (u.take j ++ v12.2 ++ u.drop (j + (v.length + 1))) (v.length : Int) (List.replicate j 0 ++ v12.1 :: done) ((j : Int) - 1) else none := by
 have t1 : (((j + 1 : Nat) : Int) - 1).toNat = j := by omega
 have t2 : (((j + v.length + 1 : Nat) : Int)).toNat = j + (v.length + 1) := by omega
 have t3 : j + (v.length + 1) - j = v.length + 1 := by omega
 have c1 : (((j + 1 : Nat) : Int) - 1) >= 0 := by omega
 have c2 : (((j + 1 : Nat) : Int) - 1) < ((j + v.length + 1 : Nat) : Int) := by omega
 have c3 : ((j + v.length + 1 : Nat) : Int) <= (u.length : Int) := by omega
 have c4 : (((j + 1 : Nat) : Int) - 1) < ((j + 1 + done.length : Nat) : Int) := by omega
 have w1 : wrap64 ((((j + 1 : Nat) : Int) - 1) + (v.length : Int)) = ((j + v.length : Nat) : Int) := by rw [wrap_id (by omega) (by omega)]; omega
 have w2 : wrap64 (((j + v.length : Nat) : Int) + 1) = ((j + v.length + 1 : Nat) : Int) := by clear w1; rw [wrap_id (by omega) (by omega)]; omega
 have w3 : wrap64 ((((j + 1 : Nat) : Int) - 1) - 1) = (j : Int) - 1 := by clear w1 w2; rw [wrap_id (by omega) (by omega)]; omega
 have hrl : (List.replicate (j + 1) (0 : Int) ++ done).length = j + 1 + done.length := by rw [List.length_append, List.length_replicate]
 rw [nat_long.l0, if_pos c1, w1, w2, w3, t1, t2, t3, if_pos c2, if_pos c3]
 congr 1
 funext v12
 rw [hrl, if_pos c4, fillr]
theorem long_digit (v : List Int) (hv : Ok v) (hv2 : 2 <= v.length) (hnorm : 2147483648 <= (rd v (v.length - 1 : Nat)).toNat) (A j : Nat) (u done : List Int) (hu : Ok u) (hd : Ok done) (hul : u.length <= 1099511627776) (hjn : j + 1 + v.length <= u.length)
 (hA : A = val u + 4294967296 ^ (j + 1) * (val done * val v)) (hlt : val (u.drop (j + 1)) < val v) :
 ∃ (D : List Int) (g : Int), Ev (fun k => nat_digit.f k ((u.drop j).take (v.length + 1)) v) (g, D) /\ D.length = v.length + 1 /\ ((u.drop j).take (v.length + 1)).length = v.length + 1 /\ Ok (u.take j ++ D ++ u.drop (j + (v.length + 1))) /\ (u.take j ++ D ++ u.drop (j + (v.length + 1))).length = u.length /\
  Ok (g :: done) /\ A = val (u.take j ++ D ++ u.drop (j + (v.length + 1))) + 4294967296 ^ j * (val (g :: done) * val v) /\ val ((u.take j ++ D ++ u.drop (j + (v.length + 1))).drop j) < val v := by
 have hj : j < u.length := by omega
 have hdj : ∃ x : Nat, x < 4294967296 /\ val (u.drop j) = x + 4294967296 * val (u.drop (j + 1)) := by
  have ru := rd_ok hu (j : Int)
  have hdj := val_drop u j hj
  rw [Int.emod_eq_of_lt ru.1 ru.2] at hdj
  exact ⟨(rd u j).toNat, by omega, hdj⟩
 obtain ⟨x, hx, hdj⟩ := hdj
 have hvl := val_lt v
 have hw : val (u.drop j) < 4294967296 * val v := by omega
 have hwl : ((u.drop j).take (v.length + 1)).length = v.length + 1 := by rw [List.length_take, List.length_drop]; omega
 have hbig : val (u.drop j) < 4294967296 ^ (v.length + 1) := by
  rw [Nat.pow_succ, Nat.mul_comm]
  exact Nat.lt_of_lt_of_le hw (Nat.mul_le_mul_left _ (Nat.le_of_lt hvl))
 have hwv : val ((u.drop j).take (v.length + 1)) = val (u.drop j) := by
  rw [val_take_mod _ _ (by rw [List.length_drop]; omega), Nat.mod_eq_of_lt hbig]
 obtain ⟨D, d1, d2, d3, d4⟩ := digit_ev ((u.drop j).take (v.length + 1)) v ((hu.drop j).take _) hv (by rw [hwl]; omega) (by rw [hwl]) hv2 hnorm (by rw [hwv]; exact hw)
 rw [hwv] at d3 d4
 rw [hwl] at d2
 have hhigh : val (u.drop (j + (v.length + 1))) = 0 := by
  rw [drop_more u j (v.length + 1) (by omega), Nat.div_eq_of_lt hbig]
 have hV : 0 < val v := Nat.lt_of_le_of_lt (Nat.zero_le _) hlt
 have hql : val (u.drop j) / val v < 4294967296 := by
  rw [Nat.div_lt_iff_lt_mul hV]; exact hw
 have hDlt : val D < val v := by rw [d3]; exact Nat.mod_lt _ hV
 have htl : (u.take j).length = j := by rw [List.length_take]; exact Nat.min_eq_left (Nat.le_of_lt hj)
 have hq0 : 0 <= (((val (u.drop j) / val v : Nat) : Int)) /\ (((val (u.drop j) / val v : Nat) : Int)) < 4294967296 := ⟨Int.natCast_nonneg _, Int.ofNat_lt.2 hql⟩
 refine ⟨D, _, d4, d2, hwl, ((hu.take j).append d1).append (hu.drop _), ?_, Ok.cons hq0 hd, ?_, ?_⟩
 ·simp only [List.length_append, List.length_take, List.length_drop, d2]; omega
 ·have e1 := split_at u j
  rw [htl, <- Nat.div_add_mod (val (u.drop j)) (val v), <- d3] at e1
  rw [List.append_assoc, val_append, val_append, htl, val_cons]
  have e2 : (((val (u.drop j) / val v : Nat) : Int) % 4294967296).toNat = val (u.drop j) / val v := by
   rw [Int.emod_eq_of_lt hq0.1 hq0.2, Int.toNat_natCast]
  rw [e2, hhigh, Nat.mul_zero, Nat.add_zero]
  have e3 := lg1 A (val (u.take j)) (4294967296 ^ j) 4294967296 (val v) (val (u.drop j) / val v) (val D) (val done) 0 (by rw [<- e1, <- Nat.pow_succ]; exact hA) rfl
  rw [Nat.mul_zero, Nat.add_zero] at e3
  exact e3
 ·rw [List.append_assoc, List.drop_append_of_le_length (Nat.le_of_eq htl.symm), List.drop_of_length_le (Nat.le_of_eq htl), List.nil_append, val_append, hhigh, Nat.mul_zero, Nat.add_zero]
  exact hDlt
theorem long_loop (v : List Int) (hv : Ok v) (hv2 : 2 <= v.length) (hnorm : 2147483648 <= (rd v (v.length - 1 : Nat)).toNat) (s : Nat) (hs : s < 32) (A : Nat) : ∀ (j : Nat) (u done : List Int), Ok u -> Ok done -> u.length <= 1099511627776 -> j + v.length <= u.length -> done.length + j <= 1099511627776 ->
 A = val u + 4294967296 ^ j * (val done * val v) -> val (u.drop j) < val v ->
 Ev (fun k => nat_long.l0 k (s : Int) v u (v.length : Int) (List.replicate j 0 ++ done) ((j : Int) - 1)) (lm (A / val v), lm (A % val v / 2 ^ s)) := by
 intro j
 induction j with
 | zero =>
  intro u done hu hd hul hjn hdl hA hlt
  rw [Nat.pow_zero, Nat.one_mul] at hA
  rw [List.drop_zero] at hlt
  have hV : 0 < val v := Nat.lt_of_le_of_lt (Nat.zero_le _) hlt
  have hq : A / val v = val done := by
   rw [hA, Nat.add_mul_div_right _ _ hV, Nat.div_eq_of_lt hlt, Nat.zero_add]
  have hr : A % val v = val u := by
   rw [hA, Nat.add_mul_mod_self_right, Nat.mod_eq_of_lt hlt]
  rw [hq, hr]
  have e1 := trim_ev done hd (by omega)
  have e2 := trim_ev u hu (by omega)
  have e3 := shr_ev (lm (val u)) (lm_ok _) s (by have := val_len u; rw [lm_length]; omega) (by omega)
  rw [val_lm] at e3
  refine Ev.step (f := fun k => (nat_trim.f k done).bind fun v3 => (nat_trim.f k u).bind fun v5 => (nat_shr.f k v5 (s : Int)).bind fun v7 => some (v3, v7)) (fun k => ?_) (Ev.bind e1 (Ev.bind e2 (Ev.bind e3 (Ev.now _))))
  rw [nat_long.l0, if_neg (by omega)]
  rfl
 | succ j ih =>
  intro u done hu hd hul hjn hdl hA hlt
  obtain ⟨D, g, d4, d2, hwl, hu', hl', hd', hA', hdr⟩ := long_digit v hv hv2 hnorm A j u done hu hd hul hjn hA hlt
  have hih := ih _ (g :: done) hu' hd' (by rw [hl']; exact hul) (by rw [hl']; omega) (by rw [List.length_cons]; omega) hA' hdr
  refine Ev.step (fun k => long_step v u done (s : Int) j k hul hjn hdl) (Ev.bind d4 ?_)
  refine Ev.congr (fun k => ?_) hih
  dsimp only
  rw [if_pos (by rw [d2, hwl])]
end Go.DI.Th
namespace Go.DI.Th
open Go Go.RowKit Go.DI

theorem w32 (n : Nat) (h : n < 4294967296) : IntKind.u32.wrap (n : Int) = (n : Int) := by
 rw [IntKind.wrap_u32]; omega
theorem lm_rd_top (b : Nat) (hb : b ≠ 0) : ∃ t : Nat, rd (lm b) ((len b - 1 : Nat) : Int) = (t : Int) /\ t < 4294967296 /\ t ≠ 0 /\ t = b / 4294967296 ^ (len b - 1) := by
 have r := rd_ok (lm_ok b) ((len b - 1 : Nat) : Int)
 have h1 := rd_top b hb
 have hl : len b ≠ 0 := fun e => hb (len_eq_zero.1 e)
 have h2 := pow_le_len hb
 have hp : 0 < 4294967296 ^ (len b - 1) := Nat.pow_pos (by decide)
 have h3 : 1 <= b / 4294967296 ^ (len b - 1) := (Nat.le_div_iff_mul_le hp).2 (by omega)
 exact ⟨(rd (lm b) ((len b - 1 : Nat) : Int)).toNat, (Int.toNat_of_nonneg r.1).symm, (Int.toNat_lt r.1).2 r.2, by omega, h1⟩
theorem norm_len (b t : Nat) (hb : b ≠ 0) (ht : t = b / 4294967296 ^ (len b - 1)) (ht0 : t ≠ 0) (ht1 : t < 4294967296) : len (b * 2 ^ (32 - bl t)) = len b /\ 2147483648 <= b * 2 ^ (32 - bl t) / 4294967296 ^ (len b - 1) := by
 obtain ⟨k, hk⟩ : ∃ k, len b = k + 1 := ⟨len b - 1, by have : len b ≠ 0 := fun e => hb (len_eq_zero.1 e); omega⟩
 have hp : 0 < 4294967296 ^ k := Nat.pow_pos (by decide)
 have hk1 : len b - 1 = k := by omega
 rw [hk1] at ht ⊢
 rw [hk]
 have h1 := bl_norm t ht0 ht1
 have h2 := bl_lt t
 have h3 := bl_32 t ht1
 have e1 : 2 ^ bl t * 2 ^ (32 - bl t) = 4294967296 := by rw [<- Nat.pow_add, show bl t + (32 - bl t) = 32 by omega]
 have h4 : (t + 1) * 2 ^ (32 - bl t) <= 4294967296 := by
  rw [<- e1]
  exact Nat.mul_le_mul_right _ h2
 have h5 : b < (t + 1) * 4294967296 ^ k := by
  rw [ht]
  exact Nat.lt_mul_of_div_lt (Nat.lt_succ_self _) hp
 have h6 : t * 4294967296 ^ k <= b := by
  rw [ht]
  exact Nat.div_mul_le_self _ _
 have h7 : t * 2 ^ (32 - bl t) * 4294967296 ^ k <= b * 2 ^ (32 - bl t) := by
  rw [Nat.mul_right_comm]
  exact Nat.mul_le_mul_right _ h6
 have h8 : b * 2 ^ (32 - bl t) < 4294967296 ^ (k + 1) := by
  have := Nat.mul_lt_mul_of_pos_right h5 (Nat.two_pow_pos (32 - bl t))
  rw [Nat.mul_right_comm] at this
  rw [Nat.pow_succ, Nat.mul_comm (4294967296 ^ k)]
  exact Nat.lt_of_lt_of_le this (Nat.mul_le_mul_right _ h4)
 refine ⟨len_eq_of ?_ h8, ?_⟩
 ·refine Nat.le_trans ?_ h7
  have : 1 <= t * 2 ^ (32 - bl t) := by omega
  have := Nat.mul_le_mul_right (4294967296 ^ k) this
  omega
 ·rw [Nat.le_div_iff_mul_le hp]
  exact Nat.le_trans (Nat.mul_le_mul_right _ h1.1) h7
theorem long_ev (a b : Nat) (hb : 2 <= len b) (hab : b <= a) (ha : len a <= 549755813888) : Ev (fun k => nat_long.f k (lm a) (lm b)) (lm (a / b), lm (a % b)) := by
 have hb0 : b ≠ 0 := fun e => by rw [e, len_zero] at hb; omega
 have hlab := len_mono hab
 obtain ⟨t, t1, t2, t3, t4⟩ := lm_rd_top b hb0
 obtain ⟨n1, n2⟩ := norm_len b t hb0 t4 t3 t2
 obtain ⟨s, hs⟩ : ∃ s, s = 32 - bl t := ⟨_, rfl⟩
 rw [<- hs] at n1 n2
 have hs32 : s < 32 := by
  have : 1 <= bl t := by unfold bl; rw [if_neg t3]; omega
  omega
 have hp : 0 < 2 ^ s := Nat.two_pow_pos s
 have el := lz32_eq t t2
 rw [<- hs] at el
 have ev := shl_ev (lm b) (lm_ok b) s (by rw [lm_length]; omega)
 rw [val_lm] at ev
 have eu := shl_ev (lm a) (lm_ok a) s (by rw [lm_length]; omega)
 rw [val_lm] at eu
 have hlu : len (a * 2 ^ s) <= len a + 1 := by
  refine len_le ?_
  rw [Nat.pow_succ]
  have h1 := lt_pow_len a
  have h2 : 2 ^ s <= 4294967296 := by
   have := Nat.pow_le_pow_right (n := 2) (by decide) (Nat.le_of_lt hs32)
   omega
  exact Nat.lt_of_lt_of_le (Nat.mul_lt_mul_of_pos_right h1 hp) (Nat.mul_le_mul_left _ h2)
 have hlu2 : len a <= len (a * 2 ^ s) := len_mono (by
  have := Nat.mul_le_mul_left a hp
  omega)
 have hul : ((lm (a * 2 ^ s) ++ [0, 0]).take (len a + 1)).length = len a + 1 := by
  rw [List.length_take, List.length_append, lm_length, List.length_cons, List.length_singleton]; omega
 have huok : Ok ((lm (a * 2 ^ s) ++ [0, 0]).take (len a + 1)) := Ok.take ((lm_ok _).append (Ok.zeros 2)) _
 have huv : val ((lm (a * 2 ^ s) ++ [0, 0]).take (len a + 1)) = a * 2 ^ s := by
  rw [val_take_mod _ _ (by rw [List.length_append, lm_length, List.length_cons, List.length_singleton]; omega), val_append, val_lm]
  have : val [0, 0] = 0 := rfl
  rw [this, Nat.mul_zero, Nat.add_zero, Nat.mod_eq_of_lt]
  exact Nat.lt_of_lt_of_le (lt_pow_len _) (Nat.pow_le_pow_right (by decide) hlu)
 have hvl : (lm (b * 2 ^ s)).length = len b := by rw [lm_length, n1]
 have hvv : val (lm (b * 2 ^ s)) = b * 2 ^ s := val_lm _
 have hbs0 : b * 2 ^ s ≠ 0 := Nat.ne_of_gt (Nat.mul_pos (Nat.pos_of_ne_zero hb0) hp)
 have hnorm : 2147483648 <= (rd (lm (b * 2 ^ s)) ((lm (b * 2 ^ s)).length - 1 : Nat)).toNat := by
  have := rd_top (b * 2 ^ s) hbs0
  rw [n1] at this
  rw [hvl, this]
  exact n2
 have hdrop : val (((lm (a * 2 ^ s) ++ [0, 0]).take (len a + 1)).drop (len a + 1 - len b)) < val (lm (b * 2 ^ s)) := by
  rw [val_drop_div _ _ (by rw [hul]; omega), huv, hvv]
  rw [Nat.div_lt_iff_lt_mul (Nat.pow_pos (by decide))]
  have h1 := lt_pow_len a
  have h3 := pow_le_len hb0
  have h5 : 4294967296 ^ len a = 4294967296 ^ (len b - 1) * 4294967296 ^ (len a + 1 - len b) := by rw [<- Nat.pow_add]; congr 1; omega
  have h6 := Nat.mul_le_mul_right (4294967296 ^ (len a + 1 - len b)) h3
  rw [<- h5] at h6
  rw [Nat.mul_right_comm]
  exact Nat.mul_lt_mul_of_pos_right (Nat.lt_of_lt_of_le h1 h6) hp
 have hmain := long_loop (lm (b * 2 ^ s)) (lm_ok _) (by rw [hvl]; exact hb) hnorm s hs32 (a * 2 ^ s) (len a + 1 - len b) ((lm (a * 2 ^ s) ++ [0, 0]).take (len a + 1)) [] huok Ok.nil (by rw [hul]; omega) (by rw [hul, hvl]; omega) (by simp; omega) (by rw [huv]; simp [val]) hdrop
 rw [hvv, Nat.mul_div_mul_right _ _ hp, Nat.mul_mod_mul_right, Nat.mul_div_cancel _ hp, hvl, List.append_nil] at hmain
 have e1 : (lm (a * 2 ^ s)).length + ([0, 0] : List Int).length < 17592186044417 := by
  clear t1 t4 n1 n2 hnorm hdrop hmain el ev eu huv hvv
  rw [lm_length, List.length_cons, List.length_singleton]; omega
 have e2 : ((len a + 1 : Nat) : Int) <= ((lm (a * 2 ^ s) ++ [0, 0]).length : Int) := by
  clear t1 t4 n1 n2 hnorm hdrop hmain el ev eu huv hvv e1
  rw [List.length_append, lm_length, List.length_cons, List.length_singleton]; omega
 have e3 : ((len a + 1 - len b : Nat) : Int).toNat <= 35184372088832 := by
  clear t1 t4 n1 n2 hnorm hdrop hmain el ev eu huv hvv e1 e2
  rw [Int.toNat_natCast]; omega
 unfold nat_long.f
 have c0 : wrap64 (((lm b).length : Int) - 1) = ((len b - 1 : Nat) : Int) := by
  clear t1 t4 n1 n2 hnorm hdrop hmain el ev eu huv hvv; rw [lm_length, wrap_id (by omega) (by omega)]; omega
 rw [c0]
 refine Ev.if_pos (Int.natCast_nonneg _) (Ev.if_pos (by rw [lm_length]; exact Int.ofNat_lt.2 (by omega)) ?_)
 rw [t1, w32 t t2, el]
 refine Ev.bind (Ev.now _) (Ev.bind ev (Ev.bind eu ?_))
 refine Ev.congr (fun k => ?_) hmain
 have d1 : wrap64 (((lm a).length : Int) + 1) = ((len a + 1 : Nat) : Int) := by
  clear c0 t1 t4 n1 n2 hnorm hdrop hmain el ev eu huv hvv; rw [lm_length, wrap_id (by omega) (by omega)]; omega
 have d2 : wrap64 (((len a + 1 : Nat) : Int) - (len b : Int)) = ((len a + 1 - len b : Nat) : Int) := by
  clear c0 d1 t1 t4 n1 n2 hnorm hdrop hmain el ev eu huv hvv; rw [wrap_id (by omega) (by omega)]; omega
 have d3 : wrap64 (((len a + 1 - len b : Nat) : Int) - 1) = ((len a + 1 - len b : Nat) : Int) - 1 := by
  clear c0 d1 d2 t1 t4 n1 n2 hnorm hdrop hmain el ev eu huv hvv; rw [wrap_id (by omega) (by omega)]
 rw [if_pos e1, d1, if_pos (Int.natCast_nonneg _), if_pos e2, Int.toNat_natCast, hul, hvl, d2, if_pos (Int.natCast_nonneg _), if_pos e3, Int.toNat_natCast, List.length_replicate, d3]

theorem divmod_ev (a b : List Int) (ha : U a) (hb : U b) (hla : a.length <= 549755813888) (hlb : b.length <= 549755813888) :
 Ev (fun k => nat_DivMod.f k a b) (if val b = 0 then ([], [], 2) else (lm (val a / val b), lm (val a % val b), 0)) := by
 have la := val_len a
 have lb := val_len b
 refine Ev.bind (clean_ev a ha (by omega)) (Ev.bind (clean_ev b hb (by omega)) ?_)
 generalize val a = x at la ⊢
 generalize val b = y at lb ⊢
 have hlx : len x <= 549755813888 := by omega
 have hly : len y <= 549755813888 := by omega
 clear la lb
 rw [lm_length]
 by_cases h0 : y = 0
 ·subst h0
  rw [if_pos rfl]
  exact Ev.congr (fun k => by rw [if_pos (by rw [len_zero]; rfl)]) (Ev.now _)
 ·rw [if_neg h0]
  have hl0 : len y ≠ 0 := fun e => h0 (len_eq_zero.1 e)
  refine Ev.congr (f := fun k => (nat_order.f k (lm x) (lm y)).bind fun v15 => (if v15 < 0 then (some (([] : List Int), lm x, 0)) else (if (len y : Int) = 1 then (if 0 < (len y : Int) then ((nat_small.f k (lm x) (rd (lm y) 0)).bind fun v26 => ((nat_Of.f k v26.2).bind fun v34 => (some (v26.1, v34, 0)))) else none) else ((nat_long.f k (lm x) (lm y)).bind fun v24 => (some (v24.1, v24.2, 0)))))) (fun k => by rw [if_neg (by omega)]) ?_
  refine Ev.bind (order_ev x y (by omega) (by omega)) ?_
  unfold cmp
  by_cases h1 : x < y
  ·rw [if_pos h1]
   refine Ev.congr (fun k => by rw [if_pos (by decide)]) ((Ev.now _).of_eq ?_)
   rw [Nat.div_eq_of_lt h1, Nat.mod_eq_of_lt h1, lm_zero]
  ·have hc : ¬ (if x < y then (-1 : Int) else if y < x then 1 else 0) < 0 := by
    rw [if_neg h1]; split <;> decide
   refine Ev.if_neg hc ?_
   by_cases h2 : len y = 1
   ·have hy1 : y < 4294967296 := len_le_one.1 (by omega)
    have hr : rd (lm y) 0 = (y : Int) := by rw [lm_one h0 hy1]; rfl
    refine Ev.if_pos (by omega) (Ev.if_pos (by omega) ?_)
    rw [hr]
    have es := small_ev (lm x) (lm_ok x) (by rw [lm_length]; omega) y (by omega) hy1
    rw [val_lm] at es
    refine Ev.bind es (Ev.bind (of_ev _ (Int.natCast_nonneg _) ?_) ?_)
    ·have := Nat.mod_lt x (show 0 < y by omega)
     show ((x % y : Nat) : Int) < 18446744073709551616
     omega
    ·exact Ev.now _
   ·refine Ev.if_neg (by omega) (Ev.bind (long_ev x y (by omega) (by omega) hlx) (Ev.now _))
theorem rest_ev (a b : List Int) (ha : U a) (hb : U b) (hla : a.length <= 549755813888) (hlb : b.length <= 549755813888) (h0 : val b ≠ 0) :
 Ev (fun k => nat_rest.f k a b) (lm (val a / val b), lm (val a % val b)) := by
 have h := divmod_ev a b ha hb hla hlb
 rw [if_neg h0] at h
 exact Ev.bind h (Ev.now _)

theorem gcd_odd_mul (t m p : Nat) (hp : p % 2 = 1) : Nat.gcd (2 ^ t * m) p = Nat.gcd m p := by
 have h2 : Nat.Coprime 2 p := by
  unfold Nat.Coprime
  rw [Nat.gcd_rec, hp]
  rfl
 exact (h2.pow_left t).gcd_mul_left_cancel m
theorem odd_ev (r : Nat) (hr : r ≠ 0) (hl : len r <= 549755813888) (p x y : Nat) (q : List Int) (hp : p % 2 = 1) (ih : ∀ m, m % 2 = 1 -> m <= r -> m ≠ 0 -> Nat.gcd m p = Nat.gcd r p -> Ev (fun k => nat_Gcd.l0 k (lm m) (lm p) (x : Int) (y : Int)) q) :
 Ev (fun k => (nat_zeros.f k (lm r)).bind fun v => (nat_shr.f k (lm r) v).bind fun w => nat_Gcd.l0 k w (lm p) (x : Int) (y : Int)) q := by
 obtain ⟨t, m, hm⟩ := odd_part r hr
 have hpw := Nat.two_pow_pos t
 have ht : t <= 32 * len r := by
  apply Classical.byContradiction
  intro hc
  have h1 := lt_pow_len r
  rw [show (4294967296 : Nat) = 2 ^ 32 from rfl, <- Nat.pow_mul] at h1
  have h2 := Nat.pow_le_pow_right (n := 2) (by decide) (show 32 * len r <= t by omega)
  have h3 : 2 ^ t * 1 <= 2 ^ t * (2 * m + 1) := Nat.mul_le_mul_left _ (by omega)
  omega
 have ez := zeros_ev (lm r) (lm_ok r) (by rw [lm_length]; omega) t m (by rw [val_lm]; exact hm)
 have es := shr_ev (lm r) (lm_ok r) t (by rw [lm_length]; omega) (by omega)
 have hd : val (lm r) / 2 ^ t = 2 * m + 1 := by rw [val_lm, hm, Nat.mul_div_cancel_left _ hpw]
 rw [hd] at es
 refine Ev.bind ez (Ev.bind es (ih (2 * m + 1) (by omega) ?_ (by omega) ?_))
 ·have := Nat.mul_le_mul_right (2 * m + 1) hpw
  omega
 ·rw [hm, gcd_odd_mul t _ p hp]
theorem gcd_loop (x y : Nat) (hx : x <= 17592186044416) (hy : y <= 17592186044416) : ∀ (n p q : Nat), p + q <= n -> p % 2 = 1 -> q % 2 = 1 -> len p <= 549755813888 -> len q <= 549755813888 ->
 Ev (fun k => nat_Gcd.l0 k (lm p) (lm q) (x : Int) (y : Int)) (lm (Nat.gcd p q * 2 ^ min x y)) := by
 have shl_end : ∀ p : Nat, len p <= 549755813888 -> Ev (fun k => (nat_shl.f k (lm p) (mn (x : Int) (y : Int))).bind fun v => some v) (lm (p * 2 ^ min x y)) := by
  intro p hp
  have em : mn (x : Int) (y : Int) = ((min x y : Nat) : Int) := by
   show mnI _ _ = _
   unfold mnI
   split <;> omega
  have es := shl_ev (lm p) (lm_ok p) (min x y) (by rw [lm_length]; omega)
  rw [val_lm] at es
  rw [em]
  exact Ev.bind es (Ev.now _)
 intro n
 induction n with
 | zero => intro p q h h1 h2; omega
 | succ n ih =>
  intro p q h h1 h2 l1 l2
  have big : ∀ a b : Nat, a % 2 = 1 -> b % 2 = 1 -> b < a -> a + b <= n + 1 -> len a <= 549755813888 -> len b <= 549755813888 ->
   Ev (fun k => if ((lm a).length : Int) > wrap64 (((lm b).length : Int) + 1) then ((nat_rest.f k (lm a) (lm b)).bind fun v22 => (if (v22.2.length : Int) = 0 then ((nat_shl.f k (lm b) (mn (x : Int) (y : Int))).bind fun v34 => (some v34)) else ((nat_zeros.f k v22.2).bind fun v32 => ((nat_shr.f k v22.2 v32).bind fun v33 => (nat_Gcd.l0 k v33 (lm b) (x : Int) (y : Int)))))) else ((nat_minus.f k (lm a) (lm b)).bind fun v22 => ((nat_zeros.f k v22).bind fun v26 => ((nat_shr.f k v22 v26).bind fun v27 => (nat_Gcd.l0 k v27 (lm b) (x : Int) (y : Int)))))) (lm (Nat.gcd a b * 2 ^ min x y)) := by
   intro a b ha hb hlt hsum la lb
   by_cases hc : ((lm a).length : Int) > wrap64 (((lm b).length : Int) + 1)
   ·have er := rest_ev (lm a) (lm b) (lm_ok a).U (lm_ok b).U (by rw [lm_length]; omega) (by rw [lm_length]; omega) (by rw [val_lm]; omega)
    rw [val_lm, val_lm] at er
    refine Ev.if_pos hc (Ev.bind er ?_)
    dsimp only
    rw [lm_length]
    have hm := Nat.mod_lt a (show 0 < b by omega)
    by_cases hz : a % b = 0
    ·have e0 : (len (a % b) : Int) = 0 := by rw [hz, len_zero]; rfl
     refine Ev.if_pos e0 ((shl_end b lb).of_eq ?_)
     rw [Nat.gcd_comm a b, Nat.gcd_rec b a, hz, Nat.gcd_zero_left]
    ·have e0 : ¬ (len (a % b) : Int) = 0 := by
      intro e
      exact hz (len_eq_zero.1 (by omega))
     refine Ev.if_neg e0 (odd_ev (a % b) hz (Nat.le_trans (len_mono (Nat.le_of_lt hm)) lb) b x y _ hb fun m m1 m2 m3 m4 => ?_)
     have hlm : len m <= 549755813888 := Nat.le_trans (len_mono (by omega)) lb
     refine (ih m b (by omega) m1 hb hlm lb).of_eq ?_
     rw [m4, <- Nat.gcd_rec, Nat.gcd_comm]
   ·have em := minus_ev (lm a) (lm b) (lm_ok a) (lm_ok b) (by rw [lm_length]; omega) (by rw [val_lm, val_lm]; omega)
    rw [val_lm, val_lm] at em
    refine Ev.if_neg hc (Ev.bind em ?_)
    refine odd_ev (a - b) (by omega) (Nat.le_trans (len_mono (Nat.sub_le _ _)) la) b x y _ hb fun m m1 m2 m3 m4 => ?_
    have hlm : len m <= 549755813888 := Nat.le_trans (len_mono (by omega)) la
    refine (ih m b (by omega) m1 hb hlm lb).of_eq ?_
    rw [m4, Nat.gcd_sub_self_left (Nat.le_of_lt hlt)]
  refine Ev.step (f := fun k => (nat_order.f k (lm p) (lm q)).bind fun v2 => (if v2 = 0 then ((nat_shl.f k (lm p) (mn (x : Int) (y : Int))).bind fun v11 => (some v11)) else (if v2 < 0 then (if ((lm q).length : Int) > (wrap64 (((lm p).length : Int) + 1)) then ((nat_rest.f k (lm q) (lm p)).bind fun v22 => (if (v22.2.length : Int) = 0 then ((nat_shl.f k (lm p) (mn (x : Int) (y : Int))).bind fun v34 => (some v34)) else ((nat_zeros.f k v22.2).bind fun v32 => ((nat_shr.f k v22.2 v32).bind fun v33 => (nat_Gcd.l0 k v33 (lm p) (x : Int) (y : Int)))))) else ((nat_minus.f k (lm q) (lm p)).bind fun v22 => ((nat_zeros.f k v22).bind fun v26 => ((nat_shr.f k v22 v26).bind fun v27 => (nat_Gcd.l0 k v27 (lm p) (x : Int) (y : Int)))))) else (if ((lm p).length : Int) > (wrap64 (((lm q).length : Int) + 1)) then ((nat_rest.f k (lm p) (lm q)).bind fun v18 => (if (v18.2.length : Int) = 0 then ((nat_shl.f k (lm q) (mn (x : Int) (y : Int))).bind fun v30 => (some v30)) else ((nat_zeros.f k v18.2).bind fun v28 => ((nat_shr.f k v18.2 v28).bind fun v29 => (nat_Gcd.l0 k v29 (lm q) (x : Int) (y : Int)))))) else ((nat_minus.f k (lm p) (lm q)).bind fun v18 => ((nat_zeros.f k v18).bind fun v22 => ((nat_shr.f k v18 v22).bind fun v23 => (nat_Gcd.l0 k v23 (lm q) (x : Int) (y : Int)))))))))
   (fun k => by rw [nat_Gcd.l0]) (Ev.bind (order_ev p q (by omega) (by omega)) ?_)
  unfold cmp
  rcases Nat.lt_trichotomy p q with hlt | heq | hgt
  ·rw [if_pos hlt]
   refine Ev.if_neg (by decide) (Ev.if_pos (by decide) ?_)
   rw [Nat.gcd_comm]
   exact big q p h2 h1 hlt (by omega) l2 l1
  ·subst heq
   rw [if_neg (Nat.lt_irrefl _), if_neg (Nat.lt_irrefl _), Nat.gcd_self]
   exact Ev.if_pos rfl (shl_end p l1)
  ·rw [if_neg (by omega), if_pos hgt]
   exact Ev.if_neg (by decide) (Ev.if_neg (by decide) (big p q h1 h2 hgt h l1 l2))
theorem gcd_parts (t m t' m' : Nat) : Nat.gcd (2 ^ t * (2 * m + 1)) (2 ^ t' * (2 * m' + 1)) = Nat.gcd (2 * m + 1) (2 * m' + 1) * 2 ^ min t t' := by
 have main : ∀ t t' m m' : Nat, t <= t' -> Nat.gcd (2 ^ t * (2 * m + 1)) (2 ^ t' * (2 * m' + 1)) = Nat.gcd (2 * m + 1) (2 * m' + 1) * 2 ^ t := by
  intro t t' m m' h
  obtain ⟨d, rfl⟩ : ∃ d, t' = t + d := ⟨t' - t, by omega⟩
  rw [Nat.pow_add, Nat.mul_assoc, Nat.gcd_mul_left, Nat.gcd_comm, gcd_odd_mul d _ _ (by omega), Nat.gcd_comm, Nat.mul_comm]
 rcases Nat.le_total t t' with h | h
 ·rw [main t t' m m' h, Nat.min_eq_left h]
 ·rw [Nat.gcd_comm, main t' t m' m h, Nat.min_eq_right h, Nat.gcd_comm]
theorem gcd_ev (a b : List Int) (ha : U a) (hb : U b) (hla : a.length <= 549755813888) (hlb : b.length <= 549755813888) : Ev (fun k => nat_Gcd.f k a b) (lm (Nat.gcd (val a) (val b))) := by
 have la := val_len a
 have lb := val_len b
 refine Ev.bind (clean_ev a ha (by omega)) (Ev.bind (clean_ev b hb (by omega)) ?_)
 generalize val a = x at la ⊢
 generalize val b = y at lb ⊢
 have hlx : len x <= 549755813888 := by omega
 have hly : len y <= 549755813888 := by omega
 clear la lb
 rw [lm_length, lm_length]
 by_cases hx : x = 0
 ·subst hx
  rw [Nat.gcd_zero_left]
  exact Ev.if_pos (by rw [len_zero]; rfl) (Ev.now _)
 have hx0 : len x ≠ 0 := fun e => hx (len_eq_zero.1 e)
 refine Ev.if_neg (by omega) ?_
 by_cases hy : y = 0
 ·subst hy
  rw [Nat.gcd_zero_right]
  exact Ev.if_pos (by rw [len_zero]; rfl) (Ev.now _)
 have hy0 : len y ≠ 0 := fun e => hy (len_eq_zero.1 e)
 refine Ev.if_neg (by omega) ?_
 have main : Ev (fun k => (nat_zeros.f k (lm x)).bind fun v24 => ((nat_zeros.f k (lm y)).bind fun v26 => ((nat_shr.f k (lm x) v24).bind fun v31 => ((nat_shr.f k (lm y) v26).bind fun v34 => (nat_Gcd.l0 k v31 v34 v24 v26))))) (lm (Nat.gcd x y)) := by
  have part : ∀ r : Nat, r ≠ 0 -> len r <= 549755813888 -> ∃ t m : Nat, r = 2 ^ t * (2 * m + 1) /\ t <= 17592186044416 /\ Ev (fun k => nat_zeros.f k (lm r)) (t : Int) /\ Ev (fun k => nat_shr.f k (lm r) (t : Int)) (lm (2 * m + 1)) /\ len (2 * m + 1) <= 549755813888 := by
   intro r hr hl
   obtain ⟨t, m, hm⟩ := odd_part r hr
   have hpw := Nat.two_pow_pos t
   have h3 : 2 ^ t * 1 <= 2 ^ t * (2 * m + 1) := Nat.mul_le_mul_left _ (by omega)
   have h4 : 1 * (2 * m + 1) <= 2 ^ t * (2 * m + 1) := Nat.mul_le_mul_right _ hpw
   have ht : t <= 32 * len r := by
    apply Classical.byContradiction
    intro hc
    have h1 := lt_pow_len r
    rw [show (4294967296 : Nat) = 2 ^ 32 from rfl, <- Nat.pow_mul] at h1
    have h2 := Nat.pow_le_pow_right (n := 2) (by decide) (show 32 * len r <= t by omega)
    omega
   have ez := zeros_ev (lm r) (lm_ok r) (by rw [lm_length]; omega) t m (by rw [val_lm]; exact hm)
   have es := shr_ev (lm r) (lm_ok r) t (by rw [lm_length]; omega) (by omega)
   have hd : val (lm r) / 2 ^ t = 2 * m + 1 := by rw [val_lm, hm, Nat.mul_div_cancel_left _ hpw]
   rw [hd] at es
   exact ⟨t, m, hm, by omega, ez, es, Nat.le_trans (len_mono (by omega)) hl⟩
  obtain ⟨t, m, e1, e2, e3, e4, e5⟩ := part x hx hlx
  obtain ⟨t', m', f1, f2, f3, f4, f5⟩ := part y hy hly
  refine Ev.bind e3 (Ev.bind f3 (Ev.bind e4 (Ev.bind f4 ?_)))
  refine (gcd_loop t t' e2 f2 _ (2 * m + 1) (2 * m' + 1) (Nat.le_refl _) (by omega) (by omega) e5 f5).of_eq ?_
  rw [e1, f1, gcd_parts]
 by_cases h1 : len x <= 2
 ·refine Ev.if_pos (by omega) ?_
  by_cases h2 : len y <= 2
  ·exact Ev.if_pos (by omega) (Ev.bind (euclid_ev x y (len_le_two.1 h1) (len_le_two.1 h2)) (Ev.now _))
  ·exact Ev.if_neg (by omega) main
 ·exact Ev.if_neg (by omega) main
end Go.DI.Th
namespace Go.DI.Th
open Go Go.RowKit Go.DI

def wv (b : Bool) (l : List Int) : Int := if b then -(val l : Int) else (val l : Int)
def wl (z : Int) : Bool × List Int := (decide (z < 0), lm z.natAbs)
theorem wv_abs (b : Bool) (l : List Int) : (wv b l).natAbs = val l := by
 unfold wv
 cases b <;> simp
theorem wv_wl (z : Int) : wv (wl z).1 (wl z).2 = z := by
 unfold wv wl
 simp only [val_lm]
 by_cases h : z < 0
 ·simp only [h, decide_true, if_true]; omega
 ·simp only [h, decide_false]; rw [if_neg (by simp)]; omega
theorem sign_eq (b : Bool) (n : Nat) : whole_sign.f b (lm n) = some (wl (if b then -(n : Int) else n)) := by
 unfold whole_sign.f wl
 cases b with
 | true =>
  rw [if_pos rfl, if_pos rfl, Int.natAbs_neg, Int.natAbs_natCast, lm_length]
  congr 2
  by_cases h : n = 0
  ·subst h; rw [len_zero]; rfl
  ·have : len n ≠ 0 := fun e => h (len_eq_zero.1 e)
   rw [decide_eq_true (by omega), decide_eq_true (by omega)]
 | false =>
  rw [if_neg (by simp), if_neg (by simp), Int.natAbs_natCast]
  rw [decide_eq_false (show ¬ ((n : Int) < 0) by omega)]
theorem wclean_ev (b : Bool) (l : List Int) (h : U l) (hn : l.length <= 35184372088832) : Ev (fun k => whole_Clean.f k b l) (wl (wv b l)) := by
 refine Ev.bind (clean_ev l h hn) ?_
 rw [sign_eq]
 exact Ev.now _
theorem w64_neg (n : Nat) (h0 : n ≠ 0) (h : n <= 9223372036854775808) : IntKind.u64.wrap (0 - IntKind.u64.wrap (-(n : Int))) = (n : Int) := by
 rw [w64, w64]; omega
theorem w64_nat (n : Nat) (h : n < 18446744073709551616) : IntKind.u64.wrap (n : Int) = (n : Int) := by
 rw [w64]; omega
theorem ofN_ev (n : Nat) (h : n < 18446744073709551616) : Ev (fun k => nat_Of.f k (n : Int)) (lm n) := by
 have := of_ev (n : Int) (by omega) (by omega)
 rwa [Int.toNat_natCast] at this
def rl (z : Int) (q : Nat) : Bool × List Int × List Int := (decide (z < 0), lm (z.natAbs / Nat.gcd z.natAbs q), lm (q / Nat.gcd z.natAbs q))
theorem rl_zero (q : Nat) (h : q ≠ 0) : rl 0 q = (false, [], lm 1) := by
 unfold rl
 rw [Int.natAbs_zero, Nat.gcd_zero_left, Nat.zero_div, lm_zero, Nat.div_self (by omega)]
 rfl
theorem form_ev (z : Int) (q : Nat) (hq : q ≠ 0) (hl : len z.natAbs <= 549755813888) (hlq : len q <= 549755813888) : Ev (fun k => ratio_form.f k (decide (z < 0)) (lm z.natAbs) (lm q)) (rl z q) := by
 by_cases hz : z = 0
 ·subst hz
  rw [rl_zero q hq]
  refine Ev.if_pos (by rw [Int.natAbs_zero, lm_zero]; rfl) (Ev.bind (ofN_ev 1 (by decide)) (Ev.now _))
 ·unfold rl
  generalize hp : z.natAbs = p at hl ⊢
  have hp0 : p ≠ 0 := by omega
  have hlp : len p ≠ 0 := fun e => hp0 (len_eq_zero.1 e)
  refine Ev.if_neg (by rw [lm_length]; omega) ?_
  have eg := gcd_ev (lm p) (lm q) (lm_ok p).U (lm_ok q).U (by rw [lm_length]; exact hl) (by rw [lm_length]; exact hlq)
  rw [val_lm, val_lm] at eg
  refine Ev.bind eg ?_
  have hg0 : 0 < Nat.gcd p q := Nat.gcd_pos_of_pos_left _ (by omega)
  have hgp : Nat.gcd p q <= p := Nat.gcd_le_left _ (by omega)
  generalize Nat.gcd p q = g at hg0 hgp ⊢
  have hlg : len g <= 549755813888 := Nat.le_trans (len_mono hgp) hl
  have hlg0 : len g ≠ 0 := fun e => by have := len_eq_zero.1 e; omega
  have div : Ev (fun k => (nat_DivMod.f k (lm p) (lm g)).bind fun v23 => ((nat_DivMod.f k (lm q) (lm g)).bind fun v33 => (some (decide (z < 0), v23.1, v33.1)))) (decide (z < 0), lm (p / g), lm (q / g)) := by
   have d1 := divmod_ev (lm p) (lm g) (lm_ok p).U (lm_ok g).U (by rw [lm_length]; exact hl) (by rw [lm_length]; exact hlg)
   have d2 := divmod_ev (lm q) (lm g) (lm_ok q).U (lm_ok g).U (by rw [lm_length]; exact hlq) (by rw [lm_length]; exact hlg)
   rw [val_lm, val_lm, if_neg (by omega)] at d1 d2
   exact Ev.bind d1 (Ev.bind d2 (Ev.now _))
  rw [lm_length]
  by_cases h1 : len g = 1
  ·have hg1 : g < 4294967296 := len_le_one.1 (by omega)
   have hr : rd (lm g) 0 = (g : Int) := by rw [lm_one (by omega) hg1]; rfl
   refine Ev.if_pos (by omega) (Ev.if_pos (by omega) ?_)
   rw [hr]
   by_cases h2 : g = 1
   ·subst h2
    rw [Nat.div_one, Nat.div_one]
    exact Ev.if_pos rfl (Ev.now _)
   ·exact Ev.if_neg (by omega) div
  ·exact Ev.if_neg (by omega) div
def num (b : Bool) (n d : List Int) : Int := if val d = 0 then 0 else wv b n
def den (d : List Int) : Nat := if val d = 0 then 1 else val d
theorem den_pos (d : List Int) : den d ≠ 0 := by
 unfold den; split <;> omega
theorem rclean_ev (b : Bool) (n d : List Int) (hn : U n) (hd : U d) (hln : n.length <= 549755813888) (hld : d.length <= 549755813888) : Ev (fun k => ratio_Clean.f k b n d) (rl (num b n d) (den d)) := by
 have lvn := val_len n
 have lvd := val_len d
 refine Ev.bind (clean_ev d hd (by omega)) ?_
 unfold num den
 by_cases h0 : val d = 0
 ·rw [h0, if_pos rfl, if_pos rfl, rl_zero 1 (by decide)]
  refine Ev.if_pos (by rw [lm_zero]; rfl) (Ev.bind (Ev.bind (ofN_ev 1 (by decide)) (Ev.now _)) (Ev.now _))
 ·have hl0 : len (val d) ≠ 0 := fun e => h0 (len_eq_zero.1 e)
  rw [if_neg h0, if_neg h0]
  refine Ev.if_neg (by rw [lm_length]; omega) (Ev.bind (wclean_ev b n hn (by omega)) ?_)
  exact Ev.bind (a := rl (wv b n) (val d)) (form_ev (wv b n) (val d) h0 (by rw [wv_abs]; omega) (by omega)) (Ev.now _)
theorem len_small {n : Nat} (h : n < 18446744073709551616) : len n <= 2 := len_le_two.2 h
theorem wl_nat (n : Nat) : wl (n : Int) = (false, lm n) := by
 unfold wl
 rw [decide_eq_false (show ¬ ((n : Int) < 0) by omega), Int.natAbs_natCast]
def rnum (z : Int) (q : Nat) : Int := if z < 0 then -((z.natAbs / Nat.gcd z.natAbs q : Nat) : Int) else ((z.natAbs / Nat.gcd z.natAbs q : Nat) : Int)
def rden (z : Int) (q : Nat) : Nat := q / Nat.gcd z.natAbs q
theorem gcd_pos_right (p q : Nat) (h : q ≠ 0) : 0 < Nat.gcd p q := Nat.gcd_pos_of_pos_right _ (by omega)
theorem rnum_abs (z : Int) (q : Nat) : (rnum z q).natAbs = z.natAbs / Nat.gcd z.natAbs q := by
 unfold rnum
 generalize z.natAbs / Nat.gcd z.natAbs q = m
 split <;> omega
theorem rnum_neg (z : Int) (q : Nat) (h : q ≠ 0) : (rnum z q < 0) ↔ z < 0 := by
 unfold rnum
 have hg := gcd_pos_right z.natAbs q h
 constructor
 ·intro h1
  apply Classical.byContradiction
  intro h2
  rw [if_neg h2] at h1
  generalize z.natAbs / Nat.gcd z.natAbs q = m at h1
  omega
 ·intro h1
  rw [if_pos h1]
  have : 0 < z.natAbs / Nat.gcd z.natAbs q := Nat.div_pos (Nat.gcd_le_left _ (by omega)) hg
  generalize z.natAbs / Nat.gcd z.natAbs q = m at this ⊢
  omega
theorem rl_ok (z : Int) (q : Nat) : U (rl z q).2.1 /\ U (rl z q).2.2 := ⟨(lm_ok _).U, (lm_ok _).U⟩
theorem rl_lens (z : Int) (q : Nat) : (rl z q).2.1.length <= len z.natAbs /\ (rl z q).2.2.length <= len q := by
 unfold rl
 rw [lm_length, lm_length]
 exact ⟨len_mono (Nat.div_le_self _ _), len_mono (Nat.div_le_self _ _)⟩
end Go.DI.Th
namespace Go.DI.Th
open Go Go.RowKit Go.DI

abbrev Rt := Bool × List Int × List Int
def RtOk (r : Rt) : Prop := U r.2.1 /\ U r.2.2 /\ r.2.1.length <= 1048576 /\ r.2.2.length <= 1048576
end Go.DI.Th
namespace Go.DI.Th
open Go Go.RowKit Go.DI

def cn (x : Rat) : Rt := (decide (x.num < 0), lm x.num.natAbs, lm x.den)
def rv (r : Rt) : Rat := mkRat (num r.1 r.2.1 r.2.2) (den r.2.2)
theorem div_gcd (z : Int) (g : Nat) (hg : g ≠ 0) (h : g ∣ z.natAbs) : z / (g : Int) = if z < 0 then -((z.natAbs / g : Nat) : Int) else ((z.natAbs / g : Nat) : Int) := by
 obtain ⟨m, hm⟩ := h
 rw [hm, Nat.mul_div_cancel_left m (by omega)]
 have hg' : (g : Int) ≠ 0 := by omega
 by_cases hz : z < 0
 ·rw [if_pos hz]
  have e : z = (g : Int) * (-(m : Int)) := by
   have : (z.natAbs : Int) = g * m := by rw [hm]; exact Int.natCast_mul _ _
   rw [Int.mul_neg]
   omega
  rw [e, Int.mul_ediv_cancel_left _ hg']
 ·rw [if_neg hz]
  have e : z = (g : Int) * (m : Int) := by
   have : (z.natAbs : Int) = g * m := by rw [hm]; exact Int.natCast_mul _ _
   omega
  rw [e, Int.mul_ediv_cancel_left _ hg']
theorem num_mk (z : Int) (q : Nat) (h : q ≠ 0) : (mkRat z q).num = rnum z q := by
 rw [Rat.num_mkRat, if_neg h, Nat.gcd_comm, div_gcd z _ (by have := gcd_pos_right z.natAbs q h; omega) (Nat.gcd_dvd_left _ _)]
 rfl
theorem den_mk (z : Int) (q : Nat) (h : q ≠ 0) : (mkRat z q).den = rden z q := by
 rw [Rat.den_mkRat, if_neg h, Nat.gcd_comm]
 rfl
theorem rl_cn (z : Int) (q : Nat) (h : q ≠ 0) : rl z q = cn (mkRat z q) := by
 unfold rl cn
 rw [num_mk z q h, den_mk z q h, rnum_abs]
 congr 1
 exact decide_eq_decide.2 (rnum_neg z q h).symm
theorem val_cn (x : Rat) : val (cn x).2.1 = x.num.natAbs /\ val (cn x).2.2 = x.den := ⟨val_lm _, val_lm _⟩
theorem wv_cn (x : Rat) : wv (cn x).1 (cn x).2.1 = x.num := wv_wl x.num
theorem num_cn (x : Rat) : num (cn x).1 (cn x).2.1 (cn x).2.2 = x.num := by
 unfold num
 rw [(val_cn x).2, if_neg x.den_nz, wv_cn]
theorem den_cn (x : Rat) : den (cn x).2.2 = x.den := by
 unfold den
 rw [(val_cn x).2, if_neg x.den_nz]
theorem rv_cn (x : Rat) : rv (cn x) = x := by
 unfold rv
 rw [num_cn, den_cn, Rat.mkRat_self]
theorem cn_ok (x : Rat) : U (cn x).2.1 /\ U (cn x).2.2 := ⟨(lm_ok _).U, (lm_ok _).U⟩
def Sz (x : Rat) : Nat := max (len x.num.natAbs) (len x.den)
theorem Sz_mk (z : Int) (q : Nat) (h : q ≠ 0) : Sz (mkRat z q) <= max (len z.natAbs) (len q) := by
 unfold Sz
 rw [num_mk z q h, den_mk z q h, rnum_abs]
 have h1 := len_mono (Nat.div_le_self z.natAbs (Nat.gcd z.natAbs q))
 have h2 : len (rden z q) <= len q := len_mono (Nat.div_le_self _ _)
 omega
theorem len_one : len 1 = 1 := by
 have h1 := len_small (show 1 < 18446744073709551616 by decide)
 unfold len
 rw [lm_one (by decide) (by decide)]
 rfl
theorem len_add' (a b : Nat) : len (a + b) <= max (len a) (len b) + 1 := by
 refine len_le ?_
 have h1 := lt_pow_len a
 have h2 := lt_pow_len b
 have h3 : 4294967296 ^ len a <= 4294967296 ^ max (len a) (len b) := Nat.pow_le_pow_right (by decide) (by omega)
 have h4 : 4294967296 ^ len b <= 4294967296 ^ max (len a) (len b) := Nat.pow_le_pow_right (by decide) (by omega)
 rw [Nat.pow_succ]
 omega
theorem Sz_add (x y : Rat) : Sz (x + y) <= Sz x + Sz y + 1 := by
 rw [Rat.add_def']
 refine Nat.le_trans (Sz_mk _ _ (Nat.mul_ne_zero x.den_nz y.den_nz)) ?_
 have h1 := len_mul x.den y.den
 have h2 := len_mono (Int.natAbs_add_le (x.num * y.den) (y.num * x.den))
 have h3 := len_add' (x.num * (y.den : Int)).natAbs (y.num * (x.den : Int)).natAbs
 rw [Int.natAbs_mul, Int.natAbs_mul, Int.natAbs_natCast, Int.natAbs_natCast] at h2 h3
 have h4 := len_mul x.num.natAbs y.den
 have h5 := len_mul y.num.natAbs x.den
 unfold Sz
 omega
theorem Sz_neg (x : Rat) : Sz (-x) = Sz x := by
 unfold Sz
 rw [Rat.neg_num, Rat.neg_den, Int.natAbs_neg]
theorem Sz_int (n : Int) : Sz (n : Rat) = max (len n.natAbs) 1 := by
 unfold Sz
 rw [Rat.num_intCast, Rat.den_intCast, len_one]
def RtB (b : Nat) (r : Rt) : Prop := U r.2.1 /\ U r.2.2 /\ r.2.1.length <= b /\ r.2.2.length <= b
theorem RtOk.B {r : Rt} (h : RtOk r) : RtB 1048576 r := h
theorem cnB (x : Rat) {b : Nat} (h : Sz x <= b) : RtB b (cn x) := by
 refine ⟨(cn_ok x).1, (cn_ok x).2, ?_, ?_⟩
 ·show (lm _).length <= _
  rw [lm_length]
  unfold Sz at h
  omega
 ·show (lm _).length <= _
  rw [lm_length]
  unfold Sz at h
  omega
theorem num_len (b : Bool) (n d : List Int) : len (num b n d).natAbs <= n.length := by
 refine Nat.le_trans (len_mono ?_) (val_len n)
 unfold num
 split
 ·simp
 ·rw [wv_abs]; exact Nat.le_refl _
theorem den_len (d : List Int) : len (den d) <= d.length + 1 := by
 unfold den
 split
 ·rw [len_one]; omega
 ·exact Nat.le_trans (val_len d) (Nat.le_succ _)
theorem RtB.sz {b : Nat} {r : Rt} (h : RtB b r) : Sz (rv r) <= b + 1 := by
 have h1 := Sz_mk (num r.1 r.2.1 r.2.2) (den r.2.2) (den_pos _)
 have h2 := num_len r.1 r.2.1 r.2.2
 have h3 := den_len r.2.2
 obtain ⟨_, _, h4, h5⟩ := h
 unfold rv
 omega
theorem clean_cn (r : Rt) {b : Nat} (h : RtB b r) (hb : b <= 549755813888) : Ev (fun k => ratio_Clean.f k r.1 r.2.1 r.2.2) (cn (rv r)) := by
 have := rclean_ev r.1 r.2.1 r.2.2 h.1 h.2.1 (Nat.le_trans h.2.2.1 hb) (Nat.le_trans h.2.2.2 hb)
 rwa [rl_cn _ _ (den_pos _)] at this
theorem form_cn (z : Int) (q : Nat) (hq : q ≠ 0) (h1 : len z.natAbs <= 549755813888) (h2 : len q <= 549755813888) : Ev (fun k => ratio_form.f k (decide (z < 0)) (lm z.natAbs) (lm q)) (cn (mkRat z q)) := by
 rw [<- rl_cn z q hq]
 exact form_ev z q hq h1 h2
end Go.DI.Th
namespace Go.DI.Th
open Go Go.RowKit Go.DI

theorem add_limb (a b c : Int) (ha : 0 <= a /\ a < 4294967296) (hb : 0 <= b /\ b < 4294967296) (hc : c = 0 \/ c = 1) :
 ∃ y z : Int, (0 <= y /\ y < 4294967296) /\ (z = 0 \/ z = 1) /\ y + 4294967296 * z = c + a + b /\ Go.bits .and .u64 (IntKind.u64.wrap (c + (IntKind.u64.wrap (a + b)))) 4294967295 = y /\ (IntKind.u64.wrap (c + (IntKind.u64.wrap (a + b)))) / 4294967296 = z := by
 have e : IntKind.u64.wrap (c + (IntKind.u64.wrap (a + b))) = c + a + b := by
  simp only [w64]
  omega
 rw [e, and_low (by omega) (by omega)]
 exact ⟨_, _, ⟨Int.emod_nonneg _ (by decide), Int.emod_lt_of_pos _ (by decide)⟩, by omega, by omega, rfl, rfl⟩
theorem add_loop (a b : List Int) (ha : Ok a) (hb : Ok b) (N : Nat) (hN : N <= 35184372088832) (hla : a.length <= N) (hlb : b.length <= N) (hs : val a + val b < 4294967296 ^ N) (d : Nat) : ∀ (done : List Int) (c : Int), Ok done -> done.length + d = N -> (c = 0 \/ c = 1) ->
 (val (a.take done.length) : Int) + val (b.take done.length) = val done + 4294967296 ^ done.length * c ->
 Ev (fun k => nat_Add.l0 k a b (done ++ List.replicate d 0) c (N : Int) (done.length : Int)) (lm (val a + val b)) := by
 induction d with
 | zero =>
  intro done c hd hl hc hv
  have hl' : done.length = N := by omega
  rw [List.take_of_length_le (by omega), List.take_of_length_le (by omega)] at hv
  have hz : val done = val a + val b := by
   rcases hc with rfl | rfl
   ·simp at hv
    omega
   ·exfalso
    have e : (4294967296 : Int) ^ done.length = ((4294967296 ^ done.length : Nat) : Int) := by rw [Int.natCast_pow]; rfl
    rw [Int.mul_one, e, hl'] at hv
    omega
  refine Ev.step (f := fun k => (nat_trim.f k done).bind fun t => some t) (fun k => ?_) (Ev.bind ?_ (Ev.now _))
  ·simp only [nat_Add.l0]
   rw [if_neg (by omega)]
   simp
  ·have := trim_ev done hd (by omega)
   rwa [hz] at this
 | succ d ih =>
  intro done c hd hl hc hv
  have va := val_take_rd a ha done.length
  have vb := val_take_rd b hb done.length
  obtain ⟨y, nd, hy, hnd, hsum, e1, e2⟩ := add_limb (rd a (done.length : Int)) (rd b (done.length : Int)) c (rd_ok ha _) (rd_ok hb _) hc
  refine Ev.step (fun k => ?_) (ih (done ++ [y]) nd (hd.append (Ok.cons hy Ok.nil)) (by simp; omega) hnd ?_)
  ·simp only [nat_Add.l0]
   rw [if_pos (by omega), limb_eq a _ (by omega), limb_eq b _ (by omega)]
   simp only [Option.bind_some]
   rw [if_pos (by omega), if_pos (by simp; omega), e1, e2, wrap_id (by omega) (by omega), show ((done.length : Int)).toNat = done.length by omega, fill]
   simp
  ·rw [List.length_append, List.length_singleton, va, vb, val_snoc_int done y hy, Int.pow_succ]
   have : (4294967296 : Int) ^ done.length * (y + 4294967296 * nd) = 4294967296 ^ done.length * (c + rd a done.length + rd b done.length) := by rw [hsum]
   simp only [Int.mul_add] at this
   rw [<- Int.mul_assoc] at this
   omega
theorem mx_nat (a b : Nat) : mx (a : Int) (b : Int) = ((max a b : Nat) : Int) := by
 unfold mx mxI
 split <;> omega
theorem nadd_ev (a b : List Int) (ha : U a) (hb : U b) (hla : a.length <= 35184372088830) (hlb : b.length <= 35184372088830) : Ev (fun k => nat_Add.f k a b) (lm (val a + val b)) := by
 have h1 := val_len a
 have h2 := val_len b
 unfold nat_Add.f
 refine Ev.bind (clean_ev a ha (by omega)) (Ev.bind (clean_ev b hb (by omega)) ?_)
 have hs := lt_pow_len (val a + val b)
 have hl := len_add (val a) (val b)
 have hp : 4294967296 ^ len (val a + val b) <= 4294967296 ^ (max (len (val a)) (len (val b)) + 1) := Nat.pow_le_pow_right (by decide) hl
 have h := add_loop (lm (val a)) (lm (val b)) (lm_ok _) (lm_ok _) (max (len (val a)) (len (val b)) + 1) (by omega) (by rw [lm_length]; omega) (by rw [lm_length]; omega) (by rw [val_lm, val_lm]; omega) (max (len (val a)) (len (val b)) + 1) [] 0 Ok.nil (by simp) (Or.inl rfl) (by simp [val])
 rw [val_lm, val_lm] at h
 simp only [lm_length, mx_nat, wr_succ _ (show max (len (val a)) (len (val b)) <= 1125899906842624 by omega), Int.toNat_natCast, List.length_replicate]
 exact Ev.if_pos (by omega) (Ev.if_pos (by omega) h)
end Go.DI.Th
namespace Go.DI.Th
open Go Go.RowKit Go.DI

theorem wof_ev (z : Int) (h0 : -9223372036854775808 <= z) (h : z <= 9223372036854775807) : Ev (fun k => whole_Of.f k z) (wl z) := by
 by_cases hz : z < 0
 ·obtain ⟨n, rfl⟩ : ∃ n : Nat, z = -(n : Int) := ⟨z.natAbs, by omega⟩
  refine Ev.if_pos hz ?_
  rw [w64_neg n (by omega) (by omega)]
  refine Ev.bind (ofN_ev n (by omega)) ?_
  rw [sign_eq]
  exact Ev.now _
 ·obtain ⟨n, rfl⟩ : ∃ n : Nat, z = (n : Int) := ⟨z.toNat, by omega⟩
  refine Ev.if_neg hz ?_
  rw [w64_nat n (by omega)]
  refine Ev.bind (ofN_ev n (by omega)) ?_
  rw [sign_eq]
  exact Ev.now _

theorem rof_ev (z : Int) (h0 : -9223372036854775808 <= z) (h : z <= 9223372036854775807) : Ev (fun k => ratio_Of.f k z) ((wl z).1, (wl z).2, lm 1) :=
 Ev.bind (wof_ev z h0 h) (Ev.bind (ofN_ev 1 (by decide)) (Ev.now _))

end Go.DI.Th
namespace Go.DI.Th
open Go Go.RowKit Go.DI

theorem wneg_ev (b : Bool) (l : List Int) (h : U l) (hn : l.length <= 35184372088832) : Ev (fun k => whole_Neg.f k b l) (wl (-(wv b l))) := by
 refine Ev.bind (wclean_ev b l h hn) ?_
 generalize wv b l = z
 have e : whole_sign.f (!(wl z).1) (wl z).2 = some (wl (-z)) := by
  show whole_sign.f (!(decide (z < 0))) (lm z.natAbs) = _
  rw [sign_eq]
  congr 2
  by_cases h1 : z < 0
  ·rw [decide_eq_true h1, if_neg (by simp)]; omega
  ·rw [decide_eq_false h1, if_pos (by simp)]; omega
 rw [e]
 exact Ev.now _
end Go.DI.Th
namespace Go.DI.Th
open Go Go.RowKit Go.DI

theorem neg_cn (r : Rt) {b : Nat} (h : RtB b r) (hb : b <= 1073741824) : Ev (fun k => ratio_Neg.f k r.1 r.2.1 r.2.2) (cn (-(rv r))) := by
 unfold ratio_Neg.f
 refine Ev.bind (clean_cn r h (by omega)) ?_
 have h1 := cnB (rv r) h.sz
 have := wneg_ev (cn (rv r)).1 (cn (rv r)).2.1 h1.1 (by have := h1.2.2.1; omega)
 rw [wv_cn] at this
 exact Ev.bind this (Ev.now _)
end Go.DI.Th
namespace Go.DI.Th
open Go Go.RowKit Go.DI

def cmpZ (a b : Int) : Int := if a < b then -1 else if b < a then 1 else 0
theorem cmpZ_scale (c x y : Int) (h : 0 < c) : cmpZ (c * x) (c * y) = cmpZ x y := by
 unfold cmpZ
 have h1 : c * x < c * y ↔ x < y := ⟨fun h' => Int.lt_of_mul_lt_mul_left h' (Int.le_of_lt h), fun h' => Int.mul_lt_mul_of_pos_left h' h⟩
 have h2 : c * y < c * x ↔ y < x := ⟨fun h' => Int.lt_of_mul_lt_mul_left h' (Int.le_of_lt h), fun h' => Int.mul_lt_mul_of_pos_left h' h⟩
 simp only [h1, h2]
theorem wv_lm (b : Bool) (n : Nat) : wv b (lm n) = if b then -(n : Int) else n := by unfold wv; rw [val_lm]
theorem wcmp_ev (b : Bool) (l : List Int) (c : Bool) (m : List Int) (hl : U l) (hm : U m) (hln : l.length <= 35184372088832) (hmn : m.length <= 35184372088832) : Ev (fun k => whole_Cmp.f k b l c m) (cmpZ (wv b l) (wv c m)) := by
 unfold whole_Cmp.f
 refine Ev.bind (wclean_ev b l hl hln) (Ev.bind (wclean_ev c m hm hmn) ?_)
 have hx : len (wv b l).natAbs <= 35184372088832 := by rw [wv_abs]; exact Nat.le_trans (val_len l) hln
 have hy : len (wv c m).natAbs <= 35184372088832 := by rw [wv_abs]; exact Nat.le_trans (val_len m) hmn
 generalize wv b l = x at hx ⊢
 generalize wv c m = y at hy ⊢
 have o1 := cmp_ev (lm x.natAbs) (lm y.natAbs) (lm_ok _).U (lm_ok _).U hx hy
 have o2 := cmp_ev (lm y.natAbs) (lm x.natAbs) (lm_ok _).U (lm_ok _).U hy hx
 rw [val_lm, val_lm] at o1 o2
 show Ev (fun k => if decide (x < 0) ≠ decide (y < 0) then (if decide (x < 0) = true then some (-1) else if decide (x < 0) ≠ decide (y < 0) then some 1 else if decide (x < 0) = true then (nat_Cmp.f k (lm y.natAbs) (lm x.natAbs)).bind fun v32 => some v32 else (nat_Cmp.f k (lm x.natAbs) (lm y.natAbs)).bind fun v32 => some v32) else if decide (x < 0) ≠ decide (y < 0) then some 1 else if decide (x < 0) = true then (nat_Cmp.f k (lm y.natAbs) (lm x.natAbs)).bind fun v32 => some v32 else (nat_Cmp.f k (lm x.natAbs) (lm y.natAbs)).bind fun v32 => some v32) _
 by_cases h1 : x < 0 <;> by_cases h2 : y < 0 <;> simp only [h1, h2, decide_true, decide_false]
 ·refine Ev.if_neg (by decide) (Ev.if_neg (by decide) (Ev.if_pos trivial ((Ev.bind o2 (Ev.now _)).of_eq ?_)))
  unfold cmp cmpZ
  split <;> split <;> (try split) <;> (try split) <;> omega
 ·refine Ev.if_pos (by decide) (Ev.if_pos trivial ((Ev.now _).of_eq ?_))
  unfold cmpZ
  rw [if_pos (by omega)]
 ·refine Ev.if_pos (by decide) (Ev.if_neg (by decide) (Ev.if_pos (by decide) ((Ev.now _).of_eq ?_)))
  unfold cmpZ
  rw [if_neg (by omega), if_pos (by omega)]
 ·refine Ev.if_neg (by decide) (Ev.if_neg (by decide) (Ev.if_neg (by decide) ((Ev.bind o1 (Ev.now _)).of_eq ?_)))
  unfold cmp cmpZ
  split <;> split <;> (try split) <;> (try split) <;> omega
theorem sg_mul (a b : Int) : (if (!(decide (a < 0) == decide (b < 0))) = true then -((a.natAbs * b.natAbs : Nat) : Int) else ((a.natAbs * b.natAbs : Nat) : Int)) = a * b := by
 by_cases h1 : a < 0 <;> by_cases h2 : b < 0 <;> simp only [h1, h2, decide_true, decide_false]
 ·obtain ⟨n, hn⟩ : ∃ n : Nat, a = -(n : Int) := ⟨(-a).toNat, by omega⟩
  obtain ⟨m, hm⟩ : ∃ m : Nat, b = -(m : Int) := ⟨(-b).toNat, by omega⟩
  subst hn; subst hm; simp [Int.neg_mul_neg]
 ·obtain ⟨n, hn⟩ : ∃ n : Nat, a = -(n : Int) := ⟨(-a).toNat, by omega⟩
  obtain ⟨m, hm⟩ : ∃ m : Nat, b = (m : Int) := ⟨b.toNat, by omega⟩
  subst hn; subst hm; simp [Int.neg_mul]
 ·obtain ⟨n, hn⟩ : ∃ n : Nat, a = (n : Int) := ⟨a.toNat, by omega⟩
  obtain ⟨m, hm⟩ : ∃ m : Nat, b = -(m : Int) := ⟨(-b).toNat, by omega⟩
  subst hn; subst hm; simp [Int.mul_neg]
 ·obtain ⟨n, hn⟩ : ∃ n : Nat, a = (n : Int) := ⟨a.toNat, by omega⟩
  obtain ⟨m, hm⟩ : ∃ m : Nat, b = (m : Int) := ⟨b.toNat, by omega⟩
  subst hn; subst hm; simp
theorem wmul_ev (b : Bool) (l : List Int) (c : Bool) (m : List Int) (hl : U l) (hm : U m) (hn : l.length + m.length <= 35184372088832) : Ev (fun k => whole_Mul.f k b l c m) (wl (wv b l * wv c m)) := by
 unfold whole_Mul.f
 refine Ev.bind (wclean_ev b l hl (by omega)) (Ev.bind (wclean_ev c m hm (by omega)) ?_)
 have hx : len (wv b l).natAbs <= l.length := by rw [wv_abs]; exact val_len l
 have hy : len (wv c m).natAbs <= m.length := by rw [wv_abs]; exact val_len m
 generalize wv b l = x at hx ⊢
 generalize wv c m = y at hy ⊢
 have h1 := mul_ev (lm x.natAbs) (lm y.natAbs) (lm_ok _).U (lm_ok _).U (by rw [lm_length, lm_length]; omega)
 rw [val_lm, val_lm] at h1
 have h2 : Ev (fun _ => whole_sign.f (!(decide (x < 0) == decide (y < 0))) (lm (x.natAbs * y.natAbs))) (wl (x * y)) := by
  refine Ev.congr (fun _ => sign_eq _ _) ((Ev.now _).of_eq ?_)
  rw [sg_mul]
 exact Ev.bind h1 (Ev.bind h2 (Ev.now _))
theorem rnum_gcd (z : Int) (q : Nat) (h : q ≠ 0) : ∃ g : Nat, g ≠ 0 /\ z = g * rnum z q /\ q = g * rden z q := by
 have hg := gcd_pos_right z.natAbs q h
 have e1 := Nat.mul_div_cancel' (Nat.gcd_dvd_left z.natAbs q)
 have e2 := Nat.mul_div_cancel' (Nat.gcd_dvd_right z.natAbs q)
 refine ⟨Nat.gcd z.natAbs q, by omega, ?_, e2.symm⟩
 unfold rnum
 generalize z.natAbs / Nat.gcd z.natAbs q = r at e1 ⊢
 generalize Nat.gcd z.natAbs q = g at e1 ⊢
 split
 ·rw [Int.mul_neg, <- Int.natCast_mul, e1]; omega
 ·rw [<- Int.natCast_mul, e1]; omega
theorem cmp_norm (z w : Int) (q p : Nat) (hq : q ≠ 0) (hp : p ≠ 0) : cmpZ (rnum z q * rden w p) (rnum w p * rden z q) = cmpZ (z * p) (w * q) := by
 obtain ⟨g, hg, e1, e2⟩ := rnum_gcd z q hq
 obtain ⟨h, hh, e3, e4⟩ := rnum_gcd w p hp
 generalize rnum z q = a at *
 generalize rden z q = b at *
 generalize rnum w p = c at *
 generalize rden w p = d at *
 have x1 : z * p = (g * h : Nat) * (a * d) := by rw [e1, e4]; simp only [Int.natCast_mul]; grind
 have x2 : w * q = (g * h : Nat) * (c * b) := by rw [e3, e2]; simp only [Int.natCast_mul]; grind
 rw [x1, x2, cmpZ_scale]
 have := Nat.mul_pos (Nat.pos_of_ne_zero hg) (Nat.pos_of_ne_zero hh)
 omega
theorem rl_two (z : Int) (q : Nat) (h : q ≠ 0) : wv (rl z q).1 (rl z q).2.1 = rnum z q /\ wv false (rl z q).2.2 = rden z q := by
 constructor
 ·unfold rl wv rnum
  simp only [val_lm, decide_eq_true_eq]
 ·show wv false (lm _) = _
  rw [wv_lm]
  rfl
theorem rcmp_ev (b : Bool) (n d : List Int) (c : Bool) (n' d' : List Int) (h1 : U n) (h2 : U d) (h3 : U n') (h4 : U d') (l1 : n.length <= 274877906944) (l2 : d.length <= 274877906944) (l3 : n'.length <= 274877906944) (l4 : d'.length <= 274877906944) :
 Ev (fun k => ratio_Cmp.f k b n d c n' d') (cmpZ (num b n d * den d') (num c n' d' * den d)) := by
 unfold ratio_Cmp.f
 refine Ev.bind (rclean_ev b n d h1 h2 (by omega) (by omega)) (Ev.bind (rclean_ev c n' d' h3 h4 (by omega) (by omega)) ?_)
 have hl : len (num b n d).natAbs <= n.length := by
  refine Nat.le_trans (len_mono ?_) (val_len n)
  unfold num
  split
  ·simp
  ·rw [wv_abs]; exact Nat.le_refl _
 have hl' : len (num c n' d').natAbs <= n'.length := by
  refine Nat.le_trans (len_mono ?_) (val_len n')
  unfold num
  split
  ·simp
  ·rw [wv_abs]; exact Nat.le_refl _
 have hd : len (den d) <= d.length + 1 := by
  unfold den
  split
  ·exact len_le (by rw [Nat.pow_succ]; have := Nat.pow_pos (n := d.length) (show 0 < 4294967296 by decide); omega)
  ·exact Nat.le_trans (val_len d) (Nat.le_succ _)
 have hd' : len (den d') <= d'.length + 1 := by
  unfold den
  split
  ·exact len_le (by rw [Nat.pow_succ]; have := Nat.pow_pos (n := d'.length) (show 0 < 4294967296 by decide); omega)
  ·exact Nat.le_trans (val_len d') (Nat.le_succ _)
 have hq := den_pos d
 have hp := den_pos d'
 rw [<- cmp_norm _ _ _ _ hq hp]
 generalize num b n d = z at *
 generalize num c n' d' = w at *
 generalize den d = q at *
 generalize den d' = p at *
 have k1 := rl_lens z q
 have k2 := rl_lens w p
 have u1 := rl_ok z q
 have u2 := rl_ok w p
 have t1 := rl_two z q hq
 have t2 := rl_two w p hp
 have m1 := wmul_ev (rl z q).1 (rl z q).2.1 false (rl w p).2.2 u1.1 u2.2 (by omega)
 have m2 := wmul_ev (rl w p).1 (rl w p).2.1 false (rl z q).2.2 u2.1 u1.2 (by omega)
 rw [t1.1, t2.2] at m1
 rw [t2.1, t1.2] at m2
 have a1 : len (rnum z q * (rden w p : Int)).natAbs <= 1099511627776 := by
  rw [Int.natAbs_mul, Int.natAbs_natCast, rnum_abs]
  refine Nat.le_trans (len_mul _ _) ?_
  have x1 := len_mono (Nat.div_le_self z.natAbs (Nat.gcd z.natAbs q))
  have x2 : len (rden w p) <= len p := len_mono (Nat.div_le_self _ _)
  omega
 have a2 : len (rnum w p * (rden z q : Int)).natAbs <= 1099511627776 := by
  rw [Int.natAbs_mul, Int.natAbs_natCast, rnum_abs]
  refine Nat.le_trans (len_mul _ _) ?_
  have x1 := len_mono (Nat.div_le_self w.natAbs (Nat.gcd w.natAbs p))
  have x2 : len (rden z q) <= len q := len_mono (Nat.div_le_self _ _)
  omega
 generalize rnum z q * (rden w p : Int) = X at *
 generalize rnum w p * (rden z q : Int) = Y at *
 have c1 := wcmp_ev (wl X).1 (wl X).2 (wl Y).1 (wl Y).2 (lm_ok _).U (lm_ok _).U (Nat.le_trans a1 (by decide)) (Nat.le_trans a2 (by decide))
 rw [wv_wl, wv_wl] at c1
 exact Ev.bind (Ev.now _) (Ev.bind m1 (Ev.bind (Ev.now _) (Ev.bind m2 (Ev.bind c1 (Ev.now _)))))
end Go.DI.Th
namespace Go.DI.Th
open Go Go.RowKit Go.DI

def cmpQ (x y : Rat) : Int := if x < y then -1 else if y < x then 1 else 0
theorem cmpQ_num (x y : Rat) : cmpQ x y = cmpZ (x.num * y.den) (y.num * x.den) := by
 unfold cmpQ cmpZ
 simp only [Rat.lt_iff]
theorem cmpQ_mk (z w : Int) (q p : Nat) (hq : q ≠ 0) (hp : p ≠ 0) : cmpZ (z * p) (w * q) = cmpQ (mkRat z q) (mkRat w p) := by
 rw [cmpQ_num, num_mk z q hq, num_mk w p hp, den_mk z q hq, den_mk w p hp, cmp_norm z w q p hq hp]
theorem cmp_cn (r s : Rt) {b c : Nat} (h : RtB b r) (h' : RtB c s) (hb : b <= 274877906944) (hc : c <= 274877906944) : Ev (fun k => ratio_Cmp.f k r.1 r.2.1 r.2.2 s.1 s.2.1 s.2.2) (cmpQ (rv r) (rv s)) := by
 have := rcmp_ev r.1 r.2.1 r.2.2 s.1 s.2.1 s.2.2 h.1 h.2.1 h'.1 h'.2.1 (Nat.le_trans h.2.2.1 hb) (Nat.le_trans h.2.2.2 hb) (Nat.le_trans h'.2.2.1 hc) (Nat.le_trans h'.2.2.2 hc)
 rwa [cmpQ_mk _ _ _ _ (den_pos _) (den_pos _)] at this
theorem cmpQ_zero {x y : Rat} : cmpQ x y = 0 ↔ x = y := by
 unfold cmpQ
 constructor
 ·intro h
  by_cases h1 : x < y
  ·rw [if_pos h1] at h; omega
  ·by_cases h2 : y < x
   ·rw [if_neg h1, if_pos h2] at h; omega
   ·exact Rat.le_antisymm (Rat.not_lt.1 h2) (Rat.not_lt.1 h1)
 ·rintro rfl
  rw [if_neg Rat.lt_irrefl, if_neg Rat.lt_irrefl]
theorem same_cn (r s : Rt) {b c : Nat} (h : RtB b r) (h' : RtB c s) (hb : b <= 274877906944) (hc : c <= 274877906944) : Ev (fun k => ratio_Same.f k r.1 r.2.1 r.2.2 s.1 s.2.1 s.2.2) (decide (rv r = rv s)) := by
 unfold ratio_Same.f
 refine (Ev.bind (f := fun _ v5 => some (v5 == 0)) (cmp_cn r s h h' hb hc) (Ev.now _)).of_eq ?_
 rw [Bool.eq_iff_iff, beq_iff_eq, decide_eq_true_iff, cmpQ_zero]
end Go.DI.Th
namespace Go.DI.Th
open Go Go.RowKit Go.DI

theorem nsub_ev (a b : List Int) (ha : U a) (hb : U b) (hla : a.length <= 35184372088830) (hlb : b.length <= 35184372088830) (h : val b <= val a) : Ev (fun k => nat_Sub.f k a b) (lm (val a - val b), 0) := by
 have h1 := val_len a
 have h2 := val_len b
 unfold nat_Sub.f
 refine Ev.bind (clean_ev a ha (by omega)) (Ev.bind (clean_ev b hb (by omega)) (Ev.bind (order_ev (val a) (val b) (by omega) (by omega)) ?_))
 refine Ev.if_neg (by unfold cmp; split <;> (try split) <;> omega) ?_
 have hm := minus_ev (lm (val a)) (lm (val b)) (lm_ok _) (lm_ok _) (by rw [lm_length]; omega) (by rw [val_lm, val_lm]; exact h)
 rw [val_lm, val_lm] at hm
 exact Ev.bind hm (Ev.now _)
theorem sign_add (x y : Int) (h : decide (x < 0) = decide (y < 0)) : (if decide (x < 0) = true then -((x.natAbs + y.natAbs : Nat) : Int) else ((x.natAbs + y.natAbs : Nat) : Int)) = x + y := by
 by_cases h1 : x < 0
 ·rw [decide_eq_true h1] at h ⊢
  have h2 : y < 0 := of_decide_eq_true h.symm
  rw [if_pos rfl]
  omega
 ·rw [decide_eq_false h1] at h ⊢
  have h2 : ¬ y < 0 := of_decide_eq_false h.symm
  rw [if_neg (by decide)]
  omega
theorem wadd_ev (b : Bool) (l : List Int) (c : Bool) (m : List Int) (hl : U l) (hm : U m) (hln : l.length <= 35184372088830) (hmn : m.length <= 35184372088830) : Ev (fun k => whole_Add.f k b l c m) (wl (wv b l + wv c m)) := by
 unfold whole_Add.f
 refine Ev.bind (wclean_ev b l hl (by omega)) (Ev.bind (wclean_ev c m hm (by omega)) ?_)
 have hx : len (wv b l).natAbs <= l.length := by rw [wv_abs]; exact val_len l
 have hy : len (wv c m).natAbs <= m.length := by rw [wv_abs]; exact val_len m
 generalize wv b l = x at hx ⊢
 generalize wv c m = y at hy ⊢
 by_cases hs : decide (x < 0) = decide (y < 0)
 ·refine Ev.if_pos hs ?_
  have h1 := nadd_ev (lm x.natAbs) (lm y.natAbs) (lm_ok _).U (lm_ok _).U (by rw [lm_length]; omega) (by rw [lm_length]; omega)
  rw [val_lm, val_lm] at h1
  have h2 : Ev (fun _ => whole_sign.f (decide (x < 0)) (lm (x.natAbs + y.natAbs))) (wl (x + y)) := by
   refine Ev.congr (fun _ => sign_eq _ _) ((Ev.now _).of_eq ?_)
   rw [sign_add x y hs]
  exact Ev.bind h1 (Ev.bind h2 (Ev.now _))
 ·refine Ev.if_neg hs ?_
  have hc := cmp_ev (lm x.natAbs) (lm y.natAbs) (lm_ok _).U (lm_ok _).U (by rw [lm_length]; omega) (by rw [lm_length]; omega)
  rw [val_lm, val_lm] at hc
  refine Ev.bind hc ?_
  have hne : (x < 0 /\ ¬ y < 0) \/ (¬ x < 0 /\ y < 0) := by
   by_cases h1 : x < 0 <;> by_cases h2 : y < 0
   ·exact absurd (by rw [decide_eq_true h1, decide_eq_true h2]) hs
   ·exact Or.inl ⟨h1, h2⟩
   ·exact Or.inr ⟨h1, h2⟩
   ·exact absurd (by rw [decide_eq_false h1, decide_eq_false h2]) hs
  by_cases hlt : x.natAbs < y.natAbs
  ·refine Ev.if_pos (by unfold cmp; rw [if_pos hlt]; decide) ?_
   have h1 := nsub_ev (lm y.natAbs) (lm x.natAbs) (lm_ok _).U (lm_ok _).U (by rw [lm_length]; omega) (by rw [lm_length]; omega) (by rw [val_lm, val_lm]; omega)
   rw [val_lm, val_lm] at h1
   have h2 : Ev (fun _ => whole_sign.f (decide (y < 0)) (lm (y.natAbs - x.natAbs))) (wl (x + y)) := by
    refine Ev.congr (fun _ => sign_eq _ _) ((Ev.now _).of_eq ?_)
    congr 1
    by_cases h2 : y < 0
    ·rw [decide_eq_true h2, if_pos rfl]; omega
    ·rw [decide_eq_false h2, if_neg (by decide)]; omega
   exact Ev.bind h1 (Ev.bind h2 (Ev.now _))
  ·refine Ev.if_neg (by unfold cmp; rw [if_neg hlt]; split <;> decide) ?_
   have h1 := nsub_ev (lm x.natAbs) (lm y.natAbs) (lm_ok _).U (lm_ok _).U (by rw [lm_length]; omega) (by rw [lm_length]; omega) (by rw [val_lm, val_lm]; omega)
   rw [val_lm, val_lm] at h1
   have h2 : Ev (fun _ => whole_sign.f (decide (x < 0)) (lm (x.natAbs - y.natAbs))) (wl (x + y)) := by
    refine Ev.congr (fun _ => sign_eq _ _) ((Ev.now _).of_eq ?_)
    congr 1
    by_cases h2 : x < 0
    ·rw [decide_eq_true h2, if_pos rfl]; omega
    ·rw [decide_eq_false h2, if_neg (by decide)]; omega
   exact Ev.bind h1 (Ev.bind h2 (Ev.now _))
theorem den_ev (b : Bool) (n d : List Int) : Ev (fun _ => ratio_den.f b n d) (false, d) := Ev.now _
theorem wl_lens (z : Int) : (wl z).2.length = len z.natAbs := lm_length _
theorem wmul_nd (x y : Rat) {b c : Nat} (hx : Sz x <= b) (hy : Sz y <= c) (h : b + c <= 1099511627776) : Ev (fun k => whole_Mul.f k (cn x).1 (cn x).2.1 false (cn y).2.2) (wl (x.num * y.den)) := by
 have h1 := cnB x hx
 have h2 := cnB y hy
 have := wmul_ev (cn x).1 (cn x).2.1 false (cn y).2.2 h1.1 h2.2.1 (by have := h1.2.2.1; have := h2.2.2.2; omega)
 rw [wv_cn] at this
 have e : wv false (cn y).2.2 = y.den := by unfold wv; rw [(val_cn y).2]; rfl
 rwa [e] at this
theorem Sz_num {x : Rat} {b : Nat} (h : Sz x <= b) : len x.num.natAbs <= b /\ len x.den <= b := by
 unfold Sz at h
 omega
theorem add_cn (r s : Rt) {b c : Nat} (hr : RtB b r) (hs : RtB c s) (h : b + c <= 1073741824) : Ev (fun k => ratio_Add.f k r.1 r.2.1 r.2.2 s.1 s.2.1 s.2.2) (cn (rv r + rv s)) := by
 unfold ratio_Add.f
 refine Ev.bind (clean_cn r hr (by omega)) (Ev.bind (clean_cn s hs (by omega)) (Ev.bind (den_ev _ _ _) ?_))
 have zr := hr.sz
 have zs := hs.sz
 generalize rv r = x at zr ⊢
 generalize rv s = y at zs ⊢
 refine Ev.bind (wmul_nd x y zr zs (by omega)) (Ev.bind (den_ev _ _ _) (Ev.bind (wmul_nd y x zs zr (by omega)) ?_))
 obtain ⟨n1, n2⟩ := Sz_num zr
 obtain ⟨n3, n4⟩ := Sz_num zs
 have m1 := len_mul x.num.natAbs y.den
 have m2 := len_mul y.num.natAbs x.den
 have q1 : len (x.num * (y.den : Int)).natAbs <= 1073741840 := by rw [Int.natAbs_mul, Int.natAbs_natCast]; omega
 have q2 : len (y.num * (x.den : Int)).natAbs <= 1073741840 := by rw [Int.natAbs_mul, Int.natAbs_natCast]; omega
 have ha := wadd_ev (wl (x.num * (y.den : Int))).1 (wl (x.num * (y.den : Int))).2 (wl (y.num * (x.den : Int))).1 (wl (y.num * (x.den : Int))).2 (lm_ok _).U (lm_ok _).U (by rw [wl_lens]; omega) (by rw [wl_lens]; omega)
 rw [wv_wl, wv_wl] at ha
 refine Ev.bind ha ?_
 have hm := mul_ev (cn x).2.2 (cn y).2.2 (cn_ok x).2 (cn_ok y).2 (by have := (cnB x zr).2.2.2; have := (cnB y zs).2.2.2; omega)
 rw [(val_cn x).2, (val_cn y).2] at hm
 refine Ev.bind hm ?_
 have m3 := len_mul x.den y.den
 have m4 := len_mono (Int.natAbs_add_le (x.num * (y.den : Int)) (y.num * (x.den : Int)))
 have m5 := len_add (x.num * (y.den : Int)).natAbs (y.num * (x.den : Int)).natAbs
 have hf := form_cn (x.num * (y.den : Int) + y.num * (x.den : Int)) (x.den * y.den) (Nat.mul_ne_zero x.den_nz y.den_nz) (by omega) (by omega)
 rw [<- Rat.add_def'] at hf
 exact Ev.bind hf (Ev.now _)
end Go.DI.Th
namespace Go.DI.Th
open Go Go.RowKit Go.DI

def sgn (z : Int) : Int := if z < 0 then -1 else if z = 0 then 0 else 1
theorem wsign_ev (b : Bool) (l : List Int) (h : U l) (hn : l.length <= 35184372088832) : Ev (fun k => whole_Sign.f k b l) (sgn (wv b l)) := by
 refine Ev.bind (wclean_ev b l h hn) ?_
 generalize wv b l = z
 unfold wl sgn
 dsimp only
 by_cases h1 : z < 0
 ·rw [if_pos h1]
  exact Ev.if_pos (decide_eq_true h1) (Ev.now _)
 ·rw [if_neg h1]
  refine Ev.if_neg (by simp [h1]) ?_
  by_cases h2 : z = 0
  ·subst h2
   rw [if_pos rfl]
   exact Ev.if_pos (by rw [Int.natAbs_zero, lm_zero]; rfl) (Ev.now _)
  ·rw [if_neg h2]
   have : len z.natAbs ≠ 0 := fun e => h2 (by have := len_eq_zero.1 e; omega)
   exact Ev.if_neg (by rw [lm_length]; omega) (Ev.now _)
end Go.DI.Th
namespace Go.DI.Th
open Go Go.RowKit Go.DI

def dec (n : Nat) : List Int := if n < 10 then [48 + (n : Int)] else dec (n / 10) ++ [48 + ((n % 10 : Nat) : Int)]
def pad : Nat -> Nat -> List Int
 | 0, _ => []
 | w + 1, n => pad w (n / 10) ++ [48 + ((n % 10 : Nat) : Int)]
theorem pad_length : ∀ w n, (pad w n).length = w
 | 0, _ => rfl
 | w + 1, n => by rw [pad, List.length_append, pad_length w]; rfl
theorem pad_add (a : Nat) : ∀ b n, pad (a + b) n = pad a (n / 10 ^ b) ++ pad b n
 | 0, n => by rw [Nat.pow_zero, Nat.div_one]; exact (List.append_nil _).symm
 | b + 1, n => by
  rw [<- Nat.add_assoc, pad, pad_add a b, pad, Nat.div_div_eq_div_mul, Nat.pow_succ, Nat.mul_comm 10, List.append_assoc]
theorem pad_mod : ∀ w n, pad w (n % 10 ^ w) = pad w n
 | 0, _ => rfl
 | w + 1, n => by
  have h1 : n % 10 ^ (w + 1) / 10 = n / 10 % 10 ^ w := by
   rw [Nat.pow_succ, Nat.mul_comm, Nat.mod_mul_right_div_self]
  have h2 : n % 10 ^ (w + 1) % 10 = n % 10 := Nat.mod_mod_of_dvd n ⟨10 ^ w, by rw [Nat.pow_succ, Nat.mul_comm]⟩
  rw [pad, pad, h1, h2, pad_mod w]
theorem dec_small {n : Nat} (h : n < 10) : dec n = [48 + (n : Int)] := by rw [dec, if_pos h]
theorem dec_big {n : Nat} (h : ¬ n < 10) : dec n = dec (n / 10) ++ [48 + ((n % 10 : Nat) : Int)] := by rw [dec, if_neg h]
theorem pad_zero : ∀ w, pad w 0 = List.replicate w 48
 | 0 => rfl
 | w + 1 => by
  rw [pad, Nat.zero_div, pad_zero w, List.replicate_succ']
  rfl
theorem pad_dec : ∀ w n, n ≠ 0 -> n < 10 ^ w -> ∃ z, pad w n = List.replicate z 48 ++ dec n
 | 0, n, h0, h => by rw [Nat.pow_zero] at h; omega
 | w + 1, n, h0, h => by
  rw [pad]
  by_cases h1 : n < 10
  ·refine ⟨w, ?_⟩
   rw [Nat.div_eq_of_lt h1, pad_zero, dec_small h1, Nat.mod_eq_of_lt h1]
  ·rw [Nat.pow_succ] at h
   obtain ⟨z, hz⟩ := pad_dec w (n / 10) (by omega) (by rw [Nat.div_lt_iff_lt_mul (by decide)]; exact h)
   exact ⟨z, by rw [hz, dec_big h1, List.append_assoc]⟩
theorem dec_byte (n : Nat) : ∀ x ∈ dec n, 48 <= x /\ x <= 57 := by
 induction n using Nat.strongRecOn with
 | ind n ih =>
  intro x h
  by_cases h1 : n < 10
  ·rw [dec_small h1, List.mem_singleton] at h
   subst h
   omega
  ·rw [dec_big h1, List.mem_append] at h
   rcases h with h | h
   ·exact ih (n / 10) (by omega) x h
   ·rw [List.mem_singleton] at h
    subst h
    have := Nat.mod_lt n (show 0 < 10 by decide)
    omega
theorem dec_head (n : Nat) (h0 : n ≠ 0) : ∃ x r, dec n = x :: r /\ x ≠ 48 := by
 induction n using Nat.strongRecOn with
 | ind n ih =>
  by_cases h1 : n < 10
  ·exact ⟨_, _, dec_small h1, by omega⟩
  ·obtain ⟨x, r, e, hx⟩ := ih (n / 10) (by omega) (by omega)
   exact ⟨x, r ++ [48 + ((n % 10 : Nat) : Int)], by rw [dec_big h1, e]; rfl, hx⟩
theorem bl_tenth (n d : Nat) (h0 : n ≠ 0) (hd : 2 <= d) : bl (n / d) + 1 <= bl n := by
 have hb : 1 <= bl n := by unfold bl; rw [if_neg h0]; omega
 by_cases hz : n / d = 0
 ·rw [hz]; exact hb
 ·have h1 := bl_le hz
  have h2 := bl_lt n
  have h3 : n / d * 2 <= n := Nat.le_trans (Nat.mul_le_mul_left _ hd) (Nat.div_mul_le_self n d)
  have hb2 : 1 <= bl (n / d) := by unfold bl; rw [if_neg hz]; omega
  have h4 : 2 ^ bl (n / d) <= n := by
   have e : 2 ^ bl (n / d) = 2 ^ (bl (n / d) - 1) * 2 := by rw [<- Nat.pow_succ]; congr 1; omega
   rw [e]
   exact Nat.le_trans (Nat.mul_le_mul_right _ h1) h3
  apply Classical.byContradiction
  intro hc
  have := Nat.pow_le_pow_right (n := 2) (by decide) (show bl n <= bl (n / d) by omega)
  omega
theorem dec_length (n : Nat) : (dec n).length <= bl n + 1 := by
 induction n using Nat.strongRecOn with
 | ind n ih =>
  by_cases h1 : n < 10
  ·rw [dec_small h1, List.length_singleton]; omega
  ·have := ih (n / 10) (by omega)
   have := bl_tenth n 10 (by omega) (by decide)
   rw [dec_big h1, List.length_append, List.length_singleton]
   omega
theorem bl_len (n : Nat) : bl n <= 32 * len n := by
 by_cases h0 : n = 0
 ·subst h0; exact Nat.zero_le _
 ·have h1 := lt_pow_len n
  rw [show (4294967296 : Nat) = 2 ^ 32 from rfl, <- Nat.pow_mul] at h1
  have h2 := bl_le h0
  apply Classical.byContradiction
  intro hc
  have := Nat.pow_le_pow_right (n := 2) (by decide) (show 32 * len n <= bl n - 1 by omega)
  omega
theorem lt_ten_pow (n m : Nat) (h : n / 10 ^ m = 0) : n < 10 ^ m := by
 have hp : 0 < 10 ^ m := Nat.pow_pos (by decide)
 apply Classical.byContradiction
 intro hc
 have := (Nat.le_div_iff_mul_le hp (x := 1) (y := n)).2 (by omega)
 omega

theorem nine_loop (n0 : Nat) (h : n0 < 18446744073709551616) : ∀ (i n : Nat) (done : List Int), n < 18446744073709551616 -> i + done.length = 9 -> pad 9 n0 = pad i n ++ done ->
 Ev (fun k => nat_nine.l0 k (n : Int) (List.replicate i 0 ++ done) ((i : Int) - 1)) (pad 9 n0) := by
 intro i
 induction i with
 | zero =>
  intro n done hn hl hp
  refine Ev.step (fun k => ?_) (Ev.now _)
  rw [nat_nine.l0, if_neg (by omega), hp]
  rfl
 | succ i ih =>
  intro n done hn hl hp
  rw [show pad (i + 1) n = pad i (n / 10) ++ [48 + ((n % 10 : Nat) : Int)] from rfl, List.append_assoc] at hp
  have e1 : (((i + 1 : Nat) : Int) - 1).toNat = i := by omega
  have c1 : (((i + 1 : Nat) : Int) - 1) >= 0 := by omega
  have c2 : (((i + 1 : Nat) : Int) - 1) < ((List.replicate (i + 1) (0 : Int) ++ done).length : Int) := by
   rw [List.length_append, List.length_replicate]; omega
  have e2 : Int.tdiv (n : Int) 10 = ((n / 10 : Nat) : Int) := rfl
  have e3 : Int.tmod (n : Int) 10 = ((n % 10 : Nat) : Int) := rfl
  have hm := Nat.mod_lt n (show 0 < 10 by decide)
  have e4 : IntKind.u8.wrap (IntKind.u64.wrap (48 + ((n % 10 : Nat) : Int))) = 48 + ((n % 10 : Nat) : Int) := by
   generalize n % 10 = d at hm ⊢
   rw [w64, IntKind.wrap_u8]; omega
  have e5 : IntKind.u64.wrap ((n / 10 : Nat) : Int) = ((n / 10 : Nat) : Int) := by
   clear e4
   rw [w64]; omega
  have e6 : wrap64 ((((i + 1 : Nat) : Int) - 1) - 1) = (i : Int) - 1 := by
   clear e4 e5
   rw [wrap_id (by omega) (by omega)]; omega
  refine Ev.step (fun k => ?_) (ih (n / 10) ((48 + ((n % 10 : Nat) : Int)) :: done) (by clear e4 e5 e6; omega) (by rw [List.length_cons]; omega) hp)
  rw [nat_nine.l0, if_pos c1, if_pos c2, e1, e2, e3, e4, e5, e6, fillr]
theorem nine_ev (n : Nat) (h : n < 18446744073709551616) : Ev (fun k => nat_nine.f k (n : Int)) (pad 9 n) := by
 have h1 := nine_loop n h 9 n [] h rfl (by rw [List.append_nil])
 rw [List.append_nil] at h1
 exact h1

def p9 (i : Nat) : Nat := 10 ^ (9 * i)
theorem p9_succ (i : Nat) : p9 (i + 1) = p9 i * 1000000000 := by
 unfold p9
 rw [Nat.mul_add, Nat.pow_add]
def parts (n : Nat) : Nat -> List Int
 | 0 => []
 | i + 1 => parts n i ++ [((n / p9 i % 1000000000 : Nat) : Int)]
theorem parts_length (n : Nat) : ∀ i, (parts n i).length = i
 | 0 => rfl
 | i + 1 => by rw [parts, List.length_append, parts_length n i]; rfl
theorem parts_rd (n : Nat) : ∀ m i, i < m -> rd (parts n m) (i : Int) = ((n / p9 i % 1000000000 : Nat) : Int)
 | 0, i, h => by omega
 | m + 1, i, h => by
  rw [parts]
  by_cases hi : i = m
  ·subst hi
   have := rd_at (parts n i) (((n / p9 i % 1000000000 : Nat) : Int)) []
   rwa [parts_length] at this
  ·have ih := parts_rd n m i (by omega)
   rw [rd_nat] at ih ⊢
   rw [List.getD_eq_getElem?_getD, List.getElem?_append_left (by rw [parts_length]; omega), <- List.getD_eq_getElem?_getD]
   exact ih
theorem bytesOk_of {l : List Int} (h : ∀ x ∈ l, 48 <= x /\ x <= 57) : bytesOk l = true := by
 unfold bytesOk
 rw [List.all_eq_true]
 intro x hx
 have := h x hx
 simp only [Bool.and_eq_true, decide_eq_true_eq]
 omega
theorem print_l2 (r : List Int) (x : Int) (hx : x ≠ 48) (hb : ∀ y ∈ x :: r, 48 <= y /\ y <= 57) (z : Nat) (hz : z + r.length <= 1125899906842624) : ∀ d i : Nat, i + d = z ->
 Ev (fun k => nat_Print.l2 k (List.replicate z 48 ++ x :: r) (i : Int)) (ofBytes (x :: r)) := by
 have hl : (List.replicate z (48 : Int) ++ x :: r).length = z + r.length + 1 := by rw [List.length_append, List.length_replicate, List.length_cons]; omega
 intro d
 induction d with
 | zero =>
  intro i hi
  obtain rfl : i = z := by omega
  have hr : rd (List.replicate i 48 ++ x :: r) (i : Int) = x := by
   have := rd_at (List.replicate i 48) x r
   rwa [List.length_replicate] at this
  have hd : (List.replicate i (48 : Int) ++ x :: r).drop i = x :: r := by
   rw [List.drop_append_of_le_length (by rw [List.length_replicate]; exact Nat.le_refl _), List.drop_of_length_le (by rw [List.length_replicate]; exact Nat.le_refl _), List.nil_append]
  refine Ev.step (fun k => ?_) (Ev.now _)
  rw [nat_Print.l2, if_pos (Int.natCast_nonneg _), if_pos (by rw [hl]; omega), hr, if_neg hx, Int.toNat_natCast, hd, if_pos (bytesOk_of hb)]
 | succ d ih =>
  intro i hi
  have hr : rd (List.replicate z 48 ++ x :: r) (i : Int) = 48 := by
   rw [rd_nat, List.getD_eq_getElem?_getD, List.getElem?_append_left (by rw [List.length_replicate]; omega), List.getElem?_replicate, if_pos (by omega)]
   rfl
  refine Ev.step (fun k => ?_) (ih (i + 1) (by omega))
  rw [nat_Print.l2, if_pos (Int.natCast_nonneg _), if_pos (by rw [hl]; clear hr; omega), if_pos hr, wr_succ i (by omega)]
theorem print_l1 (n m : Nat) (hm : m <= 1099511627776) (R : ByteArray) (hend : Ev (fun k => nat_Print.l2 k (pad (9 * m) n) 0) R) : ∀ i : Nat, i <= m ->
 Ev (fun k => nat_Print.l1 k (parts n m) (pad (9 * (m - i)) (n / p9 i)) ((i : Int) - 1)) R := by
 intro i
 induction i with
 | zero =>
  intro _
  refine Ev.step (fun k => ?_) hend
  rw [nat_Print.l1, if_neg (by omega), Nat.sub_zero, show p9 0 = 1 from rfl, Nat.div_one]
 | succ i ih =>
  intro hi
  have e0 : (((i + 1 : Nat) : Int) - 1) = (i : Int) := by omega
  have hp := parts_rd n m i (by omega)
  have hlt := Nat.mod_lt (n / p9 i) (show 0 < 1000000000 by decide)
  have e9 := nine_ev (n / p9 i % 1000000000) (by omega)
  have hpad : pad (9 * (m - (i + 1))) (n / p9 (i + 1)) ++ pad 9 (n / p9 i % 1000000000) = pad (9 * (m - i)) (n / p9 i) := by
   have h1 := pad_mod 9 (n / p9 i)
   have h2 := pad_add (9 * (m - (i + 1))) 9 (n / p9 i)
   rw [show (10 : Nat) ^ 9 = 1000000000 from rfl] at h1 h2
   rw [h1, p9_succ, <- Nat.div_div_eq_div_mul, <- h2]
   congr 1
   omega
  have hw : wrap64 ((i : Int) - 1) = (i : Int) - 1 := wrap_id (by omega) (by omega)
  refine Ev.step (f := fun k => (nat_nine.f k (((n / p9 i % 1000000000 : Nat) : Int))).bind fun v7 => if (pad (9 * (m - (i + 1))) (n / p9 (i + 1))).length + v7.length < 140737488355329 then nat_Print.l1 k (parts n m) (pad (9 * (m - (i + 1))) (n / p9 (i + 1)) ++ v7) ((i : Int) - 1) else none) (fun k => ?_) (Ev.bind e9 ?_)
  ·rw [nat_Print.l1, e0, if_pos (by exact Int.natCast_nonneg _), if_pos (by rw [parts_length]; exact Int.ofNat_lt.2 (by omega)), hp, hw]
  ·refine Ev.if_pos ?_ ?_
   ·rw [pad_length, pad_length]; omega
   ·rw [hpad]
    exact ih (by omega)
theorem print_l0 (n : Nat) (h0 : n ≠ 0) (hl : len n <= 17179869184) : ∀ (x i : Nat), x = n / p9 i -> i + bl x <= 549755813888 ->
 Ev (fun k => nat_Print.l0 k (lm x) (parts n i)) (ofBytes (dec n)) := by
 intro x
 induction x using Nat.strongRecOn with
 | ind x ih =>
  intro i hx hb
  by_cases hz : x = 0
  ·have hlt : n < 10 ^ (9 * i) := lt_ten_pow n (9 * i) (by rw [<- hz, hx]; rfl)
   obtain ⟨z, hpad⟩ := pad_dec (9 * i) n h0 hlt
   obtain ⟨y, r, hd, hy⟩ := dec_head n h0
   have hby := dec_byte n
   rw [hd] at hpad hby
   have hlen : z + (r.length + 1) = 9 * i := by
    have := congrArg List.length hpad
    rw [pad_length, List.length_append, List.length_replicate, List.length_cons] at this
    exact this.symm
   have hend := print_l2 r y hy hby z (by omega) z 0 (by omega)
   rw [<- hpad, <- hd] at hend
   have h1 := print_l1 n i (by omega) (ofBytes (dec n)) hend i (Nat.le_refl _)
   rw [Nat.sub_self, Nat.mul_zero] at h1
   have hw : wrap64 ((i : Int) - 1) = (i : Int) - 1 := wrap_id (by omega) (by omega)
   refine Ev.step (fun k => ?_) h1
   rw [nat_Print.l0, hz, lm_zero, if_neg (by simp), parts_length, hw]
   rfl
  ·have hbx := bl_tenth x 1000000000 hz (by decide)
   have hlx : len x <= 17179869184 := Nat.le_trans (len_mono (by rw [hx]; exact Nat.div_le_self _ _)) hl
   have es := small_ev (lm x) (lm_ok x) (by rw [lm_length]; omega) 1000000000 (by decide) (by decide)
   rw [val_lm] at es
   have hl0 : len x ≠ 0 := fun e => hz (len_eq_zero.1 e)
   refine Ev.step (f := fun k => (nat_small.f k (lm x) 1000000000).bind fun v5 => if (parts n i).length < 17592186044416 then nat_Print.l0 k v5.1 (parts n i ++ [v5.2]) else none) (fun k => ?_) (Ev.bind es ?_)
   ·rw [nat_Print.l0, if_pos (by rw [lm_length]; omega)]
   ·refine Ev.if_pos (by rw [parts_length]; omega) ?_
    have hn : x / 1000000000 = n / p9 (i + 1) := by rw [hx, p9_succ, Nat.div_div_eq_div_mul]
    have := ih (x / 1000000000) (by omega) (i + 1) hn (by omega)
    rw [parts, <- hx] at this
    exact this
theorem obs_size (xs : List Int) : (ofBytes xs).size = xs.length := by simp [ofBytes, ByteArray.size]
def prN (n : Nat) : ByteArray := ofBytes (dec n)
theorem prN_size (n : Nat) : (prN n).size <= 32 * len n + 1 := by
 have h1 := dec_length n
 have h2 := bl_len n
 unfold prN
 rw [obs_size]
 omega
theorem print_ev (a : List Int) (ha : U a) (hl : a.length <= 17179869184) : Ev (fun k => nat_Print.f k a) (prN (val a)) := by
 have lv := val_len a
 refine Ev.bind (clean_ev a ha (by omega)) ?_
 generalize val a = n at lv ⊢
 by_cases h0 : n = 0
 ·subst h0
  refine Ev.if_pos (by rw [lm_zero]; rfl) ((Ev.now _).of_eq ?_)
  decide +kernel
 ·have hl0 : len n ≠ 0 := fun e => h0 (len_eq_zero.1 e)
  have hb := bl_len n
  refine Ev.if_neg (by rw [lm_length]; omega) ?_
  exact print_l0 n h0 (by omega) n 0 (by rw [show p9 0 = 1 from rfl, Nat.div_one]) (by omega)
end Go.DI.Th
namespace Go.DI.Th
open Go Go.RowKit Go.DI

theorem prN_small {n : Nat} (h : n < 18446744073709551616) : (prN n).size <= 65 := by
 have h1 := prN_size n
 have h2 := len_small h
 omega
def minus : ByteArray := ⟨#[45]⟩
def slash : ByteArray := ⟨#[47]⟩
def prW (z : Int) : ByteArray := if z < 0 then minus ++ prN z.natAbs else prN z.natAbs
theorem prW_size (z : Int) : (prW z).size <= 32 * len z.natAbs + 2 := by
 have := prN_size z.natAbs
 unfold prW
 split
 ·rw [ByteArray.size_append]
  have : minus.size = 1 := rfl
  omega
 ·omega
theorem wprint_ev (b : Bool) (l : List Int) (h : U l) (hn : l.length <= 17179869184) : Ev (fun k => whole_Print.f k b l) (prW (wv b l)) := by
 have lv := val_len l
 have ha := wv_abs b l
 refine Ev.bind (wclean_ev b l h (by omega)) ?_
 generalize wv b l = z at ha ⊢
 have hl : len z.natAbs <= 17179869184 := by rw [ha]; omega
 have hp := print_ev (lm z.natAbs) (lm_ok _).U (by rw [lm_length]; exact hl)
 rw [val_lm] at hp
 have hs := prN_size z.natAbs
 unfold wl prW
 dsimp only
 by_cases hz : z < 0
 ·rw [if_pos hz]
  refine Ev.if_pos (decide_eq_true hz) (Ev.bind hp (Ev.if_pos ?_ (Ev.now _)))
  have : (⟨#[45]⟩ : ByteArray).size = 1 := rfl
  omega
 ·rw [if_neg hz]
  exact Ev.if_neg (by simp [hz]) (Ev.bind hp (Ev.now _))
def prQ (z : Int) (q : Nat) : ByteArray := if q = 1 then prW z else prW z ++ slash ++ prN q
def prR (b : Bool) (n d : List Int) : ByteArray := prQ (wv (rl (num b n d) (den d)).1 (rl (num b n d) (den d)).2.1) (den d / Nat.gcd (num b n d).natAbs (den d))
theorem num_abs (b : Bool) (n d : List Int) : (num b n d).natAbs <= val n := by
 unfold num
 split
 ·exact Nat.zero_le _
 ·rw [wv_abs]; exact Nat.le_refl _
theorem prQ_size (z : Int) (q : Nat) : (prQ z q).size <= 32 * len z.natAbs + 32 * len q + 4 := by
 have h1 := prW_size z
 have h2 := prN_size q
 have h3 : slash.size = 1 := rfl
 unfold prQ
 split
 ·omega
 ·rw [ByteArray.size_append, ByteArray.size_append]; omega
theorem rl_len (b : Bool) (n d : List Int) : len ((num b n d).natAbs / Nat.gcd (num b n d).natAbs (den d)) <= n.length /\ len (den d / Nat.gcd (num b n d).natAbs (den d)) <= d.length + 1 := by
 have lvn := val_len n
 have lvd := val_len d
 have hn := num_abs b n d
 have hd : den d <= max (val d) 1 := by unfold den; split <;> omega
 constructor
 ·exact Nat.le_trans (len_mono (Nat.le_trans (Nat.div_le_self _ _) hn)) lvn
 ·refine Nat.le_trans (len_mono (Nat.le_trans (Nat.div_le_self _ _) hd)) ?_
  have h1 : len (max (val d) 1) <= len (val d) + 1 := by
   rcases Nat.le_total (val d) 1 with h | h
   ·rw [Nat.max_eq_right h]
    have : len 1 <= 1 := len_le (by decide)
    omega
   ·rw [Nat.max_eq_left h]; omega
  omega
theorem prR_size (b : Bool) (n d : List Int) : (prR b n d).size <= 32 * n.length + 32 * (d.length + 1) + 4 := by
 have h := rl_len b n d
 have := prQ_size (wv (rl (num b n d) (den d)).1 (rl (num b n d) (den d)).2.1) (den d / Nat.gcd (num b n d).natAbs (den d))
 rw [wv_abs] at this
 have e : val (rl (num b n d) (den d)).2.1 = (num b n d).natAbs / Nat.gcd (num b n d).natAbs (den d) := val_lm _
 rw [e] at this
 unfold prR
 omega
theorem rprint_ev (b : Bool) (n d : List Int) (hn : U n) (hd : U d) (hln : n.length <= 8589934592) (hld : d.length <= 8589934592) : Ev (fun k => ratio_Print.f k b n d) (prR b n d) := by
 have hlen := rl_len b n d
 refine Ev.bind (rclean_ev b n d hn hd (by omega) (by omega)) ?_
 have e1 : (rl (num b n d) (den d)).2.1 = lm ((num b n d).natAbs / Nat.gcd (num b n d).natAbs (den d)) := rfl
 have e2 : (rl (num b n d) (den d)).2.2 = lm (den d / Nat.gcd (num b n d).natAbs (den d)) := rfl
 unfold prR
 generalize hq : den d / Nat.gcd (num b n d).natAbs (den d) = q at hlen e2 ⊢
 generalize (num b n d).natAbs / Nat.gcd (num b n d).natAbs (den d) = p at hlen e1 ⊢
 generalize rl (num b n d) (den d) = x at e1 e2 ⊢
 obtain ⟨s, l1, l2⟩ := x
 dsimp only at e1 e2 ⊢
 subst e1 e2
 have hw := wprint_ev s (lm p) (lm_ok p).U (by rw [lm_length]; omega)
 have hc := cmp_ev (lm q) (lm 1) (lm_ok q).U (lm_ok 1).U (by rw [lm_length]; omega) (by rw [lm_length]; have : len 1 <= 1 := len_le (by decide); omega)
 rw [val_lm, val_lm] at hc
 have hs := prW_size (wv s (lm p))
 rw [wv_abs, val_lm] at hs
 have hs2 := prN_size q
 refine Ev.bind hw (Ev.bind (ofN_ev 1 (by decide)) (Ev.bind hc ?_))
 unfold prQ
 by_cases h1 : q = 1
 ·subst h1
  rw [if_pos rfl]
  exact Ev.if_pos (by unfold cmp; rw [if_neg (by omega), if_neg (by omega)]) (Ev.now _)
 ·rw [if_neg h1]
  have hp := print_ev (lm q) (lm_ok q).U (by rw [lm_length]; omega)
  rw [val_lm] at hp
  refine Ev.if_neg (by unfold cmp; split <;> (try split) <;> omega) (Ev.if_pos ?_ (Ev.bind hp (Ev.if_pos ?_ (Ev.now _))))
  ·have : (⟨#[47]⟩ : ByteArray).size = 1 := rfl
   omega
  ·rw [ByteArray.size_append]
   have : (⟨#[47]⟩ : ByteArray).size = 1 := rfl
   omega
theorem digits_prR (n : Nat) : prR false (lm n) (lm 1) = prN n := by
 have h1 : val (lm 1) = 1 := val_lm 1
 have h2 : den (lm 1) = 1 := by unfold den; rw [h1, if_neg (by decide)]
 have h3 : num false (lm n) (lm 1) = (n : Int) := by unfold num wv; rw [h1, if_neg (by decide), if_neg (by simp), val_lm]
 unfold prR
 rw [h2, h3, Int.natAbs_natCast, Nat.gcd_one_right]
 unfold rl prQ
 rw [Int.natAbs_natCast, Nat.gcd_one_right, Nat.div_one, Nat.div_one, if_pos rfl]
 have e : wv (decide ((n : Int) < 0)) (lm n) = (n : Int) := by
  rw [decide_eq_false (show ¬ ((n : Int) < 0) by omega)]
  unfold wv
  rw [if_neg (by simp), val_lm]
 rw [e]
 unfold prW
 rw [if_neg (show ¬ ((n : Int) < 0) by omega), Int.natAbs_natCast]
end Go.DI.Th
namespace Go.DI.Th
open Go Go.RowKit Go.DI

def prT (r : Rt) : ByteArray := prR r.1 r.2.1 r.2.2
theorem prT_ev (r : Rt) (h : RtOk r) : Ev (fun k => ratio_Print.f k r.1 r.2.1 r.2.2) (prT r) := rprint_ev r.1 r.2.1 r.2.2 h.1 h.2.1 (by have := h.2.2.1; omega) (by have := h.2.2.2; omega)
theorem ofprint_ev (n : Nat) (h : n <= 9223372036854775807) : Ev (fun k => (ratio_Of.f k (n : Int)).bind fun v2 => ((ratio_Print.f k v2.1 v2.2.1 v2.2.2).bind fun v3 => (some v3))) (prN n) := by
 have h1 := rof_ev (n : Int) (by omega) (by omega)
 rw [wl_nat] at h1
 have hl : len n <= 2 := len_small (by omega)
 have h2 := rprint_ev false (lm n) (lm 1) (lm_ok n).U (lm_ok 1).U (by rw [lm_length]; omega) (by rw [lm_length]; have := len_small (show 1 < 18446744073709551616 by decide); omega)
 rw [digits_prR] at h2
 exact Ev.bind h1 (Ev.bind h2 (Ev.now _))
end Go.DI.Th
namespace Go.DI.Th
open Go Go.RowKit Go.DI

def Dig (c : UInt8) : Prop := 48 <= c.toNat /\ c.toNat <= 57
theorem Dig.n47 {c : UInt8} (h : Dig c) : c ≠ 47 := fun e => by subst e; exact absurd h.1 (by decide)
theorem Dig.n45 {c : UInt8} (h : Dig c) : c ≠ 45 := fun e => by subst e; exact absurd h.1 (by decide)
theorem toL_ofBytes (l : List Int) : toL (ofBytes l) = l.map fun n => UInt8.ofNat n.toNat := by unfold toL ofBytes; rfl
theorem prN_dig (n : Nat) : ∀ c ∈ toL (prN n), Dig c := by
 intro c hc
 unfold prN at hc
 rw [toL_ofBytes, List.mem_map] at hc
 obtain ⟨x, hx, e⟩ := hc
 have := dec_byte n x hx
 subst e
 unfold Dig
 rw [UInt8.toNat_ofNat', Nat.mod_eq_of_lt (by omega)]
 omega
def vb (l : List UInt8) : Nat := l.foldl (fun a c => 10 * a + (c.toNat - 48)) 0
theorem vb_prN (n : Nat) : vb (toL (prN n)) = n := by
 unfold prN
 rw [toL_ofBytes]
 induction n using Nat.strongRecOn with
 | ind n ih =>
  by_cases h : n < 10
  ·rw [dec_small h]
   show 10 * 0 + ((UInt8.ofNat (48 + (n : Int)).toNat).toNat - 48) = n
   rw [UInt8.toNat_ofNat', Nat.mod_eq_of_lt (by omega)]
   omega
  ·rw [dec_big h, List.map_append]
   unfold vb at ih ⊢
   rw [List.foldl_append, ih (n / 10) (by omega)]
   show 10 * (n / 10) + ((UInt8.ofNat (48 + ((n % 10 : Nat) : Int)).toNat).toNat - 48) = n
   have hm : n % 10 < 10 := Nat.mod_lt _ (by decide)
   have hd := Nat.div_add_mod n 10
   generalize n % 10 = m at hm hd ⊢
   rw [UInt8.toNat_ofNat', Nat.mod_eq_of_lt (by omega)]
   omega
theorem toL_minus : toL minus = [45] := rfl
theorem toL_slash : toL slash = [47] := rfl
theorem prN_ne (n : Nat) : toL (prN n) ≠ [] := by
 unfold prN
 rw [toL_ofBytes]
 by_cases h : n < 10
 ·rw [dec_small h]; simp
 ·rw [dec_big h]; simp
theorem wv_rl (z : Int) (q : Nat) : wv (rl z q).1 (rl z q).2.1 = rnum z q := by
 unfold rl wv rnum
 simp only [val_lm, decide_eq_true_eq]
theorem prT_eq (r : Rt) : prT r = prQ (rnum (num r.1 r.2.1 r.2.2) (den r.2.2)) (rden (num r.1 r.2.1 r.2.2) (den r.2.2)) := by
 unfold prT prR
 rw [wv_rl]
 rfl
end Go.DI.Th
namespace Go.DI.Th
open Go Go.RowKit Go.DI

def blank (c : UInt8) : Bool := c == 32 || c == 9 || c == 13
def plain (c : UInt8) : Bool := decide (32 < c.toNat /\ c.toNat < 127)
def inw (c : UInt8) : Bool := plain c && !(c == 35)
abbrev W := Int × Int × ByteArray
theorem u8_eq (c : UInt8) (n : Nat) (h : n < 256) : ((c.toNat : Int) = (n : Int)) ↔ c = UInt8.ofNat n := by
 constructor
 ·intro e
  apply UInt8.toNat_inj.1
  rw [UInt8.toNat_ofNat', Nat.mod_eq_of_lt h]
  omega
 ·intro e
  rw [e, UInt8.toNat_ofNat', Nat.mod_eq_of_lt h]
theorem blank_eq (c : UInt8) : lex_blank.f (c.toNat : Int) = some (blank c) := by
 unfold lex_blank.f blank
 have h1 : ((c.toNat : Int) = 32) ↔ c = 32 := u8_eq c 32 (by decide)
 have h2 : ((c.toNat : Int) = 9) ↔ c = 9 := u8_eq c 9 (by decide)
 have h3 : ((c.toNat : Int) = 13) ↔ c = 13 := u8_eq c 13 (by decide)
 by_cases e1 : c = 32
 ·rw [if_pos (h1.2 e1)]; simp [e1]
 ·rw [if_neg (fun e => e1 (h1.1 e))]
  by_cases e2 : c = 9
  ·rw [if_pos (h2.2 e2)]; simp [e2]
  ·rw [if_neg (fun e => e2 (h2.1 e))]
   have : (((c.toNat : Int) == 13) : Bool) = (c == 13) := by
    rw [Bool.eq_iff_iff, beq_iff_eq, beq_iff_eq]; exact h3
   rw [this]
   simp [e1, e2]
theorem plain_eq (c : UInt8) : lex_plain.f (c.toNat : Int) = some (plain c) := by
 unfold lex_plain.f plain
 by_cases e1 : (c.toNat : Int) > 32
 ·rw [if_pos e1]
  have e : decide ((c.toNat : Int) < 127) = decide (32 < c.toNat /\ c.toNat < 127) := by
   rw [decide_eq_decide]; omega
  rw [e]
 ·rw [if_neg e1]
  have e : decide (32 < c.toNat /\ c.toNat < 127) = false := by
   rw [decide_eq_false_iff_not]; omega
  rw [e]
def wordsS (acc : List W) (pos : Nat) (cs : List UInt8) : List W × Int × Int :=
 match cs with
 | [] => (acc, 0, 0)
 | c :: r => if blank c then wordsS acc (pos + 1) r else if c = 35 then (acc, 0, 0) else if plain c then
  (if acc.length >= 4096 then ([], pos, 16) else wordsS (acc ++ [((pos : Int), 0, ofL (c :: r.takeWhile inw))]) (pos + (c :: r.takeWhile inw).length) (r.dropWhile inw)) else ([], pos, 4)
termination_by cs.length
decreasing_by
 ·simp
 ·have h := congrArg List.length (List.takeWhile_append_dropWhile (p := inw) (l := r))
  rw [List.length_append] at h
  rw [List.length_cons]
  omega
theorem words_l1 (x : ByteArray) (acc : List W) (ha : acc.length < 4096) (R : List W × Int × Int) (hx : x.size <= 1125899906842624) (p : List UInt8) : ∀ (r w : List UInt8), toL x = p ++ (w ++ r) ->
 Ev (fun k => lex_Words.l0 k x (acc ++ [((p.length : Int), 0, ofL (w ++ r.takeWhile inw))]) ((p.length + (w ++ r.takeWhile inw).length : Nat) : Int)) R ->
 Ev (fun k => lex_Words.l1 k x acc (p.length : Int) ((p.length + w.length : Nat) : Int)) R := by
 intro r
 induction r with
 | nil =>
  intro w hw hend
  rw [List.takeWhile_nil, List.append_nil] at hend
  rw [List.append_nil] at hw
  refine Ev.succ ?_
  have hs : x.size = p.length + w.length := by rw [sz_end hw, List.length_append]
  have he := ext_at (b := x) (p := p) (w := w) (r := []) (by rw [hw, List.append_nil])
  simp only [lex_Words.l1]
  refine Ev.if_neg (by omega) (Ev.if_pos (nn0 _) (Ev.if_pos (by omega) (Ev.if_pos (by omega) (Ev.if_pos (by omega) ?_))))
  rw [Int.toNat_natCast, Int.toNat_natCast, he]
  exact hend
 | cons c r ih =>
  intro w hw hend
  have hw2 : toL x = (p ++ w) ++ c :: r := by rw [hw, List.append_assoc]
  have hb := bt_at hw2
  have hs := sz_at hw2
  rw [List.length_append] at hb hs
  have hsn : p.length + w.length < x.size := by omega
  by_cases hc : inw c = true
  ·have hih := ih (w ++ [c]) (by rw [hw]; simp) (by
    rw [List.takeWhile_cons, if_pos hc] at hend
    rw [List.append_assoc]
    exact hend)
   have ew : wrap64 (((p.length + w.length : Nat) : Int) + 1) = ((p.length + (w ++ [c]).length : Nat) : Int) := by
    rw [wr_succ _ (by omega), List.length_append, List.length_singleton, Nat.add_assoc]
   refine Ev.succ ?_
   simp only [lex_Words.l1, hb, ew, plain_eq]
   unfold inw at hc
   rw [Bool.and_eq_true] at hc
   refine Ev.if_pos hs (Ev.if_pos (nn0 _) (Ev.bind (Ev.now _) (Ev.if_pos hc.1 (Ev.if_pos ?_ hih))))
   intro e
   have e2 := (u8_eq c 35 (by decide)).1 e
   rw [e2] at hc
   exact absurd hc.2 (by decide)
  ·rw [List.takeWhile_cons, if_neg hc, List.append_nil] at hend
   have he := ext_at (b := x) (p := p) (w := w) (r := c :: r) hw
   have fin : Ev (fun k => if 0 <= (p.length : Int) then (if (p.length : Int) <= ((p.length + w.length : Nat) : Int) then (if ((p.length + w.length : Nat) : Int) <= (x.size : Int) then (if acc.length < 4398046511104 then (lex_Words.l0 k x (acc ++ [((p.length : Int), 0, (x.extract (((p.length : Int)).toNat) ((((p.length + w.length : Nat) : Int)).toNat)))]) ((p.length + w.length : Nat) : Int)) else none) else none) else none) else none) R := by
    rw [Int.toNat_natCast, Int.toNat_natCast, he]
    exact Ev.if_pos (nn0 _) (Ev.if_pos (by omega) (Ev.if_pos (by omega) (Ev.if_pos (by omega) hend)))
   refine Ev.succ ?_
   simp only [lex_Words.l1, hb, plain_eq]
   refine Ev.if_pos hs (Ev.if_pos (nn0 _) (Ev.bind (Ev.now _) ?_))
   by_cases hp : plain c = true
   ·refine Ev.if_pos hp (Ev.if_neg ?_ fin)
    intro e
    apply hc
    unfold inw
    rw [hp, Bool.true_and, Bool.not_eq_true', beq_eq_false_iff_ne]
    intro e2
    exact e (by rw [e2]; rfl)
   ·exact Ev.if_neg hp fin
theorem words_l0 (x : ByteArray) (hx : x.size <= 1125899906842624) : ∀ (n : Nat) (r p : List UInt8) (acc : List W), r.length <= n -> toL x = p ++ r -> acc.length <= 4096 -> Ev (fun k => lex_Words.l0 k x acc (p.length : Int)) (wordsS acc p.length r) := by
 intro n
 induction n with
 | zero =>
  intro r p acc hr hp _
  have : r = [] := List.eq_nil_of_length_eq_zero (by omega)
  subst this
  rw [List.append_nil] at hp
  have hs := sz_end hp
  refine Ev.succ ?_
  simp only [lex_Words.l0]
  rw [wordsS]
  exact Ev.if_neg (by omega) (Ev.now _)
 | succ n ih =>
  intro r p acc hr hp ha
  cases r with
  | nil =>
   rw [List.append_nil] at hp
   have hs := sz_end hp
   refine Ev.succ ?_
   simp only [lex_Words.l0]
   rw [wordsS]
   exact Ev.if_neg (by omega) (Ev.now _)
  | cons c r =>
   have hb := bt_at hp
   have hs := sz_at hp
   have hrl : r.length <= n := by rw [List.length_cons] at hr; omega
   have ew := wr_succ p.length (by omega)
   refine Ev.succ ?_
   simp only [lex_Words.l0, hb, blank_eq, plain_eq]
   rw [wordsS]
   refine Ev.if_pos hs (Ev.if_pos (nn0 _) (Ev.bind (Ev.now _) ?_))
   by_cases h1 : blank c = true
   ·rw [if_pos h1]
    refine Ev.if_pos h1 ?_
    rw [ew]
    have := ih r (p ++ [c]) acc hrl (by rw [hp]; simp) ha
    rw [List.length_append, List.length_singleton] at this
    exact this
   ·rw [if_neg h1]
    refine Ev.if_neg h1 ?_
    by_cases h2 : c = 35
    ·rw [if_pos h2]
     exact Ev.if_pos (by rw [h2]; rfl) (Ev.now _)
    ·rw [if_neg h2]
     refine Ev.if_neg (fun e => h2 ((u8_eq c 35 (by decide)).1 e)) (Ev.bind (Ev.now _) ?_)
     by_cases h3 : plain c = true
     ·rw [if_pos h3]
      refine Ev.if_pos h3 ?_
      by_cases h4 : acc.length >= 4096
      ·rw [if_pos h4]
       exact Ev.if_pos (by omega) (Ev.now _)
      ·rw [if_neg h4]
       refine Ev.if_neg (by omega) ?_
       have hc : inw c = true := by
        unfold inw
        rw [h3, Bool.true_and, Bool.not_eq_true', beq_eq_false_iff_ne]
        exact h2
       have etw : (c :: r).takeWhile inw = c :: r.takeWhile inw := by rw [List.takeWhile_cons, if_pos hc]
       have hsplit := List.takeWhile_append_dropWhile (p := inw) (l := r)
       have hdl : (r.dropWhile inw).length <= n := by
        have := congrArg List.length hsplit
        rw [List.length_append] at this
        omega
       have hnext := ih (r.dropWhile inw) (p ++ (c :: r.takeWhile inw)) (acc ++ [((p.length : Int), 0, ofL (c :: r.takeWhile inw))]) hdl (by rw [hp, List.append_assoc, List.cons_append, hsplit]) (by rw [List.length_append, List.length_singleton]; omega)
       rw [List.length_append] at hnext
       have := words_l1 x acc (by omega) _ hx p (c :: r) [] (by rw [hp]; rfl) (by rw [List.nil_append, etw]; exact hnext)
       exact this
     ·rw [if_neg h3]
      exact Ev.if_neg h3 (Ev.now _)
theorem words_ev (x : ByteArray) (hx : x.size <= 1125899906842624) : Ev (fun k => lex_Words.f k x) (wordsS [] 0 (toL x)) := words_l0 x hx (toL x).length (toL x) [] [] (Nat.le_refl _) rfl (Nat.zero_le _)
end Go.DI.Th
namespace Go.DI.Th
open Go Go.RowKit Go.DI

theorem lset_at {α : Type} (a : List α) (x : α) (b : List α) (v : α) : (a ++ x :: b).set a.length v = a ++ v :: b := by simp
theorem lgetD_at {α : Type} (a : List α) (x : α) (b : List α) (d : α) : (a ++ x :: b).getD a.length d = x := by simp
def WB (B : Nat) (l : List W) : Prop := ∀ w ∈ l, 0 <= w.1 /\ w.1 <= (B : Int)
theorem wordsS_bd (B : Nat) : ∀ (n : Nat) (cs : List UInt8) (acc : List W) (pos : Nat), cs.length <= n -> WB B acc -> pos + cs.length <= B -> acc.length <= 4096 ->
 WB B (wordsS acc pos cs).1 /\ (wordsS acc pos cs).1.length <= 4096 /\ 0 <= (wordsS acc pos cs).2.1 /\ (wordsS acc pos cs).2.1 <= (B : Int) := by
 intro n
 induction n with
 | zero =>
  intro cs acc pos hn ha hp hl
  have : cs = [] := List.eq_nil_of_length_eq_zero (by omega)
  subst this
  rw [wordsS]
  exact ⟨ha, hl, Int.le_refl _, Int.natCast_nonneg _⟩
 | succ n ih =>
  intro cs acc pos hn ha hp hl
  have hnil : WB B [] := fun w hw => by cases hw
  cases cs with
  | nil =>
   rw [wordsS]
   exact ⟨ha, hl, Int.le_refl _, Int.natCast_nonneg _⟩
  | cons c r =>
   rw [List.length_cons] at hn hp
   rw [wordsS]
   split
   ·exact ih r acc (pos + 1) (by omega) ha (by omega) hl
   ·split
    ·exact ⟨ha, hl, Int.le_refl _, Int.natCast_nonneg _⟩
    ·split
     ·split
      ·exact ⟨hnil, Nat.zero_le _, Int.natCast_nonneg _, by show (pos : Int) <= B; omega⟩
      ·have hsplit := congrArg List.length (List.takeWhile_append_dropWhile (p := inw) (l := r))
       rw [List.length_append] at hsplit
       refine ih (r.dropWhile inw) _ _ (by omega) ?_ (by rw [List.length_cons]; omega) (by rw [List.length_append, List.length_singleton]; omega)
       intro w hw
       rcases List.mem_append.1 hw with h | h
       ·exact ha w h
       ·have : w = ((pos : Int), 0, ofL (c :: r.takeWhile inw)) := by simpa using h
        rw [this]
        exact ⟨Int.natCast_nonneg _, by show (pos : Int) <= B; omega⟩
     ·exact ⟨hnil, Nat.zero_le _, Int.natCast_nonneg _, by show (pos : Int) <= B; omega⟩
def shiftW (n pos : Nat) (w : W) : W := (w.1 + pos, (n : Int), w.2.2)
def nnl (c : UInt8) : Bool := !(c == 10)
def linesS (acc : List (List W)) (n pos : Nat) (cs : List UInt8) : List (List W) × Int × Int :=
 if n >= 16384 then ([], pos, 16) else
 if (wordsS [] 0 (cs.takeWhile nnl)).2.2 ≠ 0 then ([], pos + (wordsS [] 0 (cs.takeWhile nnl)).2.1, (wordsS [] 0 (cs.takeWhile nnl)).2.2) else
 match h : cs.dropWhile nnl with
 | [] => (if (wordsS [] 0 (cs.takeWhile nnl)).1.length > 0 then acc ++ [(wordsS [] 0 (cs.takeWhile nnl)).1.map (shiftW n pos)] else acc, 0, 0)
 | _ :: r => linesS (if (wordsS [] 0 (cs.takeWhile nnl)).1.length > 0 then acc ++ [(wordsS [] 0 (cs.takeWhile nnl)).1.map (shiftW n pos)] else acc) (n + 1) (pos + (cs.takeWhile nnl).length + 1) r
termination_by cs.length
decreasing_by
 have h1 := congrArg List.length (List.takeWhile_append_dropWhile (p := nnl) (l := cs))
 rw [List.length_append, h, List.length_cons] at h1
 omega
theorem lines_l2 (x : ByteArray) (acc : List (List W)) (ha : acc.length <= 16384) (n pos e : Nat) (hn : n <= 16384) (hpos : pos <= 1048577) (he : e <= 1048577) (R : List (List W) × Int × Int) (ws : List W) (hw : WB 1048577 ws) (hwl : ws.length <= 4096)
 (hend : Ev (fun k => lex_Lines.l0 k x (if ws.length > 0 then acc ++ [ws.map (shiftW n pos)] else acc) ((n + 1 : Nat) : Int) ((e + 1 : Nat) : Int)) R) :
 ∀ (b a : List W), ws = a ++ b -> Ev (fun k => lex_Lines.l2 k x acc (n : Int) (pos : Int) (e : Int) (a.map (shiftW n pos) ++ b) (ws.length : Int) (a.length : Int)) R := by
 intro b
 induction b with
 | nil =>
  intro a hr
  rw [List.append_nil] at hr
  subst hr
  refine Ev.succ ?_
  simp only [lex_Lines.l2]
  rw [List.append_nil, List.length_map, wr_succ n (by omega), wr_succ e (by omega)]
  refine Ev.if_neg (by omega) ?_
  by_cases h0 : ws.length > 0
  ·rw [if_pos h0] at hend
   exact Ev.if_pos (by omega) (Ev.if_pos (by omega) hend)
  ·rw [if_neg h0] at hend
   exact Ev.if_neg (by omega) hend
 | cons w b ih =>
  intro a hr
  have hih := ih (a ++ [w]) (by rw [hr]; simp)
  have hl : ws.length = a.length + (b.length + 1) := by rw [hr, List.length_append, List.length_cons]
  have hwb := hw w (by rw [hr]; simp)
  have ew : wrap64 (w.1 + (pos : Int)) = w.1 + pos := wrap_id (by omega) (by omega)
  have e1 := lgetD_at (a.map (shiftW n pos)) w b ((0, 0, ByteArray.empty) : W)
  have e2 := lset_at (a.map (shiftW n pos)) w b (w.1 + (pos : Int), w.2.1, w.2.2)
  have e3 := lgetD_at (a.map (shiftW n pos)) ((w.1 + (pos : Int), w.2.1, w.2.2) : W) b ((0, 0, ByteArray.empty) : W)
  have e4 := lset_at (a.map (shiftW n pos)) ((w.1 + (pos : Int), w.2.1, w.2.2) : W) b (w.1 + (pos : Int), (n : Int), w.2.2)
  rw [List.length_map] at e1 e2 e3 e4
  have e5 := wr_at a w (by omega)
  have e6 : (a ++ [w]).map (shiftW n pos) ++ b = a.map (shiftW n pos) ++ (w.1 + (pos : Int), (n : Int), w.2.2) :: b := by
   rw [List.map_append, List.append_assoc]; rfl
  rw [e6] at hih
  have g1 : (a.length : Int) < ((a.map (shiftW n pos) ++ w :: b).length : Int) := by rw [List.length_append, List.length_map, List.length_cons]; omega
  have g2 : (a.length : Int) < ((a.map (shiftW n pos) ++ ((w.1 + (pos : Int), w.2.1, w.2.2) : W) :: b).length : Int) := by rw [List.length_append, List.length_map, List.length_cons]; omega
  refine Ev.succ ?_
  simp only [lex_Lines.l2, Int.toNat_natCast, e1, ew, e2, e3, e4, e5]
  exact Ev.if_pos (by omega) (Ev.if_pos (nn0 _) (Ev.if_pos g1 (Ev.if_pos g2 hih)))
theorem lines_l1 (x : ByteArray) (acc : List (List W)) (ha : acc.length <= 16384) (n : Nat) (hn : n <= 16384) (R : List (List W) × Int × Int) (hx : x.size <= 1048576) (p : List UInt8) : ∀ (r w : List UInt8), toL x = p ++ (w ++ r) ->
 ((wordsS [] 0 (w ++ r.takeWhile nnl)).2.2 ≠ 0 -> R = ([], (p.length : Int) + (wordsS [] 0 (w ++ r.takeWhile nnl)).2.1, (wordsS [] 0 (w ++ r.takeWhile nnl)).2.2)) ->
 (¬ (wordsS [] 0 (w ++ r.takeWhile nnl)).2.2 ≠ 0 -> Ev (fun k => lex_Lines.l0 k x (if (wordsS [] 0 (w ++ r.takeWhile nnl)).1.length > 0 then acc ++ [(wordsS [] 0 (w ++ r.takeWhile nnl)).1.map (shiftW n p.length)] else acc) ((n + 1 : Nat) : Int) ((p.length + (w ++ r.takeWhile nnl).length + 1 : Nat) : Int)) R) ->
 Ev (fun k => lex_Lines.l1 k x acc (n : Int) (p.length : Int) ((p.length + w.length : Nat) : Int)) R := by
 have fin : ∀ (w r : List UInt8), toL x = p ++ (w ++ r) -> ((wordsS [] 0 w).2.2 ≠ 0 -> R = ([], (p.length : Int) + (wordsS [] 0 w).2.1, (wordsS [] 0 w).2.2)) ->
  (¬ (wordsS [] 0 w).2.2 ≠ 0 -> Ev (fun k => lex_Lines.l0 k x (if (wordsS [] 0 w).1.length > 0 then acc ++ [(wordsS [] 0 w).1.map (shiftW n p.length)] else acc) ((n + 1 : Nat) : Int) ((p.length + w.length + 1 : Nat) : Int)) R) ->
  Ev (fun k => if 0 <= (p.length : Int) then (if (p.length : Int) <= ((p.length + w.length : Nat) : Int) then (if ((p.length + w.length : Nat) : Int) <= (x.size : Int) then ((lex_Words.f k (x.extract (((p.length : Int)).toNat) ((((p.length + w.length : Nat) : Int)).toNat))).bind fun v14 => (if v14.2.2 ≠ 0 then (some (([] : List (List W)), (wrap64 ((p.length : Int) + v14.2.1)), v14.2.2)) else (lex_Lines.l2 k x acc (n : Int) (p.length : Int) ((p.length + w.length : Nat) : Int) v14.1 (v14.1.length : Int) 0))) else none) else none) else none) R := by
  intro w r hw h1 h2
  have he := ext_at hw
  have hs : x.size = p.length + (w.length + r.length) := by rw [size_toL, hw, List.length_append, List.length_append]
  rw [Int.toNat_natCast, Int.toNat_natCast, he]
  have hwsz : (ofL w).size = w.length := by rw [size_toL, toL_ofL]
  have hb := wordsS_bd 1048577 w.length w [] 0 (Nat.le_refl _) (fun w hw => by cases hw) (by omega) (Nat.zero_le _)
  have hwe := words_ev (ofL w) (by omega)
  rw [toL_ofL] at hwe
  refine Ev.if_pos (nn0 _) (Ev.if_pos (by omega) (Ev.if_pos (by omega) (Ev.bind hwe ?_)))
  by_cases h : (wordsS [] 0 w).2.2 ≠ 0
  ·refine Ev.if_pos h ((Ev.now _).of_eq ?_)
   rw [h1 h, wrap_id (by omega) (by omega)]
  ·exact Ev.if_neg h (lines_l2 x acc ha n p.length (p.length + w.length) hn (by omega) (by omega) R _ hb.1 hb.2.1 (h2 h) _ [] rfl)
 intro r
 induction r with
 | nil =>
  intro w hw h1 h2
  rw [List.takeWhile_nil, List.append_nil] at h1 h2
  have hs : x.size = p.length + w.length := by rw [size_toL, hw, List.append_nil, List.length_append]
  refine Ev.succ ?_
  simp only [lex_Lines.l1]
  exact Ev.if_neg (by omega) (fin w [] hw h1 h2)
 | cons c r ih =>
  intro w hw h1 h2
  have hw2 : toL x = (p ++ w) ++ c :: r := by rw [hw, List.append_assoc]
  have hb := bt_at hw2
  have hs := sz_at hw2
  rw [List.length_append] at hb hs
  have hsn : p.length + w.length < x.size := by omega
  by_cases hc : nnl c = true
  ·rw [List.takeWhile_cons, if_pos hc] at h1 h2
   have e0 : w ++ c :: r.takeWhile nnl = (w ++ [c]) ++ r.takeWhile nnl := by simp
   rw [e0] at h1 h2
   have hih := ih (w ++ [c]) (by rw [hw]; simp) h1 h2
   have ew : wrap64 (((p.length + w.length : Nat) : Int) + 1) = ((p.length + (w ++ [c]).length : Nat) : Int) := by
    rw [wr_succ _ (by omega), List.length_append, List.length_singleton, Nat.add_assoc]
   refine Ev.succ ?_
   simp only [lex_Lines.l1, hb, ew]
   refine Ev.if_pos hs (Ev.if_pos (nn0 _) (Ev.if_pos ?_ hih))
   intro e
   have e2 := (u8_eq c 10 (by decide)).1 e
   rw [e2] at hc
   exact absurd hc (by decide)
  ·rw [List.takeWhile_cons, if_neg hc, List.append_nil] at h1 h2
   have hc2 : c = 10 := by
    unfold nnl at hc
    simpa using hc
   refine Ev.succ ?_
   simp only [lex_Lines.l1, hb]
   exact Ev.if_pos hs (Ev.if_pos (nn0 _) (Ev.if_neg (fun h => h (by rw [hc2]; rfl)) (fin w (c :: r) hw h1 h2)))
theorem lines_l0 (x : ByteArray) (hx : x.size <= 1048576) : ∀ (m : Nat) (r p : List UInt8) (acc : List (List W)) (n : Nat), r.length <= m -> toL x = p ++ r -> acc.length <= n -> n <= 16384 -> Ev (fun k => lex_Lines.l0 k x acc (n : Int) (p.length : Int)) (linesS acc n p.length r) := by
 intro m
 induction m using Nat.strongRecOn with
 | ind m ih =>
  intro r p acc n hr hp ha hn
  have hs : x.size = p.length + r.length := by rw [size_toL, hp, List.length_append]
  rw [linesS]
  refine Ev.succ ?_
  simp only [lex_Lines.l0]
  refine Ev.if_pos (by omega) ?_
  by_cases hn2 : n >= 16384
  ·rw [if_pos hn2]
   exact Ev.if_pos (by omega) (Ev.now _)
  ·rw [if_neg hn2]
   refine Ev.if_neg (by omega) (lines_l1 x acc (by omega) n (by omega) _ hx p r [] (by rw [hp]; rfl) ?_ ?_)
   ·intro h
    rw [List.nil_append] at h ⊢
    rw [if_pos h]
   ·intro h
    rw [List.nil_append] at h ⊢
    rw [if_neg h]
    have hsplit := List.takeWhile_append_dropWhile (p := nnl) (l := r)
    have hlen := congrArg List.length hsplit
    rw [List.length_append] at hlen
    have hA : (if (wordsS [] 0 (r.takeWhile nnl)).1.length > 0 then acc ++ [(wordsS [] 0 (r.takeWhile nnl)).1.map (shiftW n p.length)] else acc).length <= n + 1 := by
     split
     ·rw [List.length_append, List.length_singleton]; omega
     ·omega
    generalize (if (wordsS [] 0 (r.takeWhile nnl)).1.length > 0 then acc ++ [(wordsS [] 0 (r.takeWhile nnl)).1.map (shiftW n p.length)] else acc) = A at hA ⊢
    split
    ·rename_i h0
     rw [h0, List.length_nil] at hlen
     refine Ev.succ ?_
     simp only [lex_Lines.l0]
     exact Ev.if_neg (by omega) (Ev.now _)
    ·rename_i c r' h0
     rw [h0, List.length_cons] at hlen
     rw [h0] at hsplit
     have := ih r'.length (by omega) r' (p ++ (r.takeWhile nnl ++ [c])) A (n + 1) (Nat.le_refl _) (by
      have e : (p ++ (r.takeWhile nnl ++ [c])) ++ r' = p ++ (r.takeWhile nnl ++ c :: r') := by simp
      rw [hp, e, hsplit]) hA (by omega)
     rw [List.length_append, List.length_append, List.length_singleton, <- Nat.add_assoc] at this
     exact this
def linesT (x : ByteArray) : List (List W) × Int × Int := if x.size > 1048576 then ([], 0, 6) else linesS [] 0 0 (toL x)
theorem lines_ev (x : ByteArray) : Ev (fun k => lex_Lines.f k x) (linesT x) := by
 unfold lex_Lines.f linesT
 by_cases h : x.size > 1048576
 ·rw [if_pos h]
  exact Ev.if_pos (by omega) (Ev.now _)
 ·rw [if_neg h]
  exact Ev.if_neg (by omega) (lines_l0 x (by omega) (toL x).length (toL x) [] [] 0 (Nat.le_refl _) rfl (Nat.le_refl _) (by decide))
end Go.DI.Th
namespace Go.DI.Th
open Go Go.RowKit Go.DI

structure St where
 ls : List (List W)
 i : Nat
 j : Nat
 sz : Int
 err : Int
 at_ : Int
abbrev RT := List (List W) × Int × Int × Int × Int × Int
def St.t (s : St) : RT := (s.ls, (s.i : Int), (s.j : Int), s.sz, s.err, s.at_)
abbrev w0 : W := (0, 0, ByteArray.empty)
def St.line (s : St) : List W := s.ls.getD s.i []
structure St.Ok (s : St) : Prop where
 ne : ∀ l ∈ s.ls, l ≠ []
 il : s.i <= s.ls.length
 ib : s.i <= 1048576
 jl : s.j <= s.line.length
 jb : s.j <= 1048576
def hereS (s : St) : Int := if s.ls.length <= s.i then s.sz else if s.j < s.line.length then (s.line.getD s.j w0).1 else
 wrap64 ((s.line.getD (s.line.length - 1) w0).1 + ((s.line.getD (s.line.length - 1) w0).2.2.size : Int))
def failS (s : St) (e a : Int) : St := if s.err ≠ 0 then s else { s with err := e, at_ := a }
def moreS (s : St) : Prop := s.err = 0 /\ s.i < s.ls.length /\ s.j < s.line.length
instance (s : St) : Decidable (moreS s) := by unfold moreS; infer_instance
def wordS (s : St) : ByteArray × St := if s.err ≠ 0 then (ByteArray.empty, s) else if moreS s then ((s.line.getD s.j w0).2.2, { s with j := s.j + 1 }) else (ByteArray.empty, failS s 9 (hereS s))
def placeS (s : St) : Int := if s.err ≠ 0 then 0 else hereS s
def takeS (s : St) (w : ByteArray) : St := if (wordS s).2.err ≠ 0 then (wordS s).2 else if (wordS s).1 ≠ w then failS (wordS s).2 7 (placeS s) else (wordS s).2
def nextS (s : St) : St := if s.err ≠ 0 then s else if moreS s then failS s 10 (hereS s) else if s.ls.length <= s.i then failS s 9 s.sz else { s with i := s.i + 1, j := 0 }
def endS (s : St) : St := if s.err ≠ 0 then s else if s.i < s.ls.length then failS s 10 (hereS s) else s
theorem gt_nat {α : Type} (d : α) (l : List α) (n : Nat) : gt d l (n : Int) = l.getD n d := rfl
theorem St.Ok.line_ne {s : St} (h : s.Ok) (hi : s.i < s.ls.length) : s.line.length ≠ 0 := by
 unfold St.line
 intro e
 have e2 := List.eq_nil_of_length_eq_zero e
 refine h.ne _ ?_ e2
 rw [List.getD_eq_getElem?_getD, List.getElem?_eq_getElem hi]
 exact List.getElem_mem hi
theorem here_eq (s : St) (h : s.Ok) (hl : s.line.length <= 1048576) : lex_Reader_here.f s.ls s.i s.j s.sz s.err s.at_ = some (hereS s, s.t) := by
 unfold lex_Reader_here.f hereS
 by_cases h1 : s.ls.length <= s.i
 ·rw [if_pos (by omega), if_pos h1]; rfl
 ·have hne := h.line_ne (by omega)
  have e1 : gt [] s.ls (s.i : Int) = s.line := rfl
  rw [if_neg (by omega), if_neg h1, if_pos (nn0 _), if_pos (by omega), e1]
  by_cases h2 : s.j < s.line.length
  ·rw [if_pos (by omega), if_pos h2, if_pos (nn0 _), gt_nat]; rfl
  ·have ew : wrap64 ((s.line.length : Int) - 1) = ((s.line.length - 1 : Nat) : Int) := by
    rw [wrap_id (by omega) (by omega)]; omega
   rw [if_neg (by omega), if_neg h2, ew, if_pos (nn0 _), if_pos (by omega), gt_nat]; rfl
theorem off_eq (s : St) : lex_Reader_off.f s.ls s.i s.j s.sz s.err s.at_ = some ((s.err != 0), s.t) := rfl
theorem place_eq (s : St) (h : s.Ok) (hl : s.line.length <= 1048576) : lex_Reader_place.f s.ls s.i s.j s.sz s.err s.at_ = some (placeS s, s.t) := by
 unfold lex_Reader_place.f placeS
 rw [off_eq]
 show (if (s.err != 0) = true then some (0, s.t) else (lex_Reader_here.f s.ls s.i s.j s.sz s.err s.at_).bind fun v4 => some v4) = _
 by_cases he : s.err ≠ 0
 ·rw [if_pos (by simpa using he), if_pos he]
 ·rw [if_neg (by simpa using he), if_neg he, here_eq s h hl]; rfl
theorem fail_eq (s : St) (e a : Int) : lex_Reader_fail.f s.ls s.i s.j s.sz s.err s.at_ e a = some (failS s e a).t := by
 unfold lex_Reader_fail.f failS
 rw [off_eq]
 show (if (s.err != 0) = true then some s.t else some (s.ls, (s.i : Int), (s.j : Int), s.sz, e, a)) = _
 by_cases he : s.err ≠ 0
 ·rw [if_pos (by simpa using he), if_pos he]
 ·rw [if_neg (by simpa using he), if_neg he]; rfl
theorem more_eq (s : St) : lex_Reader_More.f s.ls s.i s.j s.sz s.err s.at_ = some (decide (moreS s), s.t) := by
 unfold lex_Reader_More.f moreS
 rw [off_eq]
 show (if (s.err != 0) = true then some (false, s.t) else if (s.i : Int) < (s.ls.length : Int) then (if 0 <= (s.i : Int) then some ((decide ((s.j : Int) < (s.line.length : Int))), s.t) else none) else some (false, s.t)) = _
 by_cases he : s.err ≠ 0
 ·rw [if_pos (by simpa using he)]
  have : decide (s.err = 0 /\ s.i < s.ls.length /\ s.j < s.line.length) = false := by
   rw [decide_eq_false_iff_not]; exact fun h => he h.1
  rw [this]
 ·rw [if_neg (by simpa using he)]
  by_cases h1 : s.i < s.ls.length
  ·rw [if_pos (by omega), if_pos (nn0 _)]
   have : decide (s.err = 0 /\ s.i < s.ls.length /\ s.j < s.line.length) = decide ((s.j : Int) < (s.line.length : Int)) := by
    rw [decide_eq_decide]
    exact ⟨fun h => by omega, fun h => ⟨by omega, h1, by omega⟩⟩
   rw [this]
  ·rw [if_neg (by omega)]
   have : decide (s.err = 0 /\ s.i < s.ls.length /\ s.j < s.line.length) = false := by
    rw [decide_eq_false_iff_not]; exact fun h => h1 h.2.1
   rw [this]
theorem word_eq (s : St) (h : s.Ok) (hl : s.line.length <= 1048576) : lex_Reader_Word.f s.ls s.i s.j s.sz s.err s.at_ = some ((wordS s).1, (wordS s).2.t) := by
 unfold lex_Reader_Word.f wordS
 rw [off_eq]
 by_cases he : s.err ≠ 0
 ·rw [if_pos he]
  show (if (s.err != 0) = true then some (ByteArray.empty, s.t) else _) = _
  rw [if_pos (by simpa using he)]
 ·rw [if_neg he]
  show (if (s.err != 0) = true then some (ByteArray.empty, s.t) else ((lex_Reader_More.f s.ls s.i s.j s.sz s.err s.at_).bind _)) = _
  rw [if_neg (by simpa using he), more_eq]
  have hj := h.jb
  have ew1 : wrap64 ((s.j : Int) + 1) = ((s.j + 1 : Nat) : Int) := wr_succ _ (by omega)
  have ew2 : wrap64 (((s.j + 1 : Nat) : Int) - 1) = (s.j : Int) := by rw [wrap_id (by omega) (by omega)]; omega
  show (if decide (moreS s) = true then (if 0 <= (s.i : Int) then (if (s.i : Int) < (s.ls.length : Int) then (if 0 <= (wrap64 ((wrap64 ((s.j : Int) + 1)) - 1)) then (if (wrap64 ((wrap64 ((s.j : Int) + 1)) - 1)) < (s.line.length : Int) then (some ((gt (0, 0, ByteArray.empty) s.line (wrap64 ((wrap64 ((s.j : Int) + 1)) - 1))).2.2, s.ls, (s.i : Int), (wrap64 ((s.j : Int) + 1)), s.sz, s.err, s.at_)) else none) else none) else none) else none) else ((lex_Reader_here.f s.ls s.i s.j s.sz s.err s.at_).bind fun v8 => ((lex_Reader_fail.f v8.2.1 v8.2.2.1 v8.2.2.2.1 v8.2.2.2.2.1 v8.2.2.2.2.2.1 v8.2.2.2.2.2.2 9 v8.1).bind fun v9 => (some (ByteArray.empty, v9.1, v9.2.1, v9.2.2.1, v9.2.2.2.1, v9.2.2.2.2.1, v9.2.2.2.2.2))))) = _
  rw [ew1, ew2]
  by_cases hm : moreS s
  ·have hm1 := hm.2.1
   have hm2 := hm.2.2
   rw [if_pos (decide_eq_true hm), if_pos hm, if_pos (nn0 _), if_pos (by omega), if_pos (nn0 _), if_pos (by omega), gt_nat]
   rfl
  ·rw [if_neg (by simpa using hm), if_neg hm, here_eq s h hl]
   show ((lex_Reader_fail.f s.ls s.i s.j s.sz s.err s.at_ 9 (hereS s)).bind fun v9 => (some (ByteArray.empty, v9))) = _
   rw [fail_eq]
   rfl
theorem failS_ok {s : St} (h : s.Ok) (e a : Int) : (failS s e a).Ok := by
 unfold failS
 split
 ·exact h
 ·exact ⟨h.ne, h.il, h.ib, h.jl, h.jb⟩
theorem wordS_ok {s : St} (h : s.Ok) (hl : s.line.length <= 1048576) : (wordS s).2.Ok := by
 unfold wordS
 split
 ·exact h
 ·split
  ·rename_i hm
   have hm2 := hm.2.2
   exact ⟨h.ne, h.il, h.ib, hm2, Nat.le_trans hm2 hl⟩
  ·exact failS_ok h _ _
theorem failS_ls (s : St) (e a : Int) : (failS s e a).ls = s.ls := by unfold failS; split <;> rfl
theorem wordS_ls (s : St) : (wordS s).2.ls = s.ls := by unfold wordS; split; rfl; split; rfl; exact failS_ls _ _ _
theorem take_eq (s : St) (w : ByteArray) (h : s.Ok) (hl : s.line.length <= 1048576) : lex_Reader_Take.f s.ls s.i s.j s.sz s.err s.at_ w = some (takeS s w).t := by
 unfold lex_Reader_Take.f takeS
 rw [place_eq s h hl]
 show ((lex_Reader_Word.f s.ls s.i s.j s.sz s.err s.at_).bind _) = _
 rw [word_eq s h hl]
 have h2 := wordS_ok h hl
 generalize wordS s = p at h2 ⊢
 obtain ⟨v, s2⟩ := p
 show (if (s2.err != 0) = true then some s2.t else if v ≠ w then ((lex_Reader_fail.f s2.ls s2.i s2.j s2.sz s2.err s2.at_ 7 (placeS s)).bind fun v16 => some v16) else some s2.t) = some (if s2.err ≠ 0 then s2 else if v ≠ w then failS s2 7 (placeS s) else s2).t
 by_cases he : s2.err ≠ 0
 ·rw [if_pos (by simpa using he), if_pos he]
 ·rw [if_neg (by simpa using he), if_neg he]
  by_cases hv : v ≠ w
  ·rw [if_pos hv, if_pos hv, fail_eq]; rfl
  ·rw [if_neg hv, if_neg hv]
theorem next_eq (s : St) (h : s.Ok) (hl : s.line.length <= 1048576) : lex_Reader_Next.f s.ls s.i s.j s.sz s.err s.at_ = some (nextS s).t := by
 unfold lex_Reader_Next.f nextS
 rw [off_eq]
 show (if (s.err != 0) = true then some s.t else ((lex_Reader_More.f s.ls s.i s.j s.sz s.err s.at_).bind _)) = _
 by_cases he : s.err ≠ 0
 ·rw [if_pos (by simpa using he), if_pos he]
 ·rw [if_neg (by simpa using he), if_neg he, more_eq]
  show (if decide (moreS s) = true then ((lex_Reader_here.f s.ls s.i s.j s.sz s.err s.at_).bind fun v6 => ((lex_Reader_fail.f v6.2.1 v6.2.2.1 v6.2.2.2.1 v6.2.2.2.2.1 v6.2.2.2.2.2.1 v6.2.2.2.2.2.2 10 v6.1).bind fun v7 => some v7)) else (if (s.i : Int) >= (s.ls.length : Int) then ((lex_Reader_fail.f s.ls s.i s.j s.sz s.err s.at_ 9 s.sz).bind fun v19 => some v19) else (some (s.ls, (wrap64 ((s.i : Int) + 1)), 0, s.sz, s.err, s.at_)))) = _
  by_cases hm : moreS s
  ·rw [if_pos (decide_eq_true hm), if_pos hm, here_eq s h hl]
   show ((lex_Reader_fail.f s.ls s.i s.j s.sz s.err s.at_ 10 (hereS s)).bind fun v7 => some v7) = _
   rw [fail_eq]; rfl
  ·rw [if_neg (by simpa using hm), if_neg hm]
   have hib := h.ib
   by_cases hi : s.ls.length <= s.i
   ·rw [if_pos (by omega), if_pos hi, fail_eq]; rfl
   ·rw [if_neg (by omega), if_neg hi, wr_succ _ (by omega)]; rfl
theorem nextS_ok {s : St} (h : s.Ok) (hn : s.ls.length <= 1048576) : (nextS s).Ok := by
 unfold nextS
 split
 ·exact h
 ·split
  ·exact failS_ok h _ _
  ·split
   ·exact failS_ok h _ _
   ·rename_i hi
    exact ⟨h.ne, by show s.i + 1 <= s.ls.length; omega, by show s.i + 1 <= _; omega, Nat.zero_le _, Nat.zero_le _⟩
theorem end_eq (s : St) (h : s.Ok) (hl : s.line.length <= 1048576) : lex_Reader_End.f s.ls s.i s.j s.sz s.err s.at_ = some (endS s).t := by
 unfold lex_Reader_End.f endS
 rw [off_eq]
 show (if (s.err != 0) = true then some s.t else (if (s.i : Int) < (s.ls.length : Int) then ((lex_Reader_here.f s.ls s.i s.j s.sz s.err s.at_).bind fun v17 => ((lex_Reader_fail.f v17.2.1 v17.2.2.1 v17.2.2.2.1 v17.2.2.2.2.1 v17.2.2.2.2.2.1 v17.2.2.2.2.2.2 10 v17.1).bind fun v18 => some v18)) else some s.t)) = _
 by_cases he : s.err ≠ 0
 ·rw [if_pos (by simpa using he), if_pos he]
 ·rw [if_neg (by simpa using he), if_neg he]
  by_cases hi : s.i < s.ls.length
  ·rw [if_pos (by omega), if_pos hi, here_eq s h hl]
   show ((lex_Reader_fail.f s.ls s.i s.j s.sz s.err s.at_ 10 (hereS s)).bind fun v7 => some v7) = _
   rw [fail_eq]; rfl
  ·rw [if_neg (by omega), if_neg hi]
end Go.DI.Th
namespace Go.DI.Th
open Go Go.RowKit Go.DI

def smallL : Nat -> List UInt8 -> Option Nat
 | acc, [] => some acc
 | acc, c :: r => if c.toNat < 48 \/ 57 < c.toNat then none else smallL (min (10 * acc + (c.toNat - 48)) 1000000000) r
def smallS (l : List UInt8) : Option Nat := if l = [] then none else if 1 < l.length /\ l.head? = some 48 then none else smallL 0 l
def optB (o : Option Nat) : Int × Bool := match o with
 | some n => ((n : Int), true)
 | none => (0, false)
theorem toBytes_toL (x : ByteArray) : toBytes x = (toL x).map fun b => (b.toNat : Int) := rfl
theorem small_l0 (l : List UInt8) (hl : l.length <= 1125899906842624) : ∀ (b a : List UInt8) (acc : Nat), l = a ++ b -> acc <= 1000000000 ->
 Ev (fun k => lex_small.l0 k (acc : Int) (l.map fun b => (b.toNat : Int)) (l.length : Int) (a.length : Int)) (optB (smallL acc b)) := by
 intro b
 induction b with
 | nil =>
  intro a acc hr ha
  rw [List.append_nil] at hr
  refine Ev.succ ?_
  simp only [lex_small.l0]
  exact Ev.if_neg (by rw [hr]; omega) (Ev.now _)
 | cons c b ih =>
  intro a acc hr ha
  have hlen : l.length = a.length + (b.length + 1) := by rw [hr, List.length_append, List.length_cons]
  have e1 : rd (l.map fun b => (b.toNat : Int)) (a.length : Int) = (c.toNat : Int) := by
   rw [rd_nat, hr, List.map_append, List.map_cons]
   have := lgetD_at (a.map fun b => (b.toNat : Int)) (c.toNat : Int) (b.map fun b => (b.toNat : Int)) 0
   rw [List.length_map] at this
   exact this
  have ew : wrap64 ((a.length : Int) + 1) = ((a ++ [c]).length : Int) := by rw [wr_succ _ (by omega), List.length_append, List.length_singleton]
  refine Ev.succ ?_
  simp only [lex_small.l0, e1, ew]
  refine Ev.if_pos (by omega) (Ev.if_pos (nn0 _) (Ev.if_pos (by rw [List.length_map]; omega) ?_))
  rw [smallL]
  by_cases h1 : c.toNat < 48
  ·rw [if_pos (Or.inl h1)]
   exact Ev.if_pos (by omega) (Ev.now _)
  ·refine Ev.if_neg (by omega) ?_
   by_cases h2 : 57 < c.toNat
   ·rw [if_pos (Or.inr h2)]
    exact Ev.if_pos (by omega) (Ev.now _)
   ·rw [if_neg (by omega)]
    refine Ev.if_neg (by omega) ?_
    have e2 : wrap64 (wrap64 (10 * (acc : Int)) + wrap64 (IntKind.u8.wrap ((c.toNat : Int) - 48))) = ((10 * acc + (c.toNat - 48) : Nat) : Int) := by
     have e3 : IntKind.u8.wrap ((c.toNat : Int) - 48) = ((c.toNat - 48 : Nat) : Int) := by
      rw [IntKind.wrap_u8, Int.emod_eq_of_lt (by omega) (by omega)]; omega
     rw [e3, wrap_id (i := 10 * (acc : Int)) (by omega) (by omega), wrap_id (i := ((c.toNat - 48 : Nat) : Int)) (by omega) (by omega), wrap_id (by omega) (by omega)]
     omega
    rw [e2]
    by_cases h3 : 1000000000 < 10 * acc + (c.toNat - 48)
    ·rw [Nat.min_eq_right (by omega)]
     exact Ev.if_pos (by omega) (ih (a ++ [c]) 1000000000 (by rw [hr]; simp) (Nat.le_refl _))
    ·rw [Nat.min_eq_left (by omega)]
     exact Ev.if_neg (by omega) (ih (a ++ [c]) _ (by rw [hr]; simp) (by omega))
theorem lsmall_ev (x : ByteArray) (hx : x.size <= 140737488355328) : Ev (fun k => lex_small.f k x) (optB (smallS (toL x))) := by
 unfold lex_small.f smallS
 have hs := size_toL x
 by_cases h0 : x = ByteArray.empty
 ·rw [if_pos (by rw [h0]; rfl)]
  exact Ev.if_pos h0 (Ev.now _)
 ·have h1 : toL x ≠ [] := fun e => h0 (toL_inj e)
  rw [if_neg h1]
  refine Ev.if_neg h0 ?_
  have fin : Ev (fun k => if x.size <= lim then (lex_small.l0 k 0 (toBytes x) ((toBytes x).length : Int) 0) else none) (optB (smallL 0 (toL x))) := by
   have := small_l0 (toL x) (by omega) (toL x) [] 0 rfl (Nat.zero_le _)
   rw [toBytes_toL, List.length_map]
   exact Ev.if_pos hx this
  cases hl : toL x with
  | nil => exact absurd hl h1
  | cons c r =>
   have hb := bt_at (p := []) hl
   rw [hl] at fin
   rw [hl, List.length_cons] at hs
   by_cases h2 : 0 < r.length
   ·refine Ev.if_pos (by omega) (Ev.if_pos (by omega) ?_)
    have hb2 : bt x 0 = (c.toNat : Int) := hb
    rw [hb2]
    by_cases h3 : c = 48
    ·rw [if_pos ⟨by rw [List.length_cons]; omega, by rw [h3]; rfl⟩]
     exact Ev.if_pos (by rw [h3]; rfl) (Ev.now _)
    ·rw [if_neg (fun h => h3 (by have := h.2; simpa using this))]
     exact Ev.if_neg (fun e => h3 ((u8_eq c 48 (by decide)).1 e)) fin
   ·rw [if_neg (fun h => h2 (by have := h.1; rw [List.length_cons] at this; omega))]
    exact Ev.if_neg (by omega) fin
def countS (s : St) (lo hi : Int) : Int × St := if (wordS s).2.err ≠ 0 then (0, (wordS s).2) else match smallS (toL (wordS s).1) with
 | some n => if (n : Int) < lo then (0, failS (wordS s).2 16 (placeS s)) else if (n : Int) > hi then (0, failS (wordS s).2 16 (placeS s)) else ((n : Int), (wordS s).2)
 | none => (0, failS (wordS s).2 4 (placeS s))
structure St.Good (s : St) : Prop where
 ok : s.Ok
 ll : ∀ l ∈ s.ls, l.length <= 4096
 lss : s.ls.length <= 16384
 ws : ∀ l ∈ s.ls, ∀ w ∈ l, w.2.2.size <= 1048576
theorem St.Good.line {s : St} (h : s.Good) : s.line.length <= 4096 := by
 unfold St.line
 rw [List.getD_eq_getElem?_getD]
 cases e : s.ls[s.i]? with
 | none => exact Nat.zero_le _
 | some l => exact h.ll l (List.mem_of_getElem? e)
theorem St.Good.l1 {s : St} (h : s.Good) : s.line.length <= 1048576 := Nat.le_trans h.line (by decide)
theorem St.Good.of {s t : St} (h : s.Good) (ho : t.Ok) (e : t.ls = s.ls) : t.Good := ⟨ho, by rw [e]; exact h.ll, by rw [e]; exact h.lss, by rw [e]; exact h.ws⟩
theorem failS_good {s : St} (h : s.Good) (e a : Int) : (failS s e a).Good := h.of (failS_ok h.ok e a) (failS_ls s e a)
theorem wordS_good {s : St} (h : s.Good) : (wordS s).2.Good := h.of (wordS_ok h.ok h.l1) (wordS_ls s)
theorem takeS_good {s : St} (h : s.Good) (w : ByteArray) : (takeS s w).Good := by
 have h2 := wordS_good h
 unfold takeS
 split
 ·exact h2
 ·split
  ·exact failS_good h2 _ _
  ·exact h2
theorem countS_good {s : St} (h : s.Good) (lo hi : Int) : (countS s lo hi).2.Good := by
 have h2 := wordS_good h
 unfold countS
 split
 ·exact h2
 ·split
  ·split
   ·exact failS_good h2 _ _
   ·split
    ·exact failS_good h2 _ _
    ·exact h2
  ·exact failS_good h2 _ _
theorem nextS_ls (s : St) : (nextS s).ls = s.ls := by
 unfold nextS
 split
 ·rfl
 ·split
  ·exact failS_ls _ _ _
  ·split
   ·exact failS_ls _ _ _
   ·rfl
theorem nextS_good {s : St} (h : s.Good) : (nextS s).Good := h.of (nextS_ok h.ok (Nat.le_trans h.lss (by decide))) (nextS_ls s)
theorem wordS_size {s : St} (h : s.Good) : (wordS s).1.size <= 1048576 := by
 unfold wordS
 split
 ·exact Nat.zero_le _
 ·split
  ·rename_i hm
   have hi := hm.2.1
   have hj := hm.2.2
   have hml : s.line ∈ s.ls := by
    unfold St.line
    rw [List.getD_eq_getElem?_getD, List.getElem?_eq_getElem hi]
    exact List.getElem_mem hi
   refine h.ws s.line hml _ ?_
   rw [List.getD_eq_getElem?_getD, List.getElem?_eq_getElem hj]
   exact List.getElem_mem hj
  ·exact Nat.zero_le _
theorem count_ev (s : St) (h : s.Good) (lo hi : Int) : Ev (fun k => lex_Reader_Count.f k s.ls s.i s.j s.sz s.err s.at_ lo hi) ((countS s lo hi).1, (countS s lo hi).2.t) := by
 unfold lex_Reader_Count.f countS
 rw [place_eq s h.ok h.l1]
 show Ev (fun k => (lex_Reader_Word.f s.ls s.i s.j s.sz s.err s.at_).bind _) _
 rw [word_eq s h.ok h.l1]
 have h2 := wordS_good h
 have h3 := wordS_size h
 generalize wordS s = p at h2 h3 ⊢
 obtain ⟨v, s2⟩ := p
 have h3 : v.size <= 1048576 := h3
 have hsm := lsmall_ev v (by omega)
 show Ev (fun k => if (s2.err != 0) = true then some (0, s2.t) else ((lex_small.f k v).bind fun v10 => (if v10.2 = true then (if v10.1 < lo then ((lex_Reader_fail.f s2.ls s2.i s2.j s2.sz s2.err s2.at_ 16 (placeS s)).bind fun v30 => (some (0, v30))) else (if v10.1 > hi then ((lex_Reader_fail.f s2.ls s2.i s2.j s2.sz s2.err s2.at_ 16 (placeS s)).bind fun v30 => (some (0, v30))) else (some (v10.1, s2.t)))) else ((lex_Reader_fail.f s2.ls s2.i s2.j s2.sz s2.err s2.at_ 4 (placeS s)).bind fun v21 => (some (0, v21)))))) _
 simp only [fail_eq]
 by_cases he : s2.err ≠ 0
 ·rw [if_pos he]
  exact Ev.if_pos (by simpa using he) (Ev.now _)
 ·rw [if_neg he]
  refine Ev.if_neg (by simpa using he) (Ev.bind hsm ?_)
  cases hv : smallS (toL v) with
  | none => exact Ev.if_neg (by simp [optB]) (Ev.now _)
  | some n =>
   refine Ev.if_pos rfl ?_
   by_cases h5 : (n : Int) < lo
   ·simp only [if_pos h5]
    exact Ev.if_pos h5 (Ev.now _)
   ·simp only [if_neg h5]
    refine Ev.if_neg h5 ?_
    by_cases h6 : (n : Int) > hi
    ·simp only [if_pos h6]
     exact Ev.if_pos h6 (Ev.now _)
    ·simp only [if_neg h6]
     exact Ev.if_neg h6 (Ev.now _)
end Go.DI.Th
namespace Go.DI.Th
open Go Go.RowKit Go.DI

def WZ (B : Nat) (l : List W) : Prop := ∀ w ∈ l, w.2.2.size <= B
theorem wordsS_sz (B : Nat) : ∀ (n : Nat) (cs : List UInt8) (acc : List W) (pos : Nat), cs.length <= n -> cs.length <= B -> WZ B acc -> WZ B (wordsS acc pos cs).1 := by
 intro n
 induction n with
 | zero =>
  intro cs acc pos hn _ ha
  have : cs = [] := List.eq_nil_of_length_eq_zero (by omega)
  subst this
  rw [wordsS]
  exact ha
 | succ n ih =>
  intro cs acc pos hn hB ha
  have hnil : WZ B [] := fun w hw => by cases hw
  cases cs with
  | nil => rw [wordsS]; exact ha
  | cons c r =>
   rw [List.length_cons] at hn hB
   rw [wordsS]
   split
   ·exact ih r acc (pos + 1) (by omega) (by omega) ha
   ·split
    ·exact ha
    ·split
     ·split
      ·exact hnil
      ·have hsplit := congrArg List.length (List.takeWhile_append_dropWhile (p := inw) (l := r))
       rw [List.length_append] at hsplit
       refine ih (r.dropWhile inw) _ _ (by omega) (by omega) ?_
       intro w hw
       rcases List.mem_append.1 hw with h | h
       ·exact ha w h
       ·have : w = ((pos : Int), 0, ofL (c :: r.takeWhile inw)) := by simpa using h
        rw [this]
        show (ofL (c :: r.takeWhile inw)).size <= B
        rw [size_toL, toL_ofL, List.length_cons]
        omega
     ·exact hnil
structure LsOk (ls : List (List W)) : Prop where
 ne : ∀ l ∈ ls, l ≠ []
 ll : ∀ l ∈ ls, l.length <= 4096
 ws : ∀ l ∈ ls, ∀ w ∈ l, w.2.2.size <= 1048576
theorem linesS_ok : ∀ (m : Nat) (cs : List UInt8) (acc : List (List W)) (n pos : Nat), cs.length <= m -> cs.length <= 1048576 -> LsOk acc -> acc.length <= n -> n <= 16384 -> LsOk (linesS acc n pos cs).1 /\ (linesS acc n pos cs).1.length <= 16384 := by
 have hnil : LsOk [] := ⟨fun l hl => (by cases hl), fun l hl => (by cases hl), fun l hl => (by cases hl)⟩
 intro m
 induction m using Nat.strongRecOn with
 | ind m ih =>
  intro cs acc n pos hm hB ha hl hn
  rw [linesS]
  split
  ·exact ⟨hnil, Nat.zero_le _⟩
  ·split
   ·exact ⟨hnil, Nat.zero_le _⟩
   ·rename_i hn2 _
    have hlen := congrArg List.length (List.takeWhile_append_dropWhile (p := nnl) (l := cs))
    rw [List.length_append] at hlen
    have h1 := wordsS_bd 1048576 (cs.takeWhile nnl).length (cs.takeWhile nnl) [] 0 (Nat.le_refl _) (fun w hw => by cases hw) (by omega) (Nat.zero_le _)
    have h2 := wordsS_sz 1048576 (cs.takeWhile nnl).length (cs.takeWhile nnl) [] 0 (Nat.le_refl _) (by omega) (fun w hw => by cases hw)
    have hA : LsOk (if (wordsS [] 0 (cs.takeWhile nnl)).1.length > 0 then acc ++ [(wordsS [] 0 (cs.takeWhile nnl)).1.map (shiftW n pos)] else acc) /\ (if (wordsS [] 0 (cs.takeWhile nnl)).1.length > 0 then acc ++ [(wordsS [] 0 (cs.takeWhile nnl)).1.map (shiftW n pos)] else acc).length <= n + 1 := by
     split
     ·rename_i h0
      constructor
      ·refine ⟨?_, ?_, ?_⟩
       ·intro l hlm
        rcases List.mem_append.1 hlm with h | h
        ·exact ha.ne l h
        ·have : l = (wordsS [] 0 (cs.takeWhile nnl)).1.map (shiftW n pos) := by simpa using h
         rw [this]
         intro e
         have := congrArg List.length e
         rw [List.length_map, List.length_nil] at this
         omega
       ·intro l hlm
        rcases List.mem_append.1 hlm with h | h
        ·exact ha.ll l h
        ·have : l = (wordsS [] 0 (cs.takeWhile nnl)).1.map (shiftW n pos) := by simpa using h
         rw [this, List.length_map]
         exact h1.2.1
       ·intro l hlm
        rcases List.mem_append.1 hlm with h | h
        ·exact ha.ws l h
        ·have : l = (wordsS [] 0 (cs.takeWhile nnl)).1.map (shiftW n pos) := by simpa using h
         rw [this]
         intro w hw
         obtain ⟨v, hv, rfl⟩ := List.mem_map.1 hw
         exact h2 v hv
      ·rw [List.length_append, List.length_singleton]; omega
     ·exact ⟨ha, by omega⟩
    generalize (if (wordsS [] 0 (cs.takeWhile nnl)).1.length > 0 then acc ++ [(wordsS [] 0 (cs.takeWhile nnl)).1.map (shiftW n pos)] else acc) = A at hA ⊢
    split
    ·exact ⟨hA.1, by show A.length <= 16384; omega⟩
    ·rename_i c r h0
     rw [h0, List.length_cons] at hlen
     exact ih r.length (by omega) r A (n + 1) _ (Nat.le_refl _) (by omega) hA.1 hA.2 (by omega)
theorem linesT_ok (x : ByteArray) : LsOk (linesT x).1 /\ (linesT x).1.length <= 16384 := by
 have hnil : LsOk [] := ⟨fun l hl => (by cases hl), fun l hl => (by cases hl), fun l hl => (by cases hl)⟩
 unfold linesT
 split
 ·exact ⟨hnil, Nat.zero_le _⟩
 ·exact linesS_ok _ _ _ _ _ (Nat.le_refl _) (by rw [<- size_toL]; omega) hnil (Nat.le_refl _) (by decide)
def readS (x : ByteArray) : St := ⟨(linesT x).1, 0, 0, (x.size : Int), (linesT x).2.2, (linesT x).2.1⟩
theorem readS_good (x : ByteArray) : (readS x).Good := by
 have h := linesT_ok x
 exact ⟨⟨h.1.ne, Nat.zero_le _, Nat.zero_le _, Nat.zero_le _, Nat.zero_le _⟩, h.1.ll, h.2, h.1.ws⟩
theorem read_ev (x : ByteArray) : Ev (fun k => lex_Read.f k x) (readS x).t := by
 unfold lex_Read.f
 exact Ev.bind (lines_ev x) (Ev.now _)
def joinW : List (List UInt8) -> List UInt8
 | [] => []
 | [w] => w
 | w :: v :: l => w ++ 32 :: joinW (v :: l)
def textW : List (List (List UInt8)) -> List UInt8
 | [] => []
 | l :: t => joinW l ++ 10 :: textW t
end Go.DI.Th
namespace Go.DI.Th
open Go Go.RowKit Go.DI

end Go.DI.Th
namespace Go.DI.Th
open Go Go.RowKit Go.DI

abbrev Nd := Bool × Int × Bool × List Int × List Int × Int × Int × Bool × Bool × List Int × List Int × Bool × List Int × List Int
abbrev nd0 : Nd := (false, 0, false, [], [], 0, 0, false, false, [], [], false, [], [])
abbrev Nd.cut (n : Nd) : Rt := (n.2.2.1, n.2.2.2.1, n.2.2.2.2.1)
abbrev Nd.val (n : Nd) : Rt := (n.2.2.2.2.2.2.2.2.1, n.2.2.2.2.2.2.2.2.2.1, n.2.2.2.2.2.2.2.2.2.2.1)
abbrev Nd.cov (n : Nd) : Rt := (n.2.2.2.2.2.2.2.2.2.2.2.1, n.2.2.2.2.2.2.2.2.2.2.2.2.1, n.2.2.2.2.2.2.2.2.2.2.2.2.2)
def okN (n : Nd) : Prop := 0 <= n.2.1 /\ n.2.1 <= 64 /\ 0 <= n.2.2.2.2.2.1 /\ n.2.2.2.2.2.1 <= 255 /\ 0 <= n.2.2.2.2.2.2.1 /\ n.2.2.2.2.2.2.1 <= 255
instance (n : Nd) : Decidable (okN n) := by unfold okN; infer_instance
def okT (t : List Nd) : Prop := 1 <= t.length /\ t.length <= 255 /\ ∀ n ∈ t, okN n
instance (t : List Nd) : Decidable (okT t) := by unfold okT; infer_instance
def fitM (f : Int) (ts : List (List Nd)) : Prop := 0 <= f /\ f <= 64 /\ ts.length <= 64 /\ ∀ t ∈ ts, okT t
instance (f : Int) (ts : List (List Nd)) : Decidable (fitM f ts) := by unfold fitM; infer_instance
theorem fits_l1 (ts : List (List Nd)) (m : Int) (ta : List (List Nd)) (t : List Nd) (hta : ta.length <= 64) (x32 : List Nd) (x33 : Int) (x34 : Bool) (ht : t.length <= 255) (Q : Prop) [Decidable Q]
 (hend : Ev (fun k => model_Fits.l0 k ts m ((ta ++ [t]).length : Int)) (decide Q)) : ∀ (b a : List Nd), t = a ++ b ->
 Ev (fun k => model_Fits.l1 k ts m (ta.length : Int) x32 x33 x34 t (t.length : Int) (a.length : Int)) (decide ((∀ n ∈ b, okN n) /\ Q)) := by
 have ew := wr_at ta t (by omega)
 intro b
 induction b with
 | nil =>
  intro a hr
  rw [List.append_nil] at hr
  refine Ev.succ ?_
  simp only [model_Fits.l1, ew]
  refine Ev.if_neg (by rw [hr]; omega) (hend.of_eq ?_)
  simp
 | cons n b ih =>
  intro a hr
  have e2 := gt_at nd0 a n b
  have l2 := lt_at a n b
  rw [<- hr] at e2 l2
  have hl : t.length = a.length + (b.length + 1) := by rw [hr, List.length_append, List.length_cons]
  have hih := ih (a ++ [n]) (by rw [hr]; simp)
  have key : (∀ x ∈ n :: b, okN x) /\ Q ↔ okN n /\ ((∀ x ∈ b, okN x) /\ Q) := by
   rw [List.forall_mem_cons, and_assoc]
  refine Ev.succ ?_
  simp only [model_Fits.l1, e2, wr_at a n (show a.length <= 1125899906842624 by omega)]
  refine Ev.if_pos l2 (Ev.if_pos (nn0 _) (Ev.if_pos l2 ?_))
  refine Ev.guard (fun h e => by have := (key.1 e).1; unfold okN at this; omega) fun g1 => ?_
  refine Ev.guard (fun h e => by have := (key.1 e).1; unfold okN at this; omega) fun g2 => ?_
  refine Ev.guard (fun h e => by have := (key.1 e).1; unfold okN at this; omega) fun g3 => ?_
  refine Ev.guard (fun h e => by have := (key.1 e).1; unfold okN at this; omega) fun g4 => ?_
  refine Ev.guard (fun h e => by have := (key.1 e).1; unfold okN at this; omega) fun g5 => ?_
  refine Ev.guard (fun h e => by have := (key.1 e).1; unfold okN at this; omega) fun g6 => ?_
  refine hih.of_eq ?_
  rw [decide_eq_decide, key]
  exact ⟨fun h => ⟨⟨by omega, by omega, by omega, by omega, by omega, by omega⟩, h⟩, fun h => h.2⟩
theorem fits_l0 (ts : List (List Nd)) (hts : ts.length <= 64) : ∀ (b a : List (List Nd)), ts = a ++ b -> Ev (fun k => model_Fits.l0 k ts (ts.length : Int) (a.length : Int)) (decide (∀ t ∈ b, okT t)) := by
 intro b
 induction b with
 | nil =>
  intro a hr
  rw [List.append_nil] at hr
  refine Ev.succ ?_
  simp only [model_Fits.l0]
  exact Ev.if_neg (by rw [hr]; omega) ((Ev.now true).of_eq (by simp))
 | cons t b ih =>
  intro a hr
  have e1 := gt_at [] a t b
  have l1 := lt_at a t b
  rw [<- hr] at e1 l1
  have hl : ts.length = a.length + (b.length + 1) := by rw [hr, List.length_append, List.length_cons]
  have hih := ih (a ++ [t]) (by rw [hr]; simp)
  refine Ev.succ ?_
  simp only [model_Fits.l0, e1]
  refine Ev.if_pos l1 (Ev.if_pos (nn0 _) (Ev.if_pos l1 ?_))
  refine Ev.guard (fun h e => by have := (e t List.mem_cons_self).1; omega) fun g1 => ?_
  refine Ev.guard (fun h e => by have := (e t List.mem_cons_self).2.1; omega) fun g2 => ?_
  have h1 := fits_l1 ts (ts.length : Int) a t (by omega) t (t.length : Int) false (by omega) _ hih t [] rfl
  refine h1.of_eq ?_
  rw [decide_eq_decide, List.forall_mem_cons]
  exact ⟨fun h => ⟨⟨by omega, by omega, h.1⟩, h.2⟩, fun h => ⟨h.1.2.2, h.2⟩⟩
theorem fits_ev (f : Int) (ts : List (List Nd)) : Ev (fun k => model_Fits.f k f ts) (decide (fitM f ts)) := by
 unfold model_Fits.f
 refine Ev.guard (fun h e => by have := e.1; omega) fun g1 => ?_
 refine Ev.guard (fun h e => by have := e.2.1; omega) fun g2 => ?_
 refine Ev.guard (fun h e => by have := e.2.2.1; omega) fun g3 => ?_
 refine (fits_l0 ts (by omega) ts [] rfl).of_eq ?_
 rw [decide_eq_decide]
 exact ⟨fun h => ⟨by omega, by omega, by omega, h⟩, fun h => h.2.2.2⟩
def NdOk (n : Nd) : Prop := RtOk n.cut /\ RtOk n.val /\ RtOk n.cov
end Go.DI.Th
namespace Go.DI.Th
open Go Go.RowKit Go.DI

theorem mdigits_ev (n : Nat) (h : n <= 9223372036854775807) : Ev (fun k => model_digits.f k (n : Int)) (prN n) := ofprint_ev n h
def leafW : ByteArray := ⟨#[108, 101, 97, 102]⟩
def splitW : ByteArray := ⟨#[115, 112, 108, 105, 116]⟩
def missW (b : Bool) : ByteArray := if b then ⟨#[109, 105, 115, 115, 45, 108, 101, 102, 116]⟩ else ⟨#[109, 105, 115, 115, 45, 114, 105, 103, 104, 116]⟩
def lineW (n : Nd) : List (List UInt8) := if n.1 then [toL leafW, toL (prT n.val), toL (prT n.cov)] else
 [toL splitW, toL (prN n.2.1.toNat), toL (prT n.cut), toL (prN n.2.2.2.2.2.1.toNat), toL (prN n.2.2.2.2.2.2.1.toNat), toL (missW n.2.2.2.2.2.2.2.1), toL (prT n.cov)]
def lineT (n : Nd) : ByteArray := ofL (joinW (lineW n))
theorem prT_size (r : Rt) (h : RtOk r) : (prT r).size <= 100000000 := by
 have := prR_size r.1 r.2.1 r.2.2
 obtain ⟨_, _, h1, h2⟩ := h
 unfold prT
 omega
theorem joinW_inter : ∀ (l : List (List UInt8)), joinW l = [32].intercalate l
 | [] => rfl
 | [w] => by simp [joinW, List.intercalate]
 | w :: v :: l => by
  rw [joinW, joinW_inter (v :: l)]
  simp [List.intercalate, List.intersperse]
theorem line_ev (n : Nd) (h : NdOk n) (hn : okN n) : Ev (fun k => model_line.f k n.1 n.2.1 n.2.2.1 n.2.2.2.1 n.2.2.2.2.1 n.2.2.2.2.2.1 n.2.2.2.2.2.2.1 n.2.2.2.2.2.2.2.1 n.2.2.2.2.2.2.2.2.1 n.2.2.2.2.2.2.2.2.2.1 n.2.2.2.2.2.2.2.2.2.2.1 n.2.2.2.2.2.2.2.2.2.2.2.1 n.2.2.2.2.2.2.2.2.2.2.2.2.1 n.2.2.2.2.2.2.2.2.2.2.2.2.2) (lineT n) := by
 unfold model_line.f
 obtain ⟨h1, h2, h3⟩ := h
 have p1 := prT_ev n.cut h1
 have p2 := prT_ev n.val h2
 have p3 := prT_ev n.cov h3
 have s1 := prT_size n.cut h1
 have s2 := prT_size n.val h2
 have s3 := prT_size n.cov h3
 obtain ⟨a1, a2, a3, a4, a5, a6⟩ := hn
 obtain ⟨f, hf⟩ : ∃ m : Nat, n.2.1 = (m : Int) := ⟨n.2.1.toNat, by omega⟩
 obtain ⟨l, hl⟩ : ∃ m : Nat, n.2.2.2.2.2.1 = (m : Int) := ⟨n.2.2.2.2.2.1.toNat, by omega⟩
 obtain ⟨r, hr⟩ : ∃ m : Nat, n.2.2.2.2.2.2.1 = (m : Int) := ⟨n.2.2.2.2.2.2.1.toNat, by omega⟩
 have d1 := mdigits_ev f (by omega)
 have d2 := mdigits_ev l (by omega)
 have d3 := mdigits_ev r (by omega)
 have z1 := prN_small (n := f) (by omega)
 have z2 := prN_small (n := l) (by omega)
 have z3 := prN_small (n := r) (by omega)
 by_cases hb : n.1 = true
 ·refine Ev.if_pos hb ?_
  have e5 : (⟨#[108, 101, 97, 102, 32]⟩ : ByteArray).size = 5 := rfl
  have e1 : (⟨#[32]⟩ : ByteArray).size = 1 := rfl
  simp only [ByteArray.size_append, e5, e1]
  refine Ev.bind p2 (Ev.if_pos (by omega) (Ev.if_pos (by omega) (Ev.bind p3 (Ev.if_pos (by omega) ((Ev.now _).of_eq ?_)))))
  apply toL_inj
  unfold lineT lineW
  rw [toL_ofL, if_pos hb]
  simp only [toL_append, joinW]
  have x1 : toL (⟨#[108, 101, 97, 102, 32]⟩ : ByteArray) = toL leafW ++ [32] := rfl
  have x2 : toL (⟨#[32]⟩ : ByteArray) = [32] := rfl
  rw [x1, x2]
  simp
 ·refine Ev.if_neg hb ?_
  rw [hf, hl, hr]
  have join (ms : ByteArray) (hms : ms.size <= 10) (hm : missW n.2.2.2.2.2.2.2.1 = ms) : Ev (fun _ => strings_Join.f [splitW, prN f, prT n.cut, prN l, prN r, ms, prT n.cov] ⟨#[32]⟩) (lineT n) := by
   have hw : lineW n = [splitW, prN f, prT n.cut, prN l, prN r, ms, prT n.cov].map (·.data.toList) := by
    unfold lineW
    rw [if_neg hb, hf, hl, hr, hm]
    rfl
   have hi : ((⟨#[32]⟩ : ByteArray).data.toList.intercalate ([splitW, prN f, prT n.cut, prN l, prN r, ms, prT n.cov].map (·.data.toList))) = joinW (lineW n) := by
    rw [joinW_inter, hw]
   unfold strings_Join.f
   rw [hi]
   have hsz : (joinW (lineW n)).length <= 140737488355328 := by
    rw [hw]
    have k1 : ∀ b : ByteArray, b.data.toList.length = b.size := fun b => (size_toL b).symm
    simp only [List.map_cons, List.map_nil, joinW, List.length_append, List.length_cons, k1]
    have : splitW.size = 5 := rfl
    omega
   exact Ev.congr (fun _ => if_pos ⟨by simp, hsz⟩) (Ev.now _)
  by_cases hm : n.2.2.2.2.2.2.2.1 = true
  ·exact Ev.if_pos hm (Ev.bind d1 (Ev.bind p1 (Ev.bind d2 (Ev.bind d3 (Ev.bind p3 (Ev.bind (join _ (by decide) (by unfold missW; rw [if_pos hm])) (Ev.now _)))))))
  ·exact Ev.if_neg hm (Ev.bind d1 (Ev.bind p1 (Ev.bind d2 (Ev.bind d3 (Ev.bind p3 (Ev.bind (join _ (by decide) (by unfold missW; rw [if_neg hm])) (Ev.now _)))))))
end Go.DI.Th
namespace Go.DI.Th
open Go Go.RowKit Go.DI

def nl : ByteArray := ⟨#[10]⟩
def linesB : List Nd -> ByteArray
 | [] => .empty
 | n :: l => lineT n ++ nl ++ linesB l
def treeW : ByteArray := ⟨#[116, 114, 101, 101, 32]⟩
def treesB : List (List Nd) -> ByteArray
 | [] => .empty
 | t :: l => treeW ++ prN t.length ++ nl ++ linesB t ++ treesB l
def endB : ByteArray := ⟨#[101, 110, 100, 10]⟩
def headB (f n : Nat) : ByteArray := (⟨#[100, 101, 110, 100, 114, 111, 110, 32, 49, 10, 102, 101, 97, 116, 117, 114, 101, 115, 32]⟩ : ByteArray) ++ prN f ++ (⟨#[10, 116, 114, 101, 101, 115, 32]⟩ : ByteArray) ++ prN n ++ nl
abbrev MM : Nat := 70368744177664
theorem wr_str (b s : ByteArray) (h : b.size + s.size <= MM) : strings_Builder_WriteString.f b s = some (b ++ s) := by
 unfold strings_Builder_WriteString.f
 exact if_pos (Nat.le_trans h (by decide))
theorem nl_size : nl.size = 1 := rfl
theorem mwrite_l1 (ts : List (List Nd)) (m i : Int) (t : List Nd) (ht : t.length <= 255) (hv : ∀ n ∈ t, NdOk n /\ okN n) (R : ByteArray × Int) (acc0 : ByteArray) (hs0 : (acc0 ++ linesB t).size <= MM)
 (hend : Ev (fun k => model_Write.l0 k ts m (wrap64 (i + 1)) (acc0 ++ linesB t)) R) : ∀ (b a : List Nd) (acc : ByteArray), t = a ++ b -> acc ++ linesB b = acc0 ++ linesB t ->
 Ev (fun k => model_Write.l1 k ts m i t (t.length : Int) (a.length : Int) acc) R := by
 intro b
 induction b with
 | nil =>
  intro a acc hr hacc
  rw [List.append_nil] at hr
  rw [linesB, ByteArray.append_empty] at hacc
  refine Ev.succ ?_
  simp only [model_Write.l1]
  rw [hacc]
  exact Ev.if_neg (by rw [hr]; omega) hend
 | cons n b ih =>
  intro a acc hr hacc
  have e2 := gt_at nd0 a n b
  have l2 := lt_at a n b
  rw [<- hr] at e2 l2
  have hl : t.length = a.length + (b.length + 1) := by rw [hr, List.length_append, List.length_cons]
  have hih := ih (a ++ [n]) (acc ++ (lineT n ++ nl)) (by rw [hr]; simp) (by rw [<- hacc, linesB, ByteArray.append_assoc])
  have hn := hv n (by rw [hr]; simp)
  have hsz : acc.size + ((lineT n).size + 1) <= MM := by
   have := congrArg ByteArray.size hacc
   rw [linesB, ByteArray.size_append, ByteArray.size_append, ByteArray.size_append, nl_size] at this
   omega
  have hw := wr_str acc (lineT n ++ nl) (by rw [ByteArray.size_append, nl_size]; omega)
  refine Ev.succ ?_
  simp only [model_Write.l1, e2, wr_at a n (show a.length <= 1125899906842624 by omega)]
  refine Ev.if_pos l2 (Ev.if_pos (nn0 _) (Ev.if_pos l2 (Ev.bind (line_ev n hn.1 hn.2) (Ev.if_pos (by have hM : MM = 70368744177664 := rfl; show (lineT n).size + 1 <= _; omega) ?_))))
  exact Ev.bind (Ev.congr (fun _ => hw) (Ev.now _)) hih
theorem mwrite_l0 (ts : List (List Nd)) (hts : ts.length <= 64) (hv : ∀ t ∈ ts, t.length <= 255 /\ ∀ n ∈ t, NdOk n /\ okN n) (acc0 : ByteArray) (hs0 : (acc0 ++ treesB ts ++ endB).size <= MM) (hp : 0 < acc0.size) :
 ∀ (b a : List (List Nd)) (acc : ByteArray), ts = a ++ b -> acc ++ treesB b = acc0 ++ treesB ts -> Ev (fun k => model_Write.l0 k ts (ts.length : Int) (a.length : Int) acc) (acc0 ++ treesB ts ++ endB, 0) := by
 intro b
 induction b with
 | nil =>
  intro a acc hr hacc
  rw [List.append_nil] at hr
  rw [treesB, ByteArray.append_empty] at hacc
  have hw := wr_str acc endB (by rw [hacc, <- ByteArray.size_append]; exact hs0)
  have hst : strings_Builder_String.f (acc ++ endB) = some (acc ++ endB, acc ++ endB) := by
   unfold strings_Builder_String.f
   exact if_pos (by rw [ByteArray.size_append]; have : endB.size = 4 := rfl; omega)
  refine Ev.succ ?_
  simp only [model_Write.l0]
  rw [<- hacc]
  exact Ev.if_neg (by rw [hr]; omega) (Ev.bind (Ev.congr (fun _ => hw) (Ev.now _)) (Ev.bind (Ev.congr (fun _ => hst) (Ev.now _)) (Ev.now _)))
 | cons t b ih =>
  intro a acc hr hacc
  have e1 := gt_at [] a t b
  have l1 := lt_at a t b
  rw [<- hr] at e1 l1
  have hl : ts.length = a.length + (b.length + 1) := by rw [hr, List.length_append, List.length_cons]
  have ht := hv t (by rw [hr]; simp)
  have hA : acc ++ (treeW ++ prN t.length ++ nl) ++ linesB t ++ treesB b = acc0 ++ treesB ts := by
   rw [<- hacc, treesB]
   simp only [ByteArray.append_assoc]
  have hih := ih (a ++ [t]) (acc ++ (treeW ++ prN t.length ++ nl) ++ linesB t) (by rw [hr]; simp) hA
  have hz := congrArg ByteArray.size hA
  have hp1 := prN_small (n := t.length) (by omega)
  rw [ByteArray.size_append] at hs0
  have hz1 : (acc ++ (treeW ++ prN t.length ++ nl) ++ linesB t).size <= MM := by
   rw [ByteArray.size_append] at hz
   omega
  have hz2 : acc.size + (treeW ++ prN t.length ++ nl).size <= MM := by
   rw [ByteArray.size_append, ByteArray.size_append] at hz1
   omega
  have hw := wr_str acc (treeW ++ prN t.length ++ nl) hz2
  rw [<- wr_at a t (by omega)] at hih
  refine Ev.succ ?_
  simp only [model_Write.l0, e1]
  refine Ev.if_pos l1 (Ev.if_pos (nn0 _) (Ev.if_pos l1 (Ev.bind (mdigits_ev t.length (by omega)) (Ev.if_pos (by show 5 + _ <= _; omega) (Ev.if_pos (by rw [ByteArray.size_append]; show 5 + _ + 1 <= _; omega) ?_)))))
  exact Ev.bind (Ev.congr (fun _ => hw) (Ev.now _)) (mwrite_l1 ts _ _ t ht.1 ht.2 _ (acc ++ (treeW ++ prN t.length ++ nl)) hz1 hih t [] _ rfl rfl)
def modelB (f : Nat) (ts : List (List Nd)) : ByteArray := headB f ts.length ++ treesB ts ++ endB
def writeM (f : Int) (ts : List (List Nd)) : ByteArray × Int := if fitM f ts then (modelB f.toNat ts, 0) else (.empty, 1)
theorem headB_size (f n : Nat) (hf : f <= 64) (hn : n <= 64) : 27 <= (headB f n).size /\ (prN f).size <= 65 /\ (prN n).size <= 65 := by
 refine ⟨?_, prN_small (by omega), prN_small (by omega)⟩
 unfold headB
 simp only [ByteArray.size_append]
 have e1 : (⟨#[100, 101, 110, 100, 114, 111, 110, 32, 49, 10, 102, 101, 97, 116, 117, 114, 101, 115, 32]⟩ : ByteArray).size = 19 := rfl
 have e2 : (⟨#[10, 116, 114, 101, 101, 115, 32]⟩ : ByteArray).size = 7 := rfl
 rw [e1, e2, nl_size]
 omega
theorem mwrite_ev (f : Int) (ts : List (List Nd)) (hv : ∀ t ∈ ts, ∀ n ∈ t, NdOk n) (hs : (modelB f.toNat ts).size <= MM) : Ev (fun k => model_Write.f k f ts) (writeM f ts) := by
 unfold model_Write.f writeM
 refine Ev.bind (fits_ev f ts) ?_
 by_cases h : fitM f ts
 ·rw [if_pos h]
  refine Ev.if_pos (decide_eq_true h) ?_
  obtain ⟨g1, g2, g3, g4⟩ := h
  obtain ⟨f, rfl⟩ : ∃ n : Nat, f = (n : Int) := ⟨f.toNat, by omega⟩
  rw [Int.toNat_natCast] at hs ⊢
  obtain ⟨q1, q2, q3⟩ := headB_size f ts.length (by omega) g3
  have e1 : (⟨#[100, 101, 110, 100, 114, 111, 110, 32, 49, 10, 102, 101, 97, 116, 117, 114, 101, 115, 32]⟩ : ByteArray).size = 19 := rfl
  have e2 : (⟨#[10, 116, 114, 101, 101, 115, 32]⟩ : ByteArray).size = 7 := rfl
  have e3 : (⟨#[10]⟩ : ByteArray).size = 1 := rfl
  simp only [ByteArray.size_append, e1, e2, e3]
  have hh : strings_Builder_WriteString.f ByteArray.empty (headB f ts.length) = some (headB f ts.length) := by
   have := wr_str ByteArray.empty (headB f ts.length) (by
    unfold modelB at hs
    rw [ByteArray.size_append, ByteArray.size_append] at hs
    show 0 + _ <= _
    omega)
   rw [this, ByteArray.empty_append]
  have hl0 := mwrite_l0 ts g3 (fun t ht => ⟨(g4 t ht).2.1, fun n hn => ⟨hv t ht n hn, (g4 t ht).2.2 n hn⟩⟩) (headB f ts.length) hs (by omega) ts [] (headB f ts.length) rfl rfl
  exact Ev.bind (mdigits_ev f (by omega)) (Ev.if_pos (by omega) (Ev.if_pos (by omega) (Ev.bind (mdigits_ev ts.length (by omega)) (Ev.if_pos (by omega) (Ev.if_pos (by omega) (Ev.bind (Ev.congr (fun _ => hh) (Ev.now _)) hl0))))))
 ·rw [if_neg h]
  exact Ev.if_neg (by simp [h]) (Ev.now _)
end Go.DI.Th
namespace Go.DI.Th
open Go Go.RowKit Go.DI

end Go.DI.Th
namespace Go.DI.Th
open Go Go.RowKit Go.DI

end Go.DI.Th
namespace Go.DI.Th
open Go Go.RowKit Go.DI

end Go.DI.Th
namespace Go.DI.Th
open Go Go.RowKit Go.DI

def clR (r : Rt) : Rt := rl (num r.1 r.2.1 r.2.2) (den r.2.2)
def tidyN (n : Nd) : Nd := if n.1 = true then (n.1, 0, false, [], [], 0, 0, false, (clR n.val).1, (clR n.val).2.1, (clR n.val).2.2, (clR n.cov).1, (clR n.cov).2.1, (clR n.cov).2.2) else
 (n.1, n.2.1, (clR n.cut).1, (clR n.cut).2.1, (clR n.cut).2.2, n.2.2.2.2.2.1, n.2.2.2.2.2.2.1, n.2.2.2.2.2.2.2.1, false, [], [], (clR n.cov).1, (clR n.cov).2.1, (clR n.cov).2.2)
def small7 (ts : List (List Nd)) : Prop := ts.length <= 1000 /\ ∀ t ∈ ts, t.length <= 1000
end Go.DI.Th
