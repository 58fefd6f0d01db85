/- What the told functions answer, part 1. No condition. -/
import Derived.Test.YtmnjjphdkjohpaaGreatDoorFn
import Derived.Laws.Bits64b
import Derived.Laws.RangeAny
import Derived.Laws.RangeString
set_option linter.all false
namespace Go.DI.Th
open Go Go.RowKit Go.DI

def Ev {α : Type} (g : Nat → Option α) (r : α) : Prop := ∃ K, ∀ k, K ≤ k → g k = some r
theorem Ev.now {α : Type} (r : α) : Ev (fun _ => some r) r := ⟨0, fun _ _ => rfl⟩
theorem Ev.rounds {α : Type} {g : Nat → Option α} {r : α} (h : Ev g r) : ∃ k, g k = some r := by
  obtain ⟨K, h⟩ := h
  exact ⟨K, h K (Nat.le_refl _)⟩
theorem Ev.bind {α β : Type} {g : Nat → Option α} {f : Nat → α → Option β} {a : α} {r : β} (h : Ev g a) (k : Ev (fun n => f n a) r) : Ev (fun n => (g n).bind (f n)) r := by
  obtain ⟨K, h⟩ := h
  obtain ⟨K', k⟩ := k
  refine ⟨max K K', fun n hn => ?_⟩
  show (g n).bind (f n) = some r
  rw [h n (by omega)]
  exact k n (by omega)
theorem Ev.step {α : Type} {g f : Nat → Option α} {r : α} (h : ∀ k, g (k + 1) = f k) (k : Ev f r) : Ev g r := by
  obtain ⟨K, k⟩ := k
  refine ⟨K + 1, fun n hn => ?_⟩
  obtain ⟨m, rfl⟩ : ∃ m, n = m + 1 := ⟨n - 1, by omega⟩
  rw [h]
  exact k m (by omega)
theorem Ev.congr {α : Type} {g f : Nat → Option α} {r : α} (h : ∀ k, g k = f k) (k : Ev f r) : Ev g r := by
  obtain ⟨K, k⟩ := k
  exact ⟨K, fun n hn => by rw [h]; exact k n hn⟩
theorem Ev.of_eq {α : Type} {g : Nat → Option α} {r r' : α} (h : Ev g r) (e : r = r') : Ev g r' := e ▸ h
theorem Ev.if_pos {α : Type} {c : Prop} [Decidable c] {g f : Nat → Option α} {r : α} (h : c) (k : Ev g r) : Ev (fun n => if c then g n else f n) r := Ev.congr (fun _ => _root_.if_pos h) k
theorem Ev.if_neg {α : Type} {c : Prop} [Decidable c] {g f : Nat → Option α} {r : α} (h : ¬ c) (k : Ev f r) : Ev (fun n => if c then g n else f n) r := Ev.congr (fun _ => _root_.if_neg h) k


theorem wrap_id {i : Int} (h0 : -9223372036854775808 ≤ i) (h : i ≤ 9223372036854775807) : wrap64 i = i := by
  unfold wrap64; omega
theorem w64 (n : Int) : IntKind.u64.wrap n = n % 18446744073709551616 := IntKind.wrap_u64 n
theorem and_low {x : Int} (h0 : 0 ≤ x) (h1 : x < 18446744073709551616) : Go.bits .and .u64 x 4294967295 = x % 4294967296 := by
  obtain ⟨n, rfl⟩ : ∃ n : Nat, x = n := ⟨x.toNat, by omega⟩
  have := bits_and_u64_nat n 4294967295 (by omega) (by omega)
  have e : n &&& 4294967295 = n % 4294967296 := Nat.and_two_pow_sub_one_eq_mod n 32
  rw [show (4294967295 : Int) = ((4294967295 : Nat) : Int) from rfl, this, e]
  omega
theorem or_sum {x y : Int} (h0 : 0 ≤ x) (h1 : x < 4294967296) (h2 : 0 ≤ y) (h3 : y < 4294967296) : Go.bits .or .u64 (IntKind.u64.wrap (x * 4294967296)) y = x * 4294967296 + y := by
  obtain ⟨n, rfl⟩ : ∃ n : Nat, x = n := ⟨x.toNat, by omega⟩
  obtain ⟨m, rfl⟩ : ∃ n : Nat, y = n := ⟨y.toNat, by omega⟩
  have e1 : IntKind.u64.wrap ((n : Int) * 4294967296) = ((4294967296 * n : Nat) : Int) := by rw [w64]; omega
  rw [e1, bits_or_u64_nat _ m (by omega) (by omega)]
  have : 4294967296 * n ||| m = 4294967296 * n + m := by
    have := Nat.two_pow_add_eq_or_of_lt (i := 32) (b := m) (by omega) n
    simpa using this.symm
  rw [this]
  omega

def val : List Int → Nat
  | [] => 0
  | x :: l => (x % 4294967296).toNat + 4294967296 * val l

def lm (n : Nat) : List Int := if n = 0 then [] else ((n % 4294967296 : Nat) : Int) :: lm (n / 4294967296)
termination_by n
decreasing_by omega

def Ok (l : List Int) : Prop := ∀ x ∈ l, 0 ≤ x ∧ x < 4294967296
def U (l : List Int) : Prop := ∀ x ∈ l, 0 ≤ x ∧ x < 18446744073709551616
theorem Ok.U {l : List Int} (h : Ok l) : U l := fun x hx => by have := h x hx; omega
theorem Ok.nil : Ok [] := fun x hx => by cases hx
theorem Ok.cons {x : Int} {l : List Int} (h : 0 ≤ x ∧ x < 4294967296) (hl : Ok l) : Ok (x :: l) := fun y hy => by
  rcases List.mem_cons.1 hy with rfl | hy
  · exact h
  · exact hl y hy
theorem Ok.append {a b : List Int} (ha : Ok a) (hb : Ok b) : Ok (a ++ b) := fun x hx => by
  rcases List.mem_append.1 hx with h | h
  · exact ha x h
  · exact hb x h
theorem Ok.take {a : List Int} (h : Ok a) (n : Nat) : Ok (a.take n) := fun x hx => h x (List.mem_of_mem_take hx)
theorem Ok.drop {a : List Int} (h : Ok a) (n : Nat) : Ok (a.drop n) := fun x hx => h x (List.mem_of_mem_drop hx)
theorem Ok.zeros (n : Nat) : Ok (List.replicate n 0) := fun x hx => by
  rw [(List.mem_replicate.1 hx).2]; omega
theorem Ok.tail {x : Int} {l : List Int} (h : Ok (x :: l)) : Ok l := fun y hy => h y (List.mem_cons_of_mem _ hy)
theorem Ok.head {x : Int} {l : List Int} (h : Ok (x :: l)) : 0 ≤ x ∧ x < 4294967296 := h x List.mem_cons_self
theorem rd_ok {l : List Int} (h : Ok l) (i : Int) : 0 ≤ rd l i ∧ rd l i < 4294967296 := by
  unfold rd
  rw [List.getD_eq_getElem?_getD]
  by_cases hi : i.toNat < l.length
  · rw [List.getElem?_eq_getElem hi]
    exact h _ (List.getElem_mem hi)
  · rw [List.getElem?_eq_none (by omega)]
    simp
theorem rd_U {l : List Int} (h : U l) (i : Int) : 0 ≤ rd l i ∧ rd l i < 18446744073709551616 := by
  unfold rd
  rw [List.getD_eq_getElem?_getD]
  by_cases hi : i.toNat < l.length
  · rw [List.getElem?_eq_getElem hi]
    exact h _ (List.getElem_mem hi)
  · rw [List.getElem?_eq_none (by omega)]
    simp

theorem val_cons (x : Int) (l : List Int) : val (x :: l) = (x % 4294967296).toNat + 4294967296 * val l := rfl
theorem lm_zero : lm 0 = [] := by rw [lm]; simp
theorem lm_pos {n : Nat} (h : n ≠ 0) : lm n = ((n % 4294967296 : Nat) : Int) :: lm (n / 4294967296) := by
  conv => lhs; rw [lm]
  rw [if_neg h]
theorem val_lm (n : Nat) : val (lm n) = n := by
  induction n using Nat.strongRecOn with
  | _ n ih =>
    by_cases h : n = 0
    · subst h; rw [lm_zero]; rfl
    · rw [lm_pos h, val_cons, ih _ (by omega)]
      omega
theorem lm_ok (n : Nat) : Ok (lm n) := by
  induction n using Nat.strongRecOn with
  | _ n ih =>
    by_cases h : n = 0
    · subst h; rw [lm_zero]; exact Ok.nil
    · rw [lm_pos h]
      exact Ok.cons (by omega) (ih _ (by omega))
theorem val_append (a b : List Int) : val (a ++ b) = val a + 4294967296 ^ a.length * val b := by
  induction a with
  | nil => simp [val]
  | cons x a ih =>
    rw [List.cons_append, val_cons, val_cons, ih, List.length_cons, Nat.pow_succ, Nat.mul_add]
    have : 4294967296 * (4294967296 ^ a.length * val b) = 4294967296 ^ a.length * 4294967296 * val b := by
      rw [← Nat.mul_assoc, Nat.mul_comm 4294967296 (4294967296 ^ a.length)]
    omega
theorem val_zeros (n : Nat) : val (List.replicate n 0) = 0 := by
  induction n with
  | zero => rfl
  | succ n ih => rw [List.replicate_succ, val_cons, ih]; rfl
theorem val_lt (l : List Int) : val l < 4294967296 ^ l.length := by
  induction l with
  | nil => simp [val]
  | cons x l ih =>
    rw [val_cons, List.length_cons, Nat.pow_succ]
    have h1 : (x % 4294967296).toNat < 4294967296 := by
      have := Int.emod_lt_of_pos x (b := 4294967296) (by decide)
      have := Int.emod_nonneg x (b := 4294967296) (by decide)
      omega
    have h2 : 4294967296 * (val l + 1) ≤ 4294967296 * 4294967296 ^ l.length := Nat.mul_le_mul_left _ ih
    rw [Nat.mul_comm (4294967296 ^ l.length)]
    omega
theorem val_single (x : Int) : val [x] = (x % 4294967296).toNat := by simp [val]
theorem val_snoc (l : List Int) (x : Int) : val (l ++ [x]) = val l + 4294967296 ^ l.length * (x % 4294967296).toNat := by rw [val_append, val_single]

theorem lm_val {l : List Int} (h : Ok l) (hl : ∀ x, l.getLast? = some x → x ≠ 0) : lm (val l) = l := by
  induction l with
  | nil => exact lm_zero
  | cons x l ih =>
    have hx := h.head
    have e : x % 4294967296 = x := Int.emod_eq_of_lt hx.1 hx.2
    by_cases hl0 : l = []
    · subst hl0
      have hx0 : x ≠ 0 := hl x rfl
      have hv : val [x] = x.toNat := by rw [val_single, e]
      rw [hv, lm_pos (by omega), show x.toNat / 4294967296 = 0 by omega, lm_zero, show x.toNat % 4294967296 = x.toNat by omega]
      congr 1
      omega
    · have hl' : lm (val l) = l := ih h.tail (fun y hy => hl y (by rw [List.getLast?_cons, hy]; rfl))
      have hv0 : val l ≠ 0 := by
        intro h0
        rw [h0, lm_zero] at hl'
        exact hl0 hl'.symm
      have hv : val (x :: l) = x.toNat + 4294967296 * val l := by rw [val_cons, e]
      rw [hv, lm_pos (by omega), show (x.toNat + 4294967296 * val l) / 4294967296 = val l by omega, show (x.toNat + 4294967296 * val l) % 4294967296 = x.toNat by omega, hl']
      congr 1
      omega
def len (n : Nat) : Nat := (lm n).length
theorem len_zero : len 0 = 0 := by unfold len; rw [lm_zero]; rfl
theorem len_pos {n : Nat} (h : n ≠ 0) : len n = len (n / 4294967296) + 1 := by unfold len; rw [lm_pos h]; rfl
theorem len_eq_zero {n : Nat} : len n = 0 ↔ n = 0 := by
  constructor
  · intro h
    by_cases h0 : n = 0
    · exact h0
    · rw [len_pos h0] at h; omega
  · rintro rfl; exact len_zero
theorem lt_pow_len (n : Nat) : n < 4294967296 ^ len n := by
  have := val_lt (lm n)
  rwa [val_lm] at this
theorem pow_le_len {n : Nat} (h : n ≠ 0) : 4294967296 ^ (len n - 1) ≤ n := by
  induction n using Nat.strongRecOn with
  | _ n ih =>
    rw [len_pos h, Nat.add_sub_cancel]
    by_cases h2 : n / 4294967296 = 0
    · rw [h2, len_zero]; omega
    · have := ih _ (by omega) h2
      rw [len_pos h2, Nat.pow_succ]
      rw [len_pos h2, Nat.add_sub_cancel] at this
      omega
theorem len_le {n k : Nat} (h : n < 4294967296 ^ k) : len n ≤ k := by
  by_cases h0 : n = 0
  · subst h0; rw [len_zero]; omega
  · have h1 := pow_le_len h0
    have h2 : 4294967296 ^ (len n - 1) < 4294967296 ^ k := by omega
    have := (Nat.pow_lt_pow_iff_right (by decide : 1 < 4294967296)).1 h2
    omega
theorem len_mono {a b : Nat} (h : a ≤ b) : len a ≤ len b := len_le (Nat.lt_of_le_of_lt h (lt_pow_len b))
theorem len_add (a b : Nat) : len (a + b) ≤ max (len a) (len b) + 1 := by
  apply len_le
  have h1 := lt_pow_len a
  have h2 := lt_pow_len b
  have h3 : 4294967296 ^ len a ≤ 4294967296 ^ max (len a) (len b) := Nat.pow_le_pow_right (by decide) (Nat.le_max_left _ _)
  have h4 : 4294967296 ^ len b ≤ 4294967296 ^ max (len a) (len b) := Nat.pow_le_pow_right (by decide) (Nat.le_max_right _ _)
  rw [Nat.pow_succ]
  omega
theorem len_mul (a b : Nat) : len (a * b) ≤ len a + len b := by
  apply len_le
  rw [Nat.pow_add]
  have h1 := lt_pow_len a
  have h2 := lt_pow_len b
  have h0 : 0 < 4294967296 ^ len b := Nat.pow_pos (by decide)
  calc a * b ≤ a * 4294967296 ^ len b := Nat.mul_le_mul_left _ (by omega)
    _ < 4294967296 ^ len a * 4294967296 ^ len b := Nat.mul_lt_mul_of_pos_right h1 h0
theorem val_len (l : List Int) : len (val l) ≤ l.length := len_le (val_lt l)
theorem lm_length (n : Nat) : (lm n).length = len n := rfl
theorem lt_of_len_lt {a b : Nat} (h : len a < len b) : a < b := by
  have hb : b ≠ 0 := by
    rintro rfl
    rw [len_zero] at h
    omega
  have h1 := lt_pow_len a
  have h2 := pow_le_len hb
  have h3 : 4294967296 ^ len a ≤ 4294967296 ^ (len b - 1) := Nat.pow_le_pow_right (by decide) (by omega)
  omega

theorem rd_nat (l : List Int) (i : Nat) : rd l (i : Int) = l.getD i 0 := by simp [rd]
theorem take_succ_rd (l : List Int) (i : Nat) (h : i < l.length) : l.take (i + 1) = l.take i ++ [rd l i] := by
  rw [List.take_succ_eq_append_getElem h, rd_nat, List.getD_eq_getElem?_getD, List.getElem?_eq_getElem h]
  rfl
theorem drop_rd (l : List Int) (i : Nat) (h : i < l.length) : l.drop i = rd l i :: l.drop (i + 1) := by
  rw [rd_nat, List.getD_eq_getElem?_getD, List.getElem?_eq_getElem h]
  exact List.drop_eq_getElem_cons h
theorem val_take_succ (l : List Int) (i : Nat) (h : i < l.length) : val (l.take (i + 1)) = val (l.take i) + 4294967296 ^ i * (rd l i % 4294967296).toNat := by
  rw [take_succ_rd l i h, val_snoc, List.length_take, Nat.min_eq_left (Nat.le_of_lt h)]
theorem val_drop (l : List Int) (i : Nat) (h : i < l.length) : val (l.drop i) = (rd l i % 4294967296).toNat + 4294967296 * val (l.drop (i + 1)) := by
  rw [drop_rd l i h, val_cons]
theorem fill (done : List Int) (d : Nat) (v : Int) : (done ++ List.replicate (d + 1) (0 : Int)).set done.length v = done ++ [v] ++ List.replicate d 0 := by
  rw [List.set_append_right _ _ (Nat.le_refl _), Nat.sub_self, List.replicate_succ]
  simp
theorem fillr (done : List Int) (d : Nat) (v : Int) : (List.replicate (d + 1) (0 : Int) ++ done).set d v = List.replicate d 0 ++ v :: done := by
  rw [List.replicate_succ', List.append_assoc, List.set_append_right _ _ (by simp)]
  simp


end Go.DI.Th
namespace Go.DI.Th
open Go Go.RowKit Go.DI

theorem wr_succ (m : Nat) (h : m ≤ 1125899906842624) : wrap64 ((m : Int) + 1) = ((m + 1 : Nat) : Int) := by
  rw [wrap_id (by omega) (by omega)]; omega
theorem gt_at {α : Type} (d : α) (a : List α) (x : α) (b : List α) : gt d (a ++ x :: b) (a.length : Int) = x := by
  unfold gt
  rw [Int.toNat_natCast, List.getD_eq_getElem?_getD, List.getElem?_append_right (Nat.le_refl _), Nat.sub_self]
  rfl
theorem wr_at {α : Type} (a : List α) (x : α) (h : a.length ≤ 1125899906842624) : wrap64 ((a.length : Int) + 1) = ((a ++ [x]).length : Int) := by
  rw [wr_succ _ h, List.length_append, List.length_singleton]
theorem nn0 (n : Nat) : (0 : Int) ≤ (n : Int) := Int.natCast_nonneg n
end Go.DI.Th
namespace Go.DI.Th
open Go Go.RowKit Go.DI

def toL (b : ByteArray) : List UInt8 := b.data.toList
def ofL (l : List UInt8) : ByteArray := ⟨l.toArray⟩
theorem toL_ofL (l : List UInt8) : toL (ofL l) = l := rfl
theorem toL_append (a b : ByteArray) : toL (a ++ b) = toL a ++ toL b := by unfold toL; simp
theorem toL_inj {a b : ByteArray} (h : toL a = toL b) : a = b := by
  unfold toL at h
  have := Array.toList_inj.1 h
  cases a; cases b
  simpa using this
theorem size_toL (b : ByteArray) : b.size = (toL b).length := (Array.length_toList (xs := b.data)).symm
theorem toL_extract (b : ByteArray) (i j : Nat) : toL (b.extract i j) = ((toL b).drop i).take (j - i) := by
  unfold toL
  rw [ByteArray.data_extract]
  simp
theorem bt_at {b : ByteArray} {p : List UInt8} {c : UInt8} {r : List UInt8} (h : toL b = p ++ c :: r) : bt b (p.length : Int) = (c.toNat : Int) := by
  have hl : p.length < b.size := by rw [size_toL, h, List.length_append, List.length_cons]; omega
  show btI b (p.length : Int) = _
  unfold btI
  rw [Int.toNat_natCast, dif_pos hl]
  have : b[p.length]'hl = c := by
    have h1 : b[p.length]'hl = (toL b)[p.length]'(by rw [← size_toL]; exact hl) := rfl
    rw [h1]
    simp [h]
  rw [this]
theorem sz_at {b : ByteArray} {p : List UInt8} {c : UInt8} {r : List UInt8} (h : toL b = p ++ c :: r) : (p.length : Int) < (b.size : Int) := by
  rw [size_toL, h, List.length_append, List.length_cons]; omega
theorem sz_end {b : ByteArray} {p : List UInt8} (h : toL b = p) : b.size = p.length := by rw [size_toL, h]
theorem ext_at {b : ByteArray} {p w r : List UInt8} (h : toL b = p ++ (w ++ r)) : b.extract p.length (p.length + w.length) = ofL w := by
  apply toL_inj
  rw [toL_extract, h, toL_ofL]
  simp
theorem Ev.succ {α : Type} {g : Nat → Option α} {r : α} (h : Ev (fun k => g (k + 1)) r) : Ev g r := Ev.step (fun _ => rfl) h
end Go.DI.Th
namespace Go.DI.Th
open Go Go.RowKit Go.DI

theorem limb_eq (l : List Int) (i : Int) (h : 0 ≤ i) : nat_limb.f l i = some (rd l i) := by
  unfold nat_limb.f
  by_cases h1 : i < (l.length : Int)
  · rw [if_pos h1, if_pos h]
  · rw [if_neg h1]
    unfold rd
    rw [List.getD_eq_getElem?_getD, List.getElem?_eq_none (by omega)]
    rfl
theorem rd_beyond (l : List Int) (i : Int) (h : (l.length : Int) ≤ i) : rd l i = 0 := by
  unfold rd
  rw [List.getD_eq_getElem?_getD, List.getElem?_eq_none (by omega)]
  rfl

theorem trim_from (l : List Int) (hl : Ok l) (hn : l.length ≤ 9223372036854775807) : ∀ n : Nat, n ≤ l.length → val l = val (l.take n) → Ev (fun k => nat_trim.l0 k l (n : Int)) (lm (val l)) := by
  intro n
  induction n with
  | zero =>
    intro _ hv
    refine Ev.step (fun k => ?_) (Ev.now _)
    simp only [nat_trim.l0]
    rw [if_neg (by omega), if_pos (by simp), hv]
    simp [val, lm_zero]
  | succ m ih =>
    intro hm hv
    have e : wrap64 (((m + 1 : Nat) : Int) - 1) = (m : Int) := by rw [wrap_id (by omega) (by omega)]; omega
    have hr := rd_ok hl (m : Int)
    by_cases h0 : rd l (m : Int) = 0
    · refine Ev.step (fun k => ?_) (ih (by omega) ?_)
      · simp only [nat_trim.l0]
        rw [if_pos (by omega), e, if_pos (by omega), if_pos (by omega), if_pos h0]
      · rw [hv, val_take_succ l m (by omega), h0]
        simp
    · refine Ev.step (fun k => ?_) (Ev.now _)
      simp only [nat_trim.l0]
      rw [if_pos (by omega), e, if_pos (by omega), if_pos (by omega), if_neg h0, if_neg (by omega), if_pos (by omega), if_pos (by omega)]
      have e2 : (((m + 1 : Nat) : Int)).toNat = m + 1 := by omega
      rw [e2, hv, lm_val (hl.take (m + 1))]
      intro x hx
      rw [take_succ_rd l m (by omega), List.getLast?_concat] at hx
      cases hx
      exact h0
theorem trim_ev (l : List Int) (hl : Ok l) (hn : l.length ≤ 9223372036854775807) : Ev (fun k => nat_trim.f k l) (lm (val l)) :=
  trim_from l hl hn l.length (Nat.le_refl _) (by rw [List.take_length])

theorem trimM_l0 (l : List Int) : ∀ (k : Nat) (n : Int), nat_trimM.l0 k l n = nat_trim.l0 k l n
  | 0, _ => rfl
  | k + 1, n => by
    simp only [nat_trimM.l0, nat_trim.l0, trimM_l0 l k]
theorem trimM_eq (k : Nat) (l : List Int) : nat_trimM.f k l = nat_trim.f k l := trimM_l0 l k _

def low (l : List Int) : List Int := l.map (· % 4294967296)
theorem low_ok (l : List Int) : Ok (low l) := by
  intro x hx
  obtain ⟨y, _, rfl⟩ := List.mem_map.1 hx
  exact ⟨Int.emod_nonneg _ (by decide), Int.emod_lt_of_pos _ (by decide)⟩
theorem low_val (l : List Int) : val (low l) = val l := by
  induction l with
  | nil => rfl
  | cons x l ih =>
    show val (x % 4294967296 :: low l) = _
    rw [val_cons, val_cons, ih, Int.emod_emod_of_dvd _ (Int.dvd_refl _)]
theorem low_take_succ (l : List Int) (i : Nat) (h : i < l.length) : low (l.take (i + 1)) = low (l.take i) ++ [rd l i % 4294967296] := by
  rw [take_succ_rd l i h, low, low, List.map_append]
  rfl
theorem low_length (l : List Int) : (low l).length = l.length := List.length_map _
theorem clean_loop (l : List Int) (hl : U l) (hn : l.length ≤ 35184372088832) (d : Nat) : ∀ i : Nat, i + d = l.length →
    Ev (fun k => nat_Clean.l0 k (low (l.take i) ++ List.replicate d 0) l (l.length : Int) (i : Int)) (lm (val l)) := by
  induction d with
  | zero =>
    intro i hi
    obtain rfl : i = l.length := by omega
    refine Ev.step (f := fun k => (nat_trim.f k (low l)).bind fun t => some t) (fun k => ?_) (Ev.bind ?_ (Ev.now _))
    · simp only [nat_Clean.l0]
      rw [if_neg (by omega), List.take_length]
      simp
    · have := trim_ev (low l) (low_ok l) (by rw [low_length]; omega)
      rwa [low_val] at this
  | succ d ih =>
    intro i hi
    refine Ev.step (fun k => ?_) (ih (i + 1) (by omega))
    have hr := rd_U hl (i : Int)
    have hlen : (low (l.take i)).length = i := by rw [low_length, List.length_take]; omega
    simp only [nat_Clean.l0]
    rw [if_pos (by omega), if_pos (by omega), if_pos (by omega), if_pos (by rw [List.length_append, hlen, List.length_replicate]; omega), and_low hr.1 hr.2, wrap_id (by omega) (by omega), low_take_succ l i (by omega)]
    have := fill (low (l.take i)) d (rd l (i : Int) % 4294967296)
    rw [hlen] at this
    rw [show ((i : Int)).toNat = i by omega, this]
    rfl
theorem clean_ev (l : List Int) (hl : U l) (hn : l.length ≤ 35184372088832) : Ev (fun k => nat_Clean.f k l) (lm (val l)) := by
  refine Ev.congr (fun k => ?_) (clean_loop l hl hn l.length 0 (by omega))
  unfold nat_Clean.f
  rw [if_pos (by omega), show ((l.length : Int)).toNat = l.length by omega]
  rfl
theorem of_ev (a : Int) (h0 : 0 ≤ a) (h1 : a < 18446744073709551616) : Ev (fun k => nat_Of.f k a) (lm a.toNat) := by
  have hok : Ok [a % 4294967296, a / 4294967296] := by
    intro x hx
    simp only [List.mem_cons, List.not_mem_nil, or_false] at hx
    rcases hx with rfl | rfl <;> omega
  have h := trim_ev _ hok (by simp)
  have hv : val [a % 4294967296, a / 4294967296] = a.toNat := by simp only [val]; omega
  rw [hv] at h
  refine Ev.congr (f := fun k => (nat_trim.f k [a % 4294967296, a / 4294967296]).bind fun t => some t) (fun k => ?_) (Ev.bind h (Ev.now _))
  unfold nat_Of.f
  rw [and_low h0 h1]

def cmp (a b : Nat) : Int := if a < b then -1 else if b < a then 1 else 0
theorem split_at (l : List Int) (i : Nat) : val l = val (l.take i) + 4294967296 ^ (l.take i).length * val (l.drop i) := by
  conv => lhs; rw [← List.take_append_drop i l]
  exact val_append _ _
theorem less_of_drop {a b : List Int} {i : Nat} (hl : a.length = b.length) (hi : i ≤ a.length) (h : val (a.drop i) < val (b.drop i)) : val a < val b := by
  rw [split_at a i, split_at b i, List.length_take, List.length_take, ← hl, Nat.min_eq_left hi]
  have h1 := val_lt (a.take i)
  rw [List.length_take, Nat.min_eq_left hi] at h1
  have h2 : 4294967296 ^ i * (val (a.drop i) + 1) ≤ 4294967296 ^ i * val (b.drop i) := Nat.mul_le_mul_left _ h
  rw [Nat.mul_add] at h2
  omega
theorem order_loop (a b : List Int) (ha : Ok a) (hb : Ok b) (hl : a.length = b.length) (hn : a.length ≤ 9223372036854775807) : ∀ n : Nat, n ≤ a.length → val (a.drop n) = val (b.drop n) →
    Ev (fun k => nat_order.l0 k a b ((n : Int) - 1)) (cmp (val a) (val b)) := by
  intro n
  induction n with
  | zero =>
    intro _ hv
    refine Ev.step (fun k => ?_) (Ev.now _)
    simp only [nat_order.l0]
    simp only [List.drop_zero] at hv
    rw [if_neg (by omega)]
    unfold cmp
    rw [if_neg (by omega), if_neg (by omega)]
  | succ m ih =>
    intro hm hv
    have e : ((m + 1 : Nat) : Int) - 1 = (m : Int) := by omega
    have ra := rd_ok ha (m : Int)
    have rb := rd_ok hb (m : Int)
    have da := val_drop a m (by omega)
    have db := val_drop b m (by omega)
    rw [Int.emod_eq_of_lt ra.1 ra.2] at da
    rw [Int.emod_eq_of_lt rb.1 rb.2] at db
    by_cases h1 : rd a (m : Int) < rd b (m : Int)
    · refine Ev.step (fun k => ?_) (Ev.now _)
      simp only [nat_order.l0]
      rw [e, if_pos (by omega), if_pos (by omega), if_pos (by omega), if_pos h1]
      unfold cmp
      rw [if_pos (less_of_drop hl (i := m) (by omega) (by omega))]
    · by_cases h2 : rd a (m : Int) > rd b (m : Int)
      · refine Ev.step (fun k => ?_) (Ev.now _)
        simp only [nat_order.l0]
        rw [e, if_pos (by omega), if_pos (by omega), if_pos (by omega), if_neg h1, if_pos h2]
        have := less_of_drop hl.symm (i := m) (by omega) (by omega)
        unfold cmp
        rw [if_neg (by omega), if_pos this]
      · refine Ev.step (fun k => ?_) (ih (by omega) (by omega))
        simp only [nat_order.l0]
        rw [e, if_pos (by omega), if_pos (by omega), if_pos (by omega), if_neg h1, if_neg h2, wrap_id (by omega) (by omega)]
theorem order_ev (a b : Nat) (ha : len a ≤ 35184372088832) (_hb : len b ≤ 35184372088832) : Ev (fun k => nat_order.f k (lm a) (lm b)) (cmp a b) := by
  by_cases h1 : (lm a).length < (lm b).length
  · refine Ev.congr (fun k => ?_) (Ev.now _)
    unfold nat_order.f
    rw [if_pos (by omega)]
    unfold cmp
    rw [if_pos (lt_of_len_lt h1)]
  · by_cases h2 : (lm b).length < (lm a).length
    · refine Ev.congr (fun k => ?_) (Ev.now _)
      unfold nat_order.f
      rw [if_neg (by omega), if_pos (by omega)]
      have := lt_of_len_lt h2
      unfold cmp
      rw [if_neg (by omega), if_pos this]
    · have hl : (lm a).length = (lm b).length := by omega
      have h := order_loop (lm a) (lm b) (lm_ok a) (lm_ok b) hl (by rw [lm_length]; omega) (lm a).length (Nat.le_refl _) (by rw [List.drop_length, hl, List.drop_length])
      rw [val_lm, val_lm] at h
      refine Ev.congr (fun k => ?_) h
      unfold nat_order.f
      rw [if_neg (by omega), if_neg (by omega), wrap_id (by omega) (by rw [lm_length]; omega)]
theorem cmp_ev (a b : List Int) (ha : U a) (hb : U b) (hla : a.length ≤ 35184372088832) (hlb : b.length ≤ 35184372088832) : Ev (fun k => nat_Cmp.f k a b) (cmp (val a) (val b)) := by
  refine Ev.bind (clean_ev a ha hla) (Ev.bind (clean_ev b hb hlb) (Ev.bind (order_ev _ _ ?_ ?_) (Ev.now _)))
  · exact Nat.le_trans (val_len a) hla
  · exact Nat.le_trans (val_len b) hlb

theorem val_take_rd (l : List Int) (hl : Ok l) (i : Nat) : (val (l.take (i + 1)) : Int) = val (l.take i) + 4294967296 ^ i * rd l i := by
  by_cases h : i < l.length
  · have r := rd_ok hl (i : Int)
    have := val_take_succ l i h
    rw [Int.emod_eq_of_lt r.1 r.2] at this
    rw [this]
    have e : ((rd l (i : Int)).toNat : Int) = rd l i := by omega
    rw [Int.natCast_add, Int.natCast_mul, e, Int.natCast_pow]
    rfl
  · rw [List.take_of_length_le (by omega), List.take_of_length_le (by omega), rd_beyond l i (by omega)]
    simp
theorem val_snoc_int (l : List Int) (x : Int) (hx : 0 ≤ x ∧ x < 4294967296) : (val (l ++ [x]) : Int) = val l + 4294967296 ^ l.length * x := by
  rw [val_snoc, Int.emod_eq_of_lt hx.1 hx.2]
  have e : (x.toNat : Int) = x := by omega
  rw [Int.natCast_add, Int.natCast_mul, e, Int.natCast_pow]
  rfl

theorem minus_loop (a b : List Int) (ha : Ok a) (hb : Ok b) (hn : a.length ≤ 35184372088832) (hle : val b ≤ val a) (d : Nat) : ∀ (done : List Int) (debt : Int), Ok done → done.length + d = a.length → (debt = 0 ∨ debt = 1) →
    (val (a.take done.length) : Int) + 4294967296 ^ done.length * debt = val done + val (b.take done.length) →
    Ev (fun k => nat_minus.l0 k a b (done ++ List.replicate d 0) debt (a.length : Int) (done.length : Int)) (lm (val a - val b)) := by
  induction d with
  | zero =>
    intro done debt hd hl hdebt hv
    have hl' : done.length = a.length := by omega
    have h1 := val_lt done
    have h2 := val_lt b
    rw [hl', List.take_length] at hv
    have hb2 : val (b.take a.length) = val b := by
      have h3 := split_at b a.length
      by_cases hba : b.length ≤ a.length
      · rw [List.take_of_length_le hba]
      · have h4 : (b.take a.length).length = a.length := by rw [List.length_take]; omega
        rw [h4] at h3
        have h5 := val_lt a
        by_cases h6 : val (b.drop a.length) = 0
        · rw [h6] at h3; omega
        · have : 4294967296 ^ a.length * 1 ≤ 4294967296 ^ a.length * val (b.drop a.length) := Nat.mul_le_mul_left _ (by omega)
          omega
    rw [hb2] at hv
    have hz : val done = val a - val b := by
      rcases hdebt with rfl | rfl
      · simp at hv
        omega
      · exfalso
        rw [hl'] at h1
        have e : (4294967296 : Int) ^ a.length = ((4294967296 ^ a.length : Nat) : Int) := by rw [Int.natCast_pow]; rfl
        rw [Int.mul_one, e] at hv
        omega
    refine Ev.step (f := fun k => (nat_trim.f k done).bind fun t => some t) (fun k => ?_) (Ev.bind ?_ (Ev.now _))
    · simp only [nat_minus.l0]
      rw [if_neg (by omega)]
      simp
    · have := trim_ev done hd (by omega)
      rwa [hz] at this
  | succ d ih =>
    intro done debt hd hl hdebt hv
    have ra := rd_ok ha (done.length : Int)
    have rb := rd_ok hb (done.length : Int)
    have va := val_take_rd a ha done.length
    have vb := val_take_rd b hb done.length
    have hx : ∃ (y nd : Int), (0 ≤ y ∧ y < 4294967296) ∧ (nd = 0 ∨ nd = 1) ∧ rd a done.length + 4294967296 * nd = y + rd b done.length + debt ∧
        Go.bits .and .u64 (IntKind.u64.wrap ((IntKind.u64.wrap ((IntKind.u64.wrap (4294967296 + (rd a done.length))) - (rd b done.length))) - debt)) 4294967295 = y ∧
        IntKind.u64.wrap (1 - ((IntKind.u64.wrap ((IntKind.u64.wrap ((IntKind.u64.wrap (4294967296 + (rd a done.length))) - (rd b done.length))) - debt)) / 4294967296)) = nd := by
      have e : IntKind.u64.wrap ((IntKind.u64.wrap ((IntKind.u64.wrap (4294967296 + (rd a done.length))) - (rd b done.length))) - debt) = 4294967296 + rd a done.length - rd b done.length - debt := by
        simp only [w64]
        omega
      rw [e, and_low (by omega) (by omega)]
      simp only [w64]
      refine ⟨_, 1 - (4294967296 + rd a done.length - rd b done.length - debt) / 4294967296, ⟨Int.emod_nonneg _ (by decide), Int.emod_lt_of_pos _ (by decide)⟩, ?_, ?_, rfl, ?_⟩ <;> omega
    obtain ⟨y, nd, hy, hnd, hsum, e1, e2⟩ := hx
    refine Ev.step (fun k => ?_) (ih (done ++ [y]) nd (hd.append (Ok.cons hy Ok.nil)) (by simp; omega) hnd ?_)
    · simp only [nat_minus.l0]
      rw [if_pos (by omega), if_pos (by omega), if_pos (by omega), limb_eq b _ (by omega)]
      simp only [Option.bind_some]
      rw [if_pos (by simp; omega), e1, e2, wrap_id (by omega) (by omega), show ((done.length : Int)).toNat = done.length by omega, fill]
      simp
    · rw [List.length_append, List.length_singleton, va, vb, val_snoc_int done y hy, Int.pow_succ]
      have : (4294967296 : Int) ^ done.length * (rd a done.length + 4294967296 * nd) = 4294967296 ^ done.length * (y + rd b done.length + debt) := by rw [hsum]
      simp only [Int.mul_add] at this
      rw [← Int.mul_assoc] at this
      omega
theorem minus_ev (a b : List Int) (ha : Ok a) (hb : Ok b) (hn : a.length ≤ 35184372088832) (hle : val b ≤ val a) : Ev (fun k => nat_minus.f k a b) (lm (val a - val b)) := by
  have h := minus_loop a b ha hb hn hle a.length [] 0 Ok.nil (by simp) (Or.inl rfl) (by simp [val])
  refine Ev.congr (fun k => ?_) h
  unfold nat_minus.f
  rw [if_pos (by omega), show ((a.length : Int)).toNat = a.length by omega]
  simp only [Option.bind_some, List.length_replicate]
  rfl

theorem small_loop (a : List Int) (ha : Ok a) (hn : a.length ≤ 35184372088832) (dv : Int) (h0 : 0 < dv) (h1 : dv < 4294967296) : ∀ (n : Nat) (done : List Int) (rest : Int), Ok done → done.length + n = a.length → 0 ≤ rest → rest < dv →
    (val (a.drop n) : Int) = dv * val done + rest →
    Ev (fun k => nat_small.l0 k a dv (List.replicate n 0 ++ done) rest ((n : Int) - 1)) (lm (val a / dv.toNat), ((val a % dv.toNat : Nat) : Int)) := by
  intro n
  induction n with
  | zero =>
    intro done rest hd hl hr0 hr1 hv
    obtain ⟨dn, rfl⟩ : ∃ m : Nat, dv = m := ⟨dv.toNat, by omega⟩
    obtain ⟨rn, rfl⟩ : ∃ m : Nat, rest = m := ⟨rest.toNat, by omega⟩
    rw [List.drop_zero] at hv
    have hv' : val a = dn * val done + rn := by omega
    have hq : val a / dn = val done := by
      rw [hv', Nat.mul_add_div (by omega), Nat.div_eq_of_lt (by omega)]
      omega
    have hm : val a % dn = rn := by rw [hv', Nat.mul_add_mod, Nat.mod_eq_of_lt (by omega)]
    rw [Int.toNat_natCast, hq, hm]
    refine Ev.step (f := fun k => (nat_trim.f k done).bind fun t => some (t, (rn : Int))) (fun k => ?_) (Ev.bind (trim_ev done hd (by omega)) (Ev.now _))
    simp only [nat_small.l0]
    rw [if_neg (by omega)]
    rfl
  | succ m ih =>
    intro done rest hd hl hr0 hr1 hv
    have ra := rd_ok ha (m : Int)
    have da := val_drop a m (by omega)
    rw [Int.emod_eq_of_lt ra.1 ra.2] at da
    have e : ((m + 1 : Nat) : Int) - 1 = (m : Int) := by omega
    have eo := or_sum (x := rest) (y := rd a m) hr0 (by omega) ra.1 ra.2
    have hx0 : 0 ≤ rest * 4294967296 + rd a m := by omega
    have hq1 : (rest * 4294967296 + rd a m) / dv < 4294967296 := by
      apply Int.ediv_lt_of_lt_mul h0
      have : (rest + 1) * 4294967296 ≤ dv * 4294967296 := Int.mul_le_mul_of_nonneg_right (by omega) (by decide)
      omega
    have hq0 : 0 ≤ (rest * 4294967296 + rd a m) / dv := Int.ediv_nonneg hx0 (by omega)
    have ht : Int.tdiv (rest * 4294967296 + rd a m) dv = (rest * 4294967296 + rd a m) / dv := Int.tdiv_eq_ediv_of_nonneg hx0
    have hm : Int.tmod (rest * 4294967296 + rd a m) dv = (rest * 4294967296 + rd a m) % dv := Int.tmod_eq_emod_of_nonneg hx0
    have hs := Int.mul_ediv_add_emod (rest * 4294967296 + rd a m) dv
    refine Ev.step (fun k => ?_) (ih ((rest * 4294967296 + rd a m) / dv :: done) ((rest * 4294967296 + rd a m) % dv) (Ok.cons ⟨hq0, hq1⟩ hd) (by simp; omega) (Int.emod_nonneg _ (by omega)) (Int.emod_lt_of_pos _ h0) ?_)
    · simp only [nat_small.l0]
      rw [e, if_pos (by omega), if_pos (by omega), if_neg (by omega), if_pos (by simp; omega), eo, ht, hm, wrap_id (by omega) (by omega), w64, Int.emod_eq_of_lt hq0 (by omega), show ((m : Int)).toNat = m by omega, fillr]
    · rw [da, val_cons]
      rw [Int.emod_eq_of_lt hq0 hq1]
      have : dv * (((rest * 4294967296 + rd a m) / dv) + 4294967296 * val done) = dv * ((rest * 4294967296 + rd a m) / dv) + 4294967296 * (dv * val done) := by rw [Int.mul_add, ← Int.mul_assoc, Int.mul_comm dv 4294967296, Int.mul_assoc]
      have e3 : (((((rest * 4294967296 + rd a m) / dv).toNat + 4294967296 * val done : Nat)) : Int) = ((rest * 4294967296 + rd a m) / dv) + 4294967296 * val done := by omega
      rw [e3, this]
      omega
theorem small_ev (a : List Int) (ha : Ok a) (hn : a.length ≤ 35184372088832) (d : Nat) (h0 : 0 < d) (h1 : d < 4294967296) : Ev (fun k => nat_small.f k a (d : Int)) (lm (val a / d), ((val a % d : Nat) : Int)) := by
  have h := small_loop a ha hn (d : Int) (by omega) (by omega) a.length [] 0 Ok.nil (by simp) (by omega) (by omega) (by simp [val])
  rw [Int.toNat_natCast] at h
  refine Ev.congr (fun k => ?_) h
  unfold nat_small.f
  rw [if_pos (by omega), show ((a.length : Int)).toNat = a.length by omega, wrap_id (by omega) (by omega), List.append_nil]


end Go.DI.Th
namespace Go.DI.Th
open Go Go.RowKit Go.DI

theorem rd_at (a : List Int) (x : Int) (b : List Int) : rd (a ++ x :: b) (a.length : Int) = x := by
  rw [rd_nat, List.getD_eq_getElem?_getD, List.getElem?_append_right (Nat.le_refl _), Nat.sub_self]
  rfl
theorem set_at (a : List Int) (x : Int) (b : List Int) (y : Int) : (a ++ x :: b).set a.length y = a ++ y :: b := by
  rw [List.set_append_right _ _ (Nat.le_refl _), Nat.sub_self]
  rfl
theorem val_append_int (a b : List Int) : (val (a ++ b) : Int) = val a + 4294967296 ^ a.length * val b := by
  rw [val_append, Int.natCast_add, Int.natCast_mul, Int.natCast_pow]
  rfl
theorem ar1 (p vD c vM x vB m b y z : Int) (hv : vD + p * c = vM + x * vB) (hx : 4294967296 * z + y = c + m + x * b) :
    vD + p * y + p * 4294967296 * z = vM + p * m + x * (vB + p * b) := by grind
theorem ar2 (p q vL vD c vM x vB vP vA : Int) (h1 : vP = vL + p * vM) (hv : vP = vA * vB) (h2 : vD + q * c = vM + x * vB) : vL + p * vD + p * q * c = (vA + p * x) * vB := by grind
theorem ar3 (p t vD c vA x y z : Nat) (hv : vD + p * c = vA * t) (hs : y + 4294967296 * z = c + x * t) : vD + p * y + p * 4294967296 * z = (vA + p * x) * t := by grind
theorem ar4 (p q r : Nat) : p * (4294967296 * (q * r)) = (p * q) * (4294967296 * r) := by grind
theorem mul_inner (a b : List Int) (ha : Ok a) (hb : Ok b) (hn : a.length + b.length ≤ 35184372088832) (i : Nat) (hi : i < a.length) (L mid : List Int) (hL : L.length = i) (hm : Ok mid) (hml : mid.length = b.length) (Z : List Int) (hZ : Z.length = a.length - i)
    (r : List Int)
    (cont : ∀ D c, Ok D → (0 ≤ c ∧ c < 4294967296) → D.length = b.length → (val D : Int) + 4294967296 ^ b.length * c = val mid + rd a i * val b →
      Ev (fun k => nat_Mul.l0 k b ((L ++ D ++ Z).set (i + b.length) c) a (a.length : Int) ((i : Int) + 1)) r) (d : Nat) :
    ∀ (D : List Int) (c : Int), Ok D → (0 ≤ c ∧ c < 4294967296) → D.length + d = b.length → (val D : Int) + 4294967296 ^ D.length * c = val (mid.take D.length) + rd a i * val (b.take D.length) →
    Ev (fun k => nat_Mul.l1 k b (L ++ D ++ mid.drop D.length ++ Z) i (rd a i) c a (a.length : Int) (i : Int) b (b.length : Int) (D.length : Int)) r := by
  have ra := rd_ok ha (i : Int)
  induction d with
  | zero =>
    intro D c hD hc hl hv
    have hl' : D.length = b.length := by omega
    have h := cont D c hD hc hl' (by
      rw [hl', List.take_of_length_le (by omega), List.take_length] at hv
      exact hv)
    refine Ev.step (fun k => ?_) h
    simp only [nat_Mul.l1]
    have hlen : (L ++ D ++ mid.drop D.length ++ Z).length = i + b.length + (a.length - i) := by simp; omega
    rw [if_neg (by omega), wrap_id (by omega) (by omega), if_pos (by omega), if_pos (by rw [hlen]; omega), wrap_id (by omega) (by omega)]
    rw [List.drop_of_length_le (by omega), List.append_nil, show ((i : Int) + (b.length : Int)).toNat = i + b.length by omega]
  | succ d ih =>
    intro D c hD hc hl hv
    have rb := rd_ok hb (D.length : Int)
    have rm := rd_ok hm (D.length : Int)
    have vb := val_take_rd b hb D.length
    have vm := val_take_rd mid hm D.length
    have hdrop := drop_rd mid D.length (by omega)
    have hsum0 : 0 ≤ rd a i * rd b D.length := Int.mul_nonneg ra.1 rb.1
    have hsum1 : rd a i * rd b D.length ≤ 4294967295 * 4294967295 := Int.mul_le_mul (by omega) (by omega) rb.1 (by omega)
    have hread : rd (L ++ D ++ mid.drop D.length ++ Z) ((i : Int) + (D.length : Int)) = rd mid D.length := by
      rw [hdrop, List.append_assoc, List.cons_append]
      have := rd_at (L ++ D) (rd mid D.length) (mid.drop (D.length + 1) ++ Z)
      rw [List.length_append, hL] at this
      rw [show (i : Int) + (D.length : Int) = ((i + D.length : Nat) : Int) by omega]
      exact this
    have hset : ∀ y, (L ++ D ++ mid.drop D.length ++ Z).set (i + D.length) y = L ++ (D ++ [y]) ++ mid.drop (D ++ [y]).length ++ Z := by
      intro y
      rw [hdrop, List.append_assoc, List.cons_append]
      have := set_at (L ++ D) (rd mid D.length) (mid.drop (D.length + 1) ++ Z) y
      rw [List.length_append, hL] at this
      rw [this]
      simp
    have hlen : (L ++ D ++ mid.drop D.length ++ Z).length = i + b.length + (a.length - i) := by simp; omega
    have et : IntKind.u64.wrap (c + (IntKind.u64.wrap (rd mid D.length + (IntKind.u64.wrap (rd a i * rd b D.length))))) = c + rd mid D.length + rd a i * rd b D.length := by
      simp only [w64]
      omega
    refine Ev.step (fun k => ?_) (ih (D ++ [(c + rd mid D.length + rd a i * rd b D.length) % 4294967296]) ((c + rd mid D.length + rd a i * rd b D.length) / 4294967296) (hD.append (Ok.cons ⟨Int.emod_nonneg _ (by decide), Int.emod_lt_of_pos _ (by decide)⟩ Ok.nil)) (by omega) (by simp; omega) ?_)
    · simp only [nat_Mul.l1]
      rw [if_pos (by omega), if_pos (by omega), if_pos (by omega), wrap_id (i := (i : Int) + (D.length : Int)) (by omega) (by omega), if_pos (by omega), if_pos (by rw [hlen]; omega), wrap_id (i := (D.length : Int) + 1) (by omega) (by omega), hread, et, and_low (by omega) (by omega), show ((i : Int) + (D.length : Int)).toNat = i + D.length by omega, hset]
      simp
    · rw [List.length_append, List.length_singleton, vb, vm, val_snoc_int D _ ⟨Int.emod_nonneg _ (by decide), Int.emod_lt_of_pos _ (by decide)⟩, Int.pow_succ]
      have hx := Int.mul_ediv_add_emod (c + rd mid D.length + rd a i * rd b D.length) 4294967296
      exact ar1 _ _ _ _ _ _ _ _ _ _ hv hx

theorem mul_outer (a b : List Int) (ha : Ok a) (hb : Ok b) (hn : a.length + b.length ≤ 35184372088832) (d : Nat) : ∀ (i : Nat) (P : List Int), Ok P → i + d = a.length → P.length = i + b.length → (val P : Int) = val (a.take i) * val b →
    Ev (fun k => nat_Mul.l0 k b (P ++ List.replicate d 0) a (a.length : Int) (i : Int)) (lm (val a * val b)) := by
  induction d with
  | zero =>
    intro i P hP hi hl hv
    obtain rfl : i = a.length := by omega
    rw [List.take_length] at hv
    have hv' : val P = val a * val b := by
      have : ((val P : Nat) : Int) = ((val a * val b : Nat) : Int) := by rw [hv, Int.natCast_mul]
      omega
    refine Ev.step (f := fun k => (nat_trim.f k P).bind fun t => some t) (fun k => ?_) (Ev.bind ?_ (Ev.now _))
    · simp only [nat_Mul.l0]
      rw [if_neg (by omega)]
      simp
    · have := trim_ev P hP (by omega)
      rwa [hv'] at this
  | succ d ih =>
    intro i P hP hi hl hv
    have ra := rd_ok ha (i : Int)
    have va := val_take_rd a ha i
    have hmid : Ok (P.drop i) := hP.drop i
    have hsplit := val_append_int (P.take i) (P.drop i)
    rw [List.take_append_drop, List.length_take, Nat.min_eq_left (by omega)] at hsplit
    refine Ev.step (f := fun k => nat_Mul.l1 k b (P ++ List.replicate (d + 1) 0) i (rd a i) 0 a (a.length : Int) (i : Int) b (b.length : Int) 0) (fun k => ?_) ?_
    · simp only [nat_Mul.l0]
      rw [if_pos (by omega), if_pos (by omega), if_pos (by omega)]
    · have h := mul_inner a b ha hb hn i (by omega) (P.take i) (P.drop i) (by rw [List.length_take]; omega) hmid (by rw [List.length_drop]; omega) (List.replicate (d + 1) 0) (by rw [List.length_replicate]; omega) (lm (val a * val b)) (by
        intro D c hD hc hDl hDv
        have hlen : (P.take i ++ D).length = i + b.length := by rw [List.length_append, List.length_take, hDl]; omega
        have := ih (i + 1) (P.take i ++ D ++ [c]) (((hP.take i).append hD).append (Ok.cons hc Ok.nil)) (by omega) (by rw [List.length_append, hlen]; simp; omega) (by
          rw [val_snoc_int _ c hc, hlen, val_append_int, List.length_take, Nat.min_eq_left (by omega), va, Int.pow_add]
          exact ar2 _ _ _ _ _ _ _ _ _ _ hsplit hv hDv)
        refine Ev.congr (fun k => ?_) this
        have hs := fill (P.take i ++ D) d c
        rw [hlen] at hs
        rw [hs]
        rfl) b.length [] 0 Ok.nil (by omega) (by simp) (by simp [val])
      refine Ev.congr (fun k => ?_) h
      simp
theorem mulL_ev (a b : List Int) (ha : Ok a) (hb : Ok b) (hn : a.length + b.length ≤ 35184372088832) :
    Ev (fun k => nat_Mul.l0 k b (List.replicate (a.length + b.length) 0) a (a.length : Int) 0) (lm (val a * val b)) := by
  have h := mul_outer a b ha hb hn a.length 0 (List.replicate b.length 0) (Ok.zeros _) (by omega) (by simp) (by rw [val_zeros]; simp [val])
  refine Ev.congr (fun k => ?_) h
  rw [List.replicate_append_replicate, Nat.add_comm]
  rfl
theorem mul_ev (a b : List Int) (ha : U a) (hb : U b) (hn : a.length + b.length ≤ 35184372088832) : Ev (fun k => nat_Mul.f k a b) (lm (val a * val b)) := by
  have h := mulL_ev (lm (val a)) (lm (val b)) (lm_ok _) (lm_ok _) (by
    have := val_len a
    have := val_len b
    rw [lm_length, lm_length]; omega)
  rw [val_lm, val_lm] at h
  refine Ev.bind (clean_ev a ha (by omega)) (Ev.bind (clean_ev b hb (by omega)) ?_)
  have h1 := val_len a
  have h2 := val_len b
  refine Ev.congr (fun k => ?_) h
  have e : wrap64 (((lm (val a)).length : Int) + ((lm (val b)).length : Int)) = (((lm (val a)).length + (lm (val b)).length : Nat) : Int) := by
    rw [wrap_id (by rw [lm_length, lm_length]; omega) (by rw [lm_length, lm_length]; omega)]; omega
  rw [e, if_pos (by omega), if_pos (by rw [lm_length, lm_length]; omega), Int.toNat_natCast]

theorem shl_small {x : Int} (hx : 0 ≤ x ∧ x < 4294967296) (s : Nat) (hs : s < 32) : shl .u64 x (s : Int) = x * 2 ^ s := by
  unfold shl shlI
  have e : min ((s : Int)).toNat (IntKind.u64.bits) = s := by
    have : IntKind.u64.bits = 64 := rfl
    rw [this, Int.toNat_natCast]; omega
  rw [e, w64]
  have h1 : (2 : Int) ^ s ≤ 2 ^ 31 := by
    have := Nat.pow_le_pow_right (n := 2) (by decide) (show s ≤ 31 by omega)
    have h2 : ((2 ^ s : Nat) : Int) ≤ ((2 ^ 31 : Nat) : Int) := by omega
    rwa [Int.natCast_pow, Int.natCast_pow] at h2
  have h0 : (0 : Int) ≤ 2 ^ s := Int.le_of_lt (Int.pow_pos (by decide))
  have h3 : x * 2 ^ s ≤ 4294967295 * 2 ^ 31 := Int.mul_le_mul (by omega) h1 h0 (by decide)
  have h4 : 0 ≤ x * 2 ^ s := Int.mul_nonneg hx.1 h0
  omega
theorem or_low (s q c : Nat) (hc : c < 2 ^ s) (h : 2 ^ s * q + c < 18446744073709551616) : Go.bits .or .u64 (c : Int) ((2 ^ s * q : Nat) : Int) = ((2 ^ s * q + c : Nat) : Int) := by
  rw [bits_or_u64_nat c _ (by omega) (by omega), Nat.or_comm, ← Nat.two_pow_add_eq_or_of_lt hc q]
theorem shl_step (x c s : Nat) (hx : x < 4294967296) (hs : s < 32) (hc : c < 2 ^ s) : ∃ y z : Nat, y < 4294967296 ∧ z < 2 ^ s ∧ y + 4294967296 * z = c + x * 2 ^ s ∧
    Go.bits .or .u64 (c : Int) (Go.bits .and .u64 (shl .u64 (x : Int) (s : Int)) 4294967295) = y ∧ shl .u64 (x : Int) (s : Int) / 4294967296 = z := by
  rw [shl_small (x := (x : Int)) (by omega) s hs]
  have hp : 2 ^ s * 2 ^ (32 - s) = 4294967296 := by rw [← Nat.pow_add, show s + (32 - s) = 32 by omega]
  have e : (x : Int) * 2 ^ s = ((x * 2 ^ s : Nat) : Int) := by rw [Int.natCast_mul, Int.natCast_pow]; rfl
  have hps : 0 < 2 ^ s := Nat.pow_pos (by decide)
  have hxs : x * 2 ^ s < 4294967296 * 2 ^ s := Nat.mul_lt_mul_of_pos_right hx hps
  have h31 : 2 ^ s ≤ 2147483648 := by
    have := Nat.pow_le_pow_right (n := 2) (by decide) (show s ≤ 31 by omega)
    simpa using this
  have hm : x * 2 ^ s % 4294967296 = 2 ^ s * (x % 2 ^ (32 - s)) := by rw [← hp, Nat.mul_comm x, Nat.mul_mod_mul_left]
  have hlt : x % 2 ^ (32 - s) < 2 ^ (32 - s) := Nat.mod_lt _ (Nat.pow_pos (by decide))
  have hle : 2 ^ s * (x % 2 ^ (32 - s) + 1) ≤ 4294967296 := by rw [← hp]; exact Nat.mul_le_mul_left _ hlt
  rw [Nat.mul_add] at hle
  rw [e, and_low (by omega) (by omega), show ((x * 2 ^ s : Nat) : Int) % 4294967296 = ((x * 2 ^ s % 4294967296 : Nat) : Int) by omega, hm, or_low s _ c hc (by omega)]
  refine ⟨_, x * 2 ^ s / 4294967296, ?_, ?_, ?_, rfl, by omega⟩
  · omega
  · rw [Nat.div_lt_iff_lt_mul (by decide), Nat.mul_comm (2 ^ s)]; exact hxs
  · rw [← hm]; omega

theorem wr_add (n w : Nat) (h : w + n ≤ 1125899906842624) : wrap64 ((n : Int) + (w : Int)) = ((w + n : Nat) : Int) := by
  rw [wrap_id (by omega) (by omega)]; omega
theorem wr_one (m : Nat) (h : m ≤ 1125899906842624) : wrap64 ((m : Int) + 1) = (m : Int) + 1 := wrap_id (by omega) (by omega)
def ShlInv (a D : List Int) (c s : Nat) : Prop := val D + 4294967296 ^ D.length * c = val (a.take D.length) * 2 ^ s
def ShlC (c s : Nat) : Prop := c < 2 ^ s
theorem ShlC.lt {c s : Nat} (h : ShlC c s) (hs : s < 32) : c < 4294967296 := by
  have := Nat.pow_le_pow_right (n := 2) (by decide) (show s ≤ 31 by omega)
  have h' : c < 2 ^ s := h
  have e : (2 : Nat) ^ 31 = 2147483648 := rfl
  omega
theorem shl_next (a D : List Int) (hi : D.length < a.length) (ha : Ok a) (x c y z s : Nat) (hx : rd a (D.length : Int) = x) (hy : y < 4294967296) (hv : ShlInv a D c s) (hsum : y + 4294967296 * z = c + x * 2 ^ s) : ShlInv a (D ++ [(y : Int)]) z s := by
  have ra := rd_ok ha (D.length : Int)
  have va := val_take_succ a D.length hi
  rw [Int.emod_eq_of_lt ra.1 ra.2, hx, Int.toNat_natCast] at va
  unfold ShlInv at hv ⊢
  rw [List.length_append, List.length_singleton, va, val_snoc, Nat.pow_succ]
  have : ((y : Int) % 4294967296).toNat = y := by clear hv hsum va; omega
  rw [this]
  exact ar3 _ _ _ _ _ _ _ _ hv hsum
theorem shl_end (a D : List Int) (w c s : Nat) (hl : D.length = a.length) (hc : c < 4294967296) (hv : ShlInv a D c s) : val (List.replicate w 0 ++ D ++ [(c : Int)]) = 4294967296 ^ w * (val a * 2 ^ s) := by
  unfold ShlInv at hv
  rw [hl, List.take_length] at hv
  rw [List.append_assoc, val_append, val_zeros, List.length_replicate, val_snoc, hl, ← hv]
  have : ((c : Int) % 4294967296).toNat = c := by clear hv; omega
  rw [this, Nat.zero_add]
theorem shl_loop (a : List Int) (ha : Ok a) (w s : Nat) (hs : s < 32) (hn : a.length + w ≤ 35184372088830) (d : Nat) : ∀ (D : List Int) (c : Nat), Ok D → ShlC c s → D.length + d = a.length → ShlInv a D c s →
    Ev (fun k => nat_shl.l0 k (w : Int) (s : Int) (List.replicate w 0 ++ D ++ (c : Int) :: List.replicate d 0) a (a.length : Int) (D.length : Int)) (lm (4294967296 ^ w * (val a * 2 ^ s))) := by
  induction d with
  | zero =>
    intro D c hD hc hl hv
    have hc' := hc.lt hs
    have hok : Ok (List.replicate w 0 ++ D ++ [(c : Int)]) := ((Ok.zeros w).append hD).append (Ok.cons (by omega) Ok.nil)
    have hlen : (List.replicate w 0 ++ D ++ [(c : Int)]).length = w + D.length + 1 := by simp; omega
    have ht := trim_ev _ hok (by omega)
    rw [shl_end a D w c s (by omega) hc' hv] at ht
    refine Ev.step (f := fun k => (nat_trim.f k (List.replicate w 0 ++ D ++ [(c : Int)])).bind fun t => some t) (fun k => ?_) (Ev.bind ht (Ev.now _))
    simp only [nat_shl.l0, trimM_eq]
    rw [if_neg (by omega)]
    rfl
  | succ d ih =>
    intro D c hD hc hl hv
    have ra := rd_ok ha (D.length : Int)
    obtain ⟨x, hx⟩ : ∃ x : Nat, rd a (D.length : Int) = x := ⟨(rd a (D.length : Int)).toNat, by omega⟩
    have hxlt : x < 4294967296 := by omega
    have hlen : (List.replicate w (0 : Int) ++ D).length = w + D.length := by rw [List.length_append, List.length_replicate]
    have hall : (List.replicate w (0 : Int) ++ D ++ (c : Int) :: List.replicate (d + 1) 0).length = w + D.length + 1 + (d + 1) := by rw [List.length_append, hlen, List.length_cons, List.length_replicate]; omega
    have g1 : w + D.length ≤ 1125899906842624 := by omega
    have g2 : D.length ≤ 1125899906842624 := by omega
    have g3 : D.length < a.length := by omega
    have c1 : (D.length : Int) < (a.length : Int) := by omega
    have c2 : 0 ≤ (D.length : Int) := by omega
    have c3 : 0 ≤ (s : Int) := by omega
    have c4 : 0 ≤ ((w + D.length : Nat) : Int) := by omega
    have c5 : ((w + D.length : Nat) : Int) < ((List.replicate w (0 : Int) ++ D ++ (c : Int) :: List.replicate (d + 1) 0).length : Int) := by omega
    have c6 : 0 ≤ ((w + D.length + 1 : Nat) : Int) := by omega
    have c7 : ((w + D.length + 1 : Nat) : Int) < ((List.replicate w (0 : Int) ++ D ++ (c : Int) :: List.replicate (d + 1) 0).length : Int) := by omega
    have hdl : ∀ y : Int, (D ++ [y]).length + d = a.length := fun y => by rw [List.length_append, List.length_singleton]; omega
    have hread : rd (List.replicate w 0 ++ D ++ (c : Int) :: List.replicate (d + 1) 0) ((w + D.length : Nat) : Int) = (c : Int) := by
      have := rd_at (List.replicate w 0 ++ D) (c : Int) (List.replicate (d + 1) 0)
      rwa [hlen] at this
    obtain ⟨y, z, hy, hz, hsum, e1, e2⟩ := shl_step x c s hxlt hs hc
    have hnext := shl_next a D g3 ha x c y z s hx hy hv hsum
    have hylt : (0 : Int) ≤ (y : Int) ∧ (y : Int) < 4294967296 := by clear e1 e2 hsum hread hx ra; omega
    have ew := wr_add D.length w g1
    have ew1 := wr_succ (w + D.length) g1
    have ew2 := wr_succ D.length g2
    have s1 := set_at (List.replicate w 0 ++ D) (c : Int) (List.replicate (d + 1) 0) (y : Int)
    rw [hlen] at s1
    have s2 := set_at (List.replicate w 0 ++ D ++ [(y : Int)]) 0 (List.replicate d 0) (z : Int)
    rw [List.length_append, hlen, List.length_singleton] at s2
    have s3 : List.replicate w 0 ++ D ++ (y : Int) :: List.replicate (d + 1) 0 = List.replicate w 0 ++ D ++ [(y : Int)] ++ 0 :: List.replicate d 0 := by rw [List.replicate_succ, List.append_assoc (List.replicate w 0 ++ D)]; rfl
    refine Ev.step (fun k => ?_) (ih (D ++ [(y : Int)]) z (hD.append (Ok.cons hylt Ok.nil)) hz (hdl _) hnext)
    simp only [nat_shl.l0, List.length_set]
    rw [ew, ew1, ew2, if_pos c1, if_pos c2, if_pos c1, if_pos c3, if_pos c4, if_pos c5, if_pos c6, if_pos c7, hread, hx, e1, e2, Int.toNat_natCast, Int.toNat_natCast, s1, s3, s2, List.length_append, List.length_singleton, ← List.append_assoc]
theorem shl_ev (a : List Int) (ha : Ok a) (n : Nat) (hn : a.length + n ≤ 35184372088830) : Ev (fun k => nat_shl.f k a (n : Int)) (lm (val a * 2 ^ n)) := by
  have h := shl_loop a ha (n / 32) (n % 32) (Nat.mod_lt _ (by decide)) (by omega) a.length [] 0 Ok.nil (Nat.pow_pos (by decide)) (by simp) (by simp [val, ShlInv])
  have e : 4294967296 ^ (n / 32) * (val a * 2 ^ (n % 32)) = val a * 2 ^ n := by
    have : (4294967296 : Nat) ^ (n / 32) * 2 ^ (n % 32) = 2 ^ n := by
      rw [show (4294967296 : Nat) = 2 ^ 32 from rfl, ← Nat.pow_mul, ← Nat.pow_add]
      congr 1
      omega
    rw [Nat.mul_left_comm, this]
  rw [e] at h
  refine Ev.congr (fun k => ?_) h
  unfold nat_shl.f
  have t1 : wrap64 (Int.tdiv (n : Int) 32) = ((n / 32 : Nat) : Int) := by rw [show Int.tdiv (n : Int) 32 = ((n / 32 : Nat) : Int) from rfl, wrap_id (by omega) (by omega)]
  have t2 : Int.tmod (n : Int) 32 = ((n % 32 : Nat) : Int) := rfl
  rw [t1, t2, wrap_id (i := (a.length : Int) + _) (by omega) (by omega), wrap_id (by omega) (by omega), if_pos (by omega), if_pos (by omega)]
  have e3 : ((a.length : Int) + ((n / 32 : Nat) : Int) + 1).toNat = n / 32 + (a.length + 1) := by omega
  rw [e3, ← List.replicate_append_replicate, List.replicate_succ]
  simp

theorem shr_small {x : Int} (s : Nat) (hs : s < 32) : shr .u64 x (s : Int) = x / 2 ^ s := by
  unfold shr shrI
  have e : min ((s : Int)).toNat (IntKind.u64.bits) = s := by
    have : IntKind.u64.bits = 64 := rfl
    rw [this, Int.toNat_natCast]; omega
  rw [e]
theorem drop_two (a : List Int) (ha : Ok a) (j : Nat) : ∃ r : Nat, val (a.drop j) = (rd a (j : Int)).toNat + 4294967296 * (rd a ((j : Int) + 1)).toNat + 18446744073709551616 * r := by
  have r0 := rd_ok ha (j : Int)
  have r1 := rd_ok ha ((j : Int) + 1)
  by_cases h : j < a.length
  · have d0 := val_drop a j h
    rw [Int.emod_eq_of_lt r0.1 r0.2] at d0
    by_cases h1 : j + 1 < a.length
    · have d1 := val_drop a (j + 1) h1
      have e : ((j + 1 : Nat) : Int) = (j : Int) + 1 := by omega
      rw [e, Int.emod_eq_of_lt r1.1 r1.2] at d1
      refine ⟨val (a.drop (j + 1 + 1)), ?_⟩
      rw [d0, d1]
      omega
    · refine ⟨0, ?_⟩
      have d1 : val (a.drop (j + 1)) = 0 := by rw [List.drop_of_length_le (by omega)]; rfl
      rw [d0, d1, rd_beyond a ((j : Int) + 1) (by omega)]
      rfl
  · refine ⟨0, ?_⟩
    rw [List.drop_of_length_le (by omega), rd_beyond a _ (by omega), rd_beyond a _ (by omega)]
    rfl
theorem shr_limb (X s : Nat) (x t r : Nat) (hs : s < 32) (hX : X = x + 4294967296 * t + 18446744073709551616 * r) : X / 2 ^ s % 4294967296 = (x + 4294967296 * t) / 2 ^ s % 4294967296 := by
  have hp : 2 ^ s * 2 ^ (32 - s) = 4294967296 := by rw [← Nat.pow_add, show s + (32 - s) = 32 by omega]
  have e : X = (x + 4294967296 * t) + 2 ^ s * (4294967296 * (2 ^ (32 - s) * r)) := by
    rw [hX, ar4, hp, ← Nat.mul_assoc]
  rw [e, Nat.add_mul_div_left _ _ (Nat.pow_pos (by decide)), Nat.add_mul_mod_self_left]
def ShrInv (X s : Nat) (D : List Int) : Prop := val D = X / 2 ^ s % 4294967296 ^ D.length
def shrl (X s : Nat) : Nat := X / 2 ^ s % 4294967296
theorem shrl_lt (X s : Nat) : shrl X s < 4294967296 := Nat.mod_lt _ (by decide)
theorem shr_step (a : List Int) (ha : Ok a) (j s : Nat) (hs : s < 32) :
    Go.bits .and .u64 (shr .u64 (Go.bits .or .u64 (IntKind.u64.wrap (rd a ((j : Int) + 1) * 4294967296)) (rd a (j : Int))) (s : Int)) 4294967295 = ((shrl (val (a.drop j)) s : Nat) : Int) := by
  have r0 := rd_ok ha (j : Int)
  have r1 := rd_ok ha ((j : Int) + 1)
  obtain ⟨r, hr⟩ := drop_two a ha j
  unfold shrl
  rw [shr_limb _ s _ _ r hs hr, or_sum r1.1 r1.2 r0.1 r0.2, shr_small s hs]
  have hb : (rd a ((j : Int) + 1) * 4294967296 + rd a (j : Int)) = (((rd a (j : Int)).toNat + 4294967296 * (rd a ((j : Int) + 1)).toNat : Nat) : Int) := by clear hr; omega
  have hlt : (rd a (j : Int)).toNat + 4294967296 * (rd a ((j : Int) + 1)).toNat < 18446744073709551616 := by clear hr; omega
  clear hr
  rw [hb]
  generalize (rd a (j : Int)).toNat + 4294967296 * (rd a ((j : Int) + 1)).toNat = z at hlt ⊢
  have hq : (z : Int) / 2 ^ s = ((z / 2 ^ s : Nat) : Int) := by rw [Int.natCast_ediv, Int.natCast_pow]; rfl
  have hle : z / 2 ^ s ≤ z := Nat.div_le_self _ _
  rw [hq]
  generalize z / 2 ^ s = y at hle ⊢
  rw [and_low (by omega) (by omega)]
  omega
theorem drop_more (a : List Int) (w n : Nat) (h : w + n ≤ a.length) : val (a.drop (w + n)) = val (a.drop w) / 4294967296 ^ n := by
  rw [← List.drop_drop]
  have h1 := split_at (a.drop w) n
  have h2 := val_lt ((a.drop w).take n)
  have h3 : ((a.drop w).take n).length = n := by rw [List.length_take, List.length_drop]; omega
  rw [h3] at h1 h2
  rw [h1, Nat.add_mul_div_left _ _ (Nat.pow_pos (by decide)), Nat.div_eq_of_lt h2, Nat.zero_add]
theorem shr_next (a : List Int) (w s : Nat) (D : List Int) (h : w + D.length ≤ a.length) (hv : ShrInv (val (a.drop w)) s D) : ShrInv (val (a.drop w)) s (D ++ [((shrl (val (a.drop (w + D.length))) s : Nat) : Int)]) := by
  have hlt := shrl_lt (val (a.drop (w + D.length))) s
  unfold ShrInv at hv ⊢
  rw [List.length_append, List.length_singleton, val_snoc, hv, Nat.pow_succ]
  have e2 : ((((shrl (val (a.drop (w + D.length))) s : Nat) : Int)) % 4294967296).toNat = shrl (val (a.drop (w + D.length))) s := by clear hv; omega
  rw [e2]
  unfold shrl
  rw [drop_more a w _ h, Nat.div_div_eq_div_mul, Nat.mul_comm (4294967296 ^ D.length) (2 ^ s), ← Nat.div_div_eq_div_mul, Nat.mod_mul]
theorem shr_end (a : List Int) (w s : Nat) (D : List Int) (h : D.length = a.length - w) (hv : ShrInv (val (a.drop w)) s D) : val D = val (a.drop w) / 2 ^ s := by
  unfold ShrInv at hv
  have h1 := val_lt (a.drop w)
  rw [List.length_drop, ← h] at h1
  rw [hv, Nat.mod_eq_of_lt (Nat.lt_of_le_of_lt (Nat.div_le_self _ _) h1)]
theorem shr_loop (a : List Int) (ha : Ok a) (w s : Nat) (hs : s < 32) (hn : a.length ≤ 35184372088830) (hw : w ≤ a.length) (d : Nat) : ∀ (D : List Int), Ok D → D.length + d = a.length - w → ShrInv (val (a.drop w)) s D →
    Ev (fun k => nat_shr.l0 k a (w : Int) (s : Int) (D ++ List.replicate d 0) ((a.length - w : Nat) : Int) (D.length : Int)) (lm (val (a.drop w) / 2 ^ s)) := by
  induction d with
  | zero =>
    intro D hD hl hv
    have ht := trim_ev D hD (by omega)
    rw [shr_end a w s D (by omega) hv] at ht
    refine Ev.step (f := fun k => (nat_trim.f k D).bind fun t => some t) (fun k => ?_) (Ev.bind ht (Ev.now _))
    simp only [nat_shr.l0]
    rw [if_neg (by omega), List.replicate_zero, List.append_nil]
  | succ d ih =>
    intro D hD hl hv
    have g1 : w + D.length ≤ 1125899906842624 := by omega
    have g2 : D.length ≤ 1125899906842624 := by omega
    have g3 : w + D.length ≤ a.length := by omega
    have c1 : (D.length : Int) < ((a.length - w : Nat) : Int) := by omega
    have c2 : 0 ≤ ((w + D.length : Nat) : Int) := by omega
    have c3 : ((w + D.length : Nat) : Int) < (a.length : Int) := by omega
    have c4 : 0 ≤ (s : Int) := by omega
    have c5 : 0 ≤ (D.length : Int) := by omega
    have c6 : (D.length : Int) < ((D ++ List.replicate (d + 1) (0 : Int)).length : Int) := by rw [List.length_append, List.length_replicate]; omega
    have c7 : 0 ≤ ((w + D.length : Nat) : Int) + 1 := by omega
    have hdl : ∀ y : Int, (D ++ [y]).length + d = a.length - w := fun y => by rw [List.length_append, List.length_singleton]; omega
    have hy := shr_step a ha (w + D.length) s hs
    have hlt := shrl_lt (val (a.drop (w + D.length))) s
    have hnext := shr_next a w s D g3 hv
    have e0 := wr_add D.length w g1
    have e1 := wr_one (w + D.length) g1
    have e2 := wr_succ D.length g2
    generalize shrl (val (a.drop (w + D.length))) s = y at hy hlt hnext
    refine Ev.step (fun k => ?_) (ih (D ++ [(y : Int)]) (hD.append (Ok.cons ⟨Int.natCast_nonneg _, by clear hy e0 e1 e2; omega⟩ Ok.nil)) (hdl _) hnext)
    simp only [nat_shr.l0]
    rw [if_pos c1, e0, e1, limb_eq _ _ c7]
    simp only [Option.bind_some]
    rw [if_pos c2, if_pos c3, if_pos c4, if_pos c5, if_pos c6, hy, e2, Int.toNat_natCast, fill, List.length_append, List.length_singleton]
theorem shr_ev (a : List Int) (ha : Ok a) (n : Nat) (hn : a.length ≤ 35184372088830) (hn2 : n ≤ 9223372036854775807) : Ev (fun k => nat_shr.f k a (n : Int)) (lm (val a / 2 ^ n)) := by
  have t1 : wrap64 (Int.tdiv (n : Int) 32) = ((n / 32 : Nat) : Int) := by rw [show Int.tdiv (n : Int) 32 = ((n / 32 : Nat) : Int) from rfl, wrap_id (by omega) (by omega)]
  have t2 : Int.tmod (n : Int) 32 = ((n % 32 : Nat) : Int) := rfl
  have hpow : (2 : Nat) ^ n = 4294967296 ^ (n / 32) * 2 ^ (n % 32) := by
    rw [show (4294967296 : Nat) = 2 ^ 32 from rfl, ← Nat.pow_mul, ← Nat.pow_add]
    congr 1
    omega
  by_cases hw : a.length ≤ n / 32
  · have h0 : val a / 2 ^ n = 0 := by
      apply Nat.div_eq_of_lt
      rw [hpow]
      have h1 := val_lt a
      have h2 : 4294967296 ^ a.length ≤ 4294967296 ^ (n / 32) := Nat.pow_le_pow_right (by decide) hw
      have h3 : 0 < 2 ^ (n % 32) := Nat.pow_pos (by decide)
      have h4 : 4294967296 ^ (n / 32) * 1 ≤ 4294967296 ^ (n / 32) * 2 ^ (n % 32) := Nat.mul_le_mul_left _ h3
      omega
    rw [h0, lm_zero]
    refine Ev.congr (fun k => ?_) (Ev.now _)
    unfold nat_shr.f
    rw [t1, if_pos (by omega)]
  · have h := shr_loop a ha (n / 32) (n % 32) (Nat.mod_lt _ (by decide)) hn (by omega) (a.length - n / 32) [] Ok.nil (by simp) (by simp [val, Nat.mod_one, ShrInv])
    have hd : val (a.drop (n / 32)) = val a / 4294967296 ^ (n / 32) := by
      have h1 := split_at a (n / 32)
      have h2 := val_lt (a.take (n / 32))
      have h3 : (a.take (n / 32)).length = n / 32 := by rw [List.length_take]; omega
      rw [h3] at h1 h2
      conv => rhs; rw [h1]
      rw [Nat.add_mul_div_left _ _ (Nat.pow_pos (by decide)), Nat.div_eq_of_lt h2, Nat.zero_add]
    rw [hd, Nat.div_div_eq_div_mul, ← hpow] at h
    refine Ev.congr (fun k => ?_) h
    unfold nat_shr.f
    rw [t1, t2, if_neg (by omega), wrap_id (by omega) (by omega), if_pos (by omega), if_pos (by omega), show ((a.length : Int) - ((n / 32 : Nat) : Int)).toNat = a.length - n / 32 by omega]
    simp only [Option.bind_some, List.length_replicate]
    rfl


end Go.DI.Th
namespace Go.DI.Th
open Go Go.RowKit Go.DI

theorem tk1 (p vu dc vd t vv y dbt c u v dbt' c' : Int) (hv : vu + p * (dbt + c) = vd + t * vv) (h1 : u + 4294967296 * dbt' = y + dc + dbt) (h2 : 4294967296 * c' + dc = c + t * v) :
    (vu + p * u) + p * 4294967296 * (dbt' + c') = (vd + p * y) + t * (vv + p * v) := by grind
def TakeInv (u v : List Int) (t : Nat) (D : List Int) (c debt : Int) : Prop :=
  (val (u.take D.length) : Int) + 4294967296 ^ D.length * (debt + c) = val D + t * val (v.take D.length)
def CarryInv (v : List Int) (t n : Nat) (c : Int) : Prop := c = ((t * val (v.take n) / 4294967296 ^ n : Nat) : Int)
theorem carry_next (t V p x : Nat) (hV : V < p) : t * (V + p * x) / (p * 4294967296) = (t * V / p + t * x) / 4294967296 := by
  have hp : 0 < p := by omega
  rw [← Nat.div_div_eq_div_mul, Nat.mul_add, show t * (p * x) = p * (t * x) by rw [Nat.mul_left_comm], Nat.add_mul_div_left _ _ hp]
theorem carry_lt (t V p : Nat) (hV : V < p) (ht : t ≤ 4294967296) : t * V / p < 4294967296 := by
  rw [Nat.div_lt_iff_lt_mul (by omega)]
  have : t * V ≤ 4294967296 * V := Nat.mul_le_mul_right _ ht
  omega
theorem CarryInv.range {v : List Int} {t n : Nat} {c : Int} (h : CarryInv v t n c) (ht : t ≤ 4294967296) : 0 ≤ c ∧ c < 4294967296 := by
  have h1 := val_lt (v.take n)
  have hlt : val (v.take n) < 4294967296 ^ n := by
    have : 4294967296 ^ (v.take n).length ≤ 4294967296 ^ n := Nat.pow_le_pow_right (by decide) (by rw [List.length_take]; exact Nat.min_le_left _ _)
    exact Nat.lt_of_lt_of_le h1 this
  have := carry_lt t _ _ hlt ht
  unfold CarryInv at h
  rw [h]
  generalize t * val (v.take n) / 4294967296 ^ n = z at this
  omega
theorem val_take_rdN (l : List Int) (hl : Ok l) (i : Nat) : val (l.take (i + 1)) = val (l.take i) + 4294967296 ^ i * (rd l i).toNat := by
  by_cases h : i < l.length
  · have r := rd_ok hl (i : Int)
    have := val_take_succ l i h
    rwa [Int.emod_eq_of_lt r.1 r.2] at this
  · rw [List.take_of_length_le (by omega), List.take_of_length_le (by omega), rd_beyond l i (by omega)]
    rfl
theorem CarryInv.next {v : List Int} (hv : Ok v) {t n : Nat} {c : Int} (h : CarryInv v t n c) : CarryInv v t (n + 1) ((c + (t : Int) * rd v n) / 4294967296) := by
  have r := rd_ok hv (n : Int)
  have h1 := val_lt (v.take n)
  have hlt : val (v.take n) < 4294967296 ^ n := by
    have : 4294967296 ^ (v.take n).length ≤ 4294967296 ^ n := Nat.pow_le_pow_right (by decide) (by rw [List.length_take]; exact Nat.min_le_left _ _)
    exact Nat.lt_of_lt_of_le h1 this
  unfold CarryInv at h ⊢
  rw [val_take_rdN v hv n, Nat.pow_succ, carry_next _ _ _ _ hlt, h]
  obtain ⟨m, hm⟩ : ∃ m : Nat, rd v (n : Int) = m := ⟨(rd v (n : Int)).toNat, by clear h h1 hlt; omega⟩
  rw [hm, Int.toNat_natCast, ← Int.natCast_mul, ← Int.natCast_add]
  rfl
theorem take_limb (u v c debt t : Int) (hu : 0 ≤ u ∧ u < 4294967296) (hv : 0 ≤ v ∧ v < 4294967296) (hc : 0 ≤ c ∧ c < 4294967296) (hd : debt = 0 ∨ debt = 1) (ht : 0 ≤ t ∧ t ≤ 4294967296) :
    ∃ y dbt' lowc, (0 ≤ y ∧ y < 4294967296) ∧ (dbt' = 0 ∨ dbt' = 1) ∧ u + 4294967296 * dbt' = y + lowc + debt ∧ 4294967296 * ((c + t * v) / 4294967296) + lowc = c + t * v ∧
      IntKind.u64.wrap (c + (IntKind.u64.wrap (t * v))) = c + t * v ∧
      Go.bits .and .u64 (IntKind.u64.wrap ((IntKind.u64.wrap ((IntKind.u64.wrap (4294967296 + u)) - (Go.bits .and .u64 (c + t * v) 4294967295))) - debt)) 4294967295 = y ∧
      IntKind.u64.wrap (1 - ((IntKind.u64.wrap ((IntKind.u64.wrap ((IntKind.u64.wrap (4294967296 + u)) - (Go.bits .and .u64 (c + t * v) 4294967295))) - debt)) / 4294967296)) = dbt' := by
  have h0 : 0 ≤ t * v := Int.mul_nonneg ht.1 hv.1
  have h1 : t * v ≤ 4294967296 * 4294967295 := Int.mul_le_mul ht.2 (by omega) hv.1 (by decide)
  generalize t * v = m at h0 h1 ⊢
  rw [and_low (x := c + m) (by omega) (by omega)]
  have hlow0 : 0 ≤ (c + m) % 4294967296 := Int.emod_nonneg _ (by decide)
  have hlow1 : (c + m) % 4294967296 < 4294967296 := Int.emod_lt_of_pos _ (by decide)
  have hdm := Int.mul_ediv_add_emod (c + m) 4294967296
  generalize (c + m) % 4294967296 = lw at hlow0 hlow1 hdm ⊢
  have e : IntKind.u64.wrap ((IntKind.u64.wrap ((IntKind.u64.wrap (4294967296 + u)) - lw)) - debt) = 4294967296 + u - lw - debt := by
    simp only [w64]
    omega
  rw [e, and_low (by omega) (by omega)]
  simp only [w64]
  refine ⟨(4294967296 + u - lw - debt) % 4294967296, 1 - (4294967296 + u - lw - debt) / 4294967296, lw, ⟨Int.emod_nonneg _ (by decide), Int.emod_lt_of_pos _ (by decide)⟩, ?_, ?_, hdm, ?_, rfl, ?_⟩ <;> omega
theorem TakeInv.next {u v : List Int} (hu : Ok u) (hv : Ok v) {t : Nat} {D : List Int} {c debt y dbt' lowc : Int} (h : TakeInv u v t D c debt) (hy : 0 ≤ y ∧ y < 4294967296) (h1 : rd u D.length + 4294967296 * dbt' = y + lowc + debt)
    (h2 : 4294967296 * ((c + t * rd v D.length) / 4294967296) + lowc = c + t * rd v D.length) : TakeInv u v t (D ++ [y]) ((c + t * rd v D.length) / 4294967296) dbt' := by
  unfold TakeInv at h ⊢
  rw [List.length_append, List.length_singleton, val_take_rd u hu, val_take_rd v hv, val_snoc_int D y hy, Int.pow_succ]
  exact tk1 _ _ _ _ _ _ _ _ _ _ _ _ _ h h1 h2
theorem take_loop (u v : List Int) (hu : Ok u) (hv : Ok v) (t : Nat) (ht : t ≤ 4294967296) (hn : u.length ≤ 35184372088832) (d : Nat) : ∀ (D : List Int) (c debt : Int), Ok D → D.length + d = u.length → (debt = 0 ∨ debt = 1) → CarryInv v t D.length c → TakeInv u v t D c debt →
    ∃ (D' : List Int) (c' debt' : Int), Ok D' ∧ D'.length = u.length ∧ (debt' = 0 ∨ debt' = 1) ∧ CarryInv v t u.length c' ∧ TakeInv u v t D' c' debt' ∧
      Ev (fun k => nat_take.l0 k (D ++ u.drop D.length) v (t : Int) c debt (u.length : Int) (D.length : Int)) ((debt' == 1), D') := by
  induction d with
  | zero =>
    intro D c debt hD hl hdebt hc hi
    have hl' : D.length = u.length := by omega
    refine ⟨D, c, debt, hD, hl', hdebt, by rw [← hl']; exact hc, hi, Ev.step (fun k => ?_) (Ev.now _)⟩
    simp only [nat_take.l0]
    rw [if_neg (by omega), List.drop_of_length_le (by omega), List.append_nil]
  | succ d ih =>
    intro D c debt hD hl hdebt hc hi
    have g1 : (D.length : Int) < (u.length : Int) := by omega
    have g2 : 0 ≤ (D.length : Int) := by omega
    have g3 : (D.length : Int) < ((D ++ u.drop D.length).length : Int) := by rw [List.length_append, List.length_drop]; omega
    have g4 : D.length ≤ 1125899906842624 := by omega
    have g5 : D.length < u.length := by omega
    have hdl : ∀ y : Int, (D ++ [y]).length + d = u.length := fun y => by rw [List.length_append, List.length_singleton]; omega
    have hdrop := drop_rd u D.length g5
    have hread : rd (D ++ u.drop D.length) (D.length : Int) = rd u D.length := by
      rw [hdrop]; exact rd_at _ _ _
    have hset : ∀ y, (D ++ u.drop D.length).set D.length y = (D ++ [y]) ++ u.drop (D ++ [y]).length := by
      intro y
      rw [hdrop, set_at, List.length_append, List.length_singleton, List.append_assoc]
      rfl
    have ru := rd_ok hu (D.length : Int)
    have rv := rd_ok hv (D.length : Int)
    obtain ⟨y, dbt', lowc, hy, hdb, a1, a2, a3, a4, a5⟩ := take_limb (rd u D.length) (rd v D.length) c debt (t : Int) ru rv (hc.range ht) hdebt ⟨Int.natCast_nonneg _, Int.ofNat_le.2 ht⟩
    have hc' := hc.next hv
    have hlen1 : (D ++ [y]).length = D.length + 1 := by rw [List.length_append, List.length_singleton]
    obtain ⟨D', c', debt', b1, b2, b3, b4, b5, b6⟩ := ih (D ++ [y]) ((c + t * rd v D.length) / 4294967296) dbt' (hD.append (Ok.cons hy Ok.nil)) (hdl y) hdb (by rw [hlen1]; exact hc') (hi.next hu hv hy a1 a2)
    refine ⟨D', c', debt', b1, b2, b3, b4, b5, Ev.step (fun k => ?_) b6⟩
    have ew := wr_succ D.length g4
    simp only [nat_take.l0]
    rw [if_pos g1, limb_eq v _ g2]
    simp only [Option.bind_some]
    rw [if_pos g2, if_pos g3, hread, a3, a4, a5, ew, Int.toNat_natCast, hset, hlen1]
theorem take_ev (u v : List Int) (hu : Ok u) (hv : Ok v) (t : Nat) (ht : t ≤ 4294967296) (hn : u.length ≤ 35184372088832) (hl : v.length < u.length) :
    ∃ (D : List Int) (b : Bool), Ok D ∧ D.length = u.length ∧ val u + (if b then 4294967296 ^ u.length else 0) = val D + t * val v ∧ Ev (fun k => nat_take.f k u v (t : Int)) (b, D) := by
  obtain ⟨D, c, debt, h1, h2, h3, h4, h5, h6⟩ := take_loop u v hu hv t ht hn u.length [] 0 0 Ok.nil (by simp) (Or.inl rfl) (by simp [CarryInv, val]) (by simp [TakeInv, val])
  have hvl : v.take u.length = v := List.take_of_length_le (Nat.le_of_lt hl)
  have hc0 : c = 0 := by
    unfold CarryInv at h4
    rw [hvl] at h4
    have hv1 := val_lt v
    have : t * val v < 4294967296 ^ u.length := by
      have e1 : t * val v ≤ 4294967296 * val v := Nat.mul_le_mul_right _ ht
      have e2 : 4294967296 * val v < 4294967296 * 4294967296 ^ v.length := Nat.mul_lt_mul_of_pos_left hv1 (by decide)
      have e3 : 4294967296 * 4294967296 ^ v.length = 4294967296 ^ (v.length + 1) := by rw [Nat.pow_succ, Nat.mul_comm]
      have e4 : 4294967296 ^ (v.length + 1) ≤ 4294967296 ^ u.length := Nat.pow_le_pow_right (by decide) hl
      exact Nat.lt_of_le_of_lt e1 (Nat.lt_of_lt_of_le e2 (by rw [e3]; exact e4))
    rw [Nat.div_eq_of_lt this] at h4
    exact h4
  refine ⟨D, (debt == 1), h1, h2, ?_, ?_⟩
  · unfold TakeInv at h5
    rw [h2, List.take_length, hvl, hc0] at h5
    clear h4 h6
    have e : ((val u + (if (debt == 1) = true then 4294967296 ^ u.length else 0) : Nat) : Int) = ((val D + t * val v : Nat) : Int) := by
      rw [Int.natCast_add, Int.natCast_add, Int.natCast_mul, ← h5]
      rcases h3 with rfl | rfl
      · simp
      · simp
    exact Int.ofNat.inj e
  · refine Ev.congr (fun k => ?_) h6
    unfold nat_take.f
    rfl

theorem gv1 (p vu vv vd c y u v c' : Nat) (hv : vd + p * c = vu + vv) (h1 : y + 4294967296 * c' = c + u + v) :
    (vd + p * y) + p * 4294967296 * c' = (vu + p * u) + (vv + p * v) := by grind
def GiveInv (u v D : List Int) (c : Nat) : Prop := val D + 4294967296 ^ D.length * c = val (u.take D.length) + val (v.take D.length)
theorem GiveInv.next {u v : List Int} (hu : Ok u) (hv : Ok v) {D : List Int} {c y c' : Nat} (h : GiveInv u v D c) (hy : y < 4294967296) (h1 : y + 4294967296 * c' = c + (rd u D.length).toNat + (rd v D.length).toNat) : GiveInv u v (D ++ [(y : Int)]) c' := by
  unfold GiveInv at h ⊢
  have e : ((y : Int) % 4294967296).toNat = y := by clear h h1; omega
  rw [List.length_append, List.length_singleton, val_take_rdN u hu, val_take_rdN v hv, val_snoc, e, Nat.pow_succ]
  exact gv1 _ _ _ _ _ _ _ _ _ h h1
theorem give_limb (u v : Int) (c : Nat) (hu : 0 ≤ u ∧ u < 4294967296) (hv : 0 ≤ v ∧ v < 4294967296) (hc : c ≤ 1) :
    ∃ y c' : Nat, y < 4294967296 ∧ c' ≤ 1 ∧ y + 4294967296 * c' = c + u.toNat + v.toNat ∧ Go.bits .and .u64 (IntKind.u64.wrap ((c : Int) + (IntKind.u64.wrap (u + v)))) 4294967295 = y ∧ (IntKind.u64.wrap ((c : Int) + (IntKind.u64.wrap (u + v)))) / 4294967296 = c' := by
  have e : IntKind.u64.wrap ((c : Int) + (IntKind.u64.wrap (u + v))) = ((c + u.toNat + v.toNat : Nat) : Int) := by simp only [w64]; omega
  rw [e, and_low (by omega) (by omega)]
  exact ⟨(c + u.toNat + v.toNat) % 4294967296, (c + u.toNat + v.toNat) / 4294967296, by omega, by omega, by omega, by omega, by omega⟩
theorem give_loop (u v : List Int) (hu : Ok u) (hv : Ok v) (hn : u.length ≤ 35184372088832) (d : Nat) : ∀ (D : List Int) (c : Nat), Ok D → c ≤ 1 → D.length + d = u.length → GiveInv u v D c →
    ∃ (D' : List Int) (c' : Nat), Ok D' ∧ D'.length = u.length ∧ GiveInv u v D' c' ∧ Ev (fun k => nat_give.l0 k (D ++ u.drop D.length) v (c : Int) (u.length : Int) (D.length : Int)) D' := by
  induction d with
  | zero =>
    intro D c hD hc hl hi
    refine ⟨D, c, hD, by omega, hi, Ev.step (fun k => ?_) (Ev.now _)⟩
    simp only [nat_give.l0]
    rw [if_neg (by omega), List.drop_of_length_le (by omega), List.append_nil]
  | succ d ih =>
    intro D c hD hc hl hi
    have g1 : (D.length : Int) < (u.length : Int) := by omega
    have g2 : 0 ≤ (D.length : Int) := by omega
    have g3 : (D.length : Int) < ((D ++ u.drop D.length).length : Int) := by rw [List.length_append, List.length_drop]; omega
    have g4 : D.length ≤ 1125899906842624 := by omega
    have g5 : D.length < u.length := by omega
    have hdl : ∀ y : Int, (D ++ [y]).length + d = u.length := fun y => by rw [List.length_append, List.length_singleton]; omega
    have hdrop := drop_rd u D.length g5
    have hread : rd (D ++ u.drop D.length) (D.length : Int) = rd u D.length := by
      rw [hdrop]; exact rd_at _ _ _
    have hset : ∀ y, (D ++ u.drop D.length).set D.length y = (D ++ [y]) ++ u.drop (D ++ [y]).length := by
      intro y
      rw [hdrop, set_at, List.length_append, List.length_singleton, List.append_assoc]
      rfl
    have ru := rd_ok hu (D.length : Int)
    have rv := rd_ok hv (D.length : Int)
    obtain ⟨y, c', hy, hc', a1, a2, a3⟩ := give_limb _ _ c ru rv hc
    have hlen1 : (D ++ [(y : Int)]).length = D.length + 1 := by rw [List.length_append, List.length_singleton]
    obtain ⟨D', c2, b1, b2, b3, b4⟩ := ih (D ++ [(y : Int)]) c' (hD.append (Ok.cons ⟨Int.natCast_nonneg _, Int.ofNat_lt.2 hy⟩ Ok.nil)) hc' (hdl _) (hi.next hu hv hy a1)
    refine ⟨D', c2, b1, b2, b3, Ev.step (fun k => ?_) b4⟩
    have ew := wr_succ D.length g4
    simp only [nat_give.l0]
    rw [if_pos g1, if_pos g2, if_pos g3, limb_eq v _ g2]
    simp only [Option.bind_some]
    rw [hread, a2, a3, ew, Int.toNat_natCast, hset, hlen1]
theorem give_ev (u v : List Int) (hu : Ok u) (hv : Ok v) (hn : u.length ≤ 35184372088832) (hl : v.length < u.length) :
    ∃ (D : List Int) (c : Nat), Ok D ∧ D.length = u.length ∧ val D + 4294967296 ^ u.length * c = val u + val v ∧ Ev (fun k => nat_give.f k u v) D := by
  obtain ⟨D, c, h1, h2, h3, h4⟩ := give_loop u v hu hv hn u.length [] 0 Ok.nil (by omega) (by simp) (by simp [GiveInv, val])
  refine ⟨D, c, h1, h2, ?_, ?_⟩
  · unfold GiveInv at h3
    rwa [h2, List.take_length, List.take_of_length_le (Nat.le_of_lt hl)] at h3
  · refine Ev.congr (fun k => ?_) h4
    unfold nat_give.f
    rfl

theorem kd1 (B P g v1 v2 r u2 VL UL two : Nat) (h2 : two = g * v1 + r) (hg : r * B + u2 + 1 ≤ g * v2) (hU : UL + 1 ≤ P) :
    UL + P * (u2 + B * two) + 1 ≤ g * (VL + P * (v2 + B * v1)) := by
  have h1 : P * (r * B + u2 + 1) ≤ P * (g * v2) := Nat.mul_le_mul_left _ hg
  have e1 : P * (r * B + u2 + 1) + P * (B * (g * v1)) = P * (u2 + B * two) + P := by rw [h2]; grind
  have e2 : g * (VL + P * (v2 + B * v1)) = g * VL + P * (g * v2) + P * (B * (g * v1)) := by grind
  have e3 : 0 ≤ g * VL := Nat.zero_le _
  rw [e2]
  generalize P * (u2 + B * two) = a at *
  generalize P * (B * (g * v1)) = b at *
  generalize P * (g * v2) = c at *
  generalize P * (r * B + u2 + 1) = d at *
  omega
theorem kd2 (B P g v1 v2 r u2 VL UL two : Nat) (h2 : two = g * v1 + r) (hg : g * v2 ≤ r * B + u2) (hgB : g ≤ B) (hVL : VL + 1 ≤ P) (hv1 : 1 ≤ v1) (hB : 1 ≤ B) :
    g * (VL + P * (v2 + B * v1)) + 1 ≤ UL + P * (u2 + B * two) + (VL + P * (v2 + B * v1)) := by
  have h1 : P * (g * v2) ≤ P * (r * B + u2) := Nat.mul_le_mul_left _ hg
  have e1 : P * (r * B + u2) + P * (B * (g * v1)) = P * (u2 + B * two) := by rw [h2]; grind
  have e2 : g * (VL + P * (v2 + B * v1)) = g * VL + P * (g * v2) + P * (B * (g * v1)) := by grind
  have e3 : g * VL ≤ B * VL := Nat.mul_le_mul_right _ hgB
  have e4 : B * (VL + 1) ≤ B * P := Nat.mul_le_mul_left _ hVL
  have e5 : P * (B * 1) ≤ P * (B * v1) := Nat.mul_le_mul_left _ (Nat.mul_le_mul_left _ hv1)
  have e6 : P * (v2 + B * v1) = P * v2 + P * (B * v1) := Nat.mul_add _ _ _
  have e7 : B * (VL + 1) = B * VL + B := by rw [Nat.mul_add, Nat.mul_one]
  have e8 : B * P = P * (B * 1) := by rw [Nat.mul_one, Nat.mul_comm]
  rw [e2, e6]
  generalize P * (u2 + B * two) = a at *
  generalize P * (B * (g * v1)) = b at *
  generalize P * (g * v2) = c at *
  generalize P * (r * B + u2) = d at *
  generalize P * (B * v1) = f at *
  generalize P * (B * 1) = h at *
  generalize P * v2 = i at *
  generalize g * VL = j at *
  generalize B * VL = l at *
  omega
theorem kd3 (B P g v1 v2 u2 VL UL two : Nat) (h : two + 1 ≤ (g + 1) * v1) (hu2 : u2 + 1 ≤ B) (hU : UL + 1 ≤ P) :
    UL + P * (u2 + B * two) + 1 ≤ (g + 1) * (VL + P * (v2 + B * v1)) := by
  have h1 : P * (B * (two + 1)) ≤ P * (B * ((g + 1) * v1)) := Nat.mul_le_mul_left _ (Nat.mul_le_mul_left _ h)
  have e1 : P * (B * (two + 1)) = P * (B * two) + P * B := by grind
  have e2 : (g + 1) * (VL + P * (v2 + B * v1)) = (g + 1) * VL + P * ((g + 1) * v2) + P * (B * ((g + 1) * v1)) := by grind
  have e3 : P * (u2 + 1) ≤ P * B := Nat.mul_le_mul_left _ hu2
  have e4 : P * (u2 + B * two) = P * u2 + P * (B * two) := Nat.mul_add _ _ _
  have e5 : P * (u2 + 1) = P * u2 + P := by rw [Nat.mul_add, Nat.mul_one]
  rw [e2, e4]
  generalize P * (B * two) = a at *
  generalize P * (B * ((g + 1) * v1)) = b at *
  generalize P * ((g + 1) * v2) = c at *
  generalize (g + 1) * VL = d at *
  generalize P * (B * (two + 1)) = f at *
  generalize P * B = h at *
  generalize P * u2 = i at *
  omega
theorem kd4 (B P v1 v2 u2 VL UL two : Nat) (h : UL + P * (u2 + B * two) < B * (VL + P * (v2 + B * v1))) (hV : VL + 1 ≤ P) (hv2 : v2 + 1 ≤ B) (hB : 0 < B) : two < B * (v1 + 1) := by
  have h1 : P * (v2 + 1) ≤ P * B := Nat.mul_le_mul_left _ hv2
  have h2 : B * (VL + P * (v2 + B * v1)) + B ≤ B * (P * (B * (v1 + 1))) := by
    have : VL + P * (v2 + B * v1) + 1 ≤ P * (B * (v1 + 1)) := by
      have e1 : P * (v2 + B * v1) = P * v2 + P * (B * v1) := Nat.mul_add _ _ _
      have e2 : P * (B * (v1 + 1)) = P * (B * v1) + P * B := by grind
      have e3 : P * (v2 + 1) = P * v2 + P := by rw [Nat.mul_add, Nat.mul_one]
      omega
    have := Nat.mul_le_mul_left B this
    rwa [Nat.mul_add B _ 1, Nat.mul_one] at this
  have hP : 0 < P * B := Nat.mul_pos (by omega) hB
  have h3 : P * (u2 + B * two) = P * u2 + (P * B) * two := by grind
  have h4 : B * (P * (B * (v1 + 1))) = (P * B) * (B * (v1 + 1)) := by grind
  rw [h3] at h
  rw [h4] at h2
  apply Nat.lt_of_mul_lt_mul_left (a := P * B)
  generalize (P * B) * two = a at *
  generalize (P * B) * (B * (v1 + 1)) = b at *
  generalize B * (VL + P * (v2 + B * v1)) = c at *
  generalize P * u2 = d at *
  omega

structure Guess (U V two v1 v2 u2 P UL VL : Nat) : Prop where
  hU : U = UL + P * (u2 + 4294967296 * two)
  hV : V = VL + P * (v2 + 4294967296 * v1)
  hUL : UL + 1 ≤ P
  hVL : VL + 1 ≤ P
  hu2 : u2 < 4294967296
  hv2 : v2 < 4294967296
  hv1 : 2147483648 ≤ v1
  hv1' : v1 < 4294967296
  hlt : U < 4294967296 * V
def GInv (U V two v1 g r : Nat) : Prop := two = g * v1 + r ∧ U < (g + 1) * V
def GEnd (U V g : Nat) : Prop := U < (g + 1) * V ∧ g * V < U + V ∧ g ≤ 4294967296
theorem Guess.more {U V two v1 v2 u2 P UL VL g r : Nat} (G : Guess U V two v1 v2 u2 P UL VL) (h : GInv U V two v1 g r) (hc : 4294967296 ≤ g ∨ r * 4294967296 + u2 < g * v2) : 1 ≤ g ∧ GInv U V two v1 (g - 1) (r + v1) := by
  have hlt : U < g * V := by
    rcases hc with hc | hc
    · exact Nat.lt_of_lt_of_le G.hlt (Nat.mul_le_mul_right _ hc)
    · have := kd1 4294967296 P g v1 v2 r u2 VL UL two h.1 hc G.hUL
      rw [← G.hU, ← G.hV] at this
      exact this
  have hg : 1 ≤ g := by
    rcases Nat.eq_zero_or_pos g with h0 | h0
    · rw [h0, Nat.zero_mul] at hlt; omega
    · exact h0
  refine ⟨hg, ?_, by rw [Nat.sub_add_cancel hg]; exact hlt⟩
  obtain ⟨m, rfl⟩ : ∃ m, g = m + 1 := ⟨g - 1, by omega⟩
  rw [h.1, Nat.add_sub_cancel, Nat.add_mul, Nat.one_mul]
  omega
theorem Guess.stop {U V two v1 v2 u2 P UL VL g r : Nat} (G : Guess U V two v1 v2 u2 P UL VL) (h : GInv U V two v1 g r) (hg : g ≤ 4294967296) (hc : 4294967296 ≤ r ∨ g * v2 ≤ r * 4294967296 + u2) : GEnd U V g := by
  have hle : g * v2 ≤ r * 4294967296 + u2 := by
    rcases hc with hc | hc
    · have h1 : g * v2 ≤ 4294967296 * v2 := Nat.mul_le_mul_right _ hg
      have := G.hv2
      omega
    · exact hc
  have h1 := G.hv1
  have := kd2 4294967296 P g v1 v2 r u2 VL UL two h.1 hle hg G.hVL (by omega) (by decide)
  rw [← G.hU, ← G.hV] at this
  exact ⟨h.2, this, hg⟩
theorem Guess.start {U V two v1 v2 u2 P UL VL : Nat} (G : Guess U V two v1 v2 u2 P UL VL) : GInv U V two v1 (two / v1) (two % v1) ∧ two / v1 ≤ 4294967297 := by
  have h1 := G.hv1
  have hlt2 : two < 4294967296 * (v1 + 1) := by
    have h := G.hlt
    rw [G.hU, G.hV] at h
    exact kd4 4294967296 P v1 v2 u2 VL UL two h G.hVL G.hv2 (by decide)
  refine ⟨⟨(by rw [Nat.mul_comm]; exact (Nat.div_add_mod two v1).symm), ?_⟩, ?_⟩
  · have h2 : two + 1 ≤ (two / v1 + 1) * v1 := by
      have := Nat.lt_mul_div_succ two (show 0 < v1 by omega)
      rw [Nat.mul_comm] at this
      exact this
    have := kd3 4294967296 P (two / v1) v1 v2 u2 VL UL two h2 G.hu2 G.hUL
    rw [← G.hU, ← G.hV] at this
    exact this
  · have : two / v1 < 4294967298 := by
      rw [Nat.div_lt_iff_lt_mul (by omega)]
      omega
    omega

def digTail (k : Nat) (u v : List Int) (g : Int) : Option (Int × List Int) := (nat_take.f k u v g).bind fun (b, D) => if D.length = u.length then (if b = true then (if D.length = u.length then ((nat_give.f k D v).bind fun t => if t.length = D.length then some (IntKind.u64.wrap (g - 1), t) else none) else none) else (if D.length = u.length then some (g, D) else none)) else none
theorem digit_j2 (u v : List Int) (hu : Ok u) (hv : Ok v) (hn : u.length ≤ 35184372088832) (hl : v.length + 1 = u.length) (hV : 0 < val v) (g : Nat) (h : GEnd (val u) (val v) g) :
    ∃ D : List Int, Ok D ∧ D.length = u.length ∧ val D = val u % val v ∧ Ev (fun k => digTail k u v (g : Int)) (((val u / val v : Nat) : Int), D) := by
  obtain ⟨h1, h2, h3⟩ := h
  obtain ⟨D, b, d1, d2, d3, d4⟩ := take_ev u v hu hv g h3 hn (by omega)
  have hDlt := val_lt D
  have hulen := val_lt u
  rw [d2] at hDlt
  cases b with
  | false =>
    rw [if_neg (by simp), Nat.add_zero] at d3
    have hq : val u / val v = g := by
      rw [Nat.div_eq_iff hV]
      constructor
      · rw [Nat.mul_comm] at d3 ⊢; omega
      · rw [Nat.add_mul, Nat.one_mul] at h1; omega
    have hm : val u % val v = val D := by
      have := Nat.div_add_mod (val u) (val v)
      rw [hq, Nat.mul_comm] at this
      omega
    refine ⟨D, d1, d2, hm.symm, Ev.bind d4 ?_⟩
    rw [hq]
    exact Ev.congr (fun k => by dsimp only; rw [if_pos d2, if_neg (by simp), if_pos d2]) (Ev.now _)
  | true =>
    rw [if_pos rfl] at d3
    obtain ⟨D2, c, e1, e2, e3, e4⟩ := give_ev D v d1 hv (by omega) (by omega)
    rw [d2] at e2 e3
    have hD2 := val_lt D2
    rw [e2] at hD2
    have hg1 : 1 ≤ g := by
      rcases Nat.eq_zero_or_pos g with h0 | h0
      · rw [h0, Nat.zero_mul] at d3; omega
      · exact h0
    obtain ⟨m, rfl⟩ : ∃ m, g = m + 1 := ⟨g - 1, by omega⟩
    rw [Nat.add_mul, Nat.one_mul] at d3 h2
    have hc : c = 1 := by
      rcases Nat.lt_or_ge c 1 with h0 | h0
      · obtain rfl : c = 0 := by omega
        rw [Nat.mul_zero] at e3
        omega
      · rcases Nat.lt_or_ge 1 c with h5 | h5
        · have : 4294967296 ^ u.length * 2 ≤ 4294967296 ^ u.length * c := Nat.mul_le_mul_left _ h5
          have hvl := val_lt v
          have h6 : 4294967296 ^ v.length ≤ 4294967296 ^ u.length := Nat.pow_le_pow_right (by decide) (by omega)
          omega
        · omega
    rw [hc, Nat.mul_one] at e3
    have hval : val D2 + m * val v = val u := by omega
    have hlt : val D2 < val v := by omega
    have hq : val u / val v = m := by
      rw [Nat.div_eq_iff hV]
      constructor
      · omega
      · omega
    have hm : val u % val v = val D2 := by
      have := Nat.div_add_mod (val u) (val v)
      rw [hq, Nat.mul_comm] at this
      omega
    refine ⟨D2, e1, e2, hm.symm, Ev.bind d4 ?_⟩
    refine Ev.congr (f := fun k => (nat_give.f k D v).bind fun t => if t.length = D.length then some (((m : Nat) : Int), t) else none) (fun k => ?_) (Ev.bind e4 ?_)
    · have ew : IntKind.u64.wrap (((m + 1 : Nat) : Int) - 1) = (m : Int) := by
        clear d4 e4 e3 d3 h1 h2 hval hq hm hDlt hulen hD2
        rw [w64]; omega
      dsimp only
      rw [if_pos d2, if_pos rfl, if_pos d2, ew]
    · rw [hq, e2, d2]
      exact Ev.congr (fun k => by rw [if_pos rfl]) (Ev.now _)

theorem digit_loop (u v : List Int) (hu : Ok u) (hv : Ok v) (hn : u.length ≤ 35184372088832) (hl : v.length + 1 = u.length) (hv2 : 2 ≤ v.length) (two P UL VL : Nat)
    (G : Guess (val u) (val v) two (rd v (v.length - 1 : Nat)).toNat (rd v (v.length - 2 : Nat)).toNat (rd u (v.length - 2 : Nat)).toNat P UL VL) (fuel : Nat) : ∀ (g r : Nat), 4294967296 - r ≤ fuel → r < 4294967296 → g ≤ 4294967297 → GInv (val u) (val v) two (rd v (v.length - 1 : Nat)).toNat g r →
    ∃ D : List Int, Ok D ∧ D.length = u.length ∧ val D = val u % val v ∧ Ev (fun k => nat_digit.l0 k u v (v.length : Int) (g : Int) (r : Int)) (((val u / val v : Nat) : Int), D) := by
  have hV0 : 0 < val v := by
    have h1 := G.hV
    have h2 := G.hv1
    have h3 := G.hVL
    rcases Nat.eq_zero_or_pos (val v) with h0 | h0
    · rw [h0] at h1
      have : 0 < P * ((rd v (v.length - 2 : Nat)).toNat + 4294967296 * (rd v (v.length - 1 : Nat)).toNat) := Nat.mul_pos (by omega) (by omega)
      omega
    · exact h0
  have rv1 := rd_ok hv (v.length - 1 : Nat)
  have rv2 := rd_ok hv (v.length - 2 : Nat)
  have ru2 := rd_ok hu (v.length - 2 : Nat)
  have w1 : wrap64 ((v.length : Int) - 1) = ((v.length - 1 : Nat) : Int) := by clear G rv1 rv2 ru2; rw [wrap_id (by omega) (by omega)]; omega
  have w2 : wrap64 ((v.length : Int) - 2) = ((v.length - 2 : Nat) : Int) := by clear G rv1 rv2 ru2 w1; rw [wrap_id (by omega) (by omega)]; omega
  have b1 : (0 : Int) ≤ ((v.length - 1 : Nat) : Int) := Int.natCast_nonneg _
  have b2 : (0 : Int) ≤ ((v.length - 2 : Nat) : Int) := Int.natCast_nonneg _
  have b3 : ((v.length - 1 : Nat) : Int) < (v.length : Int) := by clear G rv1 rv2 ru2 w1 w2; omega
  have b4 : ((v.length - 2 : Nat) : Int) < (v.length : Int) := by clear G rv1 rv2 ru2 w1 w2; omega
  have b5 : ((v.length - 2 : Nat) : Int) < (u.length : Int) := by clear G rv1 rv2 ru2 w1 w2; omega
  obtain ⟨x1, hx1⟩ : ∃ x : Nat, rd v (v.length - 1 : Nat) = x := ⟨(rd v (v.length - 1 : Nat)).toNat, by clear G w1 w2; omega⟩
  obtain ⟨x2, hx2⟩ : ∃ x : Nat, rd v (v.length - 2 : Nat) = x := ⟨(rd v (v.length - 2 : Nat)).toNat, by clear G w1 w2; omega⟩
  obtain ⟨y2, hy2⟩ : ∃ x : Nat, rd u (v.length - 2 : Nat) = x := ⟨(rd u (v.length - 2 : Nat)).toNat, by clear G w1 w2; omega⟩
  rw [hx1, hx2, hy2] at G
  rw [hx1]
  simp only [Int.toNat_natCast] at G ⊢
  clear rv1 rv2 ru2
  induction fuel with
  | zero =>
    intro g r hf hr
    omega
  | succ fuel ih =>
    intro g r hf hr hg hI
    have k1 := G.hv1
    have k2 := G.hv1'
    have k3 := G.hv2
    have k4 := G.hu2
    -- one round more
    have hmore : (4294967296 ≤ g ∨ r * 4294967296 + y2 < g * x2) → ∃ D : List Int, Ok D ∧ D.length = u.length ∧ val D = val u % val v ∧ Ev (fun k => if 0 ≤ (wrap64 ((v.length : Int) - 1)) then (if (wrap64 ((v.length : Int) - 1)) < (v.length : Int) then (if (IntKind.u64.wrap ((r : Int) + (rd v (wrap64 ((v.length : Int) - 1))))) ≥ 4294967296 then digTail k u v (IntKind.u64.wrap ((g : Int) - 1)) else nat_digit.l0 k u v (v.length : Int) (IntKind.u64.wrap ((g : Int) - 1)) (IntKind.u64.wrap ((r : Int) + (rd v (wrap64 ((v.length : Int) - 1)))))) else none) else none) (((val u / val v : Nat) : Int), D) := by
      intro hc
      obtain ⟨hg1, hI'⟩ := G.more hI hc
      have eg : IntKind.u64.wrap ((g : Int) - 1) = ((g - 1 : Nat) : Int) := by clear w1 w2 hx1 hx2 hy2 hI' hI hc ih; rw [w64]; omega
      have er : IntKind.u64.wrap ((r : Int) + (x1 : Int)) = ((r + x1 : Nat) : Int) := by clear w1 w2 hx1 hx2 hy2 hI' hI hc ih eg; rw [w64]; omega
      by_cases hbig : 4294967296 ≤ r + x1
      · obtain ⟨D, d1, d2, d3, d4⟩ := digit_j2 u v hu hv hn hl hV0 (g - 1) (G.stop hI' (by omega) (Or.inl hbig))
        have hbig' : (((r + x1 : Nat) : Int)) ≥ 4294967296 := by clear w1 w2 hx1 hx2 hy2 hI' hI hc ih eg er d4; omega
        refine ⟨D, d1, d2, d3, Ev.congr (fun k => ?_) d4⟩
        rw [w1, if_pos b1, if_pos b3, hx1, er, if_pos hbig', eg]
      · obtain ⟨D, d1, d2, d3, d4⟩ := ih (g - 1) (r + x1) (by omega) (by omega) (by omega) hI'
        have hbig' : ¬ (((r + x1 : Nat) : Int)) ≥ 4294967296 := by clear w1 w2 hx1 hx2 hy2 hI' hI hc ih eg er d4; omega
        refine ⟨D, d1, d2, d3, Ev.congr (fun k => ?_) d4⟩
        rw [w1, if_pos b1, if_pos b3, hx1, er, if_neg hbig', eg]
    by_cases hgB : 4294967296 ≤ g
    · obtain ⟨D, d1, d2, d3, d4⟩ := hmore (Or.inl hgB)
      have hgB' : (g : Int) ≥ 4294967296 := by clear w1 w2 hx1 hx2 hy2 hI ih d4; omega
      refine ⟨D, d1, d2, d3, Ev.step (fun k => ?_) d4⟩
      rw [nat_digit.l0, if_pos hgB']
      rfl
    · have hgB' : ¬ (g : Int) ≥ 4294967296 := by clear w1 w2 hx1 hx2 hy2 hI ih; omega
      have em : IntKind.u64.wrap ((g : Int) * (x2 : Int)) = ((g * x2 : Nat) : Int) := by
        have h1 : g * x2 ≤ 4294967295 * 4294967295 := Nat.mul_le_mul (by omega) (by omega)
        rw [← Int.natCast_mul]
        clear w1 w2 hx1 hx2 hy2 hI ih hmore
        generalize g * x2 = z at h1 ⊢
        rw [w64]; omega
      have eo : Go.bits .or .u64 (IntKind.u64.wrap ((r : Int) * 4294967296)) (y2 : Int) = ((r * 4294967296 + y2 : Nat) : Int) := by
        have h1 : (0 : Int) ≤ (r : Int) ∧ (r : Int) < 4294967296 ∧ (0 : Int) ≤ (y2 : Int) ∧ (y2 : Int) < 4294967296 := by clear w1 w2 hx1 hx2 hy2 hI ih hmore em; omega
        rw [or_sum h1.1 h1.2.1 h1.2.2.1 h1.2.2.2, Int.natCast_add, Int.natCast_mul]
        rfl
      by_cases hc : r * 4294967296 + y2 < g * x2
      · obtain ⟨D, d1, d2, d3, d4⟩ := hmore (Or.inr hc)
        refine ⟨D, d1, d2, d3, Ev.step (fun k => ?_) d4⟩
        rw [nat_digit.l0, if_neg hgB', w2, if_pos b2, if_pos b4, if_pos b5, hx2, hy2, em, eo, if_pos (Int.ofNat_lt.2 hc)]
        rfl
      · obtain ⟨D, d1, d2, d3, d4⟩ := digit_j2 u v hu hv hn hl hV0 g (G.stop hI (by omega) (Or.inr (by omega)))
        refine ⟨D, d1, d2, d3, Ev.step (fun k => ?_) d4⟩
        rw [nat_digit.l0, if_neg hgB', w2, if_pos b2, if_pos b4, if_pos b5, hx2, hy2, em, eo, if_neg (fun h => hc (Int.ofNat_lt.1 h))]
        rfl
theorem split_two (l : List Int) (hl : Ok l) (m : Nat) (h : m < l.length) : val l = val (l.take m) + 4294967296 ^ m * ((rd l (m : Nat)).toNat + 4294967296 * val (l.drop (m + 1))) := by
  have r := rd_ok hl (m : Int)
  have h1 := split_at l m
  have h2 := val_drop l m h
  rw [Int.emod_eq_of_lt r.1 r.2] at h2
  rw [List.length_take, Nat.min_eq_left (Nat.le_of_lt h), h2] at h1
  exact h1
theorem drop_one (l : List Int) (hl : Ok l) (m : Nat) (h : m + 1 = l.length) : val (l.drop m) = (rd l (m : Nat)).toNat := by
  have r := rd_ok hl (m : Int)
  have h2 := val_drop l m (by omega)
  have e : val (l.drop (m + 1)) = 0 := by rw [List.drop_of_length_le (by omega)]; rfl
  rw [Int.emod_eq_of_lt r.1 r.2, e] at h2
  exact h2
theorem digit_ev (u v : List Int) (hu : Ok u) (hv : Ok v) (hn : u.length ≤ 35184372088832) (hl : v.length + 1 = u.length) (hv2 : 2 ≤ v.length) (hnorm : 2147483648 ≤ (rd v (v.length - 1 : Nat)).toNat) (hlt : val u < 4294967296 * val v) :
    ∃ D : List Int, Ok D ∧ D.length = u.length ∧ val D = val u % val v ∧ Ev (fun k => nat_digit.f k u v) (((val u / val v : Nat) : Int), D) := by
  obtain ⟨m, hm⟩ : ∃ m, v.length = m + 2 := ⟨v.length - 2, by omega⟩
  have ru0 := rd_ok hu (v.length : Nat)
  have ru1 := rd_ok hu (v.length - 1 : Nat)
  have ru2 := rd_ok hu (v.length - 2 : Nat)
  have rv1 := rd_ok hv (v.length - 1 : Nat)
  have rv2 := rd_ok hv (v.length - 2 : Nat)
  have hvs := split_two v hv (v.length - 2) (by omega)
  have hvd := drop_one v hv (v.length - 1) (by omega)
  have hus := split_two u hu (v.length - 2) (by omega)
  have hud := val_drop u (v.length - 1) (by omega)
  have hud2 := drop_one u hu v.length (by omega)
  have e21 : v.length - 2 + 1 = v.length - 1 := by omega
  have e11 : v.length - 1 + 1 = v.length := by omega
  rw [e21, hvd] at hvs
  rw [e11, hud2, Int.emod_eq_of_lt ru1.1 ru1.2] at hud
  rw [e21, hud] at hus
  have hul := val_lt (u.take (v.length - 2))
  have hvl := val_lt (v.take (v.length - 2))
  rw [List.length_take, Nat.min_eq_left (by omega)] at hul hvl
  have G : Guess (val u) (val v) ((rd u (v.length - 1 : Nat)).toNat + 4294967296 * (rd u (v.length : Nat)).toNat) (rd v (v.length - 1 : Nat)).toNat (rd v (v.length - 2 : Nat)).toNat (rd u (v.length - 2 : Nat)).toNat (4294967296 ^ (v.length - 2)) (val (u.take (v.length - 2))) (val (v.take (v.length - 2))) :=
    ⟨hus, hvs, hul, hvl, by clear hus hvs hul hvl hud hvd hud2; omega, by clear hus hvs hul hvl hud hvd hud2; omega, hnorm, by clear hus hvs hul hvl hud hvd hud2; omega, hlt⟩
  obtain ⟨hI, hg⟩ := G.start
  clear hus hvs hud hvd hud2 hul hvl
  obtain ⟨x1, hx1⟩ : ∃ x : Nat, rd v (v.length - 1 : Nat) = x := ⟨(rd v (v.length - 1 : Nat)).toNat, by clear G hI hg; omega⟩
  obtain ⟨y1, hy1⟩ : ∃ x : Nat, rd u (v.length - 1 : Nat) = x := ⟨(rd u (v.length - 1 : Nat)).toNat, by clear G hI hg; omega⟩
  obtain ⟨y0, hy0⟩ : ∃ x : Nat, rd u (v.length : Nat) = x := ⟨(rd u (v.length : Nat)).toNat, by clear G hI hg; omega⟩
  have z1 : x1 < 4294967296 ∧ 2147483648 ≤ x1 := by clear G hI hg; omega
  have z2 : y1 < 4294967296 ∧ y0 < 4294967296 := by clear G hI hg; omega
  have hmod : (y1 + 4294967296 * y0) % x1 < x1 := Nat.mod_lt _ (by omega)
  have hmod2 : (y1 + 4294967296 * y0) % x1 < 4294967296 := by omega
  obtain ⟨D, d1, d2, d3, d4⟩ := digit_loop u v hu hv hn hl hv2 _ _ _ _ G 4294967296 (((rd u (v.length - 1 : Nat)).toNat + 4294967296 * (rd u (v.length : Nat)).toNat) / (rd v (v.length - 1 : Nat)).toNat) (((rd u (v.length - 1 : Nat)).toNat + 4294967296 * (rd u (v.length : Nat)).toNat) % (rd v (v.length - 1 : Nat)).toNat) (Nat.sub_le _ _) (by rw [hy1, hy0, hx1]; simpa only [Int.toNat_natCast] using hmod2) hg hI
  refine ⟨D, d1, d2, d3, Ev.congr (fun k => ?_) d4⟩
  rw [hy1, hy0, hx1]
  simp only [Int.toNat_natCast]
  have w1 : wrap64 ((v.length : Int) - 1) = ((v.length - 1 : Nat) : Int) := by
    clear G hI hg d4 ru0 ru1 ru2 rv1 rv2 hx1 hy1 hy0 hmod hmod2
    rw [wrap_id (by omega) (by omega)]; omega
  have b1 : (0 : Int) ≤ ((v.length - 1 : Nat) : Int) := Int.natCast_nonneg _
  have b0 : (0 : Int) ≤ (v.length : Int) := Int.natCast_nonneg _
  have b2 : (v.length : Int) < (u.length : Int) := by clear G hI hg d4 ru0 ru1 ru2 rv1 rv2 hx1 hy1 hy0 hmod hmod2 w1; omega
  have b3 : ((v.length - 1 : Nat) : Int) < (u.length : Int) := by clear G hI hg d4 ru0 ru1 ru2 rv1 rv2 hx1 hy1 hy0 hmod hmod2 w1; omega
  have b4 : ((v.length - 1 : Nat) : Int) < (v.length : Int) := by clear G hI hg d4 ru0 ru1 ru2 rv1 rv2 hx1 hy1 hy0 hmod hmod2 w1; omega
  have b5 : ¬ ((x1 : Int) = 0) := by clear G hI hg d4 ru0 ru1 ru2 rv1 rv2 hx1 hy1 hy0 hmod hmod2 w1; omega
  have eo : Go.bits .or .u64 (IntKind.u64.wrap ((y0 : Int) * 4294967296)) (y1 : Int) = ((y1 + 4294967296 * y0 : Nat) : Int) := by
    have h1 : (0 : Int) ≤ (y0 : Int) ∧ (y0 : Int) < 4294967296 ∧ (0 : Int) ≤ (y1 : Int) ∧ (y1 : Int) < 4294967296 := by
      clear G hI hg d4 ru0 ru1 ru2 rv1 rv2 hx1 hy1 hy0 hmod hmod2 w1; omega
    rw [or_sum h1.1 h1.2.1 h1.2.2.1 h1.2.2.2, Int.natCast_add, Int.natCast_mul, Int.add_comm, Int.mul_comm]
    rfl
  have et : Int.tdiv ((y1 + 4294967296 * y0 : Nat) : Int) (x1 : Int) = (((y1 + 4294967296 * y0) / x1 : Nat) : Int) := rfl
  have er : Int.tmod ((y1 + 4294967296 * y0 : Nat) : Int) (x1 : Int) = (((y1 + 4294967296 * y0) % x1 : Nat) : Int) := rfl
  have eq : IntKind.u64.wrap (((y1 + 4294967296 * y0) / x1 : Nat) : Int) = (((y1 + 4294967296 * y0) / x1 : Nat) : Int) := by
    rw [hy1, hy0, hx1] at hg
    simp only [Int.toNat_natCast] at hg
    clear G hI d4 ru0 ru1 ru2 rv1 rv2 hx1 hy1 hy0 hmod hmod2 w1 eo et er
    generalize (y1 + 4294967296 * y0) / x1 = z at hg ⊢
    rw [w64]; omega
  unfold nat_digit.f
  rw [if_pos b2, w1, if_pos b1, if_pos b3, if_pos b4, hx1, if_neg b5, hy0, hy1, eo, et, er, eq]


end Go.DI.Th
namespace Go.DI.Th
open Go Go.RowKit Go.DI

def bl (n : Nat) : Nat := if n = 0 then 0 else Nat.log2 n + 1
theorem bl_lt (n : Nat) : n < 2 ^ bl n := by
  unfold bl
  by_cases h : n = 0
  · rw [if_pos h, h]; decide
  · rw [if_neg h]; exact Nat.lt_log2_self
theorem bl_le {n : Nat} (h : n ≠ 0) : 2 ^ (bl n - 1) ≤ n := by
  unfold bl
  rw [if_neg h, Nat.add_sub_cancel]
  exact Nat.log2_self_le h
theorem bl_eq {n k : Nat} (h1 : 2 ^ k ≤ n) (h2 : n < 2 ^ (k + 1)) : bl n = k + 1 := by
  have h0 : n ≠ 0 := by
    have := Nat.two_pow_pos k
    omega
  unfold bl
  rw [if_neg h0, (Nat.log2_eq_iff h0).2 ⟨h1, h2⟩]
theorem bl_shift (n s : Nat) (h : 2 ^ s ≤ n) : bl n = s + bl (n / 2 ^ s) := by
  have hp := Nat.two_pow_pos s
  have h0 : n / 2 ^ s ≠ 0 := by
    have := (Nat.le_div_iff_mul_le hp (x := 1) (y := n)).2 (by omega)
    omega
  obtain ⟨k, hk⟩ : ∃ k, bl (n / 2 ^ s) = k + 1 := ⟨Nat.log2 (n / 2 ^ s), by unfold bl; rw [if_neg h0]⟩
  have h1 := bl_le h0
  have h2 := bl_lt (n / 2 ^ s)
  rw [hk] at h1 h2 ⊢
  rw [Nat.add_sub_cancel] at h1
  have h3 := (Nat.le_div_iff_mul_le hp).1 h1
  have h4 := (Nat.div_lt_iff_lt_mul hp).1 h2
  rw [← Nat.pow_add] at h3 h4
  rw [bl_eq (k := k + s) h3 (by rw [show k + s + 1 = k + 1 + s by omega]; exact h4)]
  omega
theorem len8_at (n : Nat) (h : n < 256) : bt cst_len8 (n : Int) = (bl n : Int) := by
  have : ∀ i : Fin 256, bt cst_len8 ((i.1 : Nat) : Int) = ((bl i.1 : Nat) : Int) := by decide +kernel
  exact this ⟨n, h⟩
theorem len8_size : (cst_len8.size : Int) = 256 := by decide +kernel
theorem w8 (n : Nat) (h : n < 256) : IntKind.u8.wrap (n : Int) = (n : Int) := by
  rw [IntKind.wrap_u8]; omega
theorem bl_small (n : Nat) (h : n < 256) : bl n ≤ 8 := by
  have : ∀ i : Fin 256, bl i.1 ≤ 8 := by decide +kernel
  exact this ⟨n, h⟩
theorem len32_eq (n : Nat) (h : n < 4294967296) : bits_Len32.f (n : Int) = some (bl n : Int) := by
  unfold bits_Len32.f
  have part : ∀ m : Nat, m < 256 → ∀ c : Int, 0 ≤ c → c ≤ 24 → (if 0 ≤ IntKind.u8.wrap (m : Int) then (if IntKind.u8.wrap (m : Int) < (cst_len8.size : Int) then (some (wrap64 (c + wrap64 (bt cst_len8 (IntKind.u8.wrap (m : Int)))))) else none) else none) = some (c + (bl m : Int)) := by
    intro m hm c hc hc2
    have := bl_small m hm
    rw [w8 m hm, if_pos (by omega), len8_size, if_pos (by omega), len8_at m hm, wrap_id (i := (bl m : Int)) (by omega) (by omega), wrap_id (by omega) (by omega)]
  have d1 : (n : Int) / 65536 = ((n / 65536 : Nat) : Int) := rfl
  have d2 : ((n / 65536 : Nat) : Int) / 256 = ((n / 65536 / 256 : Nat) : Int) := rfl
  have d3 : (n : Int) / 256 = ((n / 256 : Nat) : Int) := rfl
  by_cases h1 : (n : Int) ≥ 65536
  · rw [if_pos h1, d1, d2]
    have s1 := bl_shift n 16 (by omega)
    by_cases h2 : ((n / 65536 : Nat) : Int) ≥ 256
    · have s2 := bl_shift (n / 65536) 8 (by omega)
      rw [if_pos h2, wrap_id (i := 16 + 8) (by omega) (by omega), part _ (by omega) (16 + 8) (by omega) (by omega)]
      have : (2 : Nat) ^ 16 = 65536 := rfl
      have : (2 : Nat) ^ 8 = 256 := rfl
      simp only [*]
      congr 1
      omega
    · rw [if_neg h2, part _ (by omega) 16 (by omega) (by omega)]
      have : (2 : Nat) ^ 16 = 65536 := rfl
      simp only [*]
      congr 1
  · rw [if_neg h1]
    by_cases h2 : (n : Int) ≥ 256
    · have s2 := bl_shift n 8 (by omega)
      rw [if_pos h2, d3, wrap_id (i := 0 + 8) (by omega) (by omega), part _ (by omega) (0 + 8) (by omega) (by omega)]
      have : (2 : Nat) ^ 8 = 256 := rfl
      simp only [*]
      congr 1
    · rw [if_neg h2, part n (by omega) 0 (by omega) (by omega)]
      congr 1
      omega
theorem bl_32 (n : Nat) (h : n < 4294967296) : bl n ≤ 32 := by
  by_cases h0 : n = 0
  · subst h0; decide
  · have := bl_le h0
    apply Classical.byContradiction
    intro hc
    have := Nat.pow_le_pow_right (n := 2) (by decide) (show 32 ≤ bl n - 1 by omega)
    omega
theorem lz32_eq (n : Nat) (h : n < 4294967296) : bits_LeadingZeros32.f (n : Int) = some ((32 - bl n : Nat) : Int) := by
  have := bl_32 n h
  unfold bits_LeadingZeros32.f
  rw [len32_eq n h, Option.bind_some, wrap_id (by omega) (by omega)]
  congr 1
  omega
theorem bl_norm (n : Nat) (h0 : n ≠ 0) (h : n < 4294967296) : 2147483648 ≤ n * 2 ^ (32 - bl n) ∧ n * 2 ^ (32 - bl n) < 4294967296 := by
  have h1 := bl_32 n h
  have h2 := bl_le h0
  have h3 := bl_lt n
  have hb : 1 ≤ bl n := by
    unfold bl; rw [if_neg h0]; omega
  have e1 : 2 ^ (bl n - 1) * 2 ^ (32 - bl n) = 2147483648 := by rw [← Nat.pow_add, show bl n - 1 + (32 - bl n) = 31 by omega]
  have e2 : 2 ^ bl n * 2 ^ (32 - bl n) = 4294967296 := by rw [← Nat.pow_add, show bl n + (32 - bl n) = 32 by omega]
  have h4 := Nat.mul_le_mul_right (2 ^ (32 - bl n)) h2
  have h5 := Nat.mul_lt_mul_of_pos_right h3 (Nat.two_pow_pos (32 - bl n))
  omega

theorem odd_part : ∀ n : Nat, n ≠ 0 → ∃ t m, n = 2 ^ t * (2 * m + 1) := by
  intro n
  induction n using Nat.strongRecOn with
  | ind n ih =>
    intro h
    rcases Nat.mod_two_eq_zero_or_one n with h1 | h1
    · obtain ⟨t, m, hm⟩ := ih (n / 2) (by omega) (by omega)
      refine ⟨t + 1, m, ?_⟩
      rw [Nat.pow_succ, Nat.mul_comm (2 ^ t) 2, Nat.mul_assoc, ← hm]
      omega
    · exact ⟨0, n / 2, by rw [Nat.pow_zero, Nat.one_mul]; omega⟩
theorem odd_unique : ∀ (t t' m m' : Nat), 2 ^ t * (2 * m + 1) = 2 ^ t' * (2 * m' + 1) → t = t'
  | 0, 0, _, _, _ => rfl
  | 0, t' + 1, m, m', h => by
    rw [Nat.pow_succ, Nat.mul_comm (2 ^ t') 2, Nat.mul_assoc] at h
    omega
  | t + 1, 0, m, m', h => by
    rw [Nat.pow_succ, Nat.mul_comm (2 ^ t) 2, Nat.mul_assoc] at h
    omega
  | t + 1, t' + 1, m, m', h => by
    rw [Nat.pow_succ, Nat.pow_succ, Nat.mul_comm (2 ^ t') 2, Nat.mul_comm (2 ^ t) 2, Nat.mul_assoc, Nat.mul_assoc] at h
    rw [odd_unique t t' m m' (by omega)]
theorem and_minus (x t m : Nat) (hx : x = 2 ^ t * (2 * m + 1)) (h : x < 2 ^ 64) : x &&& (2 ^ 64 - x) = 2 ^ t := by
  have hp := Nat.two_pow_pos t
  have ht : t < 64 := by
    apply Classical.byContradiction
    intro hc
    have h1 := Nat.pow_le_pow_right (n := 2) (by decide) (show 64 ≤ t by omega)
    have h2 : 2 ^ t * 1 ≤ 2 ^ t * (2 * m + 1) := Nat.mul_le_mul_left _ (by omega)
    omega
  have hy : x = (2 ^ t * (2 * m) + (2 ^ t - 1)) + 1 := by
    rw [hx, Nat.mul_add]; omega
  have hx0 : x = 2 ^ t * (2 * m + 1) + 0 := hx
  apply Nat.eq_of_testBit_eq
  intro i
  rw [Nat.testBit_and, Nat.testBit_two_pow]
  have e1 : (2 ^ 64 - x).testBit i = (decide (i < 64) && !(2 ^ t * (2 * m) + (2 ^ t - 1)).testBit i) := by
    conv => lhs; rw [hy]
    exact Nat.testBit_two_pow_sub_succ (by omega) i
  have e2 : x.testBit i = if i < t then (0 : Nat).testBit i else (2 * m + 1).testBit (i - t) := by
    conv => lhs; rw [hx0]
    exact Nat.testBit_two_pow_mul_add _ hp i
  rw [e1, e2, Nat.testBit_two_pow_mul_add _ (by omega) i]
  by_cases h1 : i < t
  · rw [if_pos h1, if_pos h1, Nat.zero_testBit, Bool.false_and, decide_eq_false (by omega)]
  · rw [if_neg h1, if_neg h1]
    obtain ⟨j, rfl⟩ : ∃ j, i = t + j := ⟨i - t, by omega⟩
    rw [Nat.add_sub_cancel_left]
    cases j with
    | zero =>
      rw [Nat.testBit_zero, Nat.testBit_zero]
      simp
      omega
    | succ j =>
      rw [Nat.testBit_succ, Nat.testBit_succ, show (2 * m + 1) / 2 = m by omega, show 2 * m / 2 = m by omega]
      rw [decide_eq_false (show ¬ t = t + (j + 1) by omega)]
      cases m.testBit j <;> simp
theorem tz64_eq (x t m : Nat) (hx : x = 2 ^ t * (2 * m + 1)) (h : x < 18446744073709551616) : bits_TrailingZeros64.f (x : Int) = some (t : Int) := by
  have hp := Nat.two_pow_pos t
  have h0 : 0 < x := by
    rw [hx]; exact Nat.mul_pos hp (by omega)
  have ht : t < 64 := by
    apply Classical.byContradiction
    intro hc
    have h1 := Nat.pow_le_pow_right (n := 2) (by decide) (show 64 ≤ t by omega)
    have h2 : 2 ^ t * 1 ≤ 2 ^ t * (2 * m + 1) := Nat.mul_le_mul_left _ (by omega)
    omega
  have e : Go.bits .and .u64 (x : Int) (IntKind.u64.wrap (0 - (x : Int))) = ((2 ^ t : Nat) : Int) := by
    have e1 : IntKind.u64.wrap (0 - (x : Int)) = ((2 ^ 64 - x : Nat) : Int) := by
      rw [w64]; omega
    rw [e1, bits_and_u64_nat x _ h (by omega), and_minus x t m hx h]
  unfold bits_TrailingZeros64.f
  rw [if_neg (by omega), e]
  have : ∀ i : Fin 64, (if 0 ≤ ((IntKind.u64.wrap (((2 ^ i.1 : Nat) : Int) * 285870213051353865)) / 288230376151711744) then (if ((IntKind.u64.wrap (((2 ^ i.1 : Nat) : Int) * 285870213051353865)) / 288230376151711744) < 64 then (some (wrap64 ((rd tab_deBruijn64tab ((IntKind.u64.wrap (((2 ^ i.1 : Nat) : Int) * 285870213051353865)) / 288230376151711744))))) else none) else none) = some ((i.1 : Nat) : Int) := by decide +kernel
  exact this ⟨t, ht⟩

theorem zeros_loop (a : List Int) (ha : Ok a) (hn : a.length ≤ 35184372088832) (T M : Nat) (hT : val a = 2 ^ T * (2 * M + 1)) (d : Nat) : ∀ i : Nat, i + d = a.length → val (a.take i) = 0 →
    Ev (fun k => nat_zeros.l0 k ((32 * i : Nat) : Int) a (a.length : Int) (i : Int)) (T : Int) := by
  have hp := Nat.two_pow_pos T
  have h0 : 0 < val a := by
    rw [hT]; exact Nat.mul_pos hp (by omega)
  induction d with
  | zero =>
    intro i hi hv
    obtain rfl : i = a.length := by omega
    rw [List.take_length] at hv
    omega
  | succ d ih =>
    intro i hi hv
    have ra := rd_ok ha (i : Int)
    by_cases hz : rd a (i : Int) = 0
    · refine Ev.step (fun k => ?_) (ih (i + 1) (by omega) ?_)
      · rw [nat_zeros.l0, if_pos (by omega), if_pos (by omega), if_pos (by omega), if_neg (by omega), wrap_id (by omega) (by omega), wrap_id (by omega) (by omega)]
        congr 1
      · rw [val_take_succ a i (by omega), hv, hz]; rfl
    · obtain ⟨x, hx⟩ : ∃ x : Nat, rd a (i : Int) = x := ⟨(rd a i).toNat, by omega⟩
      obtain ⟨t, m, hm⟩ := odd_part x (by omega)
      have ht : t < 32 := by
        apply Classical.byContradiction
        intro hc
        have h1 := Nat.pow_le_pow_right (n := 2) (by decide) (show 32 ≤ t by omega)
        have h2 : 2 ^ t * 1 ≤ 2 ^ t * (2 * m + 1) := Nat.mul_le_mul_left _ (by omega)
        omega
      have hs := split_two a ha i (by omega)
      rw [hv, Nat.zero_add, hx, Int.toNat_natCast, hm, hT] at hs
      have e1 : (4294967296 : Nat) ^ i = 2 ^ (32 * i) := by rw [show (4294967296 : Nat) = 2 ^ 32 from rfl, ← Nat.pow_mul]
      have e2 : (4294967296 : Nat) = 2 ^ t * (2 * 2 ^ (31 - t)) := by
        rw [show 2 * 2 ^ (31 - t) = 2 ^ (31 - t + 1) by rw [Nat.pow_succ, Nat.mul_comm], ← Nat.pow_add, show t + (31 - t + 1) = 32 by omega]
      have e3 : 2 ^ t * (2 * m + 1) + 4294967296 * val (a.drop (i + 1)) = 2 ^ t * (2 * (m + 2 ^ (31 - t) * val (a.drop (i + 1))) + 1) := by
        conv => lhs; rw [e2]
        grind
      rw [e3, e1, ← Nat.mul_assoc, ← Nat.pow_add] at hs
      have hTe := odd_unique _ _ _ _ hs
      refine Ev.step (fun k => ?_) (Ev.now _)
      rw [nat_zeros.l0, if_pos (by omega), if_pos (by omega), if_pos (by omega), if_pos (by omega), hx, tz64_eq x t m hm (by omega), Option.bind_some, wrap_id (i := 32 * (i : Int)) (by omega) (by omega), wrap_id (by omega) (by omega), hTe]
      congr 1
theorem zeros_ev (a : List Int) (ha : Ok a) (hn : a.length ≤ 35184372088832) (T M : Nat) (hT : val a = 2 ^ T * (2 * M + 1)) : Ev (fun k => nat_zeros.f k a) (T : Int) :=
  zeros_loop a ha hn T M hT a.length 0 (by omega) rfl

theorem lm_one {n : Nat} (h0 : n ≠ 0) (h : n < 4294967296) : lm n = [(n : Int)] := by
  rw [lm_pos h0, Nat.mod_eq_of_lt h, Nat.div_eq_of_lt h, lm_zero]
theorem lm_two {n : Nat} (h0 : 4294967296 ≤ n) (h : n < 18446744073709551616) : lm n = [((n % 4294967296 : Nat) : Int), ((n / 4294967296 : Nat) : Int)] := by
  rw [lm_pos (by omega), lm_one (by omega) (by omega)]
theorem len_le_one {n : Nat} : len n ≤ 1 ↔ n < 4294967296 := by
  constructor
  · intro h
    have h1 := lt_pow_len n
    have h2 := Nat.pow_le_pow_right (n := 4294967296) (by decide) h
    omega
  · intro h
    exact len_le (by omega)
theorem len_le_two {n : Nat} : len n ≤ 2 ↔ n < 18446744073709551616 := by
  constructor
  · intro h
    have h1 := lt_pow_len n
    have h2 := Nat.pow_le_pow_right (n := 4294967296) (by decide) h
    omega
  · intro h
    exact len_le (by omega)
theorem to_ev (a : List Int) (ha : U a) (hn : a.length ≤ 35184372088832) : Ev (fun k => nat_To.f k a) (if val a < 18446744073709551616 then ((val a : Int), true) else (0, false)) := by
  refine Ev.bind (clean_ev a ha hn) ?_
  generalize val a = n
  rw [lm_length]
  by_cases h0 : n = 0
  · subst h0
    refine Ev.congr (fun k => ?_) (Ev.now _)
    rw [if_pos (by rw [len_zero]; rfl)]
    rfl
  · have l0 : len n ≠ 0 := fun h => h0 (len_eq_zero.1 h)
    by_cases h1 : n < 4294967296
    · have l1 := len_le_one.2 h1
      refine Ev.congr (fun k => ?_) (Ev.now _)
      rw [if_neg (by omega), if_pos (by omega), if_pos (by omega), if_pos (by omega), lm_one h0 h1]
      rfl
    · have l1 : ¬ len n ≤ 1 := fun h => h1 (len_le_one.1 h)
      by_cases h2 : n < 18446744073709551616
      · have l2 := len_le_two.2 h2
        refine Ev.congr (fun k => ?_) (Ev.now _)
        rw [if_neg (by omega), if_neg (by omega), if_pos (by omega), if_pos (by omega), if_pos (by omega), if_pos h2, lm_two (by omega) h2]
        have := or_sum (x := ((n / 4294967296 : Nat) : Int)) (y := ((n % 4294967296 : Nat) : Int)) (by omega) (by omega) (by omega) (by omega)
        show some ((Go.bits .or .u64 (IntKind.u64.wrap (((n / 4294967296 : Nat) : Int) * 4294967296)) ((n % 4294967296 : Nat) : Int)), true) = _
        rw [this]
        congr 2
        omega
      · have l2 : ¬ len n ≤ 2 := fun h => h2 (len_le_two.1 h)
        refine Ev.congr (fun k => ?_) (Ev.now _)
        rw [if_neg (by omega), if_neg (by omega), if_neg (by omega), if_neg h2]

theorem euclid_loop : ∀ (y x : Nat), x < 18446744073709551616 → y < 18446744073709551616 → Ev (fun k => nat_euclid.l0 k (x : Int) (y : Int)) (lm (Nat.gcd x y)) := by
  intro y
  induction y using Nat.strongRecOn with
  | ind y ih =>
    intro x hx hy
    by_cases h0 : y = 0
    · subst h0
      rw [Nat.gcd_zero_right]
      refine Ev.step (f := fun k => (nat_Of.f k (x : Int)).bind fun v => some v) (fun k => ?_) (Ev.bind (of_ev (x : Int) (by omega) (by omega)) (Ev.now _))
      rw [nat_euclid.l0, if_neg (by omega)]
    · refine Ev.step (fun k => ?_) ((ih (x % y) (Nat.mod_lt _ (by omega)) y hy (Nat.lt_trans (Nat.mod_lt _ (by omega)) hy)).of_eq ?_)
      · rw [nat_euclid.l0, if_pos (by omega), if_neg (by omega)]
        rfl
      · rw [Nat.gcd_comm x y, Nat.gcd_rec y x, Nat.gcd_comm]
theorem euclid_ev (a b : Nat) (ha : a < 18446744073709551616) (hb : b < 18446744073709551616) : Ev (fun k => nat_euclid.f k (lm a) (lm b)) (lm (Nat.gcd a b)) := by
  have l : ∀ n : Nat, n < 18446744073709551616 → (lm n).length ≤ 35184372088832 := fun n h => by
    have := len_le_two.2 h
    rw [lm_length]; omega
  have e1 := to_ev (lm a) (lm_ok a).U (l a ha)
  have e2 := to_ev (lm b) (lm_ok b).U (l b hb)
  rw [val_lm, if_pos ha] at e1
  rw [val_lm, if_pos hb] at e2
  exact Ev.bind e1 (Ev.bind e2 (euclid_loop b a ha hb))
end Go.DI.Th
namespace Go.DI.Th
open Go Go.RowKit Go.DI

theorem val_drop_div (l : List Int) (i : Nat) (h : i ≤ l.length) : val (l.drop i) = val l / 4294967296 ^ i := by
  have := drop_more l 0 i (by omega)
  rwa [Nat.zero_add, List.drop_zero] at this
theorem val_take_mod (l : List Int) (i : Nat) (h : i ≤ l.length) : val (l.take i) = val l % 4294967296 ^ i := by
  have h1 := split_at l i
  rw [List.length_take, Nat.min_eq_left h] at h1
  have h2 := val_lt (l.take i)
  rw [List.length_take, Nat.min_eq_left h] at h2
  rw [h1, Nat.add_mul_mod_self_left, Nat.mod_eq_of_lt h2]
theorem rd_top (m : Nat) (h : m ≠ 0) : (rd (lm m) ((len m - 1 : Nat) : Int)).toNat = m / 4294967296 ^ (len m - 1) := by
  have h0 : len m ≠ 0 := fun e => h (len_eq_zero.1 e)
  have h1 := drop_one (lm m) (lm_ok m) (len m - 1) (by rw [lm_length]; omega)
  rw [← h1, val_drop_div _ _ (by rw [lm_length]; omega), val_lm]
theorem len_eq_of {m k : Nat} (h1 : 4294967296 ^ k ≤ m) (h2 : m < 4294967296 ^ (k + 1)) : len m = k + 1 := by
  have h3 := len_le h2
  apply Nat.le_antisymm h3
  apply Classical.byContradiction
  intro hc
  have h4 := lt_pow_len m
  have h5 := Nat.pow_le_pow_right (n := 4294967296) (by decide) (show len m ≤ k by omega)
  omega

theorem lg1 (A T P B V q D d Z : Nat) (hA : A = (T + P * (V * q + D)) + P * B * (d * V)) (hZ : Z = 0) : A = (T + P * (D + B * Z)) + P * ((q + B * d) * V) := by subst hZ; grind
theorem long_step (v u done : List Int) (s : Int) (j k : Nat) (hul : u.length ≤ 1099511627776) (hjn : j + 1 + v.length ≤ u.length) (hdl : done.length + (j + 1) ≤ 1099511627776) :
    nat_long.l0 (k + 1) s v u (v.length : Int) (List.replicate (j + 1) 0 ++ done) (((j + 1 : Nat) : Int) - 1) =
    (nat_digit.f k ((u.drop j).take (v.length + 1)) v).bind fun v12 => if v12.2.length = ((u.drop j).take (v.length + 1)).length then nat_long.l0 k s v (u.take j ++ v12.2 ++ u.drop (j + (v.length + 1))) (v.length : Int) (List.replicate j 0 ++ v12.1 :: done) ((j : Int) - 1) else none := by
  have t1 : (((j + 1 : Nat) : Int) - 1).toNat = j := by omega
  have t2 : (((j + v.length + 1 : Nat) : Int)).toNat = j + (v.length + 1) := by omega
  have t3 : j + (v.length + 1) - j = v.length + 1 := by omega
  have c1 : (((j + 1 : Nat) : Int) - 1) ≥ 0 := by omega
  have c2 : (((j + 1 : Nat) : Int) - 1) < ((j + v.length + 1 : Nat) : Int) := by omega
  have c3 : ((j + v.length + 1 : Nat) : Int) ≤ (u.length : Int) := by omega
  have c4 : (((j + 1 : Nat) : Int) - 1) < ((j + 1 + done.length : Nat) : Int) := by omega
  have w1 : wrap64 ((((j + 1 : Nat) : Int) - 1) + (v.length : Int)) = ((j + v.length : Nat) : Int) := by rw [wrap_id (by omega) (by omega)]; omega
  have w2 : wrap64 (((j + v.length : Nat) : Int) + 1) = ((j + v.length + 1 : Nat) : Int) := by clear w1; rw [wrap_id (by omega) (by omega)]; omega
  have w3 : wrap64 ((((j + 1 : Nat) : Int) - 1) - 1) = (j : Int) - 1 := by clear w1 w2; rw [wrap_id (by omega) (by omega)]; omega
  have hrl : (List.replicate (j + 1) (0 : Int) ++ done).length = j + 1 + done.length := by rw [List.length_append, List.length_replicate]
  rw [nat_long.l0, if_pos c1, w1, w2, w3, t1, t2, t3, if_pos c2, if_pos c3]
  congr 1
  funext v12
  rw [hrl, if_pos c4, fillr]
theorem long_digit (v : List Int) (hv : Ok v) (hv2 : 2 ≤ v.length) (hnorm : 2147483648 ≤ (rd v (v.length - 1 : Nat)).toNat) (A j : Nat) (u done : List Int) (hu : Ok u) (hd : Ok done) (hul : u.length ≤ 1099511627776) (hjn : j + 1 + v.length ≤ u.length)
    (hA : A = val u + 4294967296 ^ (j + 1) * (val done * val v)) (hlt : val (u.drop (j + 1)) < val v) :
    ∃ (D : List Int) (g : Int), Ev (fun k => nat_digit.f k ((u.drop j).take (v.length + 1)) v) (g, D) ∧ D.length = v.length + 1 ∧ ((u.drop j).take (v.length + 1)).length = v.length + 1 ∧ Ok (u.take j ++ D ++ u.drop (j + (v.length + 1))) ∧ (u.take j ++ D ++ u.drop (j + (v.length + 1))).length = u.length ∧
      Ok (g :: done) ∧ A = val (u.take j ++ D ++ u.drop (j + (v.length + 1))) + 4294967296 ^ j * (val (g :: done) * val v) ∧ val ((u.take j ++ D ++ u.drop (j + (v.length + 1))).drop j) < val v := by
  have hj : j < u.length := by omega
  have hdj : ∃ x : Nat, x < 4294967296 ∧ val (u.drop j) = x + 4294967296 * val (u.drop (j + 1)) := by
    have ru := rd_ok hu (j : Int)
    have hdj := val_drop u j hj
    rw [Int.emod_eq_of_lt ru.1 ru.2] at hdj
    exact ⟨(rd u j).toNat, by omega, hdj⟩
  obtain ⟨x, hx, hdj⟩ := hdj
  have hvl := val_lt v
  have hw : val (u.drop j) < 4294967296 * val v := by omega
  have hwl : ((u.drop j).take (v.length + 1)).length = v.length + 1 := by rw [List.length_take, List.length_drop]; omega
  have hbig : val (u.drop j) < 4294967296 ^ (v.length + 1) := by
    rw [Nat.pow_succ, Nat.mul_comm]
    exact Nat.lt_of_lt_of_le hw (Nat.mul_le_mul_left _ (Nat.le_of_lt hvl))
  have hwv : val ((u.drop j).take (v.length + 1)) = val (u.drop j) := by
    rw [val_take_mod _ _ (by rw [List.length_drop]; omega), Nat.mod_eq_of_lt hbig]
  obtain ⟨D, d1, d2, d3, d4⟩ := digit_ev ((u.drop j).take (v.length + 1)) v ((hu.drop j).take _) hv (by rw [hwl]; omega) (by rw [hwl]) hv2 hnorm (by rw [hwv]; exact hw)
  rw [hwv] at d3 d4
  rw [hwl] at d2
  have hhigh : val (u.drop (j + (v.length + 1))) = 0 := by
    rw [drop_more u j (v.length + 1) (by omega), Nat.div_eq_of_lt hbig]
  have hV : 0 < val v := Nat.lt_of_le_of_lt (Nat.zero_le _) hlt
  have hql : val (u.drop j) / val v < 4294967296 := by
    rw [Nat.div_lt_iff_lt_mul hV]; exact hw
  have hDlt : val D < val v := by rw [d3]; exact Nat.mod_lt _ hV
  have htl : (u.take j).length = j := by rw [List.length_take]; exact Nat.min_eq_left (Nat.le_of_lt hj)
  have hq0 : 0 ≤ (((val (u.drop j) / val v : Nat) : Int)) ∧ (((val (u.drop j) / val v : Nat) : Int)) < 4294967296 := ⟨Int.natCast_nonneg _, Int.ofNat_lt.2 hql⟩
  refine ⟨D, _, d4, d2, hwl, ((hu.take j).append d1).append (hu.drop _), ?_, Ok.cons hq0 hd, ?_, ?_⟩
  · simp only [List.length_append, List.length_take, List.length_drop, d2]; omega
  · have e1 := split_at u j
    rw [htl, ← Nat.div_add_mod (val (u.drop j)) (val v), ← d3] at e1
    rw [List.append_assoc, val_append, val_append, htl, val_cons]
    have e2 : (((val (u.drop j) / val v : Nat) : Int) % 4294967296).toNat = val (u.drop j) / val v := by
      rw [Int.emod_eq_of_lt hq0.1 hq0.2, Int.toNat_natCast]
    rw [e2, hhigh, Nat.mul_zero, Nat.add_zero]
    have e3 := lg1 A (val (u.take j)) (4294967296 ^ j) 4294967296 (val v) (val (u.drop j) / val v) (val D) (val done) 0 (by rw [← e1, ← Nat.pow_succ]; exact hA) rfl
    rw [Nat.mul_zero, Nat.add_zero] at e3
    exact e3
  · rw [List.append_assoc, List.drop_append_of_le_length (Nat.le_of_eq htl.symm), List.drop_of_length_le (Nat.le_of_eq htl), List.nil_append, val_append, hhigh, Nat.mul_zero, Nat.add_zero]
    exact hDlt
theorem long_loop (v : List Int) (hv : Ok v) (hv2 : 2 ≤ v.length) (hnorm : 2147483648 ≤ (rd v (v.length - 1 : Nat)).toNat) (s : Nat) (hs : s < 32) (A : Nat) : ∀ (j : Nat) (u done : List Int), Ok u → Ok done → u.length ≤ 1099511627776 → j + v.length ≤ u.length → done.length + j ≤ 1099511627776 →
    A = val u + 4294967296 ^ j * (val done * val v) → val (u.drop j) < val v →
    Ev (fun k => nat_long.l0 k (s : Int) v u (v.length : Int) (List.replicate j 0 ++ done) ((j : Int) - 1)) (lm (A / val v), lm (A % val v / 2 ^ s)) := by
  intro j
  induction j with
  | zero =>
    intro u done hu hd hul hjn hdl hA hlt
    rw [Nat.pow_zero, Nat.one_mul] at hA
    rw [List.drop_zero] at hlt
    have hV : 0 < val v := Nat.lt_of_le_of_lt (Nat.zero_le _) hlt
    have hq : A / val v = val done := by
      rw [hA, Nat.add_mul_div_right _ _ hV, Nat.div_eq_of_lt hlt, Nat.zero_add]
    have hr : A % val v = val u := by
      rw [hA, Nat.add_mul_mod_self_right, Nat.mod_eq_of_lt hlt]
    rw [hq, hr]
    have e1 := trim_ev done hd (by omega)
    have e2 := trim_ev u hu (by omega)
    have e3 := shr_ev (lm (val u)) (lm_ok _) s (by have := val_len u; rw [lm_length]; omega) (by omega)
    rw [val_lm] at e3
    refine Ev.step (f := fun k => (nat_trim.f k done).bind fun v3 => (nat_trim.f k u).bind fun v5 => (nat_shr.f k v5 (s : Int)).bind fun v7 => some (v3, v7)) (fun k => ?_) (Ev.bind e1 (Ev.bind e2 (Ev.bind e3 (Ev.now _))))
    rw [nat_long.l0, if_neg (by omega)]
    rfl
  | succ j ih =>
    intro u done hu hd hul hjn hdl hA hlt
    obtain ⟨D, g, d4, d2, hwl, hu', hl', hd', hA', hdr⟩ := long_digit v hv hv2 hnorm A j u done hu hd hul hjn hA hlt
    have hih := ih _ (g :: done) hu' hd' (by rw [hl']; exact hul) (by rw [hl']; omega) (by rw [List.length_cons]; omega) hA' hdr
    refine Ev.step (fun k => long_step v u done (s : Int) j k hul hjn hdl) (Ev.bind d4 ?_)
    refine Ev.congr (fun k => ?_) hih
    dsimp only
    rw [if_pos (by rw [d2, hwl])]
end Go.DI.Th
namespace Go.DI.Th
open Go Go.RowKit Go.DI

theorem w32 (n : Nat) (h : n < 4294967296) : IntKind.u32.wrap (n : Int) = (n : Int) := by
  rw [IntKind.wrap_u32]; omega
theorem lm_rd_top (b : Nat) (hb : b ≠ 0) : ∃ t : Nat, rd (lm b) ((len b - 1 : Nat) : Int) = (t : Int) ∧ t < 4294967296 ∧ t ≠ 0 ∧ t = b / 4294967296 ^ (len b - 1) := by
  have r := rd_ok (lm_ok b) ((len b - 1 : Nat) : Int)
  have h1 := rd_top b hb
  have hl : len b ≠ 0 := fun e => hb (len_eq_zero.1 e)
  have h2 := pow_le_len hb
  have hp : 0 < 4294967296 ^ (len b - 1) := Nat.pow_pos (by decide)
  have h3 : 1 ≤ b / 4294967296 ^ (len b - 1) := (Nat.le_div_iff_mul_le hp).2 (by omega)
  exact ⟨(rd (lm b) ((len b - 1 : Nat) : Int)).toNat, (Int.toNat_of_nonneg r.1).symm, (Int.toNat_lt r.1).2 r.2, by omega, h1⟩
theorem norm_len (b t : Nat) (hb : b ≠ 0) (ht : t = b / 4294967296 ^ (len b - 1)) (ht0 : t ≠ 0) (ht1 : t < 4294967296) : len (b * 2 ^ (32 - bl t)) = len b ∧ 2147483648 ≤ b * 2 ^ (32 - bl t) / 4294967296 ^ (len b - 1) := by
  obtain ⟨k, hk⟩ : ∃ k, len b = k + 1 := ⟨len b - 1, by have : len b ≠ 0 := fun e => hb (len_eq_zero.1 e); omega⟩
  have hp : 0 < 4294967296 ^ k := Nat.pow_pos (by decide)
  have hk1 : len b - 1 = k := by omega
  rw [hk1] at ht ⊢
  rw [hk]
  have h1 := bl_norm t ht0 ht1
  have h2 := bl_lt t
  have h3 := bl_32 t ht1
  have e1 : 2 ^ bl t * 2 ^ (32 - bl t) = 4294967296 := by rw [← Nat.pow_add, show bl t + (32 - bl t) = 32 by omega]
  have h4 : (t + 1) * 2 ^ (32 - bl t) ≤ 4294967296 := by
    rw [← e1]
    exact Nat.mul_le_mul_right _ h2
  have h5 : b < (t + 1) * 4294967296 ^ k := by
    rw [ht]
    exact Nat.lt_mul_of_div_lt (Nat.lt_succ_self _) hp
  have h6 : t * 4294967296 ^ k ≤ b := by
    rw [ht]
    exact Nat.div_mul_le_self _ _
  have h7 : t * 2 ^ (32 - bl t) * 4294967296 ^ k ≤ b * 2 ^ (32 - bl t) := by
    rw [Nat.mul_right_comm]
    exact Nat.mul_le_mul_right _ h6
  have h8 : b * 2 ^ (32 - bl t) < 4294967296 ^ (k + 1) := by
    have := Nat.mul_lt_mul_of_pos_right h5 (Nat.two_pow_pos (32 - bl t))
    rw [Nat.mul_right_comm] at this
    rw [Nat.pow_succ, Nat.mul_comm (4294967296 ^ k)]
    exact Nat.lt_of_lt_of_le this (Nat.mul_le_mul_right _ h4)
  refine ⟨len_eq_of ?_ h8, ?_⟩
  · refine Nat.le_trans ?_ h7
    have : 1 ≤ t * 2 ^ (32 - bl t) := by omega
    have := Nat.mul_le_mul_right (4294967296 ^ k) this
    omega
  · rw [Nat.le_div_iff_mul_le hp]
    exact Nat.le_trans (Nat.mul_le_mul_right _ h1.1) h7
theorem long_ev (a b : Nat) (hb : 2 ≤ len b) (hab : b ≤ a) (ha : len a ≤ 549755813888) : Ev (fun k => nat_long.f k (lm a) (lm b)) (lm (a / b), lm (a % b)) := by
  have hb0 : b ≠ 0 := fun e => by rw [e, len_zero] at hb; omega
  have hlab := len_mono hab
  obtain ⟨t, t1, t2, t3, t4⟩ := lm_rd_top b hb0
  obtain ⟨n1, n2⟩ := norm_len b t hb0 t4 t3 t2
  obtain ⟨s, hs⟩ : ∃ s, s = 32 - bl t := ⟨_, rfl⟩
  rw [← hs] at n1 n2
  have hs32 : s < 32 := by
    have : 1 ≤ bl t := by unfold bl; rw [if_neg t3]; omega
    omega
  have hp : 0 < 2 ^ s := Nat.two_pow_pos s
  have el := lz32_eq t t2
  rw [← hs] at el
  have ev := shl_ev (lm b) (lm_ok b) s (by rw [lm_length]; omega)
  rw [val_lm] at ev
  have eu := shl_ev (lm a) (lm_ok a) s (by rw [lm_length]; omega)
  rw [val_lm] at eu
  have hlu : len (a * 2 ^ s) ≤ len a + 1 := by
    refine len_le ?_
    rw [Nat.pow_succ]
    have h1 := lt_pow_len a
    have h2 : 2 ^ s ≤ 4294967296 := by
      have := Nat.pow_le_pow_right (n := 2) (by decide) (Nat.le_of_lt hs32)
      omega
    exact Nat.lt_of_lt_of_le (Nat.mul_lt_mul_of_pos_right h1 hp) (Nat.mul_le_mul_left _ h2)
  have hlu2 : len a ≤ len (a * 2 ^ s) := len_mono (by
    have := Nat.mul_le_mul_left a hp
    omega)
  have hul : ((lm (a * 2 ^ s) ++ [0, 0]).take (len a + 1)).length = len a + 1 := by
    rw [List.length_take, List.length_append, lm_length, List.length_cons, List.length_singleton]; omega
  have huok : Ok ((lm (a * 2 ^ s) ++ [0, 0]).take (len a + 1)) := Ok.take ((lm_ok _).append (Ok.zeros 2)) _
  have huv : val ((lm (a * 2 ^ s) ++ [0, 0]).take (len a + 1)) = a * 2 ^ s := by
    rw [val_take_mod _ _ (by rw [List.length_append, lm_length, List.length_cons, List.length_singleton]; omega), val_append, val_lm]
    have : val [0, 0] = 0 := rfl
    rw [this, Nat.mul_zero, Nat.add_zero, Nat.mod_eq_of_lt]
    exact Nat.lt_of_lt_of_le (lt_pow_len _) (Nat.pow_le_pow_right (by decide) hlu)
  have hvl : (lm (b * 2 ^ s)).length = len b := by rw [lm_length, n1]
  have hvv : val (lm (b * 2 ^ s)) = b * 2 ^ s := val_lm _
  have hbs0 : b * 2 ^ s ≠ 0 := Nat.ne_of_gt (Nat.mul_pos (Nat.pos_of_ne_zero hb0) hp)
  have hnorm : 2147483648 ≤ (rd (lm (b * 2 ^ s)) ((lm (b * 2 ^ s)).length - 1 : Nat)).toNat := by
    have := rd_top (b * 2 ^ s) hbs0
    rw [n1] at this
    rw [hvl, this]
    exact n2
  have hdrop : val (((lm (a * 2 ^ s) ++ [0, 0]).take (len a + 1)).drop (len a + 1 - len b)) < val (lm (b * 2 ^ s)) := by
    rw [val_drop_div _ _ (by rw [hul]; omega), huv, hvv]
    rw [Nat.div_lt_iff_lt_mul (Nat.pow_pos (by decide))]
    have h1 := lt_pow_len a
    have h3 := pow_le_len hb0
    have h5 : 4294967296 ^ len a = 4294967296 ^ (len b - 1) * 4294967296 ^ (len a + 1 - len b) := by rw [← Nat.pow_add]; congr 1; omega
    have h6 := Nat.mul_le_mul_right (4294967296 ^ (len a + 1 - len b)) h3
    rw [← h5] at h6
    rw [Nat.mul_right_comm]
    exact Nat.mul_lt_mul_of_pos_right (Nat.lt_of_lt_of_le h1 h6) hp
  have hmain := long_loop (lm (b * 2 ^ s)) (lm_ok _) (by rw [hvl]; exact hb) hnorm s hs32 (a * 2 ^ s) (len a + 1 - len b) ((lm (a * 2 ^ s) ++ [0, 0]).take (len a + 1)) [] huok Ok.nil (by rw [hul]; omega) (by rw [hul, hvl]; omega) (by simp; omega) (by rw [huv]; simp [val]) hdrop
  rw [hvv, Nat.mul_div_mul_right _ _ hp, Nat.mul_mod_mul_right, Nat.mul_div_cancel _ hp, hvl, List.append_nil] at hmain
  have e1 : (lm (a * 2 ^ s)).length + ([0, 0] : List Int).length < 17592186044417 := by
    clear t1 t4 n1 n2 hnorm hdrop hmain el ev eu huv hvv
    rw [lm_length, List.length_cons, List.length_singleton]; omega
  have e2 : ((len a + 1 : Nat) : Int) ≤ ((lm (a * 2 ^ s) ++ [0, 0]).length : Int) := by
    clear t1 t4 n1 n2 hnorm hdrop hmain el ev eu huv hvv e1
    rw [List.length_append, lm_length, List.length_cons, List.length_singleton]; omega
  have e3 : ((len a + 1 - len b : Nat) : Int).toNat ≤ 35184372088832 := by
    clear t1 t4 n1 n2 hnorm hdrop hmain el ev eu huv hvv e1 e2
    rw [Int.toNat_natCast]; omega
  unfold nat_long.f
  have c0 : wrap64 (((lm b).length : Int) - 1) = ((len b - 1 : Nat) : Int) := by
    clear t1 t4 n1 n2 hnorm hdrop hmain el ev eu huv hvv; rw [lm_length, wrap_id (by omega) (by omega)]; omega
  rw [c0]
  refine Ev.if_pos (Int.natCast_nonneg _) (Ev.if_pos (by rw [lm_length]; exact Int.ofNat_lt.2 (by omega)) ?_)
  rw [t1, w32 t t2, el]
  refine Ev.bind (Ev.now _) (Ev.bind ev (Ev.bind eu ?_))
  refine Ev.congr (fun k => ?_) hmain
  have d1 : wrap64 (((lm a).length : Int) + 1) = ((len a + 1 : Nat) : Int) := by
    clear c0 t1 t4 n1 n2 hnorm hdrop hmain el ev eu huv hvv; rw [lm_length, wrap_id (by omega) (by omega)]; omega
  have d2 : wrap64 (((len a + 1 : Nat) : Int) - (len b : Int)) = ((len a + 1 - len b : Nat) : Int) := by
    clear c0 d1 t1 t4 n1 n2 hnorm hdrop hmain el ev eu huv hvv; rw [wrap_id (by omega) (by omega)]; omega
  have d3 : wrap64 (((len a + 1 - len b : Nat) : Int) - 1) = ((len a + 1 - len b : Nat) : Int) - 1 := by
    clear c0 d1 d2 t1 t4 n1 n2 hnorm hdrop hmain el ev eu huv hvv; rw [wrap_id (by omega) (by omega)]
  rw [if_pos e1, d1, if_pos (Int.natCast_nonneg _), if_pos e2, Int.toNat_natCast, hul, hvl, d2, if_pos (Int.natCast_nonneg _), if_pos e3, Int.toNat_natCast, List.length_replicate, d3]

theorem divmod_ev (a b : List Int) (ha : U a) (hb : U b) (hla : a.length ≤ 549755813888) (hlb : b.length ≤ 549755813888) :
    Ev (fun k => nat_DivMod.f k a b) (if val b = 0 then ([], [], 2) else (lm (val a / val b), lm (val a % val b), 0)) := by
  have la := val_len a
  have lb := val_len b
  refine Ev.bind (clean_ev a ha (by omega)) (Ev.bind (clean_ev b hb (by omega)) ?_)
  generalize val a = x at la ⊢
  generalize val b = y at lb ⊢
  have hlx : len x ≤ 549755813888 := by omega
  have hly : len y ≤ 549755813888 := by omega
  clear la lb
  rw [lm_length]
  by_cases h0 : y = 0
  · subst h0
    rw [if_pos rfl]
    exact Ev.congr (fun k => by rw [if_pos (by rw [len_zero]; rfl)]) (Ev.now _)
  · rw [if_neg h0]
    have hl0 : len y ≠ 0 := fun e => h0 (len_eq_zero.1 e)
    refine Ev.congr (f := fun k => (nat_order.f k (lm x) (lm y)).bind fun v15 => (if v15 < 0 then (some (([] : List Int), lm x, 0)) else (if (len y : Int) = 1 then (if 0 < (len y : Int) then ((nat_small.f k (lm x) (rd (lm y) 0)).bind fun v26 => ((nat_Of.f k v26.2).bind fun v34 => (some (v26.1, v34, 0)))) else none) else ((nat_long.f k (lm x) (lm y)).bind fun v24 => (some (v24.1, v24.2, 0)))))) (fun k => by rw [if_neg (by omega)]) ?_
    refine Ev.bind (order_ev x y (by omega) (by omega)) ?_
    unfold cmp
    by_cases h1 : x < y
    · rw [if_pos h1]
      refine Ev.congr (fun k => by rw [if_pos (by decide)]) ((Ev.now _).of_eq ?_)
      rw [Nat.div_eq_of_lt h1, Nat.mod_eq_of_lt h1, lm_zero]
    · have hc : ¬ (if x < y then (-1 : Int) else if y < x then 1 else 0) < 0 := by
        rw [if_neg h1]; split <;> decide
      refine Ev.if_neg hc ?_
      by_cases h2 : len y = 1
      · have hy1 : y < 4294967296 := len_le_one.1 (by omega)
        have hr : rd (lm y) 0 = (y : Int) := by rw [lm_one h0 hy1]; rfl
        refine Ev.if_pos (by omega) (Ev.if_pos (by omega) ?_)
        rw [hr]
        have es := small_ev (lm x) (lm_ok x) (by rw [lm_length]; omega) y (by omega) hy1
        rw [val_lm] at es
        refine Ev.bind es (Ev.bind (of_ev _ (Int.natCast_nonneg _) ?_) ?_)
        · have := Nat.mod_lt x (show 0 < y by omega)
          show ((x % y : Nat) : Int) < 18446744073709551616
          omega
        · exact Ev.now _
      · refine Ev.if_neg (by omega) (Ev.bind (long_ev x y (by omega) (by omega) hlx) (Ev.now _))
theorem rest_ev (a b : List Int) (ha : U a) (hb : U b) (hla : a.length ≤ 549755813888) (hlb : b.length ≤ 549755813888) (h0 : val b ≠ 0) :
    Ev (fun k => nat_rest.f k a b) (lm (val a / val b), lm (val a % val b)) := by
  have h := divmod_ev a b ha hb hla hlb
  rw [if_neg h0] at h
  exact Ev.bind h (Ev.now _)

theorem gcd_odd_mul (t m p : Nat) (hp : p % 2 = 1) : Nat.gcd (2 ^ t * m) p = Nat.gcd m p := by
  have h2 : Nat.Coprime 2 p := by
    unfold Nat.Coprime
    rw [Nat.gcd_rec, hp]
    rfl
  exact (h2.pow_left t).gcd_mul_left_cancel m
theorem odd_ev (r : Nat) (hr : r ≠ 0) (hl : len r ≤ 549755813888) (p x y : Nat) (q : List Int) (hp : p % 2 = 1) (ih : ∀ m, m % 2 = 1 → m ≤ r → m ≠ 0 → Nat.gcd m p = Nat.gcd r p → Ev (fun k => nat_Gcd.l0 k (lm m) (lm p) (x : Int) (y : Int)) q) :
    Ev (fun k => (nat_zeros.f k (lm r)).bind fun v => (nat_shr.f k (lm r) v).bind fun w => nat_Gcd.l0 k w (lm p) (x : Int) (y : Int)) q := by
  obtain ⟨t, m, hm⟩ := odd_part r hr
  have hpw := Nat.two_pow_pos t
  have ht : t ≤ 32 * len r := by
    apply Classical.byContradiction
    intro hc
    have h1 := lt_pow_len r
    rw [show (4294967296 : Nat) = 2 ^ 32 from rfl, ← Nat.pow_mul] at h1
    have h2 := Nat.pow_le_pow_right (n := 2) (by decide) (show 32 * len r ≤ t by omega)
    have h3 : 2 ^ t * 1 ≤ 2 ^ t * (2 * m + 1) := Nat.mul_le_mul_left _ (by omega)
    omega
  have ez := zeros_ev (lm r) (lm_ok r) (by rw [lm_length]; omega) t m (by rw [val_lm]; exact hm)
  have es := shr_ev (lm r) (lm_ok r) t (by rw [lm_length]; omega) (by omega)
  have hd : val (lm r) / 2 ^ t = 2 * m + 1 := by rw [val_lm, hm, Nat.mul_div_cancel_left _ hpw]
  rw [hd] at es
  refine Ev.bind ez (Ev.bind es (ih (2 * m + 1) (by omega) ?_ (by omega) ?_))
  · have := Nat.mul_le_mul_right (2 * m + 1) hpw
    omega
  · rw [hm, gcd_odd_mul t _ p hp]
theorem gcd_loop (x y : Nat) (hx : x ≤ 17592186044416) (hy : y ≤ 17592186044416) : ∀ (n p q : Nat), p + q ≤ n → p % 2 = 1 → q % 2 = 1 → len p ≤ 549755813888 → len q ≤ 549755813888 →
    Ev (fun k => nat_Gcd.l0 k (lm p) (lm q) (x : Int) (y : Int)) (lm (Nat.gcd p q * 2 ^ min x y)) := by
  have shl_end : ∀ p : Nat, len p ≤ 549755813888 → Ev (fun k => (nat_shl.f k (lm p) (mn (x : Int) (y : Int))).bind fun v => some v) (lm (p * 2 ^ min x y)) := by
    intro p hp
    have em : mn (x : Int) (y : Int) = ((min x y : Nat) : Int) := by
      show mnI _ _ = _
      unfold mnI
      split <;> omega
    have es := shl_ev (lm p) (lm_ok p) (min x y) (by rw [lm_length]; omega)
    rw [val_lm] at es
    rw [em]
    exact Ev.bind es (Ev.now _)
  intro n
  induction n with
  | zero => intro p q h h1 h2; omega
  | succ n ih =>
    intro p q h h1 h2 l1 l2
    have big : ∀ a b : Nat, a % 2 = 1 → b % 2 = 1 → b < a → a + b ≤ n + 1 → len a ≤ 549755813888 → len b ≤ 549755813888 →
        Ev (fun k => if ((lm a).length : Int) > wrap64 (((lm b).length : Int) + 1) then ((nat_rest.f k (lm a) (lm b)).bind fun v22 => (if (v22.2.length : Int) = 0 then ((nat_shl.f k (lm b) (mn (x : Int) (y : Int))).bind fun v34 => (some v34)) else ((nat_zeros.f k v22.2).bind fun v32 => ((nat_shr.f k v22.2 v32).bind fun v33 => (nat_Gcd.l0 k v33 (lm b) (x : Int) (y : Int)))))) else ((nat_minus.f k (lm a) (lm b)).bind fun v22 => ((nat_zeros.f k v22).bind fun v26 => ((nat_shr.f k v22 v26).bind fun v27 => (nat_Gcd.l0 k v27 (lm b) (x : Int) (y : Int)))))) (lm (Nat.gcd a b * 2 ^ min x y)) := by
      intro a b ha hb hlt hsum la lb
      by_cases hc : ((lm a).length : Int) > wrap64 (((lm b).length : Int) + 1)
      · have er := rest_ev (lm a) (lm b) (lm_ok a).U (lm_ok b).U (by rw [lm_length]; omega) (by rw [lm_length]; omega) (by rw [val_lm]; omega)
        rw [val_lm, val_lm] at er
        refine Ev.if_pos hc (Ev.bind er ?_)
        dsimp only
        rw [lm_length]
        have hm := Nat.mod_lt a (show 0 < b by omega)
        by_cases hz : a % b = 0
        · have e0 : (len (a % b) : Int) = 0 := by rw [hz, len_zero]; rfl
          refine Ev.if_pos e0 ((shl_end b lb).of_eq ?_)
          rw [Nat.gcd_comm a b, Nat.gcd_rec b a, hz, Nat.gcd_zero_left]
        · have e0 : ¬ (len (a % b) : Int) = 0 := by
            intro e
            exact hz (len_eq_zero.1 (by omega))
          refine Ev.if_neg e0 (odd_ev (a % b) hz (Nat.le_trans (len_mono (Nat.le_of_lt hm)) lb) b x y _ hb fun m m1 m2 m3 m4 => ?_)
          have hlm : len m ≤ 549755813888 := Nat.le_trans (len_mono (by omega)) lb
          refine (ih m b (by omega) m1 hb hlm lb).of_eq ?_
          rw [m4, ← Nat.gcd_rec, Nat.gcd_comm]
      · have em := minus_ev (lm a) (lm b) (lm_ok a) (lm_ok b) (by rw [lm_length]; omega) (by rw [val_lm, val_lm]; omega)
        rw [val_lm, val_lm] at em
        refine Ev.if_neg hc (Ev.bind em ?_)
        refine odd_ev (a - b) (by omega) (Nat.le_trans (len_mono (Nat.sub_le _ _)) la) b x y _ hb fun m m1 m2 m3 m4 => ?_
        have hlm : len m ≤ 549755813888 := Nat.le_trans (len_mono (by omega)) la
        refine (ih m b (by omega) m1 hb hlm lb).of_eq ?_
        rw [m4, Nat.gcd_sub_self_left (Nat.le_of_lt hlt)]
    refine Ev.step (f := fun k => (nat_order.f k (lm p) (lm q)).bind fun v2 => (if v2 = 0 then ((nat_shl.f k (lm p) (mn (x : Int) (y : Int))).bind fun v11 => (some v11)) else (if v2 < 0 then (if ((lm q).length : Int) > (wrap64 (((lm p).length : Int) + 1)) then ((nat_rest.f k (lm q) (lm p)).bind fun v22 => (if (v22.2.length : Int) = 0 then ((nat_shl.f k (lm p) (mn (x : Int) (y : Int))).bind fun v34 => (some v34)) else ((nat_zeros.f k v22.2).bind fun v32 => ((nat_shr.f k v22.2 v32).bind fun v33 => (nat_Gcd.l0 k v33 (lm p) (x : Int) (y : Int)))))) else ((nat_minus.f k (lm q) (lm p)).bind fun v22 => ((nat_zeros.f k v22).bind fun v26 => ((nat_shr.f k v22 v26).bind fun v27 => (nat_Gcd.l0 k v27 (lm p) (x : Int) (y : Int)))))) else (if ((lm p).length : Int) > (wrap64 (((lm q).length : Int) + 1)) then ((nat_rest.f k (lm p) (lm q)).bind fun v18 => (if (v18.2.length : Int) = 0 then ((nat_shl.f k (lm q) (mn (x : Int) (y : Int))).bind fun v30 => (some v30)) else ((nat_zeros.f k v18.2).bind fun v28 => ((nat_shr.f k v18.2 v28).bind fun v29 => (nat_Gcd.l0 k v29 (lm q) (x : Int) (y : Int)))))) else ((nat_minus.f k (lm p) (lm q)).bind fun v18 => ((nat_zeros.f k v18).bind fun v22 => ((nat_shr.f k v18 v22).bind fun v23 => (nat_Gcd.l0 k v23 (lm q) (x : Int) (y : Int)))))))))
      (fun k => by rw [nat_Gcd.l0]) (Ev.bind (order_ev p q (by omega) (by omega)) ?_)
    unfold cmp
    rcases Nat.lt_trichotomy p q with hlt | heq | hgt
    · rw [if_pos hlt]
      refine Ev.if_neg (by decide) (Ev.if_pos (by decide) ?_)
      rw [Nat.gcd_comm]
      exact big q p h2 h1 hlt (by omega) l2 l1
    · subst heq
      rw [if_neg (Nat.lt_irrefl _), if_neg (Nat.lt_irrefl _), Nat.gcd_self]
      exact Ev.if_pos rfl (shl_end p l1)
    · rw [if_neg (by omega), if_pos hgt]
      exact Ev.if_neg (by decide) (Ev.if_neg (by decide) (big p q h1 h2 hgt h l1 l2))
theorem gcd_parts (t m t' m' : Nat) : Nat.gcd (2 ^ t * (2 * m + 1)) (2 ^ t' * (2 * m' + 1)) = Nat.gcd (2 * m + 1) (2 * m' + 1) * 2 ^ min t t' := by
  have main : ∀ t t' m m' : Nat, t ≤ t' → Nat.gcd (2 ^ t * (2 * m + 1)) (2 ^ t' * (2 * m' + 1)) = Nat.gcd (2 * m + 1) (2 * m' + 1) * 2 ^ t := by
    intro t t' m m' h
    obtain ⟨d, rfl⟩ : ∃ d, t' = t + d := ⟨t' - t, by omega⟩
    rw [Nat.pow_add, Nat.mul_assoc, Nat.gcd_mul_left, Nat.gcd_comm, gcd_odd_mul d _ _ (by omega), Nat.gcd_comm, Nat.mul_comm]
  rcases Nat.le_total t t' with h | h
  · rw [main t t' m m' h, Nat.min_eq_left h]
  · rw [Nat.gcd_comm, main t' t m' m h, Nat.min_eq_right h, Nat.gcd_comm]
theorem gcd_ev (a b : List Int) (ha : U a) (hb : U b) (hla : a.length ≤ 549755813888) (hlb : b.length ≤ 549755813888) : Ev (fun k => nat_Gcd.f k a b) (lm (Nat.gcd (val a) (val b))) := by
  have la := val_len a
  have lb := val_len b
  refine Ev.bind (clean_ev a ha (by omega)) (Ev.bind (clean_ev b hb (by omega)) ?_)
  generalize val a = x at la ⊢
  generalize val b = y at lb ⊢
  have hlx : len x ≤ 549755813888 := by omega
  have hly : len y ≤ 549755813888 := by omega
  clear la lb
  rw [lm_length, lm_length]
  by_cases hx : x = 0
  · subst hx
    rw [Nat.gcd_zero_left]
    exact Ev.if_pos (by rw [len_zero]; rfl) (Ev.now _)
  have hx0 : len x ≠ 0 := fun e => hx (len_eq_zero.1 e)
  refine Ev.if_neg (by omega) ?_
  by_cases hy : y = 0
  · subst hy
    rw [Nat.gcd_zero_right]
    exact Ev.if_pos (by rw [len_zero]; rfl) (Ev.now _)
  have hy0 : len y ≠ 0 := fun e => hy (len_eq_zero.1 e)
  refine Ev.if_neg (by omega) ?_
  have main : Ev (fun k => (nat_zeros.f k (lm x)).bind fun v24 => ((nat_zeros.f k (lm y)).bind fun v26 => ((nat_shr.f k (lm x) v24).bind fun v31 => ((nat_shr.f k (lm y) v26).bind fun v34 => (nat_Gcd.l0 k v31 v34 v24 v26))))) (lm (Nat.gcd x y)) := by
    have part : ∀ r : Nat, r ≠ 0 → len r ≤ 549755813888 → ∃ t m : Nat, r = 2 ^ t * (2 * m + 1) ∧ t ≤ 17592186044416 ∧ Ev (fun k => nat_zeros.f k (lm r)) (t : Int) ∧ Ev (fun k => nat_shr.f k (lm r) (t : Int)) (lm (2 * m + 1)) ∧ len (2 * m + 1) ≤ 549755813888 := by
      intro r hr hl
      obtain ⟨t, m, hm⟩ := odd_part r hr
      have hpw := Nat.two_pow_pos t
      have h3 : 2 ^ t * 1 ≤ 2 ^ t * (2 * m + 1) := Nat.mul_le_mul_left _ (by omega)
      have h4 : 1 * (2 * m + 1) ≤ 2 ^ t * (2 * m + 1) := Nat.mul_le_mul_right _ hpw
      have ht : t ≤ 32 * len r := by
        apply Classical.byContradiction
        intro hc
        have h1 := lt_pow_len r
        rw [show (4294967296 : Nat) = 2 ^ 32 from rfl, ← Nat.pow_mul] at h1
        have h2 := Nat.pow_le_pow_right (n := 2) (by decide) (show 32 * len r ≤ t by omega)
        omega
      have ez := zeros_ev (lm r) (lm_ok r) (by rw [lm_length]; omega) t m (by rw [val_lm]; exact hm)
      have es := shr_ev (lm r) (lm_ok r) t (by rw [lm_length]; omega) (by omega)
      have hd : val (lm r) / 2 ^ t = 2 * m + 1 := by rw [val_lm, hm, Nat.mul_div_cancel_left _ hpw]
      rw [hd] at es
      exact ⟨t, m, hm, by omega, ez, es, Nat.le_trans (len_mono (by omega)) hl⟩
    obtain ⟨t, m, e1, e2, e3, e4, e5⟩ := part x hx hlx
    obtain ⟨t', m', f1, f2, f3, f4, f5⟩ := part y hy hly
    refine Ev.bind e3 (Ev.bind f3 (Ev.bind e4 (Ev.bind f4 ?_)))
    refine (gcd_loop t t' e2 f2 _ (2 * m + 1) (2 * m' + 1) (Nat.le_refl _) (by omega) (by omega) e5 f5).of_eq ?_
    rw [e1, f1, gcd_parts]
  by_cases h1 : len x ≤ 2
  · refine Ev.if_pos (by omega) ?_
    by_cases h2 : len y ≤ 2
    · exact Ev.if_pos (by omega) (Ev.bind (euclid_ev x y (len_le_two.1 h1) (len_le_two.1 h2)) (Ev.now _))
    · exact Ev.if_neg (by omega) main
  · exact Ev.if_neg (by omega) main
end Go.DI.Th
namespace Go.DI.Th
open Go Go.RowKit Go.DI

def wv (b : Bool) (l : List Int) : Int := if b then -(val l : Int) else (val l : Int)
def wl (z : Int) : Bool × List Int := (decide (z < 0), lm z.natAbs)
theorem wv_abs (b : Bool) (l : List Int) : (wv b l).natAbs = val l := by
  unfold wv
  cases b <;> simp
theorem wv_wl (z : Int) : wv (wl z).1 (wl z).2 = z := by
  unfold wv wl
  simp only [val_lm]
  by_cases h : z < 0
  · simp only [h, decide_true, if_true]; omega
  · simp only [h, decide_false]; rw [if_neg (by simp)]; omega
theorem sign_eq (b : Bool) (n : Nat) : whole_sign.f b (lm n) = some (wl (if b then -(n : Int) else n)) := by
  unfold whole_sign.f wl
  cases b with
  | true =>
    rw [if_pos rfl, if_pos rfl, Int.natAbs_neg, Int.natAbs_natCast, lm_length]
    congr 2
    by_cases h : n = 0
    · subst h; rw [len_zero]; rfl
    · have : len n ≠ 0 := fun e => h (len_eq_zero.1 e)
      rw [decide_eq_true (by omega), decide_eq_true (by omega)]
  | false =>
    rw [if_neg (by simp), if_neg (by simp), Int.natAbs_natCast]
    rw [decide_eq_false (show ¬ ((n : Int) < 0) by omega)]
theorem wclean_ev (b : Bool) (l : List Int) (h : U l) (hn : l.length ≤ 35184372088832) : Ev (fun k => whole_Clean.f k b l) (wl (wv b l)) := by
  refine Ev.bind (clean_ev l h hn) ?_
  rw [sign_eq]
  exact Ev.now _
theorem w64_neg (n : Nat) (h0 : n ≠ 0) (h : n ≤ 9223372036854775808) : IntKind.u64.wrap (0 - IntKind.u64.wrap (-(n : Int))) = (n : Int) := by
  rw [w64, w64]; omega
theorem w64_nat (n : Nat) (h : n < 18446744073709551616) : IntKind.u64.wrap (n : Int) = (n : Int) := by
  rw [w64]; omega
theorem ofN_ev (n : Nat) (h : n < 18446744073709551616) : Ev (fun k => nat_Of.f k (n : Int)) (lm n) := by
  have := of_ev (n : Int) (by omega) (by omega)
  rwa [Int.toNat_natCast] at this
def rl (z : Int) (q : Nat) : Bool × List Int × List Int := (decide (z < 0), lm (z.natAbs / Nat.gcd z.natAbs q), lm (q / Nat.gcd z.natAbs q))
theorem rl_zero (q : Nat) (h : q ≠ 0) : rl 0 q = (false, [], lm 1) := by
  unfold rl
  rw [Int.natAbs_zero, Nat.gcd_zero_left, Nat.zero_div, lm_zero, Nat.div_self (by omega)]
  rfl
theorem form_ev (z : Int) (q : Nat) (hq : q ≠ 0) (hl : len z.natAbs ≤ 549755813888) (hlq : len q ≤ 549755813888) : Ev (fun k => ratio_form.f k (decide (z < 0)) (lm z.natAbs) (lm q)) (rl z q) := by
  by_cases hz : z = 0
  · subst hz
    rw [rl_zero q hq]
    refine Ev.if_pos (by rw [Int.natAbs_zero, lm_zero]; rfl) (Ev.bind (ofN_ev 1 (by decide)) (Ev.now _))
  · unfold rl
    generalize hp : z.natAbs = p at hl ⊢
    have hp0 : p ≠ 0 := by omega
    have hlp : len p ≠ 0 := fun e => hp0 (len_eq_zero.1 e)
    refine Ev.if_neg (by rw [lm_length]; omega) ?_
    have eg := gcd_ev (lm p) (lm q) (lm_ok p).U (lm_ok q).U (by rw [lm_length]; exact hl) (by rw [lm_length]; exact hlq)
    rw [val_lm, val_lm] at eg
    refine Ev.bind eg ?_
    have hg0 : 0 < Nat.gcd p q := Nat.gcd_pos_of_pos_left _ (by omega)
    have hgp : Nat.gcd p q ≤ p := Nat.gcd_le_left _ (by omega)
    generalize Nat.gcd p q = g at hg0 hgp ⊢
    have hlg : len g ≤ 549755813888 := Nat.le_trans (len_mono hgp) hl
    have hlg0 : len g ≠ 0 := fun e => by have := len_eq_zero.1 e; omega
    have div : Ev (fun k => (nat_DivMod.f k (lm p) (lm g)).bind fun v23 => ((nat_DivMod.f k (lm q) (lm g)).bind fun v33 => (some (decide (z < 0), v23.1, v33.1)))) (decide (z < 0), lm (p / g), lm (q / g)) := by
      have d1 := divmod_ev (lm p) (lm g) (lm_ok p).U (lm_ok g).U (by rw [lm_length]; exact hl) (by rw [lm_length]; exact hlg)
      have d2 := divmod_ev (lm q) (lm g) (lm_ok q).U (lm_ok g).U (by rw [lm_length]; exact hlq) (by rw [lm_length]; exact hlg)
      rw [val_lm, val_lm, if_neg (by omega)] at d1 d2
      exact Ev.bind d1 (Ev.bind d2 (Ev.now _))
    rw [lm_length]
    by_cases h1 : len g = 1
    · have hg1 : g < 4294967296 := len_le_one.1 (by omega)
      have hr : rd (lm g) 0 = (g : Int) := by rw [lm_one (by omega) hg1]; rfl
      refine Ev.if_pos (by omega) (Ev.if_pos (by omega) ?_)
      rw [hr]
      by_cases h2 : g = 1
      · subst h2
        rw [Nat.div_one, Nat.div_one]
        exact Ev.if_pos rfl (Ev.now _)
      · exact Ev.if_neg (by omega) div
    · exact Ev.if_neg (by omega) div
def num (b : Bool) (n d : List Int) : Int := if val d = 0 then 0 else wv b n
def den (d : List Int) : Nat := if val d = 0 then 1 else val d
theorem den_pos (d : List Int) : den d ≠ 0 := by
  unfold den; split <;> omega
theorem rclean_ev (b : Bool) (n d : List Int) (hn : U n) (hd : U d) (hln : n.length ≤ 549755813888) (hld : d.length ≤ 549755813888) : Ev (fun k => ratio_Clean.f k b n d) (rl (num b n d) (den d)) := by
  have lvn := val_len n
  have lvd := val_len d
  refine Ev.bind (clean_ev d hd (by omega)) ?_
  unfold num den
  by_cases h0 : val d = 0
  · rw [h0, if_pos rfl, if_pos rfl, rl_zero 1 (by decide)]
    refine Ev.if_pos (by rw [lm_zero]; rfl) (Ev.bind (Ev.bind (ofN_ev 1 (by decide)) (Ev.now _)) (Ev.now _))
  · have hl0 : len (val d) ≠ 0 := fun e => h0 (len_eq_zero.1 e)
    rw [if_neg h0, if_neg h0]
    refine Ev.if_neg (by rw [lm_length]; omega) (Ev.bind (wclean_ev b n hn (by omega)) ?_)
    exact Ev.bind (a := rl (wv b n) (val d)) (form_ev (wv b n) (val d) h0 (by rw [wv_abs]; omega) (by omega)) (Ev.now _)
theorem len_small {n : Nat} (h : n < 18446744073709551616) : len n ≤ 2 := len_le_two.2 h
theorem wl_nat (n : Nat) : wl (n : Int) = (false, lm n) := by
  unfold wl
  rw [decide_eq_false (show ¬ ((n : Int) < 0) by omega), Int.natAbs_natCast]
def rnum (z : Int) (q : Nat) : Int := if z < 0 then -((z.natAbs / Nat.gcd z.natAbs q : Nat) : Int) else ((z.natAbs / Nat.gcd z.natAbs q : Nat) : Int)
def rden (z : Int) (q : Nat) : Nat := q / Nat.gcd z.natAbs q
theorem gcd_pos_right (p q : Nat) (h : q ≠ 0) : 0 < Nat.gcd p q := Nat.gcd_pos_of_pos_right _ (by omega)
theorem rnum_abs (z : Int) (q : Nat) : (rnum z q).natAbs = z.natAbs / Nat.gcd z.natAbs q := by
  unfold rnum
  generalize z.natAbs / Nat.gcd z.natAbs q = m
  split <;> omega
theorem rnum_neg (z : Int) (q : Nat) (h : q ≠ 0) : (rnum z q < 0) ↔ z < 0 := by
  unfold rnum
  have hg := gcd_pos_right z.natAbs q h
  constructor
  · intro h1
    apply Classical.byContradiction
    intro h2
    rw [if_neg h2] at h1
    generalize z.natAbs / Nat.gcd z.natAbs q = m at h1
    omega
  · intro h1
    rw [if_pos h1]
    have : 0 < z.natAbs / Nat.gcd z.natAbs q := Nat.div_pos (Nat.gcd_le_left _ (by omega)) hg
    generalize z.natAbs / Nat.gcd z.natAbs q = m at this ⊢
    omega
end Go.DI.Th
namespace Go.DI.Th
open Go Go.RowKit Go.DI

abbrev Rt := Bool × List Int × List Int
def RtOk (r : Rt) : Prop := U r.2.1 ∧ U r.2.2 ∧ r.2.1.length ≤ 1048576 ∧ r.2.2.length ≤ 1048576
end Go.DI.Th
namespace Go.DI.Th
open Go Go.RowKit Go.DI

def cn (x : Rat) : Rt := (decide (x.num < 0), lm x.num.natAbs, lm x.den)
def rv (r : Rt) : Rat := mkRat (num r.1 r.2.1 r.2.2) (den r.2.2)
theorem div_gcd (z : Int) (g : Nat) (hg : g ≠ 0) (h : g ∣ z.natAbs) : z / (g : Int) = if z < 0 then -((z.natAbs / g : Nat) : Int) else ((z.natAbs / g : Nat) : Int) := by
  obtain ⟨m, hm⟩ := h
  rw [hm, Nat.mul_div_cancel_left m (by omega)]
  have hg' : (g : Int) ≠ 0 := by omega
  by_cases hz : z < 0
  · rw [if_pos hz]
    have e : z = (g : Int) * (-(m : Int)) := by
      have : (z.natAbs : Int) = g * m := by rw [hm]; exact Int.natCast_mul _ _
      rw [Int.mul_neg]
      omega
    rw [e, Int.mul_ediv_cancel_left _ hg']
  · rw [if_neg hz]
    have e : z = (g : Int) * (m : Int) := by
      have : (z.natAbs : Int) = g * m := by rw [hm]; exact Int.natCast_mul _ _
      omega
    rw [e, Int.mul_ediv_cancel_left _ hg']
theorem num_mk (z : Int) (q : Nat) (h : q ≠ 0) : (mkRat z q).num = rnum z q := by
  rw [Rat.num_mkRat, if_neg h, Nat.gcd_comm, div_gcd z _ (by have := gcd_pos_right z.natAbs q h; omega) (Nat.gcd_dvd_left _ _)]
  rfl
theorem den_mk (z : Int) (q : Nat) (h : q ≠ 0) : (mkRat z q).den = rden z q := by
  rw [Rat.den_mkRat, if_neg h, Nat.gcd_comm]
  rfl
theorem rl_cn (z : Int) (q : Nat) (h : q ≠ 0) : rl z q = cn (mkRat z q) := by
  unfold rl cn
  rw [num_mk z q h, den_mk z q h, rnum_abs]
  congr 1
  exact decide_eq_decide.2 (rnum_neg z q h).symm
theorem val_cn (x : Rat) : val (cn x).2.1 = x.num.natAbs ∧ val (cn x).2.2 = x.den := ⟨val_lm _, val_lm _⟩
theorem wv_cn (x : Rat) : wv (cn x).1 (cn x).2.1 = x.num := wv_wl x.num
theorem num_cn (x : Rat) : num (cn x).1 (cn x).2.1 (cn x).2.2 = x.num := by
  unfold num
  rw [(val_cn x).2, if_neg x.den_nz, wv_cn]
theorem den_cn (x : Rat) : den (cn x).2.2 = x.den := by
  unfold den
  rw [(val_cn x).2, if_neg x.den_nz]
theorem rv_cn (x : Rat) : rv (cn x) = x := by
  unfold rv
  rw [num_cn, den_cn, Rat.mkRat_self]
theorem cn_ok (x : Rat) : U (cn x).2.1 ∧ U (cn x).2.2 := ⟨(lm_ok _).U, (lm_ok _).U⟩
def Sz (x : Rat) : Nat := max (len x.num.natAbs) (len x.den)
theorem Sz_mk (z : Int) (q : Nat) (h : q ≠ 0) : Sz (mkRat z q) ≤ max (len z.natAbs) (len q) := by
  unfold Sz
  rw [num_mk z q h, den_mk z q h, rnum_abs]
  have h1 := len_mono (Nat.div_le_self z.natAbs (Nat.gcd z.natAbs q))
  have h2 : len (rden z q) ≤ len q := len_mono (Nat.div_le_self _ _)
  omega
theorem len_one : len 1 = 1 := by
  have h1 := len_small (show 1 < 18446744073709551616 by decide)
  unfold len
  rw [lm_one (by decide) (by decide)]
  rfl
theorem Sz_neg (x : Rat) : Sz (-x) = Sz x := by
  unfold Sz
  rw [Rat.neg_num, Rat.neg_den, Int.natAbs_neg]
theorem Sz_int (n : Int) : Sz (n : Rat) = max (len n.natAbs) 1 := by
  unfold Sz
  rw [Rat.num_intCast, Rat.den_intCast, len_one]
def RtB (b : Nat) (r : Rt) : Prop := U r.2.1 ∧ U r.2.2 ∧ r.2.1.length ≤ b ∧ r.2.2.length ≤ b
theorem RtB.mono {b c : Nat} {r : Rt} (h : RtB b r) (hc : b ≤ c) : RtB c r := ⟨h.1, h.2.1, by have := h.2.2.1; omega, by have := h.2.2.2; omega⟩
theorem RtOk.B {r : Rt} (h : RtOk r) : RtB 1048576 r := h
theorem cnB (x : Rat) {b : Nat} (h : Sz x ≤ b) : RtB b (cn x) := by
  refine ⟨(cn_ok x).1, (cn_ok x).2, ?_, ?_⟩
  · show (lm _).length ≤ _
    rw [lm_length]
    unfold Sz at h
    omega
  · show (lm _).length ≤ _
    rw [lm_length]
    unfold Sz at h
    omega
theorem num_len (b : Bool) (n d : List Int) : len (num b n d).natAbs ≤ n.length := by
  refine Nat.le_trans (len_mono ?_) (val_len n)
  unfold num
  split
  · simp
  · rw [wv_abs]; exact Nat.le_refl _
theorem den_len (d : List Int) : len (den d) ≤ d.length + 1 := by
  unfold den
  split
  · rw [len_one]; omega
  · exact Nat.le_trans (val_len d) (Nat.le_succ _)
theorem RtB.sz {b : Nat} {r : Rt} (h : RtB b r) : Sz (rv r) ≤ b + 1 := by
  have h1 := Sz_mk (num r.1 r.2.1 r.2.2) (den r.2.2) (den_pos _)
  have h2 := num_len r.1 r.2.1 r.2.2
  have h3 := den_len r.2.2
  obtain ⟨_, _, h4, h5⟩ := h
  unfold rv
  omega
theorem clean_cn (r : Rt) {b : Nat} (h : RtB b r) (hb : b ≤ 549755813888) : Ev (fun k => ratio_Clean.f k r.1 r.2.1 r.2.2) (cn (rv r)) := by
  have := rclean_ev r.1 r.2.1 r.2.2 h.1 h.2.1 (Nat.le_trans h.2.2.1 hb) (Nat.le_trans h.2.2.2 hb)
  rwa [rl_cn _ _ (den_pos _)] at this
theorem form_cn (z : Int) (q : Nat) (hq : q ≠ 0) (h1 : len z.natAbs ≤ 549755813888) (h2 : len q ≤ 549755813888) : Ev (fun k => ratio_form.f k (decide (z < 0)) (lm z.natAbs) (lm q)) (cn (mkRat z q)) := by
  rw [← rl_cn z q hq]
  exact form_ev z q hq h1 h2
end Go.DI.Th
namespace Go.DI.Th
open Go Go.RowKit Go.DI

theorem add_limb (a b c : Int) (ha : 0 ≤ a ∧ a < 4294967296) (hb : 0 ≤ b ∧ b < 4294967296) (hc : c = 0 ∨ c = 1) :
    ∃ y z : Int, (0 ≤ y ∧ y < 4294967296) ∧ (z = 0 ∨ z = 1) ∧ y + 4294967296 * z = c + a + b ∧ Go.bits .and .u64 (IntKind.u64.wrap (c + (IntKind.u64.wrap (a + b)))) 4294967295 = y ∧ (IntKind.u64.wrap (c + (IntKind.u64.wrap (a + b)))) / 4294967296 = z := by
  have e : IntKind.u64.wrap (c + (IntKind.u64.wrap (a + b))) = c + a + b := by
    simp only [w64]
    omega
  rw [e, and_low (by omega) (by omega)]
  exact ⟨_, _, ⟨Int.emod_nonneg _ (by decide), Int.emod_lt_of_pos _ (by decide)⟩, by omega, by omega, rfl, rfl⟩
theorem add_loop (a b : List Int) (ha : Ok a) (hb : Ok b) (N : Nat) (hN : N ≤ 35184372088832) (hla : a.length ≤ N) (hlb : b.length ≤ N) (hs : val a + val b < 4294967296 ^ N) (d : Nat) : ∀ (done : List Int) (c : Int), Ok done → done.length + d = N → (c = 0 ∨ c = 1) →
    (val (a.take done.length) : Int) + val (b.take done.length) = val done + 4294967296 ^ done.length * c →
    Ev (fun k => nat_Add.l0 k a b (done ++ List.replicate d 0) c (N : Int) (done.length : Int)) (lm (val a + val b)) := by
  induction d with
  | zero =>
    intro done c hd hl hc hv
    have hl' : done.length = N := by omega
    rw [List.take_of_length_le (by omega), List.take_of_length_le (by omega)] at hv
    have hz : val done = val a + val b := by
      rcases hc with rfl | rfl
      · simp at hv
        omega
      · exfalso
        have e : (4294967296 : Int) ^ done.length = ((4294967296 ^ done.length : Nat) : Int) := by rw [Int.natCast_pow]; rfl
        rw [Int.mul_one, e, hl'] at hv
        omega
    refine Ev.step (f := fun k => (nat_trim.f k done).bind fun t => some t) (fun k => ?_) (Ev.bind ?_ (Ev.now _))
    · simp only [nat_Add.l0]
      rw [if_neg (by omega)]
      simp
    · have := trim_ev done hd (by omega)
      rwa [hz] at this
  | succ d ih =>
    intro done c hd hl hc hv
    have va := val_take_rd a ha done.length
    have vb := val_take_rd b hb done.length
    obtain ⟨y, nd, hy, hnd, hsum, e1, e2⟩ := add_limb (rd a (done.length : Int)) (rd b (done.length : Int)) c (rd_ok ha _) (rd_ok hb _) hc
    refine Ev.step (fun k => ?_) (ih (done ++ [y]) nd (hd.append (Ok.cons hy Ok.nil)) (by simp; omega) hnd ?_)
    · simp only [nat_Add.l0]
      rw [if_pos (by omega), limb_eq a _ (by omega), limb_eq b _ (by omega)]
      simp only [Option.bind_some]
      rw [if_pos (by omega), if_pos (by simp; omega), e1, e2, wrap_id (by omega) (by omega), show ((done.length : Int)).toNat = done.length by omega, fill]
      simp
    · rw [List.length_append, List.length_singleton, va, vb, val_snoc_int done y hy, Int.pow_succ]
      have : (4294967296 : Int) ^ done.length * (y + 4294967296 * nd) = 4294967296 ^ done.length * (c + rd a done.length + rd b done.length) := by rw [hsum]
      simp only [Int.mul_add] at this
      rw [← Int.mul_assoc] at this
      omega
theorem mx_nat (a b : Nat) : mx (a : Int) (b : Int) = ((max a b : Nat) : Int) := by
  unfold mx mxI
  split <;> omega
theorem nadd_ev (a b : List Int) (ha : U a) (hb : U b) (hla : a.length ≤ 35184372088830) (hlb : b.length ≤ 35184372088830) : Ev (fun k => nat_Add.f k a b) (lm (val a + val b)) := by
  have h1 := val_len a
  have h2 := val_len b
  unfold nat_Add.f
  refine Ev.bind (clean_ev a ha (by omega)) (Ev.bind (clean_ev b hb (by omega)) ?_)
  have hs := lt_pow_len (val a + val b)
  have hl := len_add (val a) (val b)
  have hp : 4294967296 ^ len (val a + val b) ≤ 4294967296 ^ (max (len (val a)) (len (val b)) + 1) := Nat.pow_le_pow_right (by decide) hl
  have h := add_loop (lm (val a)) (lm (val b)) (lm_ok _) (lm_ok _) (max (len (val a)) (len (val b)) + 1) (by omega) (by rw [lm_length]; omega) (by rw [lm_length]; omega) (by rw [val_lm, val_lm]; omega) (max (len (val a)) (len (val b)) + 1) [] 0 Ok.nil (by simp) (Or.inl rfl) (by simp [val])
  rw [val_lm, val_lm] at h
  simp only [lm_length, mx_nat, wr_succ _ (show max (len (val a)) (len (val b)) ≤ 1125899906842624 by omega), Int.toNat_natCast, List.length_replicate]
  exact Ev.if_pos (by omega) (Ev.if_pos (by omega) h)
end Go.DI.Th
namespace Go.DI.Th
open Go Go.RowKit Go.DI

theorem wof_ev (z : Int) (h0 : -9223372036854775808 ≤ z) (h : z ≤ 9223372036854775807) : Ev (fun k => whole_Of.f k z) (wl z) := by
  by_cases hz : z < 0
  · obtain ⟨n, rfl⟩ : ∃ n : Nat, z = -(n : Int) := ⟨z.natAbs, by omega⟩
    refine Ev.if_pos hz ?_
    rw [w64_neg n (by omega) (by omega)]
    refine Ev.bind (ofN_ev n (by omega)) ?_
    rw [sign_eq]
    exact Ev.now _
  · obtain ⟨n, rfl⟩ : ∃ n : Nat, z = (n : Int) := ⟨z.toNat, by omega⟩
    refine Ev.if_neg hz ?_
    rw [w64_nat n (by omega)]
    refine Ev.bind (ofN_ev n (by omega)) ?_
    rw [sign_eq]
    exact Ev.now _

theorem rof_ev (z : Int) (h0 : -9223372036854775808 ≤ z) (h : z ≤ 9223372036854775807) : Ev (fun k => ratio_Of.f k z) ((wl z).1, (wl z).2, lm 1) :=
  Ev.bind (wof_ev z h0 h) (Ev.bind (ofN_ev 1 (by decide)) (Ev.now _))

end Go.DI.Th
namespace Go.DI.Th
open Go Go.RowKit Go.DI

theorem wneg_ev (b : Bool) (l : List Int) (h : U l) (hn : l.length ≤ 35184372088832) : Ev (fun k => whole_Neg.f k b l) (wl (-(wv b l))) := by
  refine Ev.bind (wclean_ev b l h hn) ?_
  generalize wv b l = z
  have e : whole_sign.f (!(wl z).1) (wl z).2 = some (wl (-z)) := by
    show whole_sign.f (!(decide (z < 0))) (lm z.natAbs) = _
    rw [sign_eq]
    congr 2
    by_cases h1 : z < 0
    · rw [decide_eq_true h1, if_neg (by simp)]; omega
    · rw [decide_eq_false h1, if_pos (by simp)]; omega
  rw [e]
  exact Ev.now _
end Go.DI.Th
namespace Go.DI.Th
open Go Go.RowKit Go.DI

theorem neg_cn (r : Rt) {b : Nat} (h : RtB b r) (hb : b ≤ 1073741824) : Ev (fun k => ratio_Neg.f k r.1 r.2.1 r.2.2) (cn (-(rv r))) := by
  unfold ratio_Neg.f
  refine Ev.bind (clean_cn r h (by omega)) ?_
  have h1 := cnB (rv r) h.sz
  have := wneg_ev (cn (rv r)).1 (cn (rv r)).2.1 h1.1 (by have := h1.2.2.1; omega)
  rw [wv_cn] at this
  exact Ev.bind this (Ev.now _)
end Go.DI.Th
namespace Go.DI.Th
open Go Go.RowKit Go.DI

def cmpZ (a b : Int) : Int := if a < b then -1 else if b < a then 1 else 0
theorem cmpZ_scale (c x y : Int) (h : 0 < c) : cmpZ (c * x) (c * y) = cmpZ x y := by
  unfold cmpZ
  have h1 : c * x < c * y ↔ x < y := ⟨fun h' => Int.lt_of_mul_lt_mul_left h' (Int.le_of_lt h), fun h' => Int.mul_lt_mul_of_pos_left h' h⟩
  have h2 : c * y < c * x ↔ y < x := ⟨fun h' => Int.lt_of_mul_lt_mul_left h' (Int.le_of_lt h), fun h' => Int.mul_lt_mul_of_pos_left h' h⟩
  simp only [h1, h2]
theorem sg_mul (a b : Int) : (if (!(decide (a < 0) == decide (b < 0))) = true then -((a.natAbs * b.natAbs : Nat) : Int) else ((a.natAbs * b.natAbs : Nat) : Int)) = a * b := by
  by_cases h1 : a < 0 <;> by_cases h2 : b < 0 <;> simp only [h1, h2, decide_true, decide_false]
  · obtain ⟨n, hn⟩ : ∃ n : Nat, a = -(n : Int) := ⟨(-a).toNat, by omega⟩
    obtain ⟨m, hm⟩ : ∃ m : Nat, b = -(m : Int) := ⟨(-b).toNat, by omega⟩
    subst hn; subst hm; simp [Int.neg_mul_neg]
  · obtain ⟨n, hn⟩ : ∃ n : Nat, a = -(n : Int) := ⟨(-a).toNat, by omega⟩
    obtain ⟨m, hm⟩ : ∃ m : Nat, b = (m : Int) := ⟨b.toNat, by omega⟩
    subst hn; subst hm; simp [Int.neg_mul]
  · obtain ⟨n, hn⟩ : ∃ n : Nat, a = (n : Int) := ⟨a.toNat, by omega⟩
    obtain ⟨m, hm⟩ : ∃ m : Nat, b = -(m : Int) := ⟨(-b).toNat, by omega⟩
    subst hn; subst hm; simp [Int.mul_neg]
  · obtain ⟨n, hn⟩ : ∃ n : Nat, a = (n : Int) := ⟨a.toNat, by omega⟩
    obtain ⟨m, hm⟩ : ∃ m : Nat, b = (m : Int) := ⟨b.toNat, by omega⟩
    subst hn; subst hm; simp
theorem rnum_gcd (z : Int) (q : Nat) (h : q ≠ 0) : ∃ g : Nat, g ≠ 0 ∧ z = g * rnum z q ∧ q = g * rden z q := by
  have hg := gcd_pos_right z.natAbs q h
  have e1 := Nat.mul_div_cancel' (Nat.gcd_dvd_left z.natAbs q)
  have e2 := Nat.mul_div_cancel' (Nat.gcd_dvd_right z.natAbs q)
  refine ⟨Nat.gcd z.natAbs q, by omega, ?_, e2.symm⟩
  unfold rnum
  generalize z.natAbs / Nat.gcd z.natAbs q = r at e1 ⊢
  generalize Nat.gcd z.natAbs q = g at e1 ⊢
  split
  · rw [Int.mul_neg, ← Int.natCast_mul, e1]; omega
  · rw [← Int.natCast_mul, e1]; omega
theorem cmp_norm (z w : Int) (q p : Nat) (hq : q ≠ 0) (hp : p ≠ 0) : cmpZ (rnum z q * rden w p) (rnum w p * rden z q) = cmpZ (z * p) (w * q) := by
  obtain ⟨g, hg, e1, e2⟩ := rnum_gcd z q hq
  obtain ⟨h, hh, e3, e4⟩ := rnum_gcd w p hp
  generalize rnum z q = a at *
  generalize rden z q = b at *
  generalize rnum w p = c at *
  generalize rden w p = d at *
  have x1 : z * p = (g * h : Nat) * (a * d) := by rw [e1, e4]; simp only [Int.natCast_mul]; grind
  have x2 : w * q = (g * h : Nat) * (c * b) := by rw [e3, e2]; simp only [Int.natCast_mul]; grind
  rw [x1, x2, cmpZ_scale]
  have := Nat.mul_pos (Nat.pos_of_ne_zero hg) (Nat.pos_of_ne_zero hh)
  omega
end Go.DI.Th
namespace Go.DI.Th
open Go Go.RowKit Go.DI

def cmpQ (x y : Rat) : Int := if x < y then -1 else if y < x then 1 else 0
theorem cmpQ_num (x y : Rat) : cmpQ x y = cmpZ (x.num * y.den) (y.num * x.den) := by
  unfold cmpQ cmpZ
  simp only [Rat.lt_iff]
theorem cmpQ_mk (z w : Int) (q p : Nat) (hq : q ≠ 0) (hp : p ≠ 0) : cmpZ (z * p) (w * q) = cmpQ (mkRat z q) (mkRat w p) := by
  rw [cmpQ_num, num_mk z q hq, num_mk w p hp, den_mk z q hq, den_mk w p hp, cmp_norm z w q p hq hp]
theorem cmpQ_zero {x y : Rat} : cmpQ x y = 0 ↔ x = y := by
  unfold cmpQ
  constructor
  · intro h
    by_cases h1 : x < y
    · rw [if_pos h1] at h; omega
    · by_cases h2 : y < x
      · rw [if_neg h1, if_pos h2] at h; omega
      · exact Rat.le_antisymm (Rat.not_lt.1 h2) (Rat.not_lt.1 h1)
  · rintro rfl
    rw [if_neg Rat.lt_irrefl, if_neg Rat.lt_irrefl]
end Go.DI.Th
namespace Go.DI.Th
open Go Go.RowKit Go.DI

end Go.DI.Th
namespace Go.DI.Th
open Go Go.RowKit Go.DI

end Go.DI.Th
namespace Go.DI.Th
open Go Go.RowKit Go.DI

end Go.DI.Th
namespace Go.DI.Th
open Go Go.RowKit Go.DI

end Go.DI.Th
namespace Go.DI.Th.D
open Go Go.RowKit Go.DI
def val : List Int → Nat
  | [] => 0
  | x :: l => (x % 10000).toNat + 10000 * val l

def lm (n : Nat) : List Int := if n = 0 then [] else ((n % 10000 : Nat) : Int) :: lm (n / 10000)
termination_by n
decreasing_by omega

def Ok (l : List Int) : Prop := ∀ x ∈ l, 0 ≤ x ∧ x < 10000
def U (l : List Int) : Prop := ∀ x ∈ l, 0 ≤ x ∧ x < 100000000
theorem Ok.U {l : List Int} (h : Ok l) : U l := fun x hx => by have := h x hx; omega
theorem Ok.nil : Ok [] := fun x hx => by cases hx
theorem Ok.cons {x : Int} {l : List Int} (h : 0 ≤ x ∧ x < 10000) (hl : Ok l) : Ok (x :: l) := fun y hy => by
  rcases List.mem_cons.1 hy with rfl | hy
  · exact h
  · exact hl y hy
theorem Ok.append {a b : List Int} (ha : Ok a) (hb : Ok b) : Ok (a ++ b) := fun x hx => by
  rcases List.mem_append.1 hx with h | h
  · exact ha x h
  · exact hb x h
theorem Ok.take {a : List Int} (h : Ok a) (n : Nat) : Ok (a.take n) := fun x hx => h x (List.mem_of_mem_take hx)
theorem Ok.drop {a : List Int} (h : Ok a) (n : Nat) : Ok (a.drop n) := fun x hx => h x (List.mem_of_mem_drop hx)
theorem Ok.zeros (n : Nat) : Ok (List.replicate n 0) := fun x hx => by
  rw [(List.mem_replicate.1 hx).2]; omega
theorem Ok.tail {x : Int} {l : List Int} (h : Ok (x :: l)) : Ok l := fun y hy => h y (List.mem_cons_of_mem _ hy)
theorem Ok.head {x : Int} {l : List Int} (h : Ok (x :: l)) : 0 ≤ x ∧ x < 10000 := h x List.mem_cons_self
theorem rd_ok {l : List Int} (h : Ok l) (i : Int) : 0 ≤ rd l i ∧ rd l i < 10000 := by
  unfold rd
  rw [List.getD_eq_getElem?_getD]
  by_cases hi : i.toNat < l.length
  · rw [List.getElem?_eq_getElem hi]
    exact h _ (List.getElem_mem hi)
  · rw [List.getElem?_eq_none (by omega)]
    simp
theorem rd_U {l : List Int} (h : U l) (i : Int) : 0 ≤ rd l i ∧ rd l i < 100000000 := by
  unfold rd
  rw [List.getD_eq_getElem?_getD]
  by_cases hi : i.toNat < l.length
  · rw [List.getElem?_eq_getElem hi]
    exact h _ (List.getElem_mem hi)
  · rw [List.getElem?_eq_none (by omega)]
    simp

theorem val_cons (x : Int) (l : List Int) : val (x :: l) = (x % 10000).toNat + 10000 * val l := rfl
theorem lm_zero : lm 0 = [] := by rw [lm]; simp
theorem lm_pos {n : Nat} (h : n ≠ 0) : lm n = ((n % 10000 : Nat) : Int) :: lm (n / 10000) := by
  conv => lhs; rw [lm]
  rw [if_neg h]
theorem val_lm (n : Nat) : val (lm n) = n := by
  induction n using Nat.strongRecOn with
  | _ n ih =>
    by_cases h : n = 0
    · subst h; rw [lm_zero]; rfl
    · rw [lm_pos h, val_cons, ih _ (by omega)]
      omega
theorem lm_ok (n : Nat) : Ok (lm n) := by
  induction n using Nat.strongRecOn with
  | _ n ih =>
    by_cases h : n = 0
    · subst h; rw [lm_zero]; exact Ok.nil
    · rw [lm_pos h]
      exact Ok.cons (by omega) (ih _ (by omega))
theorem val_append (a b : List Int) : val (a ++ b) = val a + 10000 ^ a.length * val b := by
  induction a with
  | nil => simp [val]
  | cons x a ih =>
    rw [List.cons_append, val_cons, val_cons, ih, List.length_cons, Nat.pow_succ, Nat.mul_add]
    have : 10000 * (10000 ^ a.length * val b) = 10000 ^ a.length * 10000 * val b := by
      rw [← Nat.mul_assoc, Nat.mul_comm 10000 (10000 ^ a.length)]
    omega
theorem val_zeros (n : Nat) : val (List.replicate n 0) = 0 := by
  induction n with
  | zero => rfl
  | succ n ih => rw [List.replicate_succ, val_cons, ih]; rfl
theorem val_lt (l : List Int) : val l < 10000 ^ l.length := by
  induction l with
  | nil => simp [val]
  | cons x l ih =>
    rw [val_cons, List.length_cons, Nat.pow_succ]
    have h1 : (x % 10000).toNat < 10000 := by
      have := Int.emod_lt_of_pos x (b := 10000) (by decide)
      have := Int.emod_nonneg x (b := 10000) (by decide)
      omega
    have h2 : 10000 * (val l + 1) ≤ 10000 * 10000 ^ l.length := Nat.mul_le_mul_left _ ih
    rw [Nat.mul_comm (10000 ^ l.length)]
    omega
theorem val_single (x : Int) : val [x] = (x % 10000).toNat := by simp [val]
theorem val_snoc (l : List Int) (x : Int) : val (l ++ [x]) = val l + 10000 ^ l.length * (x % 10000).toNat := by rw [val_append, val_single]

theorem lm_val {l : List Int} (h : Ok l) (hl : ∀ x, l.getLast? = some x → x ≠ 0) : lm (val l) = l := by
  induction l with
  | nil => exact lm_zero
  | cons x l ih =>
    have hx := h.head
    have e : x % 10000 = x := Int.emod_eq_of_lt hx.1 hx.2
    by_cases hl0 : l = []
    · subst hl0
      have hx0 : x ≠ 0 := hl x rfl
      have hv : val [x] = x.toNat := by rw [val_single, e]
      rw [hv, lm_pos (by omega), show x.toNat / 10000 = 0 by omega, lm_zero, show x.toNat % 10000 = x.toNat by omega]
      congr 1
      omega
    · have hl' : lm (val l) = l := ih h.tail (fun y hy => hl y (by rw [List.getLast?_cons, hy]; rfl))
      have hv0 : val l ≠ 0 := by
        intro h0
        rw [h0, lm_zero] at hl'
        exact hl0 hl'.symm
      have hv : val (x :: l) = x.toNat + 10000 * val l := by rw [val_cons, e]
      rw [hv, lm_pos (by omega), show (x.toNat + 10000 * val l) / 10000 = val l by omega, show (x.toNat + 10000 * val l) % 10000 = x.toNat by omega, hl']
      congr 1
      omega
def len (n : Nat) : Nat := (lm n).length
theorem len_zero : len 0 = 0 := by unfold len; rw [lm_zero]; rfl
theorem len_pos {n : Nat} (h : n ≠ 0) : len n = len (n / 10000) + 1 := by unfold len; rw [lm_pos h]; rfl
theorem len_eq_zero {n : Nat} : len n = 0 ↔ n = 0 := by
  constructor
  · intro h
    by_cases h0 : n = 0
    · exact h0
    · rw [len_pos h0] at h; omega
  · rintro rfl; exact len_zero
theorem lt_pow_len (n : Nat) : n < 10000 ^ len n := by
  have := val_lt (lm n)
  rwa [val_lm] at this
theorem pow_le_len {n : Nat} (h : n ≠ 0) : 10000 ^ (len n - 1) ≤ n := by
  induction n using Nat.strongRecOn with
  | _ n ih =>
    rw [len_pos h, Nat.add_sub_cancel]
    by_cases h2 : n / 10000 = 0
    · rw [h2, len_zero]; omega
    · have := ih _ (by omega) h2
      rw [len_pos h2, Nat.pow_succ]
      rw [len_pos h2, Nat.add_sub_cancel] at this
      omega
theorem len_le {n k : Nat} (h : n < 10000 ^ k) : len n ≤ k := by
  by_cases h0 : n = 0
  · subst h0; rw [len_zero]; omega
  · have h1 := pow_le_len h0
    have h2 : 10000 ^ (len n - 1) < 10000 ^ k := by omega
    have := (Nat.pow_lt_pow_iff_right (by decide : 1 < 10000)).1 h2
    omega
theorem len_mono {a b : Nat} (h : a ≤ b) : len a ≤ len b := len_le (Nat.lt_of_le_of_lt h (lt_pow_len b))
theorem len_add (a b : Nat) : len (a + b) ≤ max (len a) (len b) + 1 := by
  apply len_le
  have h1 := lt_pow_len a
  have h2 := lt_pow_len b
  have h3 : 10000 ^ len a ≤ 10000 ^ max (len a) (len b) := Nat.pow_le_pow_right (by decide) (Nat.le_max_left _ _)
  have h4 : 10000 ^ len b ≤ 10000 ^ max (len a) (len b) := Nat.pow_le_pow_right (by decide) (Nat.le_max_right _ _)
  rw [Nat.pow_succ]
  omega
theorem len_mul (a b : Nat) : len (a * b) ≤ len a + len b := by
  apply len_le
  rw [Nat.pow_add]
  have h1 := lt_pow_len a
  have h2 := lt_pow_len b
  have h0 : 0 < 10000 ^ len b := Nat.pow_pos (by decide)
  calc a * b ≤ a * 10000 ^ len b := Nat.mul_le_mul_left _ (by omega)
    _ < 10000 ^ len a * 10000 ^ len b := Nat.mul_lt_mul_of_pos_right h1 h0
theorem val_len (l : List Int) : len (val l) ≤ l.length := len_le (val_lt l)
theorem lm_length (n : Nat) : (lm n).length = len n := rfl
theorem lt_of_len_lt {a b : Nat} (h : len a < len b) : a < b := by
  have hb : b ≠ 0 := by
    rintro rfl
    rw [len_zero] at h
    omega
  have h1 := lt_pow_len a
  have h2 := pow_le_len hb
  have h3 : 10000 ^ len a ≤ 10000 ^ (len b - 1) := Nat.pow_le_pow_right (by decide) (by omega)
  omega

theorem rd_nat (l : List Int) (i : Nat) : rd l (i : Int) = l.getD i 0 := by simp [rd]
theorem take_succ_rd (l : List Int) (i : Nat) (h : i < l.length) : l.take (i + 1) = l.take i ++ [rd l i] := by
  rw [List.take_succ_eq_append_getElem h, rd_nat, List.getD_eq_getElem?_getD, List.getElem?_eq_getElem h]
  rfl
theorem drop_rd (l : List Int) (i : Nat) (h : i < l.length) : l.drop i = rd l i :: l.drop (i + 1) := by
  rw [rd_nat, List.getD_eq_getElem?_getD, List.getElem?_eq_getElem h]
  exact List.drop_eq_getElem_cons h
theorem val_take_succ (l : List Int) (i : Nat) (h : i < l.length) : val (l.take (i + 1)) = val (l.take i) + 10000 ^ i * (rd l i % 10000).toNat := by
  rw [take_succ_rd l i h, val_snoc, List.length_take, Nat.min_eq_left (Nat.le_of_lt h)]
theorem val_drop (l : List Int) (i : Nat) (h : i < l.length) : val (l.drop i) = (rd l i % 10000).toNat + 10000 * val (l.drop (i + 1)) := by
  rw [drop_rd l i h, val_cons]
theorem fill (done : List Int) (d : Nat) (v : Int) : (done ++ List.replicate (d + 1) (0 : Int)).set done.length v = done ++ [v] ++ List.replicate d 0 := by
  rw [List.set_append_right _ _ (Nat.le_refl _), Nat.sub_self, List.replicate_succ]
  simp
theorem fillr (done : List Int) (d : Nat) (v : Int) : (List.replicate (d + 1) (0 : Int) ++ done).set d v = List.replicate d 0 ++ v :: done := by
  rw [List.replicate_succ', List.append_assoc, List.set_append_right _ _ (by simp)]
  simp


theorem split_at (l : List Int) (i : Nat) : val l = val (l.take i) + 10000 ^ (l.take i).length * val (l.drop i) := by
  conv => lhs; rw [← List.take_append_drop i l]
  exact val_append _ _
theorem less_of_drop {a b : List Int} {i : Nat} (hl : a.length = b.length) (hi : i ≤ a.length) (h : val (a.drop i) < val (b.drop i)) : val a < val b := by
  rw [split_at a i, split_at b i, List.length_take, List.length_take, ← hl, Nat.min_eq_left hi]
  have h1 := val_lt (a.take i)
  rw [List.length_take, Nat.min_eq_left hi] at h1
  have h2 : 10000 ^ i * (val (a.drop i) + 1) ≤ 10000 ^ i * val (b.drop i) := Nat.mul_le_mul_left _ h
  rw [Nat.mul_add] at h2
  omega
theorem val_take_rd (l : List Int) (hl : Ok l) (i : Nat) : (val (l.take (i + 1)) : Int) = val (l.take i) + 10000 ^ i * rd l i := by
  by_cases h : i < l.length
  · have r := rd_ok hl (i : Int)
    have := val_take_succ l i h
    rw [Int.emod_eq_of_lt r.1 r.2] at this
    rw [this]
    have e : ((rd l (i : Int)).toNat : Int) = rd l i := by omega
    rw [Int.natCast_add, Int.natCast_mul, e, Int.natCast_pow]
    rfl
  · rw [List.take_of_length_le (by omega), List.take_of_length_le (by omega), rd_beyond l i (by omega)]
    simp
theorem val_snoc_int (l : List Int) (x : Int) (hx : 0 ≤ x ∧ x < 10000) : (val (l ++ [x]) : Int) = val l + 10000 ^ l.length * x := by
  rw [val_snoc, Int.emod_eq_of_lt hx.1 hx.2]
  have e : (x.toNat : Int) = x := by omega
  rw [Int.natCast_add, Int.natCast_mul, e, Int.natCast_pow]
  rfl

theorem val_append_int (a b : List Int) : (val (a ++ b) : Int) = val a + 10000 ^ a.length * val b := by
  rw [val_append, Int.natCast_add, Int.natCast_mul, Int.natCast_pow]
  rfl
theorem ar1 (p vD c vM x vB m b y z : Int) (hv : vD + p * c = vM + x * vB) (hx : 10000 * z + y = c + m + x * b) :
    vD + p * y + p * 10000 * z = vM + p * m + x * (vB + p * b) := by grind

end Go.DI.Th.D
namespace Go.DI.Th.D
open Go Go.RowKit Go.DI

def lo : Nat → Nat → List Int
  | 0, _ => []
  | i + 1, n => lo i n ++ [((n / 10000 ^ i % 10000 : Nat) : Int)]
theorem lo_length : ∀ i n, (lo i n).length = i
  | 0, _ => rfl
  | i + 1, n => by rw [lo, List.length_append, lo_length i]; rfl
theorem lo_cons : ∀ i n, lo (i + 1) n = ((n % 10000 : Nat) : Int) :: lo i (n / 10000)
  | 0, n => by rw [lo, lo, lo, Nat.pow_zero, Nat.div_one]; rfl
  | i + 1, n => by
    rw [lo, lo_cons i, lo, Nat.pow_succ, Nat.mul_comm, ← Nat.div_div_eq_div_mul]
    rfl
theorem lo_lm : ∀ i n, n / 10000 ^ i = 0 → (∀ j, j < i → n / 10000 ^ j ≠ 0) → lo i n = lm n
  | 0, n, h, _ => by
    rw [Nat.pow_zero, Nat.div_one] at h
    rw [h, lm_zero]; rfl
  | i + 1, n, h, hj => by
    have h0 : n ≠ 0 := by have := hj 0 (by omega); rwa [Nat.pow_zero, Nat.div_one] at this
    rw [lo_cons, lm_pos h0, lo_lm i (n / 10000)]
    · rw [Nat.div_div_eq_div_mul, Nat.mul_comm, ← Nat.pow_succ]; exact h
    · intro j hji
      rw [Nat.div_div_eq_div_mul, Nat.mul_comm, ← Nat.pow_succ]
      exact hj (j + 1) (by omega)
theorem lo_of_len (n : Nat) : lo (len n) n = lm n := by
  apply lo_lm
  · exact Nat.div_eq_of_lt (lt_pow_len n)
  · intro j hj h
    have := Nat.div_lt_iff_lt_mul (k := 10000 ^ j) (x := n) (y := 1) (Nat.pow_pos (by decide))
    have h2 : n < 10000 ^ j := by
      have h3 := this.1 (by omega)
      omega
    have := len_le h2
    omega
theorem div_pow_zero {n i : Nat} (h : n / 10000 ^ i = 0) : len n ≤ i := by
  have := (Nat.div_lt_iff_lt_mul (k := 10000 ^ i) (x := n) (y := 1) (Nat.pow_pos (by decide))).1 (by omega)
  exact len_le (by omega)
theorem div_pow_ne {n i : Nat} (h : i < len n) : n / 10000 ^ i ≠ 0 := fun e => by have := div_pow_zero e; omega
theorem tdiv_nat (a b : Nat) : Int.tdiv (a : Int) (b : Int) = ((a / b : Nat) : Int) := rfl
theorem tmod_nat (a b : Nat) : Int.tmod (a : Int) (b : Int) = ((a % b : Nat) : Int) := rfl
theorem small_loop (n : Nat) (hn : n ≤ 9223372036854775807) : ∀ (d i : Nat), i + d = len n → Ev (fun k => dendronref01_Small.l0 k ((n / 10000 ^ i : Nat) : Int) (lo i n)) (lm n) := by
  have hl : len n ≤ 1000 := by
    refine Nat.le_trans (len_le (k := 5) ?_) (by decide)
    omega
  intro d
  induction d with
  | zero =>
    intro i hi
    obtain rfl : i = len n := by omega
    have h0 : n / 10000 ^ len n = 0 := Nat.div_eq_of_lt (lt_pow_len n)
    refine Ev.step (fun k => ?_) (Ev.now _)
    rw [dendronref01_Small.l0, h0, if_neg (by decide), lo_of_len]
  | succ d ih =>
    intro i hi
    have hne := div_pow_ne (show i < len n by omega)
    have hle : n / 10000 ^ i ≤ n := Nat.div_le_self _ _
    have e1 : n / 10000 ^ i / 10000 = n / 10000 ^ (i + 1) := by rw [Nat.div_div_eq_div_mul, ← Nat.pow_succ]
    have e2 : wrap64 (((n / 10000 ^ (i + 1) : Nat)) : Int) = ((n / 10000 ^ (i + 1) : Nat) : Int) := by
      have : n / 10000 ^ (i + 1) ≤ n := Nat.div_le_self _ _
      generalize n / 10000 ^ (i + 1) = z at this ⊢
      rw [wrap_id (by omega) (by omega)]
    refine Ev.step (fun k => ?_) (ih (i + 1) (by omega))
    rw [dendronref01_Small.l0, if_pos (by generalize n / 10000 ^ i = z at hne ⊢; omega), if_pos (by rw [lo_length]; omega), show (10000 : Int) = ((10000 : Nat) : Int) from rfl, tdiv_nat, tmod_nat, e1, e2]
    rfl
theorem small_ev (n : Nat) (hn : n ≤ 9223372036854775807) : Ev (fun k => dendronref01_Small.f k (n : Int)) (lm n) := by
  have := small_loop n hn (len n) 0 (by omega)
  rwa [Nat.pow_zero, Nat.div_one] at this

theorem trim_from (l : List Int) (hl : Ok l) (hn : l.length ≤ 9223372036854775807) : ∀ n : Nat, n ≤ l.length → val l = val (l.take n) → Ev (fun k => dendronref01_Trim.l0 k l (n : Int)) (lm (val l)) := by
  intro n
  induction n with
  | zero =>
    intro _ hv
    refine Ev.step (fun k => ?_) (Ev.now _)
    simp only [dendronref01_Trim.l0]
    rw [if_neg (by omega), if_pos (by omega), if_pos (by omega), hv]
    simp [val, lm_zero]
  | succ m ih =>
    intro hm hv
    have e : wrap64 (((m + 1 : Nat) : Int) - 1) = (m : Int) := by rw [wrap_id (by omega) (by omega)]; omega
    have hr := rd_ok hl (m : Int)
    by_cases h0 : rd l (m : Int) = 0
    · refine Ev.step (fun k => ?_) (ih (by omega) ?_)
      · simp only [dendronref01_Trim.l0]
        rw [if_pos (by omega), e, if_pos (by omega), if_pos (by omega), if_pos h0]
      · rw [hv, val_take_succ l m (by omega), h0]
        simp
    · refine Ev.step (fun k => ?_) (Ev.now _)
      simp only [dendronref01_Trim.l0]
      rw [if_pos (by omega), e, if_pos (by omega), if_pos (by omega), if_neg h0, if_pos (by omega), if_pos (by omega)]
      have e2 : (((m + 1 : Nat) : Int)).toNat = m + 1 := by omega
      rw [e2, hv, lm_val (hl.take (m + 1))]
      intro x hx
      rw [take_succ_rd l m (by omega), List.getLast?_concat] at hx
      cases hx
      exact h0
theorem trim_ev (l : List Int) (hl : Ok l) (hn : l.length ≤ 9223372036854775807) : Ev (fun k => dendronref01_Trim.f k l) (lm (val l)) :=
  trim_from l hl hn l.length (Nat.le_refl _) (by rw [List.take_length])
theorem order_loop (a b : List Int) (ha : Ok a) (hb : Ok b) (hl : a.length = b.length) (hn : a.length ≤ 9223372036854775807) : ∀ n : Nat, n ≤ a.length → val (a.drop n) = val (b.drop n) →
    Ev (fun k => dendronref01_Order.l0 k a b ((n : Int) - 1)) (cmp (val a) (val b)) := by
  intro n
  induction n with
  | zero =>
    intro _ hv
    refine Ev.step (fun k => ?_) (Ev.now _)
    simp only [dendronref01_Order.l0]
    simp only [List.drop_zero] at hv
    rw [if_neg (by omega)]
    unfold cmp
    rw [if_neg (by omega), if_neg (by omega)]
  | succ m ih =>
    intro hm hv
    have e : ((m + 1 : Nat) : Int) - 1 = (m : Int) := by omega
    have ra := rd_ok ha (m : Int)
    have rb := rd_ok hb (m : Int)
    have da := val_drop a m (by omega)
    have db := val_drop b m (by omega)
    rw [Int.emod_eq_of_lt ra.1 ra.2] at da
    rw [Int.emod_eq_of_lt rb.1 rb.2] at db
    by_cases h1 : rd a (m : Int) < rd b (m : Int)
    · refine Ev.step (fun k => ?_) (Ev.now _)
      simp only [dendronref01_Order.l0]
      rw [e, if_pos (by omega), if_pos (by omega), if_pos (by omega), if_pos h1]
      unfold cmp
      rw [if_pos (less_of_drop hl (i := m) (by omega) (by omega))]
    · by_cases h2 : rd a (m : Int) > rd b (m : Int)
      · refine Ev.step (fun k => ?_) (Ev.now _)
        simp only [dendronref01_Order.l0]
        rw [e, if_pos (by omega), if_pos (by omega), if_pos (by omega), if_neg h1, if_pos h2]
        have := less_of_drop hl.symm (i := m) (by omega) (by omega)
        unfold cmp
        rw [if_neg (by omega), if_pos this]
      · refine Ev.step (fun k => ?_) (ih (by omega) (by omega))
        simp only [dendronref01_Order.l0]
        rw [e, if_pos (by omega), if_pos (by omega), if_pos (by omega), if_neg h1, if_neg h2, wrap_id (by omega) (by omega)]
theorem order_ev (a b : Nat) (ha : len a ≤ 35184372088832) : Ev (fun k => dendronref01_Order.f k (lm a) (lm b)) (cmp a b) := by
  unfold dendronref01_Order.f
  rw [lm_length, lm_length]
  by_cases h1 : len a = len b
  · have h := order_loop (lm a) (lm b) (lm_ok a) (lm_ok b) (by rw [lm_length, lm_length, h1]) (by rw [lm_length]; omega) (len a) (by rw [lm_length]; exact Nat.le_refl _) (by rw [List.drop_of_length_le (by rw [lm_length]; exact Nat.le_refl _), List.drop_of_length_le (by rw [lm_length, h1]; exact Nat.le_refl _)])
    rw [val_lm, val_lm] at h
    refine Ev.if_neg (by omega) ?_
    rw [wrap_id (by omega) (by omega)]
    exact h
  · refine Ev.if_pos (by omega) ?_
    by_cases h2 : len a < len b
    · refine (Ev.if_pos (by omega) (Ev.now (-1))).of_eq ?_
      unfold cmp
      rw [if_pos (lt_of_len_lt h2)]
    · have h3 := lt_of_len_lt (show len b < len a by omega)
      refine (Ev.if_neg (by omega) (Ev.now 1)).of_eq ?_
      unfold cmp
      rw [if_neg (by omega), if_pos h3]

theorem digit_eq (l : List Int) (i : Nat) : dendronref01_digit.f l (i : Int) = some (rd l (i : Int)) := by
  unfold dendronref01_digit.f
  by_cases h : (i : Int) < (l.length : Int)
  · rw [if_pos h, if_pos (nn0 _)]
  · rw [if_neg h]
    unfold rd
    rw [List.getD_eq_getElem?_getD, List.getElem?_eq_none (by omega)]
    rfl
theorem rd_lm (n i : Nat) : rd (lm n) (i : Int) = ((n / 10000 ^ i % 10000 : Nat) : Int) := by
  induction i generalizing n with
  | zero =>
    rw [Nat.pow_zero, Nat.div_one]
    by_cases h : n = 0
    · subst h; rw [lm_zero]; rfl
    · rw [lm_pos h]; rfl
  | succ i ih =>
    by_cases h : n = 0
    · subst h; rw [lm_zero, Nat.zero_div]; rfl
    · have := ih (n / 10000)
      rw [Nat.div_div_eq_div_mul, Nat.mul_comm, ← Nat.pow_succ] at this
      rw [lm_pos h, ← this, rd_nat, rd_nat]
      rfl
def car (a b i : Nat) : Nat := (a % 10000 ^ i + b % 10000 ^ i) / 10000 ^ i
theorem car_le (a b i : Nat) : car a b i ≤ 1 := by
  have hp : 0 < 10000 ^ i := Nat.pow_pos (by decide)
  have h1 := Nat.mod_lt a hp
  have h2 := Nat.mod_lt b hp
  unfold car
  have : (a % 10000 ^ i + b % 10000 ^ i) / 10000 ^ i < 2 := by
    rw [Nat.div_lt_iff_lt_mul hp]; omega
  omega
theorem sum_div (a b i : Nat) : (a + b) / 10000 ^ i = a / 10000 ^ i + b / 10000 ^ i + car a b i := by
  have hp : 0 < 10000 ^ i := Nat.pow_pos (by decide)
  have h1 := Nat.div_add_mod a (10000 ^ i)
  have h2 := Nat.div_add_mod b (10000 ^ i)
  unfold car
  have e : a + b = (a % 10000 ^ i + b % 10000 ^ i) + 10000 ^ i * (a / 10000 ^ i + b / 10000 ^ i) := by rw [Nat.mul_add]; omega
  conv => lhs; rw [e]
  rw [Nat.add_mul_div_left _ _ hp]
  omega
theorem sum_digit (a b i : Nat) : car a b i + a / 10000 ^ i % 10000 + b / 10000 ^ i % 10000 = (a + b) / 10000 ^ i % 10000 + 10000 * car a b (i + 1) := by
  have h0 := sum_div a b i
  have h1 := sum_div a b (i + 1)
  have e : ∀ x : Nat, x / 10000 ^ (i + 1) = x / 10000 ^ i / 10000 := fun x => by rw [Nat.div_div_eq_div_mul, ← Nat.pow_succ]
  rw [e, e, e] at h1
  have c1 := car_le a b i
  have c2 := car_le a b (i + 1)
  omega
theorem plus_step (a b i : Nat) (hi2 : i ≤ 1125899906842) (k : Nat) : ((dendronref01_digit.f (lm a) (i : Int)).bind fun v17 => ((dendronref01_digit.f (lm b) (i : Int)).bind fun v21 => (if (lo i (a + b)).length < 17592186044416 then (dendronref01_Plus.l0 k (lm a) (lm b) (lo i (a + b) ++ [(Int.tmod (wrap64 ((wrap64 ((car a b i : Int) + v17)) + v21)) 10000)]) (wrap64 (Int.tdiv (wrap64 ((wrap64 ((car a b i : Int) + v17)) + v21)) 10000)) (wrap64 ((i : Int) + 1))) else none))) = dendronref01_Plus.l0 k (lm a) (lm b) (lo (i + 1) (a + b)) (car a b (i + 1) : Int) ((i + 1 : Nat) : Int) := by
  have hd := sum_digit a b i
  have c1 := car_le a b i
  have c2 := car_le a b (i + 1)
  have m1 := Nat.mod_lt (a / 10000 ^ i) (show 0 < 10000 by decide)
  have m2 := Nat.mod_lt (b / 10000 ^ i) (show 0 < 10000 by decide)
  have m3 := Nat.mod_lt ((a + b) / 10000 ^ i) (show 0 < 10000 by decide)
  rw [digit_eq, Option.bind_some, digit_eq, Option.bind_some, if_pos (by rw [lo_length]; omega), rd_lm, rd_lm, lo]
  generalize a / 10000 ^ i % 10000 = x at *
  generalize b / 10000 ^ i % 10000 = y at *
  generalize (a + b) / 10000 ^ i % 10000 = z at *
  generalize car a b i = c at *
  generalize car a b (i + 1) = c' at *
  have e1 : (z + 10000 * c') % 10000 = z := by omega
  have e2 : (z + 10000 * c') / 10000 = c' := by omega
  have e3 : wrap64 (c' : Int) = (c' : Int) := by rw [wrap_id (by omega) (by omega)]
  have w : wrap64 (wrap64 ((c : Int) + (x : Int)) + (y : Int)) = ((z + 10000 * c' : Nat) : Int) := by
    clear e3
    rw [← hd, wrap_id (i := (c : Int) + (x : Int)) (by omega) (by omega), wrap_id (by omega) (by omega)]
    omega
  rw [w, show (10000 : Int) = ((10000 : Nat) : Int) from rfl, tmod_nat, tdiv_nat, e1, e2, e3, wr_succ i (by clear w e3; omega)]
theorem plus_loop (a b : Nat) (ha : len a ≤ 1099511627776) (hb : len b ≤ 1099511627776) (hab : len (a + b) ≤ 1099511627777) : ∀ (d i : Nat), i + d = len (a + b) →
    Ev (fun k => dendronref01_Plus.l0 k (lm a) (lm b) (lo i (a + b)) (car a b i : Int) (i : Int)) (lm (a + b)) := by
  intro d
  induction d with
  | zero =>
    intro i hi
    obtain rfl : i = len (a + b) := by omega
    have h0 : (a + b) / 10000 ^ len (a + b) = 0 := Nat.div_eq_of_lt (lt_pow_len _)
    have h1 := sum_div a b (len (a + b))
    have h2 := len_mono (show a ≤ a + b by omega)
    have h3 := len_mono (show b ≤ a + b by omega)
    have h4 : car a b (len (a + b)) = 0 := by
      rw [h0] at h1
      exact (Nat.add_eq_zero_iff.1 h1.symm).2
    refine Ev.step (fun k => ?_) (Ev.now _)
    rw [dendronref01_Plus.l0, lm_length, lm_length, if_neg (by clear h1 h0; omega), if_neg (by clear h1 h0; omega), h4, if_neg (by decide), lo_of_len]
  | succ d ih =>
    intro i hi
    have hne := div_pow_ne (show i < len (a + b) by omega)
    have hs := sum_div a b i
    have hi3 : i ≤ 1125899906842 := by clear hs hne; omega
    refine Ev.step (fun k => ?_) (ih (i + 1) (by clear hs hne; omega))
    rw [dendronref01_Plus.l0, lm_length, lm_length, plus_step a b i hi3]
    by_cases h1 : (i : Int) < (len a : Int)
    · rw [if_pos h1]
    · rw [if_neg h1]
      by_cases h2 : (i : Int) < (len b : Int)
      · rw [if_pos h2]
      · rw [if_neg h2]
        have z1 : a / 10000 ^ i = 0 := Nat.div_eq_of_lt (Nat.lt_of_lt_of_le (lt_pow_len a) (Nat.pow_le_pow_right (by decide) (by clear hs hne; omega)))
        have z2 : b / 10000 ^ i = 0 := Nat.div_eq_of_lt (Nat.lt_of_lt_of_le (lt_pow_len b) (Nat.pow_le_pow_right (by decide) (by clear hs hne; omega)))
        rw [z1, z2] at hs
        have hc : car a b i ≠ 0 := by
          intro e
          rw [e] at hs
          exact hne hs
        rw [if_pos (by clear hs hne z1 z2; omega)]
theorem plus_ev (a b : Nat) (ha : len a ≤ 1099511627776) (hb : len b ≤ 1099511627776) : Ev (fun k => dendronref01_Plus.f k (lm a) (lm b)) (lm (a + b)) := by
  have h := plus_loop a b ha hb (by have := len_add a b; omega) (len (a + b)) 0 (by omega)
  have e : car a b 0 = 0 := by unfold car; rw [Nat.pow_zero, Nat.mod_one, Nat.mod_one]
  rw [e] at h
  exact h
theorem times_limb (c m x y : Int) (hc : 0 ≤ c ∧ c < 10000) (hm : 0 ≤ m ∧ m < 10000) (hx : 0 ≤ x ∧ x < 10000) (hy : 0 ≤ y ∧ y < 10000) :
    wrap64 (wrap64 (c + m) + wrap64 (x * y)) = c + m + x * y ∧ Int.tmod (c + m + x * y) 10000 = (c + m + x * y) % 10000 ∧ wrap64 (Int.tdiv (c + m + x * y) 10000) = (c + m + x * y) / 10000 ∧ 0 ≤ (c + m + x * y) / 10000 ∧ (c + m + x * y) / 10000 < 10000 := by
  have h0 : 0 ≤ x * y := Int.mul_nonneg hx.1 hy.1
  have h1 : x * y ≤ 9999 * 9999 := Int.mul_le_mul (by omega) (by omega) hy.1 (by omega)
  generalize x * y = p at h0 h1 ⊢
  have e1 : Int.tmod (c + m + p) 10000 = (c + m + p) % 10000 := Int.tmod_eq_emod_of_nonneg (by omega)
  have e2 : Int.tdiv (c + m + p) 10000 = (c + m + p) / 10000 := Int.tdiv_eq_ediv_of_nonneg (by omega)
  refine ⟨?_, e1, ?_, by omega, by omega⟩
  · clear e1 e2
    rw [wrap_id (i := c + m) (by omega) (by omega), wrap_id (i := p) (by omega) (by omega), wrap_id (by omega) (by omega)]
  · rw [e2]
    clear e1 e2
    rw [wrap_id (by omega) (by omega)]
theorem times_inner (a b : List Int) (ha : Ok a) (hb : Ok b) (hn : a.length + b.length ≤ 35184372088832) (i : Nat) (hi : i < a.length) (L mid : List Int) (hL : L.length = i) (hm : Ok mid) (hml : mid.length = b.length) (Z : List Int) (hZ : Z.length = a.length - i)
    (r : List Int)
    (cont : ∀ D c, Ok D → (0 ≤ c ∧ c < 10000) → D.length = b.length → (val D : Int) + 10000 ^ b.length * c = val mid + rd a i * val b →
      Ev (fun k => dendronref01_Times.l0 k a b ((L ++ D ++ Z).set (i + b.length) c) ((i + 1 : Nat) : Int)) r) (d : Nat) :
    ∀ (D : List Int) (c : Int), Ok D → (0 ≤ c ∧ c < 10000) → D.length + d = b.length → (val D : Int) + 10000 ^ D.length * c = val (mid.take D.length) + rd a i * val (b.take D.length) →
    Ev (fun k => dendronref01_Times.l1 k a b (L ++ D ++ mid.drop D.length ++ Z) (i : Int) c (D.length : Int)) r := by
  have ra := rd_ok ha (i : Int)
  obtain ⟨x, hx⟩ : ∃ x, rd a (i : Int) = x := ⟨_, rfl⟩
  rw [hx] at ra cont ⊢
  induction d with
  | zero =>
    intro D c hD hc hl hv
    have hl' : D.length = b.length := by omega
    have h := cont D c hD hc hl' (by
      rw [hl', List.take_of_length_le (by omega), List.take_length] at hv
      exact hv)
    refine Ev.step (fun k => ?_) h
    have hlen : (L ++ D ++ mid.drop D.length ++ Z).length = i + b.length + (a.length - i) := by simp; omega
    have w : wrap64 ((i : Int) + (b.length : Int)) = ((i + b.length : Nat) : Int) := by clear hx; rw [wrap_id (by omega) (by omega)]; omega
    rw [dendronref01_Times.l1, if_neg (by clear w hx; omega), w, if_pos (nn0 _), if_pos (by rw [hlen]; clear w hx; omega), wr_succ i (by clear w hx; omega), Int.toNat_natCast]
    rw [List.drop_of_length_le (by omega), List.append_nil]
  | succ d ih =>
    intro D c hD hc hl hv
    have rb := rd_ok hb (D.length : Int)
    have rm := rd_ok hm (D.length : Int)
    have vb := val_take_rd b hb D.length
    have vm := val_take_rd mid hm D.length
    have hdrop := drop_rd mid D.length (by omega)
    have hread : rd (L ++ D ++ mid.drop D.length ++ Z) ((i + D.length : Nat) : Int) = rd mid D.length := by
      rw [hdrop, List.append_assoc, List.cons_append]
      have := rd_at (L ++ D) (rd mid D.length) (mid.drop (D.length + 1) ++ Z)
      rw [List.length_append, hL] at this
      exact this
    have hset : ∀ y, (L ++ D ++ mid.drop D.length ++ Z).set (i + D.length) y = L ++ (D ++ [y]) ++ mid.drop (D ++ [y]).length ++ Z := by
      intro y
      rw [hdrop, List.append_assoc, List.cons_append]
      have := set_at (L ++ D) (rd mid D.length) (mid.drop (D.length + 1) ++ Z) y
      rw [List.length_append, hL] at this
      rw [this]
      simp
    have hlen : (L ++ D ++ mid.drop D.length ++ Z).length = i + b.length + (a.length - i) := by simp; omega
    have hlD : D.length < b.length := by omega
    have hbig : i + D.length ≤ 1125899906842624 := by omega
    have hbig2 : D.length ≤ 1125899906842624 := by omega
    have hl1 : D.length + 1 + d = b.length := by omega
    have c1 : ((i + D.length : Nat) : Int) < ((L ++ D ++ mid.drop D.length ++ Z).length : Int) := by
      rw [hlen]; exact Int.ofNat_lt.2 (by omega)
    obtain ⟨y, hy⟩ : ∃ y, rd b (D.length : Int) = y := ⟨_, rfl⟩
    obtain ⟨m, hmm⟩ : ∃ m, rd mid (D.length : Int) = m := ⟨_, rfl⟩
    rw [hy] at rb vb
    rw [hmm] at rm vm hread
    obtain ⟨t1, t2, t3, t4, t5⟩ := times_limb c m x y hc rm ra rb
    have hmod : 0 ≤ (c + m + x * y) % 10000 ∧ (c + m + x * y) % 10000 < 10000 := ⟨Int.emod_nonneg _ (by decide), Int.emod_lt_of_pos _ (by decide)⟩
    have w := wr_add D.length i hbig
    rw [Int.add_comm] at w
    refine Ev.step (fun k => ?_) (ih (D ++ [(c + m + x * y) % 10000]) ((c + m + x * y) / 10000) (hD.append (Ok.cons hmod Ok.nil)) ⟨t4, t5⟩ (by rw [List.length_append, List.length_singleton]; exact hl1) ?_)
    · rw [dendronref01_Times.l1, if_pos (Int.ofNat_lt.2 hlD), w, if_pos (nn0 _), if_pos c1, if_pos (nn0 _), if_pos (Int.ofNat_lt.2 hi), if_pos (nn0 _), hread, hx, hy, t1, t2, t3, Int.toNat_natCast, hset, wr_succ D.length hbig2]
      rw [List.length_append, List.length_singleton]
    · rw [List.length_append, List.length_singleton, vb, vm, val_snoc_int D _ hmod, Int.pow_succ]
      have hxx := Int.mul_ediv_add_emod (c + m + x * y) 10000
      exact ar1 _ _ _ _ _ _ _ _ _ _ hv hxx
theorem times_outer (a b : List Int) (ha : Ok a) (hb : Ok b) (hn : a.length + b.length ≤ 35184372088832) (d : Nat) : ∀ (i : Nat) (P : List Int), Ok P → i + d = a.length → P.length = i + b.length → (val P : Int) = val (a.take i) * val b →
    Ev (fun k => dendronref01_Times.l0 k a b (P ++ List.replicate d 0) (i : Int)) (lm (val a * val b)) := by
  induction d with
  | zero =>
    intro i P hP hi hl hv
    obtain rfl : i = a.length := by omega
    rw [List.take_length] at hv
    have hv' : val P = val a * val b := by
      have : ((val P : Nat) : Int) = ((val a * val b : Nat) : Int) := by rw [hv, Int.natCast_mul]
      omega
    refine Ev.step (f := fun k => (dendronref01_Trim.f k P).bind fun t => some t) (fun k => ?_) (Ev.bind ?_ (Ev.now _))
    · rw [dendronref01_Times.l0, if_neg (by omega)]
      simp
    · have := trim_ev P hP (by omega)
      rwa [hv'] at this
  | succ d ih =>
    intro i P hP hi hl hv
    have va := val_take_rd a ha i
    have hmid : Ok (P.drop i) := hP.drop i
    have hsplit := val_append_int (P.take i) (P.drop i)
    rw [List.take_append_drop, List.length_take, Nat.min_eq_left (by omega)] at hsplit
    refine Ev.step (f := fun k => dendronref01_Times.l1 k a b (P ++ List.replicate (d + 1) 0) (i : Int) 0 0) (fun k => ?_) ?_
    · rw [dendronref01_Times.l0, if_pos (by omega)]
    · have h := times_inner a b ha hb hn i (by omega) (P.take i) (P.drop i) (by rw [List.length_take]; omega) hmid (by rw [List.length_drop]; omega) (List.replicate (d + 1) 0) (by rw [List.length_replicate]; omega) (lm (val a * val b)) (by
        intro D c hD hc hDl hDv
        have hlen : (P.take i ++ D).length = i + b.length := by rw [List.length_append, List.length_take, hDl]; omega
        have := ih (i + 1) (P.take i ++ D ++ [c]) (((hP.take i).append hD).append (Ok.cons hc Ok.nil)) (by omega) (by rw [List.length_append, hlen]; simp; omega) (by
          rw [val_snoc_int _ c hc, hlen, val_append_int, List.length_take, Nat.min_eq_left (by omega), va, Int.pow_add]
          exact ar2 _ _ _ _ _ _ _ _ _ _ hsplit hv hDv)
        refine Ev.congr (fun k => ?_) this
        have hs := fill (P.take i ++ D) d c
        rw [hlen] at hs
        rw [hs]) b.length [] 0 Ok.nil (by omega) (by simp) (by simp [val])
      refine Ev.congr (fun k => ?_) h
      simp
theorem times_ev (a b : Nat) (hn : len a + len b ≤ 35184372088832) : Ev (fun k => dendronref01_Times.f k (lm a) (lm b)) (lm (a * b)) := by
  have h := times_outer (lm a) (lm b) (lm_ok a) (lm_ok b) (by rw [lm_length, lm_length]; exact hn) (lm a).length 0 (List.replicate (lm b).length 0) (Ok.zeros _) (by omega) (by simp) (by rw [val_zeros]; simp [val])
  rw [val_lm, val_lm, List.replicate_append_replicate, lm_length, lm_length] at h
  unfold dendronref01_Times.f
  rw [lm_length, lm_length, wrap_id (by omega) (by omega)]
  refine Ev.if_pos (by omega) (Ev.if_pos (by omega) ?_)
  have e : ((len a : Int) + (len b : Int)).toNat = len b + len a := by omega
  rw [e]
  exact h
end Go.DI.Th.D
namespace Go.DI.Th.D
open Go Go.RowKit Go.DI

theorem len_of_len (n : Nat) : len n ≤ 3 * Th.len n := by
  apply len_le
  have h1 := Th.lt_pow_len n
  have h2 : (4294967296 : Nat) ^ Th.len n ≤ (10000 ^ 3) ^ Th.len n := Nat.pow_le_pow_left (by decide) _
  rw [← Nat.pow_mul] at h2
  omega

theorem from_digit (l : List Int) (hl : Th.U l) (n : Nat) (hn : n < l.length) : ∃ m : Nat, m < 4294967296 ∧ Th.val (l.drop n) = Th.val (l.drop (n + 1)) * 4294967296 + m ∧ wrap64 (Go.bits .and .u64 (rd l (n : Int)) 4294967295) = (m : Int) := by
  have hr := Th.rd_U hl (n : Int)
  have hd := Th.val_drop l n hn
  have ha := Th.and_low hr.1 hr.2
  rw [ha]
  clear ha
  generalize rd l (n : Int) = x at hr hd ⊢
  generalize Th.val (l.drop n) = v at hd ⊢
  generalize Th.val (l.drop (n + 1)) = v' at hd ⊢
  refine ⟨(x % 4294967296).toNat, by omega, by omega, ?_⟩
  rw [wrap_id (by omega) (by omega)]
  omega
theorem from_step (l : List Int) (n m k : Nat) (v : List Int) (hn : n < l.length) (hl : l.length ≤ 1073741824) (he : wrap64 (Go.bits .and .u64 (rd l (n : Int)) 4294967295) = (m : Int)) :
    dendronref01_From.l0 (k + 1) l v (lm 4294967296) (((n + 1 : Nat) : Int) - 1) = (dendronref01_Times.f k v (lm 4294967296)).bind fun v4 => ((dendronref01_Small.f k (m : Int)).bind fun v11 => ((dendronref01_Plus.f k v4 v11).bind fun v12 => (dendronref01_From.l0 k l v12 (lm 4294967296) ((n : Int) - 1)))) := by
  have e0 : (((n + 1 : Nat) : Int) - 1) = (n : Int) := by clear he; omega
  have hw : wrap64 ((n : Int) - 1) = (n : Int) - 1 := by clear he e0; exact wrap_id (by omega) (by omega)
  rw [dendronref01_From.l0, e0, if_pos (nn0 _), he, hw]
  congr 1
  funext v4
  rw [if_pos (Int.ofNat_lt.2 hn)]
theorem from_loop (l : List Int) (hl : Th.U l) (hn : l.length ≤ 1073741824) : ∀ n : Nat, n ≤ l.length → Ev (fun k => dendronref01_From.l0 k l (lm (Th.val (l.drop n))) (lm 4294967296) ((n : Int) - 1)) (lm (Th.val l)) := by
  intro n
  induction n with
  | zero =>
    intro _
    refine Ev.step (fun k => ?_) (Ev.now _)
    rw [dendronref01_From.l0, if_neg (by omega), List.drop_zero]
  | succ n ih =>
    intro hln
    obtain ⟨m, hm, hv, he⟩ := from_digit l hl n (by omega)
    have hs0 := fun k => from_step l n m k (lm (Th.val (l.drop (n + 1)))) (by omega) hn he
    clear he
    have hlen : len (Th.val (l.drop (n + 1))) ≤ 3221225472 := by
      have h1 := len_of_len (Th.val (l.drop (n + 1)))
      have h2 := Th.val_len (l.drop (n + 1))
      have h3 : (l.drop (n + 1)).length ≤ l.length := by rw [List.length_drop]; omega
      omega
    have hl4 : len 4294967296 ≤ 3 := len_le (by decide)
    have hih := ih (by omega)
    rw [hv] at hih
    generalize Th.val (l.drop (n + 1)) = v at hlen hs0 hih ⊢
    have ht := times_ev v 4294967296 (by omega)
    have hlp : len (v * 4294967296) ≤ 3221225475 := Nat.le_trans (len_mul _ _) (by omega)
    have hls : len m ≤ 3 := len_le (Nat.lt_of_lt_of_le hm (by decide))
    have hs := small_ev m (by omega)
    have hp := plus_ev (v * 4294967296) m (by omega) (by omega)
    exact Ev.step hs0 (Ev.bind ht (Ev.bind hs (Ev.bind hp hih)))
theorem from_ev (l : List Int) (hl : Th.U l) (hn : l.length ≤ 1073741824) : Ev (fun k => dendronref01_From.f k l) (lm (Th.val l)) := by
  have h := from_loop l hl hn l.length (Nat.le_refl _)
  rw [List.drop_length] at h
  have e : lm (Th.val []) = [] := lm_zero
  rw [e] at h
  unfold dendronref01_From.f
  have hs := small_ev 4294967296 (by decide)
  have hw : wrap64 ((l.length : Int) - 1) = (l.length : Int) - 1 := wrap_id (by omega) (by omega)
  rw [hw]
  exact Ev.bind hs h

end Go.DI.Th.D
namespace Go.DI.Th.D
open Go Go.RowKit Go.DI

def il (z : Int) : Bool × List Int := (decide (z < 0), lm z.natAbs)
def sg (b : Bool) (n : Nat) : Int := if b then -(n : Int) else n
abbrev L (z : Int) : Nat := len z.natAbs
theorem il_one (z : Int) : (il z).1 = decide (z < 0) := rfl
theorem il_two (z : Int) : (il z).2 = lm z.natAbs := rfl
theorem L_mul (a b : Int) : L (a * b) ≤ L a + L b := by unfold L; rw [Int.natAbs_mul]; exact len_mul _ _
theorem L_nat (n : Nat) : L (n : Int) = len n := by unfold L; rw [Int.natAbs_natCast]
theorem lm_nil {n : Nat} : ((lm n).length : Int) > 0 ↔ n ≠ 0 := by
  rw [lm_length]
  have := len_eq_zero (n := n)
  omega
theorem lm_nil' {n : Nat} : ((lm n).length : Int) = 0 ↔ n = 0 := by
  rw [lm_length]
  have := len_eq_zero (n := n)
  omega
theorem make_eq (b : Bool) (n : Nat) : dendronref02_Make.f b (lm n) = some (il (sg b n)) := by
  unfold dendronref02_Make.f il sg
  by_cases hb : b = true
  · rw [if_pos hb, if_pos hb]
    have e : decide (((lm n).length : Int) > 0) = decide (-(n : Int) < 0) := by
      rw [decide_eq_decide, lm_nil]; omega
    rw [e, Int.natAbs_neg, Int.natAbs_natCast]
  · rw [if_neg hb, if_neg hb]
    have e : decide ((n : Int) < 0) = false := by simp
    rw [e, Int.natAbs_natCast]
theorem make_ev (b : Bool) (n : Nat) : Ev (fun _ => dendronref02_Make.f b (lm n)) (il (sg b n)) := Ev.congr (fun _ => make_eq b n) (Ev.now _)
theorem wfrom_ev (b : Bool) (l : List Int) (hl : Th.U l) (hn : l.length ≤ 1073741824) : Ev (fun k => dendronref02_From.f k b l) (il (wv b l)) := by
  unfold dendronref02_From.f
  exact Ev.bind (from_ev l hl hn) (Ev.bind (make_ev b _) (Ev.now _))
theorem wsmall_ev (z : Int) (h0 : -9223372036854775808 ≤ z) (h : z ≤ 9223372036854775807) : Ev (fun k => dendronref02_Small.f k z) (il z) := by
  unfold dendronref02_Small.f
  by_cases hz : z < 0
  · refine Ev.if_pos hz ?_
    obtain ⟨n, hn⟩ : ∃ n : Nat, z = -((n + 1 : Nat) : Int) := ⟨(-z - 1).toNat, by omega⟩
    have hw : wrap64 (0 - wrap64 (z + 1)) = (n : Int) := by
      rw [wrap_id (i := z + 1) (by omega) (by omega), wrap_id (by omega) (by omega)]
      omega
    rw [hw]
    clear hw
    have hl : len n ≤ 5 := len_le (by omega)
    have hl1 : len 1 ≤ 5 := len_le (by decide)
    have h1 := small_ev n (by omega)
    have h2 := small_ev 1 (by decide)
    have h3 := plus_ev n 1 (by omega) (by omega)
    have e : sg true (n + 1) = z := by rw [hn]; rfl
    have h4 := make_ev true (n + 1)
    rw [e] at h4
    exact Ev.bind h1 (Ev.bind h2 (Ev.bind h3 (Ev.bind h4 (Ev.now _))))
  · refine Ev.if_neg hz ?_
    obtain ⟨n, hn⟩ : ∃ n : Nat, z = (n : Int) := ⟨z.toNat, by omega⟩
    subst hn
    exact Ev.bind (small_ev n (by omega)) (Ev.bind (make_ev false n) (Ev.now _))
def cmpI (a b : Int) : Int := if a < b then -1 else if b < a then 1 else 0
theorem worder_ev (a b : Int) (ha : L a ≤ 35184372088832) (hb : L b ≤ 35184372088832) : Ev (fun k => dendronref02_Order.f k (il a).1 (il a).2 (il b).1 (il b).2) (cmpI a b) := by
  unfold dendronref02_Order.f
  rw [il_one, il_one, il_two, il_two]
  have o1 := order_ev a.natAbs b.natAbs ha
  have o2 := order_ev b.natAbs a.natAbs hb
  by_cases h1 : a < 0
  · rw [decide_eq_true h1]
    refine Ev.if_pos rfl ?_
    by_cases h2 : b < 0
    · rw [decide_eq_true h2]
      refine Ev.if_pos rfl (Ev.if_pos rfl (Ev.if_pos rfl ((Ev.bind o2 (Ev.now _)).of_eq ?_)))
      unfold cmp cmpI
      split <;> split <;> (try split) <;> (try split) <;> omega
    · rw [decide_eq_false h2]
      refine Ev.if_neg (by decide) ((Ev.now _).of_eq ?_)
      unfold cmpI
      rw [if_pos (by omega)]
  · rw [decide_eq_false h1]
    refine Ev.if_neg (by decide) (Ev.if_neg (by decide) ?_)
    by_cases h2 : b < 0
    · rw [decide_eq_true h2]
      refine Ev.if_pos rfl ((Ev.now _).of_eq ?_)
      unfold cmpI
      rw [if_neg (by omega), if_pos (by omega)]
    · rw [decide_eq_false h2]
      refine Ev.if_neg (by decide) (Ev.if_neg (by decide) ((Ev.bind o1 (Ev.now _)).of_eq ?_))
      unfold cmp cmpI
      split <;> split <;> (try split) <;> (try split) <;> omega
theorem sg_mul (a b : Int) : sg (!(decide (a < 0) == decide (b < 0))) (a.natAbs * b.natAbs) = a * b := by
  by_cases h1 : a < 0 <;> by_cases h2 : b < 0 <;> simp only [h1, h2, decide_true, decide_false] <;> unfold sg
  · obtain ⟨n, hn⟩ : ∃ n : Nat, a = -(n : Int) := ⟨(-a).toNat, by omega⟩
    obtain ⟨m, hm⟩ : ∃ m : Nat, b = -(m : Int) := ⟨(-b).toNat, by omega⟩
    subst hn; subst hm; simp [Int.neg_mul_neg]
  · obtain ⟨n, hn⟩ : ∃ n : Nat, a = -(n : Int) := ⟨(-a).toNat, by omega⟩
    obtain ⟨m, hm⟩ : ∃ m : Nat, b = (m : Int) := ⟨b.toNat, by omega⟩
    subst hn; subst hm; simp [Int.neg_mul]
  · obtain ⟨n, hn⟩ : ∃ n : Nat, a = (n : Int) := ⟨a.toNat, by omega⟩
    obtain ⟨m, hm⟩ : ∃ m : Nat, b = -(m : Int) := ⟨(-b).toNat, by omega⟩
    subst hn; subst hm; simp [Int.mul_neg]
  · obtain ⟨n, hn⟩ : ∃ n : Nat, a = (n : Int) := ⟨a.toNat, by omega⟩
    obtain ⟨m, hm⟩ : ∃ m : Nat, b = (m : Int) := ⟨b.toNat, by omega⟩
    subst hn; subst hm; simp
theorem wtimes_ev (a b : Int) (h : L a + L b ≤ 35184372088832) : Ev (fun k => dendronref02_Times.f k (il a).1 (il a).2 (il b).1 (il b).2) (il (a * b)) := by
  unfold dendronref02_Times.f
  have h4 := make_ev (!(decide (a < 0) == decide (b < 0))) (a.natAbs * b.natAbs)
  rw [sg_mul] at h4
  exact Ev.bind (times_ev a.natAbs b.natAbs h) (Ev.bind h4 (Ev.now _))
def fl (z : Int) (q : Nat) : Bool × List Int × List Int := ((il z).1, (il z).2, lm q)
theorem fsmall_ev (a : Int) (b : Nat) (h0 : -9223372036854775808 ≤ a ∧ a ≤ 9223372036854775807) (h : b ≤ 9223372036854775807) : Ev (fun k => dendronref03_Small.f k a (b : Int)) (fl a b) := by
  unfold dendronref03_Small.f
  exact Ev.bind (wsmall_ev a h0.1 h0.2) (Ev.bind (small_ev b h) (Ev.now _))
theorem ffrom_ev (b : Bool) (n d : List Int) (hn : Th.U n) (hd : Th.U d) (hln : n.length ≤ 1073741824) (hld : d.length ≤ 1073741824) : Ev (fun k => dendronref03_From.f k b n d) (fl (num b n d) (den d)) := by
  unfold dendronref03_From.f
  refine Ev.bind (from_ev d hd hld) ?_
  unfold num den
  by_cases h : Th.val d = 0
  · rw [if_pos h, if_pos h]
    refine Ev.if_pos (lm_nil'.2 h) ?_
    exact Ev.bind (fsmall_ev 0 1 (by decide) (by decide)) (Ev.now _)
  · rw [if_neg h, if_neg h]
    refine Ev.if_neg (fun e => h (lm_nil'.1 e)) ?_
    exact Ev.bind (wfrom_ev b n hn hln) (Ev.now _)
theorem fden_eq (b : Bool) (n : List Int) (q : Nat) : dendronref03_den.f b n (lm q) = some (il (q : Int)) := by
  unfold dendronref03_den.f
  rw [make_eq]
  rfl
theorem fden_ev (b : Bool) (n : List Int) (q : Nat) : Ev (fun _ => dendronref03_den.f b n (lm q)) (il (q : Int)) := Ev.congr (fun _ => fden_eq b n q) (Ev.now _)
theorem forder_ev (a : Int) (p : Nat) (b : Int) (q : Nat) (h1 : L a + len q ≤ 1099511627776) (h2 : L b + len p ≤ 1099511627776) :
    Ev (fun k => dendronref03_Order.f k (fl a p).1 (fl a p).2.1 (fl a p).2.2 (fl b q).1 (fl b q).2.1 (fl b q).2.2) (cmpI (a * q) (b * p)) := by
  unfold dendronref03_Order.f
  have m1 := L_mul a (q : Int)
  have m2 := L_mul b (p : Int)
  rw [L_nat] at m1 m2
  exact Ev.bind (fden_ev _ _ q) (Ev.bind (wtimes_ev a q (by rw [L_nat]; omega)) (Ev.bind (fden_ev _ _ p) (Ev.bind (wtimes_ev b p (by rw [L_nat]; omega)) (Ev.bind (worder_ev _ _ (by omega) (by omega)) (Ev.now _)))))
end Go.DI.Th.D
namespace Go.DI.Th.D
open Go Go.RowKit Go.DI

theorem len_small {m : Nat} (h : m ≤ 10000) : len m ≤ 2 := len_le (by omega)
end Go.DI.Th.D
namespace Go.DI.Th.D
open Go Go.RowKit Go.DI Go.DI.Th

def FL (x : Rat) (s : Nat) (r : Rt) : Prop := ∃ (z : Int) (q : Nat), r = fl z q ∧ q ≠ 0 ∧ mkRat z q = x ∧ L z ≤ s ∧ len q ≤ s
theorem FL.mono {x : Rat} {s s' : Nat} {r : Rt} (h : FL x s r) (hs : s ≤ s') : FL x s' r := by
  obtain ⟨z, q, h1, h2, h3, h4, h5⟩ := h
  exact ⟨z, q, h1, h2, h3, by omega, by omega⟩
theorem FL.order {x y : Rat} {a b : Nat} {r s : Rt} (h : FL x a r) (h' : FL y b s) (hb : a + b ≤ 1099511627776) : Ev (fun k => dendronref03_Order.f k r.1 r.2.1 r.2.2 s.1 s.2.1 s.2.2) (cmpQ x y) := by
  obtain ⟨z, q, rfl, q0, rfl, h4, h5⟩ := h
  obtain ⟨w, p, rfl, p0, rfl, k4, k5⟩ := h'
  rw [← cmpQ_mk z w q p q0 p0]
  exact forder_ev z q w p (by omega) (by omega)
theorem FL.from {b : Nat} {r : Rt} (h : RtB b r) (hb : b ≤ 1073741824) : ∃ t, FL (rv r) (3 * b + 3) t ∧ Ev (fun k => dendronref03_From.f k r.1 r.2.1 r.2.2) t := by
  refine ⟨_, ⟨num r.1 r.2.1 r.2.2, den r.2.2, rfl, den_pos _, rfl, ?_, ?_⟩, ffrom_ev r.1 r.2.1 r.2.2 h.1 h.2.1 (by have := h.2.2.1; omega) (by have := h.2.2.2; omega)⟩
  · have h1 := len_of_len (num r.1 r.2.1 r.2.2).natAbs
    have h2 := num_len r.1 r.2.1 r.2.2
    have h3 := h.2.2.1
    show len (num r.1 r.2.1 r.2.2).natAbs ≤ _
    omega
  · have h1 := len_of_len (den r.2.2)
    have h2 := den_len r.2.2
    have h3 := h.2.2.2
    omega
end Go.DI.Th.D
namespace Go.DI.Th
open Go Go.RowKit Go.DI
end Go.DI.Th
namespace Go.DI.Th.D
open Go Go.RowKit Go.DI Go.DI.Th
end Go.DI.Th.D
namespace Go.DI.Th
open Go Go.RowKit Go.DI

def dec (n : Nat) : List Int := if n < 10 then [48 + (n : Int)] else dec (n / 10) ++ [48 + ((n % 10 : Nat) : Int)]
def pad : Nat → Nat → List Int
  | 0, _ => []
  | w + 1, n => pad w (n / 10) ++ [48 + ((n % 10 : Nat) : Int)]
theorem pad_length : ∀ w n, (pad w n).length = w
  | 0, _ => rfl
  | w + 1, n => by rw [pad, List.length_append, pad_length w]; rfl
theorem pad_add (a : Nat) : ∀ b n, pad (a + b) n = pad a (n / 10 ^ b) ++ pad b n
  | 0, n => by rw [Nat.pow_zero, Nat.div_one]; exact (List.append_nil _).symm
  | b + 1, n => by
    rw [← Nat.add_assoc, pad, pad_add a b, pad, Nat.div_div_eq_div_mul, Nat.pow_succ, Nat.mul_comm 10, List.append_assoc]
theorem pad_mod : ∀ w n, pad w (n % 10 ^ w) = pad w n
  | 0, _ => rfl
  | w + 1, n => by
    have h1 : n % 10 ^ (w + 1) / 10 = n / 10 % 10 ^ w := by
      rw [Nat.pow_succ, Nat.mul_comm, Nat.mod_mul_right_div_self]
    have h2 : n % 10 ^ (w + 1) % 10 = n % 10 := Nat.mod_mod_of_dvd n ⟨10 ^ w, by rw [Nat.pow_succ, Nat.mul_comm]⟩
    rw [pad, pad, h1, h2, pad_mod w]
theorem dec_small {n : Nat} (h : n < 10) : dec n = [48 + (n : Int)] := by rw [dec, if_pos h]
theorem dec_big {n : Nat} (h : ¬ n < 10) : dec n = dec (n / 10) ++ [48 + ((n % 10 : Nat) : Int)] := by rw [dec, if_neg h]
theorem pad_zero : ∀ w, pad w 0 = List.replicate w 48
  | 0 => rfl
  | w + 1 => by
    rw [pad, Nat.zero_div, pad_zero w, List.replicate_succ']
    rfl
theorem pad_dec : ∀ w n, n ≠ 0 → n < 10 ^ w → ∃ z, pad w n = List.replicate z 48 ++ dec n
  | 0, n, h0, h => by rw [Nat.pow_zero] at h; omega
  | w + 1, n, h0, h => by
    rw [pad]
    by_cases h1 : n < 10
    · refine ⟨w, ?_⟩
      rw [Nat.div_eq_of_lt h1, pad_zero, dec_small h1, Nat.mod_eq_of_lt h1]
    · rw [Nat.pow_succ] at h
      obtain ⟨z, hz⟩ := pad_dec w (n / 10) (by omega) (by rw [Nat.div_lt_iff_lt_mul (by decide)]; exact h)
      exact ⟨z, by rw [hz, dec_big h1, List.append_assoc]⟩
theorem dec_byte (n : Nat) : ∀ x ∈ dec n, 48 ≤ x ∧ x ≤ 57 := by
  induction n using Nat.strongRecOn with
  | ind n ih =>
    intro x h
    by_cases h1 : n < 10
    · rw [dec_small h1, List.mem_singleton] at h
      subst h
      omega
    · rw [dec_big h1, List.mem_append] at h
      rcases h with h | h
      · exact ih (n / 10) (by omega) x h
      · rw [List.mem_singleton] at h
        subst h
        have := Nat.mod_lt n (show 0 < 10 by decide)
        omega
theorem dec_head (n : Nat) (h0 : n ≠ 0) : ∃ x r, dec n = x :: r ∧ x ≠ 48 := by
  induction n using Nat.strongRecOn with
  | ind n ih =>
    by_cases h1 : n < 10
    · exact ⟨_, _, dec_small h1, by omega⟩
    · obtain ⟨x, r, e, hx⟩ := ih (n / 10) (by omega) (by omega)
      exact ⟨x, r ++ [48 + ((n % 10 : Nat) : Int)], by rw [dec_big h1, e]; rfl, hx⟩
theorem bl_tenth (n d : Nat) (h0 : n ≠ 0) (hd : 2 ≤ d) : bl (n / d) + 1 ≤ bl n := by
  have hb : 1 ≤ bl n := by unfold bl; rw [if_neg h0]; omega
  by_cases hz : n / d = 0
  · rw [hz]; exact hb
  · have h1 := bl_le hz
    have h2 := bl_lt n
    have h3 : n / d * 2 ≤ n := Nat.le_trans (Nat.mul_le_mul_left _ hd) (Nat.div_mul_le_self n d)
    have hb2 : 1 ≤ bl (n / d) := by unfold bl; rw [if_neg hz]; omega
    have h4 : 2 ^ bl (n / d) ≤ n := by
      have e : 2 ^ bl (n / d) = 2 ^ (bl (n / d) - 1) * 2 := by rw [← Nat.pow_succ]; congr 1; omega
      rw [e]
      exact Nat.le_trans (Nat.mul_le_mul_right _ h1) h3
    apply Classical.byContradiction
    intro hc
    have := Nat.pow_le_pow_right (n := 2) (by decide) (show bl n ≤ bl (n / d) by omega)
    omega
theorem dec_length (n : Nat) : (dec n).length ≤ bl n + 1 := by
  induction n using Nat.strongRecOn with
  | ind n ih =>
    by_cases h1 : n < 10
    · rw [dec_small h1, List.length_singleton]; omega
    · have := ih (n / 10) (by omega)
      have := bl_tenth n 10 (by omega) (by decide)
      rw [dec_big h1, List.length_append, List.length_singleton]
      omega
theorem bl_len (n : Nat) : bl n ≤ 32 * len n := by
  by_cases h0 : n = 0
  · subst h0; exact Nat.zero_le _
  · have h1 := lt_pow_len n
    rw [show (4294967296 : Nat) = 2 ^ 32 from rfl, ← Nat.pow_mul] at h1
    have h2 := bl_le h0
    apply Classical.byContradiction
    intro hc
    have := Nat.pow_le_pow_right (n := 2) (by decide) (show 32 * len n ≤ bl n - 1 by omega)
    omega
theorem lt_ten_pow (n m : Nat) (h : n / 10 ^ m = 0) : n < 10 ^ m := by
  have hp : 0 < 10 ^ m := Nat.pow_pos (by decide)
  apply Classical.byContradiction
  intro hc
  have := (Nat.le_div_iff_mul_le hp (x := 1) (y := n)).2 (by omega)
  omega

theorem nine_loop (n0 : Nat) (h : n0 < 18446744073709551616) : ∀ (i n : Nat) (done : List Int), n < 18446744073709551616 → i + done.length = 9 → pad 9 n0 = pad i n ++ done →
    Ev (fun k => nat_nine.l0 k (n : Int) (List.replicate i 0 ++ done) ((i : Int) - 1)) (pad 9 n0) := by
  intro i
  induction i with
  | zero =>
    intro n done hn hl hp
    refine Ev.step (fun k => ?_) (Ev.now _)
    rw [nat_nine.l0, if_neg (by omega), hp]
    rfl
  | succ i ih =>
    intro n done hn hl hp
    rw [show pad (i + 1) n = pad i (n / 10) ++ [48 + ((n % 10 : Nat) : Int)] from rfl, List.append_assoc] at hp
    have e1 : (((i + 1 : Nat) : Int) - 1).toNat = i := by omega
    have c1 : (((i + 1 : Nat) : Int) - 1) ≥ 0 := by omega
    have c2 : (((i + 1 : Nat) : Int) - 1) < ((List.replicate (i + 1) (0 : Int) ++ done).length : Int) := by
      rw [List.length_append, List.length_replicate]; omega
    have e2 : Int.tdiv (n : Int) 10 = ((n / 10 : Nat) : Int) := rfl
    have e3 : Int.tmod (n : Int) 10 = ((n % 10 : Nat) : Int) := rfl
    have hm := Nat.mod_lt n (show 0 < 10 by decide)
    have e4 : IntKind.u8.wrap (IntKind.u64.wrap (48 + ((n % 10 : Nat) : Int))) = 48 + ((n % 10 : Nat) : Int) := by
      generalize n % 10 = d at hm ⊢
      rw [w64, IntKind.wrap_u8]; omega
    have e5 : IntKind.u64.wrap ((n / 10 : Nat) : Int) = ((n / 10 : Nat) : Int) := by
      clear e4
      rw [w64]; omega
    have e6 : wrap64 ((((i + 1 : Nat) : Int) - 1) - 1) = (i : Int) - 1 := by
      clear e4 e5
      rw [wrap_id (by omega) (by omega)]; omega
    refine Ev.step (fun k => ?_) (ih (n / 10) ((48 + ((n % 10 : Nat) : Int)) :: done) (by clear e4 e5 e6; omega) (by rw [List.length_cons]; omega) hp)
    rw [nat_nine.l0, if_pos c1, if_pos c2, e1, e2, e3, e4, e5, e6, fillr]
theorem nine_ev (n : Nat) (h : n < 18446744073709551616) : Ev (fun k => nat_nine.f k (n : Int)) (pad 9 n) := by
  have h1 := nine_loop n h 9 n [] h rfl (by rw [List.append_nil])
  rw [List.append_nil] at h1
  exact h1

def p9 (i : Nat) : Nat := 10 ^ (9 * i)
theorem p9_succ (i : Nat) : p9 (i + 1) = p9 i * 1000000000 := by
  unfold p9
  rw [Nat.mul_add, Nat.pow_add]
def parts (n : Nat) : Nat → List Int
  | 0 => []
  | i + 1 => parts n i ++ [((n / p9 i % 1000000000 : Nat) : Int)]
theorem parts_length (n : Nat) : ∀ i, (parts n i).length = i
  | 0 => rfl
  | i + 1 => by rw [parts, List.length_append, parts_length n i]; rfl
theorem parts_rd (n : Nat) : ∀ m i, i < m → rd (parts n m) (i : Int) = ((n / p9 i % 1000000000 : Nat) : Int)
  | 0, i, h => by omega
  | m + 1, i, h => by
    rw [parts]
    by_cases hi : i = m
    · subst hi
      have := rd_at (parts n i) (((n / p9 i % 1000000000 : Nat) : Int)) []
      rwa [parts_length] at this
    · have ih := parts_rd n m i (by omega)
      rw [rd_nat] at ih ⊢
      rw [List.getD_eq_getElem?_getD, List.getElem?_append_left (by rw [parts_length]; omega), ← List.getD_eq_getElem?_getD]
      exact ih
theorem bytesOk_of {l : List Int} (h : ∀ x ∈ l, 48 ≤ x ∧ x ≤ 57) : bytesOk l = true := by
  unfold bytesOk
  rw [List.all_eq_true]
  intro x hx
  have := h x hx
  simp only [Bool.and_eq_true, decide_eq_true_eq]
  omega
theorem print_l2 (r : List Int) (x : Int) (hx : x ≠ 48) (hb : ∀ y ∈ x :: r, 48 ≤ y ∧ y ≤ 57) (z : Nat) (hz : z + r.length ≤ 1125899906842624) : ∀ d i : Nat, i + d = z →
    Ev (fun k => nat_Print.l2 k (List.replicate z 48 ++ x :: r) (i : Int)) (ofBytes (x :: r)) := by
  have hl : (List.replicate z (48 : Int) ++ x :: r).length = z + r.length + 1 := by rw [List.length_append, List.length_replicate, List.length_cons]; omega
  intro d
  induction d with
  | zero =>
    intro i hi
    obtain rfl : i = z := by omega
    have hr : rd (List.replicate i 48 ++ x :: r) (i : Int) = x := by
      have := rd_at (List.replicate i 48) x r
      rwa [List.length_replicate] at this
    have hd : (List.replicate i (48 : Int) ++ x :: r).drop i = x :: r := by
      rw [List.drop_append_of_le_length (by rw [List.length_replicate]; exact Nat.le_refl _), List.drop_of_length_le (by rw [List.length_replicate]; exact Nat.le_refl _), List.nil_append]
    refine Ev.step (fun k => ?_) (Ev.now _)
    rw [nat_Print.l2, if_pos (Int.natCast_nonneg _), if_pos (by rw [hl]; omega), hr, if_neg hx, Int.toNat_natCast, hd, if_pos (bytesOk_of hb)]
  | succ d ih =>
    intro i hi
    have hr : rd (List.replicate z 48 ++ x :: r) (i : Int) = 48 := by
      rw [rd_nat, List.getD_eq_getElem?_getD, List.getElem?_append_left (by rw [List.length_replicate]; omega), List.getElem?_replicate, if_pos (by omega)]
      rfl
    refine Ev.step (fun k => ?_) (ih (i + 1) (by omega))
    rw [nat_Print.l2, if_pos (Int.natCast_nonneg _), if_pos (by rw [hl]; clear hr; omega), if_pos hr, wr_succ i (by omega)]
theorem print_l1 (n m : Nat) (hm : m ≤ 1099511627776) (R : ByteArray) (hend : Ev (fun k => nat_Print.l2 k (pad (9 * m) n) 0) R) : ∀ i : Nat, i ≤ m →
    Ev (fun k => nat_Print.l1 k (parts n m) (pad (9 * (m - i)) (n / p9 i)) ((i : Int) - 1)) R := by
  intro i
  induction i with
  | zero =>
    intro _
    refine Ev.step (fun k => ?_) hend
    rw [nat_Print.l1, if_neg (by omega), Nat.sub_zero, show p9 0 = 1 from rfl, Nat.div_one]
  | succ i ih =>
    intro hi
    have e0 : (((i + 1 : Nat) : Int) - 1) = (i : Int) := by omega
    have hp := parts_rd n m i (by omega)
    have hlt := Nat.mod_lt (n / p9 i) (show 0 < 1000000000 by decide)
    have e9 := nine_ev (n / p9 i % 1000000000) (by omega)
    have hpad : pad (9 * (m - (i + 1))) (n / p9 (i + 1)) ++ pad 9 (n / p9 i % 1000000000) = pad (9 * (m - i)) (n / p9 i) := by
      have h1 := pad_mod 9 (n / p9 i)
      have h2 := pad_add (9 * (m - (i + 1))) 9 (n / p9 i)
      rw [show (10 : Nat) ^ 9 = 1000000000 from rfl] at h1 h2
      rw [h1, p9_succ, ← Nat.div_div_eq_div_mul, ← h2]
      congr 1
      omega
    have hw : wrap64 ((i : Int) - 1) = (i : Int) - 1 := wrap_id (by omega) (by omega)
    refine Ev.step (f := fun k => (nat_nine.f k (((n / p9 i % 1000000000 : Nat) : Int))).bind fun v7 => if (pad (9 * (m - (i + 1))) (n / p9 (i + 1))).length + v7.length < 140737488355329 then nat_Print.l1 k (parts n m) (pad (9 * (m - (i + 1))) (n / p9 (i + 1)) ++ v7) ((i : Int) - 1) else none) (fun k => ?_) (Ev.bind e9 ?_)
    · rw [nat_Print.l1, e0, if_pos (by exact Int.natCast_nonneg _), if_pos (by rw [parts_length]; exact Int.ofNat_lt.2 (by omega)), hp, hw]
    · refine Ev.if_pos ?_ ?_
      · rw [pad_length, pad_length]; omega
      · rw [hpad]
        exact ih (by omega)
theorem print_l0 (n : Nat) (h0 : n ≠ 0) (hl : len n ≤ 17179869184) : ∀ (x i : Nat), x = n / p9 i → i + bl x ≤ 549755813888 →
    Ev (fun k => nat_Print.l0 k (lm x) (parts n i)) (ofBytes (dec n)) := by
  intro x
  induction x using Nat.strongRecOn with
  | ind x ih =>
    intro i hx hb
    by_cases hz : x = 0
    · have hlt : n < 10 ^ (9 * i) := lt_ten_pow n (9 * i) (by rw [← hz, hx]; rfl)
      obtain ⟨z, hpad⟩ := pad_dec (9 * i) n h0 hlt
      obtain ⟨y, r, hd, hy⟩ := dec_head n h0
      have hby := dec_byte n
      rw [hd] at hpad hby
      have hlen : z + (r.length + 1) = 9 * i := by
        have := congrArg List.length hpad
        rw [pad_length, List.length_append, List.length_replicate, List.length_cons] at this
        exact this.symm
      have hend := print_l2 r y hy hby z (by omega) z 0 (by omega)
      rw [← hpad, ← hd] at hend
      have h1 := print_l1 n i (by omega) (ofBytes (dec n)) hend i (Nat.le_refl _)
      rw [Nat.sub_self, Nat.mul_zero] at h1
      have hw : wrap64 ((i : Int) - 1) = (i : Int) - 1 := wrap_id (by omega) (by omega)
      refine Ev.step (fun k => ?_) h1
      rw [nat_Print.l0, hz, lm_zero, if_neg (by simp), parts_length, hw]
      rfl
    · have hbx := bl_tenth x 1000000000 hz (by decide)
      have hlx : len x ≤ 17179869184 := Nat.le_trans (len_mono (by rw [hx]; exact Nat.div_le_self _ _)) hl
      have es := small_ev (lm x) (lm_ok x) (by rw [lm_length]; omega) 1000000000 (by decide) (by decide)
      rw [val_lm] at es
      have hl0 : len x ≠ 0 := fun e => hz (len_eq_zero.1 e)
      refine Ev.step (f := fun k => (nat_small.f k (lm x) 1000000000).bind fun v5 => if (parts n i).length < 17592186044416 then nat_Print.l0 k v5.1 (parts n i ++ [v5.2]) else none) (fun k => ?_) (Ev.bind es ?_)
      · rw [nat_Print.l0, if_pos (by rw [lm_length]; omega)]
      · refine Ev.if_pos (by rw [parts_length]; omega) ?_
        have hn : x / 1000000000 = n / p9 (i + 1) := by rw [hx, p9_succ, Nat.div_div_eq_div_mul]
        have := ih (x / 1000000000) (by omega) (i + 1) hn (by omega)
        rw [parts, ← hx] at this
        exact this
theorem obs_size (xs : List Int) : (ofBytes xs).size = xs.length := by simp [ofBytes, ByteArray.size]
def prN (n : Nat) : ByteArray := ofBytes (dec n)
theorem prN_size (n : Nat) : (prN n).size ≤ 32 * len n + 1 := by
  have h1 := dec_length n
  have h2 := bl_len n
  unfold prN
  rw [obs_size]
  omega
theorem print_ev (a : List Int) (ha : U a) (hl : a.length ≤ 17179869184) : Ev (fun k => nat_Print.f k a) (prN (val a)) := by
  have lv := val_len a
  refine Ev.bind (clean_ev a ha (by omega)) ?_
  generalize val a = n at lv ⊢
  by_cases h0 : n = 0
  · subst h0
    refine Ev.if_pos (by rw [lm_zero]; rfl) ((Ev.now _).of_eq ?_)
    decide +kernel
  · have hl0 : len n ≠ 0 := fun e => h0 (len_eq_zero.1 e)
    have hb := bl_len n
    refine Ev.if_neg (by rw [lm_length]; omega) ?_
    exact print_l0 n h0 (by omega) n 0 (by rw [show p9 0 = 1 from rfl, Nat.div_one]) (by omega)
end Go.DI.Th
namespace Go.DI.Th
open Go Go.RowKit Go.DI

theorem prN_small {n : Nat} (h : n < 18446744073709551616) : (prN n).size ≤ 65 := by
  have h1 := prN_size n
  have h2 := len_small h
  omega
def minus : ByteArray := ⟨#[45]⟩
def slash : ByteArray := ⟨#[47]⟩
def prW (z : Int) : ByteArray := if z < 0 then minus ++ prN z.natAbs else prN z.natAbs
theorem prW_size (z : Int) : (prW z).size ≤ 32 * len z.natAbs + 2 := by
  have := prN_size z.natAbs
  unfold prW
  split
  · rw [ByteArray.size_append]
    have : minus.size = 1 := rfl
    omega
  · omega
theorem wprint_ev (b : Bool) (l : List Int) (h : U l) (hn : l.length ≤ 17179869184) : Ev (fun k => whole_Print.f k b l) (prW (wv b l)) := by
  have lv := val_len l
  have ha := wv_abs b l
  refine Ev.bind (wclean_ev b l h (by omega)) ?_
  generalize wv b l = z at ha ⊢
  have hl : len z.natAbs ≤ 17179869184 := by rw [ha]; omega
  have hp := print_ev (lm z.natAbs) (lm_ok _).U (by rw [lm_length]; exact hl)
  rw [val_lm] at hp
  have hs := prN_size z.natAbs
  unfold wl prW
  dsimp only
  by_cases hz : z < 0
  · rw [if_pos hz]
    refine Ev.if_pos (decide_eq_true hz) (Ev.bind hp (Ev.if_pos ?_ (Ev.now _)))
    have : (⟨#[45]⟩ : ByteArray).size = 1 := rfl
    omega
  · rw [if_neg hz]
    exact Ev.if_neg (by simp [hz]) (Ev.bind hp (Ev.now _))
def prQ (z : Int) (q : Nat) : ByteArray := if q = 1 then prW z else prW z ++ slash ++ prN q
def prR (b : Bool) (n d : List Int) : ByteArray := prQ (wv (rl (num b n d) (den d)).1 (rl (num b n d) (den d)).2.1) (den d / Nat.gcd (num b n d).natAbs (den d))
theorem num_abs (b : Bool) (n d : List Int) : (num b n d).natAbs ≤ val n := by
  unfold num
  split
  · exact Nat.zero_le _
  · rw [wv_abs]; exact Nat.le_refl _
theorem prQ_size (z : Int) (q : Nat) : (prQ z q).size ≤ 32 * len z.natAbs + 32 * len q + 4 := by
  have h1 := prW_size z
  have h2 := prN_size q
  have h3 : slash.size = 1 := rfl
  unfold prQ
  split
  · omega
  · rw [ByteArray.size_append, ByteArray.size_append]; omega
theorem rl_len (b : Bool) (n d : List Int) : len ((num b n d).natAbs / Nat.gcd (num b n d).natAbs (den d)) ≤ n.length ∧ len (den d / Nat.gcd (num b n d).natAbs (den d)) ≤ d.length + 1 := by
  have lvn := val_len n
  have lvd := val_len d
  have hn := num_abs b n d
  have hd : den d ≤ max (val d) 1 := by unfold den; split <;> omega
  constructor
  · exact Nat.le_trans (len_mono (Nat.le_trans (Nat.div_le_self _ _) hn)) lvn
  · refine Nat.le_trans (len_mono (Nat.le_trans (Nat.div_le_self _ _) hd)) ?_
    have h1 : len (max (val d) 1) ≤ len (val d) + 1 := by
      rcases Nat.le_total (val d) 1 with h | h
      · rw [Nat.max_eq_right h]
        have : len 1 ≤ 1 := len_le (by decide)
        omega
      · rw [Nat.max_eq_left h]; omega
    omega
theorem prR_size (b : Bool) (n d : List Int) : (prR b n d).size ≤ 32 * n.length + 32 * (d.length + 1) + 4 := by
  have h := rl_len b n d
  have := prQ_size (wv (rl (num b n d) (den d)).1 (rl (num b n d) (den d)).2.1) (den d / Nat.gcd (num b n d).natAbs (den d))
  rw [wv_abs] at this
  have e : val (rl (num b n d) (den d)).2.1 = (num b n d).natAbs / Nat.gcd (num b n d).natAbs (den d) := val_lm _
  rw [e] at this
  unfold prR
  omega
theorem rprint_ev (b : Bool) (n d : List Int) (hn : U n) (hd : U d) (hln : n.length ≤ 8589934592) (hld : d.length ≤ 8589934592) : Ev (fun k => ratio_Print.f k b n d) (prR b n d) := by
  have hlen := rl_len b n d
  refine Ev.bind (rclean_ev b n d hn hd (by omega) (by omega)) ?_
  have e1 : (rl (num b n d) (den d)).2.1 = lm ((num b n d).natAbs / Nat.gcd (num b n d).natAbs (den d)) := rfl
  have e2 : (rl (num b n d) (den d)).2.2 = lm (den d / Nat.gcd (num b n d).natAbs (den d)) := rfl
  unfold prR
  generalize hq : den d / Nat.gcd (num b n d).natAbs (den d) = q at hlen e2 ⊢
  generalize (num b n d).natAbs / Nat.gcd (num b n d).natAbs (den d) = p at hlen e1 ⊢
  generalize rl (num b n d) (den d) = x at e1 e2 ⊢
  obtain ⟨s, l1, l2⟩ := x
  dsimp only at e1 e2 ⊢
  subst e1 e2
  have hw := wprint_ev s (lm p) (lm_ok p).U (by rw [lm_length]; omega)
  have hc := cmp_ev (lm q) (lm 1) (lm_ok q).U (lm_ok 1).U (by rw [lm_length]; omega) (by rw [lm_length]; have : len 1 ≤ 1 := len_le (by decide); omega)
  rw [val_lm, val_lm] at hc
  have hs := prW_size (wv s (lm p))
  rw [wv_abs, val_lm] at hs
  have hs2 := prN_size q
  refine Ev.bind hw (Ev.bind (ofN_ev 1 (by decide)) (Ev.bind hc ?_))
  unfold prQ
  by_cases h1 : q = 1
  · subst h1
    rw [if_pos rfl]
    exact Ev.if_pos (by unfold cmp; rw [if_neg (by omega), if_neg (by omega)]) (Ev.now _)
  · rw [if_neg h1]
    have hp := print_ev (lm q) (lm_ok q).U (by rw [lm_length]; omega)
    rw [val_lm] at hp
    refine Ev.if_neg (by unfold cmp; split <;> (try split) <;> omega) (Ev.if_pos ?_ (Ev.bind hp (Ev.if_pos ?_ (Ev.now _))))
    · have : (⟨#[47]⟩ : ByteArray).size = 1 := rfl
      omega
    · rw [ByteArray.size_append]
      have : (⟨#[47]⟩ : ByteArray).size = 1 := rfl
      omega
theorem digits_prR (n : Nat) : prR false (lm n) (lm 1) = prN n := by
  have h1 : val (lm 1) = 1 := val_lm 1
  have h2 : den (lm 1) = 1 := by unfold den; rw [h1, if_neg (by decide)]
  have h3 : num false (lm n) (lm 1) = (n : Int) := by unfold num wv; rw [h1, if_neg (by decide), if_neg (by simp), val_lm]
  unfold prR
  rw [h2, h3, Int.natAbs_natCast, Nat.gcd_one_right]
  unfold rl prQ
  rw [Int.natAbs_natCast, Nat.gcd_one_right, Nat.div_one, Nat.div_one, if_pos rfl]
  have e : wv (decide ((n : Int) < 0)) (lm n) = (n : Int) := by
    rw [decide_eq_false (show ¬ ((n : Int) < 0) by omega)]
    unfold wv
    rw [if_neg (by simp), val_lm]
  rw [e]
  unfold prW
  rw [if_neg (show ¬ ((n : Int) < 0) by omega), Int.natAbs_natCast]
end Go.DI.Th
namespace Go.DI.Th
open Go Go.RowKit Go.DI

def prT (r : Rt) : ByteArray := prR r.1 r.2.1 r.2.2
theorem prT_ev (r : Rt) (h : RtOk r) : Ev (fun k => ratio_Print.f k r.1 r.2.1 r.2.2) (prT r) := rprint_ev r.1 r.2.1 r.2.2 h.1 h.2.1 (by have := h.2.2.1; omega) (by have := h.2.2.2; omega)
end Go.DI.Th
namespace Go.DI.Th
open Go Go.RowKit Go.DI

def Dig (c : UInt8) : Prop := 48 ≤ c.toNat ∧ c.toNat ≤ 57
theorem Dig.n47 {c : UInt8} (h : Dig c) : c ≠ 47 := fun e => by subst e; exact absurd h.1 (by decide)
theorem Dig.n45 {c : UInt8} (h : Dig c) : c ≠ 45 := fun e => by subst e; exact absurd h.1 (by decide)
theorem toL_ofBytes (l : List Int) : toL (ofBytes l) = l.map fun n => UInt8.ofNat n.toNat := by unfold toL ofBytes; rfl
theorem prN_dig (n : Nat) : ∀ c ∈ toL (prN n), Dig c := by
  intro c hc
  unfold prN at hc
  rw [toL_ofBytes, List.mem_map] at hc
  obtain ⟨x, hx, e⟩ := hc
  have := dec_byte n x hx
  subst e
  unfold Dig
  rw [UInt8.toNat_ofNat', Nat.mod_eq_of_lt (by omega)]
  omega
def vb (l : List UInt8) : Nat := l.foldl (fun a c => 10 * a + (c.toNat - 48)) 0
theorem vb_prN (n : Nat) : vb (toL (prN n)) = n := by
  unfold prN
  rw [toL_ofBytes]
  induction n using Nat.strongRecOn with
  | ind n ih =>
    by_cases h : n < 10
    · rw [dec_small h]
      show 10 * 0 + ((UInt8.ofNat (48 + (n : Int)).toNat).toNat - 48) = n
      rw [UInt8.toNat_ofNat', Nat.mod_eq_of_lt (by omega)]
      omega
    · rw [dec_big h, List.map_append]
      unfold vb at ih ⊢
      rw [List.foldl_append, ih (n / 10) (by omega)]
      show 10 * (n / 10) + ((UInt8.ofNat (48 + ((n % 10 : Nat) : Int)).toNat).toNat - 48) = n
      have hm : n % 10 < 10 := Nat.mod_lt _ (by decide)
      have hd := Nat.div_add_mod n 10
      generalize n % 10 = m at hm hd ⊢
      rw [UInt8.toNat_ofNat', Nat.mod_eq_of_lt (by omega)]
      omega
theorem toL_minus : toL minus = [45] := rfl
theorem toL_slash : toL slash = [47] := rfl
theorem prN_ne (n : Nat) : toL (prN n) ≠ [] := by
  unfold prN
  rw [toL_ofBytes]
  by_cases h : n < 10
  · rw [dec_small h]; simp
  · rw [dec_big h]; simp
theorem wv_rl (z : Int) (q : Nat) : wv (rl z q).1 (rl z q).2.1 = rnum z q := by
  unfold rl wv rnum
  simp only [val_lm, decide_eq_true_eq]
theorem prT_eq (r : Rt) : prT r = prQ (rnum (num r.1 r.2.1 r.2.2) (den r.2.2)) (rden (num r.1 r.2.1 r.2.2) (den r.2.2)) := by
  unfold prT prR
  rw [wv_rl]
  rfl
end Go.DI.Th
namespace Go.DI.Th
open Go Go.RowKit Go.DI

def blank (c : UInt8) : Bool := c == 32 || c == 9 || c == 13
def plain (c : UInt8) : Bool := decide (32 < c.toNat ∧ c.toNat < 127)
def inw (c : UInt8) : Bool := plain c && !(c == 35)
abbrev W := Int × Int × ByteArray
theorem u8_eq (c : UInt8) (n : Nat) (h : n < 256) : ((c.toNat : Int) = (n : Int)) ↔ c = UInt8.ofNat n := by
  constructor
  · intro e
    apply UInt8.toNat_inj.1
    rw [UInt8.toNat_ofNat', Nat.mod_eq_of_lt h]
    omega
  · intro e
    rw [e, UInt8.toNat_ofNat', Nat.mod_eq_of_lt h]
theorem blank_eq (c : UInt8) : lex_blank.f (c.toNat : Int) = some (blank c) := by
  unfold lex_blank.f blank
  have h1 : ((c.toNat : Int) = 32) ↔ c = 32 := u8_eq c 32 (by decide)
  have h2 : ((c.toNat : Int) = 9) ↔ c = 9 := u8_eq c 9 (by decide)
  have h3 : ((c.toNat : Int) = 13) ↔ c = 13 := u8_eq c 13 (by decide)
  by_cases e1 : c = 32
  · rw [if_pos (h1.2 e1)]; simp [e1]
  · rw [if_neg (fun e => e1 (h1.1 e))]
    by_cases e2 : c = 9
    · rw [if_pos (h2.2 e2)]; simp [e2]
    · rw [if_neg (fun e => e2 (h2.1 e))]
      have : (((c.toNat : Int) == 13) : Bool) = (c == 13) := by
        rw [Bool.eq_iff_iff, beq_iff_eq, beq_iff_eq]; exact h3
      rw [this]
      simp [e1, e2]
theorem plain_eq (c : UInt8) : lex_plain.f (c.toNat : Int) = some (plain c) := by
  unfold lex_plain.f plain
  by_cases e1 : (c.toNat : Int) > 32
  · rw [if_pos e1]
    have e : decide ((c.toNat : Int) < 127) = decide (32 < c.toNat ∧ c.toNat < 127) := by
      rw [decide_eq_decide]; omega
    rw [e]
  · rw [if_neg e1]
    have e : decide (32 < c.toNat ∧ c.toNat < 127) = false := by
      rw [decide_eq_false_iff_not]; omega
    rw [e]
def wordsS (acc : List W) (pos : Nat) (cs : List UInt8) : List W × Int × Int :=
  match cs with
  | [] => (acc, 0, 0)
  | c :: r => if blank c then wordsS acc (pos + 1) r else if c = 35 then (acc, 0, 0) else if plain c then
      (if acc.length ≥ 4096 then ([], pos, 16) else wordsS (acc ++ [((pos : Int), 0, ofL (c :: r.takeWhile inw))]) (pos + (c :: r.takeWhile inw).length) (r.dropWhile inw)) else ([], pos, 4)
termination_by cs.length
decreasing_by
  · simp
  · have h := congrArg List.length (List.takeWhile_append_dropWhile (p := inw) (l := r))
    rw [List.length_append] at h
    rw [List.length_cons]
    omega
theorem words_l1 (x : ByteArray) (acc : List W) (ha : acc.length < 4096) (R : List W × Int × Int) (hx : x.size ≤ 1125899906842624) (p : List UInt8) : ∀ (r w : List UInt8), toL x = p ++ (w ++ r) →
    Ev (fun k => lex_Words.l0 k x (acc ++ [((p.length : Int), 0, ofL (w ++ r.takeWhile inw))]) ((p.length + (w ++ r.takeWhile inw).length : Nat) : Int)) R →
    Ev (fun k => lex_Words.l1 k x acc (p.length : Int) ((p.length + w.length : Nat) : Int)) R := by
  intro r
  induction r with
  | nil =>
    intro w hw hend
    rw [List.takeWhile_nil, List.append_nil] at hend
    rw [List.append_nil] at hw
    refine Ev.succ ?_
    have hs : x.size = p.length + w.length := by rw [sz_end hw, List.length_append]
    have he := ext_at (b := x) (p := p) (w := w) (r := []) (by rw [hw, List.append_nil])
    simp only [lex_Words.l1]
    refine Ev.if_neg (by omega) (Ev.if_pos (nn0 _) (Ev.if_pos (by omega) (Ev.if_pos (by omega) (Ev.if_pos (by omega) ?_))))
    rw [Int.toNat_natCast, Int.toNat_natCast, he]
    exact hend
  | cons c r ih =>
    intro w hw hend
    have hw2 : toL x = (p ++ w) ++ c :: r := by rw [hw, List.append_assoc]
    have hb := bt_at hw2
    have hs := sz_at hw2
    rw [List.length_append] at hb hs
    have hsn : p.length + w.length < x.size := by omega
    by_cases hc : inw c = true
    · have hih := ih (w ++ [c]) (by rw [hw]; simp) (by
        rw [List.takeWhile_cons, if_pos hc] at hend
        rw [List.append_assoc]
        exact hend)
      have ew : wrap64 (((p.length + w.length : Nat) : Int) + 1) = ((p.length + (w ++ [c]).length : Nat) : Int) := by
        rw [wr_succ _ (by omega), List.length_append, List.length_singleton, Nat.add_assoc]
      refine Ev.succ ?_
      simp only [lex_Words.l1, hb, ew, plain_eq]
      unfold inw at hc
      rw [Bool.and_eq_true] at hc
      refine Ev.if_pos hs (Ev.if_pos (nn0 _) (Ev.bind (Ev.now _) (Ev.if_pos hc.1 (Ev.if_pos ?_ hih))))
      intro e
      have e2 := (u8_eq c 35 (by decide)).1 e
      rw [e2] at hc
      exact absurd hc.2 (by decide)
    · rw [List.takeWhile_cons, if_neg hc, List.append_nil] at hend
      have he := ext_at (b := x) (p := p) (w := w) (r := c :: r) hw
      have fin : Ev (fun k => if 0 ≤ (p.length : Int) then (if (p.length : Int) ≤ ((p.length + w.length : Nat) : Int) then (if ((p.length + w.length : Nat) : Int) ≤ (x.size : Int) then (if acc.length < 4398046511104 then (lex_Words.l0 k x (acc ++ [((p.length : Int), 0, (x.extract (((p.length : Int)).toNat) ((((p.length + w.length : Nat) : Int)).toNat)))]) ((p.length + w.length : Nat) : Int)) else none) else none) else none) else none) R := by
        rw [Int.toNat_natCast, Int.toNat_natCast, he]
        exact Ev.if_pos (nn0 _) (Ev.if_pos (by omega) (Ev.if_pos (by omega) (Ev.if_pos (by omega) hend)))
      refine Ev.succ ?_
      simp only [lex_Words.l1, hb, plain_eq]
      refine Ev.if_pos hs (Ev.if_pos (nn0 _) (Ev.bind (Ev.now _) ?_))
      by_cases hp : plain c = true
      · refine Ev.if_pos hp (Ev.if_neg ?_ fin)
        intro e
        apply hc
        unfold inw
        rw [hp, Bool.true_and, Bool.not_eq_true', beq_eq_false_iff_ne]
        intro e2
        exact e (by rw [e2]; rfl)
      · exact Ev.if_neg hp fin
theorem words_l0 (x : ByteArray) (hx : x.size ≤ 1125899906842624) : ∀ (n : Nat) (r p : List UInt8) (acc : List W), r.length ≤ n → toL x = p ++ r → acc.length ≤ 4096 → Ev (fun k => lex_Words.l0 k x acc (p.length : Int)) (wordsS acc p.length r) := by
  intro n
  induction n with
  | zero =>
    intro r p acc hr hp _
    have : r = [] := List.eq_nil_of_length_eq_zero (by omega)
    subst this
    rw [List.append_nil] at hp
    have hs := sz_end hp
    refine Ev.succ ?_
    simp only [lex_Words.l0]
    rw [wordsS]
    exact Ev.if_neg (by omega) (Ev.now _)
  | succ n ih =>
    intro r p acc hr hp ha
    cases r with
    | nil =>
      rw [List.append_nil] at hp
      have hs := sz_end hp
      refine Ev.succ ?_
      simp only [lex_Words.l0]
      rw [wordsS]
      exact Ev.if_neg (by omega) (Ev.now _)
    | cons c r =>
      have hb := bt_at hp
      have hs := sz_at hp
      have hrl : r.length ≤ n := by rw [List.length_cons] at hr; omega
      have ew := wr_succ p.length (by omega)
      refine Ev.succ ?_
      simp only [lex_Words.l0, hb, blank_eq, plain_eq]
      rw [wordsS]
      refine Ev.if_pos hs (Ev.if_pos (nn0 _) (Ev.bind (Ev.now _) ?_))
      by_cases h1 : blank c = true
      · rw [if_pos h1]
        refine Ev.if_pos h1 ?_
        rw [ew]
        have := ih r (p ++ [c]) acc hrl (by rw [hp]; simp) ha
        rw [List.length_append, List.length_singleton] at this
        exact this
      · rw [if_neg h1]
        refine Ev.if_neg h1 ?_
        by_cases h2 : c = 35
        · rw [if_pos h2]
          exact Ev.if_pos (by rw [h2]; rfl) (Ev.now _)
        · rw [if_neg h2]
          refine Ev.if_neg (fun e => h2 ((u8_eq c 35 (by decide)).1 e)) (Ev.bind (Ev.now _) ?_)
          by_cases h3 : plain c = true
          · rw [if_pos h3]
            refine Ev.if_pos h3 ?_
            by_cases h4 : acc.length ≥ 4096
            · rw [if_pos h4]
              exact Ev.if_pos (by omega) (Ev.now _)
            · rw [if_neg h4]
              refine Ev.if_neg (by omega) ?_
              have hc : inw c = true := by
                unfold inw
                rw [h3, Bool.true_and, Bool.not_eq_true', beq_eq_false_iff_ne]
                exact h2
              have etw : (c :: r).takeWhile inw = c :: r.takeWhile inw := by rw [List.takeWhile_cons, if_pos hc]
              have hsplit := List.takeWhile_append_dropWhile (p := inw) (l := r)
              have hdl : (r.dropWhile inw).length ≤ n := by
                have := congrArg List.length hsplit
                rw [List.length_append] at this
                omega
              have hnext := ih (r.dropWhile inw) (p ++ (c :: r.takeWhile inw)) (acc ++ [((p.length : Int), 0, ofL (c :: r.takeWhile inw))]) hdl (by rw [hp, List.append_assoc, List.cons_append, hsplit]) (by rw [List.length_append, List.length_singleton]; omega)
              rw [List.length_append] at hnext
              have := words_l1 x acc (by omega) _ hx p (c :: r) [] (by rw [hp]; rfl) (by rw [List.nil_append, etw]; exact hnext)
              exact this
          · rw [if_neg h3]
            exact Ev.if_neg h3 (Ev.now _)
theorem words_ev (x : ByteArray) (hx : x.size ≤ 1125899906842624) : Ev (fun k => lex_Words.f k x) (wordsS [] 0 (toL x)) := words_l0 x hx (toL x).length (toL x) [] [] (Nat.le_refl _) rfl (Nat.zero_le _)
end Go.DI.Th
namespace Go.DI.Th
open Go Go.RowKit Go.DI

def WB (B : Nat) (l : List W) : Prop := ∀ w ∈ l, 0 ≤ w.1 ∧ w.1 ≤ (B : Int)
theorem wordsS_bd (B : Nat) : ∀ (n : Nat) (cs : List UInt8) (acc : List W) (pos : Nat), cs.length ≤ n → WB B acc → pos + cs.length ≤ B → acc.length ≤ 4096 →
    WB B (wordsS acc pos cs).1 ∧ (wordsS acc pos cs).1.length ≤ 4096 ∧ 0 ≤ (wordsS acc pos cs).2.1 ∧ (wordsS acc pos cs).2.1 ≤ (B : Int) := by
  intro n
  induction n with
  | zero =>
    intro cs acc pos hn ha hp hl
    have : cs = [] := List.eq_nil_of_length_eq_zero (by omega)
    subst this
    rw [wordsS]
    exact ⟨ha, hl, Int.le_refl _, Int.natCast_nonneg _⟩
  | succ n ih =>
    intro cs acc pos hn ha hp hl
    have hnil : WB B [] := fun w hw => by cases hw
    cases cs with
    | nil =>
      rw [wordsS]
      exact ⟨ha, hl, Int.le_refl _, Int.natCast_nonneg _⟩
    | cons c r =>
      rw [List.length_cons] at hn hp
      rw [wordsS]
      split
      · exact ih r acc (pos + 1) (by omega) ha (by omega) hl
      · split
        · exact ⟨ha, hl, Int.le_refl _, Int.natCast_nonneg _⟩
        · split
          · split
            · exact ⟨hnil, Nat.zero_le _, Int.natCast_nonneg _, by show (pos : Int) ≤ B; omega⟩
            · have hsplit := congrArg List.length (List.takeWhile_append_dropWhile (p := inw) (l := r))
              rw [List.length_append] at hsplit
              refine ih (r.dropWhile inw) _ _ (by omega) ?_ (by rw [List.length_cons]; omega) (by rw [List.length_append, List.length_singleton]; omega)
              intro w hw
              rcases List.mem_append.1 hw with h | h
              · exact ha w h
              · have : w = ((pos : Int), 0, ofL (c :: r.takeWhile inw)) := by simpa using h
                rw [this]
                exact ⟨Int.natCast_nonneg _, by show (pos : Int) ≤ B; omega⟩
          · exact ⟨hnil, Nat.zero_le _, Int.natCast_nonneg _, by show (pos : Int) ≤ B; omega⟩
def nnl (c : UInt8) : Bool := !(c == 10)
end Go.DI.Th
namespace Go.DI.Th
open Go Go.RowKit Go.DI

structure St where
  ls : List (List W)
  i : Nat
  j : Nat
  sz : Int
  err : Int
  at_ : Int
abbrev RT := List (List W) × Int × Int × Int × Int × Int
def St.t (s : St) : RT := (s.ls, (s.i : Int), (s.j : Int), s.sz, s.err, s.at_)
def St.line (s : St) : List W := s.ls.getD s.i []
structure St.Ok (s : St) : Prop where
  ne : ∀ l ∈ s.ls, l ≠ []
  il : s.i ≤ s.ls.length
  ib : s.i ≤ 1048576
  jl : s.j ≤ s.line.length
  jb : s.j ≤ 1048576
end Go.DI.Th
namespace Go.DI.Th
open Go Go.RowKit Go.DI

theorem toBytes_toL (x : ByteArray) : toBytes x = (toL x).map fun b => (b.toNat : Int) := rfl
structure St.Good (s : St) : Prop where
  ok : s.Ok
  ll : ∀ l ∈ s.ls, l.length ≤ 4096
  lss : s.ls.length ≤ 16384
  ws : ∀ l ∈ s.ls, ∀ w ∈ l, w.2.2.size ≤ 1048576
theorem St.Good.line {s : St} (h : s.Good) : s.line.length ≤ 4096 := by
  unfold St.line
  rw [List.getD_eq_getElem?_getD]
  cases e : s.ls[s.i]? with
  | none => exact Nat.zero_le _
  | some l => exact h.ll l (List.mem_of_getElem? e)
theorem St.Good.l1 {s : St} (h : s.Good) : s.line.length ≤ 1048576 := Nat.le_trans h.line (by decide)
end Go.DI.Th
namespace Go.DI.Th
open Go Go.RowKit Go.DI

def WZ (B : Nat) (l : List W) : Prop := ∀ w ∈ l, w.2.2.size ≤ B
theorem wordsS_sz (B : Nat) : ∀ (n : Nat) (cs : List UInt8) (acc : List W) (pos : Nat), cs.length ≤ n → cs.length ≤ B → WZ B acc → WZ B (wordsS acc pos cs).1 := by
  intro n
  induction n with
  | zero =>
    intro cs acc pos hn _ ha
    have : cs = [] := List.eq_nil_of_length_eq_zero (by omega)
    subst this
    rw [wordsS]
    exact ha
  | succ n ih =>
    intro cs acc pos hn hB ha
    have hnil : WZ B [] := fun w hw => by cases hw
    cases cs with
    | nil => rw [wordsS]; exact ha
    | cons c r =>
      rw [List.length_cons] at hn hB
      rw [wordsS]
      split
      · exact ih r acc (pos + 1) (by omega) (by omega) ha
      · split
        · exact ha
        · split
          · split
            · exact hnil
            · have hsplit := congrArg List.length (List.takeWhile_append_dropWhile (p := inw) (l := r))
              rw [List.length_append] at hsplit
              refine ih (r.dropWhile inw) _ _ (by omega) (by omega) ?_
              intro w hw
              rcases List.mem_append.1 hw with h | h
              · exact ha w h
              · have : w = ((pos : Int), 0, ofL (c :: r.takeWhile inw)) := by simpa using h
                rw [this]
                show (ofL (c :: r.takeWhile inw)).size ≤ B
                rw [size_toL, toL_ofL, List.length_cons]
                omega
          · exact hnil
def joinW : List (List UInt8) → List UInt8
  | [] => []
  | [w] => w
  | w :: v :: l => w ++ 32 :: joinW (v :: l)
def WdOk (w : List UInt8) : Prop := w ≠ [] ∧ ∀ c ∈ w, inw c = true
theorem inw_props {c : UInt8} (h : inw c = true) : blank c = false ∧ c ≠ 35 ∧ plain c = true ∧ nnl c = true := by
  unfold inw at h
  rw [Bool.and_eq_true] at h
  obtain ⟨h1, h2⟩ := h
  have h3 : 32 < c.toNat ∧ c.toNat < 127 := by
    unfold plain at h1
    exact of_decide_eq_true h1
  refine ⟨?_, by simpa using h2, h1, ?_⟩
  · unfold blank
    have n1 : c ≠ 32 := fun e => by rw [e] at h3; exact absurd h3.1 (by decide)
    have n2 : c ≠ 9 := fun e => by rw [e] at h3; exact absurd h3.1 (by decide)
    have n3 : c ≠ 13 := fun e => by rw [e] at h3; exact absurd h3.1 (by decide)
    simp [n1, n2, n3]
  · unfold nnl
    have n1 : c ≠ 10 := fun e => by rw [e] at h3; exact absurd h3.1 (by decide)
    simp [n1]
theorem takeWhile_word (p : UInt8 → Bool) (w : List UInt8) (r : List UInt8) (hw : ∀ c ∈ w, p c = true) (hr : ∀ c, r.head? = some c → p c = false) : (w ++ r).takeWhile p = w ∧ (w ++ r).dropWhile p = r := by
  induction w with
  | nil =>
    cases r with
    | nil => exact ⟨rfl, rfl⟩
    | cons c r =>
      have := hr c rfl
      rw [List.nil_append, List.takeWhile_cons, List.dropWhile_cons, this]
      exact ⟨rfl, rfl⟩
  | cons c w ih =>
    have h1 := hw c List.mem_cons_self
    have h2 := ih fun d hd => hw d (List.mem_cons_of_mem _ hd)
    rw [List.cons_append, List.takeWhile_cons, List.dropWhile_cons, h1, if_pos rfl, if_pos rfl, h2.1, h2.2]
    exact ⟨rfl, rfl⟩
theorem wordsS_word (acc : List W) (pos : Nat) (w r : List UInt8) (hw : WdOk w) (hr : ∀ c, r.head? = some c → inw c = false) (ha : acc.length < 4096) : wordsS acc pos (w ++ r) = wordsS (acc ++ [((pos : Int), 0, ofL w)]) (pos + w.length) r := by
  obtain ⟨h0, h1⟩ := hw
  cases w with
  | nil => exact absurd rfl h0
  | cons c w =>
    have hc := inw_props (h1 c List.mem_cons_self)
    have ht := takeWhile_word inw w r (fun d hd => h1 d (List.mem_cons_of_mem _ hd)) hr
    rw [List.cons_append, wordsS, if_neg (by rw [hc.1]; decide), if_neg hc.2.1, if_pos hc.2.2.1, if_neg (by omega), ht.1, ht.2]
end Go.DI.Th
namespace Go.DI.Th
open Go Go.RowKit Go.DI

theorem dig_inw {c : UInt8} (h : Dig c) : inw c = true := by
  unfold inw plain
  obtain ⟨h1, h2⟩ := h
  have h3 : c ≠ 35 := fun e => by rw [e] at h1; exact absurd h1 (by decide)
  rw [decide_eq_true ⟨by omega, by omega⟩]
  simp [h3]
theorem prN_word (n : Nat) : WdOk (toL (prN n)) := ⟨prN_ne n, fun c hc => dig_inw (prN_dig n c hc)⟩
end Go.DI.Th
namespace Go.DI.Th
open Go Go.RowKit Go.DI

theorem plus_limb (x c : Int) (hx : 0 ≤ x ∧ x < 4294967296) (hc : 0 ≤ c ∧ c < 1000000000) :
    ∃ y z : Int, (0 ≤ y ∧ y < 4294967296) ∧ (0 ≤ z ∧ z < 1000000000) ∧ y + 4294967296 * z = c + x * 1000000000 ∧ Go.bits .and .u64 (IntKind.u64.wrap (c + (IntKind.u64.wrap (x * 1000000000)))) 4294967295 = y ∧ (IntKind.u64.wrap (c + (IntKind.u64.wrap (x * 1000000000)))) / 4294967296 = z := by
  have e : IntKind.u64.wrap (c + (IntKind.u64.wrap (x * 1000000000))) = c + x * 1000000000 := by
    simp only [w64]
    omega
  rw [e, and_low (by omega) (by omega)]
  exact ⟨_, _, ⟨Int.emod_nonneg _ (by decide), Int.emod_lt_of_pos _ (by decide)⟩, by omega, by omega, rfl, rfl⟩
theorem plus_val (p vd vt x y z c : Int) (h : vd + p * c = vt) (hs : y + 4294967296 * z = c + x * 1000000000) : vd + p * y + p * 4294967296 * z = vt + p * x * 1000000000 := by grind
theorem plus_loop (a : List Int) (ha : Ok a) (v : Nat) (N : Nat) (hN : N ≤ 35184372088832) (hla : a.length + 1 = N) (hs : val a * 1000000000 + v < 4294967296 ^ N) (d : Nat) : ∀ (done : List Int) (c : Int), Ok done → done.length + d = N → (0 ≤ c ∧ c < 1000000000) →
    val done + 4294967296 ^ done.length * c = (val (a.take done.length) : Int) * 1000000000 + v →
    Ev (fun k => nat_plus.l0 k a c (done ++ List.replicate d 0) (N : Int) (done.length : Int)) (lm (val a * 1000000000 + v)) := by
  induction d with
  | zero =>
    intro done c hd hl hc hv
    have hl' : done.length = N := by omega
    rw [List.take_of_length_le (by omega)] at hv
    have hz : val done = val a * 1000000000 + v := by
      have e : (4294967296 : Int) ^ done.length = ((4294967296 ^ done.length : Nat) : Int) := by rw [Int.natCast_pow]; rfl
      have hc0 : c = 0 := by
        apply Classical.byContradiction
        intro h0
        have h1 : (4294967296 : Int) ^ done.length * 1 ≤ 4294967296 ^ done.length * c := Int.mul_le_mul_of_nonneg_left (by omega) (by rw [e]; exact Int.natCast_nonneg _)
        rw [Int.mul_one, e, hl'] at h1
        rw [hl'] at e
        rw [hl', e] at hv
        omega
      rw [hc0] at hv
      omega
    refine Ev.step (f := fun k => (nat_trim.f k done).bind fun t => some t) (fun k => ?_) (Ev.bind ?_ (Ev.now _))
    · simp only [nat_plus.l0]
      rw [if_neg (by omega)]
      simp
    · have := trim_ev done hd (by omega)
      rwa [hz] at this
  | succ d ih =>
    intro done c hd hl hc hv
    have va := val_take_rd a ha done.length
    obtain ⟨y, nd, hy, hnd, hsum, e1, e2⟩ := plus_limb (rd a (done.length : Int)) c (rd_ok ha _) hc
    refine Ev.step (fun k => ?_) (ih (done ++ [y]) nd (hd.append (Ok.cons hy Ok.nil)) (by simp; omega) hnd ?_)
    · simp only [nat_plus.l0]
      rw [if_pos (by omega), limb_eq a _ (by omega)]
      simp only [Option.bind_some]
      rw [if_pos (by omega), if_pos (by simp; omega), e1, e2, wrap_id (by omega) (by omega), show ((done.length : Int)).toNat = done.length by omega, fill]
      simp
    · rw [List.length_append, List.length_singleton, va, val_snoc_int done y hy, Int.pow_succ]
      have := plus_val (4294967296 ^ done.length) (val done) _ (rd a (done.length : Int)) y nd c hv hsum
      rw [this, Int.add_mul]
      omega
theorem nplus_ev (n v : Nat) (hv : v < 1000000000) (hl : len n ≤ 35184372088830) : Ev (fun k => nat_plus.f k (lm n) (v : Int)) (lm (n * 1000000000 + v)) := by
  have hN : val (lm n) * 1000000000 + v < 4294967296 ^ (len n + 1) := by
    rw [val_lm]
    have := lt_pow_len n
    rw [Nat.pow_succ]
    have h1 : n + 1 ≤ 4294967296 ^ len n := this
    have h2 : (n + 1) * 4294967296 ≤ 4294967296 ^ len n * 4294967296 := Nat.mul_le_mul_right _ h1
    omega
  have h := plus_loop (lm n) (lm_ok n) v (len n + 1) (by omega) (by rw [lm_length]) hN (len n + 1) [] (v : Int) Ok.nil (by simp) (by omega) (by simp [val])
  rw [val_lm] at h
  unfold nat_plus.f
  simp only [lm_length, wr_succ _ (show len n ≤ 1125899906842624 by omega), Int.toNat_natCast, List.length_replicate]
  exact Ev.if_pos (by omega) (Ev.if_pos (by omega) h)
def isD (c : UInt8) : Prop := 48 ≤ c.toNat ∧ c.toNat ≤ 57
instance (c : UInt8) : Decidable (isD c) := by unfold isD; infer_instance
def dgv (a : Nat) (l : List UInt8) : Nat := l.foldl (fun a c => 10 * a + (c.toNat - 48)) a
theorem dgv_cons (a : Nat) (c : UInt8) (l : List UInt8) : dgv a (c :: l) = dgv (10 * a + (c.toNat - 48)) l := by unfold dgv; rw [List.foldl_cons]
theorem dgv_nil (a : Nat) : dgv a [] = a := by unfold dgv; rw [List.foldl_nil]
theorem dgv_append (a : Nat) (l m : List UInt8) : dgv a (l ++ m) = dgv (dgv a l) m := List.foldl_append
theorem dgv_shift : ∀ (l : List UInt8) (a : Nat), dgv a l = a * 10 ^ l.length + dgv 0 l
  | [], a => by rw [dgv_nil, dgv_nil, List.length_nil, Nat.pow_zero]; omega
  | c :: l, a => by
    rw [dgv_cons, dgv_cons, dgv_shift l (10 * a + (c.toNat - 48)), dgv_shift l (10 * 0 + (c.toNat - 48)), List.length_cons, Nat.pow_succ, Nat.add_mul, Nat.mul_zero, Nat.zero_add, Nat.mul_comm 10 a, Nat.mul_assoc, Nat.mul_comm 10 (10 ^ l.length)]
    omega
theorem dgv_step (a d p x : Nat) (h3 : 10 * a + d + 1 ≤ (a + 1) * 10) (h : x < (10 * a + d + 1) * p) : x < (a + 1) * (10 * p) := by
  rw [← Nat.mul_assoc]
  exact Nat.lt_of_lt_of_le h (Nat.mul_le_mul_right _ h3)
theorem dgv_lt : ∀ (l : List UInt8) (a : Nat), (∀ c ∈ l, isD c) → dgv a l < (a + 1) * 10 ^ l.length
  | [], a, _ => by rw [dgv_nil, List.length_nil, Nat.pow_zero]; omega
  | c :: l, a, h => by
    have h1 := h c List.mem_cons_self
    have h2 := dgv_lt l (10 * a + (c.toNat - 48)) fun x hx => h x (List.mem_cons_of_mem _ hx)
    have h3 : 10 * a + (c.toNat - 48) + 1 ≤ (a + 1) * 10 := by unfold isD at h1; omega
    rw [dgv_cons, List.length_cons, Nat.pow_succ, Nat.mul_comm (10 ^ l.length) 10]
    exact dgv_step a (c.toNat - 48) (10 ^ l.length) _ h3 h2
def pE (w : List UInt8) : Int := if w = [] then 4 else if ∀ c ∈ w, isD c then (if w.length > 10000 then 5 else 0) else 4
def pR (w : List UInt8) : List Int × Int := if pE w = 0 then (lm (dgv 0 w), 0) else ([], pE w)
theorem pE_zero {w : List UInt8} : pE w = 0 ↔ w ≠ [] ∧ (∀ c ∈ w, isD c) ∧ w.length ≤ 10000 := by
  unfold pE
  by_cases h : w = []
  · rw [if_pos h]
    exact ⟨fun e => (by cases e), fun e => absurd h e.1⟩
  · rw [if_neg h]
    by_cases h1 : ∀ c ∈ w, isD c
    · rw [if_pos h1]
      by_cases h2 : w.length > 10000
      · rw [if_pos h2]
        exact ⟨fun e => (by cases e), fun e => by omega⟩
      · rw [if_neg h2]
        exact ⟨fun _ => ⟨h, h1, by omega⟩, fun _ => rfl⟩
    · rw [if_neg h1]
      exact ⟨fun e => (by cases e), fun e => absurd e.2.1 h1⟩
theorem ext_drop {s : ByteArray} {a b : List UInt8} (h : toL s = a ++ b) : s.extract a.length s.size = ofL b := by
  apply toL_inj
  rw [toL_extract, h, List.drop_left, toL_ofL, List.take_of_length_le]
  rw [size_toL, h, List.length_append]
  omega
theorem ext_take {s : ByteArray} {a b : List UInt8} (h : toL s = a ++ b) : s.extract 0 a.length = ofL a := by
  apply toL_inj
  rw [toL_extract, h, toL_ofL, List.drop_zero, Nat.sub_zero, List.take_left]
theorem at_byte {s : ByteArray} {a : List UInt8} {c : UInt8} {b : List UInt8} (h : toL s = a ++ c :: b) (hp : a.length < s.size) : s[a.length]'hp = c := by
  have e : (s[a.length]'hp) = (toL s)[a.length]'(by rw [← size_toL]; exact hp) := rfl
  rw [e]
  have : ∀ (l : List UInt8) (hl : a.length < l.length), l = a ++ c :: b → l[a.length]'hl = c := by
    intro l hl e
    subst e
    rw [List.getElem_append_right (Nat.le_refl _)]
    simp
  exact this _ _ h
theorem toBytes_eq (w : List UInt8) : toBytes (ofL w) = w.map fun c => (c.toNat : Int) := rfl
theorem parse_l2 (rest : ByteArray) (x0 : ByteArray) (x7 : Nat) (hx0 : x7 ≤ x0.size) (hrest : x0.extract x7 x0.size = rest) (acc : Nat) (hacc : len acc ≤ 35184372088830) (w : List UInt8) (hw : ∀ c ∈ w, isD c) (hl : w.length ≤ 9) (R : List Int × Int)
    (hend : Ev (fun k => nat_Parse.l1 k rest (lm (acc * 1000000000 + dgv 0 w))) R) : ∀ (b a : List UInt8), w = a ++ b →
    Ev (fun k => nat_Parse.l2 k x0 (lm acc) (x7 : Int) ((dgv 0 a : Nat) : Int) (w.map fun c => (c.toNat : Int)) (w.length : Int) (a.length : Int)) R := by
  intro b
  induction b with
  | nil =>
    intro a hr
    rw [List.append_nil] at hr
    subst hr
    refine Ev.succ ?_
    simp only [nat_Parse.l2]
    have hlt := dgv_lt w 0 hw
    have h9 : 10 ^ w.length ≤ 10 ^ 9 := Nat.pow_le_pow_right (by decide) hl
    refine Ev.if_neg (by omega) (Ev.bind (nplus_ev acc (dgv 0 w) (by omega) hacc) (Ev.if_pos (nn0 _) (Ev.if_pos (by omega) ?_)))
    rw [Int.toNat_natCast, hrest]
    exact hend
  | cons c b ih =>
    intro a hr
    have hc : isD c := hw c (by rw [hr]; simp)
    have hlen : w.length = a.length + (b.length + 1) := by rw [hr, List.length_append, List.length_cons]
    have ha : ∀ x ∈ a, isD x := fun x hx => hw x (by rw [hr]; exact List.mem_append_left _ hx)
    have hlt := dgv_lt a 0 ha
    have h9 : 10 ^ a.length ≤ 10 ^ 8 := Nat.pow_le_pow_right (by decide) (by omega)
    have hih := ih (a ++ [c]) (by rw [hr]; simp)
    rw [dgv_append] at hih
    have er : rd (w.map fun c => (c.toNat : Int)) (a.length : Int) = (c.toNat : Int) := by
      rw [hr, List.map_append, List.map_cons]
      have := rd_at (a.map fun c => (c.toNat : Int)) (c.toNat : Int) (b.map fun c => (c.toNat : Int))
      rwa [List.length_map] at this
    have e8 : IntKind.u8.wrap ((c.toNat : Int) - 48) = ((c.toNat - 48 : Nat) : Int) := by
      unfold isD at hc
      rw [IntKind.wrap_u8]
      omega
    have e9 : IntKind.u64.wrap ((IntKind.u64.wrap (10 * ((dgv 0 a : Nat) : Int))) + (IntKind.u64.wrap ((c.toNat - 48 : Nat) : Int))) = ((dgv (dgv 0 a) [c] : Nat) : Int) := by
      have : dgv (dgv 0 a) [c] = 10 * dgv 0 a + (c.toNat - 48) := by rw [dgv_cons, dgv_nil]
      rw [this]
      unfold isD at hc
      simp only [w64]
      omega
    refine Ev.succ ?_
    simp only [nat_Parse.l2, er, e8, e9, wr_at a c (show a.length ≤ 1125899906842624 by omega)]
    exact Ev.if_pos (by omega) (Ev.if_pos (nn0 _) (Ev.if_pos (by rw [List.length_map]; omega) hih))
theorem len_ten (n : Nat) : len (10 ^ n) ≤ n + 1 := by
  refine len_le ?_
  have : 10 ^ n ≤ 4294967296 ^ n := Nat.pow_le_pow_left (by decide) n
  rw [Nat.pow_succ]
  have := Nat.pow_pos (n := n) (show 0 < 4294967296 by decide)
  omega
theorem len_dgv (w : List UInt8) (h : ∀ c ∈ w, isD c) : len (dgv 0 w) ≤ w.length + 1 := by
  have h1 := dgv_lt w 0 h
  rw [Nat.zero_add, Nat.one_mul] at h1
  exact Nat.le_trans (len_mono (Nat.le_of_lt h1)) (len_ten _)
theorem parse_l1 : ∀ (m : Nat) (a b : List UInt8), b.length ≤ m → (∀ c ∈ a ++ b, isD c) → (a ++ b).length ≤ 10000 → (a = [] ∨ b.length % 9 = 0) →
    Ev (fun k => nat_Parse.l1 k (ofL b) (lm (dgv 0 a))) (lm (dgv 0 (a ++ b)), 0) := by
  intro m
  induction m with
  | zero =>
    intro a b hb hd hl h9
    obtain rfl : b = [] := List.length_eq_zero_iff.1 (by omega)
    refine Ev.succ ?_
    simp only [nat_Parse.l1]
    rw [List.append_nil]
    exact Ev.if_neg (by decide) (Ev.now _)
  | succ m ih =>
    intro a b hb hd hl h9
    have hsz : (ofL b).size = b.length := by rw [size_toL]; rfl
    refine Ev.succ ?_
    simp only [nat_Parse.l1]
    rw [hsz]
    by_cases h0 : b = []
    · subst h0
      rw [List.append_nil]
      exact Ev.if_neg (by decide) (Ev.now _)
    · have hp := List.length_pos_iff.2 h0
      rw [List.length_append] at hl
      have em : Int.tmod (b.length : Int) 9 = ((b.length % 9 : Nat) : Int) := rfl
      rw [em, Int.toNat_natCast]
      refine Ev.if_pos (by omega) ?_
      have step : ∀ n : Nat, 0 < n → n ≤ 9 → n ≤ b.length → (b.length - n) % 9 = 0 → (a ≠ [] → n = 9) → Ev (fun k => nat_Parse.l2 k (ofL b) (lm (dgv 0 a)) (n : Int) 0 (toBytes ((ofL b).extract 0 n)) ((toBytes ((ofL b).extract 0 n)).length : Int) 0) (lm (dgv 0 (a ++ b)), 0) := by
        intro n n0 n9 nb hm hn
        obtain ⟨u, v, rfl, hu⟩ : ∃ u v : List UInt8, b = u ++ v ∧ u.length = n := ⟨b.take n, b.drop n, (List.take_append_drop n b).symm, by rw [List.length_take]; omega⟩
        have e1 : (ofL (u ++ v)).extract 0 n = ofL u := by rw [← hu]; exact ext_take rfl
        have e2 : (ofL (u ++ v)).extract n (ofL (u ++ v)).size = ofL v := by rw [← hu]; exact ext_drop rfl
        rw [List.length_append] at hm hb hl
        have hdu : ∀ c ∈ u, isD c := fun c hc => hd c (by simp [hc])
        have hda : ∀ c ∈ a, isD c := fun c hc => hd c (by simp [hc])
        have hih := ih (a ++ u) v (by omega) (by rw [List.append_assoc]; exact hd) (by rw [List.append_assoc, List.length_append, List.length_append]; omega) (Or.inr (by
          have e : u.length + v.length - n = v.length := by omega
          rwa [e] at hm))
        have ea : dgv 0 (a ++ u) = dgv 0 a * 1000000000 + dgv 0 u := by
          rw [dgv_append, dgv_shift u (dgv 0 a)]
          by_cases h : a = []
          · rw [h]
            have : dgv 0 ([] : List UInt8) = 0 := dgv_nil 0
            rw [this, Nat.zero_mul, Nat.zero_mul]
          · rw [hu, hn h]
        rw [ea, List.append_assoc] at hih
        rw [e1, toBytes_eq, List.length_map]
        have hla := len_dgv a hda
        exact parse_l2 (ofL v) (ofL (u ++ v)) n (by rw [size_toL, toL_ofL, List.length_append]; omega) e2 (dgv 0 a) (by omega) u hdu (by omega) _ hih u [] rfl
      by_cases hm : b.length % 9 = 0
      · refine Ev.if_pos (by omega) (Ev.if_pos (by omega) (Ev.if_pos ?_ (step 9 (by decide) (by decide) (by omega) (by omega) (fun _ => rfl))))
        rw [size_toL, toL_extract, List.length_take]
        have : lim = 140737488355328 := rfl
        omega
      · refine Ev.if_neg (by omega) (Ev.if_pos (by omega) (Ev.if_pos (by omega) (Ev.if_pos ?_ (step (b.length % 9) (by omega) (by omega) (by omega) (by omega) (fun h => by
          rcases h9 with e | e
          · exact absurd e h
          · exact absurd e hm)))))
        rw [size_toL, toL_extract, List.length_take]
        have : lim = 140737488355328 := rfl
        omega
theorem parse_l0 (s : ByteArray) (w : List UInt8) (hw : toL s = w) (R : List Int × Int)
    (hend : (∀ c ∈ w, isD c) → Ev (fun k => if (s.size : Int) > 10000 then some (([] : List Int), 5) else nat_Parse.l1 k s []) R) (hbad : (¬ ∀ c ∈ w, isD c) → R = ([], 4)) : ∀ (b a : List UInt8), w = a ++ b → (∀ c ∈ a, isD c) →
    Ev (fun k => nat_Parse.l0 k s s a.length) R := by
  intro b
  induction b with
  | nil =>
    intro a hr ha
    rw [List.append_nil] at hr
    subst hr
    refine Ev.succ ?_
    simp only [nat_Parse.l0]
    exact Ev.if_neg (by rw [size_toL, hw]; omega) (hend ha)
  | cons c b ih =>
    intro a hr ha
    have hp : a.length < s.size := by rw [size_toL, hw, hr, List.length_append, List.length_cons]; omega
    have hat := at_byte (hw.trans hr) hp
    refine Ev.succ ?_
    simp only [nat_Parse.l0]
    refine Ev.if_pos hp ?_
    by_cases hc : isD c
    · have hde := decode_ascii s a.length hp (by rw [hat]; unfold isD at hc; omega)
      rw [hat] at hde
      rw [hde]
      have hih := ih (a ++ [c]) (by rw [hr]; simp) (fun x hx => by
        rcases List.mem_append.1 hx with h | h
        · exact ha x h
        · rw [List.mem_singleton.1 h]; exact hc)
      rw [List.length_append, List.length_singleton] at hih
      unfold isD at hc
      exact Ev.if_neg (by show ¬ ((c.toNat : Int) < 48); omega) (Ev.if_neg (by show ¬ ((c.toNat : Int) > 57); omega) hih)
    · have hR := hbad fun h => hc (h c (by rw [hr]; simp))
      rw [hR]
      by_cases h128 : c.toNat < 128
      · have hde := decode_ascii s a.length hp (by rw [hat]; exact h128)
        rw [hat] at hde
        rw [hde]
        unfold isD at hc
        by_cases h48 : c.toNat < 48
        · exact Ev.if_pos (by show (c.toNat : Int) < 48; omega) (Ev.now _)
        · exact Ev.if_neg (by show ¬ ((c.toNat : Int) < 48); omega) (Ev.if_pos (by show (c.toNat : Int) > 57; omega) (Ev.now _))
      · have hde := decode_high s a.length hp (by rw [hat]; omega)
        exact Ev.if_neg (by omega) (Ev.if_pos (by omega) (Ev.now _))
theorem nparse_ev (s : ByteArray) : Ev (fun k => nat_Parse.f k s) (pR (toL s)) := by
  unfold nat_Parse.f
  by_cases h0 : s = ByteArray.empty
  · have e : pR (toL s) = ([], 4) := by rw [h0]; rfl
    rw [e]
    exact Ev.if_pos h0 (Ev.now _)
  · have hne : toL s ≠ [] := fun e => h0 (toL_inj e)
    refine Ev.if_neg h0 (parse_l0 s (toL s) rfl _ (fun hd => ?_) (fun hb => ?_) (toL s) [] rfl (fun c hc => by cases hc))
    · by_cases hl : (toL s).length > 10000
      · have e : pE (toL s) = 5 := by unfold pE; rw [if_neg hne, if_pos hd, if_pos hl]
        have e2 : pR (toL s) = ([], 5) := by unfold pR; rw [e]; rfl
        rw [e2]
        exact Ev.if_pos (by rw [size_toL]; omega) (Ev.now _)
      · have e : pE (toL s) = 0 := pE_zero.2 ⟨hne, hd, by omega⟩
        have e2 : pR (toL s) = (lm (dgv 0 (toL s)), 0) := by unfold pR; rw [if_pos e]
        rw [e2]
        have h1 := parse_l1 (toL s).length [] (toL s) (Nat.le_refl _) hd (by rw [List.nil_append]; omega) (Or.inl rfl)
        have e3 : lm (dgv 0 []) = [] := by rw [dgv_nil]; exact lm_zero
        rw [e3] at h1
        exact Ev.if_neg (by rw [size_toL]; omega) h1
    · have e : pE (toL s) = 4 := by unfold pE; rw [if_neg hne, if_neg hb]
      unfold pR
      rw [e]
      rfl
end Go.DI.Th
namespace Go.DI.Th
open Go Go.RowKit Go.DI

def cutL (x : UInt8) : List UInt8 → Option (List UInt8 × List UInt8)
  | [] => none
  | c :: w => if c = x then some ([], w) else (cutL x w).map fun p => (c :: p.1, p.2)
theorem cutL_some {x : UInt8} : ∀ {w a b : List UInt8}, cutL x w = some (a, b) → w = a ++ x :: b ∧ x ∉ a
  | [], a, b, h => by cases h
  | c :: w, a, b, h => by
    rw [cutL] at h
    by_cases hc : c = x
    · rw [if_pos hc] at h
      cases h
      rw [hc]
      exact ⟨rfl, List.not_mem_nil⟩
    · rw [if_neg hc] at h
      cases hw : cutL x w with
      | none => rw [hw] at h; cases h
      | some p =>
        rw [hw] at h
        cases h
        obtain ⟨h1, h2⟩ := cutL_some (a := p.1) (b := p.2) hw
        refine ⟨by rw [List.cons_append, ← h1], fun hm => ?_⟩
        rcases List.mem_cons.1 hm with e | hm
        · exact hc e.symm
        · exact h2 hm
theorem cutL_none {x : UInt8} : ∀ {w : List UInt8}, cutL x w = none → x ∉ w
  | [], _ => List.not_mem_nil
  | c :: w, h => by
    rw [cutL] at h
    by_cases hc : c = x
    · rw [if_pos hc] at h; cases h
    · rw [if_neg hc] at h
      cases hw : cutL x w with
      | some p => rw [hw] at h; cases h
      | none =>
        intro hm
        rcases List.mem_cons.1 hm with e | hm
        · exact hc e.symm
        · exact cutL_none hw hm
theorem cutL_of {x : UInt8} : ∀ {a b : List UInt8}, x ∉ a → cutL x (a ++ x :: b) = some (a, b)
  | [], b, _ => by rw [List.nil_append, cutL, if_pos rfl]
  | c :: a, b, h => by
    rw [List.cons_append, cutL, if_neg (fun e => h (by rw [e]; exact List.mem_cons_self)), cutL_of (fun hm => h (List.mem_cons_of_mem _ hm))]
    rfl
theorem cutL_not {x : UInt8} : ∀ {w : List UInt8}, x ∉ w → cutL x w = none
  | [], _ => rfl
  | c :: w, h => by
    rw [cutL, if_neg (fun e => h (by rw [e]; exact List.mem_cons_self)), cutL_not (fun hm => h (List.mem_cons_of_mem _ hm))]
    rfl
theorem get_bang {s : ByteArray} {i : Nat} (h : i < s.size) : s[i]! = s[i]'h := getElem!_pos s i h
theorem fIdx_at {s : ByteArray} {a b : List UInt8} {x : UInt8} (h : toL s = a ++ x :: b) (hn : x ∉ a) : fIdx s x = (a.length : Int) := by
  have hsz : s.size = a.length + (b.length + 1) := by rw [size_toL, h, List.length_append, List.length_cons]
  unfold fIdx
  have hf : (List.range s.size).find? (fun i => s[i]! == x) = some a.length := by
    rw [List.find?_range_eq_some]
    refine ⟨?_, by simp; omega, fun j hj => ?_⟩
    · rw [get_bang (by omega), at_byte h (by omega)]
      simp
    · have hjs : j < s.size := by omega
      rw [get_bang hjs]
      have e : s[j]'hjs = (toL s)[j]'(by rw [← size_toL]; exact hjs) := rfl
      have e2 : s[j]'hjs ∈ a := by
        rw [e]
        have : ∀ (l : List UInt8) (hl : j < l.length), l = a ++ x :: b → l[j]'hl ∈ a := by
          intro l hl e
          subst e
          rw [List.getElem_append_left hj]
          exact List.getElem_mem hj
        exact this _ _ h
      simp only [Bool.not_eq_true', beq_eq_false_iff_ne, ne_eq]
      intro e3
      exact hn (e3 ▸ e2)
  rw [hf]
theorem fIdx_none {s : ByteArray} {x : UInt8} (hn : x ∉ toL s) : fIdx s x = -1 := by
  unfold fIdx
  have hf : (List.range s.size).find? (fun i => s[i]! == x) = none := by
    rw [List.find?_eq_none]
    intro j hj
    have hjs : j < s.size := List.mem_range.1 hj
    rw [get_bang hjs]
    have e : s[j]'hjs = (toL s)[j]'(by rw [← size_toL]; exact hjs) := rfl
    simp only [beq_iff_eq]
    intro e2
    apply hn
    rw [← e2, e]
    exact List.getElem_mem _
  rw [hf]
def cutR (s : ByteArray) (x : UInt8) : ByteArray × ByteArray × Bool := match cutL x (toL s) with
  | some (a, b) => (ofL a, ofL b, true)
  | none => (s, ByteArray.empty, false)
theorem cut_ev (s : ByteArray) (hs : s.size ≤ 1125899906842624) (x : UInt8) (sep : ByteArray) (hsep : sep = ⟨#[x]⟩) : Ev (fun k => strings_Cut.f k s sep) (cutR s x) := by
  subst hsep
  have hsz : (⟨#[x]⟩ : ByteArray).size = 1 := rfl
  have hbt : bt (⟨#[x]⟩ : ByteArray) 0 = (x.toNat : Int) := bt_at (b := ⟨#[x]⟩) (p := []) (c := x) (r := []) rfl
  have hix : Ev (fun k => stringslite_Index.f k s ⟨#[x]⟩) (fIdx s x) := by
    unfold stringslite_Index.f
    rw [hsz, hbt]
    refine Ev.if_neg (by decide) ?_
    by_cases he : (⟨#[x]⟩ : ByteArray) = s
    · refine Ev.if_pos he ((Ev.now _).of_eq ?_)
      have : toL s = [] ++ x :: [] := by rw [← he]; rfl
      rw [fIdx_at this List.not_mem_nil]
      rfl
    · refine Ev.if_neg he (Ev.if_pos (by decide) (Ev.if_pos (by decide) ((Ev.now _).of_eq ?_)))
      congr 1
      rw [Int.toNat_natCast]
      exact UInt8.ofNat_toNat
  have hc : Ev (fun k => stringslite_Cut.f k s ⟨#[x]⟩) (cutR s x) := by
    unfold stringslite_Cut.f
    rw [hsz]
    refine Ev.bind hix ?_
    unfold cutR
    cases hx : cutL x (toL s) with
    | none =>
      rw [fIdx_none (cutL_none hx)]
      exact Ev.if_neg (by decide) (Ev.now _)
    | some p =>
      obtain ⟨a, b⟩ := p
      obtain ⟨h1, h2⟩ := cutL_some hx
      have hsize : s.size = a.length + (b.length + 1) := by rw [size_toL, h1, List.length_append, List.length_cons]
      rw [fIdx_at h1 h2]
      have ew : wrap64 ((a.length : Int) + ((1 : Nat) : Int)) = ((a.length + 1 : Nat) : Int) := by rw [wrap_id (by omega) (by omega)]; omega
      have e2 : s.extract (a.length + 1) s.size = ofL b := by
        have h3 : toL s = (a ++ [x]) ++ b := by rw [h1]; simp
        have := ext_drop h3
        rwa [List.length_append, List.length_singleton] at this
      rw [ew, Int.toNat_natCast, Int.toNat_natCast, ext_take h1, e2]
      exact Ev.if_pos (nn0 _) (Ev.if_pos (by omega) (Ev.if_pos (nn0 _) (Ev.if_pos (by omega) (Ev.now _))))
  unfold strings_Cut.f
  exact Ev.bind hc (Ev.now _)
def isPre (x : UInt8) : List UInt8 → Bool
  | [] => false
  | c :: _ => c == x
theorem prefix_ev (s : ByteArray) (x : UInt8) : strings_HasPrefix.f s ⟨#[x]⟩ = some (isPre x (toL s)) := by
  unfold strings_HasPrefix.f stringslite_HasPrefix.f
  have hsz : (⟨#[x]⟩ : ByteArray).size = 1 := rfl
  rw [hsz]
  cases hw : toL s with
  | nil =>
    have h0 : s.size = 0 := by rw [size_toL, hw]; rfl
    rw [if_neg (by omega)]
    rfl
  | cons c t =>
    have h1 : s.size = t.length + 1 := by rw [size_toL, hw]; rfl
    rw [if_pos (by omega), if_pos (by decide)]
    have e1 : s.extract 0 1 = ofL [c] := ext_take (a := [c]) (b := t) hw
    simp only [Option.bind_some, Int.toNat_natCast]
    rw [e1, Option.some.injEq]
    show ((ofL [c]).toList == (⟨#[x]⟩ : ByteArray).toList) = (c == x)
    by_cases h : c = x
    · subst h
      have e : (ofL [c]) = (⟨#[c]⟩ : ByteArray) := rfl
      rw [@str_t ⟨[], 0, 0⟩ _ _ e]
      simp
    · have e : ¬ (ofL [c]) = (⟨#[x]⟩ : ByteArray) := fun e => h (by
        have := congrArg toL e
        have e2 : ([c] : List UInt8) = [x] := this
        exact (List.cons.inj e2).1)
      rw [@str_f ⟨[], 0, 0⟩ _ _ e]
      symm
      simpa using h
theorem ten_l0 (n : Nat) (hn : n ≤ 20000) : ∀ d i : Nat, i + d = n → Ev (fun k => ratio_ten.l0 k (lm (10 ^ i)) (n : Int) (i : Int)) (lm (10 ^ n)) := by
  intro d
  induction d with
  | zero =>
    intro i hi
    obtain rfl : i = n := by omega
    refine Ev.succ ?_
    simp only [ratio_ten.l0]
    exact Ev.if_neg (by omega) (Ev.now _)
  | succ d ih =>
    intro i hi
    have hih := ih (i + 1) (by omega)
    have hl := len_ten i
    have hm := mul_ev (lm (10 ^ i)) (lm 10) (lm_ok _).U (lm_ok _).U (by rw [lm_length, lm_length]; have := len_small (n := 10) (by decide); omega)
    rw [val_lm, val_lm, ← Nat.pow_succ] at hm
    refine Ev.succ ?_
    simp only [ratio_ten.l0, wr_succ i (show i ≤ 1125899906842624 by omega)]
    exact Ev.if_pos (by omega) (Ev.bind (ofN_ev 10 (by decide)) (Ev.bind hm hih))
theorem ten_ev (n : Nat) (hn : n ≤ 20000) : Ev (fun k => ratio_ten.f k (n : Int)) (lm (10 ^ n)) := by
  unfold ratio_ten.f
  exact Ev.bind (ofN_ev 1 (by decide)) (ten_l0 n hn n 0 (by omega))
def plE (w : List UInt8) : Int := match cutL 47 w with
  | some (a, b) => if pE a ≠ 0 then pE a else if pE b ≠ 0 then pE b else if dgv 0 b = 0 then 2 else 0
  | none => match cutL 46 w with
    | some (a, b) => if pE a ≠ 0 then pE a else pE b
    | none => pE w
def plV (w : List UInt8) : Rat := match cutL 47 w with
  | some (a, b) => mkRat (dgv 0 a : Int) (dgv 0 b)
  | none => match cutL 46 w with
    | some (a, b) => mkRat ((dgv 0 a * 10 ^ b.length + dgv 0 b : Nat) : Int) (10 ^ b.length)
    | none => ((dgv 0 w : Int) : Rat)
def rR (e : Int) (x : Rat) : Bool × List Int × List Int × Int := if e = 0 then ((cn x).1, (cn x).2.1, (cn x).2.2, 0) else (false, [], [], e)
theorem form_nat (n q : Nat) (hq : q ≠ 0) (h1 : len n ≤ 549755813888) (h2 : len q ≤ 549755813888) : Ev (fun k => ratio_form.f k false (lm n) (lm q)) (cn (mkRat (n : Int) q)) := by
  have := form_cn (n : Int) q hq (by rw [Int.natAbs_natCast]; exact h1) h2
  rwa [Int.natAbs_natCast, decide_eq_false (show ¬ ((n : Int) < 0) by omega)] at this
theorem pE_len {w : List UInt8} (h : pE w = 0) : len (dgv 0 w) ≤ 10001 := by
  obtain ⟨_, h2, h3⟩ := pE_zero.1 h
  have := len_dgv w h2
  omega
theorem plain_ev (s : ByteArray) (hs : s.size ≤ 1125899906842624) : Ev (fun k => ratio_plain.f k s) (rR (plE (toL s)) (plV (toL s))) := by
  unfold ratio_plain.f
  refine Ev.bind (cut_ev s hs 47 _ rfl) ?_
  unfold cutR plE plV
  cases h1 : cutL 47 (toL s) with
  | some p =>
    obtain ⟨a, b⟩ := p
    dsimp only
    refine Ev.if_pos rfl ?_
    have pa := nparse_ev (ofL a)
    have pb := nparse_ev (ofL b)
    rw [toL_ofL] at pa pb
    unfold pR at pa pb
    by_cases ha : pE a = 0
    · rw [if_pos ha] at pa
      rw [if_neg (fun h => h ha)]
      refine Ev.bind pa (Ev.if_neg (fun h => h rfl) ?_)
      by_cases hb : pE b = 0
      · rw [if_pos hb] at pb
        rw [if_neg (fun h => h hb)]
        refine Ev.bind pb (Ev.if_neg (fun h => h rfl) ?_)
        by_cases h0 : dgv 0 b = 0
        · rw [if_pos h0]
          exact Ev.if_pos (by show ((lm (dgv 0 b)).length : Int) = 0; rw [h0, lm_zero]; rfl) (Ev.now _)
        · rw [if_neg h0]
          have hp := len_eq_zero (n := dgv 0 b)
          have la := pE_len ha
          have lb := pE_len hb
          refine Ev.if_neg (by show ¬ ((lm (dgv 0 b)).length : Int) = 0; rw [lm_length]; omega) ?_
          exact Ev.bind (form_nat (dgv 0 a) (dgv 0 b) h0 (by omega) (by omega)) (Ev.now _)
      · rw [if_neg hb] at pb
        rw [if_pos hb]
        unfold rR
        rw [if_neg hb]
        exact Ev.bind pb (Ev.if_pos hb (Ev.now _))
    · rw [if_neg ha] at pa
      rw [if_pos ha]
      unfold rR
      rw [if_neg ha]
      exact Ev.bind pa (Ev.if_pos ha (Ev.now _))
  | none =>
    dsimp only
    refine Ev.if_neg (by decide) (Ev.bind (cut_ev s hs 46 _ rfl) ?_)
    unfold cutR
    cases h2 : cutL 46 (toL s) with
    | some p =>
      obtain ⟨a, b⟩ := p
      dsimp only
      refine Ev.if_pos rfl ?_
      have pa := nparse_ev (ofL a)
      have pb := nparse_ev (ofL b)
      rw [toL_ofL] at pa pb
      unfold pR at pa pb
      by_cases ha : pE a = 0
      · rw [if_pos ha] at pa
        rw [if_neg (fun h => h ha)]
        refine Ev.bind pa (Ev.if_neg (fun h => h rfl) ?_)
        by_cases hb : pE b = 0
        · rw [if_pos hb] at pb
          refine Ev.bind pb (Ev.if_neg (fun h => h rfl) ?_)
          have hbl := (pE_zero.1 hb).2.2
          have la := pE_len ha
          have lb := pE_len hb
          have lt := len_ten b.length
          have hsz : (ofL b).size = b.length := by rw [size_toL]; rfl
          rw [hsz]
          have hm := mul_ev (lm (dgv 0 a)) (lm (10 ^ b.length)) (lm_ok _).U (lm_ok _).U (by rw [lm_length, lm_length]; omega)
          rw [val_lm, val_lm] at hm
          have lm1 := len_mul (dgv 0 a) (10 ^ b.length)
          have hadd := nadd_ev (lm (dgv 0 a * 10 ^ b.length)) (lm (dgv 0 b)) (lm_ok _).U (lm_ok _).U (by rw [lm_length]; omega) (by rw [lm_length]; omega)
          rw [val_lm, val_lm] at hadd
          have la2 := len_add (dgv 0 a * 10 ^ b.length) (dgv 0 b)
          rw [hb]
          have hf := form_nat (dgv 0 a * 10 ^ b.length + dgv 0 b) (10 ^ b.length) (Nat.pos_iff_ne_zero.1 (Nat.pow_pos (by decide))) (by omega) (by omega)
          exact Ev.bind (ten_ev b.length (by omega)) (Ev.bind hm (Ev.bind hadd (Ev.bind hf (Ev.now _))))
        · rw [if_neg hb] at pb
          unfold rR
          rw [if_neg hb]
          exact Ev.bind pb (Ev.if_pos hb (Ev.now _))
      · rw [if_neg ha] at pa
        rw [if_pos ha]
        unfold rR
        rw [if_neg ha]
        exact Ev.bind pa (Ev.if_pos ha (Ev.now _))
    | none =>
      dsimp only
      refine Ev.if_neg (by decide) ?_
      have pa := nparse_ev s
      unfold pR at pa
      unfold rR
      by_cases ha : pE (toL s) = 0
      · rw [if_pos ha] at pa
        rw [if_pos ha]
        have la := pE_len ha
        have hf := form_nat (dgv 0 (toL s)) 1 (by decide) (by omega) (by rw [len_one]; decide)
        have e : mkRat (dgv 0 (toL s) : Int) 1 = ((dgv 0 (toL s) : Int) : Rat) := Rat.mkRat_self ((dgv 0 (toL s) : Int) : Rat)
        rw [e] at hf
        exact Ev.bind pa (Ev.if_neg (fun h => h rfl) (Ev.bind (ofN_ev 1 (by decide)) (Ev.bind hf (Ev.now _))))
      · rw [if_neg ha] at pa
        rw [if_neg ha]
        exact Ev.bind pa (Ev.if_pos ha (Ev.now _))
end Go.DI.Th
