/- What the told functions answer, part 2. No condition. -/
import Derived.Test.YtopjcdonffcnhaaDoorTh1
set_option linter.all false
namespace Go.DI.Th
open Go Go.RowKit Go.DI

/-! ### words -/
def toL (b : ByteArray) : List UInt8 := b.data.toList
theorem toL_append (a b : ByteArray) : toL (a ++ b) = toL a ++ toL b := by unfold toL; simp
theorem toL_inj {a b : ByteArray} (h : toL a = toL b) : a = b := by
  unfold toL at h
  have := Array.toList_inj.1 h
  cases a; cases b
  simpa using this
theorem span_inj {α : Type} (P : α → Prop) : ∀ (a b : List α) (x y : α) (r s : List α), (∀ c ∈ a, P c) → (∀ c ∈ b, P c) → ¬ P x → ¬ P y → a ++ x :: r = b ++ y :: s → a = b ∧ x = y ∧ r = s
  | [], [], x, y, r, s, _, _, _, _, h => by simpa using h
  | [], c :: b, x, y, r, s, _, hb, hx, _, h => by
    injection h with h1 h2
    exact absurd (h1 ▸ hb c List.mem_cons_self) hx
  | c :: a, [], x, y, r, s, ha, _, _, hy, h => by
    injection h with h1 h2
    exact absurd (h1 ▸ ha c List.mem_cons_self) hy
  | c :: a, d :: b, x, y, r, s, ha, hb, hx, hy, h => by
    injection h with h1 h2
    have := span_inj P a b x y r s (fun e he => ha e (List.mem_cons_of_mem _ he)) (fun e he => hb e (List.mem_cons_of_mem _ he)) hx hy h2
    exact ⟨by rw [h1, this.1], this.2⟩
def Dig (c : UInt8) : Prop := 48 ≤ c.toNat ∧ c.toNat ≤ 57
def Wd (c : UInt8) : Prop := c ≠ 32 ∧ c ≠ 10
theorem Dig.wd {c : UInt8} (h : Dig c) : Wd c := ⟨fun e => by subst e; exact absurd h.1 (by decide), fun e => by subst e; exact absurd h.1 (by decide)⟩
theorem Dig.n47 {c : UInt8} (h : Dig c) : c ≠ 47 := fun e => by subst e; exact absurd h.1 (by decide)
theorem Dig.n45 {c : UInt8} (h : Dig c) : c ≠ 45 := fun e => by subst e; exact absurd h.1 (by decide)
theorem toL_ofBytes (l : List Int) : toL (ofBytes l) = l.map fun n => UInt8.ofNat n.toNat := by unfold toL ofBytes; rfl
theorem prN_dig (n : Nat) : ∀ c ∈ toL (prN n), Dig c := by
  intro c hc
  unfold prN at hc
  rw [toL_ofBytes, List.mem_map] at hc
  obtain ⟨x, hx, e⟩ := hc
  have := dec_byte n x hx
  subst e
  unfold Dig
  rw [UInt8.toNat_ofNat', Nat.mod_eq_of_lt (by omega)]
  omega
def vb (l : List UInt8) : Nat := l.foldl (fun a c => 10 * a + (c.toNat - 48)) 0
theorem vb_prN (n : Nat) : vb (toL (prN n)) = n := by
  unfold prN
  rw [toL_ofBytes]
  induction n using Nat.strongRecOn with
  | ind n ih =>
    by_cases h : n < 10
    · rw [dec_small h]
      show 10 * 0 + ((UInt8.ofNat (48 + (n : Int)).toNat).toNat - 48) = n
      rw [UInt8.toNat_ofNat', Nat.mod_eq_of_lt (by omega)]
      omega
    · rw [dec_big h, List.map_append]
      unfold vb at ih ⊢
      rw [List.foldl_append, ih (n / 10) (by omega)]
      show 10 * (n / 10) + ((UInt8.ofNat (48 + ((n % 10 : Nat) : Int)).toNat).toNat - 48) = n
      have hm : n % 10 < 10 := Nat.mod_lt _ (by decide)
      have hd := Nat.div_add_mod n 10
      generalize n % 10 = m at hm hd ⊢
      rw [UInt8.toNat_ofNat', Nat.mod_eq_of_lt (by omega)]
      omega
theorem prN_inj {n m : Nat} (h : prN n = prN m) : n = m := by rw [← vb_prN n, h, vb_prN]
theorem toL_minus : toL minus = [45] := rfl
theorem toL_slash : toL slash = [47] := rfl
theorem prN_ne (n : Nat) : toL (prN n) ≠ [] := by
  unfold prN
  rw [toL_ofBytes]
  by_cases h : n < 10
  · rw [dec_small h]; simp
  · rw [dec_big h]; simp
theorem prW_chars (z : Int) : ∀ c ∈ toL (prW z), Dig c ∨ c = 45 := by
  intro c hc
  unfold prW at hc
  split at hc
  · rw [toL_append, toL_minus] at hc
    rcases List.mem_append.1 hc with h | h
    · right; simpa using h
    · left; exact prN_dig _ c h
  · left; exact prN_dig _ c hc
theorem prW_inj {z w : Int} (h : prW z = prW w) : z = w := by
  have key : ∀ n m : Nat, ¬ (minus ++ prN n = prN m) := fun n m e => by
    have e2 := congrArg toL e
    rw [toL_append, toL_minus] at e2
    have := prN_dig m 45 (by rw [← e2]; simp)
    exact absurd rfl this.n45
  unfold prW at h
  split at h <;> split at h
  · have h2 := congrArg toL h
    rw [toL_append, toL_append] at h2
    have := prN_inj (toL_inj (List.append_cancel_left h2))
    omega
  · exact absurd h (key _ _)
  · exact absurd h.symm (key _ _)
  · have := prN_inj h
    omega
theorem prW_n47 (z : Int) : ∀ c ∈ toL (prW z), c ≠ 47 := by
  intro c hc
  rcases prW_chars z c hc with h | h
  · exact h.n47
  · rw [h]; decide
theorem prW_wd (z : Int) : ∀ c ∈ toL (prW z), Wd c := by
  intro c hc
  rcases prW_chars z c hc with h | h
  · exact h.wd
  · rw [h]; exact ⟨by decide, by decide⟩
theorem prQ_wd (z : Int) (q : Nat) : ∀ c ∈ toL (prQ z q), Wd c := by
  intro c hc
  unfold prQ at hc
  split at hc
  · exact prW_wd z c hc
  · rw [toL_append, toL_append, toL_slash] at hc
    rcases List.mem_append.1 hc with h | h
    · rcases List.mem_append.1 h with h | h
      · exact prW_wd z c h
      · have : c = 47 := by simpa using h
        rw [this]; exact ⟨by decide, by decide⟩
    · exact (prN_dig q c h).wd
theorem prQ_inj {z w : Int} {q p : Nat} (h : prQ z q = prQ w p) : z = w ∧ q = p := by
  have key : ∀ (z w : Int) (p : Nat), ¬ (prW z = prW w ++ slash ++ prN p) := fun z w p e => by
    have e2 := congrArg toL e
    rw [toL_append, toL_append, toL_slash] at e2
    exact absurd rfl (prW_n47 z 47 (by rw [e2]; simp))
  unfold prQ at h
  split at h <;> split at h
  · rename_i h1 h2
    exact ⟨prW_inj h, by rw [h1, h2]⟩
  · exact absurd h (key _ _ _)
  · exact absurd h.symm (key _ _ _)
  · have h2 := congrArg toL h
    rw [toL_append, toL_append, toL_append, toL_append, toL_slash, List.append_assoc, List.append_assoc] at h2
    have h3 := span_inj (fun c => c ≠ 47) _ _ _ _ _ _ (prW_n47 z) (prW_n47 w) (by simp) (by simp) h2
    exact ⟨prW_inj (toL_inj h3.1), prN_inj (toL_inj h3.2.2)⟩
/-! ### fractions in their form -/
theorem wv_rl (z : Int) (q : Nat) : wv (rl z q).1 (rl z q).2.1 = rnum z q := by
  unfold rl wv rnum
  simp only [val_lm, decide_eq_true_eq]
theorem prT_eq (r : Rt) : prT r = prQ (rnum (num r.1 r.2.1 r.2.2) (den r.2.2)) (rden (num r.1 r.2.1 r.2.2) (den r.2.2)) := by
  unfold prT prR
  rw [wv_rl]
  rfl
theorem frac_nat (a q b p : Nat) (hq : q ≠ 0) (hp : p ≠ 0) : (a / Nat.gcd a q = b / Nat.gcd b p ∧ q / Nat.gcd a q = p / Nat.gcd b p) ↔ a * p = b * q := by
  have hg := gcd_pos_right a q hq
  have hh := gcd_pos_right b p hp
  have c1 := Nat.coprime_div_gcd_div_gcd hg
  have c2 := Nat.coprime_div_gcd_div_gcd hh
  have e1 := Nat.div_mul_cancel (Nat.gcd_dvd_left a q)
  have e2 := Nat.div_mul_cancel (Nat.gcd_dvd_right a q)
  have e3 := Nat.div_mul_cancel (Nat.gcd_dvd_left b p)
  have e4 := Nat.div_mul_cancel (Nat.gcd_dvd_right b p)
  generalize Nat.gcd a q = g at *
  generalize Nat.gcd b p = h at *
  generalize a / g = a' at *
  generalize q / g = q' at *
  generalize b / h = b' at *
  generalize p / h = p' at *
  have ht : a * p = b * q ↔ a' * p' = b' * q' := by
    rw [← e1, ← e2, ← e3, ← e4]
    have x1 : a' * g * (p' * h) = (g * h) * (a' * p') := by grind
    have x2 : b' * h * (q' * g) = (g * h) * (b' * q') := by grind
    rw [x1, x2]
    exact ⟨fun e => Nat.eq_of_mul_eq_mul_left (Nat.mul_pos hg hh) e, fun e => by rw [e]⟩
  rw [ht]
  constructor
  · intro ⟨h1, h2⟩
    rw [h1, h2]
  · intro e
    have d1 : q' ∣ p' := c1.symm.dvd_of_dvd_mul_left (by rw [e]; exact Nat.dvd_mul_left _ _)
    have d2 : p' ∣ q' := c2.symm.dvd_of_dvd_mul_left (by rw [← e]; exact Nat.dvd_mul_left _ _)
    have hqp := Nat.dvd_antisymm d1 d2
    have hq0 : 0 < q' := by
      rcases Nat.eq_zero_or_pos q' with h0 | h0
      · rw [h0, Nat.zero_mul] at e2; omega
      · exact h0
    rw [← hqp] at e
    exact ⟨Nat.eq_of_mul_eq_mul_right hq0 e, hqp⟩
theorem mul_neg_pos (z : Int) (p : Nat) (hp : p ≠ 0) : z * p < 0 ↔ z < 0 := by
  constructor
  · intro h
    rcases Int.lt_or_le z 0 with h0 | h0
    · exact h0
    · have := Int.mul_nonneg h0 (Int.natCast_nonneg p)
      omega
  · intro h
    exact Int.mul_neg_of_neg_of_pos h (by omega)
theorem frac_int (z w : Int) (q p : Nat) (hq : q ≠ 0) (hp : p ≠ 0) : (rnum z q = rnum w p ∧ rden z q = rden w p) ↔ z * p = w * q := by
  have hn := frac_nat z.natAbs q w.natAbs p hq hp
  have s1 := rnum_neg z q hq
  have s2 := rnum_neg w p hp
  have a1 := rnum_abs z q
  have a2 := rnum_abs w p
  have hz : z * p = w * q ↔ (z < 0 ↔ w < 0) ∧ z.natAbs * p = w.natAbs * q := by
    have m1 : (z * p).natAbs = z.natAbs * p := by rw [Int.natAbs_mul, Int.natAbs_natCast]
    have m2 : (w * q).natAbs = w.natAbs * q := by rw [Int.natAbs_mul, Int.natAbs_natCast]
    have n1 : z * p < 0 ↔ z < 0 := mul_neg_pos z p hp
    have n2 : w * q < 0 ↔ w < 0 := mul_neg_pos w q hq
    rw [← m1, ← m2, ← n1, ← n2]
    generalize z * (p : Int) = s
    generalize w * (q : Int) = t
    omega
  rw [hz, ← hn]
  unfold rden
  rw [← a1, ← a2, ← s1, ← s2]
  generalize rnum z q = s
  generalize rnum w p = t
  constructor
  · intro ⟨h1, h2⟩; subst h1; exact ⟨Iff.rfl, rfl, h2⟩
  · intro ⟨h1, h2, h3⟩; exact ⟨by omega, h3⟩
theorem prT_iff (r s : Rt) : prT r = prT s ↔ num r.1 r.2.1 r.2.2 * den s.2.2 = num s.1 s.2.1 s.2.2 * den r.2.2 := by
  rw [prT_eq, prT_eq, ← frac_int _ _ _ _ (den_pos _) (den_pos _)]
  exact ⟨prQ_inj, fun h => by rw [h.1, h.2]⟩
/-! ### texts -/
def Sep (u : List UInt8) : Prop := ∃ c t, u = c :: t ∧ ¬ Wd c
theorem sep_sp (u : List UInt8) : Sep (32 :: u) := ⟨32, u, rfl, fun h => h.1 rfl⟩
theorem sep_nl (u : List UInt8) : Sep (10 :: u) := ⟨10, u, rfl, fun h => h.2 rfl⟩
theorem tok_inj {a b : ByteArray} {u v : List UInt8} (ha : ∀ c ∈ toL a, Wd c) (hb : ∀ c ∈ toL b, Wd c) (hu : Sep u) (hv : Sep v) (h : toL a ++ u = toL b ++ v) : a = b ∧ u = v := by
  obtain ⟨c, t, rfl, hc⟩ := hu
  obtain ⟨d, s, rfl, hd⟩ := hv
  have h3 := span_inj Wd _ _ _ _ _ _ ha hb hc hd h
  exact ⟨toL_inj h3.1, by rw [h3.2.1, h3.2.2]⟩
theorem tok_sp {a b : ByteArray} {u v : List UInt8} (ha : ∀ c ∈ toL a, Wd c) (hb : ∀ c ∈ toL b, Wd c) (h : toL a ++ (toL ⟨#[32]⟩ ++ u) = toL b ++ (toL ⟨#[32]⟩ ++ v)) : a = b ∧ u = v := by
  have h1 := tok_inj ha hb (sep_sp u) (sep_sp v) h
  have h2 := h1.2
  injection h2 with _ h3
  exact ⟨h1.1, h3⟩
theorem tok_nl {a b : ByteArray} {u v : List UInt8} (ha : ∀ c ∈ toL a, Wd c) (hb : ∀ c ∈ toL b, Wd c) (h : toL a ++ (toL ⟨#[10]⟩ ++ u) = toL b ++ (toL ⟨#[10]⟩ ++ v)) : a = b ∧ u = v := by
  have h1 := tok_inj ha hb (sep_nl u) (sep_nl v) h
  have h2 := h1.2
  injection h2 with _ h3
  exact ⟨h1.1, h3⟩
theorem prN_wd (n : Nat) : ∀ c ∈ toL (prN n), Wd c := fun c hc => (prN_dig n c hc).wd
theorem prT_wd (r : Rt) : ∀ c ∈ toL (prT r), Wd c := by rw [prT_eq]; exact prQ_wd _ _
theorem rowTail_sep (l : List Rt) (u : List UInt8) : Sep (toL (rowTail l) ++ u) := by
  cases l with
  | nil => exact sep_nl u
  | cons r l =>
    unfold rowTail
    rw [toL_append]
    exact sep_sp _
theorem rowTail_inj : ∀ (l l' : List Rt) (u u' : List UInt8), toL (rowTail l) ++ u = toL (rowTail l') ++ u' → l.map prT = l'.map prT ∧ u = u'
  | [], [], u, u', h => ⟨rfl, List.append_cancel_left h⟩
  | [], r :: l, u, u', h => by
    unfold rowTail at h
    rw [toL_append] at h
    have h1 : (10 : UInt8) = 32 := by injection h
    exact absurd h1 (by decide)
  | r :: l, [], u, u', h => by
    unfold rowTail at h
    rw [toL_append] at h
    have h1 : (32 : UInt8) = 10 := by injection h
    exact absurd h1 (by decide)
  | r :: l, s :: l', u, u', h => by
    unfold rowTail at h
    rw [toL_append, toL_append, toL_append, toL_append, List.append_assoc, List.append_assoc, List.append_assoc, List.append_assoc] at h
    have h1 := List.append_cancel_left h
    have h2 := tok_inj (prT_wd r) (prT_wd s) (rowTail_sep l u) (rowTail_sep l' u') h1
    have h3 := rowTail_inj l l' u u' h2.2
    exact ⟨by rw [List.map_cons, List.map_cons, h2.1, h3.1], h3.2⟩
def viewR (t : List (List Rt)) : List (List ByteArray) := t.map fun r => r.map prT
theorem rowsT_inj : ∀ (t t' : List (List Rt)) (u u' : List UInt8), t.length = t'.length → toL (rowsT t) ++ u = toL (rowsT t') ++ u' → viewR t = viewR t' ∧ u = u'
  | [], [], u, u', _, h => ⟨rfl, List.append_cancel_left h⟩
  | [], r :: t, u, u', hl, h => by simp at hl
  | r :: t, [], u, u', hl, h => by simp at hl
  | r :: t, s :: t', u, u', hl, h => by
    unfold rowsT at h
    simp only [toL_append, List.append_assoc] at h
    have h1 := List.append_cancel_left h
    have h2 := tok_inj (prN_wd _) (prN_wd _) (rowTail_sep r _) (rowTail_sep s _) h1
    have h3 := rowTail_inj r s _ _ h2.2
    have h4 := rowsT_inj t t' u u' (by simpa using hl) h3.2
    refine ⟨?_, h4.2⟩
    show r.map prT :: viewR t = s.map prT :: viewR t'
    rw [h3.1, h4.1]
theorem rowTail_congr : ∀ (l l' : List Rt), l.map prT = l'.map prT → rowTail l = rowTail l'
  | [], [], _ => rfl
  | [], r :: l, h => by simp at h
  | r :: l, [], h => by simp at h
  | r :: l, s :: l', h => by
    rw [List.map_cons, List.map_cons] at h
    injection h with h1 h2
    unfold rowTail
    rw [h1, rowTail_congr l l' h2]
theorem rowsT_congr : ∀ (t t' : List (List Rt)), viewR t = viewR t' → rowsT t = rowsT t'
  | [], [], _ => rfl
  | [], r :: l, h => by simp [viewR] at h
  | r :: l, [], h => by simp [viewR] at h
  | r :: t, s :: t', h => by
    have h0 : r.map prT :: viewR t = s.map prT :: viewR t' := h
    injection h0 with h1 h2
    unfold rowsT
    have hl : r.length = s.length := by have := congrArg List.length h1; simpa using this
    rw [hl, rowTail_congr r s h1, rowsT_congr t t' h2]
theorem viewR_len {t t' : List (List Rt)} (h : viewR t = viewR t') : t.length = t'.length := by have := congrArg List.length h; simpa [viewR] using this
def viewE (x : En) : Int × Int × Int × List (List ByteArray) := (x.1, x.2.1, x.2.2.1, viewR x.2.2.2)
theorem viewE_iff (x y : En) : viewE x = viewE y ↔ x.1 = y.1 ∧ x.2.1 = y.2.1 ∧ x.2.2.1 = y.2.2.1 ∧ viewR x.2.2.2 = viewR y.2.2.2 := by
  unfold viewE
  simp only [Prod.mk.injEq]
theorem entT_congr (x y : En) (h : viewE x = viewE y) : entT x = entT y := by
  obtain ⟨h1, h2, h3, h4⟩ := (viewE_iff x y).1 h
  unfold entT
  rw [h1, h2, h3, rowsT_congr _ _ h4, viewR_len h4]
theorem toNat_eq {a b : Int} (ha : 0 ≤ a) (hb : 0 ≤ b) (h : a.toNat = b.toNat) : a = b := by omega
theorem entT_inj (i : Nat) (x y : En) (hx : okE i x) (hy : okE i y) (u u' : List UInt8) (h : toL (entT x) ++ u = toL (entT y) ++ u') : viewE x = viewE y ∧ u = u' := by
  obtain ⟨x1, x2, _, x4, _, x6, _⟩ := hx
  obtain ⟨y1, y2, _, y4, _, y6, _⟩ := hy
  unfold entT at h
  simp only [toL_append, List.append_assoc] at h
  have h1 := List.append_cancel_left h
  have h2 := tok_sp (prN_wd _) (prN_wd _) h1
  have h4 := tok_sp (prN_wd _) (prN_wd _) h2.2
  have h5 := h4.2
  have k2 := toNat_eq x2 y2 (prN_inj h4.1)
  rw [viewE_iff]
  have split (c : Prop) [Decidable c] (a b : ByteArray) (u : List UInt8) : toL (if c then a else b) ++ u = if c then toL a ++ u else toL b ++ u := by split <;> rfl
  rw [split, split] at h5
  by_cases hx0 : x.2.2.1 ≠ 0
  · rw [if_pos hx0] at h5
    by_cases hy0 : y.2.2.1 ≠ 0
    · rw [if_pos hy0] at h5
      simp only [toL_append, List.append_assoc] at h5
      have h6 := List.append_cancel_left h5
      have h7 := tok_nl (prN_wd _) (prN_wd _) h6
      have k3 := toNat_eq x4 y4 (prN_inj h7.1)
      have ex := List.eq_nil_of_length_eq_zero (x6 hx0)
      have ey := List.eq_nil_of_length_eq_zero (y6 hy0)
      refine ⟨⟨by rw [x1, y1], k2, k3, by rw [ex, ey]⟩, h7.2⟩
    · rw [if_neg hy0] at h5
      simp only [toL_append, List.append_assoc] at h5
      have h6 : (101 : UInt8) = 116 := by injection h5
      exact absurd h6 (by decide)
  · rw [if_neg hx0] at h5
    by_cases hy0 : y.2.2.1 ≠ 0
    · rw [if_pos hy0] at h5
      simp only [toL_append, List.append_assoc] at h5
      have h6 : (116 : UInt8) = 101 := by injection h5
      exact absurd h6 (by decide)
    · rw [if_neg hy0] at h5
      simp only [toL_append, List.append_assoc] at h5
      have h6 := List.append_cancel_left h5
      have h7 := tok_nl (prN_wd _) (prN_wd _) h6
      have h8 := rowsT_inj _ _ _ _ (prN_inj h7.1) (h7.2)
      exact ⟨⟨by rw [x1, y1], k2, by omega, h8.1⟩, h8.2⟩
theorem entsT_inj : ∀ (l l' : List En) (i : Nat), okL i l → okL i l' → l.length = l'.length → toL (entsT l) = toL (entsT l') → l.map viewE = l'.map viewE
  | [], [], _, _, _, _, _ => rfl
  | [], r :: l, _, _, _, hl, h => by simp at hl
  | r :: l, [], _, _, _, hl, h => by simp at hl
  | x :: l, y :: l', i, hx, hy, hl, h => by
    unfold entsT at h
    rw [toL_append, toL_append] at h
    have h1 := entT_inj i x y hx.1 hy.1 _ _ h
    rw [List.map_cons, List.map_cons, h1.1, entsT_inj l l' (i + 1) hx.2 hy.2 (by simpa using hl) h1.2]
theorem entsT_congr : ∀ (l l' : List En), l.map viewE = l'.map viewE → entsT l = entsT l'
  | [], [], _ => rfl
  | [], r :: l, h => by simp at h
  | r :: l, [], h => by simp at h
  | x :: l, y :: l', h => by
    rw [List.map_cons, List.map_cons] at h
    injection h with h1 h2
    unfold entsT
    rw [entT_congr x y h1, entsT_congr l l' h2]
theorem text_iff (l l' : List En) (h : okL 0 l) (h' : okL 0 l') : headT l.length ++ entsT l = headT l'.length ++ entsT l' ↔ l.map viewE = l'.map viewE := by
  constructor
  · intro e
    have e1 := congrArg toL e
    unfold headT at e1
    simp only [toL_append, List.append_assoc] at e1
    have h1 := List.append_cancel_left e1
    have h2 := tok_nl (prN_wd _) (prN_wd _) h1
    exact entsT_inj l l' 0 h h' (prN_inj h2.1) h2.2
  · intro e
    have hl : l.length = l'.length := by have := congrArg List.length e; simpa using this
    rw [hl, entsT_congr l l' e]
end Go.DI.Th
namespace Go.DI.Th
open Go Go.RowKit Go.DI

theorem toList_inj' {a b : ByteArray} (h : a.toList = b.toList) : a = b := by
  rw [ByteArray.toList_eq, ByteArray.toList_eq] at h
  exact toL_inj h
theorem dlen_num (b : Bool) (n d : List Int) : D.L (num b n d) ≤ 3 * n.length := by
  have h1 := D.len_of_len (val n)
  have h2 := val_len n
  have h3 := D.len_mono (num_abs b n d)
  unfold D.L
  omega
theorem dlen_den (d : List Int) : D.len (den d) ≤ 3 * d.length + 1 := by
  unfold den
  split
  · exact Nat.le_trans (D.len_le (k := 1) (by decide)) (by omega)
  · have h1 := D.len_of_len (val d)
    have h2 := val_len d
    omega
def numT (r : Rt) : Int := num r.1 r.2.1 r.2.2
def denT (r : Rt) : Nat := den r.2.2
theorem from_rt (r : Rt) (h : RtOk r) : Ev (fun k => dendronref03_From.f k r.1 r.2.1 r.2.2) (D.fl (numT r) (denT r)) :=
  D.ffrom_ev r.1 r.2.1 r.2.2 h.1 h.2.1 (Nat.le_trans h.2.2.1 (by decide)) (Nat.le_trans h.2.2.2 (by decide))
theorem order_rt (r s : Rt) (h : RtOk r) (h' : RtOk s) : Ev (fun k => dendronref03_Order.f k (D.fl (numT r) (denT r)).1 (D.fl (numT r) (denT r)).2.1 (D.fl (numT r) (denT r)).2.2 (D.fl (numT s) (denT s)).1 (D.fl (numT s) (denT s)).2.1 (D.fl (numT s) (denT s)).2.2) (D.cmpI (numT r * denT s) (numT s * denT r)) := by
  have a1 := dlen_num r.1 r.2.1 r.2.2
  have a2 := dlen_num s.1 s.2.1 s.2.2
  have a3 := dlen_den r.2.2
  have a4 := dlen_den s.2.2
  obtain ⟨_, _, b1, b2⟩ := h
  obtain ⟨_, _, b3, b4⟩ := h'
  exact D.forder_ev _ _ _ _ (by unfold numT denT; omega) (by unfold numT denT; omega)
theorem cmp_ne (r s : Rt) : D.cmpI (numT r * denT s) (numT s * denT r) ≠ 0 ↔ prT r ≠ prT s := by
  rw [Ne, Ne, prT_iff]
  unfold D.cmpI numT denT
  generalize num r.1 r.2.1 r.2.2 * (den s.2.2 : Int) = x
  generalize num s.1 s.2.1 s.2.2 * (den r.2.2 : Int) = y
  by_cases h1 : x < y
  · rw [if_pos h1]; exact ⟨fun _ => by omega, fun _ => by decide⟩
  · rw [if_neg h1]
    by_cases h2 : y < x
    · rw [if_pos h2]; exact ⟨fun _ => by omega, fun _ => by decide⟩
    · rw [if_neg h2]; exact ⟨fun h => absurd rfl h, fun h => absurd (by omega) h⟩
theorem same_l1_step (k : Nat) (a0 a1 a2 : Int) (ta : List (List Rt)) (row : List Rt) (tb : List (List Rt)) (c0 c1 c2 : Int) (sa : List (List Rt)) (row' : List Rt) (sb : List (List Rt)) (hsa : sa.length = ta.length)
    (r s : Rt) (a b a' b' : List Rt) (hr : row = a ++ r :: b) (hs : row' = a' ++ s :: b') (hl : a.length = a'.length) (hn : a.length ≤ 1099511627776) :
    dendronref29_Same.l1 (k + 1) (ta.length : Int) (a.length : Int) a0 a1 a2 (ta ++ row :: tb) c0 c1 c2 (sa ++ row' :: sb) = (dendronref03_From.f k r.1 r.2.1 r.2.2).bind fun v16 => ((dendronref03_From.f k s.1 s.2.1 s.2.2).bind fun v25 => ((dendronref03_Order.f k v16.1 v16.2.1 v16.2.2 v25.1 v25.2.1 v25.2.2).bind fun v26 => (if v26 ≠ 0 then (some false) else (dendronref29_Same.l1 k (ta.length : Int) ((a ++ [r]).length : Int) a0 a1 a2 (ta ++ row :: tb) c0 c1 c2 (sa ++ row' :: sb))))) := by
  have e1 := gt_at [] ta row tb
  have e2 := gt_at [] sa row' sb
  rw [hsa] at e2
  have e3 := gt_at (false, [], []) a r b
  rw [← hr] at e3
  have e4 := gt_at (false, [], []) a' s b'
  rw [← hs, ← hl] at e4
  have e5 := wr_at a r (Nat.le_trans hn (by decide))
  have l1 := lt_at ta row tb
  have l2 := lt_at sa row' sb
  rw [hsa] at l2
  have l3 := lt_at a r b
  rw [← hr] at l3
  have l4 := lt_at a' s b'
  rw [← hs, ← hl] at l4
  rw [dendronref29_Same.l1, e1, e2, e3, e4, e5, if_pos (nn0 _), if_pos l1, if_pos l3, if_pos (nn0 _)]
  congr 1
  funext v16
  rw [if_pos l2, if_pos l4]
theorem same_l1 (a0 a1 a2 : Int) (ta : List (List Rt)) (row : List Rt) (tb : List (List Rt)) (c0 c1 c2 : Int) (sa : List (List Rt)) (row' : List Rt) (sb : List (List Rt)) (hsa : sa.length = ta.length) (hta : ta.length ≤ 1099511627776)
    (hrow : row.length ≤ 1099511627776) (hv : ∀ v ∈ row, RtOk v) (hv' : ∀ v ∈ row', RtOk v) (Q : Prop) [Decidable Q]
    (hend : Ev (fun k => dendronref29_Same.l0 k ((ta ++ [row]).length : Int) a0 a1 a2 (ta ++ row :: tb) c0 c1 c2 (sa ++ row' :: sb)) (decide Q)) :
    ∀ (b a b' a' : List Rt), row = a ++ b → row' = a' ++ b' → a.length = a'.length → b.length = b'.length →
    Ev (fun k => dendronref29_Same.l1 k (ta.length : Int) (a.length : Int) a0 a1 a2 (ta ++ row :: tb) c0 c1 c2 (sa ++ row' :: sb)) (decide (b.map prT = b'.map prT ∧ Q)) := by
  intro b
  induction b with
  | nil =>
    intro a b' a' hr hs hl hbl
    have hb' := List.eq_nil_of_length_eq_zero hbl.symm
    subst hb'
    refine Ev.step (f := fun k => dendronref29_Same.l0 k ((ta ++ [row]).length : Int) a0 a1 a2 (ta ++ row :: tb) c0 c1 c2 (sa ++ row' :: sb)) (fun k => ?_) (hend.of_eq ?_)
    · have e1 := gt_at [] ta row tb
      have e3 : ¬ (a.length : Int) < (row.length : Int) := by rw [hr]; exact nlt_at a
      rw [dendronref29_Same.l1, e1, if_pos (nn0 _), if_pos (lt_at ta row tb), if_neg e3, wr_at ta row (Nat.le_trans hta (by decide))]
    · simp
  | cons r b ih =>
    intro a b' a' hr hs hl hbl
    cases b' with
    | nil => simp at hbl
    | cons s b' =>
      have hn : a.length ≤ 1099511627776 := by
        have : row.length = a.length + (b.length + 1) := by rw [hr, List.length_append, List.length_cons]
        omega
      have hrk := hv r (by rw [hr]; simp)
      have hsk := hv' s (by rw [hs]; simp)
      refine Ev.step (fun k => same_l1_step k a0 a1 a2 ta row tb c0 c1 c2 sa row' sb hsa r s a b a' b' hr hs hl hn) (Ev.bind (from_rt r hrk) (Ev.bind (from_rt s hsk) (Ev.bind (order_rt r s hrk hsk) ?_)))
      have hc := cmp_ne r s
      by_cases hp : prT r = prT s
      · refine Ev.if_neg (fun h => hc.1 h hp) ((ih (a ++ [r]) b' (a' ++ [s]) (by rw [hr]; simp) (by rw [hs]; simp) (by simp [hl]) (by simpa using hbl)).of_eq ?_)
        simp [hp]
      · refine Ev.if_pos (hc.2 hp) ((Ev.now false).of_eq ?_)
        symm
        rw [decide_eq_false_iff_not]
        intro h
        have h1 := h.1
        rw [List.map_cons, List.map_cons] at h1
        injection h1 with h2 h3
        exact hp h2
theorem same_l0 (a0 a1 a2 : Int) (t t' : List (List Rt)) (c0 c1 c2 : Int) (ht : t.length ≤ 1099511627776) (hv : ∀ r ∈ t, r.length ≤ 1000 ∧ ∀ v ∈ r, RtOk v) (hv' : ∀ r ∈ t', r.length ≤ 1000 ∧ ∀ v ∈ r, RtOk v) :
    ∀ (b a b' a' : List (List Rt)), t = a ++ b → t' = a' ++ b' → a.length = a'.length → b.length = b'.length →
    Ev (fun k => dendronref29_Same.l0 k (a.length : Int) a0 a1 a2 t c0 c1 c2 t') (decide (viewR b = viewR b')) := by
  intro b
  induction b with
  | nil =>
    intro a b' a' hr hs hl hbl
    have hb' := List.eq_nil_of_length_eq_zero hbl.symm
    subst hb'
    refine Ev.step (f := fun _ => some true) (fun k => ?_) ((Ev.now true).of_eq (by simp))
    rw [dendronref29_Same.l0, if_neg (by rw [hr]; exact nlt_at a)]
  | cons r b ih =>
    intro a b' a' hr hs hl hbl
    cases b' with
    | nil => simp at hbl
    | cons s b' =>
      have hn : a.length ≤ 1099511627776 := by
        have : t.length = a.length + (b.length + 1) := by rw [hr, List.length_append, List.length_cons]
        omega
      have hrk := hv r (by rw [hr]; simp)
      have hsk := hv' s (by rw [hs]; simp)
      have hih := ih (a ++ [r]) b' (a' ++ [s]) (by rw [hr]; simp) (by rw [hs]; simp) (by simp [hl]) (by simpa using hbl)
      subst hr
      subst hs
      have e1 := gt_at [] a r b
      have e2 := gt_at [] a' s b'
      have l2 := lt_at a' s b'
      rw [← hl] at e2 l2
      refine Ev.step (f := fun k => if (r.length : Int) ≠ (s.length : Int) then (some false) else (dendronref29_Same.l1 k (a.length : Int) 0 a0 a1 a2 (a ++ r :: b) c0 c1 c2 (a' ++ s :: b'))) (fun k => ?_) ?_
      · rw [dendronref29_Same.l0, e1, e2, if_pos (lt_at a r b), if_pos (nn0 _), if_pos l2]
      · by_cases hrs : r.length = s.length
        · refine Ev.if_neg (fun h => h (by omega)) ?_
          have h1 := same_l1 a0 a1 a2 a r b c0 c1 c2 a' s b' hl.symm hn (Nat.le_trans hrk.1 (by decide)) hrk.2 hsk.2 _ hih r [] s [] rfl rfl rfl hrs
          refine h1.of_eq ?_
          have e : viewR (r :: b) = viewR (s :: b') ↔ (r.map prT = s.map prT ∧ viewR b = viewR b') := by
            show (r.map prT :: viewR b = s.map prT :: viewR b') ↔ _
            rw [List.cons.injEq]
          exact decide_eq_decide.2 e.symm
        · refine Ev.if_pos (fun h => hrs (by omega)) ((Ev.now false).of_eq ?_)
          symm
          rw [decide_eq_false_iff_not]
          intro h
          have h0 : r.map prT :: viewR b = s.map prT :: viewR b' := h
          injection h0 with h1 h2
          have := congrArg List.length h1
          simp at this
          exact hrs this
theorem rsame_ev (x y : En) (hx : EnOk x) (hy : EnOk y) : Ev (fun k => dendronref29_Same.f k x.1 x.2.1 x.2.2.1 x.2.2.2 y.1 y.2.1 y.2.2.1 y.2.2.2) (decide (viewE x = viewE y)) := by
  unfold dendronref29_Same.f
  refine Ev.guard (fun h e => h ((viewE_iff x y).1 e).1) fun h1 => ?_
  refine Ev.guard (fun h e => h ((viewE_iff x y).1 e).2.1) fun h2 => ?_
  refine Ev.guard (fun h e => h ((viewE_iff x y).1 e).2.2.1) fun h3 => ?_
  refine Ev.guard (fun h e => h (by rw [viewR_len ((viewE_iff x y).1 e).2.2.2])) fun h4 => ?_
  have h := same_l0 x.1 x.2.1 x.2.2.1 x.2.2.2 y.2.2.2 y.1 y.2.1 y.2.2.1 hx.1 hx.2 hy.2 x.2.2.2 [] y.2.2.2 [] rfl rfl rfl (by omega)
  refine h.of_eq ?_
  rw [decide_eq_decide, viewE_iff]
  exact ⟨fun h => ⟨by omega, by omega, by omega, h⟩, fun h => h.2.2.2⟩
theorem all_l0 (xs ys : List En) (hn : xs.length ≤ 16384) (hx : ∀ x ∈ xs, EnOk x) (hy : ∀ x ∈ ys, EnOk x) : ∀ (b a b' a' : List En), xs = a ++ b → ys = a' ++ b' → a.length = a'.length → b.length = b'.length →
    Ev (fun k => dendronref29_All.l0 k xs ys (a.length : Int)) (decide (b.map viewE = b'.map viewE)) := by
  intro b
  induction b with
  | nil =>
    intro a b' a' hr hs hl hbl
    have hb' := List.eq_nil_of_length_eq_zero hbl.symm
    subst hb'
    refine Ev.step (f := fun _ => some true) (fun k => ?_) ((Ev.now true).of_eq (by simp))
    rw [dendronref29_All.l0, if_neg (by rw [hr]; exact nlt_at a)]
  | cons x b ih =>
    intro a b' a' hr hs hl hbl
    cases b' with
    | nil => simp at hbl
    | cons y b' =>
      have hna : a.length ≤ 16384 := by
        have : xs.length = a.length + (b.length + 1) := by rw [hr, List.length_append, List.length_cons]
        omega
      have hxk := hx x (by rw [hr]; simp)
      have hyk := hy y (by rw [hs]; simp)
      have hih := ih (a ++ [x]) b' (a' ++ [y]) (by rw [hr]; simp) (by rw [hs]; simp) (by simp [hl]) (by simpa using hbl)
      subst hr
      subst hs
      have e1 := gt_at ((0, 0, 0, []) : En) a x b
      have e2 := gt_at ((0, 0, 0, []) : En) a' y b'
      have l2 := lt_at a' y b'
      rw [← hl] at e2 l2
      refine Ev.step (f := fun k => (dendronref29_Same.f k x.1 x.2.1 x.2.2.1 x.2.2.2 y.1 y.2.1 y.2.2.1 y.2.2.2).bind fun v12 => (if v12 = true then (dendronref29_All.l0 k (a ++ x :: b) (a' ++ y :: b') ((a ++ [x]).length : Int)) else (some false))) (fun k => ?_) (Ev.bind (rsame_ev x y hxk hyk) ?_)
      · rw [dendronref29_All.l0, e1, e2, if_pos (lt_at a x b), if_pos (nn0 _), if_pos l2, wr_at a x (Nat.le_trans hna (by decide))]
      · by_cases hv : viewE x = viewE y
        · refine Ev.if_pos (decide_eq_true hv) (hih.of_eq ?_)
          rw [decide_eq_decide, List.map_cons, List.map_cons, List.cons.injEq]
          exact ⟨fun h => ⟨hv, h⟩, fun h => h.2⟩
        · refine Ev.if_neg (by simp [hv]) ((Ev.now false).of_eq ?_)
          symm
          rw [decide_eq_false_iff_not, List.map_cons, List.map_cons, List.cons.injEq]
          exact fun h => hv h.1
theorem all_ev (xs ys : List En) (hn : xs.length ≤ 16384) (hx : ∀ x ∈ xs, EnOk x) (hy : ∀ x ∈ ys, EnOk x) : Ev (fun k => dendronref29_All.f k xs ys) (decide (xs.map viewE = ys.map viewE)) := by
  unfold dendronref29_All.f
  refine Ev.guard (fun h e => h (by have := congrArg List.length e; simp at this; omega)) fun h1 => ?_
  exact all_l0 xs ys hn hx hy xs [] ys [] rfl rfl rfl (by omega)
theorem reportUnlike_ev (l l' : List En) (h : ∀ x ∈ l, EnW x) (h' : ∀ x ∈ l', EnW x) : Ev (fun k => dendronlaw29_ReportUnlike.f k l l') true := by
  unfold dendronlaw29_ReportUnlike.f
  obtain ⟨h1, h2, h3⟩ := few29_ok l h
  obtain ⟨h1', h2', h3'⟩ := few29_ok l' h'
  refine Ev.bind (few29_ev l) (Ev.bind (few29_ev l') ?_)
  refine Ev.bind (write_ev (few29 l) (by omega) h2 h3) (Ev.bind (write_ev (few29 l') (by omega) h2' h3') ?_)
  have hall := all_ev (few29 l) (few29 l') (by omega) h2 h2'
  generalize few29 l = xs at *
  generalize few29 l' = ys at *
  unfold writeR
  by_cases ho : okL 0 xs
  · rw [if_pos ho]
    refine Ev.if_neg (by simp) ?_
    by_cases ho' : okL 0 ys
    · rw [if_pos ho']
      refine Ev.if_neg (by simp) (Ev.bind hall (Ev.if_pos ?_ (Ev.bind awake29_ev (Ev.now _))))
      rw [Bool.eq_iff_iff, beq_iff_eq, decide_eq_true_iff, ← text_iff xs ys ho ho']
      exact ⟨fun e => toList_inj' e, fun e => by rw [e]⟩
    · rw [if_neg ho']
      exact Ev.if_pos (by decide) (Ev.bind awake29_ev (Ev.now _))
  · rw [if_neg ho]
    exact Ev.if_pos (by decide) (Ev.bind awake29_ev (Ev.now _))
end Go.DI.Th
