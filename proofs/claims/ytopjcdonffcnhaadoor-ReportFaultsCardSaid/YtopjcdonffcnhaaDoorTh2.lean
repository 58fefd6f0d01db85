/- What the told functions answer, part 2. No condition. -/
import Derived.Test.YtopjcdonffcnhaaDoorTh1
set_option linter.all false
namespace Go.DI.Th
open Go Go.RowKit Go.DI

/-! ### words -/
theorem span_inj {α : Type} (P : α → Prop) : ∀ (a b : List α) (x y : α) (r s : List α), (∀ c ∈ a, P c) → (∀ c ∈ b, P c) → ¬ P x → ¬ P y → a ++ x :: r = b ++ y :: s → a = b ∧ x = y ∧ r = s
  | [], [], x, y, r, s, _, _, _, _, h => by simpa using h
  | [], c :: b, x, y, r, s, _, hb, hx, _, h => by
    injection h with h1 h2
    exact absurd (h1 ▸ hb c List.mem_cons_self) hx
  | c :: a, [], x, y, r, s, ha, _, _, hy, h => by
    injection h with h1 h2
    exact absurd (h1 ▸ ha c List.mem_cons_self) hy
  | c :: a, d :: b, x, y, r, s, ha, hb, hx, hy, h => by
    injection h with h1 h2
    have := span_inj P a b x y r s (fun e he => ha e (List.mem_cons_of_mem _ he)) (fun e he => hb e (List.mem_cons_of_mem _ he)) hx hy h2
    exact ⟨by rw [h1, this.1], this.2⟩
def Dig (c : UInt8) : Prop := 48 ≤ c.toNat ∧ c.toNat ≤ 57
def Wd (c : UInt8) : Prop := c ≠ 32 ∧ c ≠ 10
theorem Dig.wd {c : UInt8} (h : Dig c) : Wd c := ⟨fun e => by subst e; exact absurd h.1 (by decide), fun e => by subst e; exact absurd h.1 (by decide)⟩
theorem Dig.n47 {c : UInt8} (h : Dig c) : c ≠ 47 := fun e => by subst e; exact absurd h.1 (by decide)
theorem Dig.n45 {c : UInt8} (h : Dig c) : c ≠ 45 := fun e => by subst e; exact absurd h.1 (by decide)
theorem toL_ofBytes (l : List Int) : toL (ofBytes l) = l.map fun n => UInt8.ofNat n.toNat := by unfold toL ofBytes; rfl
theorem prN_dig (n : Nat) : ∀ c ∈ toL (prN n), Dig c := by
  intro c hc
  unfold prN at hc
  rw [toL_ofBytes, List.mem_map] at hc
  obtain ⟨x, hx, e⟩ := hc
  have := dec_byte n x hx
  subst e
  unfold Dig
  rw [UInt8.toNat_ofNat', Nat.mod_eq_of_lt (by omega)]
  omega
def vb (l : List UInt8) : Nat := l.foldl (fun a c => 10 * a + (c.toNat - 48)) 0
theorem vb_prN (n : Nat) : vb (toL (prN n)) = n := by
  unfold prN
  rw [toL_ofBytes]
  induction n using Nat.strongRecOn with
  | ind n ih =>
    by_cases h : n < 10
    · rw [dec_small h]
      show 10 * 0 + ((UInt8.ofNat (48 + (n : Int)).toNat).toNat - 48) = n
      rw [UInt8.toNat_ofNat', Nat.mod_eq_of_lt (by omega)]
      omega
    · rw [dec_big h, List.map_append]
      unfold vb at ih ⊢
      rw [List.foldl_append, ih (n / 10) (by omega)]
      show 10 * (n / 10) + ((UInt8.ofNat (48 + ((n % 10 : Nat) : Int)).toNat).toNat - 48) = n
      have hm : n % 10 < 10 := Nat.mod_lt _ (by decide)
      have hd := Nat.div_add_mod n 10
      generalize n % 10 = m at hm hd ⊢
      rw [UInt8.toNat_ofNat', Nat.mod_eq_of_lt (by omega)]
      omega
theorem prN_inj {n m : Nat} (h : prN n = prN m) : n = m := by rw [← vb_prN n, h, vb_prN]
theorem toL_minus : toL minus = [45] := rfl
theorem toL_slash : toL slash = [47] := rfl
theorem prN_ne (n : Nat) : toL (prN n) ≠ [] := by
  unfold prN
  rw [toL_ofBytes]
  by_cases h : n < 10
  · rw [dec_small h]; simp
  · rw [dec_big h]; simp
theorem prW_chars (z : Int) : ∀ c ∈ toL (prW z), Dig c ∨ c = 45 := by
  intro c hc
  unfold prW at hc
  split at hc
  · rw [toL_append, toL_minus] at hc
    rcases List.mem_append.1 hc with h | h
    · right; simpa using h
    · left; exact prN_dig _ c h
  · left; exact prN_dig _ c hc
theorem prW_inj {z w : Int} (h : prW z = prW w) : z = w := by
  have key : ∀ n m : Nat, ¬ (minus ++ prN n = prN m) := fun n m e => by
    have e2 := congrArg toL e
    rw [toL_append, toL_minus] at e2
    have := prN_dig m 45 (by rw [← e2]; simp)
    exact absurd rfl this.n45
  unfold prW at h
  split at h <;> split at h
  · have h2 := congrArg toL h
    rw [toL_append, toL_append] at h2
    have := prN_inj (toL_inj (List.append_cancel_left h2))
    omega
  · exact absurd h (key _ _)
  · exact absurd h.symm (key _ _)
  · have := prN_inj h
    omega
theorem prW_n47 (z : Int) : ∀ c ∈ toL (prW z), c ≠ 47 := by
  intro c hc
  rcases prW_chars z c hc with h | h
  · exact h.n47
  · rw [h]; decide
theorem prW_wd (z : Int) : ∀ c ∈ toL (prW z), Wd c := by
  intro c hc
  rcases prW_chars z c hc with h | h
  · exact h.wd
  · rw [h]; exact ⟨by decide, by decide⟩
theorem prQ_wd (z : Int) (q : Nat) : ∀ c ∈ toL (prQ z q), Wd c := by
  intro c hc
  unfold prQ at hc
  split at hc
  · exact prW_wd z c hc
  · rw [toL_append, toL_append, toL_slash] at hc
    rcases List.mem_append.1 hc with h | h
    · rcases List.mem_append.1 h with h | h
      · exact prW_wd z c h
      · have : c = 47 := by simpa using h
        rw [this]; exact ⟨by decide, by decide⟩
    · exact (prN_dig q c h).wd
theorem prQ_inj {z w : Int} {q p : Nat} (h : prQ z q = prQ w p) : z = w ∧ q = p := by
  have key : ∀ (z w : Int) (p : Nat), ¬ (prW z = prW w ++ slash ++ prN p) := fun z w p e => by
    have e2 := congrArg toL e
    rw [toL_append, toL_append, toL_slash] at e2
    exact absurd rfl (prW_n47 z 47 (by rw [e2]; simp))
  unfold prQ at h
  split at h <;> split at h
  · rename_i h1 h2
    exact ⟨prW_inj h, by rw [h1, h2]⟩
  · exact absurd h (key _ _ _)
  · exact absurd h.symm (key _ _ _)
  · have h2 := congrArg toL h
    rw [toL_append, toL_append, toL_append, toL_append, toL_slash, List.append_assoc, List.append_assoc] at h2
    have h3 := span_inj (fun c => c ≠ 47) _ _ _ _ _ _ (prW_n47 z) (prW_n47 w) (by simp) (by simp) h2
    exact ⟨prW_inj (toL_inj h3.1), prN_inj (toL_inj h3.2.2)⟩
/-! ### fractions in their form -/
theorem wv_rl (z : Int) (q : Nat) : wv (rl z q).1 (rl z q).2.1 = rnum z q := by
  unfold rl wv rnum
  simp only [val_lm, decide_eq_true_eq]
theorem prT_eq (r : Rt) : prT r = prQ (rnum (num r.1 r.2.1 r.2.2) (den r.2.2)) (rden (num r.1 r.2.1 r.2.2) (den r.2.2)) := by
  unfold prT prR
  rw [wv_rl]
  rfl
theorem frac_nat (a q b p : Nat) (hq : q ≠ 0) (hp : p ≠ 0) : (a / Nat.gcd a q = b / Nat.gcd b p ∧ q / Nat.gcd a q = p / Nat.gcd b p) ↔ a * p = b * q := by
  have hg := gcd_pos_right a q hq
  have hh := gcd_pos_right b p hp
  have c1 := Nat.coprime_div_gcd_div_gcd hg
  have c2 := Nat.coprime_div_gcd_div_gcd hh
  have e1 := Nat.div_mul_cancel (Nat.gcd_dvd_left a q)
  have e2 := Nat.div_mul_cancel (Nat.gcd_dvd_right a q)
  have e3 := Nat.div_mul_cancel (Nat.gcd_dvd_left b p)
  have e4 := Nat.div_mul_cancel (Nat.gcd_dvd_right b p)
  generalize Nat.gcd a q = g at *
  generalize Nat.gcd b p = h at *
  generalize a / g = a' at *
  generalize q / g = q' at *
  generalize b / h = b' at *
  generalize p / h = p' at *
  have ht : a * p = b * q ↔ a' * p' = b' * q' := by
    rw [← e1, ← e2, ← e3, ← e4]
    have x1 : a' * g * (p' * h) = (g * h) * (a' * p') := by grind
    have x2 : b' * h * (q' * g) = (g * h) * (b' * q') := by grind
    rw [x1, x2]
    exact ⟨fun e => Nat.eq_of_mul_eq_mul_left (Nat.mul_pos hg hh) e, fun e => by rw [e]⟩
  rw [ht]
  constructor
  · intro ⟨h1, h2⟩
    rw [h1, h2]
  · intro e
    have d1 : q' ∣ p' := c1.symm.dvd_of_dvd_mul_left (by rw [e]; exact Nat.dvd_mul_left _ _)
    have d2 : p' ∣ q' := c2.symm.dvd_of_dvd_mul_left (by rw [← e]; exact Nat.dvd_mul_left _ _)
    have hqp := Nat.dvd_antisymm d1 d2
    have hq0 : 0 < q' := by
      rcases Nat.eq_zero_or_pos q' with h0 | h0
      · rw [h0, Nat.zero_mul] at e2; omega
      · exact h0
    rw [← hqp] at e
    exact ⟨Nat.eq_of_mul_eq_mul_right hq0 e, hqp⟩
theorem mul_neg_pos (z : Int) (p : Nat) (hp : p ≠ 0) : z * p < 0 ↔ z < 0 := by
  constructor
  · intro h
    rcases Int.lt_or_le z 0 with h0 | h0
    · exact h0
    · have := Int.mul_nonneg h0 (Int.natCast_nonneg p)
      omega
  · intro h
    exact Int.mul_neg_of_neg_of_pos h (by omega)
theorem frac_int (z w : Int) (q p : Nat) (hq : q ≠ 0) (hp : p ≠ 0) : (rnum z q = rnum w p ∧ rden z q = rden w p) ↔ z * p = w * q := by
  have hn := frac_nat z.natAbs q w.natAbs p hq hp
  have s1 := rnum_neg z q hq
  have s2 := rnum_neg w p hp
  have a1 := rnum_abs z q
  have a2 := rnum_abs w p
  have hz : z * p = w * q ↔ (z < 0 ↔ w < 0) ∧ z.natAbs * p = w.natAbs * q := by
    have m1 : (z * p).natAbs = z.natAbs * p := by rw [Int.natAbs_mul, Int.natAbs_natCast]
    have m2 : (w * q).natAbs = w.natAbs * q := by rw [Int.natAbs_mul, Int.natAbs_natCast]
    have n1 : z * p < 0 ↔ z < 0 := mul_neg_pos z p hp
    have n2 : w * q < 0 ↔ w < 0 := mul_neg_pos w q hq
    rw [← m1, ← m2, ← n1, ← n2]
    generalize z * (p : Int) = s
    generalize w * (q : Int) = t
    omega
  rw [hz, ← hn]
  unfold rden
  rw [← a1, ← a2, ← s1, ← s2]
  generalize rnum z q = s
  generalize rnum w p = t
  constructor
  · intro ⟨h1, h2⟩; subst h1; exact ⟨Iff.rfl, rfl, h2⟩
  · intro ⟨h1, h2, h3⟩; exact ⟨by omega, h3⟩
theorem prT_iff (r s : Rt) : prT r = prT s ↔ num r.1 r.2.1 r.2.2 * den s.2.2 = num s.1 s.2.1 s.2.2 * den r.2.2 := by
  rw [prT_eq, prT_eq, ← frac_int _ _ _ _ (den_pos _) (den_pos _)]
  exact ⟨prQ_inj, fun h => by rw [h.1, h.2]⟩
/-! ### texts -/
def Sep (u : List UInt8) : Prop := ∃ c t, u = c :: t ∧ ¬ Wd c
theorem sep_sp (u : List UInt8) : Sep (32 :: u) := ⟨32, u, rfl, fun h => h.1 rfl⟩
theorem sep_nl (u : List UInt8) : Sep (10 :: u) := ⟨10, u, rfl, fun h => h.2 rfl⟩
theorem tok_inj {a b : ByteArray} {u v : List UInt8} (ha : ∀ c ∈ toL a, Wd c) (hb : ∀ c ∈ toL b, Wd c) (hu : Sep u) (hv : Sep v) (h : toL a ++ u = toL b ++ v) : a = b ∧ u = v := by
  obtain ⟨c, t, rfl, hc⟩ := hu
  obtain ⟨d, s, rfl, hd⟩ := hv
  have h3 := span_inj Wd _ _ _ _ _ _ ha hb hc hd h
  exact ⟨toL_inj h3.1, by rw [h3.2.1, h3.2.2]⟩
theorem tok_sp {a b : ByteArray} {u v : List UInt8} (ha : ∀ c ∈ toL a, Wd c) (hb : ∀ c ∈ toL b, Wd c) (h : toL a ++ (toL ⟨#[32]⟩ ++ u) = toL b ++ (toL ⟨#[32]⟩ ++ v)) : a = b ∧ u = v := by
  have h1 := tok_inj ha hb (sep_sp u) (sep_sp v) h
  have h2 := h1.2
  injection h2 with _ h3
  exact ⟨h1.1, h3⟩
theorem tok_nl {a b : ByteArray} {u v : List UInt8} (ha : ∀ c ∈ toL a, Wd c) (hb : ∀ c ∈ toL b, Wd c) (h : toL a ++ (toL ⟨#[10]⟩ ++ u) = toL b ++ (toL ⟨#[10]⟩ ++ v)) : a = b ∧ u = v := by
  have h1 := tok_inj ha hb (sep_nl u) (sep_nl v) h
  have h2 := h1.2
  injection h2 with _ h3
  exact ⟨h1.1, h3⟩
theorem prN_wd (n : Nat) : ∀ c ∈ toL (prN n), Wd c := fun c hc => (prN_dig n c hc).wd
theorem prT_wd (r : Rt) : ∀ c ∈ toL (prT r), Wd c := by rw [prT_eq]; exact prQ_wd _ _
theorem rowTail_sep (l : List Rt) (u : List UInt8) : Sep (toL (rowTail l) ++ u) := by
  cases l with
  | nil => exact sep_nl u
  | cons r l =>
    unfold rowTail
    rw [toL_append]
    exact sep_sp _
theorem rowTail_inj : ∀ (l l' : List Rt) (u u' : List UInt8), toL (rowTail l) ++ u = toL (rowTail l') ++ u' → l.map prT = l'.map prT ∧ u = u'
  | [], [], u, u', h => ⟨rfl, List.append_cancel_left h⟩
  | [], r :: l, u, u', h => by
    unfold rowTail at h
    rw [toL_append] at h
    have h1 : (10 : UInt8) = 32 := by injection h
    exact absurd h1 (by decide)
  | r :: l, [], u, u', h => by
    unfold rowTail at h
    rw [toL_append] at h
    have h1 : (32 : UInt8) = 10 := by injection h
    exact absurd h1 (by decide)
  | r :: l, s :: l', u, u', h => by
    unfold rowTail at h
    rw [toL_append, toL_append, toL_append, toL_append, List.append_assoc, List.append_assoc, List.append_assoc, List.append_assoc] at h
    have h1 := List.append_cancel_left h
    have h2 := tok_inj (prT_wd r) (prT_wd s) (rowTail_sep l u) (rowTail_sep l' u') h1
    have h3 := rowTail_inj l l' u u' h2.2
    exact ⟨by rw [List.map_cons, List.map_cons, h2.1, h3.1], h3.2⟩
def viewR (t : List (List Rt)) : List (List ByteArray) := t.map fun r => r.map prT
theorem rowsT_inj : ∀ (t t' : List (List Rt)) (u u' : List UInt8), t.length = t'.length → toL (rowsT t) ++ u = toL (rowsT t') ++ u' → viewR t = viewR t' ∧ u = u'
  | [], [], u, u', _, h => ⟨rfl, List.append_cancel_left h⟩
  | [], r :: t, u, u', hl, h => by simp at hl
  | r :: t, [], u, u', hl, h => by simp at hl
  | r :: t, s :: t', u, u', hl, h => by
    unfold rowsT at h
    simp only [toL_append, List.append_assoc] at h
    have h1 := List.append_cancel_left h
    have h2 := tok_inj (prN_wd _) (prN_wd _) (rowTail_sep r _) (rowTail_sep s _) h1
    have h3 := rowTail_inj r s _ _ h2.2
    have h4 := rowsT_inj t t' u u' (by simpa using hl) h3.2
    refine ⟨?_, h4.2⟩
    show r.map prT :: viewR t = s.map prT :: viewR t'
    rw [h3.1, h4.1]
theorem rowTail_congr : ∀ (l l' : List Rt), l.map prT = l'.map prT → rowTail l = rowTail l'
  | [], [], _ => rfl
  | [], r :: l, h => by simp at h
  | r :: l, [], h => by simp at h
  | r :: l, s :: l', h => by
    rw [List.map_cons, List.map_cons] at h
    injection h with h1 h2
    unfold rowTail
    rw [h1, rowTail_congr l l' h2]
theorem rowsT_congr : ∀ (t t' : List (List Rt)), viewR t = viewR t' → rowsT t = rowsT t'
  | [], [], _ => rfl
  | [], r :: l, h => by simp [viewR] at h
  | r :: l, [], h => by simp [viewR] at h
  | r :: t, s :: t', h => by
    have h0 : r.map prT :: viewR t = s.map prT :: viewR t' := h
    injection h0 with h1 h2
    unfold rowsT
    have hl : r.length = s.length := by have := congrArg List.length h1; simpa using this
    rw [hl, rowTail_congr r s h1, rowsT_congr t t' h2]
theorem viewR_len {t t' : List (List Rt)} (h : viewR t = viewR t') : t.length = t'.length := by have := congrArg List.length h; simpa [viewR] using this
def viewE (x : En) : Int × Int × Int × List (List ByteArray) := (x.1, x.2.1, x.2.2.1, viewR x.2.2.2)
theorem viewE_iff (x y : En) : viewE x = viewE y ↔ x.1 = y.1 ∧ x.2.1 = y.2.1 ∧ x.2.2.1 = y.2.2.1 ∧ viewR x.2.2.2 = viewR y.2.2.2 := by
  unfold viewE
  simp only [Prod.mk.injEq]
theorem entT_congr (x y : En) (h : viewE x = viewE y) : entT x = entT y := by
  obtain ⟨h1, h2, h3, h4⟩ := (viewE_iff x y).1 h
  unfold entT
  rw [h1, h2, h3, rowsT_congr _ _ h4, viewR_len h4]
theorem toNat_eq {a b : Int} (ha : 0 ≤ a) (hb : 0 ≤ b) (h : a.toNat = b.toNat) : a = b := by omega
theorem entT_inj (i : Nat) (x y : En) (hx : okE i x) (hy : okE i y) (u u' : List UInt8) (h : toL (entT x) ++ u = toL (entT y) ++ u') : viewE x = viewE y ∧ u = u' := by
  obtain ⟨x1, x2, _, x4, _, x6, _⟩ := hx
  obtain ⟨y1, y2, _, y4, _, y6, _⟩ := hy
  unfold entT at h
  simp only [toL_append, List.append_assoc] at h
  have h1 := List.append_cancel_left h
  have h2 := tok_sp (prN_wd _) (prN_wd _) h1
  have h4 := tok_sp (prN_wd _) (prN_wd _) h2.2
  have h5 := h4.2
  have k2 := toNat_eq x2 y2 (prN_inj h4.1)
  rw [viewE_iff]
  have split (c : Prop) [Decidable c] (a b : ByteArray) (u : List UInt8) : toL (if c then a else b) ++ u = if c then toL a ++ u else toL b ++ u := by split <;> rfl
  rw [split, split] at h5
  by_cases hx0 : x.2.2.1 ≠ 0
  · rw [if_pos hx0] at h5
    by_cases hy0 : y.2.2.1 ≠ 0
    · rw [if_pos hy0] at h5
      simp only [toL_append, List.append_assoc] at h5
      have h6 := List.append_cancel_left h5
      have h7 := tok_nl (prN_wd _) (prN_wd _) h6
      have k3 := toNat_eq x4 y4 (prN_inj h7.1)
      have ex := List.eq_nil_of_length_eq_zero (x6 hx0)
      have ey := List.eq_nil_of_length_eq_zero (y6 hy0)
      refine ⟨⟨by rw [x1, y1], k2, k3, by rw [ex, ey]⟩, h7.2⟩
    · rw [if_neg hy0] at h5
      simp only [toL_append, List.append_assoc] at h5
      have h6 : (101 : UInt8) = 116 := by injection h5
      exact absurd h6 (by decide)
  · rw [if_neg hx0] at h5
    by_cases hy0 : y.2.2.1 ≠ 0
    · rw [if_pos hy0] at h5
      simp only [toL_append, List.append_assoc] at h5
      have h6 : (116 : UInt8) = 101 := by injection h5
      exact absurd h6 (by decide)
    · rw [if_neg hy0] at h5
      simp only [toL_append, List.append_assoc] at h5
      have h6 := List.append_cancel_left h5
      have h7 := tok_nl (prN_wd _) (prN_wd _) h6
      have h8 := rowsT_inj _ _ _ _ (prN_inj h7.1) (h7.2)
      exact ⟨⟨by rw [x1, y1], k2, by omega, h8.1⟩, h8.2⟩
theorem entsT_inj : ∀ (l l' : List En) (i : Nat), okL i l → okL i l' → l.length = l'.length → toL (entsT l) = toL (entsT l') → l.map viewE = l'.map viewE
  | [], [], _, _, _, _, _ => rfl
  | [], r :: l, _, _, _, hl, h => by simp at hl
  | r :: l, [], _, _, _, hl, h => by simp at hl
  | x :: l, y :: l', i, hx, hy, hl, h => by
    unfold entsT at h
    rw [toL_append, toL_append] at h
    have h1 := entT_inj i x y hx.1 hy.1 _ _ h
    rw [List.map_cons, List.map_cons, h1.1, entsT_inj l l' (i + 1) hx.2 hy.2 (by simpa using hl) h1.2]
theorem entsT_congr : ∀ (l l' : List En), l.map viewE = l'.map viewE → entsT l = entsT l'
  | [], [], _ => rfl
  | [], r :: l, h => by simp at h
  | r :: l, [], h => by simp at h
  | x :: l, y :: l', h => by
    rw [List.map_cons, List.map_cons] at h
    injection h with h1 h2
    unfold entsT
    rw [entT_congr x y h1, entsT_congr l l' h2]
theorem text_iff (l l' : List En) (h : okL 0 l) (h' : okL 0 l') : headT l.length ++ entsT l = headT l'.length ++ entsT l' ↔ l.map viewE = l'.map viewE := by
  constructor
  · intro e
    have e1 := congrArg toL e
    unfold headT at e1
    simp only [toL_append, List.append_assoc] at e1
    have h1 := List.append_cancel_left e1
    have h2 := tok_nl (prN_wd _) (prN_wd _) h1
    exact entsT_inj l l' 0 h h' (prN_inj h2.1) h2.2
  · intro e
    have hl : l.length = l'.length := by have := congrArg List.length e; simpa using this
    rw [hl, entsT_congr l l' e]
end Go.DI.Th
namespace Go.DI.Th
open Go Go.RowKit Go.DI

theorem toList_inj' {a b : ByteArray} (h : a.toList = b.toList) : a = b := by
  rw [ByteArray.toList_eq, ByteArray.toList_eq] at h
  exact toL_inj h
theorem dlen_num (b : Bool) (n d : List Int) : D.L (num b n d) ≤ 3 * n.length := by
  have h1 := D.len_of_len (val n)
  have h2 := val_len n
  have h3 := D.len_mono (num_abs b n d)
  unfold D.L
  omega
theorem dlen_den (d : List Int) : D.len (den d) ≤ 3 * d.length + 1 := by
  unfold den
  split
  · exact Nat.le_trans (D.len_le (k := 1) (by decide)) (by omega)
  · have h1 := D.len_of_len (val d)
    have h2 := val_len d
    omega
def numT (r : Rt) : Int := num r.1 r.2.1 r.2.2
def denT (r : Rt) : Nat := den r.2.2
theorem from_rt (r : Rt) (h : RtOk r) : Ev (fun k => dendronref03_From.f k r.1 r.2.1 r.2.2) (D.fl (numT r) (denT r)) :=
  D.ffrom_ev r.1 r.2.1 r.2.2 h.1 h.2.1 (Nat.le_trans h.2.2.1 (by decide)) (Nat.le_trans h.2.2.2 (by decide))
theorem order_rt (r s : Rt) (h : RtOk r) (h' : RtOk s) : Ev (fun k => dendronref03_Order.f k (D.fl (numT r) (denT r)).1 (D.fl (numT r) (denT r)).2.1 (D.fl (numT r) (denT r)).2.2 (D.fl (numT s) (denT s)).1 (D.fl (numT s) (denT s)).2.1 (D.fl (numT s) (denT s)).2.2) (D.cmpI (numT r * denT s) (numT s * denT r)) := by
  have a1 := dlen_num r.1 r.2.1 r.2.2
  have a2 := dlen_num s.1 s.2.1 s.2.2
  have a3 := dlen_den r.2.2
  have a4 := dlen_den s.2.2
  obtain ⟨_, _, b1, b2⟩ := h
  obtain ⟨_, _, b3, b4⟩ := h'
  exact D.forder_ev _ _ _ _ (by unfold numT denT; omega) (by unfold numT denT; omega)
theorem cmp_ne (r s : Rt) : D.cmpI (numT r * denT s) (numT s * denT r) ≠ 0 ↔ prT r ≠ prT s := by
  rw [Ne, Ne, prT_iff]
  unfold D.cmpI numT denT
  generalize num r.1 r.2.1 r.2.2 * (den s.2.2 : Int) = x
  generalize num s.1 s.2.1 s.2.2 * (den r.2.2 : Int) = y
  by_cases h1 : x < y
  · rw [if_pos h1]; exact ⟨fun _ => by omega, fun _ => by decide⟩
  · rw [if_neg h1]
    by_cases h2 : y < x
    · rw [if_pos h2]; exact ⟨fun _ => by omega, fun _ => by decide⟩
    · rw [if_neg h2]; exact ⟨fun h => absurd rfl h, fun h => absurd (by omega) h⟩
theorem same_l1_step (k : Nat) (a0 a1 a2 : Int) (ta : List (List Rt)) (row : List Rt) (tb : List (List Rt)) (c0 c1 c2 : Int) (sa : List (List Rt)) (row' : List Rt) (sb : List (List Rt)) (hsa : sa.length = ta.length)
    (r s : Rt) (a b a' b' : List Rt) (hr : row = a ++ r :: b) (hs : row' = a' ++ s :: b') (hl : a.length = a'.length) (hn : a.length ≤ 1099511627776) :
    dendronref29_Same.l1 (k + 1) (ta.length : Int) (a.length : Int) a0 a1 a2 (ta ++ row :: tb) c0 c1 c2 (sa ++ row' :: sb) = (dendronref03_From.f k r.1 r.2.1 r.2.2).bind fun v16 => ((dendronref03_From.f k s.1 s.2.1 s.2.2).bind fun v25 => ((dendronref03_Order.f k v16.1 v16.2.1 v16.2.2 v25.1 v25.2.1 v25.2.2).bind fun v26 => (if v26 ≠ 0 then (some false) else (dendronref29_Same.l1 k (ta.length : Int) ((a ++ [r]).length : Int) a0 a1 a2 (ta ++ row :: tb) c0 c1 c2 (sa ++ row' :: sb))))) := by
  have e1 := gt_at [] ta row tb
  have e2 := gt_at [] sa row' sb
  rw [hsa] at e2
  have e3 := gt_at (false, [], []) a r b
  rw [← hr] at e3
  have e4 := gt_at (false, [], []) a' s b'
  rw [← hs, ← hl] at e4
  have e5 := wr_at a r (Nat.le_trans hn (by decide))
  have l1 := lt_at ta row tb
  have l2 := lt_at sa row' sb
  rw [hsa] at l2
  have l3 := lt_at a r b
  rw [← hr] at l3
  have l4 := lt_at a' s b'
  rw [← hs, ← hl] at l4
  rw [dendronref29_Same.l1, e1, e2, e3, e4, e5, if_pos (nn0 _), if_pos l1, if_pos l3, if_pos (nn0 _)]
  congr 1
  funext v16
  rw [if_pos l2, if_pos l4]
theorem same_l1 (a0 a1 a2 : Int) (ta : List (List Rt)) (row : List Rt) (tb : List (List Rt)) (c0 c1 c2 : Int) (sa : List (List Rt)) (row' : List Rt) (sb : List (List Rt)) (hsa : sa.length = ta.length) (hta : ta.length ≤ 1099511627776)
    (hrow : row.length ≤ 1099511627776) (hv : ∀ v ∈ row, RtOk v) (hv' : ∀ v ∈ row', RtOk v) (Q : Prop) [Decidable Q]
    (hend : Ev (fun k => dendronref29_Same.l0 k ((ta ++ [row]).length : Int) a0 a1 a2 (ta ++ row :: tb) c0 c1 c2 (sa ++ row' :: sb)) (decide Q)) :
    ∀ (b a b' a' : List Rt), row = a ++ b → row' = a' ++ b' → a.length = a'.length → b.length = b'.length →
    Ev (fun k => dendronref29_Same.l1 k (ta.length : Int) (a.length : Int) a0 a1 a2 (ta ++ row :: tb) c0 c1 c2 (sa ++ row' :: sb)) (decide (b.map prT = b'.map prT ∧ Q)) := by
  intro b
  induction b with
  | nil =>
    intro a b' a' hr hs hl hbl
    have hb' := List.eq_nil_of_length_eq_zero hbl.symm
    subst hb'
    refine Ev.step (f := fun k => dendronref29_Same.l0 k ((ta ++ [row]).length : Int) a0 a1 a2 (ta ++ row :: tb) c0 c1 c2 (sa ++ row' :: sb)) (fun k => ?_) (hend.of_eq ?_)
    · have e1 := gt_at [] ta row tb
      have e3 : ¬ (a.length : Int) < (row.length : Int) := by rw [hr]; exact nlt_at a
      rw [dendronref29_Same.l1, e1, if_pos (nn0 _), if_pos (lt_at ta row tb), if_neg e3, wr_at ta row (Nat.le_trans hta (by decide))]
    · simp
  | cons r b ih =>
    intro a b' a' hr hs hl hbl
    cases b' with
    | nil => simp at hbl
    | cons s b' =>
      have hn : a.length ≤ 1099511627776 := by
        have : row.length = a.length + (b.length + 1) := by rw [hr, List.length_append, List.length_cons]
        omega
      have hrk := hv r (by rw [hr]; simp)
      have hsk := hv' s (by rw [hs]; simp)
      refine Ev.step (fun k => same_l1_step k a0 a1 a2 ta row tb c0 c1 c2 sa row' sb hsa r s a b a' b' hr hs hl hn) (Ev.bind (from_rt r hrk) (Ev.bind (from_rt s hsk) (Ev.bind (order_rt r s hrk hsk) ?_)))
      have hc := cmp_ne r s
      by_cases hp : prT r = prT s
      · refine Ev.if_neg (fun h => hc.1 h hp) ((ih (a ++ [r]) b' (a' ++ [s]) (by rw [hr]; simp) (by rw [hs]; simp) (by simp [hl]) (by simpa using hbl)).of_eq ?_)
        simp [hp]
      · refine Ev.if_pos (hc.2 hp) ((Ev.now false).of_eq ?_)
        symm
        rw [decide_eq_false_iff_not]
        intro h
        have h1 := h.1
        rw [List.map_cons, List.map_cons] at h1
        injection h1 with h2 h3
        exact hp h2
theorem same_l0 (a0 a1 a2 : Int) (t t' : List (List Rt)) (c0 c1 c2 : Int) (ht : t.length ≤ 1099511627776) (hv : ∀ r ∈ t, r.length ≤ 1000 ∧ ∀ v ∈ r, RtOk v) (hv' : ∀ r ∈ t', r.length ≤ 1000 ∧ ∀ v ∈ r, RtOk v) :
    ∀ (b a b' a' : List (List Rt)), t = a ++ b → t' = a' ++ b' → a.length = a'.length → b.length = b'.length →
    Ev (fun k => dendronref29_Same.l0 k (a.length : Int) a0 a1 a2 t c0 c1 c2 t') (decide (viewR b = viewR b')) := by
  intro b
  induction b with
  | nil =>
    intro a b' a' hr hs hl hbl
    have hb' := List.eq_nil_of_length_eq_zero hbl.symm
    subst hb'
    refine Ev.step (f := fun _ => some true) (fun k => ?_) ((Ev.now true).of_eq (by simp))
    rw [dendronref29_Same.l0, if_neg (by rw [hr]; exact nlt_at a)]
  | cons r b ih =>
    intro a b' a' hr hs hl hbl
    cases b' with
    | nil => simp at hbl
    | cons s b' =>
      have hn : a.length ≤ 1099511627776 := by
        have : t.length = a.length + (b.length + 1) := by rw [hr, List.length_append, List.length_cons]
        omega
      have hrk := hv r (by rw [hr]; simp)
      have hsk := hv' s (by rw [hs]; simp)
      have hih := ih (a ++ [r]) b' (a' ++ [s]) (by rw [hr]; simp) (by rw [hs]; simp) (by simp [hl]) (by simpa using hbl)
      subst hr
      subst hs
      have e1 := gt_at [] a r b
      have e2 := gt_at [] a' s b'
      have l2 := lt_at a' s b'
      rw [← hl] at e2 l2
      refine Ev.step (f := fun k => if (r.length : Int) ≠ (s.length : Int) then (some false) else (dendronref29_Same.l1 k (a.length : Int) 0 a0 a1 a2 (a ++ r :: b) c0 c1 c2 (a' ++ s :: b'))) (fun k => ?_) ?_
      · rw [dendronref29_Same.l0, e1, e2, if_pos (lt_at a r b), if_pos (nn0 _), if_pos l2]
      · by_cases hrs : r.length = s.length
        · refine Ev.if_neg (fun h => h (by omega)) ?_
          have h1 := same_l1 a0 a1 a2 a r b c0 c1 c2 a' s b' hl.symm hn (Nat.le_trans hrk.1 (by decide)) hrk.2 hsk.2 _ hih r [] s [] rfl rfl rfl hrs
          refine h1.of_eq ?_
          have e : viewR (r :: b) = viewR (s :: b') ↔ (r.map prT = s.map prT ∧ viewR b = viewR b') := by
            show (r.map prT :: viewR b = s.map prT :: viewR b') ↔ _
            rw [List.cons.injEq]
          exact decide_eq_decide.2 e.symm
        · refine Ev.if_pos (fun h => hrs (by omega)) ((Ev.now false).of_eq ?_)
          symm
          rw [decide_eq_false_iff_not]
          intro h
          have h0 : r.map prT :: viewR b = s.map prT :: viewR b' := h
          injection h0 with h1 h2
          have := congrArg List.length h1
          simp at this
          exact hrs this
theorem rsame_ev (x y : En) (hx : EnOk x) (hy : EnOk y) : Ev (fun k => dendronref29_Same.f k x.1 x.2.1 x.2.2.1 x.2.2.2 y.1 y.2.1 y.2.2.1 y.2.2.2) (decide (viewE x = viewE y)) := by
  unfold dendronref29_Same.f
  refine Ev.guard (fun h e => h ((viewE_iff x y).1 e).1) fun h1 => ?_
  refine Ev.guard (fun h e => h ((viewE_iff x y).1 e).2.1) fun h2 => ?_
  refine Ev.guard (fun h e => h ((viewE_iff x y).1 e).2.2.1) fun h3 => ?_
  refine Ev.guard (fun h e => h (by rw [viewR_len ((viewE_iff x y).1 e).2.2.2])) fun h4 => ?_
  have h := same_l0 x.1 x.2.1 x.2.2.1 x.2.2.2 y.2.2.2 y.1 y.2.1 y.2.2.1 hx.1 hx.2 hy.2 x.2.2.2 [] y.2.2.2 [] rfl rfl rfl (by omega)
  refine h.of_eq ?_
  rw [decide_eq_decide, viewE_iff]
  exact ⟨fun h => ⟨by omega, by omega, by omega, h⟩, fun h => h.2.2.2⟩
theorem all_l0 (xs ys : List En) (hn : xs.length ≤ 16384) (hx : ∀ x ∈ xs, EnOk x) (hy : ∀ x ∈ ys, EnOk x) : ∀ (b a b' a' : List En), xs = a ++ b → ys = a' ++ b' → a.length = a'.length → b.length = b'.length →
    Ev (fun k => dendronref29_All.l0 k xs ys (a.length : Int)) (decide (b.map viewE = b'.map viewE)) := by
  intro b
  induction b with
  | nil =>
    intro a b' a' hr hs hl hbl
    have hb' := List.eq_nil_of_length_eq_zero hbl.symm
    subst hb'
    refine Ev.step (f := fun _ => some true) (fun k => ?_) ((Ev.now true).of_eq (by simp))
    rw [dendronref29_All.l0, if_neg (by rw [hr]; exact nlt_at a)]
  | cons x b ih =>
    intro a b' a' hr hs hl hbl
    cases b' with
    | nil => simp at hbl
    | cons y b' =>
      have hna : a.length ≤ 16384 := by
        have : xs.length = a.length + (b.length + 1) := by rw [hr, List.length_append, List.length_cons]
        omega
      have hxk := hx x (by rw [hr]; simp)
      have hyk := hy y (by rw [hs]; simp)
      have hih := ih (a ++ [x]) b' (a' ++ [y]) (by rw [hr]; simp) (by rw [hs]; simp) (by simp [hl]) (by simpa using hbl)
      subst hr
      subst hs
      have e1 := gt_at ((0, 0, 0, []) : En) a x b
      have e2 := gt_at ((0, 0, 0, []) : En) a' y b'
      have l2 := lt_at a' y b'
      rw [← hl] at e2 l2
      refine Ev.step (f := fun k => (dendronref29_Same.f k x.1 x.2.1 x.2.2.1 x.2.2.2 y.1 y.2.1 y.2.2.1 y.2.2.2).bind fun v12 => (if v12 = true then (dendronref29_All.l0 k (a ++ x :: b) (a' ++ y :: b') ((a ++ [x]).length : Int)) else (some false))) (fun k => ?_) (Ev.bind (rsame_ev x y hxk hyk) ?_)
      · rw [dendronref29_All.l0, e1, e2, if_pos (lt_at a x b), if_pos (nn0 _), if_pos l2, wr_at a x (Nat.le_trans hna (by decide))]
      · by_cases hv : viewE x = viewE y
        · refine Ev.if_pos (decide_eq_true hv) (hih.of_eq ?_)
          rw [decide_eq_decide, List.map_cons, List.map_cons, List.cons.injEq]
          exact ⟨fun h => ⟨hv, h⟩, fun h => h.2⟩
        · refine Ev.if_neg (by simp [hv]) ((Ev.now false).of_eq ?_)
          symm
          rw [decide_eq_false_iff_not, List.map_cons, List.map_cons, List.cons.injEq]
          exact fun h => hv h.1
theorem all_ev (xs ys : List En) (hn : xs.length ≤ 16384) (hx : ∀ x ∈ xs, EnOk x) (hy : ∀ x ∈ ys, EnOk x) : Ev (fun k => dendronref29_All.f k xs ys) (decide (xs.map viewE = ys.map viewE)) := by
  unfold dendronref29_All.f
  refine Ev.guard (fun h e => h (by have := congrArg List.length e; simp at this; omega)) fun h1 => ?_
  exact all_l0 xs ys hn hx hy xs [] ys [] rfl rfl rfl (by omega)
theorem reportUnlike_ev (l l' : List En) (h : ∀ x ∈ l, EnW x) (h' : ∀ x ∈ l', EnW x) : Ev (fun k => dendronlaw29_ReportUnlike.f k l l') true := by
  unfold dendronlaw29_ReportUnlike.f
  obtain ⟨h1, h2, h3⟩ := few29_ok l h
  obtain ⟨h1', h2', h3'⟩ := few29_ok l' h'
  refine Ev.bind (few29_ev l) (Ev.bind (few29_ev l') ?_)
  refine Ev.bind (write_ev (few29 l) (by omega) h2 h3) (Ev.bind (write_ev (few29 l') (by omega) h2' h3') ?_)
  have hall := all_ev (few29 l) (few29 l') (by omega) h2 h2'
  generalize few29 l = xs at *
  generalize few29 l' = ys at *
  unfold writeR
  by_cases ho : okL 0 xs
  · rw [if_pos ho]
    refine Ev.if_neg (by simp) ?_
    by_cases ho' : okL 0 ys
    · rw [if_pos ho']
      refine Ev.if_neg (by simp) (Ev.bind hall (Ev.if_pos ?_ (Ev.bind awake29_ev (Ev.now _))))
      rw [Bool.eq_iff_iff, beq_iff_eq, decide_eq_true_iff, ← text_iff xs ys ho ho']
      exact ⟨fun e => toList_inj' e, fun e => by rw [e]⟩
    · rw [if_neg ho']
      exact Ev.if_pos (by decide) (Ev.bind awake29_ev (Ev.now _))
  · rw [if_neg ho]
    exact Ev.if_pos (by decide) (Ev.bind awake29_ev (Ev.now _))
end Go.DI.Th
namespace Go.DI.Th
open Go Go.RowKit Go.DI

def blank (c : UInt8) : Bool := c == 32 || c == 9 || c == 13
def plain (c : UInt8) : Bool := decide (32 < c.toNat ∧ c.toNat < 127)
def inw (c : UInt8) : Bool := plain c && !(c == 35)
abbrev W := Int × Int × ByteArray
theorem u8_eq (c : UInt8) (n : Nat) (h : n < 256) : ((c.toNat : Int) = (n : Int)) ↔ c = UInt8.ofNat n := by
  constructor
  · intro e
    apply UInt8.toNat_inj.1
    rw [UInt8.toNat_ofNat', Nat.mod_eq_of_lt h]
    omega
  · intro e
    rw [e, UInt8.toNat_ofNat', Nat.mod_eq_of_lt h]
theorem blank_eq (c : UInt8) : lex_blank.f (c.toNat : Int) = some (blank c) := by
  unfold lex_blank.f blank
  have h1 : ((c.toNat : Int) = 32) ↔ c = 32 := u8_eq c 32 (by decide)
  have h2 : ((c.toNat : Int) = 9) ↔ c = 9 := u8_eq c 9 (by decide)
  have h3 : ((c.toNat : Int) = 13) ↔ c = 13 := u8_eq c 13 (by decide)
  by_cases e1 : c = 32
  · rw [if_pos (h1.2 e1)]; simp [e1]
  · rw [if_neg (fun e => e1 (h1.1 e))]
    by_cases e2 : c = 9
    · rw [if_pos (h2.2 e2)]; simp [e2]
    · rw [if_neg (fun e => e2 (h2.1 e))]
      have : (((c.toNat : Int) == 13) : Bool) = (c == 13) := by
        rw [Bool.eq_iff_iff, beq_iff_eq, beq_iff_eq]; exact h3
      rw [this]
      simp [e1, e2]
theorem plain_eq (c : UInt8) : lex_plain.f (c.toNat : Int) = some (plain c) := by
  unfold lex_plain.f plain
  by_cases e1 : (c.toNat : Int) > 32
  · rw [if_pos e1]
    have e : decide ((c.toNat : Int) < 127) = decide (32 < c.toNat ∧ c.toNat < 127) := by
      rw [decide_eq_decide]; omega
    rw [e]
  · rw [if_neg e1]
    have e : decide (32 < c.toNat ∧ c.toNat < 127) = false := by
      rw [decide_eq_false_iff_not]; omega
    rw [e]
/-- The words of a line from a place on: the words ahead of it are known. -/
def wordsS (acc : List W) (pos : Nat) (cs : List UInt8) : List W × Int × Int :=
  match cs with
  | [] => (acc, 0, 0)
  | c :: r => if blank c then wordsS acc (pos + 1) r else if c = 35 then (acc, 0, 0) else if plain c then
      (if acc.length ≥ 4096 then ([], pos, 16) else wordsS (acc ++ [((pos : Int), 0, ofL (c :: r.takeWhile inw))]) (pos + (c :: r.takeWhile inw).length) (r.dropWhile inw)) else ([], pos, 4)
termination_by cs.length
decreasing_by
  · simp
  · have h := congrArg List.length (List.takeWhile_append_dropWhile (p := inw) (l := r))
    rw [List.length_append] at h
    rw [List.length_cons]
    omega
theorem words_l1 (x : ByteArray) (acc : List W) (ha : acc.length < 4096) (R : List W × Int × Int) (hx : x.size ≤ 1125899906842624) (p : List UInt8) : ∀ (r w : List UInt8), toL x = p ++ (w ++ r) →
    Ev (fun k => lex_Words.l0 k x (acc ++ [((p.length : Int), 0, ofL (w ++ r.takeWhile inw))]) ((p.length + (w ++ r.takeWhile inw).length : Nat) : Int)) R →
    Ev (fun k => lex_Words.l1 k x acc (p.length : Int) ((p.length + w.length : Nat) : Int)) R := by
  intro r
  induction r with
  | nil =>
    intro w hw hend
    rw [List.takeWhile_nil, List.append_nil] at hend
    rw [List.append_nil] at hw
    refine Ev.succ ?_
    have hs : x.size = p.length + w.length := by rw [sz_end hw, List.length_append]
    have he := ext_at (b := x) (p := p) (w := w) (r := []) (by rw [hw, List.append_nil])
    simp only [lex_Words.l1]
    refine Ev.if_neg (by omega) (Ev.if_pos (nn0 _) (Ev.if_pos (by omega) (Ev.if_pos (by omega) (Ev.if_pos (by omega) ?_))))
    rw [Int.toNat_natCast, Int.toNat_natCast, he]
    exact hend
  | cons c r ih =>
    intro w hw hend
    have hw2 : toL x = (p ++ w) ++ c :: r := by rw [hw, List.append_assoc]
    have hb := bt_at hw2
    have hs := sz_at hw2
    rw [List.length_append] at hb hs
    have hsn : p.length + w.length < x.size := by omega
    by_cases hc : inw c = true
    · have hih := ih (w ++ [c]) (by rw [hw]; simp) (by
        rw [List.takeWhile_cons, if_pos hc] at hend
        rw [List.append_assoc]
        exact hend)
      have ew : wrap64 (((p.length + w.length : Nat) : Int) + 1) = ((p.length + (w ++ [c]).length : Nat) : Int) := by
        rw [wr_succ _ (by omega), List.length_append, List.length_singleton, Nat.add_assoc]
      refine Ev.succ ?_
      simp only [lex_Words.l1, hb, ew, plain_eq]
      unfold inw at hc
      rw [Bool.and_eq_true] at hc
      refine Ev.if_pos hs (Ev.if_pos (nn0 _) (Ev.bind (Ev.now _) (Ev.if_pos hc.1 (Ev.if_pos ?_ hih))))
      intro e
      have e2 := (u8_eq c 35 (by decide)).1 e
      rw [e2] at hc
      exact absurd hc.2 (by decide)
    · rw [List.takeWhile_cons, if_neg hc, List.append_nil] at hend
      have he := ext_at (b := x) (p := p) (w := w) (r := c :: r) hw
      have fin : Ev (fun k => if 0 ≤ (p.length : Int) then (if (p.length : Int) ≤ ((p.length + w.length : Nat) : Int) then (if ((p.length + w.length : Nat) : Int) ≤ (x.size : Int) then (if acc.length < 4398046511104 then (lex_Words.l0 k x (acc ++ [((p.length : Int), 0, (x.extract (((p.length : Int)).toNat) ((((p.length + w.length : Nat) : Int)).toNat)))]) ((p.length + w.length : Nat) : Int)) else none) else none) else none) else none) R := by
        rw [Int.toNat_natCast, Int.toNat_natCast, he]
        exact Ev.if_pos (nn0 _) (Ev.if_pos (by omega) (Ev.if_pos (by omega) (Ev.if_pos (by omega) hend)))
      refine Ev.succ ?_
      simp only [lex_Words.l1, hb, plain_eq]
      refine Ev.if_pos hs (Ev.if_pos (nn0 _) (Ev.bind (Ev.now _) ?_))
      by_cases hp : plain c = true
      · refine Ev.if_pos hp (Ev.if_neg ?_ fin)
        intro e
        apply hc
        unfold inw
        rw [hp, Bool.true_and, Bool.not_eq_true', beq_eq_false_iff_ne]
        intro e2
        exact e (by rw [e2]; rfl)
      · exact Ev.if_neg hp fin
theorem words_l0 (x : ByteArray) (hx : x.size ≤ 1125899906842624) : ∀ (n : Nat) (r p : List UInt8) (acc : List W), r.length ≤ n → toL x = p ++ r → acc.length ≤ 4096 → Ev (fun k => lex_Words.l0 k x acc (p.length : Int)) (wordsS acc p.length r) := by
  intro n
  induction n with
  | zero =>
    intro r p acc hr hp _
    have : r = [] := List.eq_nil_of_length_eq_zero (by omega)
    subst this
    rw [List.append_nil] at hp
    have hs := sz_end hp
    refine Ev.succ ?_
    simp only [lex_Words.l0]
    rw [wordsS]
    exact Ev.if_neg (by omega) (Ev.now _)
  | succ n ih =>
    intro r p acc hr hp ha
    cases r with
    | nil =>
      rw [List.append_nil] at hp
      have hs := sz_end hp
      refine Ev.succ ?_
      simp only [lex_Words.l0]
      rw [wordsS]
      exact Ev.if_neg (by omega) (Ev.now _)
    | cons c r =>
      have hb := bt_at hp
      have hs := sz_at hp
      have hrl : r.length ≤ n := by rw [List.length_cons] at hr; omega
      have ew := wr_succ p.length (by omega)
      refine Ev.succ ?_
      simp only [lex_Words.l0, hb, blank_eq, plain_eq]
      rw [wordsS]
      refine Ev.if_pos hs (Ev.if_pos (nn0 _) (Ev.bind (Ev.now _) ?_))
      by_cases h1 : blank c = true
      · rw [if_pos h1]
        refine Ev.if_pos h1 ?_
        rw [ew]
        have := ih r (p ++ [c]) acc hrl (by rw [hp]; simp) ha
        rw [List.length_append, List.length_singleton] at this
        exact this
      · rw [if_neg h1]
        refine Ev.if_neg h1 ?_
        by_cases h2 : c = 35
        · rw [if_pos h2]
          exact Ev.if_pos (by rw [h2]; rfl) (Ev.now _)
        · rw [if_neg h2]
          refine Ev.if_neg (fun e => h2 ((u8_eq c 35 (by decide)).1 e)) (Ev.bind (Ev.now _) ?_)
          by_cases h3 : plain c = true
          · rw [if_pos h3]
            refine Ev.if_pos h3 ?_
            by_cases h4 : acc.length ≥ 4096
            · rw [if_pos h4]
              exact Ev.if_pos (by omega) (Ev.now _)
            · rw [if_neg h4]
              refine Ev.if_neg (by omega) ?_
              have hc : inw c = true := by
                unfold inw
                rw [h3, Bool.true_and, Bool.not_eq_true', beq_eq_false_iff_ne]
                exact h2
              have etw : (c :: r).takeWhile inw = c :: r.takeWhile inw := by rw [List.takeWhile_cons, if_pos hc]
              have hsplit := List.takeWhile_append_dropWhile (p := inw) (l := r)
              have hdl : (r.dropWhile inw).length ≤ n := by
                have := congrArg List.length hsplit
                rw [List.length_append] at this
                omega
              have hnext := ih (r.dropWhile inw) (p ++ (c :: r.takeWhile inw)) (acc ++ [((p.length : Int), 0, ofL (c :: r.takeWhile inw))]) hdl (by rw [hp, List.append_assoc, List.cons_append, hsplit]) (by rw [List.length_append, List.length_singleton]; omega)
              rw [List.length_append] at hnext
              have := words_l1 x acc (by omega) _ hx p (c :: r) [] (by rw [hp]; rfl) (by rw [List.nil_append, etw]; exact hnext)
              exact this
          · rw [if_neg h3]
            exact Ev.if_neg h3 (Ev.now _)
theorem words_ev (x : ByteArray) (hx : x.size ≤ 1125899906842624) : Ev (fun k => lex_Words.f k x) (wordsS [] 0 (toL x)) := words_l0 x hx (toL x).length (toL x) [] [] (Nat.le_refl _) rfl (Nat.zero_le _)
end Go.DI.Th
namespace Go.DI.Th
open Go Go.RowKit Go.DI

theorem lset_at {α : Type} (a : List α) (x : α) (b : List α) (v : α) : (a ++ x :: b).set a.length v = a ++ v :: b := by simp
theorem lgetD_at {α : Type} (a : List α) (x : α) (b : List α) (d : α) : (a ++ x :: b).getD a.length d = x := by simp
def WB (B : Nat) (l : List W) : Prop := ∀ w ∈ l, 0 ≤ w.1 ∧ w.1 ≤ (B : Int)
theorem wordsS_bd (B : Nat) : ∀ (n : Nat) (cs : List UInt8) (acc : List W) (pos : Nat), cs.length ≤ n → WB B acc → pos + cs.length ≤ B → acc.length ≤ 4096 →
    WB B (wordsS acc pos cs).1 ∧ (wordsS acc pos cs).1.length ≤ 4096 ∧ 0 ≤ (wordsS acc pos cs).2.1 ∧ (wordsS acc pos cs).2.1 ≤ (B : Int) := by
  intro n
  induction n with
  | zero =>
    intro cs acc pos hn ha hp hl
    have : cs = [] := List.eq_nil_of_length_eq_zero (by omega)
    subst this
    rw [wordsS]
    exact ⟨ha, hl, Int.le_refl _, Int.natCast_nonneg _⟩
  | succ n ih =>
    intro cs acc pos hn ha hp hl
    have hnil : WB B [] := fun w hw => by cases hw
    cases cs with
    | nil =>
      rw [wordsS]
      exact ⟨ha, hl, Int.le_refl _, Int.natCast_nonneg _⟩
    | cons c r =>
      rw [List.length_cons] at hn hp
      rw [wordsS]
      split
      · exact ih r acc (pos + 1) (by omega) ha (by omega) hl
      · split
        · exact ⟨ha, hl, Int.le_refl _, Int.natCast_nonneg _⟩
        · split
          · split
            · exact ⟨hnil, Nat.zero_le _, Int.natCast_nonneg _, by show (pos : Int) ≤ B; omega⟩
            · have hsplit := congrArg List.length (List.takeWhile_append_dropWhile (p := inw) (l := r))
              rw [List.length_append] at hsplit
              refine ih (r.dropWhile inw) _ _ (by omega) ?_ (by rw [List.length_cons]; omega) (by rw [List.length_append, List.length_singleton]; omega)
              intro w hw
              rcases List.mem_append.1 hw with h | h
              · exact ha w h
              · have : w = ((pos : Int), 0, ofL (c :: r.takeWhile inw)) := by simpa using h
                rw [this]
                exact ⟨Int.natCast_nonneg _, by show (pos : Int) ≤ B; omega⟩
          · exact ⟨hnil, Nat.zero_le _, Int.natCast_nonneg _, by show (pos : Int) ≤ B; omega⟩
def shiftW (n pos : Nat) (w : W) : W := (w.1 + pos, (n : Int), w.2.2)
def nnl (c : UInt8) : Bool := !(c == 10)
/-- The lines of a text from a place on. -/
def linesS (acc : List (List W)) (n pos : Nat) (cs : List UInt8) : List (List W) × Int × Int :=
  if n ≥ 16384 then ([], pos, 16) else
  if (wordsS [] 0 (cs.takeWhile nnl)).2.2 ≠ 0 then ([], pos + (wordsS [] 0 (cs.takeWhile nnl)).2.1, (wordsS [] 0 (cs.takeWhile nnl)).2.2) else
  match h : cs.dropWhile nnl with
  | [] => (if (wordsS [] 0 (cs.takeWhile nnl)).1.length > 0 then acc ++ [(wordsS [] 0 (cs.takeWhile nnl)).1.map (shiftW n pos)] else acc, 0, 0)
  | _ :: r => linesS (if (wordsS [] 0 (cs.takeWhile nnl)).1.length > 0 then acc ++ [(wordsS [] 0 (cs.takeWhile nnl)).1.map (shiftW n pos)] else acc) (n + 1) (pos + (cs.takeWhile nnl).length + 1) r
termination_by cs.length
decreasing_by
  have h1 := congrArg List.length (List.takeWhile_append_dropWhile (p := nnl) (l := cs))
  rw [List.length_append, h, List.length_cons] at h1
  omega
theorem lines_l2 (x : ByteArray) (acc : List (List W)) (ha : acc.length ≤ 16384) (n pos e : Nat) (hn : n ≤ 16384) (hpos : pos ≤ 1048577) (he : e ≤ 1048577) (R : List (List W) × Int × Int) (ws : List W) (hw : WB 1048577 ws) (hwl : ws.length ≤ 4096)
    (hend : Ev (fun k => lex_Lines.l0 k x (if ws.length > 0 then acc ++ [ws.map (shiftW n pos)] else acc) ((n + 1 : Nat) : Int) ((e + 1 : Nat) : Int)) R) :
    ∀ (b a : List W), ws = a ++ b → Ev (fun k => lex_Lines.l2 k x acc (n : Int) (pos : Int) (e : Int) (a.map (shiftW n pos) ++ b) (ws.length : Int) (a.length : Int)) R := by
  intro b
  induction b with
  | nil =>
    intro a hr
    rw [List.append_nil] at hr
    subst hr
    refine Ev.succ ?_
    simp only [lex_Lines.l2]
    rw [List.append_nil, List.length_map, wr_succ n (by omega), wr_succ e (by omega)]
    refine Ev.if_neg (by omega) ?_
    by_cases h0 : ws.length > 0
    · rw [if_pos h0] at hend
      exact Ev.if_pos (by omega) (Ev.if_pos (by omega) hend)
    · rw [if_neg h0] at hend
      exact Ev.if_neg (by omega) hend
  | cons w b ih =>
    intro a hr
    have hih := ih (a ++ [w]) (by rw [hr]; simp)
    have hl : ws.length = a.length + (b.length + 1) := by rw [hr, List.length_append, List.length_cons]
    have hwb := hw w (by rw [hr]; simp)
    have ew : wrap64 (w.1 + (pos : Int)) = w.1 + pos := wrap_id (by omega) (by omega)
    have e1 := lgetD_at (a.map (shiftW n pos)) w b ((0, 0, ByteArray.empty) : W)
    have e2 := lset_at (a.map (shiftW n pos)) w b (w.1 + (pos : Int), w.2.1, w.2.2)
    have e3 := lgetD_at (a.map (shiftW n pos)) ((w.1 + (pos : Int), w.2.1, w.2.2) : W) b ((0, 0, ByteArray.empty) : W)
    have e4 := lset_at (a.map (shiftW n pos)) ((w.1 + (pos : Int), w.2.1, w.2.2) : W) b (w.1 + (pos : Int), (n : Int), w.2.2)
    rw [List.length_map] at e1 e2 e3 e4
    have e5 := wr_at a w (by omega)
    have e6 : (a ++ [w]).map (shiftW n pos) ++ b = a.map (shiftW n pos) ++ (w.1 + (pos : Int), (n : Int), w.2.2) :: b := by
      rw [List.map_append, List.append_assoc]; rfl
    rw [e6] at hih
    have g1 : (a.length : Int) < ((a.map (shiftW n pos) ++ w :: b).length : Int) := by rw [List.length_append, List.length_map, List.length_cons]; omega
    have g2 : (a.length : Int) < ((a.map (shiftW n pos) ++ ((w.1 + (pos : Int), w.2.1, w.2.2) : W) :: b).length : Int) := by rw [List.length_append, List.length_map, List.length_cons]; omega
    refine Ev.succ ?_
    simp only [lex_Lines.l2, Int.toNat_natCast, e1, ew, e2, e3, e4, e5]
    exact Ev.if_pos (by omega) (Ev.if_pos (nn0 _) (Ev.if_pos g1 (Ev.if_pos g2 hih)))
theorem lines_l1 (x : ByteArray) (acc : List (List W)) (ha : acc.length ≤ 16384) (n : Nat) (hn : n ≤ 16384) (R : List (List W) × Int × Int) (hx : x.size ≤ 1048576) (p : List UInt8) : ∀ (r w : List UInt8), toL x = p ++ (w ++ r) →
    ((wordsS [] 0 (w ++ r.takeWhile nnl)).2.2 ≠ 0 → R = ([], (p.length : Int) + (wordsS [] 0 (w ++ r.takeWhile nnl)).2.1, (wordsS [] 0 (w ++ r.takeWhile nnl)).2.2)) →
    (¬ (wordsS [] 0 (w ++ r.takeWhile nnl)).2.2 ≠ 0 → Ev (fun k => lex_Lines.l0 k x (if (wordsS [] 0 (w ++ r.takeWhile nnl)).1.length > 0 then acc ++ [(wordsS [] 0 (w ++ r.takeWhile nnl)).1.map (shiftW n p.length)] else acc) ((n + 1 : Nat) : Int) ((p.length + (w ++ r.takeWhile nnl).length + 1 : Nat) : Int)) R) →
    Ev (fun k => lex_Lines.l1 k x acc (n : Int) (p.length : Int) ((p.length + w.length : Nat) : Int)) R := by
  have fin : ∀ (w r : List UInt8), toL x = p ++ (w ++ r) → ((wordsS [] 0 w).2.2 ≠ 0 → R = ([], (p.length : Int) + (wordsS [] 0 w).2.1, (wordsS [] 0 w).2.2)) →
      (¬ (wordsS [] 0 w).2.2 ≠ 0 → Ev (fun k => lex_Lines.l0 k x (if (wordsS [] 0 w).1.length > 0 then acc ++ [(wordsS [] 0 w).1.map (shiftW n p.length)] else acc) ((n + 1 : Nat) : Int) ((p.length + w.length + 1 : Nat) : Int)) R) →
      Ev (fun k => if 0 ≤ (p.length : Int) then (if (p.length : Int) ≤ ((p.length + w.length : Nat) : Int) then (if ((p.length + w.length : Nat) : Int) ≤ (x.size : Int) then ((lex_Words.f k (x.extract (((p.length : Int)).toNat) ((((p.length + w.length : Nat) : Int)).toNat))).bind fun v14 => (if v14.2.2 ≠ 0 then (some (([] : List (List W)), (wrap64 ((p.length : Int) + v14.2.1)), v14.2.2)) else (lex_Lines.l2 k x acc (n : Int) (p.length : Int) ((p.length + w.length : Nat) : Int) v14.1 (v14.1.length : Int) 0))) else none) else none) else none) R := by
    intro w r hw h1 h2
    have he := ext_at hw
    have hs : x.size = p.length + (w.length + r.length) := by rw [size_toL, hw, List.length_append, List.length_append]
    rw [Int.toNat_natCast, Int.toNat_natCast, he]
    have hwsz : (ofL w).size = w.length := by rw [size_toL, toL_ofL]
    have hb := wordsS_bd 1048577 w.length w [] 0 (Nat.le_refl _) (fun w hw => by cases hw) (by omega) (Nat.zero_le _)
    have hwe := words_ev (ofL w) (by omega)
    rw [toL_ofL] at hwe
    refine Ev.if_pos (nn0 _) (Ev.if_pos (by omega) (Ev.if_pos (by omega) (Ev.bind hwe ?_)))
    by_cases h : (wordsS [] 0 w).2.2 ≠ 0
    · refine Ev.if_pos h ((Ev.now _).of_eq ?_)
      rw [h1 h, wrap_id (by omega) (by omega)]
    · exact Ev.if_neg h (lines_l2 x acc ha n p.length (p.length + w.length) hn (by omega) (by omega) R _ hb.1 hb.2.1 (h2 h) _ [] rfl)
  intro r
  induction r with
  | nil =>
    intro w hw h1 h2
    rw [List.takeWhile_nil, List.append_nil] at h1 h2
    have hs : x.size = p.length + w.length := by rw [size_toL, hw, List.append_nil, List.length_append]
    refine Ev.succ ?_
    simp only [lex_Lines.l1]
    exact Ev.if_neg (by omega) (fin w [] hw h1 h2)
  | cons c r ih =>
    intro w hw h1 h2
    have hw2 : toL x = (p ++ w) ++ c :: r := by rw [hw, List.append_assoc]
    have hb := bt_at hw2
    have hs := sz_at hw2
    rw [List.length_append] at hb hs
    have hsn : p.length + w.length < x.size := by omega
    by_cases hc : nnl c = true
    · rw [List.takeWhile_cons, if_pos hc] at h1 h2
      have e0 : w ++ c :: r.takeWhile nnl = (w ++ [c]) ++ r.takeWhile nnl := by simp
      rw [e0] at h1 h2
      have hih := ih (w ++ [c]) (by rw [hw]; simp) h1 h2
      have ew : wrap64 (((p.length + w.length : Nat) : Int) + 1) = ((p.length + (w ++ [c]).length : Nat) : Int) := by
        rw [wr_succ _ (by omega), List.length_append, List.length_singleton, Nat.add_assoc]
      refine Ev.succ ?_
      simp only [lex_Lines.l1, hb, ew]
      refine Ev.if_pos hs (Ev.if_pos (nn0 _) (Ev.if_pos ?_ hih))
      intro e
      have e2 := (u8_eq c 10 (by decide)).1 e
      rw [e2] at hc
      exact absurd hc (by decide)
    · rw [List.takeWhile_cons, if_neg hc, List.append_nil] at h1 h2
      have hc2 : c = 10 := by
        unfold nnl at hc
        simpa using hc
      refine Ev.succ ?_
      simp only [lex_Lines.l1, hb]
      exact Ev.if_pos hs (Ev.if_pos (nn0 _) (Ev.if_neg (fun h => h (by rw [hc2]; rfl)) (fin w (c :: r) hw h1 h2)))
theorem lines_l0 (x : ByteArray) (hx : x.size ≤ 1048576) : ∀ (m : Nat) (r p : List UInt8) (acc : List (List W)) (n : Nat), r.length ≤ m → toL x = p ++ r → acc.length ≤ n → n ≤ 16384 → Ev (fun k => lex_Lines.l0 k x acc (n : Int) (p.length : Int)) (linesS acc n p.length r) := by
  intro m
  induction m using Nat.strongRecOn with
  | ind m ih =>
    intro r p acc n hr hp ha hn
    have hs : x.size = p.length + r.length := by rw [size_toL, hp, List.length_append]
    rw [linesS]
    refine Ev.succ ?_
    simp only [lex_Lines.l0]
    refine Ev.if_pos (by omega) ?_
    by_cases hn2 : n ≥ 16384
    · rw [if_pos hn2]
      exact Ev.if_pos (by omega) (Ev.now _)
    · rw [if_neg hn2]
      refine Ev.if_neg (by omega) (lines_l1 x acc (by omega) n (by omega) _ hx p r [] (by rw [hp]; rfl) ?_ ?_)
      · intro h
        rw [List.nil_append] at h ⊢
        rw [if_pos h]
      · intro h
        rw [List.nil_append] at h ⊢
        rw [if_neg h]
        have hsplit := List.takeWhile_append_dropWhile (p := nnl) (l := r)
        have hlen := congrArg List.length hsplit
        rw [List.length_append] at hlen
        have hA : (if (wordsS [] 0 (r.takeWhile nnl)).1.length > 0 then acc ++ [(wordsS [] 0 (r.takeWhile nnl)).1.map (shiftW n p.length)] else acc).length ≤ n + 1 := by
          split
          · rw [List.length_append, List.length_singleton]; omega
          · omega
        generalize (if (wordsS [] 0 (r.takeWhile nnl)).1.length > 0 then acc ++ [(wordsS [] 0 (r.takeWhile nnl)).1.map (shiftW n p.length)] else acc) = A at hA ⊢
        split
        · rename_i h0
          rw [h0, List.length_nil] at hlen
          refine Ev.succ ?_
          simp only [lex_Lines.l0]
          exact Ev.if_neg (by omega) (Ev.now _)
        · rename_i c r' h0
          rw [h0, List.length_cons] at hlen
          rw [h0] at hsplit
          have := ih r'.length (by omega) r' (p ++ (r.takeWhile nnl ++ [c])) A (n + 1) (Nat.le_refl _) (by
            have e : (p ++ (r.takeWhile nnl ++ [c])) ++ r' = p ++ (r.takeWhile nnl ++ c :: r') := by simp
            rw [hp, e, hsplit]) hA (by omega)
          rw [List.length_append, List.length_append, List.length_singleton, ← Nat.add_assoc] at this
          exact this
def linesT (x : ByteArray) : List (List W) × Int × Int := if x.size > 1048576 then ([], 0, 6) else linesS [] 0 0 (toL x)
theorem lines_ev (x : ByteArray) : Ev (fun k => lex_Lines.f k x) (linesT x) := by
  unfold lex_Lines.f linesT
  by_cases h : x.size > 1048576
  · rw [if_pos h]
    exact Ev.if_pos (by omega) (Ev.now _)
  · rw [if_neg h]
    exact Ev.if_neg (by omega) (lines_l0 x (by omega) (toL x).length (toL x) [] [] 0 (Nat.le_refl _) rfl (Nat.le_refl _) (by decide))
end Go.DI.Th
namespace Go.DI.Th
open Go Go.RowKit Go.DI

structure St where
  ls : List (List W)
  i : Nat
  j : Nat
  sz : Int
  err : Int
  at_ : Int
abbrev RT := List (List W) × Int × Int × Int × Int × Int
def St.t (s : St) : RT := (s.ls, (s.i : Int), (s.j : Int), s.sz, s.err, s.at_)
abbrev w0 : W := (0, 0, ByteArray.empty)
def St.line (s : St) : List W := s.ls.getD s.i []
structure St.Ok (s : St) : Prop where
  ne : ∀ l ∈ s.ls, l ≠ []
  il : s.i ≤ s.ls.length
  ib : s.i ≤ 1048576
  jl : s.j ≤ s.line.length
  jb : s.j ≤ 1048576
def hereS (s : St) : Int := if s.ls.length ≤ s.i then s.sz else if s.j < s.line.length then (s.line.getD s.j w0).1 else
  wrap64 ((s.line.getD (s.line.length - 1) w0).1 + ((s.line.getD (s.line.length - 1) w0).2.2.size : Int))
def failS (s : St) (e a : Int) : St := if s.err ≠ 0 then s else { s with err := e, at_ := a }
def moreS (s : St) : Prop := s.err = 0 ∧ s.i < s.ls.length ∧ s.j < s.line.length
instance (s : St) : Decidable (moreS s) := by unfold moreS; infer_instance
def wordS (s : St) : ByteArray × St := if s.err ≠ 0 then (ByteArray.empty, s) else if moreS s then ((s.line.getD s.j w0).2.2, { s with j := s.j + 1 }) else (ByteArray.empty, failS s 9 (hereS s))
def placeS (s : St) : Int := if s.err ≠ 0 then 0 else hereS s
def takeS (s : St) (w : ByteArray) : St := if (wordS s).2.err ≠ 0 then (wordS s).2 else if (wordS s).1 ≠ w then failS (wordS s).2 7 (placeS s) else (wordS s).2
def nextS (s : St) : St := if s.err ≠ 0 then s else if moreS s then failS s 10 (hereS s) else if s.ls.length ≤ s.i then failS s 9 s.sz else { s with i := s.i + 1, j := 0 }
def endS (s : St) : St := if s.err ≠ 0 then s else if s.i < s.ls.length then failS s 10 (hereS s) else s
theorem gt_nat {α : Type} (d : α) (l : List α) (n : Nat) : gt d l (n : Int) = l.getD n d := rfl
theorem St.Ok.line_ne {s : St} (h : s.Ok) (hi : s.i < s.ls.length) : s.line.length ≠ 0 := by
  unfold St.line
  intro e
  have e2 := List.eq_nil_of_length_eq_zero e
  refine h.ne _ ?_ e2
  rw [List.getD_eq_getElem?_getD, List.getElem?_eq_getElem hi]
  exact List.getElem_mem hi
theorem here_eq (s : St) (h : s.Ok) (hl : s.line.length ≤ 1048576) : lex_Reader_here.f s.ls s.i s.j s.sz s.err s.at_ = some (hereS s, s.t) := by
  unfold lex_Reader_here.f hereS
  by_cases h1 : s.ls.length ≤ s.i
  · rw [if_pos (by omega), if_pos h1]; rfl
  · have hne := h.line_ne (by omega)
    have e1 : gt [] s.ls (s.i : Int) = s.line := rfl
    rw [if_neg (by omega), if_neg h1, if_pos (nn0 _), if_pos (by omega), e1]
    by_cases h2 : s.j < s.line.length
    · rw [if_pos (by omega), if_pos h2, if_pos (nn0 _), gt_nat]; rfl
    · have ew : wrap64 ((s.line.length : Int) - 1) = ((s.line.length - 1 : Nat) : Int) := by
        rw [wrap_id (by omega) (by omega)]; omega
      rw [if_neg (by omega), if_neg h2, ew, if_pos (nn0 _), if_pos (by omega), gt_nat]; rfl
theorem off_eq (s : St) : lex_Reader_off.f s.ls s.i s.j s.sz s.err s.at_ = some ((s.err != 0), s.t) := rfl
theorem place_eq (s : St) (h : s.Ok) (hl : s.line.length ≤ 1048576) : lex_Reader_place.f s.ls s.i s.j s.sz s.err s.at_ = some (placeS s, s.t) := by
  unfold lex_Reader_place.f placeS
  rw [off_eq]
  show (if (s.err != 0) = true then some (0, s.t) else (lex_Reader_here.f s.ls s.i s.j s.sz s.err s.at_).bind fun v4 => some v4) = _
  by_cases he : s.err ≠ 0
  · rw [if_pos (by simpa using he), if_pos he]
  · rw [if_neg (by simpa using he), if_neg he, here_eq s h hl]; rfl
theorem fail_eq (s : St) (e a : Int) : lex_Reader_fail.f s.ls s.i s.j s.sz s.err s.at_ e a = some (failS s e a).t := by
  unfold lex_Reader_fail.f failS
  rw [off_eq]
  show (if (s.err != 0) = true then some s.t else some (s.ls, (s.i : Int), (s.j : Int), s.sz, e, a)) = _
  by_cases he : s.err ≠ 0
  · rw [if_pos (by simpa using he), if_pos he]
  · rw [if_neg (by simpa using he), if_neg he]; rfl
theorem more_eq (s : St) : lex_Reader_More.f s.ls s.i s.j s.sz s.err s.at_ = some (decide (moreS s), s.t) := by
  unfold lex_Reader_More.f moreS
  rw [off_eq]
  show (if (s.err != 0) = true then some (false, s.t) else if (s.i : Int) < (s.ls.length : Int) then (if 0 ≤ (s.i : Int) then some ((decide ((s.j : Int) < (s.line.length : Int))), s.t) else none) else some (false, s.t)) = _
  by_cases he : s.err ≠ 0
  · rw [if_pos (by simpa using he)]
    have : decide (s.err = 0 ∧ s.i < s.ls.length ∧ s.j < s.line.length) = false := by
      rw [decide_eq_false_iff_not]; exact fun h => he h.1
    rw [this]
  · rw [if_neg (by simpa using he)]
    by_cases h1 : s.i < s.ls.length
    · rw [if_pos (by omega), if_pos (nn0 _)]
      have : decide (s.err = 0 ∧ s.i < s.ls.length ∧ s.j < s.line.length) = decide ((s.j : Int) < (s.line.length : Int)) := by
        rw [decide_eq_decide]
        exact ⟨fun h => by omega, fun h => ⟨by omega, h1, by omega⟩⟩
      rw [this]
    · rw [if_neg (by omega)]
      have : decide (s.err = 0 ∧ s.i < s.ls.length ∧ s.j < s.line.length) = false := by
        rw [decide_eq_false_iff_not]; exact fun h => h1 h.2.1
      rw [this]
theorem word_eq (s : St) (h : s.Ok) (hl : s.line.length ≤ 1048576) : lex_Reader_Word.f s.ls s.i s.j s.sz s.err s.at_ = some ((wordS s).1, (wordS s).2.t) := by
  unfold lex_Reader_Word.f wordS
  rw [off_eq]
  by_cases he : s.err ≠ 0
  · rw [if_pos he]
    show (if (s.err != 0) = true then some (ByteArray.empty, s.t) else _) = _
    rw [if_pos (by simpa using he)]
  · rw [if_neg he]
    show (if (s.err != 0) = true then some (ByteArray.empty, s.t) else ((lex_Reader_More.f s.ls s.i s.j s.sz s.err s.at_).bind _)) = _
    rw [if_neg (by simpa using he), more_eq]
    have hj := h.jb
    have ew1 : wrap64 ((s.j : Int) + 1) = ((s.j + 1 : Nat) : Int) := wr_succ _ (by omega)
    have ew2 : wrap64 (((s.j + 1 : Nat) : Int) - 1) = (s.j : Int) := by rw [wrap_id (by omega) (by omega)]; omega
    show (if decide (moreS s) = true then (if 0 ≤ (s.i : Int) then (if (s.i : Int) < (s.ls.length : Int) then (if 0 ≤ (wrap64 ((wrap64 ((s.j : Int) + 1)) - 1)) then (if (wrap64 ((wrap64 ((s.j : Int) + 1)) - 1)) < (s.line.length : Int) then (some ((gt (0, 0, ByteArray.empty) s.line (wrap64 ((wrap64 ((s.j : Int) + 1)) - 1))).2.2, s.ls, (s.i : Int), (wrap64 ((s.j : Int) + 1)), s.sz, s.err, s.at_)) else none) else none) else none) else none) else ((lex_Reader_here.f s.ls s.i s.j s.sz s.err s.at_).bind fun v8 => ((lex_Reader_fail.f v8.2.1 v8.2.2.1 v8.2.2.2.1 v8.2.2.2.2.1 v8.2.2.2.2.2.1 v8.2.2.2.2.2.2 9 v8.1).bind fun v9 => (some (ByteArray.empty, v9.1, v9.2.1, v9.2.2.1, v9.2.2.2.1, v9.2.2.2.2.1, v9.2.2.2.2.2))))) = _
    rw [ew1, ew2]
    by_cases hm : moreS s
    · have hm1 := hm.2.1
      have hm2 := hm.2.2
      rw [if_pos (decide_eq_true hm), if_pos hm, if_pos (nn0 _), if_pos (by omega), if_pos (nn0 _), if_pos (by omega), gt_nat]
      rfl
    · rw [if_neg (by simpa using hm), if_neg hm, here_eq s h hl]
      show ((lex_Reader_fail.f s.ls s.i s.j s.sz s.err s.at_ 9 (hereS s)).bind fun v9 => (some (ByteArray.empty, v9))) = _
      rw [fail_eq]
      rfl
theorem failS_ok {s : St} (h : s.Ok) (e a : Int) : (failS s e a).Ok := by
  unfold failS
  split
  · exact h
  · exact ⟨h.ne, h.il, h.ib, h.jl, h.jb⟩
theorem wordS_ok {s : St} (h : s.Ok) (hl : s.line.length ≤ 1048576) : (wordS s).2.Ok := by
  unfold wordS
  split
  · exact h
  · split
    · rename_i hm
      have hm2 := hm.2.2
      exact ⟨h.ne, h.il, h.ib, hm2, Nat.le_trans hm2 hl⟩
    · exact failS_ok h _ _
theorem failS_ls (s : St) (e a : Int) : (failS s e a).ls = s.ls := by unfold failS; split <;> rfl
theorem failS_i (s : St) (e a : Int) : (failS s e a).i = s.i := by unfold failS; split <;> rfl
theorem wordS_ls (s : St) : (wordS s).2.ls = s.ls := by unfold wordS; split; rfl; split; rfl; exact failS_ls _ _ _
theorem wordS_i (s : St) : (wordS s).2.i = s.i := by unfold wordS; split; rfl; split; rfl; exact failS_i _ _ _
theorem line_of {s t : St} (h1 : s.ls = t.ls) (h2 : s.i = t.i) : s.line = t.line := by unfold St.line; rw [h1, h2]
theorem take_eq (s : St) (w : ByteArray) (h : s.Ok) (hl : s.line.length ≤ 1048576) : lex_Reader_Take.f s.ls s.i s.j s.sz s.err s.at_ w = some (takeS s w).t := by
  unfold lex_Reader_Take.f takeS
  rw [place_eq s h hl]
  show ((lex_Reader_Word.f s.ls s.i s.j s.sz s.err s.at_).bind _) = _
  rw [word_eq s h hl]
  have h2 := wordS_ok h hl
  generalize wordS s = p at h2 ⊢
  obtain ⟨v, s2⟩ := p
  show (if (s2.err != 0) = true then some s2.t else if v ≠ w then ((lex_Reader_fail.f s2.ls s2.i s2.j s2.sz s2.err s2.at_ 7 (placeS s)).bind fun v16 => some v16) else some s2.t) = some (if s2.err ≠ 0 then s2 else if v ≠ w then failS s2 7 (placeS s) else s2).t
  by_cases he : s2.err ≠ 0
  · rw [if_pos (by simpa using he), if_pos he]
  · rw [if_neg (by simpa using he), if_neg he]
    by_cases hv : v ≠ w
    · rw [if_pos hv, if_pos hv, fail_eq]; rfl
    · rw [if_neg hv, if_neg hv]
theorem takeS_ok {s : St} {w : ByteArray} (h : s.Ok) (hl : s.line.length ≤ 1048576) : (takeS s w).Ok := by
  have h2 := wordS_ok h hl
  unfold takeS
  split
  · exact h2
  · split
    · exact failS_ok h2 _ _
    · exact h2
theorem next_eq (s : St) (h : s.Ok) (hl : s.line.length ≤ 1048576) : lex_Reader_Next.f s.ls s.i s.j s.sz s.err s.at_ = some (nextS s).t := by
  unfold lex_Reader_Next.f nextS
  rw [off_eq]
  show (if (s.err != 0) = true then some s.t else ((lex_Reader_More.f s.ls s.i s.j s.sz s.err s.at_).bind _)) = _
  by_cases he : s.err ≠ 0
  · rw [if_pos (by simpa using he), if_pos he]
  · rw [if_neg (by simpa using he), if_neg he, more_eq]
    show (if decide (moreS s) = true then ((lex_Reader_here.f s.ls s.i s.j s.sz s.err s.at_).bind fun v6 => ((lex_Reader_fail.f v6.2.1 v6.2.2.1 v6.2.2.2.1 v6.2.2.2.2.1 v6.2.2.2.2.2.1 v6.2.2.2.2.2.2 10 v6.1).bind fun v7 => some v7)) else (if (s.i : Int) ≥ (s.ls.length : Int) then ((lex_Reader_fail.f s.ls s.i s.j s.sz s.err s.at_ 9 s.sz).bind fun v19 => some v19) else (some (s.ls, (wrap64 ((s.i : Int) + 1)), 0, s.sz, s.err, s.at_)))) = _
    by_cases hm : moreS s
    · rw [if_pos (decide_eq_true hm), if_pos hm, here_eq s h hl]
      show ((lex_Reader_fail.f s.ls s.i s.j s.sz s.err s.at_ 10 (hereS s)).bind fun v7 => some v7) = _
      rw [fail_eq]; rfl
    · rw [if_neg (by simpa using hm), if_neg hm]
      have hib := h.ib
      by_cases hi : s.ls.length ≤ s.i
      · rw [if_pos (by omega), if_pos hi, fail_eq]; rfl
      · rw [if_neg (by omega), if_neg hi, wr_succ _ (by omega)]; rfl
theorem nextS_ok {s : St} (h : s.Ok) (hn : s.ls.length ≤ 1048576) : (nextS s).Ok := by
  unfold nextS
  split
  · exact h
  · split
    · exact failS_ok h _ _
    · split
      · exact failS_ok h _ _
      · rename_i hi
        exact ⟨h.ne, by show s.i + 1 ≤ s.ls.length; omega, by show s.i + 1 ≤ _; omega, Nat.zero_le _, Nat.zero_le _⟩
theorem end_eq (s : St) (h : s.Ok) (hl : s.line.length ≤ 1048576) : lex_Reader_End.f s.ls s.i s.j s.sz s.err s.at_ = some (endS s).t := by
  unfold lex_Reader_End.f endS
  rw [off_eq]
  show (if (s.err != 0) = true then some s.t else (if (s.i : Int) < (s.ls.length : Int) then ((lex_Reader_here.f s.ls s.i s.j s.sz s.err s.at_).bind fun v17 => ((lex_Reader_fail.f v17.2.1 v17.2.2.1 v17.2.2.2.1 v17.2.2.2.2.1 v17.2.2.2.2.2.1 v17.2.2.2.2.2.2 10 v17.1).bind fun v18 => some v18)) else some s.t)) = _
  by_cases he : s.err ≠ 0
  · rw [if_pos (by simpa using he), if_pos he]
  · rw [if_neg (by simpa using he), if_neg he]
    by_cases hi : s.i < s.ls.length
    · rw [if_pos (by omega), if_pos hi, here_eq s h hl]
      show ((lex_Reader_fail.f s.ls s.i s.j s.sz s.err s.at_ 10 (hereS s)).bind fun v7 => some v7) = _
      rw [fail_eq]; rfl
    · rw [if_neg (by omega), if_neg hi]
theorem endS_ok {s : St} (h : s.Ok) : (endS s).Ok := by
  unfold endS
  split
  · exact h
  · split
    · exact failS_ok h _ _
    · exact h
end Go.DI.Th
namespace Go.DI.Th
open Go Go.RowKit Go.DI

def smallL : Nat → List UInt8 → Option Nat
  | acc, [] => some acc
  | acc, c :: r => if c.toNat < 48 ∨ 57 < c.toNat then none else smallL (min (10 * acc + (c.toNat - 48)) 1000000000) r
def smallS (l : List UInt8) : Option Nat := if l = [] then none else if 1 < l.length ∧ l.head? = some 48 then none else smallL 0 l
def optB (o : Option Nat) : Int × Bool := match o with
  | some n => ((n : Int), true)
  | none => (0, false)
theorem toBytes_toL (x : ByteArray) : toBytes x = (toL x).map fun b => (b.toNat : Int) := rfl
theorem small_l0 (l : List UInt8) (hl : l.length ≤ 1125899906842624) : ∀ (b a : List UInt8) (acc : Nat), l = a ++ b → acc ≤ 1000000000 →
    Ev (fun k => lex_small.l0 k (acc : Int) (l.map fun b => (b.toNat : Int)) (l.length : Int) (a.length : Int)) (optB (smallL acc b)) := by
  intro b
  induction b with
  | nil =>
    intro a acc hr ha
    rw [List.append_nil] at hr
    refine Ev.succ ?_
    simp only [lex_small.l0]
    exact Ev.if_neg (by rw [hr]; omega) (Ev.now _)
  | cons c b ih =>
    intro a acc hr ha
    have hlen : l.length = a.length + (b.length + 1) := by rw [hr, List.length_append, List.length_cons]
    have e1 : rd (l.map fun b => (b.toNat : Int)) (a.length : Int) = (c.toNat : Int) := by
      rw [rd_nat, hr, List.map_append, List.map_cons]
      have := lgetD_at (a.map fun b => (b.toNat : Int)) (c.toNat : Int) (b.map fun b => (b.toNat : Int)) 0
      rw [List.length_map] at this
      exact this
    have ew : wrap64 ((a.length : Int) + 1) = ((a ++ [c]).length : Int) := by rw [wr_succ _ (by omega), List.length_append, List.length_singleton]
    refine Ev.succ ?_
    simp only [lex_small.l0, e1, ew]
    refine Ev.if_pos (by omega) (Ev.if_pos (nn0 _) (Ev.if_pos (by rw [List.length_map]; omega) ?_))
    rw [smallL]
    by_cases h1 : c.toNat < 48
    · rw [if_pos (Or.inl h1)]
      exact Ev.if_pos (by omega) (Ev.now _)
    · refine Ev.if_neg (by omega) ?_
      by_cases h2 : 57 < c.toNat
      · rw [if_pos (Or.inr h2)]
        exact Ev.if_pos (by omega) (Ev.now _)
      · rw [if_neg (by omega)]
        refine Ev.if_neg (by omega) ?_
        have e2 : wrap64 (wrap64 (10 * (acc : Int)) + wrap64 (IntKind.u8.wrap ((c.toNat : Int) - 48))) = ((10 * acc + (c.toNat - 48) : Nat) : Int) := by
          have e3 : IntKind.u8.wrap ((c.toNat : Int) - 48) = ((c.toNat - 48 : Nat) : Int) := by
            rw [IntKind.wrap_u8, Int.emod_eq_of_lt (by omega) (by omega)]; omega
          rw [e3, wrap_id (i := 10 * (acc : Int)) (by omega) (by omega), wrap_id (i := ((c.toNat - 48 : Nat) : Int)) (by omega) (by omega), wrap_id (by omega) (by omega)]
          omega
        rw [e2]
        by_cases h3 : 1000000000 < 10 * acc + (c.toNat - 48)
        · rw [Nat.min_eq_right (by omega)]
          exact Ev.if_pos (by omega) (ih (a ++ [c]) 1000000000 (by rw [hr]; simp) (Nat.le_refl _))
        · rw [Nat.min_eq_left (by omega)]
          exact Ev.if_neg (by omega) (ih (a ++ [c]) _ (by rw [hr]; simp) (by omega))
theorem lsmall_ev (x : ByteArray) (hx : x.size ≤ 140737488355328) : Ev (fun k => lex_small.f k x) (optB (smallS (toL x))) := by
  unfold lex_small.f smallS
  have hs := size_toL x
  by_cases h0 : x = ByteArray.empty
  · rw [if_pos (by rw [h0]; rfl)]
    exact Ev.if_pos h0 (Ev.now _)
  · have h1 : toL x ≠ [] := fun e => h0 (toL_inj e)
    rw [if_neg h1]
    refine Ev.if_neg h0 ?_
    have fin : Ev (fun k => if x.size ≤ lim then (lex_small.l0 k 0 (toBytes x) ((toBytes x).length : Int) 0) else none) (optB (smallL 0 (toL x))) := by
      have := small_l0 (toL x) (by omega) (toL x) [] 0 rfl (Nat.zero_le _)
      rw [toBytes_toL, List.length_map]
      exact Ev.if_pos hx this
    cases hl : toL x with
    | nil => exact absurd hl h1
    | cons c r =>
      have hb := bt_at (p := []) hl
      rw [hl] at fin
      rw [hl, List.length_cons] at hs
      by_cases h2 : 0 < r.length
      · refine Ev.if_pos (by omega) (Ev.if_pos (by omega) ?_)
        have hb2 : bt x 0 = (c.toNat : Int) := hb
        rw [hb2]
        by_cases h3 : c = 48
        · rw [if_pos ⟨by rw [List.length_cons]; omega, by rw [h3]; rfl⟩]
          exact Ev.if_pos (by rw [h3]; rfl) (Ev.now _)
        · rw [if_neg (fun h => h3 (by have := h.2; simpa using this))]
          exact Ev.if_neg (fun e => h3 ((u8_eq c 48 (by decide)).1 e)) fin
      · rw [if_neg (fun h => h2 (by have := h.1; rw [List.length_cons] at this; omega))]
        exact Ev.if_neg (by omega) fin
def countS (s : St) (lo hi : Int) : Int × St := if (wordS s).2.err ≠ 0 then (0, (wordS s).2) else match smallS (toL (wordS s).1) with
  | some n => if (n : Int) < lo then (0, failS (wordS s).2 16 (placeS s)) else if (n : Int) > hi then (0, failS (wordS s).2 16 (placeS s)) else ((n : Int), (wordS s).2)
  | none => (0, failS (wordS s).2 4 (placeS s))
/-- A reader's state that can be. -/
structure St.Good (s : St) : Prop where
  ok : s.Ok
  ll : ∀ l ∈ s.ls, l.length ≤ 4096
  lss : s.ls.length ≤ 16384
  ws : ∀ l ∈ s.ls, ∀ w ∈ l, w.2.2.size ≤ 1048576
theorem St.Good.line {s : St} (h : s.Good) : s.line.length ≤ 4096 := by
  unfold St.line
  rw [List.getD_eq_getElem?_getD]
  cases e : s.ls[s.i]? with
  | none => exact Nat.zero_le _
  | some l => exact h.ll l (List.mem_of_getElem? e)
theorem St.Good.l1 {s : St} (h : s.Good) : s.line.length ≤ 1048576 := Nat.le_trans h.line (by decide)
theorem St.Good.of {s t : St} (h : s.Good) (ho : t.Ok) (e : t.ls = s.ls) : t.Good := ⟨ho, by rw [e]; exact h.ll, by rw [e]; exact h.lss, by rw [e]; exact h.ws⟩
theorem failS_good {s : St} (h : s.Good) (e a : Int) : (failS s e a).Good := h.of (failS_ok h.ok e a) (failS_ls s e a)
theorem wordS_good {s : St} (h : s.Good) : (wordS s).2.Good := h.of (wordS_ok h.ok h.l1) (wordS_ls s)
theorem takeS_good {s : St} (h : s.Good) (w : ByteArray) : (takeS s w).Good := by
  have h2 := wordS_good h
  unfold takeS
  split
  · exact h2
  · split
    · exact failS_good h2 _ _
    · exact h2
theorem countS_good {s : St} (h : s.Good) (lo hi : Int) : (countS s lo hi).2.Good := by
  have h2 := wordS_good h
  unfold countS
  split
  · exact h2
  · split
    · split
      · exact failS_good h2 _ _
      · split
        · exact failS_good h2 _ _
        · exact h2
    · exact failS_good h2 _ _
theorem nextS_ls (s : St) : (nextS s).ls = s.ls := by
  unfold nextS
  split
  · rfl
  · split
    · exact failS_ls _ _ _
    · split
      · exact failS_ls _ _ _
      · rfl
theorem nextS_good {s : St} (h : s.Good) : (nextS s).Good := h.of (nextS_ok h.ok (Nat.le_trans h.lss (by decide))) (nextS_ls s)
theorem endS_good {s : St} (h : s.Good) : (endS s).Good := by
  unfold endS
  split
  · exact h
  · split
    · exact failS_good h _ _
    · exact h
theorem wordS_size {s : St} (h : s.Good) : (wordS s).1.size ≤ 1048576 := by
  unfold wordS
  split
  · exact Nat.zero_le _
  · split
    · rename_i hm
      have hi := hm.2.1
      have hj := hm.2.2
      have hml : s.line ∈ s.ls := by
        unfold St.line
        rw [List.getD_eq_getElem?_getD, List.getElem?_eq_getElem hi]
        exact List.getElem_mem hi
      refine h.ws s.line hml _ ?_
      rw [List.getD_eq_getElem?_getD, List.getElem?_eq_getElem hj]
      exact List.getElem_mem hj
    · exact Nat.zero_le _
theorem count_ev (s : St) (h : s.Good) (lo hi : Int) : Ev (fun k => lex_Reader_Count.f k s.ls s.i s.j s.sz s.err s.at_ lo hi) ((countS s lo hi).1, (countS s lo hi).2.t) := by
  unfold lex_Reader_Count.f countS
  rw [place_eq s h.ok h.l1]
  show Ev (fun k => (lex_Reader_Word.f s.ls s.i s.j s.sz s.err s.at_).bind _) _
  rw [word_eq s h.ok h.l1]
  have h2 := wordS_good h
  have h3 := wordS_size h
  generalize wordS s = p at h2 h3 ⊢
  obtain ⟨v, s2⟩ := p
  have h3 : v.size ≤ 1048576 := h3
  have hsm := lsmall_ev v (by omega)
  show Ev (fun k => if (s2.err != 0) = true then some (0, s2.t) else ((lex_small.f k v).bind fun v10 => (if v10.2 = true then (if v10.1 < lo then ((lex_Reader_fail.f s2.ls s2.i s2.j s2.sz s2.err s2.at_ 16 (placeS s)).bind fun v30 => (some (0, v30))) else (if v10.1 > hi then ((lex_Reader_fail.f s2.ls s2.i s2.j s2.sz s2.err s2.at_ 16 (placeS s)).bind fun v30 => (some (0, v30))) else (some (v10.1, s2.t)))) else ((lex_Reader_fail.f s2.ls s2.i s2.j s2.sz s2.err s2.at_ 4 (placeS s)).bind fun v21 => (some (0, v21)))))) _
  simp only [fail_eq]
  by_cases he : s2.err ≠ 0
  · rw [if_pos he]
    exact Ev.if_pos (by simpa using he) (Ev.now _)
  · rw [if_neg he]
    refine Ev.if_neg (by simpa using he) (Ev.bind hsm ?_)
    cases hv : smallS (toL v) with
    | none => exact Ev.if_neg (by simp [optB]) (Ev.now _)
    | some n =>
      refine Ev.if_pos rfl ?_
      by_cases h5 : (n : Int) < lo
      · simp only [if_pos h5]
        exact Ev.if_pos h5 (Ev.now _)
      · simp only [if_neg h5]
        refine Ev.if_neg h5 ?_
        by_cases h6 : (n : Int) > hi
        · simp only [if_pos h6]
          exact Ev.if_pos h6 (Ev.now _)
        · simp only [if_neg h6]
          exact Ev.if_neg h6 (Ev.now _)
end Go.DI.Th
namespace Go.DI.Th
open Go Go.RowKit Go.DI

def WZ (B : Nat) (l : List W) : Prop := ∀ w ∈ l, w.2.2.size ≤ B
theorem wordsS_sz (B : Nat) : ∀ (n : Nat) (cs : List UInt8) (acc : List W) (pos : Nat), cs.length ≤ n → cs.length ≤ B → WZ B acc → WZ B (wordsS acc pos cs).1 := by
  intro n
  induction n with
  | zero =>
    intro cs acc pos hn _ ha
    have : cs = [] := List.eq_nil_of_length_eq_zero (by omega)
    subst this
    rw [wordsS]
    exact ha
  | succ n ih =>
    intro cs acc pos hn hB ha
    have hnil : WZ B [] := fun w hw => by cases hw
    cases cs with
    | nil => rw [wordsS]; exact ha
    | cons c r =>
      rw [List.length_cons] at hn hB
      rw [wordsS]
      split
      · exact ih r acc (pos + 1) (by omega) (by omega) ha
      · split
        · exact ha
        · split
          · split
            · exact hnil
            · have hsplit := congrArg List.length (List.takeWhile_append_dropWhile (p := inw) (l := r))
              rw [List.length_append] at hsplit
              refine ih (r.dropWhile inw) _ _ (by omega) (by omega) ?_
              intro w hw
              rcases List.mem_append.1 hw with h | h
              · exact ha w h
              · have : w = ((pos : Int), 0, ofL (c :: r.takeWhile inw)) := by simpa using h
                rw [this]
                show (ofL (c :: r.takeWhile inw)).size ≤ B
                rw [size_toL, toL_ofL, List.length_cons]
                omega
          · exact hnil
structure LsOk (ls : List (List W)) : Prop where
  ne : ∀ l ∈ ls, l ≠ []
  ll : ∀ l ∈ ls, l.length ≤ 4096
  ws : ∀ l ∈ ls, ∀ w ∈ l, w.2.2.size ≤ 1048576
theorem linesS_ok : ∀ (m : Nat) (cs : List UInt8) (acc : List (List W)) (n pos : Nat), cs.length ≤ m → cs.length ≤ 1048576 → LsOk acc → acc.length ≤ n → n ≤ 16384 → LsOk (linesS acc n pos cs).1 ∧ (linesS acc n pos cs).1.length ≤ 16384 := by
  have hnil : LsOk [] := ⟨fun l hl => (by cases hl), fun l hl => (by cases hl), fun l hl => (by cases hl)⟩
  intro m
  induction m using Nat.strongRecOn with
  | ind m ih =>
    intro cs acc n pos hm hB ha hl hn
    rw [linesS]
    split
    · exact ⟨hnil, Nat.zero_le _⟩
    · split
      · exact ⟨hnil, Nat.zero_le _⟩
      · rename_i hn2 _
        have hlen := congrArg List.length (List.takeWhile_append_dropWhile (p := nnl) (l := cs))
        rw [List.length_append] at hlen
        have h1 := wordsS_bd 1048576 (cs.takeWhile nnl).length (cs.takeWhile nnl) [] 0 (Nat.le_refl _) (fun w hw => by cases hw) (by omega) (Nat.zero_le _)
        have h2 := wordsS_sz 1048576 (cs.takeWhile nnl).length (cs.takeWhile nnl) [] 0 (Nat.le_refl _) (by omega) (fun w hw => by cases hw)
        have hA : LsOk (if (wordsS [] 0 (cs.takeWhile nnl)).1.length > 0 then acc ++ [(wordsS [] 0 (cs.takeWhile nnl)).1.map (shiftW n pos)] else acc) ∧ (if (wordsS [] 0 (cs.takeWhile nnl)).1.length > 0 then acc ++ [(wordsS [] 0 (cs.takeWhile nnl)).1.map (shiftW n pos)] else acc).length ≤ n + 1 := by
          split
          · rename_i h0
            constructor
            · refine ⟨?_, ?_, ?_⟩
              · intro l hlm
                rcases List.mem_append.1 hlm with h | h
                · exact ha.ne l h
                · have : l = (wordsS [] 0 (cs.takeWhile nnl)).1.map (shiftW n pos) := by simpa using h
                  rw [this]
                  intro e
                  have := congrArg List.length e
                  rw [List.length_map, List.length_nil] at this
                  omega
              · intro l hlm
                rcases List.mem_append.1 hlm with h | h
                · exact ha.ll l h
                · have : l = (wordsS [] 0 (cs.takeWhile nnl)).1.map (shiftW n pos) := by simpa using h
                  rw [this, List.length_map]
                  exact h1.2.1
              · intro l hlm
                rcases List.mem_append.1 hlm with h | h
                · exact ha.ws l h
                · have : l = (wordsS [] 0 (cs.takeWhile nnl)).1.map (shiftW n pos) := by simpa using h
                  rw [this]
                  intro w hw
                  obtain ⟨v, hv, rfl⟩ := List.mem_map.1 hw
                  exact h2 v hv
            · rw [List.length_append, List.length_singleton]; omega
          · exact ⟨ha, by omega⟩
        generalize (if (wordsS [] 0 (cs.takeWhile nnl)).1.length > 0 then acc ++ [(wordsS [] 0 (cs.takeWhile nnl)).1.map (shiftW n pos)] else acc) = A at hA ⊢
        split
        · exact ⟨hA.1, by show A.length ≤ 16384; omega⟩
        · rename_i c r h0
          rw [h0, List.length_cons] at hlen
          exact ih r.length (by omega) r A (n + 1) _ (Nat.le_refl _) (by omega) hA.1 hA.2 (by omega)
theorem linesT_ok (x : ByteArray) : LsOk (linesT x).1 ∧ (linesT x).1.length ≤ 16384 := by
  have hnil : LsOk [] := ⟨fun l hl => (by cases hl), fun l hl => (by cases hl), fun l hl => (by cases hl)⟩
  unfold linesT
  split
  · exact ⟨hnil, Nat.zero_le _⟩
  · exact linesS_ok _ _ _ _ _ (Nat.le_refl _) (by rw [← size_toL]; omega) hnil (Nat.le_refl _) (by decide)
def readS (x : ByteArray) : St := ⟨(linesT x).1, 0, 0, (x.size : Int), (linesT x).2.2, (linesT x).2.1⟩
theorem readS_good (x : ByteArray) : (readS x).Good := by
  have h := linesT_ok x
  exact ⟨⟨h.1.ne, Nat.zero_le _, Nat.zero_le _, Nat.zero_le _, Nat.zero_le _⟩, h.1.ll, h.2, h.1.ws⟩
theorem read_ev (x : ByteArray) : Ev (fun k => lex_Read.f k x) (readS x).t := by
  unfold lex_Read.f
  exact Ev.bind (lines_ev x) (Ev.now _)
/-! ### words with one blank between them -/
def joinW : List (List UInt8) → List UInt8
  | [] => []
  | [w] => w
  | w :: v :: l => w ++ 32 :: joinW (v :: l)
def WdOk (w : List UInt8) : Prop := w ≠ [] ∧ ∀ c ∈ w, inw c = true
def placed : Nat → List (List UInt8) → List W
  | _, [] => []
  | pos, w :: l => ((pos : Int), 0, ofL w) :: placed (pos + w.length + 1) l
theorem placed_length : ∀ (pos : Nat) (l : List (List UInt8)), (placed pos l).length = l.length
  | _, [] => rfl
  | pos, w :: l => by rw [placed, List.length_cons, List.length_cons, placed_length]
theorem inw_props {c : UInt8} (h : inw c = true) : blank c = false ∧ c ≠ 35 ∧ plain c = true ∧ nnl c = true := by
  unfold inw at h
  rw [Bool.and_eq_true] at h
  obtain ⟨h1, h2⟩ := h
  have h3 : 32 < c.toNat ∧ c.toNat < 127 := by
    unfold plain at h1
    exact of_decide_eq_true h1
  refine ⟨?_, by simpa using h2, h1, ?_⟩
  · unfold blank
    have n1 : c ≠ 32 := fun e => by rw [e] at h3; exact absurd h3.1 (by decide)
    have n2 : c ≠ 9 := fun e => by rw [e] at h3; exact absurd h3.1 (by decide)
    have n3 : c ≠ 13 := fun e => by rw [e] at h3; exact absurd h3.1 (by decide)
    simp [n1, n2, n3]
  · unfold nnl
    have n1 : c ≠ 10 := fun e => by rw [e] at h3; exact absurd h3.1 (by decide)
    simp [n1]
theorem takeWhile_word (p : UInt8 → Bool) (w : List UInt8) (r : List UInt8) (hw : ∀ c ∈ w, p c = true) (hr : ∀ c, r.head? = some c → p c = false) : (w ++ r).takeWhile p = w ∧ (w ++ r).dropWhile p = r := by
  induction w with
  | nil =>
    cases r with
    | nil => exact ⟨rfl, rfl⟩
    | cons c r =>
      have := hr c rfl
      rw [List.nil_append, List.takeWhile_cons, List.dropWhile_cons, this]
      exact ⟨rfl, rfl⟩
  | cons c w ih =>
    have h1 := hw c List.mem_cons_self
    have h2 := ih fun d hd => hw d (List.mem_cons_of_mem _ hd)
    rw [List.cons_append, List.takeWhile_cons, List.dropWhile_cons, h1, if_pos rfl, if_pos rfl, h2.1, h2.2]
    exact ⟨rfl, rfl⟩
theorem wordsS_word (acc : List W) (pos : Nat) (w r : List UInt8) (hw : WdOk w) (hr : ∀ c, r.head? = some c → inw c = false) (ha : acc.length < 4096) : wordsS acc pos (w ++ r) = wordsS (acc ++ [((pos : Int), 0, ofL w)]) (pos + w.length) r := by
  obtain ⟨h0, h1⟩ := hw
  cases w with
  | nil => exact absurd rfl h0
  | cons c w =>
    have hc := inw_props (h1 c List.mem_cons_self)
    have ht := takeWhile_word inw w r (fun d hd => h1 d (List.mem_cons_of_mem _ hd)) hr
    rw [List.cons_append, wordsS, if_neg (by rw [hc.1]; decide), if_neg hc.2.1, if_pos hc.2.2.1, if_neg (by omega), ht.1, ht.2]
theorem wordsS_join : ∀ (ws : List (List UInt8)) (acc : List W) (pos : Nat), (∀ w ∈ ws, WdOk w) → acc.length + ws.length ≤ 4096 → wordsS acc pos (joinW ws) = (acc ++ placed pos ws, 0, 0)
  | [], acc, pos, _, _ => by rw [joinW, wordsS, placed, List.append_nil]
  | [w], acc, pos, h, hl => by
    rw [List.length_singleton] at hl
    have := wordsS_word acc pos w [] (h w List.mem_cons_self) (fun c hc => by simp at hc) (by omega)
    rw [List.append_nil] at this
    rw [joinW, this, wordsS]
    rfl
  | w :: v :: l, acc, pos, h, hl => by
    rw [List.length_cons] at hl
    have h32 : ∀ c : UInt8, (32 :: joinW (v :: l)).head? = some c → inw c = false := fun c hc => by
      have : c = 32 := by simpa using hc.symm
      rw [this]; decide
    have h1 := wordsS_word acc pos w (32 :: joinW (v :: l)) (h w List.mem_cons_self) h32 (by omega)
    rw [joinW, h1, wordsS, if_pos (by decide)]
    have h2 := wordsS_join (v :: l) (acc ++ [((pos : Int), 0, ofL w)]) (pos + w.length + 1) (fun w hw => h w (List.mem_cons_of_mem _ hw)) (by rw [List.length_append, List.length_singleton]; omega)
    rw [h2, List.append_assoc]
    rfl
theorem joinW_nnl : ∀ (ws : List (List UInt8)), (∀ w ∈ ws, WdOk w) → ∀ c ∈ joinW ws, nnl c = true
  | [], _, c, hc => by rw [joinW] at hc; cases hc
  | [w], h, c, hc => by
    rw [joinW] at hc
    exact (inw_props ((h w List.mem_cons_self).2 c hc)).2.2.2
  | w :: v :: l, h, c, hc => by
    rw [joinW] at hc
    rcases List.mem_append.1 hc with h1 | h1
    · exact (inw_props ((h w List.mem_cons_self).2 c h1)).2.2.2
    · rcases List.mem_cons.1 h1 with h2 | h2
      · rw [h2]; decide
      · exact joinW_nnl (v :: l) (fun w hw => h w (List.mem_cons_of_mem _ hw)) c h2
def textW : List (List (List UInt8)) → List UInt8
  | [] => []
  | l :: t => joinW l ++ 10 :: textW t
def placedL : Nat → Nat → List (List (List UInt8)) → List (List W)
  | _, _, [] => []
  | n, pos, l :: t => (placed 0 l).map (shiftW n pos) :: placedL (n + 1) (pos + (joinW l).length + 1) t
theorem linesS_text : ∀ (t : List (List (List UInt8))) (acc : List (List W)) (n pos : Nat), (∀ l ∈ t, l ≠ [] ∧ l.length ≤ 4096 ∧ ∀ w ∈ l, WdOk w) → n + t.length < 16384 → linesS acc n pos (textW t) = (acc ++ placedL n pos t, 0, 0)
  | [], acc, n, pos, _, hn => by
    rw [List.length_nil] at hn
    rw [textW, linesS, if_neg (by omega)]
    have e : (([] : List UInt8).takeWhile nnl) = [] := rfl
    rw [e, wordsS, if_neg (by decide)]
    simp [placedL]
  | l :: t, acc, n, pos, h, hn => by
    rw [List.length_cons] at hn
    obtain ⟨h1, h2, h3⟩ := h l List.mem_cons_self
    have ht := takeWhile_word nnl (joinW l) (10 :: textW t) (joinW_nnl l h3) (fun c hc => by
      have : c = 10 := by simpa using hc.symm
      rw [this]; decide)
    have hw := wordsS_join l [] 0 h3 (by rw [List.length_nil]; omega)
    rw [List.nil_append] at hw
    rw [textW, linesS, if_neg (by omega), ht.1, hw, if_neg (fun h => h rfl)]
    have hl : (placed 0 l).length > 0 := by
      rw [placed_length]
      exact Nat.pos_of_ne_zero fun e => h1 (List.eq_nil_of_length_eq_zero e)
    rw [if_pos hl]
    split
    · rename_i h0
      rw [ht.2] at h0
      cases h0
    · rename_i c r h0
      rw [ht.2] at h0
      injection h0 with h4 h5
      rw [← h5, linesS_text t _ (n + 1) _ (fun l hl => h l (List.mem_cons_of_mem _ hl)) (by omega), List.append_assoc]
      rfl
theorem linesT_text (t : List (List (List UInt8))) (h : ∀ l ∈ t, l ≠ [] ∧ l.length ≤ 4096 ∧ ∀ w ∈ l, WdOk w) (hn : t.length < 16384) (hs : (textW t).length ≤ 1048576) (x : ByteArray) (hx : toL x = textW t) : linesT x = (placedL 0 0 t, 0, 0) := by
  unfold linesT
  rw [if_neg (by rw [size_toL, hx]; omega), hx, linesS_text t [] 0 0 h (by omega), List.nil_append]
end Go.DI.Th
namespace Go.DI.Th
open Go Go.RowKit Go.DI

/-! ### numbers as words -/
theorem dig_inw {c : UInt8} (h : Dig c) : inw c = true := by
  unfold inw plain
  obtain ⟨h1, h2⟩ := h
  have h3 : c ≠ 35 := fun e => by rw [e] at h1; exact absurd h1 (by decide)
  rw [decide_eq_true ⟨by omega, by omega⟩]
  simp [h3]
theorem prN_word (n : Nat) : WdOk (toL (prN n)) := ⟨prN_ne n, fun c hc => dig_inw (prN_dig n c hc)⟩
theorem smallL_snoc : ∀ (l : List UInt8) (acc : Nat) (c : UInt8), smallL acc (l ++ [c]) = (smallL acc l).bind fun v => if c.toNat < 48 ∨ 57 < c.toNat then none else some (min (10 * v + (c.toNat - 48)) 1000000000)
  | [], acc, c => by
    rw [List.nil_append, smallL, smallL]
    rfl
  | d :: l, acc, c => by
    rw [List.cons_append, smallL, smallL]
    split
    · rfl
    · exact smallL_snoc l _ c
theorem smallL_prN (n : Nat) (h : n ≤ 1000000000) : smallL 0 (toL (prN n)) = some n := by
  unfold prN
  rw [toL_ofBytes]
  induction n using Nat.strongRecOn with
  | ind n ih =>
    by_cases h1 : n < 10
    · have e : (UInt8.ofNat (48 + (n : Int)).toNat).toNat = 48 + n := by
        rw [UInt8.toNat_ofNat', Nat.mod_eq_of_lt (by omega)]; omega
      rw [dec_small h1, List.map_cons, List.map_nil, smallL, e, if_neg (by omega), smallL]
      congr 1
      omega
    · have hm : n % 10 < 10 := Nat.mod_lt _ (by decide)
      have e : (UInt8.ofNat (48 + ((n % 10 : Nat) : Int)).toNat).toNat = 48 + n % 10 := by
        rw [UInt8.toNat_ofNat', Nat.mod_eq_of_lt (by omega)]; omega
      rw [dec_big h1, List.map_append, List.map_cons, List.map_nil, smallL_snoc, ih (n / 10) (by omega) (by omega)]
      show (if _ then none else some _) = _
      rw [e, if_neg (by omega)]
      congr 1
      omega
theorem small_prN (n : Nat) (h : n ≤ 1000000000) : smallS (toL (prN n)) = some n := by
  unfold smallS
  rw [if_neg (prN_ne n), if_neg ?_, smallL_prN n h]
  intro ⟨h1, h2⟩
  unfold prN at h1 h2
  rw [toL_ofBytes] at h1 h2
  by_cases h0 : n = 0
  · subst h0
    rw [dec_small (by decide)] at h1
    exact absurd h1 (by decide)
  · obtain ⟨x, r, e, hx⟩ := dec_head n h0
    have hb := dec_byte n x (by rw [e]; exact List.mem_cons_self)
    rw [e, List.map_cons, List.head?_cons, Option.some.injEq] at h2
    have := congrArg UInt8.toNat h2
    rw [UInt8.toNat_ofNat', Nat.mod_eq_of_lt (by omega)] at this
    have h48 : (48 : UInt8).toNat = 48 := rfl
    omega
/-! ### the text of a fault -/
def fw : ByteArray := ⟨#[102, 97, 117, 108, 116]⟩
def faultT (a b c d : Nat) : ByteArray := (((((((⟨#[102, 97, 117, 108, 116, 32]⟩ : ByteArray) ++ prN a) ++ (⟨#[32]⟩ : ByteArray)) ++ prN b) ++ (⟨#[32]⟩ : ByteArray)) ++ prN c) ++ (⟨#[32]⟩ : ByteArray)) ++ prN d ++ (⟨#[10]⟩ : ByteArray)
def faultW (a b c d : Nat) : List (List UInt8) := [toL fw, toL (prN a), toL (prN b), toL (prN c), toL (prN d)]
theorem faultT_text (a b c d : Nat) : toL (faultT a b c d) = textW [faultW a b c d] := by
  unfold faultT faultW
  simp only [toL_append, textW, joinW]
  have e : toL (⟨#[102, 97, 117, 108, 116, 32]⟩ : ByteArray) = toL fw ++ [32] := rfl
  have e2 : toL (⟨#[32]⟩ : ByteArray) = [32] := rfl
  have e3 : toL (⟨#[10]⟩ : ByteArray) = [10] := rfl
  rw [e, e2, e3]
  simp
def InR (a b c d : Int) : Prop := 1 ≤ a ∧ a ≤ 999 ∧ 0 ≤ b ∧ b ≤ 1048576 ∧ 0 ≤ c ∧ c ≤ 64 ∧ 0 ≤ d ∧ d ≤ 255
instance (a b c d : Int) : Decidable (InR a b c d) := by unfold InR; infer_instance
def faultR (a b c d : Int) : ByteArray × Int := if InR a b c d then (faultT a.toNat b.toNat c.toNat d.toNat, 0) else (ByteArray.empty, 1)
theorem fault_sizes (a b c d : Nat) (ha : a < 18446744073709551616) (hb : b < 18446744073709551616) (hc : c < 18446744073709551616) (hd : d < 18446744073709551616) :
    (⟨#[102, 97, 117, 108, 116, 32]⟩ : ByteArray).size = 6 ∧ (⟨#[32]⟩ : ByteArray).size = 1 ∧ (⟨#[10]⟩ : ByteArray).size = 1 ∧ (prN a).size ≤ 65 ∧ (prN b).size ≤ 65 ∧ (prN c).size ≤ 65 ∧ (prN d).size ≤ 65 := ⟨rfl, rfl, rfl, prN_small ha, prN_small hb, prN_small hc, prN_small hd⟩
theorem fault_ev (a b c d : Int) : Ev (fun k => report_Fault.f k a b c d) (faultR a b c d) := by
  unfold report_Fault.f faultR
  by_cases h : InR a b c d
  · rw [if_pos h]
    obtain ⟨h1, h2, h3, h4, h5, h6, h7, h8⟩ := h
    refine Ev.if_neg (by omega) (Ev.if_neg (by omega) (Ev.if_neg (by omega) (Ev.if_neg (by omega) (Ev.if_neg (by omega) (Ev.if_neg (by omega) (Ev.if_neg (by omega) (Ev.if_neg (by omega) ?_)))))))
    obtain ⟨a, rfl⟩ : ∃ n : Nat, a = (n : Int) := ⟨a.toNat, by omega⟩
    obtain ⟨b, rfl⟩ : ∃ n : Nat, b = (n : Int) := ⟨b.toNat, by omega⟩
    obtain ⟨c, rfl⟩ : ∃ n : Nat, c = (n : Int) := ⟨c.toNat, by omega⟩
    obtain ⟨d, rfl⟩ : ∃ n : Nat, d = (n : Int) := ⟨d.toNat, by omega⟩
    obtain ⟨s1, s2, s3, s4, s5, s6, s7⟩ := fault_sizes a b c d (by omega) (by omega) (by omega) (by omega)
    simp only [ByteArray.size_append, s1, s2, s3, Int.toNat_natCast]
    exact Ev.bind (digits_ev a (by omega)) (Ev.if_pos (by omega) (Ev.if_pos (by omega) (Ev.bind (digits_ev b (by omega)) (Ev.if_pos (by omega) (Ev.if_pos (by omega) (Ev.bind (digits_ev c (by omega)) (Ev.if_pos (by omega) (Ev.if_pos (by omega) (Ev.bind (digits_ev d (by omega)) (Ev.if_pos (by omega) (Ev.if_pos (by omega) (Ev.now _))))))))))))
  · rw [if_neg h]
    unfold InR at h
    by_cases h1 : a < 1
    · exact Ev.if_pos h1 (Ev.now _)
    refine Ev.if_neg h1 ?_
    by_cases h2 : a > 999
    · exact Ev.if_pos h2 (Ev.now _)
    refine Ev.if_neg h2 ?_
    by_cases h3 : b < 0
    · exact Ev.if_pos h3 (Ev.now _)
    refine Ev.if_neg h3 ?_
    by_cases h4 : b > 1048576
    · exact Ev.if_pos h4 (Ev.now _)
    refine Ev.if_neg h4 ?_
    by_cases h5 : c < 0
    · exact Ev.if_pos h5 (Ev.now _)
    refine Ev.if_neg h5 ?_
    by_cases h6 : c > 64
    · exact Ev.if_pos h6 (Ev.now _)
    refine Ev.if_neg h6 ?_
    by_cases h7 : d < 0
    · exact Ev.if_pos h7 (Ev.now _)
    refine Ev.if_neg h7 ?_
    by_cases h8 : d > 255
    · exact Ev.if_pos h8 (Ev.now _)
    exact absurd (by omega) h
/-! ### reading it -/
def q1 (x : ByteArray) : St := takeS (readS x) fw
def q2 (x : ByteArray) : Int × St := countS (q1 x) 1 999
def q3 (x : ByteArray) : Int × St := countS (q2 x).2 0 1048576
def q4 (x : ByteArray) : Int × St := countS (q3 x).2 0 64
def q5 (x : ByteArray) : Int × St := countS (q4 x).2 0 255
def q6 (x : ByteArray) : St := endS (nextS (q5 x).2)
def sameR (x y : ByteArray) (e : Int) : Int := if e = 0 then (if x ≠ y then 4 else e) else e
def readF (x : ByteArray) : Int × Int × Int × Int × Int := if (q6 x).err ≠ 0 then (0, 0, 0, 0, (q6 x).err) else
  if sameR x (faultR (q2 x).1 (q3 x).1 (q4 x).1 (q5 x).1).1 (faultR (q2 x).1 (q3 x).1 (q4 x).1 (q5 x).1).2 ≠ 0 then (0, 0, 0, 0, sameR x (faultR (q2 x).1 (q3 x).1 (q4 x).1 (q5 x).1).1 (faultR (q2 x).1 (q3 x).1 (q4 x).1 (q5 x).1).2) else ((q2 x).1, (q3 x).1, (q4 x).1, (q5 x).1, 0)
theorem sameR_eq (x y : ByteArray) (e : Int) : report_same.f x y e = some (sameR x y e) := by
  unfold report_same.f sameR
  split
  · split <;> rfl
  · rfl
theorem readFault_ev (x : ByteArray) : Ev (fun k => report_ReadFault.f k x) (readF x) := by
  unfold report_ReadFault.f
  have g0 := readS_good x
  have g1 : (q1 x).Good := takeS_good g0 fw
  have g2 : (q2 x).2.Good := countS_good g1 1 999
  have g3 : (q3 x).2.Good := countS_good g2 0 1048576
  have g4 : (q4 x).2.Good := countS_good g3 0 64
  have g5 : (q5 x).2.Good := countS_good g4 0 255
  have g6 : (nextS (q5 x).2).Good := nextS_good g5
  have e1 : Ev (fun _ => lex_Reader_Take.f (readS x).ls (readS x).i (readS x).j (readS x).sz (readS x).err (readS x).at_ fw) (q1 x).t := Ev.congr (fun _ => take_eq (readS x) fw g0.ok g0.l1) (Ev.now _)
  have e6 : Ev (fun _ => lex_Reader_Next.f (q5 x).2.ls (q5 x).2.i (q5 x).2.j (q5 x).2.sz (q5 x).2.err (q5 x).2.at_) (nextS (q5 x).2).t := Ev.congr (fun _ => next_eq (q5 x).2 g5.ok g5.l1) (Ev.now _)
  have e7 : Ev (fun _ => lex_Reader_End.f (nextS (q5 x).2).ls (nextS (q5 x).2).i (nextS (q5 x).2).j (nextS (q5 x).2).sz (nextS (q5 x).2).err (nextS (q5 x).2).at_) (q6 x).t := Ev.congr (fun _ => end_eq (nextS (q5 x).2) g6.ok g6.l1) (Ev.now _)
  have e8 : Ev (fun _ => lex_Reader_Err.f (q6 x).ls (q6 x).i (q6 x).j (q6 x).sz (q6 x).err (q6 x).at_) ((q6 x).err, (q6 x).at_, (q6 x).t) := Ev.now _
  refine Ev.bind (read_ev x) (Ev.bind e1 (Ev.bind (count_ev (q1 x) g1 1 999) (Ev.bind (count_ev (q2 x).2 g2 0 1048576) (Ev.bind (count_ev (q3 x).2 g3 0 64) (Ev.bind (count_ev (q4 x).2 g4 0 255) (Ev.bind e6 (Ev.bind e7 (Ev.bind e8 ?_))))))))
  unfold readF
  by_cases h : (q6 x).err ≠ 0
  · rw [if_pos h]
    exact Ev.if_pos h (Ev.now _)
  · rw [if_neg h]
    refine Ev.if_neg h (Ev.bind (fault_ev (q2 x).1 (q3 x).1 (q4 x).1 (q5 x).1) (Ev.bind (Ev.congr (fun _ => sameR_eq _ _ _) (Ev.now _)) ?_))
    by_cases h2 : sameR x (faultR (q2 x).1 (q3 x).1 (q4 x).1 (q5 x).1).1 (faultR (q2 x).1 (q3 x).1 (q4 x).1 (q5 x).1).2 ≠ 0
    · simp only [if_pos h2]
      exact Ev.now _
    · simp only [if_neg h2]
      exact Ev.now _
theorem readF_err (x : ByteArray) : ((readF x).2.2.2.2 ≠ 0 ∧ readF x = (0, 0, 0, 0, (readF x).2.2.2.2)) ∨ ((readF x).2.2.2.2 = 0 ∧ faultR (readF x).1 (readF x).2.1 (readF x).2.2.1 (readF x).2.2.2.1 = (x, 0)) := by
  unfold readF
  split
  · exact Or.inl ⟨by assumption, rfl⟩
  · split
    · exact Or.inl ⟨by assumption, rfl⟩
    · rename_i h1 h2
      refine Or.inr ⟨rfl, ?_⟩
      show faultR (q2 x).1 (q3 x).1 (q4 x).1 (q5 x).1 = (x, 0)
      generalize faultR (q2 x).1 (q3 x).1 (q4 x).1 (q5 x).1 = p at h2
      obtain ⟨y, e⟩ := p
      unfold sameR at h2
      simp only at h2
      by_cases he : e = 0
      · rw [if_pos he] at h2
        by_cases hx : x ≠ y
        · rw [if_pos hx] at h2; exact absurd (by decide) h2
        · have : x = y := by simpa using hx
          rw [this, he]
      · rw [if_neg he] at h2
        exact absurd he h2
theorem wordS_step (s : St) (w : W) (h0 : s.err = 0) (hi : s.i < s.ls.length) (hj : s.line[s.j]? = some w) : wordS s = (w.2.2, { s with j := s.j + 1 }) := by
  unfold wordS
  obtain ⟨hl, he⟩ := List.getElem?_eq_some_iff.1 hj
  rw [if_neg (by omega), if_pos ⟨h0, hi, hl⟩, List.getD_eq_getElem?_getD, hj]
  rfl
theorem takeS_step (s : St) (w : W) (h0 : s.err = 0) (hi : s.i < s.ls.length) (hj : s.line[s.j]? = some w) : takeS s w.2.2 = { s with j := s.j + 1 } := by
  unfold takeS
  rw [wordS_step s w h0 hi hj]
  simp [h0]
theorem countS_step (s : St) (w : W) (h0 : s.err = 0) (hi : s.i < s.ls.length) (hj : s.line[s.j]? = some w) (n : Nat) (hn : smallS (toL w.2.2) = some n) (lo hi' : Int) (h1 : lo ≤ n) (h2 : (n : Int) ≤ hi') : countS s lo hi' = ((n : Int), { s with j := s.j + 1 }) := by
  unfold countS
  rw [wordS_step s w h0 hi hj]
  simp only [hn]
  rw [if_neg (by simp [h0]), if_neg (by omega), if_neg (by omega)]
theorem faultW_ok (a b c d : Nat) : ∀ l ∈ [faultW a b c d], l ≠ [] ∧ l.length ≤ 4096 ∧ ∀ w ∈ l, WdOk w := by
  intro l hl
  have : l = faultW a b c d := by simpa using hl
  subst this
  refine ⟨by unfold faultW; simp, by unfold faultW; simp, ?_⟩
  intro w hw
  have hf : WdOk (toL fw) := ⟨by decide, by decide⟩
  unfold faultW at hw
  simp only [List.mem_cons, List.not_mem_nil, or_false] at hw
  rcases hw with rfl | rfl | rfl | rfl | rfl
  · exact hf
  · exact prN_word _
  · exact prN_word _
  · exact prN_word _
  · exact prN_word _
theorem readF_back (a b c d : Nat) (h : InR a b c d) : readF (faultT a b c d) = ((a : Int), (b : Int), (c : Int), (d : Int), 0) := by
  obtain ⟨h1, h2, h3, h4, h5, h6, h7, h8⟩ := h
  have hsz : (toL (faultT a b c d)).length ≤ 1048576 := by
    rw [← size_toL]
    unfold faultT
    obtain ⟨s1, s2, s3, s4, s5, s6, s7⟩ := fault_sizes a b c d (by omega) (by omega) (by omega) (by omega)
    simp only [ByteArray.size_append, s1, s2, s3]
    omega
  have hL := linesT_text [faultW a b c d] (faultW_ok a b c d) (by simp) (by rw [← faultT_text]; exact hsz) (faultT a b c d) (faultT_text a b c d)
  obtain ⟨x, hx⟩ : ∃ x, x = faultT a b c d := ⟨_, rfl⟩
  have hfr : faultR a b c d = (x, 0) := by
    unfold faultR
    rw [if_pos ⟨h1, h2, h3, h4, h5, h6, h7, h8⟩, hx]
    rfl
  rw [← hx] at hL ⊢
  obtain ⟨ls, hls⟩ : ∃ ls, ls = placedL 0 0 [faultW a b c d] := ⟨_, rfl⟩
  rw [← hls] at hL
  have hs0 : readS x = ⟨ls, 0, 0, (x.size : Int), 0, 0⟩ := by unfold readS; rw [hL]
  have hlen : ls.length = 1 := by rw [hls]; rfl
  have hline : ls.getD 0 [] = (placed 0 (faultW a b c d)).map (shiftW 0 0) := by rw [hls]; rfl
  have p (j : Nat) : (⟨ls, 0, j, (x.size : Int), 0, 0⟩ : St).line[j]? = ((placed 0 (faultW a b c d)).map (shiftW 0 0))[j]? := by
    show (ls.getD 0 [])[j]? = _
    rw [hline]
  have k1 : q1 x = ⟨ls, 0, 1, (x.size : Int), 0, 0⟩ := by
    unfold q1
    rw [hs0]
    exact takeS_step ⟨ls, 0, 0, (x.size : Int), 0, 0⟩ _ rfl (by show 0 < ls.length; omega) (p 0)
  have k2 : q2 x = ((a : Int), ⟨ls, 0, 2, (x.size : Int), 0, 0⟩) := by
    unfold q2
    rw [k1]
    exact countS_step ⟨ls, 0, 1, (x.size : Int), 0, 0⟩ _ rfl (by show 0 < ls.length; omega) (p 1) a (small_prN a (by omega)) 1 999 (by omega) (by omega)
  have k3 : q3 x = ((b : Int), ⟨ls, 0, 3, (x.size : Int), 0, 0⟩) := by
    unfold q3
    rw [k2]
    exact countS_step ⟨ls, 0, 2, (x.size : Int), 0, 0⟩ _ rfl (by show 0 < ls.length; omega) (p 2) b (small_prN b (by omega)) 0 1048576 (by omega) (by omega)
  have k4 : q4 x = ((c : Int), ⟨ls, 0, 4, (x.size : Int), 0, 0⟩) := by
    unfold q4
    rw [k3]
    exact countS_step ⟨ls, 0, 3, (x.size : Int), 0, 0⟩ _ rfl (by show 0 < ls.length; omega) (p 3) c (small_prN c (by omega)) 0 64 (by omega) (by omega)
  have k5 : q5 x = ((d : Int), ⟨ls, 0, 5, (x.size : Int), 0, 0⟩) := by
    unfold q5
    rw [k4]
    exact countS_step ⟨ls, 0, 4, (x.size : Int), 0, 0⟩ _ rfl (by show 0 < ls.length; omega) (p 4) d (small_prN d (by omega)) 0 255 (by omega) (by omega)
  have hl5 : (⟨ls, 0, 5, (x.size : Int), 0, 0⟩ : St).line.length = 5 := by
    show (ls.getD 0 []).length = 5
    rw [hline]
    rfl
  have k6 : nextS (q5 x).2 = ⟨ls, 1, 0, (x.size : Int), 0, 0⟩ := by
    rw [k5]
    unfold nextS
    rw [if_neg (by simp), if_neg (fun h => by have := h.2.2; rw [hl5] at this; exact Nat.lt_irrefl 5 this), if_neg (by show ¬ ls.length ≤ 0; omega)]
  have k7 : q6 x = ⟨ls, 1, 0, (x.size : Int), 0, 0⟩ := by
    unfold q6 endS
    rw [k6, if_neg (by simp), if_neg (by show ¬ 1 < ls.length; omega)]
  unfold readF
  rw [k7, k2, k3, k4, k5, if_neg (fun h => h rfl), hfr]
  have hs : sameR x x 0 = 0 := by unfold sameR; simp
  rw [hs, if_neg (by simp)]
/-! ### the law -/
def tailF (k : Nat) (a0_0 a0_1 a0_2 a0_3 : Int) (v6 : ByteArray × Int) : Option Bool := (if a0_0 < 1 then (if v6.1 = ByteArray.empty then (if v6.2 = 1 then ((dendronlaw29_awake.f k).bind fun v70 => (some v70)) else (some false)) else (some false)) else (if a0_0 > 999 then (if v6.1 = ByteArray.empty then (if v6.2 = 1 then ((dendronlaw29_awake.f k).bind fun v70 => (some v70)) else (some false)) else (some false)) else (if a0_1 < 0 then (if v6.1 = ByteArray.empty then (if v6.2 = 1 then ((dendronlaw29_awake.f k).bind fun v70 => (some v70)) else (some false)) else (some false)) else (if a0_1 > 1048576 then (if v6.1 = ByteArray.empty then (if v6.2 = 1 then ((dendronlaw29_awake.f k).bind fun v70 => (some v70)) else (some false)) else (some false)) else (if a0_2 < 0 then (if v6.1 = ByteArray.empty then (if v6.2 = 1 then ((dendronlaw29_awake.f k).bind fun v70 => (some v70)) else (some false)) else (some false)) else (if a0_2 > 64 then (if v6.1 = ByteArray.empty then (if v6.2 = 1 then ((dendronlaw29_awake.f k).bind fun v70 => (some v70)) else (some false)) else (some false)) else (if a0_3 < 0 then (if v6.1 = ByteArray.empty then (if v6.2 = 1 then ((dendronlaw29_awake.f k).bind fun v70 => (some v70)) else (some false)) else (some false)) else (if a0_3 > 255 then (if v6.1 = ByteArray.empty then (if v6.2 = 1 then ((dendronlaw29_awake.f k).bind fun v70 => (some v70)) else (some false)) else (some false)) else ((dendronlaw29_digits.f k a0_0).bind fun v65 => (if (⟨#[102, 97, 117, 108, 116, 32]⟩ : ByteArray).size + v65.size ≤ 9223372036854775807 then (if ((⟨#[102, 97, 117, 108, 116, 32]⟩ : ByteArray) ++ v65).size + (⟨#[32]⟩ : ByteArray).size ≤ 9223372036854775807 then ((dendronlaw29_digits.f k a0_1).bind fun v70 => (if (((⟨#[102, 97, 117, 108, 116, 32]⟩ : ByteArray) ++ v65) ++ (⟨#[32]⟩ : ByteArray)).size + v70.size ≤ 9223372036854775807 then (if ((((⟨#[102, 97, 117, 108, 116, 32]⟩ : ByteArray) ++ v65) ++ (⟨#[32]⟩ : ByteArray)) ++ v70).size + (⟨#[32]⟩ : ByteArray).size ≤ 9223372036854775807 then ((dendronlaw29_digits.f k a0_2).bind fun v75 => (if (((((⟨#[102, 97, 117, 108, 116, 32]⟩ : ByteArray) ++ v65) ++ (⟨#[32]⟩ : ByteArray)) ++ v70) ++ (⟨#[32]⟩ : ByteArray)).size + v75.size ≤ 9223372036854775807 then (if ((((((⟨#[102, 97, 117, 108, 116, 32]⟩ : ByteArray) ++ v65) ++ (⟨#[32]⟩ : ByteArray)) ++ v70) ++ (⟨#[32]⟩ : ByteArray)) ++ v75).size + (⟨#[32]⟩ : ByteArray).size ≤ 9223372036854775807 then ((dendronlaw29_digits.f k a0_3).bind fun v80 => (if (((((((⟨#[102, 97, 117, 108, 116, 32]⟩ : ByteArray) ++ v65) ++ (⟨#[32]⟩ : ByteArray)) ++ v70) ++ (⟨#[32]⟩ : ByteArray)) ++ v75) ++ (⟨#[32]⟩ : ByteArray)).size + v80.size ≤ 9223372036854775807 then (if ((((((((⟨#[102, 97, 117, 108, 116, 32]⟩ : ByteArray) ++ v65) ++ (⟨#[32]⟩ : ByteArray)) ++ v70) ++ (⟨#[32]⟩ : ByteArray)) ++ v75) ++ (⟨#[32]⟩ : ByteArray)) ++ v80).size + (⟨#[10]⟩ : ByteArray).size ≤ 9223372036854775807 then ((report_ReadFault.f k v6.1).bind fun v85 => (if v6.1 = (((((((((⟨#[102, 97, 117, 108, 116, 32]⟩ : ByteArray) ++ v65) ++ (⟨#[32]⟩ : ByteArray)) ++ v70) ++ (⟨#[32]⟩ : ByteArray)) ++ v75) ++ (⟨#[32]⟩ : ByteArray)) ++ v80) ++ (⟨#[10]⟩ : ByteArray)) then (if v6.2 = 0 then (if v85.2.2.2.2 = 0 then (if ((v85.1 == a0_0) && ((v85.2.1 == a0_1) && ((v85.2.2.1 == a0_2) && ((v85.2.2.2.1 == a0_3) && true)))) = true then ((dendronlaw29_awake.f k).bind fun v109 => (some v109)) else (some false)) else (some false)) else (some false)) else (some false))) else none) else none)) else none) else none)) else none) else none)) else none) else none))))))))))
theorem tail_ev (a b c d : Int) : Ev (fun k => tailF k a b c d (faultR a b c d)) true := by
  unfold tailF faultR
  by_cases h : InR a b c d
  · rw [if_pos h]
    have hb := readF_back a.toNat b.toNat c.toNat d.toNat
    obtain ⟨h1, h2, h3, h4, h5, h6, h7, h8⟩ := h
    refine Ev.if_neg (by omega) (Ev.if_neg (by omega) (Ev.if_neg (by omega) (Ev.if_neg (by omega) (Ev.if_neg (by omega) (Ev.if_neg (by omega) (Ev.if_neg (by omega) (Ev.if_neg (by omega) ?_)))))))
    obtain ⟨a, rfl⟩ : ∃ n : Nat, a = (n : Int) := ⟨a.toNat, by omega⟩
    obtain ⟨b, rfl⟩ : ∃ n : Nat, b = (n : Int) := ⟨b.toNat, by omega⟩
    obtain ⟨c, rfl⟩ : ∃ n : Nat, c = (n : Int) := ⟨c.toNat, by omega⟩
    obtain ⟨d, rfl⟩ : ∃ n : Nat, d = (n : Int) := ⟨d.toNat, by omega⟩
    simp only [Int.toNat_natCast] at hb
    have hb := hb ⟨h1, h2, h3, h4, h5, h6, h7, h8⟩
    obtain ⟨s1, s2, s3, s4, s5, s6, s7⟩ := fault_sizes a b c d (by omega) (by omega) (by omega) (by omega)
    simp only [ByteArray.size_append, s1, s2, s3, Int.toNat_natCast]
    have hr := readFault_ev (faultT a b c d)
    rw [hb] at hr
    refine Ev.bind (ldigits_ev a (by omega)) (Ev.if_pos (by omega) (Ev.if_pos (by omega) (Ev.bind (ldigits_ev b (by omega)) (Ev.if_pos (by omega) (Ev.if_pos (by omega) (Ev.bind (ldigits_ev c (by omega)) (Ev.if_pos (by omega) (Ev.if_pos (by omega) (Ev.bind (ldigits_ev d (by omega)) (Ev.if_pos (by omega) (Ev.if_pos (by omega) ?_)))))))))))
    exact Ev.bind hr (Ev.if_pos (by first | rfl | trivial) (Ev.if_pos (by first | rfl | trivial) (Ev.if_pos (by first | rfl | trivial) (Ev.if_pos (by simp) (Ev.bind awake29_ev (Ev.now _))))))
  · rw [if_neg h]
    unfold InR at h
    have fin : Ev (fun k => if (ByteArray.empty, (1 : Int)).1 = ByteArray.empty then (if (ByteArray.empty, (1 : Int)).2 = 1 then ((dendronlaw29_awake.f k).bind fun v70 => (some v70)) else (some false)) else (some false)) true := Ev.if_pos rfl (Ev.if_pos rfl (Ev.bind awake29_ev (Ev.now _)))
    by_cases h1 : a < 1
    · exact Ev.if_pos h1 fin
    refine Ev.if_neg h1 ?_
    by_cases h2 : a > 999
    · exact Ev.if_pos h2 fin
    refine Ev.if_neg h2 ?_
    by_cases h3 : b < 0
    · exact Ev.if_pos h3 fin
    refine Ev.if_neg h3 ?_
    by_cases h4 : b > 1048576
    · exact Ev.if_pos h4 fin
    refine Ev.if_neg h4 ?_
    by_cases h5 : c < 0
    · exact Ev.if_pos h5 fin
    refine Ev.if_neg h5 ?_
    by_cases h6 : c > 64
    · exact Ev.if_pos h6 fin
    refine Ev.if_neg h6 ?_
    by_cases h7 : d < 0
    · exact Ev.if_pos h7 fin
    refine Ev.if_neg h7 ?_
    by_cases h8 : d > 255
    · exact Ev.if_pos h8 fin
    exact absurd (by omega) h
theorem faults_part (a b c d : Int) (x : ByteArray) : Ev (fun k => (report_Fault.f k a b c d).bind fun v9 => ((report_ReadFault.f k x).bind fun v16 => (if v16.2.2.2.2 = 0 then ((report_Fault.f k v16.1 v16.2.1 v16.2.2.1 v16.2.2.2.1).bind fun v26 => (if v26.2 ≠ 0 then (some false) else (if v26.1 ≠ x then (some false) else tailF k a b c d v9))) else (if (!((v16.1 == 0) && ((v16.2.1 == 0) && ((v16.2.2.1 == 0) && ((v16.2.2.2.1 == 0) && true))))) = true then (some false) else tailF k a b c d v9)))) true := by
  refine Ev.bind (fault_ev a b c d) (Ev.bind (readFault_ev x) ?_)
  rcases readF_err x with ⟨h1, h2⟩ | ⟨h1, h2⟩
  · refine Ev.if_neg h1 ?_
    rw [h2]
    exact Ev.if_neg (by simp) (tail_ev a b c d)
  · refine Ev.if_pos h1 (Ev.bind (fault_ev _ _ _ _) ?_)
    rw [h2]
    exact Ev.if_neg (by simp) (Ev.if_neg (by simp) (tail_ev a b c d))
theorem reportFaults_ev (a b c d : Int) (x : ByteArray) : Ev (fun k => dendronlaw29_ReportFaults.f k a b c d x) true := by
  unfold dendronlaw29_ReportFaults.f
  by_cases h : (x.size : Int) > 200
  · refine Ev.if_pos h (Ev.if_pos (by omega) ?_)
    exact faults_part a b c d (x.extract 0 200)
  · refine Ev.if_neg h ?_
    exact faults_part a b c d x
end Go.DI.Th
