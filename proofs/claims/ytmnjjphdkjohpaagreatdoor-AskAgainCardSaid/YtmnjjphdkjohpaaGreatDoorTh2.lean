/- What the told functions answer, part 2. No condition. -/
import Derived.Test.YtmnjjphdkjohpaaGreatDoorTh1
set_option linter.all false
namespace Go.DI.Th
open Go Go.RowKit Go.DI

def sgQ (neg : Bool) (x : Rat) : Rat := if neg = true then -x else x
theorem Sz_sgQ (neg : Bool) (x : Rat) : Sz (sgQ neg x) = Sz x := by
  unfold sgQ
  split
  · exact Sz_neg x
  · rfl
def unm (w : List UInt8) : Bool × List UInt8 := if isPre 45 w = true then (true, w.drop 1) else (false, w)
def prE (w : List UInt8) : Int := plE (unm w).2
def prV (w : List UInt8) : Rat := sgQ (unm w).1 (plV (unm w).2)
theorem plV_sz {w : List UInt8} (h : plE w = 0) : Sz (plV w) ≤ 20100 := by
  unfold plE at h
  unfold plV
  cases h1 : cutL 47 w with
  | some p =>
    obtain ⟨a, b⟩ := p
    rw [h1] at h
    dsimp only at h ⊢
    by_cases ha : pE a = 0
    · rw [if_neg (fun e => e ha)] at h
      by_cases hb : pE b = 0
      · rw [if_neg (fun e => e hb)] at h
        by_cases h0 : dgv 0 b = 0
        · rw [if_pos h0] at h; cases h
        · have := Sz_mk (dgv 0 a : Int) (dgv 0 b) h0
          rw [Int.natAbs_natCast] at this
          have la := pE_len ha
          have lb := pE_len hb
          omega
      · rw [if_pos hb] at h; exact absurd h hb
    · rw [if_pos ha] at h; exact absurd h ha
  | none =>
    rw [h1] at h
    dsimp only at h ⊢
    cases h2 : cutL 46 w with
    | some p =>
      obtain ⟨a, b⟩ := p
      rw [h2] at h
      dsimp only at h ⊢
      by_cases ha : pE a = 0
      · rw [if_neg (fun e => e ha)] at h
        have := Sz_mk ((dgv 0 a * 10 ^ b.length + dgv 0 b : Nat) : Int) (10 ^ b.length) (Nat.pos_iff_ne_zero.1 (Nat.pow_pos (by decide)))
        rw [Int.natAbs_natCast] at this
        have la := pE_len ha
        have lb := pE_len h
        have hbl := (pE_zero.1 h).2.2
        have lt := len_ten b.length
        have lm1 := len_mul (dgv 0 a) (10 ^ b.length)
        have la2 := len_add (dgv 0 a * 10 ^ b.length) (dgv 0 b)
        omega
      · rw [if_pos ha] at h; exact absurd h ha
    | none =>
      rw [h2] at h
      dsimp only at h ⊢
      rw [Sz_int, Int.natAbs_natCast]
      have la := pE_len h
      omega
theorem prV_sz {w : List UInt8} (h : prE w = 0) : Sz (prV w) ≤ 20100 := by
  unfold prV
  rw [Sz_sgQ]
  exact plV_sz h
theorem unm_drop {s : ByteArray} (h : isPre 45 (toL s) = true) : s.extract 1 s.size = ofL ((toL s).drop 1) ∧ 1 ≤ s.size := by
  cases hw : toL s with
  | nil => rw [hw] at h; cases h
  | cons c t =>
    have e : s.extract ([c] : List UInt8).length s.size = ofL t := ext_drop (a := [c]) (b := t) hw
    refine ⟨e, ?_⟩
    have := size_toL s
    rw [hw, List.length_cons] at this
    omega
theorem rparse_ev (s : ByteArray) (hs : s.size ≤ 1125899906842624) : Ev (fun k => ratio_Parse.f k s) (rR (prE (toL s)) (prV (toL s))) := by
  unfold ratio_Parse.f
  rw [prefix_ev]
  unfold prE prV unm
  by_cases hp : isPre 45 (toL s) = true
  · rw [if_pos hp, hp]
    obtain ⟨e1, e2⟩ := unm_drop hp
    rw [e1]
    have hsz : (ofL ((toL s).drop 1)).size ≤ 1125899906842624 := by
      rw [size_toL, toL_ofL, List.length_drop, ← size_toL]
      omega
    have h1 := plain_ev (ofL ((toL s).drop 1)) hsz
    rw [toL_ofL] at h1
    refine Ev.bind (Ev.now true) (Ev.if_pos rfl (Ev.if_pos (by omega) (Ev.bind h1 ?_)))
    dsimp only
    have hsz := plV_sz (w := (toL s).drop 1)
    generalize plE ((toL s).drop 1) = e at hsz ⊢
    generalize plV ((toL s).drop 1) = x at hsz ⊢
    unfold rR
    by_cases h0 : e = 0
    · rw [if_pos h0, if_pos h0]
      have hn := neg_cn (cn x) (cnB x (hsz h0)) (by decide)
      rw [rv_cn] at hn
      exact Ev.if_neg (fun h => h rfl) (Ev.bind hn (Ev.now _))
    · rw [if_neg h0, if_neg h0]
      exact Ev.if_pos h0 (Ev.now _)
  · rw [if_neg hp]
    have hp' : isPre 45 (toL s) = false := by simpa using hp
    rw [hp']
    refine Ev.bind (Ev.now false) (Ev.if_neg (by decide) (Ev.bind (plain_ev s hs) ?_))
    dsimp only
    generalize plE (toL s) = e
    generalize plV (toL s) = x
    unfold rR
    by_cases h0 : e = 0
    · rw [if_pos h0, if_pos h0]
      exact Ev.if_neg (fun h => h rfl) (Ev.now _)
    · rw [if_neg h0, if_neg h0]
      exact Ev.if_pos h0 (Ev.now _)
end Go.DI.Th
namespace Go.DI.Th
open Go Go.RowKit Go.DI

theorem vb_dgv (l : List UInt8) : vb l = dgv 0 l := rfl
theorem dgv_prN (n : Nat) : dgv 0 (toL (prN n)) = n := by rw [← vb_dgv, vb_prN]
theorem pE_prN (n : Nat) (h : (prN n).size ≤ 10000) : pE (toL (prN n)) = 0 := by
  refine pE_zero.2 ⟨prN_ne n, fun c hc => prN_dig n c hc, ?_⟩
  rw [← size_toL]
  exact h
def qT (q : Nat) : List UInt8 := if q = 1 then [] else 47 :: toL (prN q)
def prX (x : Rat) : ByteArray := prQ x.num x.den
theorem prT_rv (r : Rt) : prT r = prX (rv r) := by
  rw [prT_eq]
  unfold prX rv
  rw [num_mk _ _ (den_pos _), den_mk _ _ (den_pos _)]
theorem prX_toL (x : Rat) : toL (prX x) = (if x.num < 0 then [45] else []) ++ (toL (prN x.num.natAbs) ++ qT x.den) := by
  unfold prX prQ qT prW
  by_cases h1 : x.den = 1
  · rw [if_pos h1, if_pos h1, List.append_nil]
    split
    · rw [toL_append, toL_minus]
    · rw [List.nil_append]
  · rw [if_neg h1, if_neg h1, toL_append, toL_append, toL_slash]
    split
    · rw [toL_append, toL_minus]; simp
    · rw [List.nil_append]; simp
theorem plE_nat (n q : Nat) (hn : (prN n).size ≤ 10000) (hq : (prN q).size ≤ 10000) (h0 : q ≠ 0) : plE (toL (prN n) ++ qT q) = 0 ∧ plV (toL (prN n) ++ qT q) = mkRat (n : Int) q := by
  have n47 : (47 : UInt8) ∉ toL (prN n) := fun h => (prN_dig n _ h).n47 rfl
  have n46 : (46 : UInt8) ∉ toL (prN n) := fun h => by
    have := (prN_dig n _ h).1
    exact absurd this (by decide)
  unfold qT
  by_cases h1 : q = 1
  · subst h1
    rw [if_pos rfl, List.append_nil]
    unfold plE plV
    rw [cutL_not n47, cutL_not n46]
    refine ⟨pE_prN n hn, ?_⟩
    show ((dgv 0 (toL (prN n)) : Int) : Rat) = _
    rw [dgv_prN]
    exact (Rat.mkRat_self ((n : Int) : Rat)).symm
  · rw [if_neg h1]
    unfold plE plV
    rw [cutL_of n47]
    dsimp only
    rw [pE_prN n hn, pE_prN q hq, dgv_prN, dgv_prN, if_neg (fun h => h rfl), if_neg (fun h => h rfl), if_neg h0]
    exact ⟨rfl, rfl⟩
def Rd (x : Rat) : Prop := prE (toL (prX x)) = 0 ∧ prV (toL (prX x)) = x
theorem rd_prX (x : Rat) (h1 : (prN x.num.natAbs).size ≤ 10000) (h2 : (prN x.den).size ≤ 10000) : Rd x := by
  obtain ⟨h1, h2⟩ := plE_nat x.num.natAbs x.den h1 h2 x.den_nz
  have e := prX_toL x
  unfold Rd prE prV unm
  rw [e]
  by_cases hz : x.num < 0
  · rw [if_pos hz]
    have hp : isPre 45 ([45] ++ (toL (prN x.num.natAbs) ++ qT x.den)) = true := rfl
    rw [if_pos hp]
    show plE (toL (prN x.num.natAbs) ++ qT x.den) = 0 ∧ sgQ true (plV (toL (prN x.num.natAbs) ++ qT x.den)) = x
    rw [h1, h2]
    refine ⟨rfl, ?_⟩
    show -(mkRat (x.num.natAbs : Int) x.den) = x
    rw [Rat.neg_mkRat, show -((x.num.natAbs : Nat) : Int) = x.num by omega, Rat.mkRat_self]
  · rw [if_neg hz, List.nil_append]
    have hp : ¬ isPre 45 (toL (prN x.num.natAbs) ++ qT x.den) = true := by
      have hne := prN_ne x.num.natAbs
      have hd := prN_dig x.num.natAbs
      cases hw : toL (prN x.num.natAbs) with
      | nil => exact absurd hw hne
      | cons c t =>
        rw [hw] at hd
        show ¬ (c == 45) = true
        have := (hd c List.mem_cons_self).n45
        simpa using this
    rw [if_neg hp]
    show plE (toL (prN x.num.natAbs) ++ qT x.den) = 0 ∧ sgQ false (plV (toL (prN x.num.natAbs) ++ qT x.den)) = x
    rw [h1, h2]
    refine ⟨rfl, ?_⟩
    show mkRat (x.num.natAbs : Int) x.den = x
    rw [show ((x.num.natAbs : Nat) : Int) = x.num by omega, Rat.mkRat_self]
theorem prX_word (x : Rat) : WdOk (toL (prX x)) := by
  rw [prX_toL]
  have hd : ∀ n : Nat, ∀ c ∈ toL (prN n), inw c = true := fun n c hc => dig_inw (prN_dig n c hc)
  constructor
  · intro e
    have h1 := List.append_eq_nil_iff.1 e
    have h2 := List.append_eq_nil_iff.1 h1.2
    exact prN_ne _ h2.1
  · intro c hc
    rcases List.mem_append.1 hc with h | h
    · have : c = 45 := by
        split at h
        · simpa using h
        · cases h
      rw [this]; decide
    · rcases List.mem_append.1 h with h | h
      · exact hd _ c h
      · unfold qT at h
        split at h
        · cases h
        · rcases List.mem_cons.1 h with h | h
          · rw [h]; decide
          · exact hd _ c h
end Go.DI.Th
namespace Go.DI.Th
open Go Go.RowKit Go.DI
def Le {α : Type} (a b : Option α) : Prop := ∀ r, a = some r → b = some r
theorem Le.refl {α : Type} (a : Option α) : Le a a := fun _ h => h
theorem Le.none {α : Type} (b : Option α) : Le none b := fun _ h => by cases h
theorem Le.eqs {α : Type} {a b c d : Option α} (h : a = c) (h' : b = d) (k : Le c d) : Le a b := by subst h; subst h'; exact k
theorem Le.bind {α β : Type} {a b : Option α} {f g : α → Option β} (h : Le a b) (k : ∀ v, Le (f v) (g v)) : Le (a.bind f) (b.bind g) := by
  intro r hr
  cases ha : a with
  | none => rw [ha] at hr; cases hr
  | some v =>
    rw [ha] at hr
    rw [h v ha]
    exact k v r hr
theorem Le.ite {α : Type} {c : Prop} [Decidable c] {a b a' b' : Option α} (h : Le a a') (k : Le b b') : Le (if c then a else b) (if c then a' else b') := by
  split
  · exact h
  · exact k
theorem Ev.mono {α : Type} {g : Nat → Option α} (h : ∀ k, Le (g k) (g (k + 1))) {K : Nat} {r : α} (hk : g K = some r) : Ev g r := by
  refine ⟨K, fun n hn => ?_⟩
  induction hn with
  | refl => exact hk
  | step _ ih => exact h _ r ih
theorem nat_trim.monoL (k : Nat) : (∀ x0 x1, Le (nat_trim.l0 k x0 x1) (nat_trim.l0 (k + 1) x0 x1)) := by
  induction k with
  | zero => exact fun _ _ => Le.none _
  | succ k ih =>
    intro x0 x1
    refine Le.eqs (nat_trim.l0.eq_2 ..) (nat_trim.l0.eq_2 ..) ?_
    repeat' (first
      | with_reducible exact Le.refl _
      | with_reducible refine Le.ite ?_ ?_
      | with_reducible exact ih _ _
      | with_reducible refine Le.bind (ih _ _) (fun _ => ?_)
      | with_reducible refine Le.bind (Le.refl _) (fun _ => ?_)
      | split)
theorem nat_trim.mono (k : Nat) : ∀ x0, Le (nat_trim.f k x0) (nat_trim.f (k + 1) x0) := by
  intro x0
  unfold nat_trim.f
  repeat' (first
    | with_reducible exact Le.refl _
    | with_reducible refine Le.ite ?_ ?_
    | with_reducible exact (nat_trim.monoL k) _ _
    | with_reducible refine Le.bind (Le.refl _) (fun _ => ?_)
    | split)
theorem nat_Clean.monoL (k : Nat) : (∀ x0 x1 x2 x3, Le (nat_Clean.l0 k x0 x1 x2 x3) (nat_Clean.l0 (k + 1) x0 x1 x2 x3)) := by
  induction k with
  | zero => exact fun _ _ _ _ => Le.none _
  | succ k ih =>
    intro x0 x1 x2 x3
    refine Le.eqs (nat_Clean.l0.eq_2 ..) (nat_Clean.l0.eq_2 ..) ?_
    repeat' (first
      | with_reducible exact Le.refl _
      | with_reducible refine Le.ite ?_ ?_
      | with_reducible exact ih _ _ _ _
      | with_reducible refine Le.bind (ih _ _ _ _) (fun _ => ?_)
      | with_reducible refine Le.bind (nat_trim.mono k _) (fun _ => ?_)
      | with_reducible exact nat_trim.mono k _
      | with_reducible refine Le.bind (Le.refl _) (fun _ => ?_)
      | split)
theorem nat_Clean.mono (k : Nat) : ∀ x0, Le (nat_Clean.f k x0) (nat_Clean.f (k + 1) x0) := by
  intro x0
  unfold nat_Clean.f
  repeat' (first
    | with_reducible exact Le.refl _
    | with_reducible refine Le.ite ?_ ?_
    | with_reducible exact (nat_Clean.monoL k) _ _ _ _
    | with_reducible refine Le.bind (Le.refl _) (fun _ => ?_)
    | split)
theorem whole_Clean.mono (k : Nat) : ∀ x0 x1, Le (whole_Clean.f k x0 x1) (whole_Clean.f (k + 1) x0 x1) := by
  intro x0 x1
  unfold whole_Clean.f
  repeat' (first
    | with_reducible exact Le.refl _
    | with_reducible refine Le.ite ?_ ?_
    | with_reducible refine Le.bind (nat_Clean.mono k _) (fun _ => ?_)
    | with_reducible exact nat_Clean.mono k _
    | with_reducible refine Le.bind (Le.refl _) (fun _ => ?_)
    | split)
theorem whole_Neg.mono (k : Nat) : ∀ x0 x1, Le (whole_Neg.f k x0 x1) (whole_Neg.f (k + 1) x0 x1) := by
  intro x0 x1
  unfold whole_Neg.f
  repeat' (first
    | with_reducible exact Le.refl _
    | with_reducible refine Le.ite ?_ ?_
    | with_reducible refine Le.bind (whole_Clean.mono k _ _) (fun _ => ?_)
    | with_reducible exact whole_Clean.mono k _ _
    | with_reducible refine Le.bind (Le.refl _) (fun _ => ?_)
    | split)
theorem nat_Of.mono (k : Nat) : ∀ x0, Le (nat_Of.f k x0) (nat_Of.f (k + 1) x0) := by
  intro x0
  unfold nat_Of.f
  repeat' (first
    | with_reducible exact Le.refl _
    | with_reducible refine Le.ite ?_ ?_
    | with_reducible refine Le.bind (nat_trim.mono k _) (fun _ => ?_)
    | with_reducible exact nat_trim.mono k _
    | with_reducible refine Le.bind (Le.refl _) (fun _ => ?_)
    | split)
theorem nat_order.monoL (k : Nat) : (∀ x0 x1 x2, Le (nat_order.l0 k x0 x1 x2) (nat_order.l0 (k + 1) x0 x1 x2)) := by
  induction k with
  | zero => exact fun _ _ _ => Le.none _
  | succ k ih =>
    intro x0 x1 x2
    refine Le.eqs (nat_order.l0.eq_2 ..) (nat_order.l0.eq_2 ..) ?_
    repeat' (first
      | with_reducible exact Le.refl _
      | with_reducible refine Le.ite ?_ ?_
      | with_reducible exact ih _ _ _
      | with_reducible refine Le.bind (ih _ _ _) (fun _ => ?_)
      | with_reducible refine Le.bind (Le.refl _) (fun _ => ?_)
      | split)
theorem nat_order.mono (k : Nat) : ∀ x0 x1, Le (nat_order.f k x0 x1) (nat_order.f (k + 1) x0 x1) := by
  intro x0 x1
  unfold nat_order.f
  repeat' (first
    | with_reducible exact Le.refl _
    | with_reducible refine Le.ite ?_ ?_
    | with_reducible exact (nat_order.monoL k) _ _ _
    | with_reducible refine Le.bind (Le.refl _) (fun _ => ?_)
    | split)
theorem nat_To.mono (k : Nat) : ∀ x0, Le (nat_To.f k x0) (nat_To.f (k + 1) x0) := by
  intro x0
  unfold nat_To.f
  repeat' (first
    | with_reducible exact Le.refl _
    | with_reducible refine Le.ite ?_ ?_
    | with_reducible refine Le.bind (nat_Clean.mono k _) (fun _ => ?_)
    | with_reducible exact nat_Clean.mono k _
    | with_reducible refine Le.bind (Le.refl _) (fun _ => ?_)
    | split)
theorem nat_euclid.monoL (k : Nat) : (∀ x0 x1, Le (nat_euclid.l0 k x0 x1) (nat_euclid.l0 (k + 1) x0 x1)) := by
  induction k with
  | zero => exact fun _ _ => Le.none _
  | succ k ih =>
    intro x0 x1
    refine Le.eqs (nat_euclid.l0.eq_2 ..) (nat_euclid.l0.eq_2 ..) ?_
    repeat' (first
      | with_reducible exact Le.refl _
      | with_reducible refine Le.ite ?_ ?_
      | with_reducible exact ih _ _
      | with_reducible refine Le.bind (ih _ _) (fun _ => ?_)
      | with_reducible refine Le.bind (nat_Of.mono k _) (fun _ => ?_)
      | with_reducible exact nat_Of.mono k _
      | with_reducible refine Le.bind (Le.refl _) (fun _ => ?_)
      | split)
theorem nat_euclid.mono (k : Nat) : ∀ x0 x1, Le (nat_euclid.f k x0 x1) (nat_euclid.f (k + 1) x0 x1) := by
  intro x0 x1
  unfold nat_euclid.f
  repeat' (first
    | with_reducible exact Le.refl _
    | with_reducible refine Le.ite ?_ ?_
    | with_reducible exact (nat_euclid.monoL k) _ _
    | with_reducible refine Le.bind (nat_To.mono k _) (fun _ => ?_)
    | with_reducible exact nat_To.mono k _
    | with_reducible refine Le.bind (Le.refl _) (fun _ => ?_)
    | split)
theorem nat_zeros.monoL (k : Nat) : (∀ x0 x1 x2 x3, Le (nat_zeros.l0 k x0 x1 x2 x3) (nat_zeros.l0 (k + 1) x0 x1 x2 x3)) := by
  induction k with
  | zero => exact fun _ _ _ _ => Le.none _
  | succ k ih =>
    intro x0 x1 x2 x3
    refine Le.eqs (nat_zeros.l0.eq_2 ..) (nat_zeros.l0.eq_2 ..) ?_
    repeat' (first
      | with_reducible exact Le.refl _
      | with_reducible refine Le.ite ?_ ?_
      | with_reducible exact ih _ _ _ _
      | with_reducible refine Le.bind (ih _ _ _ _) (fun _ => ?_)
      | with_reducible refine Le.bind (Le.refl _) (fun _ => ?_)
      | split)
theorem nat_zeros.mono (k : Nat) : ∀ x0, Le (nat_zeros.f k x0) (nat_zeros.f (k + 1) x0) := by
  intro x0
  unfold nat_zeros.f
  repeat' (first
    | with_reducible exact Le.refl _
    | with_reducible refine Le.ite ?_ ?_
    | with_reducible exact (nat_zeros.monoL k) _ _ _ _
    | with_reducible refine Le.bind (Le.refl _) (fun _ => ?_)
    | split)
theorem nat_shr.monoL (k : Nat) : (∀ x0 x1 x2 x3 x4 x5, Le (nat_shr.l0 k x0 x1 x2 x3 x4 x5) (nat_shr.l0 (k + 1) x0 x1 x2 x3 x4 x5)) := by
  induction k with
  | zero => exact fun _ _ _ _ _ _ => Le.none _
  | succ k ih =>
    intro x0 x1 x2 x3 x4 x5
    refine Le.eqs (nat_shr.l0.eq_2 ..) (nat_shr.l0.eq_2 ..) ?_
    repeat' (first
      | with_reducible exact Le.refl _
      | with_reducible refine Le.ite ?_ ?_
      | with_reducible exact ih _ _ _ _ _ _
      | with_reducible refine Le.bind (ih _ _ _ _ _ _) (fun _ => ?_)
      | with_reducible refine Le.bind (nat_trim.mono k _) (fun _ => ?_)
      | with_reducible exact nat_trim.mono k _
      | with_reducible refine Le.bind (Le.refl _) (fun _ => ?_)
      | split)
theorem nat_shr.mono (k : Nat) : ∀ x0 x1, Le (nat_shr.f k x0 x1) (nat_shr.f (k + 1) x0 x1) := by
  intro x0 x1
  unfold nat_shr.f
  repeat' (first
    | with_reducible exact Le.refl _
    | with_reducible refine Le.ite ?_ ?_
    | with_reducible exact (nat_shr.monoL k) _ _ _ _ _ _
    | with_reducible refine Le.bind (Le.refl _) (fun _ => ?_)
    | split)
theorem nat_trimM.monoL (k : Nat) : (∀ x0 x1, Le (nat_trimM.l0 k x0 x1) (nat_trimM.l0 (k + 1) x0 x1)) := by
  induction k with
  | zero => exact fun _ _ => Le.none _
  | succ k ih =>
    intro x0 x1
    refine Le.eqs (nat_trimM.l0.eq_2 ..) (nat_trimM.l0.eq_2 ..) ?_
    repeat' (first
      | with_reducible exact Le.refl _
      | with_reducible refine Le.ite ?_ ?_
      | with_reducible exact ih _ _
      | with_reducible refine Le.bind (ih _ _) (fun _ => ?_)
      | with_reducible refine Le.bind (Le.refl _) (fun _ => ?_)
      | split)
theorem nat_trimM.mono (k : Nat) : ∀ x0, Le (nat_trimM.f k x0) (nat_trimM.f (k + 1) x0) := by
  intro x0
  unfold nat_trimM.f
  repeat' (first
    | with_reducible exact Le.refl _
    | with_reducible refine Le.ite ?_ ?_
    | with_reducible exact (nat_trimM.monoL k) _ _
    | with_reducible refine Le.bind (Le.refl _) (fun _ => ?_)
    | split)
theorem nat_shl.monoL (k : Nat) : (∀ x0 x1 x2 x3 x4 x5, Le (nat_shl.l0 k x0 x1 x2 x3 x4 x5) (nat_shl.l0 (k + 1) x0 x1 x2 x3 x4 x5)) := by
  induction k with
  | zero => exact fun _ _ _ _ _ _ => Le.none _
  | succ k ih =>
    intro x0 x1 x2 x3 x4 x5
    refine Le.eqs (nat_shl.l0.eq_2 ..) (nat_shl.l0.eq_2 ..) ?_
    repeat' (first
      | with_reducible exact Le.refl _
      | with_reducible refine Le.ite ?_ ?_
      | with_reducible exact ih _ _ _ _ _ _
      | with_reducible refine Le.bind (ih _ _ _ _ _ _) (fun _ => ?_)
      | with_reducible refine Le.bind (nat_trimM.mono k _) (fun _ => ?_)
      | with_reducible exact nat_trimM.mono k _
      | with_reducible refine Le.bind (Le.refl _) (fun _ => ?_)
      | split)
theorem nat_shl.mono (k : Nat) : ∀ x0 x1, Le (nat_shl.f k x0 x1) (nat_shl.f (k + 1) x0 x1) := by
  intro x0 x1
  unfold nat_shl.f
  repeat' (first
    | with_reducible exact Le.refl _
    | with_reducible refine Le.ite ?_ ?_
    | with_reducible exact (nat_shl.monoL k) _ _ _ _ _ _
    | with_reducible refine Le.bind (Le.refl _) (fun _ => ?_)
    | split)
theorem nat_small.monoL (k : Nat) : (∀ x0 x1 x2 x3 x4, Le (nat_small.l0 k x0 x1 x2 x3 x4) (nat_small.l0 (k + 1) x0 x1 x2 x3 x4)) := by
  induction k with
  | zero => exact fun _ _ _ _ _ => Le.none _
  | succ k ih =>
    intro x0 x1 x2 x3 x4
    refine Le.eqs (nat_small.l0.eq_2 ..) (nat_small.l0.eq_2 ..) ?_
    repeat' (first
      | with_reducible exact Le.refl _
      | with_reducible refine Le.ite ?_ ?_
      | with_reducible exact ih _ _ _ _ _
      | with_reducible refine Le.bind (ih _ _ _ _ _) (fun _ => ?_)
      | with_reducible refine Le.bind (nat_trim.mono k _) (fun _ => ?_)
      | with_reducible exact nat_trim.mono k _
      | with_reducible refine Le.bind (Le.refl _) (fun _ => ?_)
      | split)
theorem nat_small.mono (k : Nat) : ∀ x0 x1, Le (nat_small.f k x0 x1) (nat_small.f (k + 1) x0 x1) := by
  intro x0 x1
  unfold nat_small.f
  repeat' (first
    | with_reducible exact Le.refl _
    | with_reducible refine Le.ite ?_ ?_
    | with_reducible exact (nat_small.monoL k) _ _ _ _ _
    | with_reducible refine Le.bind (Le.refl _) (fun _ => ?_)
    | split)
theorem nat_take.monoL (k : Nat) : (∀ x0 x1 x2 x3 x4 x5 x6, Le (nat_take.l0 k x0 x1 x2 x3 x4 x5 x6) (nat_take.l0 (k + 1) x0 x1 x2 x3 x4 x5 x6)) := by
  induction k with
  | zero => exact fun _ _ _ _ _ _ _ => Le.none _
  | succ k ih =>
    intro x0 x1 x2 x3 x4 x5 x6
    refine Le.eqs (nat_take.l0.eq_2 ..) (nat_take.l0.eq_2 ..) ?_
    repeat' (first
      | with_reducible exact Le.refl _
      | with_reducible refine Le.ite ?_ ?_
      | with_reducible exact ih _ _ _ _ _ _ _
      | with_reducible refine Le.bind (ih _ _ _ _ _ _ _) (fun _ => ?_)
      | with_reducible refine Le.bind (Le.refl _) (fun _ => ?_)
      | split)
theorem nat_take.mono (k : Nat) : ∀ x0 x1 x2, Le (nat_take.f k x0 x1 x2) (nat_take.f (k + 1) x0 x1 x2) := by
  intro x0 x1 x2
  unfold nat_take.f
  repeat' (first
    | with_reducible exact Le.refl _
    | with_reducible refine Le.ite ?_ ?_
    | with_reducible exact (nat_take.monoL k) _ _ _ _ _ _ _
    | with_reducible refine Le.bind (Le.refl _) (fun _ => ?_)
    | split)
theorem nat_give.monoL (k : Nat) : (∀ x0 x1 x2 x3 x4, Le (nat_give.l0 k x0 x1 x2 x3 x4) (nat_give.l0 (k + 1) x0 x1 x2 x3 x4)) := by
  induction k with
  | zero => exact fun _ _ _ _ _ => Le.none _
  | succ k ih =>
    intro x0 x1 x2 x3 x4
    refine Le.eqs (nat_give.l0.eq_2 ..) (nat_give.l0.eq_2 ..) ?_
    repeat' (first
      | with_reducible exact Le.refl _
      | with_reducible refine Le.ite ?_ ?_
      | with_reducible exact ih _ _ _ _ _
      | with_reducible refine Le.bind (ih _ _ _ _ _) (fun _ => ?_)
      | with_reducible refine Le.bind (Le.refl _) (fun _ => ?_)
      | split)
theorem nat_give.mono (k : Nat) : ∀ x0 x1, Le (nat_give.f k x0 x1) (nat_give.f (k + 1) x0 x1) := by
  intro x0 x1
  unfold nat_give.f
  repeat' (first
    | with_reducible exact Le.refl _
    | with_reducible refine Le.ite ?_ ?_
    | with_reducible exact (nat_give.monoL k) _ _ _ _ _
    | with_reducible refine Le.bind (Le.refl _) (fun _ => ?_)
    | split)
theorem nat_digit.monoL (k : Nat) : (∀ x0 x1 x2 x3 x4, Le (nat_digit.l0 k x0 x1 x2 x3 x4) (nat_digit.l0 (k + 1) x0 x1 x2 x3 x4)) := by
  induction k with
  | zero => exact fun _ _ _ _ _ => Le.none _
  | succ k ih =>
    intro x0 x1 x2 x3 x4
    refine Le.eqs (nat_digit.l0.eq_2 ..) (nat_digit.l0.eq_2 ..) ?_
    repeat' (first
      | with_reducible exact Le.refl _
      | with_reducible refine Le.ite ?_ ?_
      | with_reducible exact ih _ _ _ _ _
      | with_reducible refine Le.bind (ih _ _ _ _ _) (fun _ => ?_)
      | with_reducible refine Le.bind (nat_take.mono k _ _ _) (fun _ => ?_)
      | with_reducible refine Le.bind (nat_give.mono k _ _) (fun _ => ?_)
      | with_reducible exact nat_take.mono k _ _ _
      | with_reducible exact nat_give.mono k _ _
      | with_reducible refine Le.bind (Le.refl _) (fun _ => ?_)
      | split)
theorem nat_digit.mono (k : Nat) : ∀ x0 x1, Le (nat_digit.f k x0 x1) (nat_digit.f (k + 1) x0 x1) := by
  intro x0 x1
  unfold nat_digit.f
  repeat' (first
    | with_reducible exact Le.refl _
    | with_reducible refine Le.ite ?_ ?_
    | with_reducible exact (nat_digit.monoL k) _ _ _ _ _
    | with_reducible refine Le.bind (Le.refl _) (fun _ => ?_)
    | split)
theorem nat_long.monoL (k : Nat) : (∀ x0 x1 x2 x3 x4 x5, Le (nat_long.l0 k x0 x1 x2 x3 x4 x5) (nat_long.l0 (k + 1) x0 x1 x2 x3 x4 x5)) := by
  induction k with
  | zero => exact fun _ _ _ _ _ _ => Le.none _
  | succ k ih =>
    intro x0 x1 x2 x3 x4 x5
    refine Le.eqs (nat_long.l0.eq_2 ..) (nat_long.l0.eq_2 ..) ?_
    repeat' (first
      | with_reducible exact Le.refl _
      | with_reducible refine Le.ite ?_ ?_
      | with_reducible exact ih _ _ _ _ _ _
      | with_reducible refine Le.bind (ih _ _ _ _ _ _) (fun _ => ?_)
      | with_reducible refine Le.bind (nat_digit.mono k _ _) (fun _ => ?_)
      | with_reducible refine Le.bind (nat_trim.mono k _) (fun _ => ?_)
      | with_reducible refine Le.bind (nat_shr.mono k _ _) (fun _ => ?_)
      | with_reducible exact nat_digit.mono k _ _
      | with_reducible exact nat_trim.mono k _
      | with_reducible exact nat_shr.mono k _ _
      | with_reducible refine Le.bind (Le.refl _) (fun _ => ?_)
      | split)
theorem nat_long.mono (k : Nat) : ∀ x0 x1, Le (nat_long.f k x0 x1) (nat_long.f (k + 1) x0 x1) := by
  intro x0 x1
  unfold nat_long.f
  repeat' (first
    | with_reducible exact Le.refl _
    | with_reducible refine Le.ite ?_ ?_
    | with_reducible exact (nat_long.monoL k) _ _ _ _ _ _
    | with_reducible refine Le.bind (nat_shl.mono k _ _) (fun _ => ?_)
    | with_reducible exact nat_shl.mono k _ _
    | with_reducible refine Le.bind (Le.refl _) (fun _ => ?_)
    | split)
theorem nat_DivMod.mono (k : Nat) : ∀ x0 x1, Le (nat_DivMod.f k x0 x1) (nat_DivMod.f (k + 1) x0 x1) := by
  intro x0 x1
  unfold nat_DivMod.f
  repeat' (first
    | with_reducible exact Le.refl _
    | with_reducible refine Le.ite ?_ ?_
    | with_reducible refine Le.bind (nat_Clean.mono k _) (fun _ => ?_)
    | with_reducible refine Le.bind (nat_order.mono k _ _) (fun _ => ?_)
    | with_reducible refine Le.bind (nat_small.mono k _ _) (fun _ => ?_)
    | with_reducible refine Le.bind (nat_Of.mono k _) (fun _ => ?_)
    | with_reducible refine Le.bind (nat_long.mono k _ _) (fun _ => ?_)
    | with_reducible exact nat_Clean.mono k _
    | with_reducible exact nat_order.mono k _ _
    | with_reducible exact nat_small.mono k _ _
    | with_reducible exact nat_Of.mono k _
    | with_reducible exact nat_long.mono k _ _
    | with_reducible refine Le.bind (Le.refl _) (fun _ => ?_)
    | split)
theorem nat_rest.mono (k : Nat) : ∀ x0 x1, Le (nat_rest.f k x0 x1) (nat_rest.f (k + 1) x0 x1) := by
  intro x0 x1
  unfold nat_rest.f
  repeat' (first
    | with_reducible exact Le.refl _
    | with_reducible refine Le.ite ?_ ?_
    | with_reducible refine Le.bind (nat_DivMod.mono k _ _) (fun _ => ?_)
    | with_reducible exact nat_DivMod.mono k _ _
    | with_reducible refine Le.bind (Le.refl _) (fun _ => ?_)
    | split)
theorem nat_minus.monoL (k : Nat) : (∀ x0 x1 x2 x3 x4 x5, Le (nat_minus.l0 k x0 x1 x2 x3 x4 x5) (nat_minus.l0 (k + 1) x0 x1 x2 x3 x4 x5)) := by
  induction k with
  | zero => exact fun _ _ _ _ _ _ => Le.none _
  | succ k ih =>
    intro x0 x1 x2 x3 x4 x5
    refine Le.eqs (nat_minus.l0.eq_2 ..) (nat_minus.l0.eq_2 ..) ?_
    repeat' (first
      | with_reducible exact Le.refl _
      | with_reducible refine Le.ite ?_ ?_
      | with_reducible exact ih _ _ _ _ _ _
      | with_reducible refine Le.bind (ih _ _ _ _ _ _) (fun _ => ?_)
      | with_reducible refine Le.bind (nat_trim.mono k _) (fun _ => ?_)
      | with_reducible exact nat_trim.mono k _
      | with_reducible refine Le.bind (Le.refl _) (fun _ => ?_)
      | split)
theorem nat_minus.mono (k : Nat) : ∀ x0 x1, Le (nat_minus.f k x0 x1) (nat_minus.f (k + 1) x0 x1) := by
  intro x0 x1
  unfold nat_minus.f
  repeat' (first
    | with_reducible exact Le.refl _
    | with_reducible refine Le.ite ?_ ?_
    | with_reducible exact (nat_minus.monoL k) _ _ _ _ _ _
    | with_reducible refine Le.bind (Le.refl _) (fun _ => ?_)
    | split)
theorem nat_Gcd.monoL (k : Nat) : (∀ x0 x1 x2 x3, Le (nat_Gcd.l0 k x0 x1 x2 x3) (nat_Gcd.l0 (k + 1) x0 x1 x2 x3)) := by
  induction k with
  | zero => exact fun _ _ _ _ => Le.none _
  | succ k ih =>
    intro x0 x1 x2 x3
    refine Le.eqs (nat_Gcd.l0.eq_2 ..) (nat_Gcd.l0.eq_2 ..) ?_
    repeat' (first
      | with_reducible exact Le.refl _
      | with_reducible refine Le.ite ?_ ?_
      | with_reducible exact ih _ _ _ _
      | with_reducible refine Le.bind (ih _ _ _ _) (fun _ => ?_)
      | with_reducible refine Le.bind (nat_order.mono k _ _) (fun _ => ?_)
      | with_reducible refine Le.bind (nat_shl.mono k _ _) (fun _ => ?_)
      | with_reducible refine Le.bind (nat_rest.mono k _ _) (fun _ => ?_)
      | with_reducible refine Le.bind (nat_zeros.mono k _) (fun _ => ?_)
      | with_reducible refine Le.bind (nat_shr.mono k _ _) (fun _ => ?_)
      | with_reducible refine Le.bind (nat_minus.mono k _ _) (fun _ => ?_)
      | with_reducible exact nat_order.mono k _ _
      | with_reducible exact nat_shl.mono k _ _
      | with_reducible exact nat_rest.mono k _ _
      | with_reducible exact nat_zeros.mono k _
      | with_reducible exact nat_shr.mono k _ _
      | with_reducible exact nat_minus.mono k _ _
      | with_reducible refine Le.bind (Le.refl _) (fun _ => ?_)
      | split)
theorem nat_Gcd.mono (k : Nat) : ∀ x0 x1, Le (nat_Gcd.f k x0 x1) (nat_Gcd.f (k + 1) x0 x1) := by
  intro x0 x1
  unfold nat_Gcd.f
  repeat' (first
    | with_reducible exact Le.refl _
    | with_reducible refine Le.ite ?_ ?_
    | with_reducible exact (nat_Gcd.monoL k) _ _ _ _
    | with_reducible refine Le.bind (nat_Clean.mono k _) (fun _ => ?_)
    | with_reducible refine Le.bind (nat_euclid.mono k _ _) (fun _ => ?_)
    | with_reducible refine Le.bind (nat_zeros.mono k _) (fun _ => ?_)
    | with_reducible refine Le.bind (nat_shr.mono k _ _) (fun _ => ?_)
    | with_reducible exact nat_Clean.mono k _
    | with_reducible exact nat_euclid.mono k _ _
    | with_reducible exact nat_zeros.mono k _
    | with_reducible exact nat_shr.mono k _ _
    | with_reducible refine Le.bind (Le.refl _) (fun _ => ?_)
    | split)
theorem ratio_form.mono (k : Nat) : ∀ x0 x1 x2, Le (ratio_form.f k x0 x1 x2) (ratio_form.f (k + 1) x0 x1 x2) := by
  intro x0 x1 x2
  unfold ratio_form.f
  repeat' (first
    | with_reducible exact Le.refl _
    | with_reducible refine Le.ite ?_ ?_
    | with_reducible refine Le.bind (nat_Of.mono k _) (fun _ => ?_)
    | with_reducible refine Le.bind (nat_Gcd.mono k _ _) (fun _ => ?_)
    | with_reducible refine Le.bind (nat_DivMod.mono k _ _) (fun _ => ?_)
    | with_reducible exact nat_Of.mono k _
    | with_reducible exact nat_Gcd.mono k _ _
    | with_reducible exact nat_DivMod.mono k _ _
    | with_reducible refine Le.bind (Le.refl _) (fun _ => ?_)
    | split)
theorem ratio_Zero.mono (k : Nat) : Le (ratio_Zero.f k ) (ratio_Zero.f (k + 1) ) := by
  unfold ratio_Zero.f
  repeat' (first
    | with_reducible exact Le.refl _
    | with_reducible refine Le.ite ?_ ?_
    | with_reducible refine Le.bind (nat_Of.mono k _) (fun _ => ?_)
    | with_reducible exact nat_Of.mono k _
    | with_reducible refine Le.bind (Le.refl _) (fun _ => ?_)
    | split)
theorem ratio_Clean.mono (k : Nat) : ∀ x0 x1 x2, Le (ratio_Clean.f k x0 x1 x2) (ratio_Clean.f (k + 1) x0 x1 x2) := by
  intro x0 x1 x2
  unfold ratio_Clean.f
  repeat' (first
    | with_reducible exact Le.refl _
    | with_reducible refine Le.ite ?_ ?_
    | with_reducible refine Le.bind (nat_Clean.mono k _) (fun _ => ?_)
    | with_reducible refine Le.bind (ratio_Zero.mono k ) (fun _ => ?_)
    | with_reducible refine Le.bind (whole_Clean.mono k _ _) (fun _ => ?_)
    | with_reducible refine Le.bind (ratio_form.mono k _ _ _) (fun _ => ?_)
    | with_reducible exact nat_Clean.mono k _
    | with_reducible exact ratio_Zero.mono k 
    | with_reducible exact whole_Clean.mono k _ _
    | with_reducible exact ratio_form.mono k _ _ _
    | with_reducible refine Le.bind (Le.refl _) (fun _ => ?_)
    | split)
theorem nat_Add.monoL (k : Nat) : (∀ x0 x1 x2 x3 x4 x5, Le (nat_Add.l0 k x0 x1 x2 x3 x4 x5) (nat_Add.l0 (k + 1) x0 x1 x2 x3 x4 x5)) := by
  induction k with
  | zero => exact fun _ _ _ _ _ _ => Le.none _
  | succ k ih =>
    intro x0 x1 x2 x3 x4 x5
    refine Le.eqs (nat_Add.l0.eq_2 ..) (nat_Add.l0.eq_2 ..) ?_
    repeat' (first
      | with_reducible exact Le.refl _
      | with_reducible refine Le.ite ?_ ?_
      | with_reducible exact ih _ _ _ _ _ _
      | with_reducible refine Le.bind (ih _ _ _ _ _ _) (fun _ => ?_)
      | with_reducible refine Le.bind (nat_trim.mono k _) (fun _ => ?_)
      | with_reducible exact nat_trim.mono k _
      | with_reducible refine Le.bind (Le.refl _) (fun _ => ?_)
      | split)
theorem nat_Add.mono (k : Nat) : ∀ x0 x1, Le (nat_Add.f k x0 x1) (nat_Add.f (k + 1) x0 x1) := by
  intro x0 x1
  unfold nat_Add.f
  repeat' (first
    | with_reducible exact Le.refl _
    | with_reducible refine Le.ite ?_ ?_
    | with_reducible exact (nat_Add.monoL k) _ _ _ _ _ _
    | with_reducible refine Le.bind (nat_Clean.mono k _) (fun _ => ?_)
    | with_reducible exact nat_Clean.mono k _
    | with_reducible refine Le.bind (Le.refl _) (fun _ => ?_)
    | split)
theorem ratio_Neg.mono (k : Nat) : ∀ x0 x1 x2, Le (ratio_Neg.f k x0 x1 x2) (ratio_Neg.f (k + 1) x0 x1 x2) := by
  intro x0 x1 x2
  unfold ratio_Neg.f
  repeat' (first
    | with_reducible exact Le.refl _
    | with_reducible refine Le.ite ?_ ?_
    | with_reducible refine Le.bind (ratio_Clean.mono k _ _ _) (fun _ => ?_)
    | with_reducible refine Le.bind (whole_Neg.mono k _ _) (fun _ => ?_)
    | with_reducible exact ratio_Clean.mono k _ _ _
    | with_reducible exact whole_Neg.mono k _ _
    | with_reducible refine Le.bind (Le.refl _) (fun _ => ?_)
    | split)
theorem nat_Mul.monoL (k : Nat) : (∀ x0 x1 x2 x3 x4, Le (nat_Mul.l0 k x0 x1 x2 x3 x4) (nat_Mul.l0 (k + 1) x0 x1 x2 x3 x4)) ∧ (∀ x0 x1 x2 x3 x4 x5 x6 x7 x8 x9 x10, Le (nat_Mul.l1 k x0 x1 x2 x3 x4 x5 x6 x7 x8 x9 x10) (nat_Mul.l1 (k + 1) x0 x1 x2 x3 x4 x5 x6 x7 x8 x9 x10)) := by
  induction k with
  | zero => exact ⟨fun _ _ _ _ _ => Le.none _, fun _ _ _ _ _ _ _ _ _ _ _ => Le.none _⟩
  | succ k ih =>
    refine ⟨?_, ?_⟩
    · intro x0 x1 x2 x3 x4
      refine Le.eqs (nat_Mul.l0.eq_2 ..) (nat_Mul.l0.eq_2 ..) ?_
      repeat' (first
        | with_reducible exact Le.refl _
        | with_reducible refine Le.ite ?_ ?_
        | with_reducible exact ih.2 _ _ _ _ _ _ _ _ _ _ _
        | with_reducible refine Le.bind (ih.2 _ _ _ _ _ _ _ _ _ _ _) (fun _ => ?_)
        | with_reducible refine Le.bind (nat_trim.mono k _) (fun _ => ?_)
        | with_reducible exact nat_trim.mono k _
        | with_reducible refine Le.bind (Le.refl _) (fun _ => ?_)
        | split)
    · intro x0 x1 x2 x3 x4 x5 x6 x7 x8 x9 x10
      refine Le.eqs (nat_Mul.l1.eq_2 ..) (nat_Mul.l1.eq_2 ..) ?_
      repeat' (first
        | with_reducible exact Le.refl _
        | with_reducible refine Le.ite ?_ ?_
        | with_reducible exact ih.1 _ _ _ _ _
        | with_reducible refine Le.bind (ih.1 _ _ _ _ _) (fun _ => ?_)
        | with_reducible exact ih.2 _ _ _ _ _ _ _ _ _ _ _
        | with_reducible refine Le.bind (ih.2 _ _ _ _ _ _ _ _ _ _ _) (fun _ => ?_)
        | with_reducible refine Le.bind (Le.refl _) (fun _ => ?_)
        | split)
theorem nat_Mul.mono (k : Nat) : ∀ x0 x1, Le (nat_Mul.f k x0 x1) (nat_Mul.f (k + 1) x0 x1) := by
  intro x0 x1
  unfold nat_Mul.f
  repeat' (first
    | with_reducible exact Le.refl _
    | with_reducible refine Le.ite ?_ ?_
    | with_reducible exact (nat_Mul.monoL k).1 _ _ _ _ _
    | with_reducible refine Le.bind (nat_Clean.mono k _) (fun _ => ?_)
    | with_reducible exact nat_Clean.mono k _
    | with_reducible refine Le.bind (Le.refl _) (fun _ => ?_)
    | split)
theorem ratio_ten.monoL (k : Nat) : (∀ x0 x1 x2, Le (ratio_ten.l0 k x0 x1 x2) (ratio_ten.l0 (k + 1) x0 x1 x2)) := by
  induction k with
  | zero => exact fun _ _ _ => Le.none _
  | succ k ih =>
    intro x0 x1 x2
    refine Le.eqs (ratio_ten.l0.eq_2 ..) (ratio_ten.l0.eq_2 ..) ?_
    repeat' (first
      | with_reducible exact Le.refl _
      | with_reducible refine Le.ite ?_ ?_
      | with_reducible exact ih _ _ _
      | with_reducible refine Le.bind (ih _ _ _) (fun _ => ?_)
      | with_reducible refine Le.bind (nat_Of.mono k _) (fun _ => ?_)
      | with_reducible refine Le.bind (nat_Mul.mono k _ _) (fun _ => ?_)
      | with_reducible exact nat_Of.mono k _
      | with_reducible exact nat_Mul.mono k _ _
      | with_reducible refine Le.bind (Le.refl _) (fun _ => ?_)
      | split)
theorem ratio_ten.mono (k : Nat) : ∀ x0, Le (ratio_ten.f k x0) (ratio_ten.f (k + 1) x0) := by
  intro x0
  unfold ratio_ten.f
  repeat' (first
    | with_reducible exact Le.refl _
    | with_reducible refine Le.ite ?_ ?_
    | with_reducible exact (ratio_ten.monoL k) _ _ _
    | with_reducible refine Le.bind (nat_Of.mono k _) (fun _ => ?_)
    | with_reducible exact nat_Of.mono k _
    | with_reducible refine Le.bind (Le.refl _) (fun _ => ?_)
    | split)
theorem stringslite_Index.mono (k : Nat) : ∀ x0 x1, Le (stringslite_Index.f k x0 x1) (stringslite_Index.f (k + 1) x0 x1) := by
  intro x0 x1
  unfold stringslite_Index.f
  repeat' (first
    | with_reducible exact Le.refl _
    | with_reducible refine Le.ite ?_ ?_
    | with_reducible refine Le.bind (Le.refl _) (fun _ => ?_)
    | split)
theorem stringslite_Cut.mono (k : Nat) : ∀ x0 x1, Le (stringslite_Cut.f k x0 x1) (stringslite_Cut.f (k + 1) x0 x1) := by
  intro x0 x1
  unfold stringslite_Cut.f
  repeat' (first
    | with_reducible exact Le.refl _
    | with_reducible refine Le.ite ?_ ?_
    | with_reducible refine Le.bind (stringslite_Index.mono k _ _) (fun _ => ?_)
    | with_reducible exact stringslite_Index.mono k _ _
    | with_reducible refine Le.bind (Le.refl _) (fun _ => ?_)
    | split)
theorem strings_Cut.mono (k : Nat) : ∀ x0 x1, Le (strings_Cut.f k x0 x1) (strings_Cut.f (k + 1) x0 x1) := by
  intro x0 x1
  unfold strings_Cut.f
  repeat' (first
    | with_reducible exact Le.refl _
    | with_reducible refine Le.ite ?_ ?_
    | with_reducible refine Le.bind (stringslite_Cut.mono k _ _) (fun _ => ?_)
    | with_reducible exact stringslite_Cut.mono k _ _
    | with_reducible refine Le.bind (Le.refl _) (fun _ => ?_)
    | split)
theorem nat_plus.monoL (k : Nat) : (∀ x0 x1 x2 x3 x4, Le (nat_plus.l0 k x0 x1 x2 x3 x4) (nat_plus.l0 (k + 1) x0 x1 x2 x3 x4)) := by
  induction k with
  | zero => exact fun _ _ _ _ _ => Le.none _
  | succ k ih =>
    intro x0 x1 x2 x3 x4
    refine Le.eqs (nat_plus.l0.eq_2 ..) (nat_plus.l0.eq_2 ..) ?_
    repeat' (first
      | with_reducible exact Le.refl _
      | with_reducible refine Le.ite ?_ ?_
      | with_reducible exact ih _ _ _ _ _
      | with_reducible refine Le.bind (ih _ _ _ _ _) (fun _ => ?_)
      | with_reducible refine Le.bind (nat_trim.mono k _) (fun _ => ?_)
      | with_reducible exact nat_trim.mono k _
      | with_reducible refine Le.bind (Le.refl _) (fun _ => ?_)
      | split)
theorem nat_plus.mono (k : Nat) : ∀ x0 x1, Le (nat_plus.f k x0 x1) (nat_plus.f (k + 1) x0 x1) := by
  intro x0 x1
  unfold nat_plus.f
  repeat' (first
    | with_reducible exact Le.refl _
    | with_reducible refine Le.ite ?_ ?_
    | with_reducible exact (nat_plus.monoL k) _ _ _ _ _
    | with_reducible refine Le.bind (Le.refl _) (fun _ => ?_)
    | split)
theorem nat_Parse.monoL (k : Nat) : (∀ x0 x1 x2, Le (nat_Parse.l0 k x0 x1 x2) (nat_Parse.l0 (k + 1) x0 x1 x2)) ∧ (∀ x0 x1, Le (nat_Parse.l1 k x0 x1) (nat_Parse.l1 (k + 1) x0 x1)) ∧ (∀ x0 x1 x2 x3 x4 x5 x6, Le (nat_Parse.l2 k x0 x1 x2 x3 x4 x5 x6) (nat_Parse.l2 (k + 1) x0 x1 x2 x3 x4 x5 x6)) := by
  induction k with
  | zero => exact ⟨fun _ _ _ => Le.none _, fun _ _ => Le.none _, fun _ _ _ _ _ _ _ => Le.none _⟩
  | succ k ih =>
    refine ⟨?_, ?_, ?_⟩
    · intro x0 x1 x2
      refine Le.eqs (nat_Parse.l0.eq_2 ..) (nat_Parse.l0.eq_2 ..) ?_
      repeat' (first
        | with_reducible exact Le.refl _
        | with_reducible refine Le.ite ?_ ?_
        | with_reducible exact ih.1 _ _ _
        | with_reducible refine Le.bind (ih.1 _ _ _) (fun _ => ?_)
        | with_reducible exact ih.2.1 _ _
        | with_reducible refine Le.bind (ih.2.1 _ _) (fun _ => ?_)
        | with_reducible refine Le.bind (Le.refl _) (fun _ => ?_)
        | split)
    · intro x0 x1
      refine Le.eqs (nat_Parse.l1.eq_2 ..) (nat_Parse.l1.eq_2 ..) ?_
      repeat' (first
        | with_reducible exact Le.refl _
        | with_reducible refine Le.ite ?_ ?_
        | with_reducible exact ih.2.2 _ _ _ _ _ _ _
        | with_reducible refine Le.bind (ih.2.2 _ _ _ _ _ _ _) (fun _ => ?_)
        | with_reducible refine Le.bind (Le.refl _) (fun _ => ?_)
        | split)
    · intro x0 x1 x2 x3 x4 x5 x6
      refine Le.eqs (nat_Parse.l2.eq_2 ..) (nat_Parse.l2.eq_2 ..) ?_
      repeat' (first
        | with_reducible exact Le.refl _
        | with_reducible refine Le.ite ?_ ?_
        | with_reducible exact ih.2.1 _ _
        | with_reducible refine Le.bind (ih.2.1 _ _) (fun _ => ?_)
        | with_reducible exact ih.2.2 _ _ _ _ _ _ _
        | with_reducible refine Le.bind (ih.2.2 _ _ _ _ _ _ _) (fun _ => ?_)
        | with_reducible refine Le.bind (nat_plus.mono k _ _) (fun _ => ?_)
        | with_reducible exact nat_plus.mono k _ _
        | with_reducible refine Le.bind (Le.refl _) (fun _ => ?_)
        | split)
theorem nat_Parse.mono (k : Nat) : ∀ x0, Le (nat_Parse.f k x0) (nat_Parse.f (k + 1) x0) := by
  intro x0
  unfold nat_Parse.f
  repeat' (first
    | with_reducible exact Le.refl _
    | with_reducible refine Le.ite ?_ ?_
    | with_reducible exact (nat_Parse.monoL k).1 _ _ _
    | with_reducible refine Le.bind (Le.refl _) (fun _ => ?_)
    | split)
theorem ratio_plain.mono (k : Nat) : ∀ x0, Le (ratio_plain.f k x0) (ratio_plain.f (k + 1) x0) := by
  intro x0
  unfold ratio_plain.f
  repeat' (first
    | with_reducible exact Le.refl _
    | with_reducible refine Le.ite ?_ ?_
    | with_reducible refine Le.bind (strings_Cut.mono k _ _) (fun _ => ?_)
    | with_reducible refine Le.bind (nat_Parse.mono k _) (fun _ => ?_)
    | with_reducible refine Le.bind (ratio_form.mono k _ _ _) (fun _ => ?_)
    | with_reducible refine Le.bind (ratio_ten.mono k _) (fun _ => ?_)
    | with_reducible refine Le.bind (nat_Mul.mono k _ _) (fun _ => ?_)
    | with_reducible refine Le.bind (nat_Add.mono k _ _) (fun _ => ?_)
    | with_reducible refine Le.bind (nat_Of.mono k _) (fun _ => ?_)
    | with_reducible exact strings_Cut.mono k _ _
    | with_reducible exact nat_Parse.mono k _
    | with_reducible exact ratio_form.mono k _ _ _
    | with_reducible exact ratio_ten.mono k _
    | with_reducible exact nat_Mul.mono k _ _
    | with_reducible exact nat_Add.mono k _ _
    | with_reducible exact nat_Of.mono k _
    | with_reducible refine Le.bind (Le.refl _) (fun _ => ?_)
    | split)
theorem ratio_Parse.mono (k : Nat) : ∀ x0, Le (ratio_Parse.f k x0) (ratio_Parse.f (k + 1) x0) := by
  intro x0
  unfold ratio_Parse.f
  repeat' (first
    | with_reducible exact Le.refl _
    | with_reducible refine Le.ite ?_ ?_
    | with_reducible refine Le.bind (ratio_plain.mono k _) (fun _ => ?_)
    | with_reducible refine Le.bind (ratio_Neg.mono k _ _ _) (fun _ => ?_)
    | with_reducible exact ratio_plain.mono k _
    | with_reducible exact ratio_Neg.mono k _ _ _
    | with_reducible refine Le.bind (Le.refl _) (fun _ => ?_)
    | split)
theorem lex_Words.monoL (k : Nat) : (∀ x0 x1 x2, Le (lex_Words.l0 k x0 x1 x2) (lex_Words.l0 (k + 1) x0 x1 x2)) ∧ (∀ x0 x1 x2 x3, Le (lex_Words.l1 k x0 x1 x2 x3) (lex_Words.l1 (k + 1) x0 x1 x2 x3)) := by
  induction k with
  | zero => exact ⟨fun _ _ _ => Le.none _, fun _ _ _ _ => Le.none _⟩
  | succ k ih =>
    refine ⟨?_, ?_⟩
    · intro x0 x1 x2
      refine Le.eqs (lex_Words.l0.eq_2 ..) (lex_Words.l0.eq_2 ..) ?_
      repeat' (first
        | with_reducible exact Le.refl _
        | with_reducible refine Le.ite ?_ ?_
        | with_reducible exact ih.1 _ _ _
        | with_reducible refine Le.bind (ih.1 _ _ _) (fun _ => ?_)
        | with_reducible exact ih.2 _ _ _ _
        | with_reducible refine Le.bind (ih.2 _ _ _ _) (fun _ => ?_)
        | with_reducible refine Le.bind (Le.refl _) (fun _ => ?_)
        | split)
    · intro x0 x1 x2 x3
      refine Le.eqs (lex_Words.l1.eq_2 ..) (lex_Words.l1.eq_2 ..) ?_
      repeat' (first
        | with_reducible exact Le.refl _
        | with_reducible refine Le.ite ?_ ?_
        | with_reducible exact ih.1 _ _ _
        | with_reducible refine Le.bind (ih.1 _ _ _) (fun _ => ?_)
        | with_reducible exact ih.2 _ _ _ _
        | with_reducible refine Le.bind (ih.2 _ _ _ _) (fun _ => ?_)
        | with_reducible refine Le.bind (Le.refl _) (fun _ => ?_)
        | split)
theorem lex_Words.mono (k : Nat) : ∀ x0, Le (lex_Words.f k x0) (lex_Words.f (k + 1) x0) := by
  intro x0
  unfold lex_Words.f
  repeat' (first
    | with_reducible exact Le.refl _
    | with_reducible refine Le.ite ?_ ?_
    | with_reducible exact (lex_Words.monoL k).1 _ _ _
    | with_reducible refine Le.bind (Le.refl _) (fun _ => ?_)
    | split)
theorem rows_Cell.mono (k : Nat) : ∀ x0, Le (rows_Cell.f k x0) (rows_Cell.f (k + 1) x0) := by
  intro x0
  unfold rows_Cell.f
  repeat' (first
    | with_reducible exact Le.refl _
    | with_reducible refine Le.ite ?_ ?_
    | with_reducible refine Le.bind (ratio_Parse.mono k _) (fun _ => ?_)
    | with_reducible exact ratio_Parse.mono k _
    | with_reducible refine Le.bind (Le.refl _) (fun _ => ?_)
    | split)
theorem rows_Words.monoL (k : Nat) : (∀ x0 x1 x2 x3, Le (rows_Words.l0 k x0 x1 x2 x3) (rows_Words.l0 (k + 1) x0 x1 x2 x3)) := by
  induction k with
  | zero => exact fun _ _ _ _ => Le.none _
  | succ k ih =>
    intro x0 x1 x2 x3
    refine Le.eqs (rows_Words.l0.eq_2 ..) (rows_Words.l0.eq_2 ..) ?_
    repeat' (first
      | with_reducible exact Le.refl _
      | with_reducible refine Le.ite ?_ ?_
      | with_reducible exact ih _ _ _ _
      | with_reducible refine Le.bind (ih _ _ _ _) (fun _ => ?_)
      | with_reducible refine Le.bind (rows_Cell.mono k _) (fun _ => ?_)
      | with_reducible exact rows_Cell.mono k _
      | with_reducible refine Le.bind (Le.refl _) (fun _ => ?_)
      | split)
theorem rows_Words.mono (k : Nat) : ∀ x0, Le (rows_Words.f k x0) (rows_Words.f (k + 1) x0) := by
  intro x0
  unfold rows_Words.f
  repeat' (first
    | with_reducible exact Le.refl _
    | with_reducible refine Le.ite ?_ ?_
    | with_reducible exact (rows_Words.monoL k) _ _ _ _
    | with_reducible refine Le.bind (Le.refl _) (fun _ => ?_)
    | split)
end Go.DI.Th
namespace Go.DI.Th
open Go Go.RowKit Go.DI
theorem ask_number.monoL (k : Nat) : (∀ x0 x1 x2 x3, Le (ask_number.l0 k x0 x1 x2 x3) (ask_number.l0 (k + 1) x0 x1 x2 x3)) := by
  induction k with
  | zero => exact fun _ _ _ _ => Le.none _
  | succ k ih =>
    intro x0 x1 x2 x3
    refine Le.eqs (ask_number.l0.eq_2 ..) (ask_number.l0.eq_2 ..) ?_
    repeat' (first
      | with_reducible exact Le.refl _
      | with_reducible refine Le.ite ?_ ?_
      | with_reducible exact ih _ _ _ _
      | with_reducible refine Le.bind (ih _ _ _ _) (fun _ => ?_)
      | with_reducible refine Le.bind (Le.refl _) (fun _ => ?_)
      | split)
theorem ask_number.mono (k : Nat) : ∀ x0, Le (ask_number.f k x0) (ask_number.f (k + 1) x0) := by
  intro x0
  unfold ask_number.f
  repeat' (first
    | with_reducible exact Le.refl _
    | with_reducible refine Le.ite ?_ ?_
    | with_reducible exact (ask_number.monoL k) _ _ _ _
    | with_reducible refine Le.bind (Le.refl _) (fun _ => ?_)
    | split)
theorem ask_extra.monoL (k : Nat) : (∀ x0 x1 x2 x3, Le (ask_extra.l0 k x0 x1 x2 x3) (ask_extra.l0 (k + 1) x0 x1 x2 x3)) := by
  induction k with
  | zero => exact fun _ _ _ _ => Le.none _
  | succ k ih =>
    intro x0 x1 x2 x3
    refine Le.eqs (ask_extra.l0.eq_2 ..) (ask_extra.l0.eq_2 ..) ?_
    repeat' (first
      | with_reducible exact Le.refl _
      | with_reducible refine Le.ite ?_ ?_
      | with_reducible exact ih _ _ _ _
      | with_reducible refine Le.bind (ih _ _ _ _) (fun _ => ?_)
      | with_reducible refine Le.bind (Le.refl _) (fun _ => ?_)
      | split)
theorem ask_extra.mono (k : Nat) : ∀ x0 x1, Le (ask_extra.f k x0 x1) (ask_extra.f (k + 1) x0 x1) := by
  intro x0 x1
  unfold ask_extra.f
  repeat' (first
    | with_reducible exact Le.refl _
    | with_reducible refine Le.ite ?_ ?_
    | with_reducible exact (ask_extra.monoL k) _ _ _ _
    | with_reducible refine Le.bind (Le.refl _) (fun _ => ?_)
    | split)
theorem ask_rest.monoL (k : Nat) : (∀ x0 x1 x2 x3 x4 x5 x6 x7 x8 x9, Le (ask_rest.l0 k x0 x1 x2 x3 x4 x5 x6 x7 x8 x9) (ask_rest.l0 (k + 1) x0 x1 x2 x3 x4 x5 x6 x7 x8 x9)) := by
  induction k with
  | zero => exact fun _ _ _ _ _ _ _ _ _ _ => Le.none _
  | succ k ih =>
    intro x0 x1 x2 x3 x4 x5 x6 x7 x8 x9
    refine Le.eqs (ask_rest.l0.eq_2 ..) (ask_rest.l0.eq_2 ..) ?_
    repeat' (first
      | with_reducible exact Le.refl _
      | with_reducible refine Le.ite ?_ ?_
      | with_reducible exact ih _ _ _ _ _ _ _ _ _ _
      | with_reducible refine Le.bind (ih _ _ _ _ _ _ _ _ _ _) (fun _ => ?_)
      | with_reducible refine Le.bind (rows_Words.mono k _) (fun _ => ?_)
      | with_reducible exact rows_Words.mono k _
      | with_reducible refine Le.bind (Le.refl _) (fun _ => ?_)
      | split)
theorem ask_rest.mono (k : Nat) : ∀ x0 x1 x2 x3 x4 x5, Le (ask_rest.f k x0 x1 x2 x3 x4 x5) (ask_rest.f (k + 1) x0 x1 x2 x3 x4 x5) := by
  intro x0 x1 x2 x3 x4 x5
  unfold ask_rest.f
  repeat' (first
    | with_reducible exact Le.refl _
    | with_reducible refine Le.ite ?_ ?_
    | with_reducible exact (ask_rest.monoL k) _ _ _ _ _ _ _ _ _ _
    | with_reducible refine Le.bind (ask_number.mono k _) (fun _ => ?_)
    | with_reducible refine Le.bind (rows_Words.mono k _) (fun _ => ?_)
    | with_reducible refine Le.bind (ask_extra.mono k _ _) (fun _ => ?_)
    | with_reducible exact ask_number.mono k _
    | with_reducible exact rows_Words.mono k _
    | with_reducible exact ask_extra.mono k _ _
    | with_reducible refine Le.bind (Le.refl _) (fun _ => ?_)
    | split)
theorem ask_Parse.mono (k : Nat) : ∀ x0, Le (ask_Parse.f k x0) (ask_Parse.f (k + 1) x0) := by
  intro x0
  unfold ask_Parse.f
  repeat' (first
    | with_reducible exact Le.refl _
    | with_reducible refine Le.ite ?_ ?_
    | with_reducible refine Le.bind (lex_Words.mono k _) (fun _ => ?_)
    | with_reducible refine Le.bind (ask_rest.mono k _ _ _ _ _ _) (fun _ => ?_)
    | with_reducible exact lex_Words.mono k _
    | with_reducible exact ask_rest.mono k _ _ _ _ _ _
    | with_reducible refine Le.bind (Le.refl _) (fun _ => ?_)
    | split)
theorem dendronlaw28_awake.mono (k : Nat) : Le (dendronlaw28_awake.f k ) (dendronlaw28_awake.f (k + 1) ) := by
  unfold dendronlaw28_awake.f
  repeat' (first
    | with_reducible exact Le.refl _
    | with_reducible refine Le.ite ?_ ?_
    | with_reducible refine Le.bind (ask_Parse.mono k _) (fun _ => ?_)
    | with_reducible exact ask_Parse.mono k _
    | with_reducible refine Le.bind (Le.refl _) (fun _ => ?_)
    | split)
end Go.DI.Th
namespace Go.DI.Th
open Go Go.RowKit Go.DI
theorem awake28_ev : Ev (fun k => dendronlaw28_awake.f k) true := Ev.mono (K := 400) dendronlaw28_awake.mono (by decide +kernel)
end Go.DI.Th
namespace Go.DI.Th
open Go Go.RowKit Go.DI

end Go.DI.Th
namespace Go.DI.Th
open Go Go.RowKit Go.DI

abbrev Ce := Bool × Rt
def CeB (c : Ce) : Prop := RtB 3 c.2
def sameC (a b : Ce) : Bool := if a.1 = true ∨ b.1 = true then a.1 == b.1 else decide (rv a.2 = rv b.2)
theorem sameC_refl (a : Ce) : sameC a a = true := by
  unfold sameC
  split
  · exact beq_self_eq_true _
  · exact decide_eq_true rfl
end Go.DI.Th
namespace Go.DI.Th
open Go Go.RowKit Go.DI

abbrev Tk := Int × Int × ByteArray
abbrev tk0 : Tk := (0, 0, ByteArray.empty)
def isBar (t : Tk) : Prop := t.2.2.toList = [124]
instance (t : Tk) : Decidable (isBar t) := by unfold isBar; infer_instance
theorem bar_eq (t : Tk) : t.2.2 = (⟨#[124]⟩ : ByteArray) ↔ isBar t := by
  unfold isBar
  have e : (⟨#[124]⟩ : ByteArray).toList = [124] := by decide +kernel
  constructor
  · intro h; rw [h]; exact e
  · intro h
    rw [ByteArray.toList_eq] at h
    exact toL_inj h
inductive Jn : List (List Tk) → List Tk → Prop
  | one (p : List Tk) : (∀ t ∈ p, ¬ isBar t) → Jn [p] p
  | more (p : List Tk) (t : Tk) (ps : List (List Tk)) (r : List Tk) : (∀ t ∈ p, ¬ isBar t) → isBar t → Jn ps r → Jn (p :: ps) (p ++ t :: r)
theorem split_jn : ∀ (l : List Tk) (out : List (List Tk)) (cur : List Tk), (∀ t ∈ cur, ¬ isBar t) → ∃ ps, splitG out cur l = out ++ ps ∧ Jn ps (cur ++ l)
  | [], out, cur, h => ⟨[cur], rfl, by rw [List.append_nil]; exact .one cur h⟩
  | t :: r, out, cur, h => by
    rw [splitG]
    by_cases hb : t.2.2.toList = [124]
    · rw [if_pos hb]
      obtain ⟨ps, e, j⟩ := split_jn r (out ++ [cur]) [] (fun t ht => by cases ht)
      exact ⟨cur :: ps, by rw [e, List.append_assoc]; rfl, .more cur t ps r h hb j⟩
    · rw [if_neg hb]
      obtain ⟨ps, e, j⟩ := split_jn r out (cur ++ [t]) (fun x hx => by
        rcases List.mem_append.1 hx with k | k
        · exact h x k
        · rw [List.mem_singleton.1 k]; exact hb)
      exact ⟨ps, e, by rw [List.append_assoc] at j; exact j⟩
end Go.DI.Th
namespace Go.DI.Th
open Go Go.RowKit Go.DI

theorem rd_small9 (r : Rt) {b : Nat} (h : RtB b r) (hb : b ≤ 300) : Rd (rv r) := by
  have hz := h.sz
  have n1 : len (rv r).num.natAbs ≤ b + 1 := by unfold Sz at hz; omega
  have n2 : len (rv r).den ≤ b + 1 := by unfold Sz at hz; omega
  have p1 := prN_size (rv r).num.natAbs
  have p2 := prN_size (rv r).den
  exact rd_prX _ (by omega) (by omega)
theorem dsame_evB (a b : Ce) (ha : RtB 30000 a.2) (hb : RtB 30000 b.2) : Ev (fun k => dendronref09_Same.f k a.1 a.2.1 a.2.2.1 a.2.2.2 b.1 b.2.1 b.2.2.1 b.2.2.2) (sameC a b) := by
  obtain ⟨x, hx, ex⟩ := D.FL.from ha (by decide)
  obtain ⟨y, hy, ey⟩ := D.FL.from hb (by decide)
  have ho := hx.order hy (by decide)
  have e1 : a.1 = true ∨ b.1 = true → sameC a b = (a.1 == b.1) := fun h => if_pos h
  have e2 : ¬ (a.1 = true ∨ b.1 = true) → sameC a b = decide (rv a.2 = rv b.2) := fun h => if_neg h
  unfold dendronref09_Same.f
  by_cases h1 : a.1 = true
  · rw [e1 (Or.inl h1)]
    exact Ev.if_pos h1 (Ev.if_pos h1 ((Ev.now _).of_eq (by rw [h1]; cases b.1 <;> rfl)))
  · by_cases h2 : b.1 = true
    · rw [e1 (Or.inr h2)]
      exact Ev.if_neg h1 (Ev.if_pos h2 (Ev.if_neg h1 ((Ev.now _).of_eq (by rw [h2, Bool.eq_false_iff.2 h1]; rfl))))
    · rw [e2 (fun h => h.elim h1 h2)]
      refine Ev.if_neg h1 (Ev.if_neg h2 (Ev.bind ex (Ev.bind ey (Ev.bind ho ((Ev.now _).of_eq ?_)))))
      rw [Bool.eq_iff_iff, beq_iff_eq, decide_eq_true_iff]
      exact cmpQ_zero
def qB : ByteArray := ⟨#[63]⟩
abbrev CRt := Bool × Bool × List Int × List Int × Int
def CR (s : ByteArray) : CRt := if s = qB then (true, false, [], [], 0) else if prE (toL s) = 0 then (false, (cn (prV (toL s))).1, (cn (prV (toL s))).2.1, (cn (prV (toL s))).2.2, 0) else (false, false, [], [], prE (toL s))
theorem cell_ev (s : ByteArray) (hs : s.size ≤ 1000000) : Ev (fun k => rows_Cell.f k s) (CR s) := by
  have hp := rparse_ev s (by omega)
  unfold rows_Cell.f CR
  by_cases h : s = qB
  · rw [if_pos h]
    exact Ev.if_pos h (Ev.now _)
  · rw [if_neg h]
    refine Ev.if_neg h (Ev.bind hp ?_)
    unfold rR
    by_cases he : prE (toL s) = 0
    · rw [if_pos he, if_pos he]
      exact Ev.if_neg (fun e => e rfl) (Ev.now _)
    · rw [if_neg he, if_neg he]
      exact Ev.if_pos he (Ev.now _)
theorem rtb_nil : RtB 30000 ((false, [], []) : Rt) := ⟨fun x hx => (by cases hx), fun x hx => (by cases hx), by decide, by decide⟩
theorem CR_B (s : ByteArray) : RtB 30000 ((CR s).2.1, (CR s).2.2.1, (CR s).2.2.2.1) := by
  unfold CR
  split
  · exact rtb_nil
  · split
    · rename_i h
      exact cnB _ (Nat.le_trans (prV_sz h) (by decide))
    · exact rtb_nil
theorem prT_cell (r : Rt) (h : RtB 3 r) : CR (prT r) = (false, (cn (rv r)).1, (cn (rv r)).2.1, (cn (rv r)).2.2, 0) ∧ (prT r).size ≤ 1000000 := by
  obtain ⟨a, b⟩ := rd_small9 r h (by decide)
  have hw := prX_word (rv r)
  rw [← prT_rv] at a b hw
  have hz : (prT r).size ≤ 1000000 := by
    have := prR_size r.1 r.2.1 r.2.2
    obtain ⟨_, _, h1, h2⟩ := h
    unfold prT
    omega
  refine ⟨?_, hz⟩
  have hq : prT r ≠ qB := fun e => by
    rw [e] at a
    have : prE (toL qB) = 4 := by decide +kernel
    rw [this] at a
    cases a
  unfold CR
  rw [if_neg hq, if_pos a, b]
theorem print_miss (v : Rt) : Ev (fun k => rows_Print.f k true v.1 v.2.1 v.2.2) qB := by
  unfold rows_Print.f
  exact Ev.if_pos rfl (Ev.now _)
theorem print_num (v : Rt) (h : RtB 3 v) : Ev (fun k => rows_Print.f k false v.1 v.2.1 v.2.2) (prT v) := by
  unfold rows_Print.f
  exact Ev.if_neg (by decide) (Ev.bind (prT_ev v (h.mono (by decide))) (Ev.now _))
end Go.DI.Th
namespace Go.DI.Th
open Go Go.RowKit Go.DI

abbrev WRes := List Ce × Int × Int
def WF (acc : List Ce) : List Tk → WRes
  | [] => (acc, 0, 0)
  | t :: r => if (CR t.2.2).2.2.2.2 ≠ 0 then ([], t.1, (CR t.2.2).2.2.2.2) else WF (acc ++ [((CR t.2.2).1, (CR t.2.2).2.1, (CR t.2.2).2.2.1, (CR t.2.2).2.2.2.1)]) r
def TkZ (l : List Tk) : Prop := ∀ t ∈ l, t.2.2.size ≤ 1000000
theorem words9_l0 (l : List Tk) (hz : TkZ l) (hl : l.length ≤ 100000) : ∀ (b a : List Tk) (acc : List Ce), l = a ++ b → acc.length = a.length → Ev (fun k => rows_Words.l0 k acc l (l.length : Int) (a.length : Int)) (WF acc b) := by
  intro b
  induction b with
  | nil =>
    intro a acc h ha
    rw [List.append_nil] at h
    refine Ev.succ ?_
    simp only [rows_Words.l0]
    exact Ev.if_neg (by rw [h]; omega) (Ev.now _)
  | cons t b ih =>
    intro a acc h ha
    have g : gt tk0 l (a.length : Int) = t := by rw [h]; exact gt_at _ a t b
    have hll : l.length = a.length + (b.length + 1) := by rw [h, List.length_append, List.length_cons]
    have hc := cell_ev t.2.2 (hz t (by rw [h]; simp))
    have hih := ih (a ++ [t]) (acc ++ [((CR t.2.2).1, (CR t.2.2).2.1, (CR t.2.2).2.2.1, (CR t.2.2).2.2.2.1)]) (by rw [h]; simp) (by rw [List.length_append, List.length_append, ha]; rfl)
    rw [List.length_append, List.length_singleton] at hih
    refine Ev.succ ?_
    simp only [rows_Words.l0, g, wr_succ a.length (show a.length ≤ 1125899906842624 by omega)]
    refine Ev.if_pos (by omega) (Ev.if_pos (nn0 _) (Ev.if_pos (by omega) (Ev.bind hc ?_)))
    rw [WF]
    by_cases he : (CR t.2.2).2.2.2.2 ≠ 0
    · rw [if_pos he]
      exact Ev.if_pos he (Ev.now _)
    · rw [if_neg he]
      exact Ev.if_neg he (Ev.if_pos (by omega) hih)
theorem words9_ev (l : List Tk) (hz : TkZ l) (hl : l.length ≤ 100000) : Ev (fun k => rows_Words.f k l) (WF [] l) := words9_l0 l hz hl l [] [] rfl rfl
abbrev RRes := List (List Ce) × Int × Int
def RF (acc : List (List Ce)) : List (List Tk) → RRes
  | [] => (acc, 0, 0)
  | p :: ps => if (WF [] p).2.2 ≠ 0 then ([], (WF [] p).2.1, (WF [] p).2.2) else RF (acc ++ [(WF [] p).1]) ps
theorem splitG_out : ∀ (l : List Tk) (out : List (List Tk)) (cur : List Tk), splitG out cur l = out ++ splitG [] cur l
  | [], out, cur => by rw [splitG, splitG, List.nil_append]
  | t :: r, out, cur => by
    rw [splitG, splitG]
    split
    · rw [splitG_out r (out ++ [cur]) [], splitG_out r ([] ++ [cur]) [], List.append_assoc]
      simp
    · rw [splitG_out r out (cur ++ [t])]
def CeB' (c : Ce) : Prop := RtB 30000 c.2
theorem WF_B : ∀ (l : List Tk) (acc : List Ce), (∀ c ∈ acc, CeB' c) → ∀ c ∈ (WF acc l).1, CeB' c
  | [], acc, h => h
  | t :: r, acc, h => by
    rw [WF]
    split
    · intro c hc; cases hc
    · refine WF_B r _ fun c hc => ?_
      rcases List.mem_append.1 hc with k | k
      · exact h c k
      · rw [List.mem_singleton.1 k]; exact CR_B t.2.2
theorem WF_len : ∀ (l : List Tk) (acc : List Ce), (WF acc l).1.length ≤ acc.length + l.length
  | [], acc => by rw [WF]; exact Nat.le_refl _
  | t :: r, acc => by
    rw [WF]
    split
    · exact Nat.zero_le _
    · have := WF_len r (acc ++ [((CR t.2.2).1, (CR t.2.2).2.1, (CR t.2.2).2.2.1, (CR t.2.2).2.2.2.1)])
      rw [List.length_append, List.length_singleton] at this
      rw [List.length_cons]
      omega
theorem dequal_self (xs : List Ce) (hx : ∀ c ∈ xs, CeB' c) (hm : xs.length ≤ 1000000) : Ev (fun k => dendronref09_Equal.f k xs xs) true := by
  have loop : ∀ (b a : List Ce), xs = a ++ b → Ev (fun k => dendronref09_Equal.l0 k xs xs (a.length : Int)) true := by
    intro b
    induction b with
    | nil =>
      intro a h1
      rw [List.append_nil] at h1
      refine Ev.succ ?_
      simp only [dendronref09_Equal.l0]
      exact Ev.if_neg (by rw [h1]; omega) (Ev.now _)
    | cons u b ih =>
      intro a h1
      have g1 : gt (false, false, [], []) xs (a.length : Int) = u := by rw [h1]; exact gt_at _ a u b
      have hla : xs.length = a.length + (b.length + 1) := by rw [h1, List.length_append, List.length_cons]
      have hb := hx u (by rw [h1]; simp)
      have hs := dsame_evB u u hb hb
      rw [sameC_refl] at hs
      have hih := ih (a ++ [u]) (by rw [h1]; simp)
      rw [List.length_append, List.length_singleton] at hih
      refine Ev.succ ?_
      simp only [dendronref09_Equal.l0, g1, wr_succ a.length (show a.length ≤ 1125899906842624 by omega)]
      exact Ev.if_pos (by omega) (Ev.if_pos (nn0 _) (Ev.if_pos (by omega) (Ev.bind hs (Ev.if_pos rfl hih))))
  unfold dendronref09_Equal.f
  exact Ev.if_neg (fun e => e rfl) (loop xs [] rfl)
end Go.DI.Th
namespace Go.DI.Th
open Go Go.RowKit Go.DI

theorem splitG_bar {cur r : List Tk} {t : Tk} (h : isBar t) : splitG [] cur (t :: r) = cur :: splitG [] [] r := by
  have h' : t.2.2.toList = [124] := h
  rw [splitG, if_pos h', splitG_out]
  rfl
def GoodR (Rs : List (List Ce)) : Prop := ∀ r ∈ Rs, (∀ c ∈ r, CeB' c) ∧ r.length ≤ 1000000
theorem GoodR.snoc {Rs : List (List Ce)} (h : GoodR Rs) {cur : List Tk} (hl : cur.length ≤ 100000) : GoodR (Rs ++ [(WF [] cur).1]) := by
  intro r hr
  rcases List.mem_append.1 hr with k | k
  · exact h r k
  · rw [List.mem_singleton.1 k]
    have := WF_len cur []
    exact ⟨WF_B cur [] (fun c hc => by cases hc), by simp only [List.length_nil] at this; omega⟩
theorem split_parts (B : Nat) : ∀ (l cur : List Tk) (out : List (List Tk)), (∀ p ∈ out, TkZ p ∧ p.length ≤ B) → TkZ cur → TkZ l → cur.length + l.length ≤ B → out.length + l.length + 1 ≤ B → (∀ p ∈ splitG out cur l, TkZ p ∧ p.length ≤ B) ∧ (splitG out cur l).length ≤ B
  | [], cur, out, ho, hc, _, h1, h2 => by
    rw [splitG]
    refine ⟨fun p hp => ?_, by rw [List.length_append, List.length_singleton]; simp only [List.length_nil] at h2; omega⟩
    rcases List.mem_append.1 hp with k | k
    · exact ho p k
    · rw [List.mem_singleton.1 k]; exact ⟨hc, by simp only [List.length_nil] at h1; omega⟩
  | t :: r, cur, out, ho, hc, hl, h1, h2 => by
    rw [List.length_cons] at h1 h2
    rw [splitG]
    split
    · refine split_parts B r [] _ (fun p hp => ?_) (fun x hx => by cases hx) (fun x hx => hl x (List.mem_cons_of_mem _ hx)) (by rw [List.length_nil]; omega) (by rw [List.length_append, List.length_singleton]; omega)
      rcases List.mem_append.1 hp with k | k
      · exact ho p k
      · rw [List.mem_singleton.1 k]; exact ⟨hc, by omega⟩
    · refine split_parts B r _ out ho (fun x hx => ?_) (fun x hx => hl x (List.mem_cons_of_mem _ hx)) (by rw [List.length_append, List.length_singleton]; omega) (by omega)
      rcases List.mem_append.1 hx with k | k
      · exact hc x k
      · rw [List.mem_singleton.1 k]; exact hl t List.mem_cons_self
def LW (x : ByteArray) : List W × Int × Int := wordsS [] 0 (toL x)
theorem LW_ok (x : ByteArray) (hx : x.size ≤ 100000) : TkZ (LW x).1 ∧ (LW x).1.length ≤ 4096 := by
  have hs : (toL x).length ≤ 100000 := by rw [← size_toL]; exact hx
  have h1 := wordsS_sz 1000000 _ (toL x) [] 0 (Nat.le_refl _) (by omega) (fun w hw => by cases hw)
  have h2 := wordsS_bd 1000000 _ (toL x) [] 0 (Nat.le_refl _) (fun w hw => by cases hw) (by omega) (Nat.zero_le _)
  exact ⟨h1, h2.2.1⟩
def SP (l : List Tk) : List (List Tk) := if l = [] then [] else splitG [] [] l
theorem SP_ok {l : List Tk} (z : TkZ l) (hl : l.length ≤ 4096) : (∀ p ∈ SP l, TkZ p ∧ p.length ≤ 100000) ∧ (SP l).length ≤ 100000 := by
  unfold SP
  split
  · exact ⟨fun p hp => (by cases hp), Nat.zero_le _⟩
  · exact split_parts 100000 l [] [] (fun p hp => by cases hp) (fun x hx => by cases hx) z (by rw [List.length_nil]; omega) (by rw [List.length_nil]; omega)
end Go.DI.Th
namespace Go.DI.Th
open Go Go.RowKit Go.DI

def prC (c : Ce) : ByteArray := if c.1 = true then qB else prT c.2
def kC (c : Ce) : Ce := if c.1 = true then (true, false, [], []) else (false, cn (rv c.2))
theorem printC_ev (c : Ce) (h : CeB c) : Ev (fun k => rows_Print.f k c.1 c.2.1 c.2.2.1 c.2.2.2) (prC c) := by
  obtain ⟨m, r⟩ := c
  cases m with
  | true => exact print_miss r
  | false => exact print_num r h
theorem CR_prC (c : Ce) (h : CeB c) : CR (prC c) = ((kC c).1, (kC c).2.1, (kC c).2.2.1, (kC c).2.2.2, 0) := by
  obtain ⟨m, r⟩ := c
  cases m with
  | true => exact if_pos rfl
  | false => exact (prT_cell r h).1
theorem prC_word (c : Ce) : WdOk (toL (prC c)) := by
  obtain ⟨m, r⟩ := c
  cases m with
  | true =>
    have e : toL (prC (true, r)) = [63] := rfl
    rw [e]
    refine ⟨by decide, fun x hx => ?_⟩
    rw [List.mem_singleton] at hx
    rw [hx]
    decide
  | false =>
    show WdOk (toL (prT r))
    rw [prT_rv]
    exact prX_word _
theorem joinW_int : ∀ (l : List (List UInt8)), joinW l = [32].intercalate l
  | [] => rfl
  | [w] => by simp [joinW, List.intercalate]
  | w :: v :: l => by
    rw [joinW, joinW_int (v :: l)]
    simp [List.intercalate]
theorem joinW_len : ∀ (l : List (List UInt8)) (B : Nat), (∀ w ∈ l, w.length ≤ B) → (joinW l).length ≤ l.length * (B + 1)
  | [], B, _ => by rw [joinW]; exact Nat.zero_le _
  | [w], B, h => by
    have := h w List.mem_cons_self
    rw [joinW, List.length_singleton]
    omega
  | w :: v :: l, B, h => by
    have h1 := h w List.mem_cons_self
    have h2 := joinW_len (v :: l) B fun x hx => h x (List.mem_cons_of_mem _ hx)
    rw [joinW, List.length_append, List.length_cons, List.length_cons, Nat.add_mul]
    omega
theorem prC_size (c : Ce) (h : CeB c) : (prC c).size ≤ 400 := by
  obtain ⟨m, r⟩ := c
  cases m with
  | true => show qB.size ≤ 400; decide
  | false =>
    have := prR_size r.1 r.2.1 r.2.2
    obtain ⟨_, _, h1, h2⟩ := h
    show (prT r).size ≤ 400
    unfold prT
    have h1' : r.2.1.length ≤ 3 := h1
    have h2' : r.2.2.length ≤ 3 := h2
    omega
def rowT (l : List Ce) : ByteArray := ofL (joinW (l.map fun c => toL (prC c)))
end Go.DI.Th
namespace Go.DI.Th
open Go Go.RowKit Go.DI

def TX (cs : List UInt8) (ws : List (List UInt8)) : Prop := ∀ (acc : List W) (pos : Nat), acc.length + ws.length ≤ 4096 → ∃ toks : List W, wordsS acc pos cs = (acc ++ toks, 0, 0) ∧ toks.map (fun t => toL t.2.2) = ws
theorem TX.nil : TX [] [] := fun acc pos _ => ⟨[], by rw [wordsS, List.append_nil], rfl⟩
theorem TX.blank {cs : List UInt8} {ws : List (List UInt8)} (h : TX cs ws) : TX (32 :: cs) ws := fun acc pos ha => by
  obtain ⟨t, e1, e2⟩ := h acc (pos + 1) ha
  exact ⟨t, by rw [wordsS, if_pos (by decide)]; exact e1, e2⟩
theorem TX.word {w cs : List UInt8} {ws : List (List UInt8)} (hw : WdOk w) (hc : ∀ c, cs.head? = some c → inw c = false) (h : TX cs ws) : TX (w ++ cs) (w :: ws) := fun acc pos ha => by
  rw [List.length_cons] at ha
  have e := wordsS_word acc pos w cs hw hc (by omega)
  obtain ⟨t, e1, e2⟩ := h (acc ++ [((pos : Int), 0, ofL w)]) (pos + w.length) (by rw [List.length_append, List.length_singleton]; omega)
  exact ⟨((pos : Int), 0, ofL w) :: t, by rw [e, e1, List.append_assoc]; rfl, by rw [List.map_cons, e2]; show toL (ofL w) :: ws = _; rw [toL_ofL]⟩
theorem TX.row : ∀ (r : List (List UInt8)) {cs : List UInt8} {ws : List (List UInt8)}, (∀ w ∈ r, WdOk w) → (∀ c, cs.head? = some c → inw c = false) → TX cs ws → TX (joinW r ++ cs) (r ++ ws)
  | [], _, _, _, _, h => h
  | [w], _, _, hr, hc, h => by
    rw [joinW]
    exact TX.word (hr w List.mem_cons_self) hc h
  | w :: v :: r, cs, ws, hr, hc, h => by
    have ih := TX.row (v :: r) (fun x hx => hr x (List.mem_cons_of_mem _ hx)) hc h
    rw [joinW, List.append_assoc, List.cons_append]
    refine TX.word (hr w List.mem_cons_self) (fun c hc => ?_) ih.blank
    have : c = 32 := by simpa using hc.symm
    rw [this]
    decide
def barW : List UInt8 := [124]
def allW : List (List (List UInt8)) → List (List UInt8)
  | [] => []
  | [r] => r
  | r :: q :: rs => r ++ barW :: allW (q :: rs)
def allT : List (List (List UInt8)) → List UInt8
  | [] => []
  | [r] => joinW r
  | r :: q :: rs => joinW r ++ (32 :: 124 :: 32 :: allT (q :: rs))
theorem TX.all : ∀ rs : List (List (List UInt8)), (∀ r ∈ rs, ∀ w ∈ r, WdOk w) → TX (allT rs) (allW rs)
  | [], _ => TX.nil
  | [r], h => by
    have := TX.row r (cs := []) (ws := []) (h r List.mem_cons_self) (fun c hc => by cases hc) TX.nil
    rw [List.append_nil, List.append_nil] at this
    exact this
  | r :: q :: rs, h => by
    have ih := TX.all (q :: rs) fun x hx => h x (List.mem_cons_of_mem _ hx)
    have hb : WdOk barW := ⟨by decide, fun c hc => by rw [show barW = [124] from rfl, List.mem_singleton] at hc; rw [hc]; decide⟩
    have h1 : TX (barW ++ (32 :: allT (q :: rs))) (barW :: allW (q :: rs)) := TX.word hb (fun c hc => by
      have : c = 32 := by simpa using hc.symm
      rw [this]
      decide) ih.blank
    rw [allT, allW]
    refine TX.row r (h r List.mem_cons_self) (fun c hc => ?_) h1.blank
    have : c = 32 := by simpa using hc.symm
    rw [this]
    decide
end Go.DI.Th
namespace Go.DI.Th
open Go Go.RowKit Go.DI

def tx (t : Tk) : List UInt8 := toL t.2.2
theorem isBar_tx (t : Tk) : isBar t ↔ tx t = barW := by
  unfold isBar tx barW
  rw [ByteArray.toList_eq]
  rfl
theorem split_last : ∀ (r : List (List UInt8)) (toks cur : List Tk), toks.map tx = r → (∀ w ∈ r, w ≠ barW) → ∃ p, splitG [] cur toks = [p] ∧ p.map tx = cur.map tx ++ r
  | [], toks, cur, h, _ => by
    have : toks = [] := List.map_eq_nil_iff.1 h
    subst this
    exact ⟨cur, by rw [splitG]; rfl, by rw [List.append_nil]⟩
  | w :: r, toks, cur, h, hn => by
    cases toks with
    | nil => cases h
    | cons t toks =>
      rw [List.map_cons, List.cons.injEq] at h
      have hb : ¬ t.2.2.toList = [124] := fun e => hn w List.mem_cons_self (h.1 ▸ (isBar_tx t).1 e)
      obtain ⟨p, e1, e2⟩ := split_last r toks (cur ++ [t]) h.2 fun x hx => hn x (List.mem_cons_of_mem _ hx)
      exact ⟨p, by rw [splitG, if_neg hb, e1], by rw [e2, List.map_append, List.append_assoc, ← h.1]; rfl⟩
theorem split_bar : ∀ (r : List (List UInt8)) (toks cur : List Tk) (rest : List (List UInt8)), toks.map tx = r ++ barW :: rest → (∀ w ∈ r, w ≠ barW) → ∃ p toks', splitG [] cur toks = p :: splitG [] [] toks' ∧ p.map tx = cur.map tx ++ r ∧ toks'.map tx = rest
  | [], toks, cur, rest, h, _ => by
    cases toks with
    | nil => cases h
    | cons t toks =>
      rw [List.map_cons, List.nil_append, List.cons.injEq] at h
      exact ⟨cur, toks, splitG_bar ((isBar_tx t).2 h.1), by rw [List.append_nil], h.2⟩
  | w :: r, toks, cur, rest, h, hn => by
    cases toks with
    | nil => cases h
    | cons t toks =>
      rw [List.map_cons, List.cons_append, List.cons.injEq] at h
      have hb : ¬ t.2.2.toList = [124] := fun e => hn w List.mem_cons_self (h.1 ▸ (isBar_tx t).1 e)
      obtain ⟨p, toks', e1, e2, e3⟩ := split_bar r toks (cur ++ [t]) rest h.2 fun x hx => hn x (List.mem_cons_of_mem _ hx)
      exact ⟨p, toks', by rw [splitG, if_neg hb, e1], by rw [e2, List.map_append, List.append_assoc, ← h.1]; rfl, e3⟩
theorem split_all : ∀ (rs : List (List (List UInt8))) (toks : List Tk), rs ≠ [] → toks.map tx = allW rs → (∀ r ∈ rs, ∀ w ∈ r, w ≠ barW) → (splitG [] [] toks).map (fun p => p.map tx) = rs
  | [], _, h, _, _ => absurd rfl h
  | [r], toks, _, h, hn => by
    obtain ⟨p, e1, e2⟩ := split_last r toks [] h (hn r List.mem_cons_self)
    rw [e1, List.map_cons, List.map_nil, e2]
    rfl
  | r :: q :: rs, toks, _, h, hn => by
    rw [allW] at h
    obtain ⟨p, toks', e1, e2, e3⟩ := split_bar r toks [] _ h (hn r List.mem_cons_self)
    have ih := split_all (q :: rs) toks' (by simp) e3 fun x hx => hn x (List.mem_cons_of_mem _ hx)
    rw [e1, List.map_cons, ih, e2]
    rfl
end Go.DI.Th
namespace Go.DI.Th
open Go Go.RowKit Go.DI

end Go.DI.Th
namespace Go.DI.Th
open Go Go.RowKit Go.DI

end Go.DI.Th
namespace Go.DI.Th
open Go Go.RowKit Go.DI

end Go.DI.Th
namespace Go.DI.Th
open Go Go.RowKit Go.DI
theorem dec_len (k : Nat) : ∀ (n : Nat), 1 ≤ k → n < 10 ^ k → (dec n).length ≤ k := by
  induction k with
  | zero => intro n h; omega
  | succ k ih =>
    intro n _ h
    by_cases h1 : n < 10
    · rw [dec_small h1, List.length_singleton]; omega
    · rw [dec_big h1, List.length_append, List.length_singleton]
      have e : 10 ^ (k + 1) = 10 * 10 ^ k := by rw [Nat.pow_succ]; omega
      rw [e] at h
      have hk : 1 ≤ k := by
        rcases Nat.eq_zero_or_pos k with rfl | t
        · rw [Nat.pow_zero] at h; omega
        · exact t
      generalize he : 10 ^ k = p at h
      have := ih (n / 10) hk (by rw [he]; omega)
      omega
theorem prN_dec {n k : Nat} (hk : 1 ≤ k) (h : n < 10 ^ k) : (prN n).size ≤ k := by
  unfold prN
  rw [obs_size]
  exact dec_len k n hk h
theorem dgv_lt0 {w : List UInt8} (h : pE w = 0) : dgv 0 w < 10 ^ w.length := by
  have := dgv_lt w 0 (pE_zero.1 h).2.1
  rwa [Nat.zero_add, Nat.one_mul] at this
theorem pw_pos (k : Nat) : 0 < 10 ^ k := Nat.pow_pos (by decide)
theorem mk_bounds (z : Int) (q : Nat) (h : q ≠ 0) : (mkRat z q).num.natAbs ≤ z.natAbs ∧ (mkRat z q).den ≤ q := by
  rw [num_mk z q h, den_mk z q h, rnum_abs]
  exact ⟨Nat.div_le_self _ _, Nat.div_le_self _ _⟩
theorem plV_dec {w : List UInt8} (h : plE w = 0) : 1 ≤ w.length ∧ (plV w).num.natAbs < 10 ^ w.length ∧ (plV w).den < 10 ^ w.length := by
  unfold plE at h
  unfold plV
  cases h1 : cutL 47 w with
  | some p =>
    obtain ⟨a, b⟩ := p
    rw [h1] at h
    dsimp only at h ⊢
    obtain ⟨hw, _⟩ := cutL_some h1
    have hl : w.length = a.length + (b.length + 1) := by rw [hw, List.length_append, List.length_cons]
    by_cases ha : pE a = 0
    · rw [if_neg (fun e => e ha)] at h
      by_cases hb : pE b = 0
      · rw [if_neg (fun e => e hb)] at h
        by_cases h0 : dgv 0 b = 0
        · rw [if_pos h0] at h; cases h
        · obtain ⟨b1, b2⟩ := mk_bounds (dgv 0 a : Int) (dgv 0 b) h0
          rw [Int.natAbs_natCast] at b1
          have la := dgv_lt0 ha
          have lb := dgv_lt0 hb
          have p1 : 10 ^ a.length ≤ 10 ^ w.length := Nat.pow_le_pow_right (by decide) (by omega)
          have p2 : 10 ^ b.length ≤ 10 ^ w.length := Nat.pow_le_pow_right (by decide) (by omega)
          exact ⟨by omega, by omega, by omega⟩
      · rw [if_pos hb] at h; exact absurd h hb
    · rw [if_pos ha] at h; exact absurd h ha
  | none =>
    rw [h1] at h
    dsimp only at h ⊢
    cases h2 : cutL 46 w with
    | some p =>
      obtain ⟨a, b⟩ := p
      rw [h2] at h
      dsimp only at h ⊢
      obtain ⟨hw, _⟩ := cutL_some h2
      have hl : w.length = a.length + (b.length + 1) := by rw [hw, List.length_append, List.length_cons]
      by_cases ha : pE a = 0
      · rw [if_neg (fun e => e ha)] at h
        have q0 := pw_pos b.length
        obtain ⟨b1, b2⟩ := mk_bounds ((dgv 0 a * 10 ^ b.length + dgv 0 b : Nat) : Int) (10 ^ b.length) (by omega)
        rw [Int.natAbs_natCast] at b1
        have la := dgv_lt0 ha
        have lb := dgv_lt0 h
        have p2 : 10 ^ b.length < 10 ^ w.length := Nat.pow_lt_pow_right (by decide) (by omega)
        have p3 : 10 ^ a.length * 10 ^ b.length ≤ 10 ^ w.length := by
          rw [← Nat.pow_add]
          exact Nat.pow_le_pow_right (by decide) (by omega)
        have p4 : (dgv 0 a + 1) * 10 ^ b.length ≤ 10 ^ a.length * 10 ^ b.length := Nat.mul_le_mul_right _ la
        have p5 : (dgv 0 a + 1) * 10 ^ b.length = dgv 0 a * 10 ^ b.length + 10 ^ b.length := by rw [Nat.add_mul, Nat.one_mul]
        generalize (mkRat ((dgv 0 a * 10 ^ b.length + dgv 0 b : Nat) : Int) (10 ^ b.length)) = X at b1 b2 ⊢
        generalize dgv 0 a * 10 ^ b.length = M at b1 p5
        exact ⟨by omega, by omega, by omega⟩
      · rw [if_pos ha] at h; exact absurd h ha
    | none =>
      rw [h2] at h
      dsimp only at h ⊢
      have hne := (pE_zero.1 h).1
      have hl := List.length_pos_iff.2 hne
      have la := dgv_lt0 h
      rw [Rat.num_intCast, Rat.den_intCast, Int.natAbs_natCast]
      have p : 10 ^ 1 ≤ 10 ^ w.length := Nat.pow_le_pow_right (by decide) hl
      exact ⟨hl, la, by omega⟩
theorem prV_dec {w : List UInt8} (h : prE w = 0) : 1 ≤ w.length ∧ (prN (prV w).num.natAbs).size ≤ w.length ∧ (prN (prV w).den).size ≤ w.length := by
  unfold prE at h
  have hu : (unm w).2.length ≤ w.length := by
    unfold unm
    split
    · show (w.drop 1).length ≤ w.length
      rw [List.length_drop]; omega
    · exact Nat.le_refl _
  obtain ⟨a, b, c⟩ := plV_dec h
  have e : (prV w).num.natAbs = (plV (unm w).2).num.natAbs ∧ (prV w).den = (plV (unm w).2).den := by
    unfold prV sgQ
    split
    · rw [Rat.neg_num, Rat.neg_den, Int.natAbs_neg]; exact ⟨rfl, rfl⟩
    · exact ⟨rfl, rfl⟩
  rw [e.1, e.2]
  exact ⟨by omega, Nat.le_trans (prN_dec a b) hu, Nat.le_trans (prN_dec a c) hu⟩
theorem prX_size (x : Rat) {k : Nat} (h1 : (prN x.num.natAbs).size ≤ k) (h2 : (prN x.den).size ≤ k) : (toL (prX x)).length ≤ 2 * k + 2 := by
  rw [prX_toL, List.length_append, List.length_append]
  have e1 : (toL (prN x.num.natAbs)).length ≤ k := by rw [← size_toL]; exact h1
  have e2 : (qT x.den).length ≤ k + 1 := by
    unfold qT
    split
    · exact Nat.zero_le _
    · rw [List.length_cons, ← size_toL]; omega
  split
  · rw [List.length_singleton]; omega
  · rw [List.length_nil]; omega
def wz : List W → Nat
  | [] => 0
  | w :: l => w.2.2.size + 1 + wz l
theorem wz_append : ∀ a b : List W, wz (a ++ b) = wz a + wz b
  | [], b => by rw [List.nil_append, wz]; omega
  | w :: a, b => by rw [List.cons_append, wz, wz, wz_append a b]; omega
theorem rd_word {w : List UInt8} (h : prE w = 0) (hw : w.length ≤ 10000) : Rd (prV w) := by
  obtain ⟨_, b, c⟩ := prV_dec h
  exact rd_prX _ (by omega) (by omega)
theorem prT_len {w : List UInt8} (h : prE w = 0) : (toL (prT (cn (prV w)))).length ≤ 2 * w.length + 2 := by
  obtain ⟨_, b, c⟩ := prV_dec h
  rw [prT_rv, rv_cn]
  exact prX_size _ b c
theorem wordsS_wz : ∀ (n : Nat) (cs : List UInt8) (acc : List W) (pos : Nat), cs.length ≤ n → wz (wordsS acc pos cs).1 ≤ wz acc + 2 * cs.length := by
  intro n
  induction n with
  | zero =>
    intro cs acc pos hn
    have : cs = [] := List.eq_nil_of_length_eq_zero (by omega)
    subst this
    rw [wordsS]
    exact Nat.le_refl _
  | succ n ih =>
    intro cs acc pos hn
    cases cs with
    | nil => rw [wordsS]; exact Nat.le_refl _
    | cons c r =>
      rw [List.length_cons] at hn ⊢
      rw [wordsS]
      split
      · have := ih r acc (pos + 1) (by omega)
        omega
      · split
        · show wz acc ≤ _; omega
        · split
          · split
            · exact Nat.zero_le _
            · have hsplit := congrArg List.length (List.takeWhile_append_dropWhile (p := inw) (l := r))
              rw [List.length_append] at hsplit
              have := ih (r.dropWhile inw) (acc ++ [((pos : Int), 0, ofL (c :: r.takeWhile inw))]) (pos + (c :: r.takeWhile inw).length) (by omega)
              rw [wz_append, wz, wz] at this
              have e : (ofL (c :: r.takeWhile inw)).size = (r.takeWhile inw).length + 1 := by rw [size_toL, toL_ofL, List.length_cons]
              have e2 : (((pos : Int), (0 : Int), ofL (c :: r.takeWhile inw)) : W).2.2.size = (r.takeWhile inw).length + 1 := e
              rw [e2] at this
              omega
          · exact Nat.zero_le _
end Go.DI.Th
namespace Go.DI.Th
open Go Go.RowKit Go.DI

def TkN (l : List W) : Prop := ∀ w ∈ l, w.2.2.size ≠ 0
theorem wordsS_ne : ∀ (n : Nat) (cs : List UInt8) (acc : List W) (pos : Nat), cs.length ≤ n → TkN acc → TkN (wordsS acc pos cs).1 := by
  intro n
  induction n with
  | zero =>
    intro cs acc pos hn ha
    have : cs = [] := List.eq_nil_of_length_eq_zero (by omega)
    subst this
    rw [wordsS]
    exact ha
  | succ n ih =>
    intro cs acc pos hn ha
    have hnil : TkN [] := fun w hw => by cases hw
    cases cs with
    | nil => rw [wordsS]; exact ha
    | cons c r =>
      rw [List.length_cons] at hn
      rw [wordsS]
      split
      · exact ih r acc (pos + 1) (by omega) ha
      · split
        · exact ha
        · split
          · split
            · exact hnil
            · have hsplit := congrArg List.length (List.takeWhile_append_dropWhile (p := inw) (l := r))
              rw [List.length_append] at hsplit
              refine ih (r.dropWhile inw) _ _ (by omega) ?_
              intro w hw
              rcases List.mem_append.1 hw with h | h
              · exact ha w h
              · have : w = ((pos : Int), 0, ofL (c :: r.takeWhile inw)) := by simpa using h
                rw [this]
                show (ofL (c :: r.takeWhile inw)).size ≠ 0
                rw [size_toL, toL_ofL, List.length_cons]
                omega
          · exact hnil
theorem LW_ne (x : ByteArray) : TkN (LW x).1 := wordsS_ne _ (toL x) [] 0 (Nat.le_refl _) (fun w hw => by cases hw)
def DL (n : Int) : List UInt8 → Int × Int
  | [] => if n > 999 then (0, 16) else (n, 0)
  | c :: r => if (c.toNat : Int) < 48 then (0, 4) else if (c.toNat : Int) > 57 then (0, 4) else DL (min (10 * n + ((c.toNat : Int) - 48)) 1000) r
def DG (s : ByteArray) : Int × Int := if s.size = 0 then (0, 4) else if 1 < s.size ∧ bt s 0 = 48 then (0, 4) else DL 0 (toL s)
theorem number_l0 (s : ByteArray) (hs : s.size ≤ 1000000) : ∀ (b a : List UInt8) (n : Int), toL s = a ++ b → 0 ≤ n → n ≤ 1000 → Ev (fun k => ask_number.l0 k n (toBytes s) ((toBytes s).length : Int) (a.length : Int)) (DL n b) := by
  have hlen : (toBytes s).length = s.size := by rw [toBytes_toL, List.length_map, size_toL]
  intro b
  induction b with
  | nil =>
    intro a n h h0 h1
    rw [List.append_nil] at h
    refine Ev.succ ?_
    simp only [ask_number.l0]
    refine Ev.if_neg (by rw [hlen, size_toL, h]; omega) ?_
    rw [DL]
    by_cases hn : n > 999
    · exact (Ev.if_pos hn (Ev.now _)).of_eq (if_pos hn).symm
    · exact (Ev.if_neg hn (Ev.now _)).of_eq (if_neg hn).symm
  | cons c b ih =>
    intro a n h h0 h1
    have g : rd (toBytes s) (a.length : Int) = (c.toNat : Int) := by
      have e : toBytes s = a.map (fun b => (b.toNat : Int)) ++ (c.toNat : Int) :: b.map (fun b => (b.toNat : Int)) := by rw [toBytes_toL, h]; simp
      rw [e]
      have := rd_at (a.map (fun b => (b.toNat : Int))) (c.toNat : Int) (b.map (fun b => (b.toNat : Int)))
      rwa [List.length_map] at this
    have hll : s.size = a.length + (b.length + 1) := by rw [size_toL, h, List.length_append, List.length_cons]
    have hih := fun n => ih (a ++ [c]) n (by rw [h]; simp)
    simp only [List.length_append, List.length_singleton] at hih
    refine Ev.succ ?_
    simp only [ask_number.l0, g, wr_succ a.length (show a.length ≤ 1125899906842624 by omega)]
    refine Ev.if_pos (by omega) (Ev.if_pos (nn0 _) (Ev.if_pos (by omega) ?_))
    rw [DL]
    by_cases c1 : (c.toNat : Int) < 48
    · rw [if_pos c1]; exact Ev.if_pos c1 (Ev.now _)
    rw [if_neg c1]
    refine Ev.if_neg c1 ?_
    by_cases c2 : (c.toNat : Int) > 57
    · rw [if_pos c2]; exact Ev.if_pos c2 (Ev.now _)
    rw [if_neg c2]
    refine Ev.if_neg c2 ?_
    have e1 : IntKind.u8.wrap ((c.toNat : Int) - 48) = (c.toNat : Int) - 48 := by
      show ((c.toNat : Int) - 48) % 256 = _
      omega
    have e2 : mn (wrap64 ((wrap64 (10 * n)) + (wrap64 ((IntKind.u8.wrap ((c.toNat : Int) - 48)))))) 1000 = min (10 * n + ((c.toNat : Int) - 48)) 1000 := by
      rw [e1, wrap_id (i := 10 * n) (by omega) (by omega), wrap_id (i := (c.toNat : Int) - 48) (by omega) (by omega), wrap_id (by omega) (by omega)]
      show (if (1000 : Int) < _ then _ else _) = _
      split <;> omega
    rw [e2]
    exact hih _ (by omega) (by omega)
theorem empty_iff (s : ByteArray) : s = ByteArray.empty ↔ s.size = 0 := by
  constructor
  · intro h; rw [h]; rfl
  · intro h
    apply toL_inj
    rw [show toL s = [] from List.eq_nil_of_length_eq_zero (by rw [← size_toL]; exact h)]
    rfl
theorem anumber_ev (s : ByteArray) (hs : s.size ≤ 1000000) : Ev (fun k => ask_number.f k s) (DG s) := by
  have hl := number_l0 s hs (toL s) [] 0 rfl (by omega) (by omega)
  unfold ask_number.f DG
  have hlim : s.size ≤ lim := Nat.le_trans hs (by decide)
  by_cases h0 : s.size = 0
  · rw [if_pos h0]; exact Ev.if_pos ((empty_iff s).2 h0) (Ev.now _)
  rw [if_neg h0]
  refine Ev.if_neg (fun e => h0 ((empty_iff s).1 e)) ?_
  by_cases h1 : (s.size : Int) > 1
  · refine Ev.if_pos h1 (Ev.if_pos (by omega) ?_)
    by_cases h2 : bt s 0 = 48
    · rw [if_pos ⟨by omega, h2⟩]; exact Ev.if_pos h2 (Ev.now _)
    · rw [if_neg fun e => h2 e.2]; exact Ev.if_neg h2 (Ev.if_pos hlim hl)
  · rw [if_neg fun e => h1 (by omega)]
    exact Ev.if_neg h1 (Ev.if_pos hlim hl)
def EX (b : Bool) : List Tk → Int
  | [] => 0
  | t :: r => if b = true then (if isBar t then t.1 else EX b r) else t.1
theorem extra_l0 (x : Bool) (l : List Tk) (hl : l.length ≤ 100000) : ∀ (b a : List Tk), l = a ++ b → Ev (fun k => ask_extra.l0 k x l (l.length : Int) (a.length : Int)) (EX x b) := by
  intro b
  induction b with
  | nil =>
    intro a h
    rw [List.append_nil] at h
    refine Ev.succ ?_
    simp only [ask_extra.l0]
    exact Ev.if_neg (by rw [h]; omega) (Ev.now _)
  | cons t b ih =>
    intro a h
    have g : gt tk0 l (a.length : Int) = t := by rw [h]; exact gt_at _ a t b
    have hll : l.length = a.length + (b.length + 1) := by rw [h, List.length_append, List.length_cons]
    have hih := ih (a ++ [t]) (by rw [h]; simp)
    rw [List.length_append, List.length_singleton] at hih
    refine Ev.succ ?_
    simp only [ask_extra.l0, g, wr_succ a.length (show a.length ≤ 1125899906842624 by omega)]
    refine Ev.if_pos (by omega) (Ev.if_pos (nn0 _) (Ev.if_pos (by omega) ?_))
    rw [EX]
    by_cases hx : x = true
    · rw [if_pos hx]
      refine Ev.if_pos hx ?_
      by_cases hb : isBar t
      · rw [if_pos hb]; exact Ev.if_pos ((bar_eq t).2 hb) (Ev.now _)
      · rw [if_neg hb]; exact Ev.if_neg (fun e => hb ((bar_eq t).1 e)) hih
    · rw [if_neg hx]; exact Ev.if_neg hx (Ev.now _)
theorem extra_ev (x : Bool) (l : List Tk) (hl : l.length ≤ 100000) : Ev (fun k => ask_extra.f k l x) (EX x l) := extra_l0 x l hl l [] rfl
end Go.DI.Th
namespace Go.DI.Th
open Go Go.RowKit Go.DI

abbrev AR := Int × Int × List Ce × List (List Ce) × List Ce × Int × Int
def AErr (a e : Int) : AR := (0, 0, [], [], [], a, e)
def FN (R : RRes) (kd ft : Int) (rw gr : List Ce) : AR := if R.2.2 ≠ 0 then AErr R.2.1 R.2.2 else (kd, ft, rw, R.1, gr, 0, 0)
def TL (ma x : Bool) (l : List Tk) (ps : List (List Tk)) (kd ft : Int) (rw gr : List Ce) : AR := if ma = false ∧ ps ≠ [] then AErr (EX x l) 10 else FN (RF [] ps) kd ft rw gr
def ART (kd ft : Int) (ro gr ma : Bool) (l : List Tk) : AR :=
  if ro = true ∨ gr = true then
    (if (WF [] ((SP l).headD [])).2.2 ≠ 0 then AErr (WF [] ((SP l).headD [])).2.1 (WF [] ((SP l).headD [])).2.2 else
      TL ma true l (SP l).tail kd ft (if ro = true then (WF [] ((SP l).headD [])).1 else []) (if ro = true then [] else (WF [] ((SP l).headD [])).1))
  else TL ma false l (SP l) kd ft [] []
theorem FN_cons {acc : List (List Ce)} {p : List Tk} {ps : List (List Tk)} (h : (WF [] p).2.2 ≠ 0) (kd ft : Int) (rw gr : List Ce) : FN (RF acc (p :: ps)) kd ft rw gr = AErr (WF [] p).2.1 (WF [] p).2.2 := by
  rw [RF, if_pos h, FN, if_pos h]
theorem rest_l0 (Ps : List (List Tk)) (hz : ∀ p ∈ Ps, TkZ p ∧ p.length ≤ 100000) (hl : Ps.length ≤ 100000) (kd ft : Int) (rw gr : List Ce) (u v : Int) : ∀ (b a : List (List Tk)) (acc : List (List Ce)), Ps = a ++ b → acc.length = a.length → Ev (fun k => ask_rest.l0 k Ps (Ps.length : Int) (a.length : Int) kd ft rw acc gr u v) (FN (RF acc b) kd ft rw gr) := by
  intro b
  induction b with
  | nil =>
    intro a acc h ha
    rw [List.append_nil] at h
    refine Ev.succ ?_
    simp only [ask_rest.l0]
    exact Ev.if_neg (by rw [h]; omega) (Ev.now _)
  | cons p b ih =>
    intro a acc h ha
    have g : gt [] Ps (a.length : Int) = p := by rw [h]; exact gt_at _ a p b
    have hll : Ps.length = a.length + (b.length + 1) := by rw [h, List.length_append, List.length_cons]
    obtain ⟨z1, z2⟩ := hz p (by rw [h]; simp)
    have hc := words9_ev p z1 z2
    have hih := ih (a ++ [p]) (acc ++ [(WF [] p).1]) (by rw [h]; simp) (by rw [List.length_append, List.length_append, ha]; rfl)
    rw [List.length_append, List.length_singleton] at hih
    refine Ev.succ ?_
    simp only [ask_rest.l0, g, wr_succ a.length (show a.length ≤ 1125899906842624 by omega)]
    refine Ev.if_pos (by omega) (Ev.if_pos (nn0 _) (Ev.if_pos (by omega) (Ev.bind hc ?_)))
    by_cases he : (WF [] p).2.2 ≠ 0
    · rw [FN_cons he]
      exact Ev.if_pos he (Ev.now _)
    · rw [RF, if_neg he]
      exact Ev.if_neg he (Ev.if_pos (by omega) hih)
theorem SP_split {l : List Tk} (hl : l.length ≤ 1000000) : Ev (fun _ => rows_Split.f l) (SP l) := by
  refine Ev.congr (fun _ => ?_) (Ev.now _)
  unfold rows_Split.f SP
  rw [if_pos (by omega)]
  split <;> rfl
theorem rest_tail (l : List Tk) (hl : l.length ≤ 100000) (Ps : List (List Tk)) (hz : ∀ p ∈ Ps, TkZ p ∧ p.length ≤ 100000) (hP : Ps.length ≤ 100000) (v6 kd ft : Int) (ma x : Bool) (h8 : Go.bits .and .i64 v6 8 = 0 ↔ ma = false) (h6 : (Go.bits .and .i64 v6 6 != 0) = x) (rw gr : List Ce) :
    Ev (fun k => if Go.bits .and .i64 v6 8 = 0 then (if (Ps.length : Int) > 0 then ((ask_extra.f k l (Go.bits .and .i64 v6 6 != 0)).bind fun v => (some (AErr v 10))) else (ask_rest.l0 k Ps (Ps.length : Int) 0 kd ft rw ([] : List (List Ce)) gr 0 0)) else (ask_rest.l0 k Ps (Ps.length : Int) 0 kd ft rw ([] : List (List Ce)) gr 0 0)) (TL ma x l Ps kd ft rw gr) := by
  have hr := rest_l0 Ps hz hP kd ft rw gr 0 0 Ps [] [] rfl rfl
  unfold TL
  rw [h6]
  by_cases hm : ma = false
  · refine Ev.if_pos (h8.2 hm) ?_
    by_cases hp : Ps = []
    · refine Ev.if_neg (by rw [hp]; decide) (hr.of_eq ?_)
      rw [if_neg fun e => e.2 hp]
    · have := List.length_pos_iff.2 hp
      refine Ev.if_pos (by omega) (Ev.bind (extra_ev x l hl) ((Ev.now _).of_eq ?_))
      rw [if_pos ⟨hm, hp⟩]
  · refine Ev.if_neg (fun e => hm (h8.1 e)) (hr.of_eq ?_)
    rw [if_neg fun e => hm e.1]
theorem rest_split (l : List Tk) (z : TkZ l) (hl : l.length ≤ 4096) (v6 kd ft : Int) (ro gr ma : Bool) (h2 : Go.bits .and .i64 v6 2 ≠ 0 ↔ ro = true) (h6 : Go.bits .and .i64 v6 6 ≠ 0 ↔ (ro = true ∨ gr = true)) (h8 : Go.bits .and .i64 v6 8 = 0 ↔ ma = false) :
    Ev (fun k => ((rows_Split.f l).bind fun v12 => (if (Go.bits .and .i64 v6 6) ≠ 0 then (if (v12.length : Int) > 0 then (if 1 ≤ (v12.length : Int) then ((rows_Words.f k (gt [] v12 0)).bind fun v29 => (if v29.2.2 ≠ 0 then (some (0, 0, ([] : List Ce), ([] : List (List Ce)), ([] : List Ce), v29.2.1, v29.2.2)) else (if (Go.bits .and .i64 v6 2) ≠ 0 then (if (Go.bits .and .i64 v6 8) = 0 then (if ((v12.drop 1).length : Int) > 0 then ((ask_extra.f k l ((Go.bits .and .i64 v6 6) != 0)).bind fun v58 => (some (0, 0, ([] : List Ce), ([] : List (List Ce)), ([] : List Ce), v58, 10))) else (ask_rest.l0 k (v12.drop 1) ((v12.drop 1).length : Int) 0 kd ft v29.1 ([] : List (List Ce)) ([] : List Ce) 0 0)) else (ask_rest.l0 k (v12.drop 1) ((v12.drop 1).length : Int) 0 kd ft v29.1 ([] : List (List Ce)) ([] : List Ce) 0 0)) else (if (Go.bits .and .i64 v6 8) = 0 then (if ((v12.drop 1).length : Int) > 0 then ((ask_extra.f k l ((Go.bits .and .i64 v6 6) != 0)).bind fun v58 => (some (0, 0, ([] : List Ce), ([] : List (List Ce)), ([] : List Ce), v58, 10))) else (ask_rest.l0 k (v12.drop 1) ((v12.drop 1).length : Int) 0 kd ft ([] : List Ce) ([] : List (List Ce)) v29.1 0 0)) else (ask_rest.l0 k (v12.drop 1) ((v12.drop 1).length : Int) 0 kd ft ([] : List Ce) ([] : List (List Ce)) v29.1 0 0))))) else none) else ((rows_Words.f k ([] : List Tk)).bind fun v22 => (if v22.2.2 ≠ 0 then (some (0, 0, ([] : List Ce), ([] : List (List Ce)), ([] : List Ce), v22.2.1, v22.2.2)) else (if (Go.bits .and .i64 v6 2) ≠ 0 then (if (Go.bits .and .i64 v6 8) = 0 then (if (v12.length : Int) > 0 then ((ask_extra.f k l ((Go.bits .and .i64 v6 6) != 0)).bind fun v51 => (some (0, 0, ([] : List Ce), ([] : List (List Ce)), ([] : List Ce), v51, 10))) else (ask_rest.l0 k v12 (v12.length : Int) 0 kd ft v22.1 ([] : List (List Ce)) ([] : List Ce) 0 0)) else (ask_rest.l0 k v12 (v12.length : Int) 0 kd ft v22.1 ([] : List (List Ce)) ([] : List Ce) 0 0)) else (if (Go.bits .and .i64 v6 8) = 0 then (if (v12.length : Int) > 0 then ((ask_extra.f k l ((Go.bits .and .i64 v6 6) != 0)).bind fun v51 => (some (0, 0, ([] : List Ce), ([] : List (List Ce)), ([] : List Ce), v51, 10))) else (ask_rest.l0 k v12 (v12.length : Int) 0 kd ft ([] : List Ce) ([] : List (List Ce)) v22.1 0 0)) else (ask_rest.l0 k v12 (v12.length : Int) 0 kd ft ([] : List Ce) ([] : List (List Ce)) v22.1 0 0)))))) else (if (Go.bits .and .i64 v6 8) = 0 then (if (v12.length : Int) > 0 then ((ask_extra.f k l ((Go.bits .and .i64 v6 6) != 0)).bind fun v30 => (some (0, 0, ([] : List Ce), ([] : List (List Ce)), ([] : List Ce), v30, 10))) else (ask_rest.l0 k v12 (v12.length : Int) 0 kd ft ([] : List Ce) ([] : List (List Ce)) ([] : List Ce) 0 0)) else (ask_rest.l0 k v12 (v12.length : Int) 0 kd ft ([] : List Ce) ([] : List (List Ce)) ([] : List Ce) 0 0))))) (ART kd ft ro gr ma l) := by
  obtain ⟨s1, s2⟩ := SP_ok z hl
  refine Ev.bind (SP_split (by omega)) ?_
  unfold ART
  have hx : ∀ x : Bool, (Go.bits .and .i64 v6 6 ≠ 0 ↔ x = true) → (Go.bits .and .i64 v6 6 != 0) = x := fun x hx => by
    rw [Bool.eq_iff_iff, bne_iff_ne]; exact hx
  by_cases hrg : ro = true ∨ gr = true
  · rw [if_pos hrg]
    have hb := hx true (h6.trans ⟨fun _ => rfl, fun _ => hrg⟩)
    refine Ev.if_pos (h6.2 hrg) ?_
    by_cases hp : SP l = []
    · rw [hp]
      have hw : Ev (fun k => rows_Words.f k ([] : List Tk)) (WF [] []) := words9_ev [] (fun x hx => by cases hx) (Nat.zero_le _)
      have hT := fun rw gr => rest_tail l (by omega) [] (fun p hp => by cases hp) (Nat.zero_le _) v6 kd ft ma true h8 hb rw gr
      refine Ev.if_neg (by decide) (Ev.bind hw ?_)
      rw [if_neg (show ¬ (WF [] (List.headD [] ([] : List Tk))).2.2 ≠ 0 from fun e => e rfl)]
      refine Ev.if_neg (fun e => e rfl) ?_
      by_cases hro : ro = true
      · rw [if_pos hro, if_pos hro]; exact Ev.if_pos (h2.2 hro) (hT _ _)
      · rw [if_neg hro, if_neg hro]; exact Ev.if_neg (fun e => hro (h2.1 e)) (hT _ _)
    · obtain ⟨p, ps, hps⟩ := List.exists_cons_of_ne_nil hp
      rw [hps] at s1 s2 ⊢
      obtain ⟨z1, z2⟩ := s1 p List.mem_cons_self
      have hw := words9_ev p z1 z2
      have hT := fun rw gr => rest_tail l (by omega) ps (fun q hq => s1 q (List.mem_cons_of_mem _ hq)) (by rw [List.length_cons] at s2; omega) v6 kd ft ma true h8 hb rw gr
      refine Ev.if_pos (by rw [List.length_cons]; omega) (Ev.if_pos (by rw [List.length_cons]; omega) (Ev.bind (show Ev _ (WF [] p) from hw) ?_))
      show Ev _ (if (WF [] p).2.2 ≠ 0 then AErr (WF [] p).2.1 (WF [] p).2.2 else TL ma true l ps kd ft (if ro = true then (WF [] p).1 else []) (if ro = true then [] else (WF [] p).1))
      by_cases he : (WF [] p).2.2 ≠ 0
      · exact (Ev.if_pos he (Ev.now _)).of_eq (if_pos he).symm
      · rw [if_neg (c := (WF [] p).2.2 ≠ 0) he]
        refine Ev.if_neg he ?_
        by_cases hro : ro = true
        · rw [if_pos (c := ro = true) hro, if_pos (c := ro = true) hro]; exact Ev.if_pos (h2.2 hro) (hT _ _)
        · rw [if_neg (c := ro = true) hro, if_neg (c := ro = true) hro]; exact Ev.if_neg (fun e => hro (h2.1 e)) (hT _ _)
  · rw [if_neg hrg]
    have hb := hx false (h6.trans ⟨fun e => absurd e hrg, fun e => by cases e⟩)
    exact Ev.if_neg (fun e => hrg (h6.1 e)) (rest_tail l (by omega) (SP l) s1 s2 v6 kd ft ma false h8 hb [] [])
end Go.DI.Th
namespace Go.DI.Th
open Go Go.RowKit Go.DI

def fe (k : Int) : Bool := decide (k = 7 ∨ k = 8)
def ro (k : Int) : Bool := decide (k = 1 ∨ k = 3 ∨ k = 4 ∨ k = 5 ∨ k = 6)
def gr (k : Int) : Bool := decide (k = 7 ∨ k = 8)
def ma (k : Int) : Bool := decide (k = 4 ∨ k = 8 ∨ k = 9)
theorem kinds {k : Int} (h1 : 1 ≤ k) (h9 : k ≤ 9) : k = 1 ∨ k = 2 ∨ k = 3 ∨ k = 4 ∨ k = 5 ∨ k = 6 ∨ k = 7 ∨ k = 8 ∨ k = 9 := by omega
structure FormOk (k v : Int) : Prop where
  e : ask_form.f k = some v
  b1 : Go.bits .and .i64 v 1 ≠ 0 ↔ fe k = true
  b2 : Go.bits .and .i64 v 2 ≠ 0 ↔ ro k = true
  b4 : Go.bits .and .i64 v 4 ≠ 0 ↔ gr k = true
  b6 : Go.bits .and .i64 v 6 ≠ 0 ↔ (ro k = true ∨ gr k = true)
  b8 : Go.bits .and .i64 v 8 = 0 ↔ ma k = false
theorem form_ok {k : Int} (h1 : 1 ≤ k) (h9 : k ≤ 9) : ∃ v, FormOk k v := by
  rcases kinds h1 h9 with rfl | rfl | rfl | rfl | rfl | rfl | rfl | rfl | rfl
  all_goals exact ⟨_, rfl, by decide +kernel, by decide +kernel, by decide +kernel, by decide +kernel, by decide +kernel⟩
theorem kindOf_range (s : ByteArray) : kindOf s = 0 ∨ (1 ≤ kindOf s ∧ kindOf s ≤ 9) := by
  unfold kindOf
  repeat' split
  all_goals decide
theorem word_some (k : Int) : ∃ s, ask_word.f k = some s ∧ (s = ByteArray.empty ∨ kindOf s = k) := by
  by_cases h1 : 1 ≤ k ∧ k ≤ 9
  · rcases kinds h1.1 h1.2 with rfl | rfl | rfl | rfl | rfl | rfl | rfl | rfl | rfl
    all_goals exact ⟨_, rfl, .inr (by decide +kernel)⟩
  · refine ⟨ByteArray.empty, ?_, .inl rfl⟩
    unfold ask_word.f
    rw [if_neg (by omega), if_neg (by omega), if_neg (by omega), if_neg (by omega), if_neg (by omega), if_neg (by omega), if_neg (by omega), if_neg (by omega), if_neg (by omega)]
def PK (kd sz : Int) (l : List Tk) : AR := if fe kd = true then (match l with | [] => AErr sz 9 | t :: m => if (DG t.2.2).2 ≠ 0 then AErr t.1 (DG t.2.2).2 else ART kd (DG t.2.2).1 (ro kd) (gr kd) (ma kd) m) else ART kd 0 (ro kd) (gr kd) (ma kd) l
def PR (x : ByteArray) : AR := if (LW x).2.2 ≠ 0 then AErr (LW x).2.1 (LW x).2.2 else (match (LW x).1 with | [] => AErr (x.size : Int) 9 | t :: l => if kindOf t.2.2 = 0 then AErr t.1 7 else PK (kindOf t.2.2) (x.size : Int) l)
theorem arest_ev {kd : Int} (h1 : 1 ≤ kd) (h9 : kd ≤ 9) (sz : Int) (l : List Tk) (z : TkZ l) (hl : l.length ≤ 4096) : Ev (fun k => ask_rest.f k kd 0 ([] : List Ce) ([] : List Ce) l sz) (PK kd sz l) := by
  obtain ⟨v, F⟩ := form_ok h1 h9
  unfold ask_rest.f PK
  simp only [F.e, Option.bind_some]
  by_cases hf : fe kd = true
  · rw [if_pos hf]
    refine Ev.if_pos (F.b1.2 hf) ?_
    cases l with
    | nil => exact Ev.if_pos rfl (Ev.now _)
    | cons t m =>
      rw [List.length_cons] at hl
      have g : gt tk0 (t :: m) 0 = t := rfl
      have hn := anumber_ev t.2.2 (z t List.mem_cons_self)
      have hT := rest_split m (fun x hx => z x (List.mem_cons_of_mem _ hx)) (by omega) v kd (DG t.2.2).1 (ro kd) (gr kd) (ma kd) F.b2 F.b6 F.b8
      rw [g]
      refine Ev.if_neg (by rw [List.length_cons]; omega) (Ev.if_pos (by rw [List.length_cons]; omega) (Ev.bind hn ?_))
      by_cases he : (DG t.2.2).2 ≠ 0
      · exact (Ev.if_pos he (Ev.now _)).of_eq (if_pos he).symm
      · refine Ev.of_eq (Ev.if_neg he (Ev.if_pos (by rw [List.length_cons]; omega) ?_)) (if_neg he).symm
        exact hT
  · rw [if_neg hf]
    exact Ev.if_neg (fun e => hf (F.b1.1 e)) (rest_split l z hl v kd 0 (ro kd) (gr kd) (ma kd) F.b2 F.b6 F.b8)
theorem aparse_ev (x : ByteArray) (hx : x.size ≤ 100000) : Ev (fun k => ask_Parse.f k x) (PR x) := by
  obtain ⟨z, hl⟩ := LW_ok x hx
  have hw : Ev (fun k => lex_Words.f k x) (LW x) := words_ev x (by omega)
  have hK : ∀ s, ask_Kind.f s = some (kindOf s) := fun s => rfl
  unfold ask_Parse.f PR
  refine Ev.bind hw ?_
  by_cases he : (LW x).2.2 ≠ 0
  · exact (Ev.if_pos he (Ev.now _)).of_eq (if_pos he).symm
  rw [if_neg (c := (LW x).2.2 ≠ 0) he]
  refine Ev.if_neg he ?_
  revert z hl
  cases (LW x).1 with
  | nil => intro _ _; exact Ev.if_pos rfl (Ev.now _)
  | cons t l =>
    intro z hl
    rw [List.length_cons] at hl
    have g : gt tk0 (t :: l) 0 = t := rfl
    rw [g]
    simp only [hK, Option.bind_some]
    refine Ev.if_neg (by rw [List.length_cons]; omega) (Ev.if_pos (by rw [List.length_cons]; omega) ?_)
    by_cases h0 : kindOf t.2.2 = 0
    · exact (Ev.if_pos h0 (Ev.now _)).of_eq (if_pos h0).symm
    · obtain ⟨k1, k9⟩ := (kindOf_range t.2.2).resolve_left h0
      refine Ev.of_eq (Ev.if_neg h0 (Ev.if_pos (by rw [List.length_cons]; omega) ?_)) (if_neg h0).symm
      exact Ev.bind (arest_ev k1 k9 (x.size : Int) l (fun y hy => z y (List.mem_cons_of_mem _ hy)) (by omega)) (Ev.now _)
structure AOk (a : AR) : Prop where
  r : (∀ c ∈ a.2.2.1, CeB' c) ∧ a.2.2.1.length ≤ 1000000
  g : (∀ c ∈ a.2.2.2.2.1, CeB' c) ∧ a.2.2.2.2.1.length ≤ 1000000
  m : GoodR a.2.2.2.1
  l : a.2.2.2.1.length ≤ 1000000
theorem nilC : (∀ c ∈ ([] : List Ce), CeB' c) ∧ ([] : List Ce).length ≤ 1000000 := ⟨fun c hc => (by cases hc), Nat.zero_le _⟩
theorem AErr_ok (a e : Int) : AOk (AErr a e) := ⟨nilC, nilC, fun r hr => (by cases hr), Nat.zero_le _⟩
theorem WF_ok (l : List Tk) (hl : l.length ≤ 100000) : (∀ c ∈ (WF [] l).1, CeB' c) ∧ (WF [] l).1.length ≤ 1000000 :=
  ⟨WF_B l [] fun c hc => (by cases hc), by have := WF_len l []; rw [List.length_nil] at this; omega⟩
theorem RF_ok : ∀ (ps : List (List Tk)) (acc : List (List Ce)), (∀ p ∈ ps, TkZ p ∧ p.length ≤ 100000) → GoodR acc → acc.length + ps.length ≤ 1000000 → GoodR (RF acc ps).1 ∧ (RF acc ps).1.length ≤ 1000000
  | [], acc, _, h, hl => ⟨h, by rw [List.length_nil] at hl; exact hl⟩
  | p :: ps, acc, hz, h, hl => by
    rw [RF]
    split
    · exact ⟨fun r hr => (by cases hr), Nat.zero_le _⟩
    · rw [List.length_cons] at hl
      exact RF_ok ps _ (fun q hq => hz q (List.mem_cons_of_mem _ hq)) (h.snoc (hz p List.mem_cons_self).2) (by rw [List.length_append, List.length_singleton]; omega)
theorem TL_ok {ma x : Bool} {l : List Tk} {ps : List (List Tk)} (hz : ∀ p ∈ ps, TkZ p ∧ p.length ≤ 100000) (hP : ps.length ≤ 100000) (kd ft : Int) {rw_ gr : List Ce} (h1 : (∀ c ∈ rw_, CeB' c) ∧ rw_.length ≤ 1000000) (h2 : (∀ c ∈ gr, CeB' c) ∧ gr.length ≤ 1000000) : AOk (TL ma x l ps kd ft rw_ gr) := by
  obtain ⟨r1, r2⟩ := RF_ok ps [] hz (fun r hr => by cases hr) (by rw [List.length_nil]; omega)
  unfold TL FN
  split
  · exact AErr_ok _ _
  · split
    · exact AErr_ok _ _
    · exact ⟨h1, h2, r1, r2⟩
theorem ART_ok (kd ft : Int) (ro gr ma : Bool) {l : List Tk} (z : TkZ l) (hl : l.length ≤ 4096) : AOk (ART kd ft ro gr ma l) := by
  obtain ⟨s1, s2⟩ := SP_ok z hl
  unfold ART
  split
  · have hh : ((SP l).headD []).length ≤ 100000 := by
      cases h : SP l with
      | nil => exact Nat.zero_le _
      | cons p ps => rw [h] at s1; exact (s1 p List.mem_cons_self).2
    have hw := WF_ok _ hh
    split
    · exact AErr_ok _ _
    · refine TL_ok (fun p hp => s1 p (List.mem_of_mem_tail hp)) (by rw [List.length_tail]; omega) kd ft ?_ ?_
      · split
        · exact hw
        · exact nilC
      · split
        · exact nilC
        · exact hw
  · exact TL_ok s1 s2 kd ft nilC nilC
theorem PK_ok (kd sz : Int) {l : List Tk} (z : TkZ l) (hl : l.length ≤ 4096) : AOk (PK kd sz l) := by
  unfold PK
  split
  · cases l with
    | nil => exact AErr_ok _ _
    | cons t m =>
      dsimp only
      split
      · exact AErr_ok _ _
      · rw [List.length_cons] at hl
        exact ART_ok _ _ _ _ _ (fun y hy => z y (List.mem_cons_of_mem _ hy)) (by omega)
  · exact ART_ok _ _ _ _ _ z hl
theorem PR_ok (x : ByteArray) (hx : x.size ≤ 100000) : AOk (PR x) := by
  obtain ⟨z, hl⟩ := LW_ok x hx
  unfold PR
  split
  · exact AErr_ok _ _
  · revert z hl
    cases (LW x).1 with
    | nil => intro _ _; exact AErr_ok _ _
    | cons t l =>
      intro z hl
      rw [List.length_cons] at hl
      dsimp only
      split
      · exact AErr_ok _ _
      · exact PK_ok _ _ (fun y hy => z y (List.mem_cons_of_mem _ hy)) (by omega)
theorem same28_l0 (Rs Ss : List (List Ce)) (u0 u1 v0 v1 : Int) (u2 u4 v2 v4 : List Ce) (hl : Rs.length ≤ 1000000) (hs : Rs.length = Ss.length) : ∀ (b a d c : List (List Ce)), Rs = a ++ b → Ss = c ++ d → a.length = c.length → (∀ p ∈ b.zip d, Ev (fun k => dendronref09_Equal.f k p.1 p.2) true) → Ev (fun k => dendronref28_Same.l0 k (a.length : Int) u0 u1 u2 Rs u4 v0 v1 v2 Ss v4) true := by
  intro b
  induction b with
  | nil =>
    intro a d c h _ _ _
    rw [List.append_nil] at h
    refine Ev.succ ?_
    simp only [dendronref28_Same.l0]
    exact Ev.if_neg (by rw [h]; omega) (Ev.now _)
  | cons r b ih =>
    intro a d c h h2 hac hE
    have hll : Rs.length = a.length + (b.length + 1) := by rw [h, List.length_append, List.length_cons]
    cases d with
    | nil => rw [List.append_nil] at h2; rw [h2] at hs; omega
    | cons s d =>
      have g : gt [] Rs (a.length : Int) = r := by rw [h]; exact gt_at _ a r b
      have g2 : gt [] Ss (a.length : Int) = s := by rw [h2, hac]; exact gt_at _ c s d
      have hih := ih (a ++ [r]) d (c ++ [s]) (by rw [h]; simp) (by rw [h2]; simp) (by rw [List.length_append, List.length_append, hac]; rfl) (fun p hp => hE p (by rw [List.zip_cons_cons]; exact List.mem_cons_of_mem _ hp))
      rw [List.length_append, List.length_singleton] at hih
      refine Ev.succ ?_
      simp only [dendronref28_Same.l0, g, g2, wr_succ a.length (show a.length ≤ 1125899906842624 by omega)]
      exact Ev.if_pos (by omega) (Ev.if_pos (nn0 _) (Ev.if_pos (by omega) (Ev.bind (hE (r, s) (by rw [List.zip_cons_cons]; exact List.mem_cons_self)) (Ev.if_pos rfl hih))))
theorem mem_zip_self {α : Type} : ∀ (l : List α) (p : α × α), p ∈ l.zip l → p.1 = p.2 ∧ p.1 ∈ l
  | [], p, h => by cases h
  | x :: l, p, h => by
    rw [List.zip_cons_cons] at h
    rcases List.mem_cons.1 h with rfl | h
    · exact ⟨rfl, List.mem_cons_self⟩
    · obtain ⟨h1, h2⟩ := mem_zip_self l p h
      exact ⟨h1, List.mem_cons_of_mem _ h2⟩
theorem same28_self (a : AR) (h : AOk a) : Ev (fun k => dendronref28_Same.f k a.1 a.2.1 a.2.2.1 a.2.2.2.1 a.2.2.2.2.1 a.1 a.2.1 a.2.2.1 a.2.2.2.1 a.2.2.2.2.1) true := by
  unfold dendronref28_Same.f
  refine Ev.if_neg (fun e => e rfl) (Ev.if_neg (fun e => e rfl) (Ev.bind (dequal_self _ h.r.1 h.r.2) (Ev.if_pos rfl (Ev.bind (dequal_self _ h.g.1 h.g.2) (Ev.if_pos rfl (Ev.if_neg (fun e => e rfl) ?_))))))
  refine same28_l0 _ _ _ _ _ _ _ _ _ _ h.l rfl _ [] _ [] rfl rfl rfl fun p hp => ?_
  obtain ⟨e, hm⟩ := mem_zip_self _ p hp
  rw [← e]
  exact dequal_self _ (h.m _ hm).1 (h.m _ hm).2
end Go.DI.Th
namespace Go.DI.Th
open Go Go.RowKit Go.DI

abbrev AK := Int × Int × List Ce × List (List Ce) × List Ce
def CLk (f : List Ce → List Ce) (kd ft : Int) (rw_ : List Ce) (rs : List (List Ce)) (gd : List Ce) : AK := (kd, (if fe kd = true then ft else 0), (if ro kd = true then f rw_ else []), (if ma kd = true then rs.map f else []), (if gr kd = true then f gd else []))
structure InOk (rw_ : List Ce) (rs : List (List Ce)) (gd : List Ce) : Prop where
  r : (∀ c ∈ rw_, CeB c) ∧ rw_.length ≤ 1000
  g : (∀ c ∈ gd, CeB c) ∧ gd.length ≤ 1000
  m : ∀ r ∈ rs, (∀ c ∈ r, CeB c) ∧ r.length ≤ 1000
  l : rs.length ≤ 1000
end Go.DI.Th
namespace Go.DI.Th
open Go Go.RowKit Go.DI

def JT (L : List ByteArray) : List UInt8 := joinW (L.map toL)
theorem joinW_snoc : ∀ (l : List (List UInt8)) (s : List UInt8), l ≠ [] → joinW (l ++ [s]) = joinW l ++ 32 :: s
  | [], _, h => absurd rfl h
  | [w], s, _ => rfl
  | w :: v :: l, s, _ => by
    have ih := joinW_snoc (v :: l) s (by simp)
    have e1 : joinW (w :: v :: l ++ [s]) = w ++ 32 :: joinW (v :: l ++ [s]) := rfl
    have e2 : joinW (w :: v :: l) = w ++ 32 :: joinW (v :: l) := rfl
    rw [e1, ih, e2, List.append_assoc]
    rfl
theorem JT_snoc (L : List ByteArray) (s : ByteArray) (h : L ≠ []) : JT (L ++ [s]) = JT L ++ 32 :: toL s := by
  unfold JT
  rw [List.map_append]
  exact joinW_snoc _ _ (by intro e; exact h (List.map_eq_nil_iff.1 e))
def barB : ByteArray := ⟨#[124]⟩
def fT (ft : Int) : ByteArray := prN ft.toNat
theorem feat_ev (ft : Int) (h0 : 0 ≤ ft) (h9 : ft ≤ 999) : ∃ q : Rt, Ev (fun k => ratio_Of.f k ft) q ∧ Ev (fun k => ratio_Print.f k q.1 q.2.1 q.2.2) (fT ft) := by
  obtain ⟨n, rfl⟩ : ∃ n : Nat, ft = (n : Int) := ⟨ft.toNat, by omega⟩
  have h1 := rof_ev (n : Int) (by omega) (by omega)
  rw [wl_nat] at h1
  have hl : len n ≤ 2 := len_small (by omega)
  have h2 := rprint_ev false (lm n) (lm 1) (lm_ok n).U (lm_ok 1).U (by rw [lm_length]; omega) (by rw [lm_length]; have := len_small (show 1 < 18446744073709551616 by decide); omega)
  rw [digits_prR] at h2
  refine ⟨_, h1, ?_⟩
  unfold fT
  rw [Int.toNat_natCast]
  exact h2
theorem fT_size (ft : Int) (h9 : ft ≤ 999) : (fT ft).size ≤ 65 := prN_small (by omega)
def addP (L : List ByteArray) (r : List Ce) : List ByteArray := if r.length = 0 then L else L ++ [rowT r]
def rowsP (kd : Int) : Nat → List ByteArray → List (List Ce) → List ByteArray
  | _, L, [] => L
  | i, L, r :: rs => rowsP kd (i + 1) (addP (if 0 < i ∨ kd ≠ 9 then L ++ [barB] else L) r) rs
def headP (kd ft : Int) (wo : ByteArray) : List ByteArray := if fe kd = true then [wo, fT ft] else [wo]
def firstP (kd ft : Int) (wo : ByteArray) (rw_ gd : List Ce) : List ByteArray := if ro kd = true then addP (headP kd ft wo) rw_ else if gr kd = true then addP (headP kd ft wo) gd else headP kd ft wo
def allP (kd ft : Int) (wo : ByteArray) (rw_ : List Ce) (rs : List (List Ce)) (gd : List Ce) : List ByteArray := if ma kd = true then rowsP kd 0 (firstP kd ft wo rw_ gd) rs else firstP kd ft wo rw_ gd
theorem addP_ne {L : List ByteArray} (h : L ≠ []) (r : List Ce) : addP L r ≠ [] := by
  unfold addP; split
  · exact h
  · simp
theorem barP_ne {L : List ByteArray} (h : L ≠ []) (i : Nat) (kd : Int) : (if 0 < i ∨ kd ≠ 9 then L ++ [barB] else L) ≠ [] := by
  split
  · simp
  · exact h
theorem barP_len {L : List ByteArray} (h : L ≠ []) (i : Nat) (kd : Int) : (JT (if 0 < i ∨ kd ≠ 9 then L ++ [barB] else L)).length ≤ (JT L).length + 2 := by
  split
  · rw [JT_snoc _ _ h, List.length_append, List.length_cons]
    have : (toL barB).length = 1 := rfl
    omega
  · omega
theorem rowsP_num (kd : Int) : ∀ (rs : List (List Ce)) (i : Nat) (L : List ByteArray), (rowsP kd i L rs).length ≤ L.length + 2 * rs.length
  | [], i, L => by rw [rowsP]; simp
  | r :: rs, i, L => by
    rw [rowsP, List.length_cons]
    have := rowsP_num kd rs (i + 1) (addP (if 0 < i ∨ kd ≠ 9 then L ++ [barB] else L) r)
    have h2 : (addP (if 0 < i ∨ kd ≠ 9 then L ++ [barB] else L) r).length ≤ L.length + 2 := by
      unfold addP
      split <;> split <;> simp
    omega
def wdk (kd : Int) : ByteArray := (ask_word.f kd).getD ByteArray.empty
theorem wdk_eq (kd : Int) : ask_word.f kd = some (wdk kd) := by
  obtain ⟨s, hs, _⟩ := word_some kd
  unfold wdk
  rw [hs]; rfl
theorem no_word28 {k : Int} (h : ¬ (1 ≤ k ∧ k ≤ 9)) : ask_word.f k = some ByteArray.empty := by
  unfold ask_word.f
  rw [if_neg (by omega), if_neg (by omega), if_neg (by omega), if_neg (by omega), if_neg (by omega), if_neg (by omega), if_neg (by omega), if_neg (by omega), if_neg (by omega)]
theorem wdk_size (kd : Int) : (wdk kd).size ≤ 8 := by
  by_cases h : 1 ≤ kd ∧ kd ≤ 9
  · rcases kinds h.1 h.2 with rfl | rfl | rfl | rfl | rfl | rfl | rfl | rfl | rfl
    all_goals decide +kernel
  · unfold wdk
    rw [no_word28 h]
    decide
theorem headP_ne (kd ft : Int) (wo : ByteArray) : headP kd ft wo ≠ [] := by unfold headP; split <;> simp
theorem headP_len (kd ft : Int) (hft : ft ≤ 999) : (JT (headP kd ft (wdk kd))).length ≤ 100 := by
  have h1 := wdk_size kd
  have h2 := fT_size ft hft
  rw [size_toL] at h1 h2
  unfold headP
  split
  · have e : JT [wdk kd, fT ft] = toL (wdk kd) ++ 32 :: toL (fT ft) := rfl
    rw [e, List.length_append, List.length_cons]
    omega
  · have e : JT [wdk kd] = toL (wdk kd) := rfl
    rw [e]
    omega
theorem firstP_ne (kd ft : Int) (wo : ByteArray) (rw_ gd : List Ce) : firstP kd ft wo rw_ gd ≠ [] := by
  unfold firstP
  split
  · exact addP_ne (headP_ne _ _ _) _
  · split
    · exact addP_ne (headP_ne _ _ _) _
    · exact headP_ne _ _ _
theorem wrEnd_eq (L : List ByteArray) (hn : L.length ≤ 1000000) (hl : (JT L).length ≤ 1000000000000) : wrEnd L = some (ofL (JT L), 0) := by
  have e : ([32] : List UInt8).intercalate (L.map (fun x => x.data.toList)) = JT L := (joinW_int _).symm
  unfold wrEnd strings_Join.f
  have e2 : ((⟨#[32]⟩ : ByteArray).data.toList : List UInt8) = [32] := rfl
  rw [e2, e, if_pos ⟨by omega, by omega⟩]
  rfl
def badW (kd ft : Int) (rs : List (List Ce)) : Prop := ¬ (1 ≤ kd ∧ kd ≤ 9) ∨ (fe kd = true ∧ (ft < 0 ∨ 999 < ft)) ∨ (kd = 9 ∧ rs.length = 1 ∧ (rs.headD []).length = 0)
instance (kd ft : Int) (rs : List (List Ce)) : Decidable (badW kd ft rs) := by unfold badW; infer_instance
def lineP (kd ft : Int) (rw_ : List Ce) (rs : List (List Ce)) (gd : List Ce) : ByteArray := ofL (JT (allP kd ft (wdk kd) rw_ rs gd))
end Go.DI.Th
namespace Go.DI.Th
open Go Go.RowKit Go.DI

theorem sz {L : List ByteArray} {s : ByteArray} (h : toL s = JT L) : s.size = (JT L).length := by rw [size_toL, h]
end Go.DI.Th
namespace Go.DI.Th
open Go Go.RowKit Go.DI

structure CeG (c : Ce) : Prop where
  p : Ev (fun k => rows_Print.f k c.1 c.2.1 c.2.2.1 c.2.2.2) (prC c)
  s : (prC c).size ≤ 1400
  r : CR (prC c) = ((kC c).1, (kC c).2.1, (kC c).2.2.1, (kC c).2.2.2, 0)
theorem CeB.G {c : Ce} (h : CeB c) : CeG c := ⟨printC_ev c h, by have := prC_size c h; omega, CR_prC c h⟩
structure InG (rw_ : List Ce) (rs : List (List Ce)) (gd : List Ce) : Prop where
  r : (∀ c ∈ rw_, CeG c) ∧ rw_.length ≤ 1000
  g : (∀ c ∈ gd, CeG c) ∧ gd.length ≤ 1000
  m : ∀ r ∈ rs, (∀ c ∈ r, CeG c) ∧ r.length ≤ 1000
  l : rs.length ≤ 1000
theorem InOk.G {rw_ : List Ce} {rs : List (List Ce)} {gd : List Ce} (h : InOk rw_ rs gd) : InG rw_ rs gd :=
  ⟨⟨fun c hc => CeB.G (h.r.1 c hc), h.r.2⟩, ⟨fun c hc => CeB.G (h.g.1 c hc), h.g.2⟩, fun r hr => ⟨fun c hc => CeB.G ((h.m r hr).1 c hc), (h.m r hr).2⟩, h.l⟩
theorem rowT_lenG (l : List Ce) (h : ∀ c ∈ l, CeG c) : (joinW (l.map fun c => toL (prC c))).length ≤ l.length * 1401 := by
  have := joinW_len (l.map fun c => toL (prC c)) 1400 fun w hw => by
    obtain ⟨c, hc, rfl⟩ := List.mem_map.1 hw
    rw [← size_toL]
    exact (h c hc).s
  rwa [List.length_map] at this
theorem write9_l0G (l : List Ce) (h : ∀ c ∈ l, CeG c) (hl : l.length ≤ 1000) : ∀ (b a : List Ce), l = a ++ b → Ev (fun k => rows_Write.l0 k (a.map prC) l (l.length : Int) (a.length : Int)) (rowT l) := by
  have hT := rowT_lenG l h
  intro b
  induction b with
  | nil =>
    intro a h1
    rw [List.append_nil] at h1
    have e : (32 : UInt8) :: [] = (⟨#[32]⟩ : ByteArray).data.toList := rfl
    have em : (a.map prC).map (fun x => x.data.toList) = l.map fun c => toL (prC c) := by
      rw [h1, List.map_map]
      rfl
    have hj : strings_Join.f (a.map prC) (⟨#[32]⟩ : ByteArray) = some (rowT l) := by
      unfold strings_Join.f
      rw [← e, em, ← joinW_int, if_pos ⟨by rw [List.length_map, ← h1]; omega, by omega⟩]
      rfl
    refine Ev.succ ?_
    simp only [rows_Write.l0, hj]
    exact Ev.if_neg (by rw [h1]; omega) (Ev.bind (Ev.now _) (Ev.now _))
  | cons u b ih =>
    intro a h1
    have g : gt (false, false, [], []) l (a.length : Int) = u := by rw [h1]; exact gt_at _ a u b
    have hll : l.length = a.length + (b.length + 1) := by rw [h1, List.length_append, List.length_cons]
    have hp := (h u (by rw [h1]; simp)).p
    have hih := ih (a ++ [u]) (by rw [h1]; simp)
    rw [List.length_append, List.length_singleton, List.map_append] at hih
    refine Ev.succ ?_
    simp only [rows_Write.l0, g, wr_succ a.length (show a.length ≤ 1125899906842624 by omega)]
    exact Ev.if_pos (by omega) (Ev.if_pos (nn0 _) (Ev.if_pos (by omega) (Ev.bind hp (Ev.if_pos (by rw [List.length_map]; omega) hih))))
theorem write9_evG (l : List Ce) (h : ∀ c ∈ l, CeG c) (hl : l.length ≤ 1000) : Ev (fun k => rows_Write.f k l) (rowT l) := write9_l0G l h hl l [] rfl
theorem prC_notbarG (c : Ce) (h : CeG c) : toL (prC c) ≠ barW := fun e => by
  have hc := h.r
  have e2 : prC c = ⟨#[124]⟩ := toL_inj e
  rw [e2] at hc
  have h1 : (⟨#[124]⟩ : ByteArray) ≠ qB := fun e => by
    have := congrArg toL e
    exact absurd this (by decide)
  have h2 : prE (toL (⟨#[124]⟩ : ByteArray)) = 4 := by decide +kernel
  unfold CR at hc
  rw [if_neg h1, if_neg (by rw [h2]; decide), h2] at hc
  have h4 : (4 : Int) = 0 := congrArg (fun x : CRt => x.2.2.2.2) hc
  exact absurd h4 (by decide)
theorem WF_txG : ∀ (l : List Ce) (p : List Tk) (acc : List Ce), (∀ c ∈ l, CeG c) → p.map tx = l.map (fun c => toL (prC c)) → WF acc p = (acc ++ l.map kC, 0, 0)
  | [], p, acc, _, h => by
    have : p = [] := List.map_eq_nil_iff.1 h
    subst this
    rw [WF, List.map_nil, List.append_nil]
  | c :: l, p, acc, h, hp => by
    cases p with
    | nil => cases hp
    | cons t p =>
      rw [List.map_cons, List.map_cons, List.cons.injEq] at hp
      have e : t.2.2 = prC c := toL_inj hp.1
      have hc := (h c List.mem_cons_self).r
      rw [WF, e, hc, if_neg (fun e => e rfl), WF_txG l p _ (fun x hx => h x (List.mem_cons_of_mem _ hx)) hp.2, List.append_assoc]
      rfl
theorem RF_txG : ∀ (rs : List (List Ce)) (ps : List (List Tk)) (acc : List (List Ce)), (∀ r ∈ rs, ∀ c ∈ r, CeG c) → ps.map (fun p => p.map tx) = rs.map (fun r => r.map fun c => toL (prC c)) → RF acc ps = (acc ++ rs.map (·.map kC), 0, 0)
  | [], ps, acc, _, h => by
    have : ps = [] := List.map_eq_nil_iff.1 h
    subst this
    rw [RF, List.map_nil, List.append_nil]
  | r :: rs, ps, acc, h, hp => by
    cases ps with
    | nil => cases hp
    | cons p ps =>
      rw [List.map_cons, List.map_cons, List.cons.injEq] at hp
      have e := WF_txG r p [] (h r List.mem_cons_self) hp.1
      rw [RF, e, if_neg (fun e => e rfl), RF_txG rs ps _ (fun x hx => h x (List.mem_cons_of_mem _ hx)) hp.2, List.append_assoc]
      rfl
theorem wrAdd_evG (L : List ByteArray) (r : List Ce) (h : ∀ c ∈ r, CeG c) (hl : r.length ≤ 1000) : Ev (fun k => wrAdd k L r) (addP L r) := by
  unfold wrAdd addP
  by_cases h0 : r.length = 0
  · exact (Ev.if_pos h0 (Ev.now _)).of_eq (if_pos h0).symm
  · exact Ev.of_eq (Ev.if_neg h0 (Ev.bind (write9_evG r h hl) (Ev.now (L ++ [rowT r])))) (if_neg h0).symm
theorem wrRows_evG (kd : Int) : ∀ (rs : List (List Ce)) (i : Nat) (L : List ByteArray), (∀ r ∈ rs, (∀ c ∈ r, CeG c) ∧ r.length ≤ 1000) → Ev (fun k => wrRows k kd i rs L) (rowsP kd i L rs)
  | [], i, L, _ => by
    refine Ev.congr (fun k => by rw [wrRows]) ?_
    rw [rowsP]
    exact Ev.now _
  | r :: rs, i, L, h => by
    refine Ev.congr (fun k => by rw [wrRows]) ?_
    rw [rowsP]
    obtain ⟨h1, h2⟩ := h r List.mem_cons_self
    exact Ev.bind (wrAdd_evG _ r h1 h2) (wrRows_evG kd rs (i + 1) _ fun x hx => h x (List.mem_cons_of_mem _ hx))
theorem addP_lenG (L : List ByteArray) (r : List Ce) (h : ∀ c ∈ r, CeG c) (hl : r.length ≤ 1000) (hn : L ≠ []) : (JT (addP L r)).length ≤ (JT L).length + 1500000 := by
  unfold addP
  split
  · omega
  · rw [JT_snoc _ _ hn, List.length_append, List.length_cons]
    have := rowT_lenG r h
    have e : toL (rowT r) = joinW (r.map fun c => toL (prC c)) := toL_ofL _
    rw [e]
    omega
theorem rowsP_lenG (kd : Int) : ∀ (rs : List (List Ce)) (i : Nat) (L : List ByteArray), (∀ r ∈ rs, (∀ c ∈ r, CeG c) ∧ r.length ≤ 1000) → L ≠ [] → (JT (rowsP kd i L rs)).length ≤ (JT L).length + 1500002 * rs.length ∧ rowsP kd i L rs ≠ []
  | [], i, L, _, hn => by rw [rowsP]; exact ⟨by simp, hn⟩
  | r :: rs, i, L, h, hn => by
    rw [rowsP, List.length_cons]
    obtain ⟨h1, h2⟩ := h r List.mem_cons_self
    have a1 := addP_lenG (if 0 < i ∨ kd ≠ 9 then L ++ [barB] else L) r h1 h2 (barP_ne hn i kd)
    have a2 := barP_len hn i kd
    obtain ⟨a3, a4⟩ := rowsP_lenG kd rs (i + 1) (addP (if 0 < i ∨ kd ≠ 9 then L ++ [barB] else L) r) (fun x hx => h x (List.mem_cons_of_mem _ hx)) (addP_ne (barP_ne hn i kd) r)
    exact ⟨by omega, a4⟩
theorem firstP_lenG (kd ft : Int) (hft : fe kd = true → ft ≤ 999) {rw_ : List Ce} {rs : List (List Ce)} {gd : List Ce} (I : InG rw_ rs gd) : (JT (firstP kd ft (wdk kd) rw_ gd)).length ≤ 1600000 ∧ (firstP kd ft (wdk kd) rw_ gd).length ≤ 3 := by
  have hh : (JT (headP kd ft (wdk kd))).length ≤ 100 ∧ (headP kd ft (wdk kd)).length ≤ 2 := by
    by_cases h : fe kd = true
    · exact ⟨headP_len kd ft (hft h), by unfold headP; rw [if_pos h]; simp⟩
    · unfold headP
      rw [if_neg h]
      have h1 := wdk_size kd
      rw [size_toL] at h1
      exact ⟨by show (toL (wdk kd)).length ≤ 100; omega, by simp⟩
  have a1 := addP_lenG (headP kd ft (wdk kd)) rw_ I.r.1 I.r.2 (headP_ne _ _ _)
  have a2 := addP_lenG (headP kd ft (wdk kd)) gd I.g.1 I.g.2 (headP_ne _ _ _)
  have a3 : ∀ r, (addP (headP kd ft (wdk kd)) r).length ≤ 3 := fun r => by
    unfold addP
    split
    · omega
    · rw [List.length_append, List.length_singleton]; omega
  unfold firstP
  split
  · exact ⟨by omega, a3 _⟩
  · split
    · exact ⟨by omega, a3 _⟩
    · exact ⟨by omega, by omega⟩
theorem allP_okG (kd ft : Int) (hft : fe kd = true → ft ≤ 999) {rw_ : List Ce} {rs : List (List Ce)} {gd : List Ce} (I : InG rw_ rs gd) : wrEnd (allP kd ft (wdk kd) rw_ rs gd) = some (lineP kd ft rw_ rs gd, 0) := by
  obtain ⟨f1, f2⟩ := firstP_lenG kd ft hft I
  have g1 := (rowsP_lenG kd rs 0 _ I.m (firstP_ne kd ft (wdk kd) rw_ gd)).1
  have g2 := rowsP_num kd rs 0 (firstP kd ft (wdk kd) rw_ gd)
  have hl := I.l
  unfold lineP
  refine wrEnd_eq _ ?_ ?_
  · unfold allP
    split <;> omega
  · unfold allP
    split <;> omega
theorem awrite_evG (kd ft : Int) {rw_ : List Ce} {rs : List (List Ce)} {gd : List Ce} (I : InG rw_ rs gd) : Ev (fun k => ask_Write.f k kd ft rw_ rs gd) (if badW kd ft rs then (ByteArray.empty, 1) else (lineP kd ft rw_ rs gd, 0)) := by
  have hfin : ¬ badW kd ft rs → wrEnd (allP kd ft (wdk kd) rw_ rs gd) = some (lineP kd ft rw_ rs gd, 0) := fun hb => allP_okG kd ft (fun h => by
    rcases (show 999 < ft ∨ ft ≤ 999 by omega) with h1 | h1
    · exact absurd (.inr (.inl ⟨h, .inr h1⟩)) hb
    · exact h1) I
  have hend : ∀ (L : List ByteArray), ¬ badW kd ft rs → L = allP kd ft (wdk kd) rw_ rs gd → Ev (fun _ => wrEnd L) (lineP kd ft rw_ rs gd, 0) := fun L hb e => by
    rw [e, hfin hb]; exact Ev.now _
  have hmany : ∀ (j : Int) (L : List ByteArray), ¬ badW kd ft rs → j = kd → ma kd = true → L = firstP kd ft (wdk kd) rw_ gd → Ev (fun k => wrMany k j rs L) (lineP kd ft rw_ rs gd, 0) := fun j L hb hj hm hL => by
    have hl := I.l
    unfold wrMany
    refine Ev.if_pos (by omega) (Ev.bind (wrRows_evG j rs 0 L I.m) (hend _ hb ?_))
    unfold allP
    rw [if_pos hm, hj, hL]
  have wr := wrAdd_evG [wdk kd] rw_ I.r.1 I.r.2
  have hfeat : fe kd = true → 0 ≤ ft → ft ≤ 999 → Ev (fun k => wrFeat k (wdk kd) ft gd) (addP [wdk kd, fT ft] gd) := fun _ h0 h9 => by
    obtain ⟨q, q1, q2⟩ := feat_ev ft h0 h9
    unfold wrFeat
    exact Ev.bind q1 (Ev.bind q2 (wrAdd_evG _ gd I.g.1 I.g.2))
  unfold ask_Write.f
  simp only [wdk_eq, Option.bind_some]
  by_cases hk : 1 ≤ kd ∧ kd ≤ 9
  · rcases kinds hk.1 hk.2 with rfl | rfl | rfl | rfl | rfl | rfl | rfl | rfl | rfl
    · have hb : ¬ badW 1 ft rs := fun h => by rcases h with h | h | h; exact h hk; exact absurd h.1 (by decide); exact absurd h.1 (by decide)
      rw [if_neg (c := badW 1 ft rs) hb]
      exact Ev.if_neg (by decide) (Ev.if_pos (by decide) (Ev.bind wr (hend _ hb rfl)))
    · have hb : ¬ badW 2 ft rs := fun h => by rcases h with h | h | h; exact h hk; exact absurd h.1 (by decide); exact absurd h.1 (by decide)
      rw [if_neg (c := badW 2 ft rs) hb]
      exact Ev.if_pos rfl (hend _ hb rfl)
    · have hb : ¬ badW 3 ft rs := fun h => by rcases h with h | h | h; exact h hk; exact absurd h.1 (by decide); exact absurd h.1 (by decide)
      rw [if_neg (c := badW 3 ft rs) hb]
      exact Ev.if_neg (by decide) (Ev.if_pos (by decide) (Ev.bind wr (hend _ hb rfl)))
    · have hb : ¬ badW 4 ft rs := fun h => by rcases h with h | h | h; exact h hk; exact absurd h.1 (by decide); exact absurd h.1 (by decide)
      rw [if_neg (c := badW 4 ft rs) hb]
      exact Ev.if_neg (by decide) (Ev.if_neg (by decide) (Ev.if_pos rfl (Ev.bind wr (hmany 4 _ hb rfl rfl rfl))))
    · have hb : ¬ badW 5 ft rs := fun h => by rcases h with h | h | h; exact h hk; exact absurd h.1 (by decide); exact absurd h.1 (by decide)
      rw [if_neg (c := badW 5 ft rs) hb]
      exact Ev.if_neg (by decide) (Ev.if_pos (by decide) (Ev.bind wr (hend _ hb rfl)))
    · have hb : ¬ badW 6 ft rs := fun h => by rcases h with h | h | h; exact h hk; exact absurd h.1 (by decide); exact absurd h.1 (by decide)
      rw [if_neg (c := badW 6 ft rs) hb]
      exact Ev.if_neg (by decide) (Ev.if_pos (by decide) (Ev.bind wr (hend _ hb rfl)))
    · refine Ev.if_neg (by decide) (Ev.if_neg (by decide) (Ev.if_neg (by decide) (Ev.if_pos rfl ?_)))
      by_cases hft : ft < 0 ∨ 999 < ft
      · rw [if_pos (c := badW 7 ft rs) (.inr (.inl ⟨rfl, hft⟩))]
        exact Ev.if_pos hft (Ev.now _)
      · have hb : ¬ badW 7 ft rs := fun h => by rcases h with h | h | h; exact h hk; exact hft h.2; exact absurd h.1 (by decide)
        rw [if_neg (c := badW 7 ft rs) hb]
        exact Ev.if_neg hft (Ev.bind (hfeat rfl (by omega) (by omega)) (hend _ hb rfl))
    · refine Ev.if_neg (by decide) (Ev.if_neg (by decide) (Ev.if_neg (by decide) (Ev.if_neg (by decide) (Ev.if_pos rfl ?_))))
      by_cases hft : ft < 0 ∨ 999 < ft
      · rw [if_pos (c := badW 8 ft rs) (.inr (.inl ⟨rfl, hft⟩))]
        exact Ev.if_pos hft (Ev.now _)
      · have hb : ¬ badW 8 ft rs := fun h => by rcases h with h | h | h; exact h hk; exact hft h.2; exact absurd h.1 (by decide)
        rw [if_neg (c := badW 8 ft rs) hb]
        exact Ev.if_neg hft (Ev.bind (hfeat rfl (by omega) (by omega)) (hmany 8 _ hb rfl rfl rfl))
    · refine Ev.if_neg (by decide) (Ev.if_neg (by decide) (Ev.if_neg (by decide) (Ev.if_neg (by decide) (Ev.if_neg (by decide) (Ev.if_pos rfl ?_)))))
      by_cases h1 : rs.length = 1 ∧ (rs.headD []).length = 0
      · rw [if_pos (c := badW 9 ft rs) (.inr (.inr ⟨rfl, h1⟩))]
        exact Ev.if_pos h1 (Ev.now _)
      · have hb : ¬ badW 9 ft rs := fun h => by rcases h with h | h | h; exact h hk; exact absurd h.1 (by decide); exact h1 h.2
        rw [if_neg (c := badW 9 ft rs) hb]
        exact Ev.if_neg h1 (hmany 9 _ hb rfl rfl rfl)
  · rw [if_pos (c := badW kd ft rs) (.inl hk)]
    exact Ev.if_neg (by omega) (Ev.if_neg (by omega) (Ev.if_neg (by omega) (Ev.if_neg (by omega) (Ev.if_neg (by omega) (Ev.if_neg (by omega) (Ev.now _))))))
end Go.DI.Th
namespace Go.DI.Th
open Go Go.RowKit Go.DI

theorem dg_small : ∀ n : Nat, n < 1000 → DG (prN n) = ((n : Int), 0) := by
  have h : (List.range 1000).all (fun n => DG (prN n) == ((n : Int), 0)) = true := by decide +kernel
  intro n hn
  exact eq_of_beq (List.all_eq_true.1 h n (List.mem_range.2 hn))
def wR (r : List Ce) : List (List UInt8) := r.map fun c => toL (prC c)
def cW : List (List UInt8) → Nat
  | [] => 0
  | w :: l => w.length + 1 + cW l
theorem cW_append : ∀ a b : List (List UInt8), cW (a ++ b) = cW a + cW b
  | [], b => by simp [cW]
  | w :: a, b => by rw [List.cons_append, cW, cW, cW_append a b]; omega
theorem cW_join : ∀ us : List (List UInt8), us ≠ [] → (joinW us).length + 1 = cW us
  | [], h => absurd rfl h
  | [w], _ => rfl
  | w :: v :: l, _ => by
    have ih := cW_join (v :: l) (by simp)
    have e : joinW (w :: v :: l) = w ++ 32 :: joinW (v :: l) := rfl
    rw [e, List.length_append, List.length_cons, cW, ← ih]
    omega
structure Ck (L : List ByteArray) (ws : List (List UInt8)) : Prop where
  ne : L ≠ []
  len : (JT L).length + 1 = cW ws
  tx : ∀ (cs : List UInt8) (ws' : List (List UInt8)), (∀ c, cs.head? = some c → inw c = false) → TX cs ws' → TX (JT L ++ cs) (ws ++ ws')
theorem Ck.one {s : ByteArray} (h : WdOk (toL s)) : Ck [s] [toL s] := ⟨by simp, rfl, fun cs ws' hc ht => TX.word h hc ht⟩
theorem Ck.snoc {L : List ByteArray} {ws : List (List UInt8)} (C : Ck L ws) {s : ByteArray} {us : List (List UInt8)} (hs : toL s = joinW us) (hne : us ≠ []) (hw : ∀ w ∈ us, WdOk w) : Ck (L ++ [s]) (ws ++ us) := by
  refine ⟨by simp, ?_, fun cs ws' hc ht => ?_⟩
  · rw [JT_snoc _ _ C.ne, hs, List.length_append, List.length_cons, cW_append, ← C.len, ← cW_join us hne]
    omega
  · rw [JT_snoc _ _ C.ne, hs, List.append_assoc, List.append_assoc]
    exact C.tx _ _ (fun c hc => by have : c = 32 := by simpa using hc.symm
                                   rw [this]; decide) (TX.blank (TX.row us hw hc ht))
theorem wR_ok (r : List Ce) : ∀ w ∈ wR r, WdOk w := fun w hw => by
  obtain ⟨c, _, rfl⟩ := List.mem_map.1 hw
  exact prC_word c
theorem Ck.add {L : List ByteArray} {ws : List (List UInt8)} (C : Ck L ws) (r : List Ce) : Ck (addP L r) (ws ++ wR r) := by
  unfold addP
  by_cases h : r.length = 0
  · rw [if_pos h]
    have : r = [] := List.eq_nil_of_length_eq_zero h
    subst this
    rw [show wR [] = [] from rfl, List.append_nil]
    exact C
  · rw [if_neg h]
    exact C.snoc (toL_ofL _) (fun e => h (by rw [List.map_eq_nil_iff.1 e]; rfl)) (wR_ok r)
theorem barW_ok : WdOk barW := by
  refine ⟨by decide, fun c hc => ?_⟩
  have : c = 124 := by simpa [barW] using hc
  rw [this]
  decide
theorem Ck.bar {L : List ByteArray} {ws : List (List UInt8)} (C : Ck L ws) : Ck (L ++ [barB]) (ws ++ [barW]) := C.snoc rfl (by simp) fun w hw => by rw [List.mem_singleton.1 hw]; exact barW_ok
def rW (kd : Int) : Nat → List (List Ce) → List (List UInt8)
  | _, [] => []
  | i, r :: rs => (if 0 < i ∨ kd ≠ 9 then [barW] else []) ++ (wR r ++ rW kd (i + 1) rs)
theorem Ck.rows (kd : Int) : ∀ (rs : List (List Ce)) (i : Nat) {L : List ByteArray} {ws : List (List UInt8)}, Ck L ws → Ck (rowsP kd i L rs) (ws ++ rW kd i rs)
  | [], i, L, ws, C => by rw [rowsP, rW, List.append_nil]; exact C
  | r :: rs, i, L, ws, C => by
    rw [rowsP, rW]
    by_cases h : 0 < i ∨ kd ≠ 9
    · rw [if_pos h, if_pos h]
      have := Ck.rows kd rs (i + 1) ((C.bar).add r)
      rw [List.append_assoc, List.append_assoc] at this
      exact this
    · rw [if_neg h, if_neg h]
      have := Ck.rows kd rs (i + 1) (C.add r)
      rw [List.append_assoc] at this
      exact this
theorem rW_all (kd : Int) : ∀ (rs : List (List Ce)) (i : Nat) (r : List (List UInt8)), (0 < i ∨ kd ≠ 9) → r ++ rW kd i rs = allW (r :: rs.map wR)
  | [], i, r, _ => by rw [rW, List.append_nil]; rfl
  | q :: rs, i, r, h => by
    rw [rW, if_pos h, rW_all kd rs (i + 1) (wR q) (.inl (Nat.succ_pos i))]
    rfl
def headW (kd ft : Int) : List (List UInt8) := if fe kd = true then [toL (wdk kd), toL (fT ft)] else [toL (wdk kd)]
def fstR (kd : Int) (rw_ gd : List Ce) : List Ce := if ro kd = true then rw_ else gd
def partsW (kd : Int) (rw_ : List Ce) (rs : List (List Ce)) (gd : List Ce) : List (List (List UInt8)) := (if ro kd = true ∨ gr kd = true then [wR (fstR kd rw_ gd)] else []) ++ (if ma kd = true then rs.map wR else [])
theorem wdk_word {kd : Int} (h1 : 1 ≤ kd) (h9 : kd ≤ 9) : WdOk (toL (wdk kd)) := by
  rcases kinds h1 h9 with rfl | rfl | rfl | rfl | rfl | rfl | rfl | rfl | rfl
  all_goals exact ⟨by decide +kernel, by decide +kernel⟩
theorem Ck.all {kd : Int} (ft : Int) (h1 : 1 ≤ kd) (h9 : kd ≤ 9) (rw_ : List Ce) (rs : List (List Ce)) (gd : List Ce) : Ck (allP kd ft (wdk kd) rw_ rs gd) (headW kd ft ++ allW (partsW kd rw_ rs gd)) := by
  have C0 : Ck (headP kd ft (wdk kd)) (headW kd ft) := by
    unfold headP headW
    by_cases h : fe kd = true
    · rw [if_pos h, if_pos h]
      exact (Ck.one (wdk_word h1 h9)).snoc (us := [toL (fT ft)]) rfl (by simp) fun w hw => by rw [List.mem_singleton.1 hw]; exact prN_word _
    · rw [if_neg h, if_neg h]
      exact Ck.one (wdk_word h1 h9)
  unfold allP firstP partsW fstR
  by_cases hr : ro kd = true
  · rw [if_pos hr, if_pos (Or.inl hr), if_pos hr]
    have C1 := C0.add rw_
    by_cases hm : ma kd = true
    · rw [if_pos hm, if_pos hm]
      have n9 : kd ≠ 9 := fun e => by rw [e] at hr; exact absurd hr (by decide)
      have := Ck.rows kd rs 0 C1
      rw [List.append_assoc, rW_all kd rs 0 (wR rw_) (.inr n9)] at this
      exact this
    · rw [if_neg hm, if_neg hm, List.append_nil]
      exact C1
  · rw [if_neg hr]
    by_cases hg : gr kd = true
    · rw [if_pos hg, if_pos (Or.inr hg), if_neg hr]
      have C1 := C0.add gd
      by_cases hm : ma kd = true
      · rw [if_pos hm, if_pos hm]
        have n9 : kd ≠ 9 := fun e => by rw [e] at hg; exact absurd hg (by decide)
        have := Ck.rows kd rs 0 C1
        rw [List.append_assoc, rW_all kd rs 0 (wR gd) (.inr n9)] at this
        exact this
      · rw [if_neg hm, if_neg hm, List.append_nil]
        exact C1
    · rw [if_neg hg, if_neg (c := ro kd = true ∨ gr kd = true) (fun e => e.elim hr hg), List.nil_append]
      by_cases hm : ma kd = true
      · rw [if_pos hm, if_pos hm]
        have h9' : kd = 9 := by
          have a := of_decide_eq_true hm
          have b : ¬ (kd = 1 ∨ kd = 3 ∨ kd = 4 ∨ kd = 5 ∨ kd = 6) := fun e => hr (decide_eq_true e)
          have c : ¬ (kd = 7 ∨ kd = 8) := fun e => hg (decide_eq_true e)
          omega
        have := Ck.rows kd rs 0 C0
        cases rs with
        | nil => exact this
        | cons r rs =>
          rw [rW, if_neg (by omega), List.nil_append, rW_all kd rs 1 (wR r) (.inl (by decide))] at this
          exact this
      · rw [if_neg hm, if_neg hm]
        show Ck _ (headW kd ft ++ [])
        rw [List.append_nil]
        exact C0
theorem line_size {kd : Int} (ft : Int) (h1 : 1 ≤ kd) (h9 : kd ≤ 9) (rw_ : List Ce) (rs : List (List Ce)) (gd : List Ce) : (lineP kd ft rw_ rs gd).size + 1 = cW (headW kd ft ++ allW (partsW kd rw_ rs gd)) := by
  have C := Ck.all ft h1 h9 rw_ rs gd
  rw [← C.len, size_toL]
  unfold lineP
  rw [toL_ofL]
theorem line_LW {kd : Int} (ft : Int) (h1 : 1 ≤ kd) (h9 : kd ≤ 9) (rw_ : List Ce) (rs : List (List Ce)) (gd : List Ce) (hc : (headW kd ft ++ allW (partsW kd rw_ rs gd)).length ≤ 4096) : ∃ toks : List Tk, LW (lineP kd ft rw_ rs gd) = (toks, 0, 0) ∧ toks.map tx = headW kd ft ++ allW (partsW kd rw_ rs gd) := by
  have C := Ck.all ft h1 h9 rw_ rs gd
  have T := C.tx [] [] (fun c hc => by cases hc) TX.nil
  rw [List.append_nil, List.append_nil] at T
  obtain ⟨toks, e1, e2⟩ := T [] 0 (by rw [List.length_nil]; omega)
  refine ⟨toks, ?_, e2⟩
  unfold LW lineP
  rw [toL_ofL, e1, List.nil_append]
theorem sp_parts {l : List Tk} {parts : List (List (List UInt8))} (h : l.map tx = allW parts) (hb : ∀ r ∈ parts, ∀ w ∈ r, w ≠ barW) : (SP l).map (fun p => p.map tx) = parts ∨ (parts = [[]] ∧ SP l = []) := by
  unfold SP
  by_cases hl : l = []
  · rw [if_pos hl]
    rw [hl] at h
    match parts, h with
    | [], _ => exact .inl rfl
    | [r], h =>
      have : r = [] := h.symm
      subst this
      exact .inr ⟨rfl, rfl⟩
    | r :: q :: rs, h =>
      have e : ([] : List (List UInt8)) = r ++ barW :: allW (q :: rs) := h
      exact absurd e.symm (by simp)
  · rw [if_neg hl]
    refine .inl (split_all parts l (fun e => hl ?_) h hb)
    rw [e] at h
    exact List.map_eq_nil_iff.1 h
theorem wR_nil {r : List Ce} (h : wR r = []) : r = [] := List.map_eq_nil_iff.1 h
theorem art_back {kd : Int} (ft : Int) (h1 : 1 ≤ kd) (h9 : kd ≤ 9) {rw_ : List Ce} {rs : List (List Ce)} {gd : List Ce} (I : InG rw_ rs gd) (hx : kd = 9 → rs ≠ [[]]) {l : List Tk} (hl : l.map tx = allW (partsW kd rw_ rs gd)) :
    ART kd ft (ro kd) (gr kd) (ma kd) l = (kd, ft, (if ro kd = true then rw_.map kC else []), (if ma kd = true then rs.map (·.map kC) else []), (if gr kd = true then gd.map kC else []), 0, 0) := by
  have hrg : ro kd = true → gr kd = true → False := fun a b => by
    have a' := of_decide_eq_true a
    have b' := of_decide_eq_true b
    omega
  have hb : ∀ r ∈ partsW kd rw_ rs gd, ∀ w ∈ r, w ≠ barW := fun r hr w hw => by
    have key : ∀ q : List Ce, (∀ c ∈ q, CeG c) → ∀ w ∈ wR q, w ≠ barW := fun q hq w hw => by
      obtain ⟨c, hc, rfl⟩ := List.mem_map.1 hw
      exact prC_notbarG c (hq c hc)
    unfold partsW at hr
    rcases List.mem_append.1 hr with h | h
    · split at h
      · rw [List.mem_singleton.1 h] at hw
        unfold fstR at hw
        split at hw
        · exact key _ I.r.1 w hw
        · exact key _ I.g.1 w hw
      · cases h
    · split at h
      · obtain ⟨q, hq, rfl⟩ := List.mem_map.1 h
        exact key q (I.m q hq).1 w hw
      · cases h
  have hfst : ∀ c ∈ fstR kd rw_ gd, CeG c := by
    unfold fstR
    split
    · exact I.r.1
    · exact I.g.1
  have hrs : ∀ ps : List (List Tk), ps.map (fun p => p.map tx) = rs.map wR → RF [] ps = (rs.map (·.map kC), 0, 0) := fun ps hp => by
    have := RF_txG rs ps [] (fun r hr => (I.m r hr).1) hp
    rw [List.nil_append] at this
    exact this
  have hS := sp_parts hl hb
  -- the rows behind the first
  have hT : ∀ (x : Bool) (ps : List (List Tk)) (a b : List Ce), ps.map (fun p => p.map tx) = (if ma kd = true then rs.map wR else []) → TL (ma kd) x l ps kd ft a b = (kd, ft, a, (if ma kd = true then rs.map (·.map kC) else []), b, 0, 0) := fun x ps a b hp => by
    unfold TL
    by_cases hm : ma kd = true
    · rw [if_pos hm] at hp
      rw [if_neg (fun e => by rw [hm] at e; cases e.1), hrs ps hp, if_pos hm]
      rfl
    · rw [if_neg hm] at hp
      have : ps = [] := List.map_eq_nil_iff.1 hp
      subst this
      rw [if_neg (fun e => e.2 rfl), if_neg hm]
      rfl
  unfold ART
  by_cases h : ro kd = true ∨ gr kd = true
  · rw [if_pos h]
    have hp : partsW kd rw_ rs gd = wR (fstR kd rw_ gd) :: (if ma kd = true then rs.map wR else []) := by
      unfold partsW
      rw [if_pos h]
      rfl
    rw [hp] at hS
    have fin : ∀ (p : List Tk) (ps : List (List Tk)), (SP l).headD [] = p → (SP l).tail = ps → WF [] p = ((fstR kd rw_ gd).map kC, 0, 0) → ps.map (fun p => p.map tx) = (if ma kd = true then rs.map wR else []) →
        (if (WF [] ((SP l).headD [])).2.2 ≠ 0 then AErr (WF [] ((SP l).headD [])).2.1 (WF [] ((SP l).headD [])).2.2 else TL (ma kd) true l (SP l).tail kd ft (if ro kd = true then (WF [] ((SP l).headD [])).1 else []) (if ro kd = true then [] else (WF [] ((SP l).headD [])).1)) = (kd, ft, (if ro kd = true then rw_.map kC else []), (if ma kd = true then rs.map (·.map kC) else []), (if gr kd = true then gd.map kC else []), 0, 0) := fun p ps e1 e2 e3 e4 => by
      rw [e1, e2, e3, if_neg (fun e => e rfl), hT true ps _ _ e4]
      unfold fstR
      by_cases hr : ro kd = true
      · rw [if_pos hr, if_pos hr, if_pos hr, if_pos hr, if_neg (fun hg => hrg hr hg)]
      · have hg := h.resolve_left hr
        rw [if_neg hr, if_neg hr, if_neg hr, if_neg hr, if_pos hg]
    rcases hS with hS | ⟨hS, hS2⟩
    · obtain ⟨p, ps, hps⟩ : ∃ p ps, SP l = p :: ps := by
        cases hq : SP l with
        | nil => rw [hq] at hS; cases hS
        | cons p ps => exact ⟨p, ps, rfl⟩
      rw [hps, List.map_cons, List.cons.injEq] at hS
      have e := WF_txG (fstR kd rw_ gd) p [] hfst hS.1
      rw [List.nil_append] at e
      exact fin p ps (by rw [hps]; rfl) (by rw [hps]; rfl) e hS.2
    · rw [List.cons.injEq] at hS
      have e0 := wR_nil hS.1
      exact fin [] [] (by rw [hS2]; rfl) (by rw [hS2]; rfl) (by rw [e0]; rfl) hS.2.symm
  · rw [if_neg h]
    have hr : ¬ ro kd = true := fun e => h (.inl e)
    have hg : ¬ gr kd = true := fun e => h (.inr e)
    have hp : partsW kd rw_ rs gd = (if ma kd = true then rs.map wR else []) := by
      unfold partsW
      rw [if_neg h]
      rfl
    rw [hp] at hS
    rw [if_neg hr, if_neg hg]
    rcases hS with hS | ⟨hS, hS2⟩
    · exact hT false (SP l) [] [] hS
    · exfalso
      by_cases hm : ma kd = true
      · rw [if_pos hm] at hS
        have h9' : kd = 9 := by
          have a := of_decide_eq_true hm
          have b : ¬ (kd = 1 ∨ kd = 3 ∨ kd = 4 ∨ kd = 5 ∨ kd = 6) := fun e => hr (decide_eq_true e)
          have c : ¬ (kd = 7 ∨ kd = 8) := fun e => hg (decide_eq_true e)
          omega
        obtain ⟨q, hq, hq2⟩ : ∃ q, rs = [q] ∧ wR q = [] := by
          cases rs with
          | nil => cases hS
          | cons q t =>
            rw [List.map_cons, List.cons.injEq] at hS
            exact ⟨q, by rw [List.map_eq_nil_iff.1 hS.2], hS.1⟩
        exact hx h9' (by rw [hq, wR_nil hq2])
      · rw [if_neg hm] at hS
        cases hS
theorem kindOf_wdk {kd : Int} (h1 : 1 ≤ kd) (h9 : kd ≤ 9) : kindOf (wdk kd) = kd := by
  rcases kinds h1 h9 with rfl | rfl | rfl | rfl | rfl | rfl | rfl | rfl | rfl
  all_goals decide +kernel
theorem back_PR {kd ft : Int} {rw_ : List Ce} {rs : List (List Ce)} {gd : List Ce} (hb : ¬ badW kd ft rs) (I : InG rw_ rs gd) (hc : (headW kd ft ++ allW (partsW kd rw_ rs gd)).length ≤ 4096) :
    PR (lineP kd ft rw_ rs gd) = ((CLk (·.map kC) kd ft rw_ rs gd).1, (CLk (·.map kC) kd ft rw_ rs gd).2.1, (CLk (·.map kC) kd ft rw_ rs gd).2.2.1, (CLk (·.map kC) kd ft rw_ rs gd).2.2.2.1, (CLk (·.map kC) kd ft rw_ rs gd).2.2.2.2, 0, 0) := by
  have hk : 1 ≤ kd ∧ kd ≤ 9 := Decidable.byContradiction fun h => hb (.inl h)
  have hx : kd = 9 → rs ≠ [[]] := fun e h => hb (.inr (.inr ⟨e, by rw [h]; rfl, by rw [h]; rfl⟩))
  obtain ⟨toks, e1, e2⟩ := line_LW ft hk.1 hk.2 rw_ rs gd hc
  unfold PR
  rw [e1, if_neg (fun e => e rfl)]
  have hd : ∃ tl, headW kd ft = toL (wdk kd) :: tl ∧ tl = (if fe kd = true then [toL (fT ft)] else []) := by
    unfold headW
    by_cases h : fe kd = true
    · rw [if_pos h, if_pos h]; exact ⟨_, rfl, rfl⟩
    · rw [if_neg h, if_neg h]; exact ⟨_, rfl, rfl⟩
  obtain ⟨tl, t1, t2⟩ := hd
  rw [t1, List.cons_append] at e2
  match toks, e2 with
  | t :: l, e2 =>
    rw [List.map_cons, List.cons.injEq] at e2
    have ht : t.2.2 = wdk kd := toL_inj e2.1
    show (if kindOf t.2.2 = 0 then AErr t.1 7 else PK (kindOf t.2.2) _ l) = _
    rw [ht, kindOf_wdk hk.1 hk.2, if_neg (by omega)]
    unfold PK CLk
    by_cases hf : fe kd = true
    · rw [if_pos hf, if_pos hf]
      rw [if_pos hf] at t2
      have e3 := e2.2
      rw [t2, List.cons_append, List.nil_append] at e3
      match l, e3 with
      | u :: m, e3 =>
        rw [List.map_cons, List.cons.injEq] at e3
        have h0 : 0 ≤ ft := by
          rcases (show ft < 0 ∨ 0 ≤ ft by omega) with g | g
          · exact absurd (.inr (.inl ⟨hf, .inl g⟩)) hb
          · exact g
        have h99 : ft ≤ 999 := by
          rcases (show 999 < ft ∨ ft ≤ 999 by omega) with g | g
          · exact absurd (.inr (.inl ⟨hf, .inr g⟩)) hb
          · exact g
        have hu : u.2.2 = fT ft := toL_inj e3.1
        have hd : DG u.2.2 = (ft, 0) := by
          rw [hu]
          unfold fT
          rw [dg_small ft.toNat (by omega)]
          congr 1
          omega
        show (if (DG u.2.2).2 ≠ 0 then AErr u.1 (DG u.2.2).2 else ART kd (DG u.2.2).1 (ro kd) (gr kd) (ma kd) m) = _
        rw [hd, if_neg (fun e => e rfl)]
        exact art_back ft hk.1 hk.2 I hx e3.2
    · rw [if_neg hf, if_neg hf]
      rw [if_neg hf] at t2
      have e3 := e2.2
      rw [t2, List.nil_append] at e3
      exact art_back 0 hk.1 hk.2 I hx e3
theorem cW_le : ∀ (l : List (List UInt8)) (B : Nat), (∀ w ∈ l, w.length ≤ B) → cW l ≤ l.length * (B + 1)
  | [], B, _ => by simp [cW]
  | w :: l, B, h => by
    have ih := cW_le l B fun x hx => h x (List.mem_cons_of_mem _ hx)
    have := h w List.mem_cons_self
    rw [cW, List.length_cons, Nat.succ_mul]
    omega
theorem headW_few (kd ft : Int) (hft : fe kd = true → ft ≤ 999) : (headW kd ft).length ≤ 2 ∧ ∀ w ∈ headW kd ft, w.length ≤ 400 := by
  have h1 := wdk_size kd
  rw [size_toL] at h1
  unfold headW
  by_cases h : fe kd = true
  · rw [if_pos h]
    have h2 := fT_size ft (hft h)
    rw [size_toL] at h2
    refine ⟨by simp, fun w hw => ?_⟩
    simp only [List.mem_cons, List.not_mem_nil, or_false] at hw
    rcases hw with rfl | rfl <;> omega
  · rw [if_neg h]
    refine ⟨by simp, fun w hw => ?_⟩
    rw [List.mem_singleton.1 hw]
    omega
end Go.DI.Th
namespace Go.DI.Th
open Go Go.RowKit Go.DI

def ct (t : Tk) : Ce := ((CR t.2.2).1, (CR t.2.2).2.1, (CR t.2.2).2.2.1, (CR t.2.2).2.2.2.1)
def gW (t : Tk) : List UInt8 := toL (prC (ct t))
def OkT (t : Tk) : Prop := (CR t.2.2).2.2.2.2 = 0
theorem WF_read : ∀ (l : List Tk) (acc : List Ce), (WF acc l).2.2 = 0 → (WF acc l).1 = acc ++ l.map ct ∧ ∀ t ∈ l, OkT t
  | [], acc, _ => ⟨by rw [WF, List.map_nil, List.append_nil], fun t ht => by cases ht⟩
  | t :: r, acc, h => by
    rw [WF] at h ⊢
    by_cases he : (CR t.2.2).2.2.2.2 ≠ 0
    · rw [if_pos he] at h; exact absurd h he
    · rw [if_neg he] at h ⊢
      obtain ⟨h1, h2⟩ := WF_read r _ h
      refine ⟨by rw [h1, List.append_assoc]; rfl, fun u hu => ?_⟩
      rcases List.mem_cons.1 hu with rfl | hu
      · exact (show (CR u.2.2).2.2.2.2 = 0 from Decidable.byContradiction he)
      · exact h2 u hu
theorem RF_read : ∀ (ps : List (List Tk)) (acc : List (List Ce)), (RF acc ps).2.2 = 0 → (RF acc ps).1 = acc ++ ps.map (·.map ct) ∧ ∀ p ∈ ps, ∀ t ∈ p, OkT t
  | [], acc, _ => ⟨by rw [RF, List.map_nil, List.append_nil], fun t ht => by cases ht⟩
  | p :: r, acc, h => by
    rw [RF] at h ⊢
    by_cases he : (WF [] p).2.2 ≠ 0
    · rw [if_pos he] at h; exact absurd h he
    · rw [if_neg he] at h ⊢
      obtain ⟨h1, h2⟩ := RF_read r _ h
      obtain ⟨h3, h4⟩ := WF_read p [] (Decidable.byContradiction he)
      refine ⟨by rw [h1, h3, List.append_assoc]; rfl, fun u hu => ?_⟩
      rcases List.mem_cons.1 hu with rfl | hu
      · exact h4
      · exact h2 u hu
theorem WF_at {N : Nat} : ∀ (l : List Tk) (acc : List Ce), WB N l → (WF acc l).2.2 ≠ 0 → 0 ≤ (WF acc l).2.1 ∧ (WF acc l).2.1 ≤ (N : Int)
  | [], acc, _, h => by rw [WF] at h; exact absurd rfl h
  | t :: r, acc, hb, h => by
    rw [WF] at h ⊢
    by_cases he : (CR t.2.2).2.2.2.2 ≠ 0
    · rw [if_pos he]; exact hb t List.mem_cons_self
    · rw [if_neg he] at h ⊢
      exact WF_at r _ (fun u hu => hb u (List.mem_cons_of_mem _ hu)) h
theorem RF_at {N : Nat} : ∀ (ps : List (List Tk)) (acc : List (List Ce)), (∀ p ∈ ps, WB N p) → (RF acc ps).2.2 ≠ 0 → 0 ≤ (RF acc ps).2.1 ∧ (RF acc ps).2.1 ≤ (N : Int)
  | [], acc, _, h => by rw [RF] at h; exact absurd rfl h
  | p :: r, acc, hb, h => by
    rw [RF] at h ⊢
    by_cases he : (WF [] p).2.2 ≠ 0
    · rw [if_pos he]; exact WF_at p [] (hb p List.mem_cons_self) he
    · rw [if_neg he] at h ⊢
      exact RF_at r _ (fun u hu => hb u (List.mem_cons_of_mem _ hu)) h
theorem EX_at {N : Nat} (b : Bool) : ∀ (l : List Tk), WB N l → 0 ≤ EX b l ∧ EX b l ≤ (N : Int)
  | [], _ => by rw [EX]; exact ⟨Int.le_refl _, Int.natCast_nonneg _⟩
  | t :: r, hb => by
    rw [EX]
    split
    · split
      · exact hb t List.mem_cons_self
      · exact EX_at b r fun u hu => hb u (List.mem_cons_of_mem _ hu)
    · exact hb t List.mem_cons_self
theorem splitG_mem : ∀ (l cur : List Tk) (out : List (List Tk)) (p : List Tk) (t : Tk), p ∈ splitG out cur l → t ∈ p → t ∈ l ∨ t ∈ cur ∨ ∃ q ∈ out, t ∈ q
  | [], cur, out, p, t, hp, ht => by
    rw [splitG] at hp
    rcases List.mem_append.1 hp with h | h
    · exact .inr (.inr ⟨p, h, ht⟩)
    · rw [List.mem_singleton.1 h] at ht; exact .inr (.inl ht)
  | u :: r, cur, out, p, t, hp, ht => by
    rw [splitG] at hp
    split at hp
    · rcases splitG_mem r [] _ p t hp ht with h | h | ⟨q, hq, h⟩
      · exact .inl (List.mem_cons_of_mem _ h)
      · cases h
      · rcases List.mem_append.1 hq with g | g
        · exact .inr (.inr ⟨q, g, h⟩)
        · rw [List.mem_singleton.1 g] at h; exact .inr (.inl h)
    · rcases splitG_mem r _ _ p t hp ht with h | h | h
      · exact .inl (List.mem_cons_of_mem _ h)
      · rcases List.mem_append.1 h with g | g
        · exact .inr (.inl g)
        · rw [List.mem_singleton.1 g]; exact .inl List.mem_cons_self
      · exact .inr (.inr h)
theorem SP_mem {l p : List Tk} {t : Tk} (hp : p ∈ SP l) (ht : t ∈ p) : t ∈ l := by
  unfold SP at hp
  split at hp
  · cases hp
  · rcases splitG_mem l [] [] p t hp ht with h | h | ⟨q, hq, _⟩
    · exact h
    · cases h
    · cases hq
theorem CR_ok {s : ByteArray} (h : (CR s).2.2.2.2 = 0) : (s = qB ∧ CR s = (true, false, [], [], 0)) ∨ (prE (toL s) = 0 ∧ CR s = (false, (cn (prV (toL s))).1, (cn (prV (toL s))).2.1, (cn (prV (toL s))).2.2, 0)) := by
  unfold CR at h ⊢
  by_cases h1 : s = qB
  · rw [if_pos h1]; exact .inl ⟨h1, rfl⟩
  · rw [if_neg h1] at h ⊢
    by_cases h2 : prE (toL s) = 0
    · rw [if_pos h2]; exact .inr ⟨h2, rfl⟩
    · rw [if_neg h2] at h; exact absurd h h2
theorem ct_ok {t : Tk} (h : OkT t) (hs : t.2.2.size ≤ 600) : CeG (ct t) ∧ kC (ct t) = ct t ∧ (gW t).length ≤ 2 * t.2.2.size + 2 := by
  rcases CR_ok h with ⟨h1, h2⟩ | ⟨h1, h2⟩
  · have e : ct t = (true, false, [], []) := by unfold ct; rw [h2]
    unfold gW
    rw [e]
    refine ⟨⟨print_miss (false, [], []), by decide, ?_⟩, rfl, ?_⟩
    · exact if_pos rfl
    · have : (toL (prC (true, false, [], []))).length = 1 := rfl
      omega
  · have e : ct t = (false, cn (prV (toL t.2.2))) := by unfold ct; rw [h2]
    have hl : (toL t.2.2).length ≤ 600 := by rw [← size_toL]; exact hs
    have hp := prT_len h1
    have hrd := rd_word h1 (by omega)
    have hrv : prT (cn (prV (toL t.2.2))) = prX (prV (toL t.2.2)) := by rw [prT_rv, rv_cn]
    have hk : kC (ct t) = ct t := by
      rw [e]
      show ((false, cn (rv (cn (prV (toL t.2.2))))) : Ce) = _
      rw [rv_cn]
    have hlen : (gW t).length ≤ 2 * t.2.2.size + 2 := by
      unfold gW
      rw [e]
      show (toL (prT (cn (prV (toL t.2.2))))).length ≤ _
      rw [size_toL t.2.2]
      exact hp
    refine ⟨⟨?_, ?_, ?_⟩, hk, hlen⟩
    · rw [e]
      show Ev (fun k => rows_Print.f k false (cn (prV (toL t.2.2))).1 (cn (prV (toL t.2.2))).2.1 (cn (prV (toL t.2.2))).2.2) (prT (cn (prV (toL t.2.2))))
      unfold rows_Print.f
      have hB : RtB 30000 (cn (prV (toL t.2.2))) := cnB _ (Nat.le_trans (prV_sz h1) (by decide))
      exact Ev.if_neg (by decide) (Ev.bind (prT_ev _ (hB.mono (by decide))) (Ev.now _))
    · have : (prC (ct t)).size = (gW t).length := by unfold gW; rw [size_toL]
      omega
    · rw [hk, e]
      show CR (prT (cn (prV (toL t.2.2)))) = (false, (cn (prV (toL t.2.2))).1, (cn (prV (toL t.2.2))).2.1, (cn (prV (toL t.2.2))).2.2, 0)
      rw [hrv]
      obtain ⟨a, b⟩ := hrd
      have hq : prX (prV (toL t.2.2)) ≠ qB := fun e => by
        rw [e] at a
        have : prE (toL qB) = 4 := by decide +kernel
        rw [this] at a
        cases a
      unfold CR
      rw [if_neg hq, if_pos a, b]
theorem jn_words : ∀ {ps : List (List Tk)} {l : List Tk}, Jn ps l → (∀ t ∈ l, (gW t).length ≤ 2 * t.2.2.size + 2 ∨ isBar t) → (∀ p ∈ ps, ∀ t ∈ p, (gW t).length ≤ 2 * t.2.2.size + 2) → (allW (ps.map fun p => p.map gW)).length = l.length ∧ cW (allW (ps.map fun p => p.map gW)) ≤ 3 * wz l := by
  have one : ∀ p : List Tk, (∀ t ∈ p, (gW t).length ≤ 2 * t.2.2.size + 2) → cW (p.map gW) ≤ 3 * wz p := fun p => by
    induction p with
    | nil => intro _; exact Nat.le_refl _
    | cons t p ih =>
      intro h
      have := ih fun u hu => h u (List.mem_cons_of_mem _ hu)
      have := h t List.mem_cons_self
      rw [List.map_cons, cW, wz]
      omega
  intro ps l j
  induction j with
  | one p hp =>
    intro _ h2
    refine ⟨?_, ?_⟩
    · show (p.map gW).length = p.length
      rw [List.length_map]
    · show cW (p.map gW) ≤ _
      exact one p (h2 p List.mem_cons_self)
  | more p t ps r hp ht j ih =>
    intro h1 h2
    obtain ⟨i1, i2⟩ := ih (fun u hu => h1 u (List.mem_append_right _ (List.mem_cons_of_mem _ hu))) fun q hq => h2 q (List.mem_cons_of_mem _ hq)
    have e : allW ((p :: ps).map fun p => p.map gW) = p.map gW ++ barW :: allW (ps.map fun p => p.map gW) := by
      cases j with
      | one q _ => rfl
      | more q u qs s _ _ _ => rfl
    have hb : cW (barW :: allW (ps.map fun p => p.map gW)) = 2 + cW (allW (ps.map fun p => p.map gW)) := by rw [cW]; rfl
    have hw : wz (p ++ t :: r) = wz p + (t.2.2.size + 1 + wz r) := by rw [wz_append, wz]
    have ho := one p (h2 p List.mem_cons_self)
    rw [e]
    refine ⟨?_, ?_⟩
    · rw [List.length_append, List.length_cons, List.length_map, i1, List.length_append, List.length_cons]
    · have hts : t.2.2.size = 1 := by
        have := (bar_eq t).2 ht
        rw [this]; rfl
      rw [cW_append, hb, hw]
      omega
theorem DL_ok : ∀ (l : List UInt8) (n : Int), 0 ≤ n → (DL n l).2 = 0 → 0 ≤ (DL n l).1 ∧ (DL n l).1 ≤ 999
  | [], n, h0, h => by
    rw [DL] at h ⊢
    by_cases hn : n > 999
    · rw [if_pos hn] at h; cases h
    · rw [if_neg hn]; exact ⟨h0, by show n ≤ 999; omega⟩
  | c :: r, n, h0, h => by
    rw [DL] at h ⊢
    by_cases h1 : (c.toNat : Int) < 48
    · rw [if_pos h1] at h; cases h
    · rw [if_neg h1] at h ⊢
      by_cases h2 : (c.toNat : Int) > 57
      · rw [if_pos h2] at h; cases h
      · rw [if_neg h2] at h ⊢
        exact DL_ok r _ (by omega) h
theorem DG_ok {s : ByteArray} (h : (DG s).2 = 0) : 0 ≤ (DG s).1 ∧ (DG s).1 ≤ 999 := by
  unfold DG at h ⊢
  split at h
  · cases h
  · rename_i h1
    rw [if_neg h1]
    split at h
    · cases h
    · rename_i h2
      rw [if_neg h2]
      exact DL_ok _ 0 (Int.le_refl _) h
structure TkG (N : Nat) (l : List Tk) : Prop where
  ne : TkN l
  sz : ∀ t ∈ l, t.2.2.size ≤ 600
  at_ : WB N l
  len : l.length ≤ 600
  all : wz l ≤ 1200
theorem TkG.tail {N : Nat} {t : Tk} {l : List Tk} (h : TkG N (t :: l)) : TkG N l :=
  ⟨fun u hu => h.ne u (List.mem_cons_of_mem _ hu), fun u hu => h.sz u (List.mem_cons_of_mem _ hu), fun u hu => h.at_ u (List.mem_cons_of_mem _ hu), by have := h.len; rw [List.length_cons] at this; omega, by have := h.all; rw [wz] at this; omega⟩
structure Fits (kd ft : Int) (rw_ : List Ce) (rs : List (List Ce)) (gd : List Ce) (l : List Tk) : Prop where
  bad : ¬ badW kd ft rs
  I : InG rw_ rs gd
  cl : CLk (·.map kC) kd ft rw_ rs gd = (kd, ft, rw_, rs, gd)
  cnt : (allW (partsW kd rw_ rs gd)).length ≤ l.length
  cw : cW (allW (partsW kd rw_ rs gd)) ≤ 3 * wz l
theorem art_good {N : Nat} {kd ft : Int} (h1 : 1 ≤ kd) (h9 : kd ≤ 9) (hft : fe kd = true → 0 ≤ ft ∧ ft ≤ 999) (hft0 : ¬ fe kd = true → ft = 0) {l : List Tk} (T : TkG N l) :
    (∃ a e, ART kd ft (ro kd) (gr kd) (ma kd) l = AErr a e ∧ e ≠ 0 ∧ 0 ≤ a ∧ a ≤ (N : Int)) ∨ ∃ rw_ rs gd, ART kd ft (ro kd) (gr kd) (ma kd) l = (kd, ft, rw_, rs, gd, 0, 0) ∧ Fits kd ft rw_ rs gd l := by
  have hrg : ro kd = true → gr kd = true → False := fun a b => by
    have a' := of_decide_eq_true a
    have b' := of_decide_eq_true b
    omega
  have hz : TkZ l := fun t ht => Nat.le_trans (T.sz t ht) (by decide)
  have hS : (∀ p ∈ SP l, TkZ p ∧ p.length ≤ 700) ∧ (SP l).length ≤ 700 := by
    unfold SP
    have := T.len
    split
    · exact ⟨fun p hp => (by cases hp), Nat.zero_le _⟩
    · exact split_parts 700 l [] [] (fun p hp => by cases hp) (fun x hx => by cases hx) hz (by rw [List.length_nil]; omega) (by rw [List.length_nil]; omega)
  have hB : ∀ p ∈ SP l, WB N p := fun p hp t ht => T.at_ t (SP_mem hp ht)
  have hsz : ∀ p ∈ SP l, ∀ t ∈ p, t.2.2.size ≤ 600 := fun p hp t ht => T.sz t (SP_mem hp ht)
  have hG : ∀ p ∈ SP l, (∀ t ∈ p, OkT t) → ((∀ c ∈ p.map ct, CeG c) ∧ (p.map ct).length ≤ 1000) ∧ (p.map ct).map kC = p.map ct ∧ wR (p.map ct) = p.map gW ∧ ∀ t ∈ p, (gW t).length ≤ 2 * t.2.2.size + 2 := fun p hp hok => by
    refine ⟨⟨fun c hc => ?_, by rw [List.length_map]; have := (hS.1 p hp).2; omega⟩, ?_, ?_, fun t ht => (ct_ok (hok t ht) (hsz p hp t ht)).2.2⟩
    · obtain ⟨t, ht, rfl⟩ := List.mem_map.1 hc
      exact (ct_ok (hok t ht) (hsz p hp t ht)).1
    · rw [List.map_map]
      exact List.map_congr_left fun t ht => (ct_ok (hok t ht) (hsz p hp t ht)).2.1
    · unfold wR
      rw [List.map_map]
      rfl
  have hallW : (∀ p ∈ SP l, ∀ t ∈ p, OkT t) → (allW ((SP l).map fun p => p.map gW)).length ≤ l.length ∧ cW (allW ((SP l).map fun p => p.map gW)) ≤ 3 * wz l := fun hok => by
    unfold SP at hok hG hsz ⊢
    by_cases hl : l = []
    · rw [if_pos hl]
      exact ⟨Nat.zero_le _, Nat.zero_le _⟩
    · rw [if_neg hl] at hok hG hsz ⊢
      obtain ⟨ps, e, j⟩ := split_jn l [] [] (fun t ht => by cases ht)
      rw [List.nil_append] at e
      rw [List.nil_append] at j
      rw [e] at hok hG hsz ⊢
      have key : ∀ {qs : List (List Tk)} {m : List Tk}, Jn qs m → ∀ u ∈ m, isBar u ∨ ∃ q ∈ qs, u ∈ q := fun {qs m} j => by
        induction j with
        | one p hp => intro u hu; exact .inr ⟨p, List.mem_cons_self, hu⟩
        | more p v qs r hp hv j ih =>
          intro u hu
          rcases List.mem_append.1 hu with g | g
          · exact .inr ⟨p, List.mem_cons_self, g⟩
          · rcases List.mem_cons.1 g with rfl | g
            · exact .inl hv
            · rcases ih u g with g | ⟨q, hq, g⟩
              · exact .inl g
              · exact .inr ⟨q, List.mem_cons_of_mem _ hq, g⟩
      have hq : ∀ t ∈ l, (gW t).length ≤ 2 * t.2.2.size + 2 ∨ isBar t := fun t ht => by
        rcases key j t ht with g | ⟨q, hq, hu⟩
        · exact .inr g
        · exact .inl ((hG q hq (hok q hq)).2.2.2 t hu)
      obtain ⟨a, b⟩ := jn_words j hq fun p hp t ht => (hG p hp (hok p hp)).2.2.2 t ht
      exact ⟨Nat.le_of_eq a, b⟩
  have hrs : ∀ ps : List (List Tk), (∀ p ∈ ps, p ∈ SP l) → (∀ p ∈ ps, ∀ t ∈ p, OkT t) → (∀ r ∈ ps.map (·.map ct), (∀ c ∈ r, CeG c) ∧ r.length ≤ 1000) ∧ (ps.map (·.map ct)).map (·.map kC) = ps.map (·.map ct) ∧ (ps.map (·.map ct)).map wR = ps.map fun p => p.map gW := fun ps hps hok => by
    refine ⟨fun r hr => ?_, ?_, ?_⟩
    · obtain ⟨p, hp, rfl⟩ := List.mem_map.1 hr
      exact (hG p (hps p hp) (hok p hp)).1
    · rw [List.map_map]
      exact List.map_congr_left fun p hp => (hG p (hps p hp) (hok p hp)).2.1
    · rw [List.map_map]
      exact List.map_congr_left fun p hp => (hG p (hps p hp) (hok p hp)).2.2.1
  have nilG : (∀ c ∈ ([] : List Ce), CeG c) ∧ ([] : List Ce).length ≤ 1000 := ⟨fun c hc => (by cases hc), Nat.zero_le _⟩
  have hbad : ∀ rs : List (List Ce), (kd = 9 → ∃ ps : List (List Tk), ps = SP l ∧ rs = ps.map (·.map ct)) → ¬ badW kd ft rs := fun rs h h' => by
    rcases h' with g | g | g
    · exact g ⟨h1, h9⟩
    · obtain ⟨a, b⟩ := hft g.1
      omega
    · obtain ⟨ps, e, rfl⟩ := h g.1
      rw [List.length_map] at g
      obtain ⟨p, rfl⟩ := List.length_eq_one_iff.1 g.2.1
      have g3 : p = [] := by
        have := g.2.2
        rw [List.map_cons, List.headD_cons, List.length_map] at this
        exact List.eq_nil_of_length_eq_zero this
      rw [g3] at e
      unfold SP at e
      by_cases hl : l = []
      · rw [if_pos hl] at e; cases e
      · rw [if_neg hl] at e
        obtain ⟨qs, e2, j⟩ := split_jn l [] [] (fun t ht => by cases ht)
        rw [List.nil_append] at e2
        rw [List.nil_append] at j
        rw [← e, ] at e2
        subst e2
        cases j with
        | one _ _ => exact hl rfl
        | more _ _ _ _ _ _ j => cases j
  unfold ART
  by_cases h : ro kd = true ∨ gr kd = true
  · rw [if_pos h]
    have hhd : ∃ p ps, (SP l).headD [] = p ∧ (SP l).tail = ps ∧ (SP l = p :: ps ∨ (SP l = [] ∧ p = [] ∧ ps = [])) := by
      cases hq : SP l with
      | nil => exact ⟨[], [], rfl, rfl, .inr ⟨rfl, rfl, rfl⟩⟩
      | cons p ps => exact ⟨p, ps, rfl, rfl, .inl rfl⟩
    obtain ⟨p, ps, e1, e2, e3⟩ := hhd
    rw [e1, e2]
    have hpB : WB N p := by
      rcases e3 with e | ⟨_, rfl, _⟩
      · exact hB p (by rw [e]; exact List.mem_cons_self)
      · intro t ht; cases ht
    have hpsS : ∀ q ∈ ps, q ∈ SP l := fun q hq => by
      rcases e3 with e | ⟨_, _, rfl⟩
      · rw [e]; exact List.mem_cons_of_mem _ hq
      · cases hq
    by_cases hW : (WF [] p).2.2 ≠ 0
    · rw [if_pos hW]
      obtain ⟨a1, a2⟩ := WF_at p [] hpB hW
      exact .inl ⟨_, _, rfl, hW, a1, a2⟩
    · rw [if_neg hW]
      obtain ⟨w1, w2⟩ := WF_read p [] (Decidable.byContradiction hW)
      rw [List.nil_append] at w1
      unfold TL
      by_cases hM : ma kd = false ∧ ps ≠ []
      · rw [if_pos hM]
        obtain ⟨a1, a2⟩ := EX_at true l T.at_
        exact .inl ⟨_, _, rfl, by decide, a1, a2⟩
      · rw [if_neg hM]
        unfold FN
        by_cases hR : (RF [] ps).2.2 ≠ 0
        · rw [if_pos hR]
          obtain ⟨a1, a2⟩ := RF_at ps [] (fun q hq => hB q (hpsS q hq)) hR
          exact .inl ⟨_, _, rfl, hR, a1, a2⟩
        · rw [if_neg hR]
          obtain ⟨r1, r2⟩ := RF_read ps [] (Decidable.byContradiction hR)
          rw [List.nil_append] at r1
          have hpG : ((∀ c ∈ p.map ct, CeG c) ∧ (p.map ct).length ≤ 1000) ∧ (p.map ct).map kC = p.map ct ∧ wR (p.map ct) = p.map gW := by
            rcases e3 with e | ⟨_, rfl, _⟩
            · obtain ⟨a, b, c, _⟩ := hG p (by rw [e]; exact List.mem_cons_self) w2
              exact ⟨a, b, c⟩
            · exact ⟨nilG, rfl, rfl⟩
          obtain ⟨m1, m2, m3⟩ := hrs ps hpsS r2
          have hml : (ps.map (·.map ct)).length ≤ 1000 := by
            rw [List.length_map]
            have := hS.2
            rcases e3 with e | ⟨_, _, rfl⟩
            · rw [e, List.length_cons] at this; omega
            · exact Nat.zero_le _
          have hn9 : kd ≠ 9 := fun e => by rw [e] at h; exact absurd h (by decide)
          have hmm : ¬ ma kd = true → ps = [] := fun hm => Decidable.byContradiction fun hp => hM ⟨by simpa using hm, hp⟩
          have hwz : (allW (p.map gW :: ps.map fun p => p.map gW)).length ≤ l.length ∧ cW (allW (p.map gW :: ps.map fun p => p.map gW)) ≤ 3 * wz l := by
            rcases e3 with e | ⟨e, rfl, rfl⟩
            · have := hallW fun q hq => by
                rw [e] at hq
                rcases List.mem_cons.1 hq with rfl | hq
                · exact w2
                · exact r2 q hq
              rw [e] at this
              exact this
            · exact ⟨Nat.zero_le _, Nat.zero_le _⟩
          have hps : (if ma kd = true then (ps.map (·.map ct)).map wR else []) = ps.map fun p => p.map gW := by
            by_cases hm : ma kd = true
            · rw [if_pos hm, m3]
            · rw [if_neg hm, hmm hm]; rfl
          refine .inr ⟨_, _, _, rfl, ?_⟩
          rw [r1, w1]
          refine ⟨hbad _ fun e => absurd e hn9, ⟨?_, ?_, m1, hml⟩, ?_, ?_, ?_⟩
          · split
            · exact hpG.1
            · exact nilG
          · split
            · exact nilG
            · exact hpG.1
          · unfold CLk
            have q1 : (if fe kd = true then ft else 0) = ft := by
              by_cases hf : fe kd = true
              · rw [if_pos hf]
              · rw [if_neg hf, hft0 hf]
            have q2 : (if ma kd = true then (ps.map (·.map ct)).map (·.map kC) else []) = ps.map (·.map ct) := by
              by_cases hm : ma kd = true
              · rw [if_pos hm, m2]
              · rw [if_neg hm, hmm hm]; rfl
            rw [q1, q2]
            by_cases hr : ro kd = true
            · have hg : ¬ gr kd = true := fun hg => hrg hr hg
              rw [if_pos hr, if_pos hr, if_pos hr, if_neg hg]
              show (kd, ft, (p.map ct).map kC, _, _) = _
              rw [hpG.2.1]
            · have hg := h.resolve_left hr
              rw [if_neg hr, if_neg hr, if_neg hr, if_pos hg]
              show (kd, ft, _, _, (p.map ct).map kC) = _
              rw [hpG.2.1]
          all_goals
            have hpw : partsW kd (if ro kd = true then p.map ct else []) (ps.map (·.map ct)) (if ro kd = true then [] else p.map ct) = p.map gW :: ps.map fun p => p.map gW := by
              unfold partsW fstR
              rw [if_pos h, hps]
              by_cases hr : ro kd = true
              · rw [if_pos hr, if_pos hr, hpG.2.2]; rfl
              · rw [if_neg hr, if_neg hr, hpG.2.2]; rfl
            rw [hpw]
          · exact hwz.1
          · exact hwz.2
  · rw [if_neg h]
    have hr : ¬ ro kd = true := fun e => h (.inl e)
    have hg : ¬ gr kd = true := fun e => h (.inr e)
    unfold TL
    by_cases hM : ma kd = false ∧ SP l ≠ []
    · rw [if_pos hM]
      obtain ⟨a1, a2⟩ := EX_at false l T.at_
      exact .inl ⟨_, _, rfl, by decide, a1, a2⟩
    · rw [if_neg hM]
      unfold FN
      by_cases hR : (RF [] (SP l)).2.2 ≠ 0
      · rw [if_pos hR]
        obtain ⟨a1, a2⟩ := RF_at (SP l) [] hB hR
        exact .inl ⟨_, _, rfl, hR, a1, a2⟩
      · rw [if_neg hR]
        obtain ⟨r1, r2⟩ := RF_read (SP l) [] (Decidable.byContradiction hR)
        rw [List.nil_append] at r1
        obtain ⟨m1, m2, m3⟩ := hrs (SP l) (fun q hq => hq) r2
        have hmm : ¬ ma kd = true → SP l = [] := fun hm => Decidable.byContradiction fun hp => hM ⟨by simpa using hm, hp⟩
        have hwz := hallW r2
        have hps : (if ma kd = true then ((SP l).map (·.map ct)).map wR else []) = (SP l).map fun p => p.map gW := by
          by_cases hm : ma kd = true
          · rw [if_pos hm, m3]
          · rw [if_neg hm, hmm hm]; rfl
        refine .inr ⟨_, _, _, rfl, ?_⟩
        rw [r1]
        refine ⟨hbad _ fun _ => ⟨SP l, rfl, rfl⟩, ⟨nilG, nilG, m1, by rw [List.length_map]; have := hS.2; omega⟩, ?_, ?_, ?_⟩
        · unfold CLk
          have q1 : (if fe kd = true then ft else 0) = ft := by
            by_cases hf : fe kd = true
            · rw [if_pos hf]
            · rw [if_neg hf, hft0 hf]
          have q2 : (if ma kd = true then ((SP l).map (·.map ct)).map (·.map kC) else []) = (SP l).map (·.map ct) := by
            by_cases hm : ma kd = true
            · rw [if_pos hm, m2]
            · rw [if_neg hm, hmm hm]; rfl
          rw [q1, q2, if_neg hr, if_neg hg]
        all_goals
          have hpw : partsW kd [] ((SP l).map (·.map ct)) [] = (SP l).map fun p => p.map gW := by
            unfold partsW
            rw [if_neg h, hps]
            rfl
          rw [hpw]
        · exact hwz.1
        · exact hwz.2
end Go.DI.Th
namespace Go.DI.Th
open Go Go.RowKit Go.DI

theorem wz_ne : ∀ l : List Tk, TkN l → 2 * l.length ≤ wz l
  | [], _ => Nat.le_refl _
  | t :: l, h => by
    have ih := wz_ne l fun u hu => h u (List.mem_cons_of_mem _ hu)
    have := h t List.mem_cons_self
    rw [wz, List.length_cons]
    omega
theorem LW_good (x : ByteArray) (hx : x.size ≤ 600) : TkG x.size (LW x).1 ∧ 0 ≤ (LW x).2.1 ∧ (LW x).2.1 ≤ (x.size : Int) := by
  have hs : (toL x).length = x.size := (size_toL x).symm
  have h1 := wordsS_sz 600 _ (toL x) [] 0 (Nat.le_refl _) (by omega) (fun w hw => by cases hw)
  have h2 := wordsS_bd x.size _ (toL x) [] 0 (Nat.le_refl _) (fun w hw => by cases hw) (by omega) (Nat.zero_le _)
  have h3 := wordsS_wz _ (toL x) [] 0 (Nat.le_refl _)
  have h4 := LW_ne x
  have h5 : wz (LW x).1 ≤ 1200 := by
    have e : wz ([] : List W) = 0 := rfl
    rw [e] at h3
    have : wz (LW x).1 ≤ 0 + 2 * (toL x).length := h3
    omega
  exact ⟨⟨h4, h1, h2.1, by have := wz_ne _ h4; omega, h5⟩, h2.2.2.1, h2.2.2.2⟩
theorem PR_good (x : ByteArray) (hx : x.size ≤ 600) : (∃ a e, PR x = AErr a e ∧ e ≠ 0 ∧ 0 ≤ a ∧ a ≤ (x.size : Int)) ∨ ∃ kd ft rw_ rs gd l, PR x = (kd, ft, rw_, rs, gd, 0, 0) ∧ 1 ≤ kd ∧ kd ≤ 9 ∧ Fits kd ft rw_ rs gd l ∧ l.length ≤ 600 ∧ wz l ≤ 1200 ∧ (fe kd = true → ft ≤ 999) := by
  obtain ⟨T, b1, b2⟩ := LW_good x hx
  unfold PR
  by_cases he : (LW x).2.2 ≠ 0
  · rw [if_pos he]
    exact .inl ⟨_, _, rfl, he, b1, b2⟩
  rw [if_neg he]
  revert T
  cases (LW x).1 with
  | nil => intro _; exact .inl ⟨_, _, rfl, by decide, Int.natCast_nonneg _, Int.le_refl _⟩
  | cons t l =>
    intro T
    show (∃ a e, (if kindOf t.2.2 = 0 then AErr t.1 7 else PK (kindOf t.2.2) (x.size : Int) l) = AErr a e ∧ _) ∨ ∃ kd ft rw_ rs gd l', (if kindOf t.2.2 = 0 then AErr t.1 7 else PK (kindOf t.2.2) (x.size : Int) l) = (kd, ft, rw_, rs, gd, 0, 0) ∧ _
    by_cases h0 : kindOf t.2.2 = 0
    · rw [if_pos h0]
      have := T.at_ t List.mem_cons_self
      exact .inl ⟨_, _, rfl, by decide, this.1, this.2⟩
    · rw [if_neg h0]
      obtain ⟨k1, k9⟩ := (kindOf_range t.2.2).resolve_left h0
      generalize kindOf t.2.2 = kd at k1 k9 h0 ⊢
      have T2 := T.tail
      unfold PK
      by_cases hf : fe kd = true
      · rw [if_pos hf]
        cases l with
        | nil => exact .inl ⟨_, _, rfl, by decide, Int.natCast_nonneg _, Int.le_refl _⟩
        | cons u m =>
          show (∃ a e, (if (DG u.2.2).2 ≠ 0 then AErr u.1 (DG u.2.2).2 else ART kd (DG u.2.2).1 (ro kd) (gr kd) (ma kd) m) = AErr a e ∧ _) ∨ ∃ kd' ft rw_ rs gd l', (if (DG u.2.2).2 ≠ 0 then AErr u.1 (DG u.2.2).2 else ART kd (DG u.2.2).1 (ro kd) (gr kd) (ma kd) m) = (kd', ft, rw_, rs, gd, 0, 0) ∧ _
          by_cases hd : (DG u.2.2).2 ≠ 0
          · rw [if_pos hd]
            have := T2.at_ u List.mem_cons_self
            exact .inl ⟨_, _, rfl, hd, this.1, this.2⟩
          · rw [if_neg hd]
            have hg := DG_ok (Decidable.byContradiction hd)
            rcases art_good k1 k9 (fun _ => hg) (fun h => absurd hf h) T2.tail with ⟨a, e, g⟩ | ⟨rw_, rs, gd, g, F⟩
            · exact .inl ⟨a, e, g⟩
            · exact .inr ⟨kd, _, rw_, rs, gd, m, g, k1, k9, F, T2.tail.len, T2.tail.all, fun _ => hg.2⟩
      · rw [if_neg hf]
        rcases art_good k1 k9 (fun h => absurd h hf) (fun _ => rfl) T2 with ⟨a, e, g⟩ | ⟨rw_, rs, gd, g, F⟩
        · exact .inl ⟨a, e, g⟩
        · exact .inr ⟨kd, _, rw_, rs, gd, l, g, k1, k9, F, T2.len, T2.all, fun h => absurd h hf⟩
theorem again_tail (haw : Ev (fun k => dendronlaw28_awake.f k) true) (x : ByteArray) (hx : x.size ≤ 600) : Ev (fun k => (ask_Parse.f k x).bind fun v5 => (if v5.2.2.2.2.2.2 ≠ 0 then ((dendronref28_Same.f k v5.1 v5.2.1 v5.2.2.1 v5.2.2.2.1 v5.2.2.2.2.1 0 0 ([] : List Ce) ([] : List (List Ce)) ([] : List Ce)).bind fun v18 => (if v18 = true then (if v5.2.2.2.2.2.1 ≥ 0 then (if v5.2.2.2.2.2.1 ≤ (x.size : Int) then ((dendronlaw28_awake.f k).bind fun v30 => (some v30)) else (some false)) else (some false)) else (some false))) else ((ask_Write.f k v5.1 v5.2.1 v5.2.2.1 v5.2.2.2.1 v5.2.2.2.2.1).bind fun v17 => ((ask_Parse.f k v17.1).bind fun v24 => ((ask_Write.f k v24.1 v24.2.1 v24.2.2.1 v24.2.2.2.1 v24.2.2.2.2.1).bind fun v34 => (if v17.2 = 0 then (if v24.2.2.2.2.2.2 = 0 then ((dendronref28_Same.f k v5.1 v5.2.1 v5.2.2.1 v5.2.2.2.1 v5.2.2.2.2.1 v24.1 v24.2.1 v24.2.2.1 v24.2.2.2.1 v24.2.2.2.2.1).bind fun v49 => (if v49 = true then (if v34.2 = 0 then (if v34.1 = v17.1 then ((dendronlaw28_awake.f k).bind fun v61 => (some v61)) else (some false)) else (some false)) else (some false))) else (some false)) else (some false))))))) true := by
  have hP := aparse_ev x (by omega)
  have hok := PR_ok x (by omega)
  rcases PR_good x hx with ⟨a, e, g, he, h0, h1⟩ | ⟨kd, ft, rw_, rs, gd, l, g, k1, k9, F, hl, hz, hft⟩
  · rw [g] at hP
    exact Ev.bind hP (Ev.if_pos he (Ev.bind (same28_self (AErr a e) (AErr_ok a e)) (Ev.if_pos rfl (Ev.if_pos h0 (Ev.if_pos h1 (Ev.bind haw (Ev.now _)))))))
  · rw [g] at hP hok
    have hW := awrite_evG kd ft F.I
    rw [if_neg F.bad] at hW
    obtain ⟨q1, q2⟩ := headW_few kd ft hft
    have hc : (headW kd ft ++ allW (partsW kd rw_ rs gd)).length ≤ 4096 := by
      rw [List.length_append]
      have := F.cnt
      omega
    have hsz : (lineP kd ft rw_ rs gd).size ≤ 100000 := by
      have e := line_size ft k1 k9 rw_ rs gd
      rw [cW_append] at e
      have a1 := cW_le (headW kd ft) 400 q2
      have a2 : (headW kd ft).length * (400 + 1) ≤ 2 * 401 := Nat.mul_le_mul q1 (Nat.le_refl _)
      have a3 := F.cw
      omega
    have hP2 := aparse_ev _ hsz
    rw [back_PR F.bad F.I hc, F.cl] at hP2
    exact Ev.bind hP (Ev.if_neg (fun e => e rfl) (Ev.bind hW (Ev.bind hP2 (Ev.bind hW (Ev.if_pos rfl (Ev.if_pos rfl (Ev.bind (same28_self (kd, ft, rw_, rs, gd, 0, 0) hok) (Ev.if_pos rfl (Ev.if_pos rfl (Ev.if_pos rfl (Ev.bind haw (Ev.now _))))))))))))
theorem askAgain_ev0 (haw : Ev (fun k => dendronlaw28_awake.f k) true) (x : ByteArray) : Ev (fun k => dendronlaw28_AskAgain.f k x) true := by
  unfold dendronlaw28_AskAgain.f
  by_cases h : (x.size : Int) > 600
  · exact Ev.if_pos h (Ev.if_pos (by omega) (again_tail haw _ (by rw [ByteArray.size_extract]; omega)))
  · exact Ev.if_neg h (again_tail haw x (by omega))
end Go.DI.Th
