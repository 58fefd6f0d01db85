/- What the told functions answer, part 2. No condition. -/
import Derived.Test.YtnmpjinieiopaaaGreatDoorTh1
set_option linter.all false
namespace Go.DI.Th
open Go Go.RowKit Go.DI

def cutL (x : UInt8) : List UInt8 → Option (List UInt8 × List UInt8)
  | [] => none
  | c :: w => if c = x then some ([], w) else (cutL x w).map fun p => (c :: p.1, p.2)
theorem cutL_some {x : UInt8} : ∀ {w a b : List UInt8}, cutL x w = some (a, b) → w = a ++ x :: b ∧ x ∉ a
  | [], a, b, h => by cases h
  | c :: w, a, b, h => by
    rw [cutL] at h
    by_cases hc : c = x
    · rw [if_pos hc] at h
      cases h
      rw [hc]
      exact ⟨rfl, List.not_mem_nil⟩
    · rw [if_neg hc] at h
      cases hw : cutL x w with
      | none => rw [hw] at h; cases h
      | some p =>
        rw [hw] at h
        cases h
        obtain ⟨h1, h2⟩ := cutL_some (a := p.1) (b := p.2) hw
        refine ⟨by rw [List.cons_append, ← h1], fun hm => ?_⟩
        rcases List.mem_cons.1 hm with e | hm
        · exact hc e.symm
        · exact h2 hm
theorem cutL_none {x : UInt8} : ∀ {w : List UInt8}, cutL x w = none → x ∉ w
  | [], _ => List.not_mem_nil
  | c :: w, h => by
    rw [cutL] at h
    by_cases hc : c = x
    · rw [if_pos hc] at h; cases h
    · rw [if_neg hc] at h
      cases hw : cutL x w with
      | some p => rw [hw] at h; cases h
      | none =>
        intro hm
        rcases List.mem_cons.1 hm with e | hm
        · exact hc e.symm
        · exact cutL_none hw hm
theorem cutL_of {x : UInt8} : ∀ {a b : List UInt8}, x ∉ a → cutL x (a ++ x :: b) = some (a, b)
  | [], b, _ => by rw [List.nil_append, cutL, if_pos rfl]
  | c :: a, b, h => by
    rw [List.cons_append, cutL, if_neg (fun e => h (by rw [e]; exact List.mem_cons_self)), cutL_of (fun hm => h (List.mem_cons_of_mem _ hm))]
    rfl
theorem cutL_not {x : UInt8} : ∀ {w : List UInt8}, x ∉ w → cutL x w = none
  | [], _ => rfl
  | c :: w, h => by
    rw [cutL, if_neg (fun e => h (by rw [e]; exact List.mem_cons_self)), cutL_not (fun hm => h (List.mem_cons_of_mem _ hm))]
    rfl
theorem get_bang {s : ByteArray} {i : Nat} (h : i < s.size) : s[i]! = s[i]'h := getElem!_pos s i h
theorem fIdx_at {s : ByteArray} {a b : List UInt8} {x : UInt8} (h : toL s = a ++ x :: b) (hn : x ∉ a) : fIdx s x = (a.length : Int) := by
  have hsz : s.size = a.length + (b.length + 1) := by rw [size_toL, h, List.length_append, List.length_cons]
  unfold fIdx
  have hf : (List.range s.size).find? (fun i => s[i]! == x) = some a.length := by
    rw [List.find?_range_eq_some]
    refine ⟨?_, by simp; omega, fun j hj => ?_⟩
    · rw [get_bang (by omega), at_byte h (by omega)]
      simp
    · have hjs : j < s.size := by omega
      rw [get_bang hjs]
      have e : s[j]'hjs = (toL s)[j]'(by rw [← size_toL]; exact hjs) := rfl
      have e2 : s[j]'hjs ∈ a := by
        rw [e]
        have : ∀ (l : List UInt8) (hl : j < l.length), l = a ++ x :: b → l[j]'hl ∈ a := by
          intro l hl e
          subst e
          rw [List.getElem_append_left hj]
          exact List.getElem_mem hj
        exact this _ _ h
      simp only [Bool.not_eq_true', beq_eq_false_iff_ne, ne_eq]
      intro e3
      exact hn (e3 ▸ e2)
  rw [hf]
theorem fIdx_none {s : ByteArray} {x : UInt8} (hn : x ∉ toL s) : fIdx s x = -1 := by
  unfold fIdx
  have hf : (List.range s.size).find? (fun i => s[i]! == x) = none := by
    rw [List.find?_eq_none]
    intro j hj
    have hjs : j < s.size := List.mem_range.1 hj
    rw [get_bang hjs]
    have e : s[j]'hjs = (toL s)[j]'(by rw [← size_toL]; exact hjs) := rfl
    simp only [beq_iff_eq]
    intro e2
    apply hn
    rw [← e2, e]
    exact List.getElem_mem _
  rw [hf]
def cutR (s : ByteArray) (x : UInt8) : ByteArray × ByteArray × Bool := match cutL x (toL s) with
  | some (a, b) => (ofL a, ofL b, true)
  | none => (s, ByteArray.empty, false)
theorem cut_ev (s : ByteArray) (hs : s.size ≤ 1125899906842624) (x : UInt8) (sep : ByteArray) (hsep : sep = ⟨#[x]⟩) : Ev (fun k => strings_Cut.f k s sep) (cutR s x) := by
  subst hsep
  have hsz : (⟨#[x]⟩ : ByteArray).size = 1 := rfl
  have hbt : bt (⟨#[x]⟩ : ByteArray) 0 = (x.toNat : Int) := bt_at (b := ⟨#[x]⟩) (p := []) (c := x) (r := []) rfl
  have hix : Ev (fun k => stringslite_Index.f k s ⟨#[x]⟩) (fIdx s x) := by
    unfold stringslite_Index.f
    rw [hsz, hbt]
    refine Ev.if_neg (by decide) ?_
    by_cases he : (⟨#[x]⟩ : ByteArray) = s
    · refine Ev.if_pos he ((Ev.now _).of_eq ?_)
      have : toL s = [] ++ x :: [] := by rw [← he]; rfl
      rw [fIdx_at this List.not_mem_nil]
      rfl
    · refine Ev.if_neg he (Ev.if_pos (by decide) (Ev.if_pos (by decide) ((Ev.now _).of_eq ?_)))
      congr 1
      rw [Int.toNat_natCast]
      exact UInt8.ofNat_toNat
  have hc : Ev (fun k => stringslite_Cut.f k s ⟨#[x]⟩) (cutR s x) := by
    unfold stringslite_Cut.f
    rw [hsz]
    refine Ev.bind hix ?_
    unfold cutR
    cases hx : cutL x (toL s) with
    | none =>
      rw [fIdx_none (cutL_none hx)]
      exact Ev.if_neg (by decide) (Ev.now _)
    | some p =>
      obtain ⟨a, b⟩ := p
      obtain ⟨h1, h2⟩ := cutL_some hx
      have hsize : s.size = a.length + (b.length + 1) := by rw [size_toL, h1, List.length_append, List.length_cons]
      rw [fIdx_at h1 h2]
      have ew : wrap64 ((a.length : Int) + ((1 : Nat) : Int)) = ((a.length + 1 : Nat) : Int) := by rw [wrap_id (by omega) (by omega)]; omega
      have e2 : s.extract (a.length + 1) s.size = ofL b := by
        have h3 : toL s = (a ++ [x]) ++ b := by rw [h1]; simp
        have := ext_drop h3
        rwa [List.length_append, List.length_singleton] at this
      rw [ew, Int.toNat_natCast, Int.toNat_natCast, ext_take h1, e2]
      exact Ev.if_pos (nn0 _) (Ev.if_pos (by omega) (Ev.if_pos (nn0 _) (Ev.if_pos (by omega) (Ev.now _))))
  unfold strings_Cut.f
  exact Ev.bind hc (Ev.now _)
def isPre (x : UInt8) : List UInt8 → Bool
  | [] => false
  | c :: _ => c == x
theorem prefix_ev (s : ByteArray) (x : UInt8) : strings_HasPrefix.f s ⟨#[x]⟩ = some (isPre x (toL s)) := by
  unfold strings_HasPrefix.f stringslite_HasPrefix.f
  have hsz : (⟨#[x]⟩ : ByteArray).size = 1 := rfl
  rw [hsz]
  cases hw : toL s with
  | nil =>
    have h0 : s.size = 0 := by rw [size_toL, hw]; rfl
    rw [if_neg (by omega)]
    rfl
  | cons c t =>
    have h1 : s.size = t.length + 1 := by rw [size_toL, hw]; rfl
    rw [if_pos (by omega), if_pos (by decide)]
    have e1 : s.extract 0 1 = ofL [c] := ext_take (a := [c]) (b := t) hw
    simp only [Option.bind_some, Int.toNat_natCast]
    rw [e1, Option.some.injEq]
    show ((ofL [c]).toList == (⟨#[x]⟩ : ByteArray).toList) = (c == x)
    by_cases h : c = x
    · subst h
      have e : (ofL [c]) = (⟨#[c]⟩ : ByteArray) := rfl
      rw [@str_t ⟨[], 0, 0⟩ _ _ e]
      simp
    · have e : ¬ (ofL [c]) = (⟨#[x]⟩ : ByteArray) := fun e => h (by
        have := congrArg toL e
        have e2 : ([c] : List UInt8) = [x] := this
        exact (List.cons.inj e2).1)
      rw [@str_f ⟨[], 0, 0⟩ _ _ e]
      symm
      simpa using h
theorem ten_l0 (n : Nat) (hn : n ≤ 20000) : ∀ d i : Nat, i + d = n → Ev (fun k => ratio_ten.l0 k (lm (10 ^ i)) (n : Int) (i : Int)) (lm (10 ^ n)) := by
  intro d
  induction d with
  | zero =>
    intro i hi
    obtain rfl : i = n := by omega
    refine Ev.succ ?_
    simp only [ratio_ten.l0]
    exact Ev.if_neg (by omega) (Ev.now _)
  | succ d ih =>
    intro i hi
    have hih := ih (i + 1) (by omega)
    have hl := len_ten i
    have hm := mul_ev (lm (10 ^ i)) (lm 10) (lm_ok _).U (lm_ok _).U (by rw [lm_length, lm_length]; have := len_small (n := 10) (by decide); omega)
    rw [val_lm, val_lm, ← Nat.pow_succ] at hm
    refine Ev.succ ?_
    simp only [ratio_ten.l0, wr_succ i (show i ≤ 1125899906842624 by omega)]
    exact Ev.if_pos (by omega) (Ev.bind (ofN_ev 10 (by decide)) (Ev.bind hm hih))
theorem ten_ev (n : Nat) (hn : n ≤ 20000) : Ev (fun k => ratio_ten.f k (n : Int)) (lm (10 ^ n)) := by
  unfold ratio_ten.f
  exact Ev.bind (ofN_ev 1 (by decide)) (ten_l0 n hn n 0 (by omega))
def plE (w : List UInt8) : Int := match cutL 47 w with
  | some (a, b) => if pE a ≠ 0 then pE a else if pE b ≠ 0 then pE b else if dgv 0 b = 0 then 2 else 0
  | none => match cutL 46 w with
    | some (a, b) => if pE a ≠ 0 then pE a else pE b
    | none => pE w
def plV (w : List UInt8) : Rat := match cutL 47 w with
  | some (a, b) => mkRat (dgv 0 a : Int) (dgv 0 b)
  | none => match cutL 46 w with
    | some (a, b) => mkRat ((dgv 0 a * 10 ^ b.length + dgv 0 b : Nat) : Int) (10 ^ b.length)
    | none => ((dgv 0 w : Int) : Rat)
def rR (e : Int) (x : Rat) : Bool × List Int × List Int × Int := if e = 0 then ((cn x).1, (cn x).2.1, (cn x).2.2, 0) else (false, [], [], e)
theorem form_nat (n q : Nat) (hq : q ≠ 0) (h1 : len n ≤ 549755813888) (h2 : len q ≤ 549755813888) : Ev (fun k => ratio_form.f k false (lm n) (lm q)) (cn (mkRat (n : Int) q)) := by
  have := form_cn (n : Int) q hq (by rw [Int.natAbs_natCast]; exact h1) h2
  rwa [Int.natAbs_natCast, decide_eq_false (show ¬ ((n : Int) < 0) by omega)] at this
theorem pE_len {w : List UInt8} (h : pE w = 0) : len (dgv 0 w) ≤ 10001 := by
  obtain ⟨_, h2, h3⟩ := pE_zero.1 h
  have := len_dgv w h2
  omega
theorem plain_ev (s : ByteArray) (hs : s.size ≤ 1125899906842624) : Ev (fun k => ratio_plain.f k s) (rR (plE (toL s)) (plV (toL s))) := by
  unfold ratio_plain.f
  refine Ev.bind (cut_ev s hs 47 _ rfl) ?_
  unfold cutR plE plV
  cases h1 : cutL 47 (toL s) with
  | some p =>
    obtain ⟨a, b⟩ := p
    dsimp only
    refine Ev.if_pos rfl ?_
    have pa := nparse_ev (ofL a)
    have pb := nparse_ev (ofL b)
    rw [toL_ofL] at pa pb
    unfold pR at pa pb
    by_cases ha : pE a = 0
    · rw [if_pos ha] at pa
      rw [if_neg (fun h => h ha)]
      refine Ev.bind pa (Ev.if_neg (fun h => h rfl) ?_)
      by_cases hb : pE b = 0
      · rw [if_pos hb] at pb
        rw [if_neg (fun h => h hb)]
        refine Ev.bind pb (Ev.if_neg (fun h => h rfl) ?_)
        by_cases h0 : dgv 0 b = 0
        · rw [if_pos h0]
          exact Ev.if_pos (by show ((lm (dgv 0 b)).length : Int) = 0; rw [h0, lm_zero]; rfl) (Ev.now _)
        · rw [if_neg h0]
          have hp := len_eq_zero (n := dgv 0 b)
          have la := pE_len ha
          have lb := pE_len hb
          refine Ev.if_neg (by show ¬ ((lm (dgv 0 b)).length : Int) = 0; rw [lm_length]; omega) ?_
          exact Ev.bind (form_nat (dgv 0 a) (dgv 0 b) h0 (by omega) (by omega)) (Ev.now _)
      · rw [if_neg hb] at pb
        rw [if_pos hb]
        unfold rR
        rw [if_neg hb]
        exact Ev.bind pb (Ev.if_pos hb (Ev.now _))
    · rw [if_neg ha] at pa
      rw [if_pos ha]
      unfold rR
      rw [if_neg ha]
      exact Ev.bind pa (Ev.if_pos ha (Ev.now _))
  | none =>
    dsimp only
    refine Ev.if_neg (by decide) (Ev.bind (cut_ev s hs 46 _ rfl) ?_)
    unfold cutR
    cases h2 : cutL 46 (toL s) with
    | some p =>
      obtain ⟨a, b⟩ := p
      dsimp only
      refine Ev.if_pos rfl ?_
      have pa := nparse_ev (ofL a)
      have pb := nparse_ev (ofL b)
      rw [toL_ofL] at pa pb
      unfold pR at pa pb
      by_cases ha : pE a = 0
      · rw [if_pos ha] at pa
        rw [if_neg (fun h => h ha)]
        refine Ev.bind pa (Ev.if_neg (fun h => h rfl) ?_)
        by_cases hb : pE b = 0
        · rw [if_pos hb] at pb
          refine Ev.bind pb (Ev.if_neg (fun h => h rfl) ?_)
          have hbl := (pE_zero.1 hb).2.2
          have la := pE_len ha
          have lb := pE_len hb
          have lt := len_ten b.length
          have hsz : (ofL b).size = b.length := by rw [size_toL]; rfl
          rw [hsz]
          have hm := mul_ev (lm (dgv 0 a)) (lm (10 ^ b.length)) (lm_ok _).U (lm_ok _).U (by rw [lm_length, lm_length]; omega)
          rw [val_lm, val_lm] at hm
          have lm1 := len_mul (dgv 0 a) (10 ^ b.length)
          have hadd := nadd_ev (lm (dgv 0 a * 10 ^ b.length)) (lm (dgv 0 b)) (lm_ok _).U (lm_ok _).U (by rw [lm_length]; omega) (by rw [lm_length]; omega)
          rw [val_lm, val_lm] at hadd
          have la2 := len_add (dgv 0 a * 10 ^ b.length) (dgv 0 b)
          rw [hb]
          have hf := form_nat (dgv 0 a * 10 ^ b.length + dgv 0 b) (10 ^ b.length) (Nat.pos_iff_ne_zero.1 (Nat.pow_pos (by decide))) (by omega) (by omega)
          exact Ev.bind (ten_ev b.length (by omega)) (Ev.bind hm (Ev.bind hadd (Ev.bind hf (Ev.now _))))
        · rw [if_neg hb] at pb
          unfold rR
          rw [if_neg hb]
          exact Ev.bind pb (Ev.if_pos hb (Ev.now _))
      · rw [if_neg ha] at pa
        rw [if_pos ha]
        unfold rR
        rw [if_neg ha]
        exact Ev.bind pa (Ev.if_pos ha (Ev.now _))
    | none =>
      dsimp only
      refine Ev.if_neg (by decide) ?_
      have pa := nparse_ev s
      unfold pR at pa
      unfold rR
      by_cases ha : pE (toL s) = 0
      · rw [if_pos ha] at pa
        rw [if_pos ha]
        have la := pE_len ha
        have hf := form_nat (dgv 0 (toL s)) 1 (by decide) (by omega) (by rw [len_one]; decide)
        have e : mkRat (dgv 0 (toL s) : Int) 1 = ((dgv 0 (toL s) : Int) : Rat) := Rat.mkRat_self ((dgv 0 (toL s) : Int) : Rat)
        rw [e] at hf
        exact Ev.bind pa (Ev.if_neg (fun h => h rfl) (Ev.bind (ofN_ev 1 (by decide)) (Ev.bind hf (Ev.now _))))
      · rw [if_neg ha] at pa
        rw [if_neg ha]
        exact Ev.bind pa (Ev.if_pos ha (Ev.now _))
end Go.DI.Th
namespace Go.DI.Th
open Go Go.RowKit Go.DI

def sgQ (neg : Bool) (x : Rat) : Rat := if neg = true then -x else x
def unm (w : List UInt8) : Bool × List UInt8 := if isPre 45 w = true then (true, w.drop 1) else (false, w)
def prE (w : List UInt8) : Int := plE (unm w).2
def prV (w : List UInt8) : Rat := sgQ (unm w).1 (plV (unm w).2)
theorem plV_sz {w : List UInt8} (h : plE w = 0) : Sz (plV w) ≤ 20100 := by
  unfold plE at h
  unfold plV
  cases h1 : cutL 47 w with
  | some p =>
    obtain ⟨a, b⟩ := p
    rw [h1] at h
    dsimp only at h ⊢
    by_cases ha : pE a = 0
    · rw [if_neg (fun e => e ha)] at h
      by_cases hb : pE b = 0
      · rw [if_neg (fun e => e hb)] at h
        by_cases h0 : dgv 0 b = 0
        · rw [if_pos h0] at h; cases h
        · have := Sz_mk (dgv 0 a : Int) (dgv 0 b) h0
          rw [Int.natAbs_natCast] at this
          have la := pE_len ha
          have lb := pE_len hb
          omega
      · rw [if_pos hb] at h; exact absurd h hb
    · rw [if_pos ha] at h; exact absurd h ha
  | none =>
    rw [h1] at h
    dsimp only at h ⊢
    cases h2 : cutL 46 w with
    | some p =>
      obtain ⟨a, b⟩ := p
      rw [h2] at h
      dsimp only at h ⊢
      by_cases ha : pE a = 0
      · rw [if_neg (fun e => e ha)] at h
        have := Sz_mk ((dgv 0 a * 10 ^ b.length + dgv 0 b : Nat) : Int) (10 ^ b.length) (Nat.pos_iff_ne_zero.1 (Nat.pow_pos (by decide)))
        rw [Int.natAbs_natCast] at this
        have la := pE_len ha
        have lb := pE_len h
        have hbl := (pE_zero.1 h).2.2
        have lt := len_ten b.length
        have lm1 := len_mul (dgv 0 a) (10 ^ b.length)
        have la2 := len_add (dgv 0 a * 10 ^ b.length) (dgv 0 b)
        omega
      · rw [if_pos ha] at h; exact absurd h ha
    | none =>
      rw [h2] at h
      dsimp only at h ⊢
      rw [Sz_int, Int.natAbs_natCast]
      have la := pE_len h
      omega
theorem unm_drop {s : ByteArray} (h : isPre 45 (toL s) = true) : s.extract 1 s.size = ofL ((toL s).drop 1) ∧ 1 ≤ s.size := by
  cases hw : toL s with
  | nil => rw [hw] at h; cases h
  | cons c t =>
    have e : s.extract ([c] : List UInt8).length s.size = ofL t := ext_drop (a := [c]) (b := t) hw
    refine ⟨e, ?_⟩
    have := size_toL s
    rw [hw, List.length_cons] at this
    omega
theorem rparse_ev (s : ByteArray) (hs : s.size ≤ 1125899906842624) : Ev (fun k => ratio_Parse.f k s) (rR (prE (toL s)) (prV (toL s))) := by
  unfold ratio_Parse.f
  rw [prefix_ev]
  unfold prE prV unm
  by_cases hp : isPre 45 (toL s) = true
  · rw [if_pos hp, hp]
    obtain ⟨e1, e2⟩ := unm_drop hp
    rw [e1]
    have hsz : (ofL ((toL s).drop 1)).size ≤ 1125899906842624 := by
      rw [size_toL, toL_ofL, List.length_drop, ← size_toL]
      omega
    have h1 := plain_ev (ofL ((toL s).drop 1)) hsz
    rw [toL_ofL] at h1
    refine Ev.bind (Ev.now true) (Ev.if_pos rfl (Ev.if_pos (by omega) (Ev.bind h1 ?_)))
    dsimp only
    have hsz := plV_sz (w := (toL s).drop 1)
    generalize plE ((toL s).drop 1) = e at hsz ⊢
    generalize plV ((toL s).drop 1) = x at hsz ⊢
    unfold rR
    by_cases h0 : e = 0
    · rw [if_pos h0, if_pos h0]
      have hn := neg_cn (cn x) (cnB x (hsz h0)) (by decide)
      rw [rv_cn] at hn
      exact Ev.if_neg (fun h => h rfl) (Ev.bind hn (Ev.now _))
    · rw [if_neg h0, if_neg h0]
      exact Ev.if_pos h0 (Ev.now _)
  · rw [if_neg hp]
    have hp' : isPre 45 (toL s) = false := by simpa using hp
    rw [hp']
    refine Ev.bind (Ev.now false) (Ev.if_neg (by decide) (Ev.bind (plain_ev s hs) ?_))
    dsimp only
    generalize plE (toL s) = e
    generalize plV (toL s) = x
    unfold rR
    by_cases h0 : e = 0
    · rw [if_pos h0, if_pos h0]
      exact Ev.if_neg (fun h => h rfl) (Ev.now _)
    · rw [if_neg h0, if_neg h0]
      exact Ev.if_pos h0 (Ev.now _)
end Go.DI.Th
namespace Go.DI.Th
open Go Go.RowKit Go.DI

theorem vb_dgv (l : List UInt8) : vb l = dgv 0 l := rfl
theorem dgv_prN (n : Nat) : dgv 0 (toL (prN n)) = n := by rw [← vb_dgv, vb_prN]
theorem pE_prN (n : Nat) (h : (prN n).size ≤ 10000) : pE (toL (prN n)) = 0 := by
  refine pE_zero.2 ⟨prN_ne n, fun c hc => prN_dig n c hc, ?_⟩
  rw [← size_toL]
  exact h
def qT (q : Nat) : List UInt8 := if q = 1 then [] else 47 :: toL (prN q)
def prX (x : Rat) : ByteArray := prQ x.num x.den
theorem prT_rv (r : Rt) : prT r = prX (rv r) := by
  rw [prT_eq]
  unfold prX rv
  rw [num_mk _ _ (den_pos _), den_mk _ _ (den_pos _)]
theorem prX_toL (x : Rat) : toL (prX x) = (if x.num < 0 then [45] else []) ++ (toL (prN x.num.natAbs) ++ qT x.den) := by
  unfold prX prQ qT prW
  by_cases h1 : x.den = 1
  · rw [if_pos h1, if_pos h1, List.append_nil]
    split
    · rw [toL_append, toL_minus]
    · rw [List.nil_append]
  · rw [if_neg h1, if_neg h1, toL_append, toL_append, toL_slash]
    split
    · rw [toL_append, toL_minus]; simp
    · rw [List.nil_append]; simp
theorem plE_nat (n q : Nat) (hn : (prN n).size ≤ 10000) (hq : (prN q).size ≤ 10000) (h0 : q ≠ 0) : plE (toL (prN n) ++ qT q) = 0 ∧ plV (toL (prN n) ++ qT q) = mkRat (n : Int) q := by
  have n47 : (47 : UInt8) ∉ toL (prN n) := fun h => (prN_dig n _ h).n47 rfl
  have n46 : (46 : UInt8) ∉ toL (prN n) := fun h => by
    have := (prN_dig n _ h).1
    exact absurd this (by decide)
  unfold qT
  by_cases h1 : q = 1
  · subst h1
    rw [if_pos rfl, List.append_nil]
    unfold plE plV
    rw [cutL_not n47, cutL_not n46]
    refine ⟨pE_prN n hn, ?_⟩
    show ((dgv 0 (toL (prN n)) : Int) : Rat) = _
    rw [dgv_prN]
    exact (Rat.mkRat_self ((n : Int) : Rat)).symm
  · rw [if_neg h1]
    unfold plE plV
    rw [cutL_of n47]
    dsimp only
    rw [pE_prN n hn, pE_prN q hq, dgv_prN, dgv_prN, if_neg (fun h => h rfl), if_neg (fun h => h rfl), if_neg h0]
    exact ⟨rfl, rfl⟩
def Rd (x : Rat) : Prop := prE (toL (prX x)) = 0 ∧ prV (toL (prX x)) = x
theorem rd_prX (x : Rat) (h1 : (prN x.num.natAbs).size ≤ 10000) (h2 : (prN x.den).size ≤ 10000) : Rd x := by
  obtain ⟨h1, h2⟩ := plE_nat x.num.natAbs x.den h1 h2 x.den_nz
  have e := prX_toL x
  unfold Rd prE prV unm
  rw [e]
  by_cases hz : x.num < 0
  · rw [if_pos hz]
    have hp : isPre 45 ([45] ++ (toL (prN x.num.natAbs) ++ qT x.den)) = true := rfl
    rw [if_pos hp]
    show plE (toL (prN x.num.natAbs) ++ qT x.den) = 0 ∧ sgQ true (plV (toL (prN x.num.natAbs) ++ qT x.den)) = x
    rw [h1, h2]
    refine ⟨rfl, ?_⟩
    show -(mkRat (x.num.natAbs : Int) x.den) = x
    rw [Rat.neg_mkRat, show -((x.num.natAbs : Nat) : Int) = x.num by omega, Rat.mkRat_self]
  · rw [if_neg hz, List.nil_append]
    have hp : ¬ isPre 45 (toL (prN x.num.natAbs) ++ qT x.den) = true := by
      have hne := prN_ne x.num.natAbs
      have hd := prN_dig x.num.natAbs
      cases hw : toL (prN x.num.natAbs) with
      | nil => exact absurd hw hne
      | cons c t =>
        rw [hw] at hd
        show ¬ (c == 45) = true
        have := (hd c List.mem_cons_self).n45
        simpa using this
    rw [if_neg hp]
    show plE (toL (prN x.num.natAbs) ++ qT x.den) = 0 ∧ sgQ false (plV (toL (prN x.num.natAbs) ++ qT x.den)) = x
    rw [h1, h2]
    refine ⟨rfl, ?_⟩
    show mkRat (x.num.natAbs : Int) x.den = x
    rw [show ((x.num.natAbs : Nat) : Int) = x.num by omega, Rat.mkRat_self]
theorem prX_word (x : Rat) : WdOk (toL (prX x)) := by
  rw [prX_toL]
  have hd : ∀ n : Nat, ∀ c ∈ toL (prN n), inw c = true := fun n c hc => dig_inw (prN_dig n c hc)
  constructor
  · intro e
    have h1 := List.append_eq_nil_iff.1 e
    have h2 := List.append_eq_nil_iff.1 h1.2
    exact prN_ne _ h2.1
  · intro c hc
    rcases List.mem_append.1 hc with h | h
    · have : c = 45 := by
        split at h
        · simpa using h
        · cases h
      rw [this]; decide
    · rcases List.mem_append.1 h with h | h
      · exact hd _ c h
      · unfold qT at h
        split at h
        · cases h
        · rcases List.mem_cons.1 h with h | h
          · rw [h]; decide
          · exact hd _ c h
end Go.DI.Th
namespace Go.DI.Th
open Go Go.RowKit Go.DI
def Le {α : Type} (a b : Option α) : Prop := ∀ r, a = some r → b = some r
theorem Le.refl {α : Type} (a : Option α) : Le a a := fun _ h => h
theorem Le.none {α : Type} (b : Option α) : Le none b := fun _ h => by cases h
theorem Le.eqs {α : Type} {a b c d : Option α} (h : a = c) (h' : b = d) (k : Le c d) : Le a b := by subst h; subst h'; exact k
theorem Le.bind {α β : Type} {a b : Option α} {f g : α → Option β} (h : Le a b) (k : ∀ v, Le (f v) (g v)) : Le (a.bind f) (b.bind g) := by
  intro r hr
  cases ha : a with
  | none => rw [ha] at hr; cases hr
  | some v =>
    rw [ha] at hr
    rw [h v ha]
    exact k v r hr
theorem Le.ite {α : Type} {c : Prop} [Decidable c] {a b a' b' : Option α} (h : Le a a') (k : Le b b') : Le (if c then a else b) (if c then a' else b') := by
  split
  · exact h
  · exact k
theorem Ev.mono {α : Type} {g : Nat → Option α} (h : ∀ k, Le (g k) (g (k + 1))) {K : Nat} {r : α} (hk : g K = some r) : Ev g r := by
  refine ⟨K, fun n hn => ?_⟩
  induction hn with
  | refl => exact hk
  | step _ ih => exact h _ r ih
theorem nat_trim.monoL (k : Nat) : (∀ x0 x1, Le (nat_trim.l0 k x0 x1) (nat_trim.l0 (k + 1) x0 x1)) := by
  induction k with
  | zero => exact fun _ _ => Le.none _
  | succ k ih =>
    intro x0 x1
    refine Le.eqs (nat_trim.l0.eq_2 ..) (nat_trim.l0.eq_2 ..) ?_
    repeat' (first
      | with_reducible exact Le.refl _
      | with_reducible refine Le.ite ?_ ?_
      | with_reducible exact ih _ _
      | with_reducible refine Le.bind (ih _ _) (fun _ => ?_)
      | with_reducible refine Le.bind (Le.refl _) (fun _ => ?_)
      | split)
theorem nat_trim.mono (k : Nat) : ∀ x0, Le (nat_trim.f k x0) (nat_trim.f (k + 1) x0) := by
  intro x0
  unfold nat_trim.f
  repeat' (first
    | with_reducible exact Le.refl _
    | with_reducible refine Le.ite ?_ ?_
    | with_reducible exact (nat_trim.monoL k) _ _
    | with_reducible refine Le.bind (Le.refl _) (fun _ => ?_)
    | split)
theorem nat_Clean.monoL (k : Nat) : (∀ x0 x1 x2 x3, Le (nat_Clean.l0 k x0 x1 x2 x3) (nat_Clean.l0 (k + 1) x0 x1 x2 x3)) := by
  induction k with
  | zero => exact fun _ _ _ _ => Le.none _
  | succ k ih =>
    intro x0 x1 x2 x3
    refine Le.eqs (nat_Clean.l0.eq_2 ..) (nat_Clean.l0.eq_2 ..) ?_
    repeat' (first
      | with_reducible exact Le.refl _
      | with_reducible refine Le.ite ?_ ?_
      | with_reducible exact ih _ _ _ _
      | with_reducible refine Le.bind (ih _ _ _ _) (fun _ => ?_)
      | with_reducible refine Le.bind (nat_trim.mono k _) (fun _ => ?_)
      | with_reducible exact nat_trim.mono k _
      | with_reducible refine Le.bind (Le.refl _) (fun _ => ?_)
      | split)
theorem nat_Clean.mono (k : Nat) : ∀ x0, Le (nat_Clean.f k x0) (nat_Clean.f (k + 1) x0) := by
  intro x0
  unfold nat_Clean.f
  repeat' (first
    | with_reducible exact Le.refl _
    | with_reducible refine Le.ite ?_ ?_
    | with_reducible exact (nat_Clean.monoL k) _ _ _ _
    | with_reducible refine Le.bind (Le.refl _) (fun _ => ?_)
    | split)
theorem whole_Clean.mono (k : Nat) : ∀ x0 x1, Le (whole_Clean.f k x0 x1) (whole_Clean.f (k + 1) x0 x1) := by
  intro x0 x1
  unfold whole_Clean.f
  repeat' (first
    | with_reducible exact Le.refl _
    | with_reducible refine Le.ite ?_ ?_
    | with_reducible refine Le.bind (nat_Clean.mono k _) (fun _ => ?_)
    | with_reducible exact nat_Clean.mono k _
    | with_reducible refine Le.bind (Le.refl _) (fun _ => ?_)
    | split)
theorem whole_Neg.mono (k : Nat) : ∀ x0 x1, Le (whole_Neg.f k x0 x1) (whole_Neg.f (k + 1) x0 x1) := by
  intro x0 x1
  unfold whole_Neg.f
  repeat' (first
    | with_reducible exact Le.refl _
    | with_reducible refine Le.ite ?_ ?_
    | with_reducible refine Le.bind (whole_Clean.mono k _ _) (fun _ => ?_)
    | with_reducible exact whole_Clean.mono k _ _
    | with_reducible refine Le.bind (Le.refl _) (fun _ => ?_)
    | split)
theorem nat_Of.mono (k : Nat) : ∀ x0, Le (nat_Of.f k x0) (nat_Of.f (k + 1) x0) := by
  intro x0
  unfold nat_Of.f
  repeat' (first
    | with_reducible exact Le.refl _
    | with_reducible refine Le.ite ?_ ?_
    | with_reducible refine Le.bind (nat_trim.mono k _) (fun _ => ?_)
    | with_reducible exact nat_trim.mono k _
    | with_reducible refine Le.bind (Le.refl _) (fun _ => ?_)
    | split)
theorem nat_order.monoL (k : Nat) : (∀ x0 x1 x2, Le (nat_order.l0 k x0 x1 x2) (nat_order.l0 (k + 1) x0 x1 x2)) := by
  induction k with
  | zero => exact fun _ _ _ => Le.none _
  | succ k ih =>
    intro x0 x1 x2
    refine Le.eqs (nat_order.l0.eq_2 ..) (nat_order.l0.eq_2 ..) ?_
    repeat' (first
      | with_reducible exact Le.refl _
      | with_reducible refine Le.ite ?_ ?_
      | with_reducible exact ih _ _ _
      | with_reducible refine Le.bind (ih _ _ _) (fun _ => ?_)
      | with_reducible refine Le.bind (Le.refl _) (fun _ => ?_)
      | split)
theorem nat_order.mono (k : Nat) : ∀ x0 x1, Le (nat_order.f k x0 x1) (nat_order.f (k + 1) x0 x1) := by
  intro x0 x1
  unfold nat_order.f
  repeat' (first
    | with_reducible exact Le.refl _
    | with_reducible refine Le.ite ?_ ?_
    | with_reducible exact (nat_order.monoL k) _ _ _
    | with_reducible refine Le.bind (Le.refl _) (fun _ => ?_)
    | split)
theorem nat_To.mono (k : Nat) : ∀ x0, Le (nat_To.f k x0) (nat_To.f (k + 1) x0) := by
  intro x0
  unfold nat_To.f
  repeat' (first
    | with_reducible exact Le.refl _
    | with_reducible refine Le.ite ?_ ?_
    | with_reducible refine Le.bind (nat_Clean.mono k _) (fun _ => ?_)
    | with_reducible exact nat_Clean.mono k _
    | with_reducible refine Le.bind (Le.refl _) (fun _ => ?_)
    | split)
theorem nat_euclid.monoL (k : Nat) : (∀ x0 x1, Le (nat_euclid.l0 k x0 x1) (nat_euclid.l0 (k + 1) x0 x1)) := by
  induction k with
  | zero => exact fun _ _ => Le.none _
  | succ k ih =>
    intro x0 x1
    refine Le.eqs (nat_euclid.l0.eq_2 ..) (nat_euclid.l0.eq_2 ..) ?_
    repeat' (first
      | with_reducible exact Le.refl _
      | with_reducible refine Le.ite ?_ ?_
      | with_reducible exact ih _ _
      | with_reducible refine Le.bind (ih _ _) (fun _ => ?_)
      | with_reducible refine Le.bind (nat_Of.mono k _) (fun _ => ?_)
      | with_reducible exact nat_Of.mono k _
      | with_reducible refine Le.bind (Le.refl _) (fun _ => ?_)
      | split)
theorem nat_euclid.mono (k : Nat) : ∀ x0 x1, Le (nat_euclid.f k x0 x1) (nat_euclid.f (k + 1) x0 x1) := by
  intro x0 x1
  unfold nat_euclid.f
  repeat' (first
    | with_reducible exact Le.refl _
    | with_reducible refine Le.ite ?_ ?_
    | with_reducible exact (nat_euclid.monoL k) _ _
    | with_reducible refine Le.bind (nat_To.mono k _) (fun _ => ?_)
    | with_reducible exact nat_To.mono k _
    | with_reducible refine Le.bind (Le.refl _) (fun _ => ?_)
    | split)
theorem nat_zeros.monoL (k : Nat) : (∀ x0 x1 x2 x3, Le (nat_zeros.l0 k x0 x1 x2 x3) (nat_zeros.l0 (k + 1) x0 x1 x2 x3)) := by
  induction k with
  | zero => exact fun _ _ _ _ => Le.none _
  | succ k ih =>
    intro x0 x1 x2 x3
    refine Le.eqs (nat_zeros.l0.eq_2 ..) (nat_zeros.l0.eq_2 ..) ?_
    repeat' (first
      | with_reducible exact Le.refl _
      | with_reducible refine Le.ite ?_ ?_
      | with_reducible exact ih _ _ _ _
      | with_reducible refine Le.bind (ih _ _ _ _) (fun _ => ?_)
      | with_reducible refine Le.bind (Le.refl _) (fun _ => ?_)
      | split)
theorem nat_zeros.mono (k : Nat) : ∀ x0, Le (nat_zeros.f k x0) (nat_zeros.f (k + 1) x0) := by
  intro x0
  unfold nat_zeros.f
  repeat' (first
    | with_reducible exact Le.refl _
    | with_reducible refine Le.ite ?_ ?_
    | with_reducible exact (nat_zeros.monoL k) _ _ _ _
    | with_reducible refine Le.bind (Le.refl _) (fun _ => ?_)
    | split)
theorem nat_shr.monoL (k : Nat) : (∀ x0 x1 x2 x3 x4 x5, Le (nat_shr.l0 k x0 x1 x2 x3 x4 x5) (nat_shr.l0 (k + 1) x0 x1 x2 x3 x4 x5)) := by
  induction k with
  | zero => exact fun _ _ _ _ _ _ => Le.none _
  | succ k ih =>
    intro x0 x1 x2 x3 x4 x5
    refine Le.eqs (nat_shr.l0.eq_2 ..) (nat_shr.l0.eq_2 ..) ?_
    repeat' (first
      | with_reducible exact Le.refl _
      | with_reducible refine Le.ite ?_ ?_
      | with_reducible exact ih _ _ _ _ _ _
      | with_reducible refine Le.bind (ih _ _ _ _ _ _) (fun _ => ?_)
      | with_reducible refine Le.bind (nat_trim.mono k _) (fun _ => ?_)
      | with_reducible exact nat_trim.mono k _
      | with_reducible refine Le.bind (Le.refl _) (fun _ => ?_)
      | split)
theorem nat_shr.mono (k : Nat) : ∀ x0 x1, Le (nat_shr.f k x0 x1) (nat_shr.f (k + 1) x0 x1) := by
  intro x0 x1
  unfold nat_shr.f
  repeat' (first
    | with_reducible exact Le.refl _
    | with_reducible refine Le.ite ?_ ?_
    | with_reducible exact (nat_shr.monoL k) _ _ _ _ _ _
    | with_reducible refine Le.bind (Le.refl _) (fun _ => ?_)
    | split)
theorem nat_trimM.monoL (k : Nat) : (∀ x0 x1, Le (nat_trimM.l0 k x0 x1) (nat_trimM.l0 (k + 1) x0 x1)) := by
  induction k with
  | zero => exact fun _ _ => Le.none _
  | succ k ih =>
    intro x0 x1
    refine Le.eqs (nat_trimM.l0.eq_2 ..) (nat_trimM.l0.eq_2 ..) ?_
    repeat' (first
      | with_reducible exact Le.refl _
      | with_reducible refine Le.ite ?_ ?_
      | with_reducible exact ih _ _
      | with_reducible refine Le.bind (ih _ _) (fun _ => ?_)
      | with_reducible refine Le.bind (Le.refl _) (fun _ => ?_)
      | split)
theorem nat_trimM.mono (k : Nat) : ∀ x0, Le (nat_trimM.f k x0) (nat_trimM.f (k + 1) x0) := by
  intro x0
  unfold nat_trimM.f
  repeat' (first
    | with_reducible exact Le.refl _
    | with_reducible refine Le.ite ?_ ?_
    | with_reducible exact (nat_trimM.monoL k) _ _
    | with_reducible refine Le.bind (Le.refl _) (fun _ => ?_)
    | split)
theorem nat_shl.monoL (k : Nat) : (∀ x0 x1 x2 x3 x4 x5, Le (nat_shl.l0 k x0 x1 x2 x3 x4 x5) (nat_shl.l0 (k + 1) x0 x1 x2 x3 x4 x5)) := by
  induction k with
  | zero => exact fun _ _ _ _ _ _ => Le.none _
  | succ k ih =>
    intro x0 x1 x2 x3 x4 x5
    refine Le.eqs (nat_shl.l0.eq_2 ..) (nat_shl.l0.eq_2 ..) ?_
    repeat' (first
      | with_reducible exact Le.refl _
      | with_reducible refine Le.ite ?_ ?_
      | with_reducible exact ih _ _ _ _ _ _
      | with_reducible refine Le.bind (ih _ _ _ _ _ _) (fun _ => ?_)
      | with_reducible refine Le.bind (nat_trimM.mono k _) (fun _ => ?_)
      | with_reducible exact nat_trimM.mono k _
      | with_reducible refine Le.bind (Le.refl _) (fun _ => ?_)
      | split)
theorem nat_shl.mono (k : Nat) : ∀ x0 x1, Le (nat_shl.f k x0 x1) (nat_shl.f (k + 1) x0 x1) := by
  intro x0 x1
  unfold nat_shl.f
  repeat' (first
    | with_reducible exact Le.refl _
    | with_reducible refine Le.ite ?_ ?_
    | with_reducible exact (nat_shl.monoL k) _ _ _ _ _ _
    | with_reducible refine Le.bind (Le.refl _) (fun _ => ?_)
    | split)
theorem nat_small.monoL (k : Nat) : (∀ x0 x1 x2 x3 x4, Le (nat_small.l0 k x0 x1 x2 x3 x4) (nat_small.l0 (k + 1) x0 x1 x2 x3 x4)) := by
  induction k with
  | zero => exact fun _ _ _ _ _ => Le.none _
  | succ k ih =>
    intro x0 x1 x2 x3 x4
    refine Le.eqs (nat_small.l0.eq_2 ..) (nat_small.l0.eq_2 ..) ?_
    repeat' (first
      | with_reducible exact Le.refl _
      | with_reducible refine Le.ite ?_ ?_
      | with_reducible exact ih _ _ _ _ _
      | with_reducible refine Le.bind (ih _ _ _ _ _) (fun _ => ?_)
      | with_reducible refine Le.bind (nat_trim.mono k _) (fun _ => ?_)
      | with_reducible exact nat_trim.mono k _
      | with_reducible refine Le.bind (Le.refl _) (fun _ => ?_)
      | split)
theorem nat_small.mono (k : Nat) : ∀ x0 x1, Le (nat_small.f k x0 x1) (nat_small.f (k + 1) x0 x1) := by
  intro x0 x1
  unfold nat_small.f
  repeat' (first
    | with_reducible exact Le.refl _
    | with_reducible refine Le.ite ?_ ?_
    | with_reducible exact (nat_small.monoL k) _ _ _ _ _
    | with_reducible refine Le.bind (Le.refl _) (fun _ => ?_)
    | split)
theorem nat_take.monoL (k : Nat) : (∀ x0 x1 x2 x3 x4 x5 x6, Le (nat_take.l0 k x0 x1 x2 x3 x4 x5 x6) (nat_take.l0 (k + 1) x0 x1 x2 x3 x4 x5 x6)) := by
  induction k with
  | zero => exact fun _ _ _ _ _ _ _ => Le.none _
  | succ k ih =>
    intro x0 x1 x2 x3 x4 x5 x6
    refine Le.eqs (nat_take.l0.eq_2 ..) (nat_take.l0.eq_2 ..) ?_
    repeat' (first
      | with_reducible exact Le.refl _
      | with_reducible refine Le.ite ?_ ?_
      | with_reducible exact ih _ _ _ _ _ _ _
      | with_reducible refine Le.bind (ih _ _ _ _ _ _ _) (fun _ => ?_)
      | with_reducible refine Le.bind (Le.refl _) (fun _ => ?_)
      | split)
theorem nat_take.mono (k : Nat) : ∀ x0 x1 x2, Le (nat_take.f k x0 x1 x2) (nat_take.f (k + 1) x0 x1 x2) := by
  intro x0 x1 x2
  unfold nat_take.f
  repeat' (first
    | with_reducible exact Le.refl _
    | with_reducible refine Le.ite ?_ ?_
    | with_reducible exact (nat_take.monoL k) _ _ _ _ _ _ _
    | with_reducible refine Le.bind (Le.refl _) (fun _ => ?_)
    | split)
theorem nat_give.monoL (k : Nat) : (∀ x0 x1 x2 x3 x4, Le (nat_give.l0 k x0 x1 x2 x3 x4) (nat_give.l0 (k + 1) x0 x1 x2 x3 x4)) := by
  induction k with
  | zero => exact fun _ _ _ _ _ => Le.none _
  | succ k ih =>
    intro x0 x1 x2 x3 x4
    refine Le.eqs (nat_give.l0.eq_2 ..) (nat_give.l0.eq_2 ..) ?_
    repeat' (first
      | with_reducible exact Le.refl _
      | with_reducible refine Le.ite ?_ ?_
      | with_reducible exact ih _ _ _ _ _
      | with_reducible refine Le.bind (ih _ _ _ _ _) (fun _ => ?_)
      | with_reducible refine Le.bind (Le.refl _) (fun _ => ?_)
      | split)
theorem nat_give.mono (k : Nat) : ∀ x0 x1, Le (nat_give.f k x0 x1) (nat_give.f (k + 1) x0 x1) := by
  intro x0 x1
  unfold nat_give.f
  repeat' (first
    | with_reducible exact Le.refl _
    | with_reducible refine Le.ite ?_ ?_
    | with_reducible exact (nat_give.monoL k) _ _ _ _ _
    | with_reducible refine Le.bind (Le.refl _) (fun _ => ?_)
    | split)
theorem nat_digit.monoL (k : Nat) : (∀ x0 x1 x2 x3 x4, Le (nat_digit.l0 k x0 x1 x2 x3 x4) (nat_digit.l0 (k + 1) x0 x1 x2 x3 x4)) := by
  induction k with
  | zero => exact fun _ _ _ _ _ => Le.none _
  | succ k ih =>
    intro x0 x1 x2 x3 x4
    refine Le.eqs (nat_digit.l0.eq_2 ..) (nat_digit.l0.eq_2 ..) ?_
    repeat' (first
      | with_reducible exact Le.refl _
      | with_reducible refine Le.ite ?_ ?_
      | with_reducible exact ih _ _ _ _ _
      | with_reducible refine Le.bind (ih _ _ _ _ _) (fun _ => ?_)
      | with_reducible refine Le.bind (nat_take.mono k _ _ _) (fun _ => ?_)
      | with_reducible refine Le.bind (nat_give.mono k _ _) (fun _ => ?_)
      | with_reducible exact nat_take.mono k _ _ _
      | with_reducible exact nat_give.mono k _ _
      | with_reducible refine Le.bind (Le.refl _) (fun _ => ?_)
      | split)
theorem nat_digit.mono (k : Nat) : ∀ x0 x1, Le (nat_digit.f k x0 x1) (nat_digit.f (k + 1) x0 x1) := by
  intro x0 x1
  unfold nat_digit.f
  repeat' (first
    | with_reducible exact Le.refl _
    | with_reducible refine Le.ite ?_ ?_
    | with_reducible exact (nat_digit.monoL k) _ _ _ _ _
    | with_reducible refine Le.bind (Le.refl _) (fun _ => ?_)
    | split)
theorem nat_long.monoL (k : Nat) : (∀ x0 x1 x2 x3 x4 x5, Le (nat_long.l0 k x0 x1 x2 x3 x4 x5) (nat_long.l0 (k + 1) x0 x1 x2 x3 x4 x5)) := by
  induction k with
  | zero => exact fun _ _ _ _ _ _ => Le.none _
  | succ k ih =>
    intro x0 x1 x2 x3 x4 x5
    refine Le.eqs (nat_long.l0.eq_2 ..) (nat_long.l0.eq_2 ..) ?_
    repeat' (first
      | with_reducible exact Le.refl _
      | with_reducible refine Le.ite ?_ ?_
      | with_reducible exact ih _ _ _ _ _ _
      | with_reducible refine Le.bind (ih _ _ _ _ _ _) (fun _ => ?_)
      | with_reducible refine Le.bind (nat_digit.mono k _ _) (fun _ => ?_)
      | with_reducible refine Le.bind (nat_trim.mono k _) (fun _ => ?_)
      | with_reducible refine Le.bind (nat_shr.mono k _ _) (fun _ => ?_)
      | with_reducible exact nat_digit.mono k _ _
      | with_reducible exact nat_trim.mono k _
      | with_reducible exact nat_shr.mono k _ _
      | with_reducible refine Le.bind (Le.refl _) (fun _ => ?_)
      | split)
theorem nat_long.mono (k : Nat) : ∀ x0 x1, Le (nat_long.f k x0 x1) (nat_long.f (k + 1) x0 x1) := by
  intro x0 x1
  unfold nat_long.f
  repeat' (first
    | with_reducible exact Le.refl _
    | with_reducible refine Le.ite ?_ ?_
    | with_reducible exact (nat_long.monoL k) _ _ _ _ _ _
    | with_reducible refine Le.bind (nat_shl.mono k _ _) (fun _ => ?_)
    | with_reducible exact nat_shl.mono k _ _
    | with_reducible refine Le.bind (Le.refl _) (fun _ => ?_)
    | split)
theorem nat_DivMod.mono (k : Nat) : ∀ x0 x1, Le (nat_DivMod.f k x0 x1) (nat_DivMod.f (k + 1) x0 x1) := by
  intro x0 x1
  unfold nat_DivMod.f
  repeat' (first
    | with_reducible exact Le.refl _
    | with_reducible refine Le.ite ?_ ?_
    | with_reducible refine Le.bind (nat_Clean.mono k _) (fun _ => ?_)
    | with_reducible refine Le.bind (nat_order.mono k _ _) (fun _ => ?_)
    | with_reducible refine Le.bind (nat_small.mono k _ _) (fun _ => ?_)
    | with_reducible refine Le.bind (nat_Of.mono k _) (fun _ => ?_)
    | with_reducible refine Le.bind (nat_long.mono k _ _) (fun _ => ?_)
    | with_reducible exact nat_Clean.mono k _
    | with_reducible exact nat_order.mono k _ _
    | with_reducible exact nat_small.mono k _ _
    | with_reducible exact nat_Of.mono k _
    | with_reducible exact nat_long.mono k _ _
    | with_reducible refine Le.bind (Le.refl _) (fun _ => ?_)
    | split)
theorem nat_rest.mono (k : Nat) : ∀ x0 x1, Le (nat_rest.f k x0 x1) (nat_rest.f (k + 1) x0 x1) := by
  intro x0 x1
  unfold nat_rest.f
  repeat' (first
    | with_reducible exact Le.refl _
    | with_reducible refine Le.ite ?_ ?_
    | with_reducible refine Le.bind (nat_DivMod.mono k _ _) (fun _ => ?_)
    | with_reducible exact nat_DivMod.mono k _ _
    | with_reducible refine Le.bind (Le.refl _) (fun _ => ?_)
    | split)
theorem nat_minus.monoL (k : Nat) : (∀ x0 x1 x2 x3 x4 x5, Le (nat_minus.l0 k x0 x1 x2 x3 x4 x5) (nat_minus.l0 (k + 1) x0 x1 x2 x3 x4 x5)) := by
  induction k with
  | zero => exact fun _ _ _ _ _ _ => Le.none _
  | succ k ih =>
    intro x0 x1 x2 x3 x4 x5
    refine Le.eqs (nat_minus.l0.eq_2 ..) (nat_minus.l0.eq_2 ..) ?_
    repeat' (first
      | with_reducible exact Le.refl _
      | with_reducible refine Le.ite ?_ ?_
      | with_reducible exact ih _ _ _ _ _ _
      | with_reducible refine Le.bind (ih _ _ _ _ _ _) (fun _ => ?_)
      | with_reducible refine Le.bind (nat_trim.mono k _) (fun _ => ?_)
      | with_reducible exact nat_trim.mono k _
      | with_reducible refine Le.bind (Le.refl _) (fun _ => ?_)
      | split)
theorem nat_minus.mono (k : Nat) : ∀ x0 x1, Le (nat_minus.f k x0 x1) (nat_minus.f (k + 1) x0 x1) := by
  intro x0 x1
  unfold nat_minus.f
  repeat' (first
    | with_reducible exact Le.refl _
    | with_reducible refine Le.ite ?_ ?_
    | with_reducible exact (nat_minus.monoL k) _ _ _ _ _ _
    | with_reducible refine Le.bind (Le.refl _) (fun _ => ?_)
    | split)
theorem nat_Gcd.monoL (k : Nat) : (∀ x0 x1 x2 x3, Le (nat_Gcd.l0 k x0 x1 x2 x3) (nat_Gcd.l0 (k + 1) x0 x1 x2 x3)) := by
  induction k with
  | zero => exact fun _ _ _ _ => Le.none _
  | succ k ih =>
    intro x0 x1 x2 x3
    refine Le.eqs (nat_Gcd.l0.eq_2 ..) (nat_Gcd.l0.eq_2 ..) ?_
    repeat' (first
      | with_reducible exact Le.refl _
      | with_reducible refine Le.ite ?_ ?_
      | with_reducible exact ih _ _ _ _
      | with_reducible refine Le.bind (ih _ _ _ _) (fun _ => ?_)
      | with_reducible refine Le.bind (nat_order.mono k _ _) (fun _ => ?_)
      | with_reducible refine Le.bind (nat_shl.mono k _ _) (fun _ => ?_)
      | with_reducible refine Le.bind (nat_rest.mono k _ _) (fun _ => ?_)
      | with_reducible refine Le.bind (nat_zeros.mono k _) (fun _ => ?_)
      | with_reducible refine Le.bind (nat_shr.mono k _ _) (fun _ => ?_)
      | with_reducible refine Le.bind (nat_minus.mono k _ _) (fun _ => ?_)
      | with_reducible exact nat_order.mono k _ _
      | with_reducible exact nat_shl.mono k _ _
      | with_reducible exact nat_rest.mono k _ _
      | with_reducible exact nat_zeros.mono k _
      | with_reducible exact nat_shr.mono k _ _
      | with_reducible exact nat_minus.mono k _ _
      | with_reducible refine Le.bind (Le.refl _) (fun _ => ?_)
      | split)
theorem nat_Gcd.mono (k : Nat) : ∀ x0 x1, Le (nat_Gcd.f k x0 x1) (nat_Gcd.f (k + 1) x0 x1) := by
  intro x0 x1
  unfold nat_Gcd.f
  repeat' (first
    | with_reducible exact Le.refl _
    | with_reducible refine Le.ite ?_ ?_
    | with_reducible exact (nat_Gcd.monoL k) _ _ _ _
    | with_reducible refine Le.bind (nat_Clean.mono k _) (fun _ => ?_)
    | with_reducible refine Le.bind (nat_euclid.mono k _ _) (fun _ => ?_)
    | with_reducible refine Le.bind (nat_zeros.mono k _) (fun _ => ?_)
    | with_reducible refine Le.bind (nat_shr.mono k _ _) (fun _ => ?_)
    | with_reducible exact nat_Clean.mono k _
    | with_reducible exact nat_euclid.mono k _ _
    | with_reducible exact nat_zeros.mono k _
    | with_reducible exact nat_shr.mono k _ _
    | with_reducible refine Le.bind (Le.refl _) (fun _ => ?_)
    | split)
theorem ratio_form.mono (k : Nat) : ∀ x0 x1 x2, Le (ratio_form.f k x0 x1 x2) (ratio_form.f (k + 1) x0 x1 x2) := by
  intro x0 x1 x2
  unfold ratio_form.f
  repeat' (first
    | with_reducible exact Le.refl _
    | with_reducible refine Le.ite ?_ ?_
    | with_reducible refine Le.bind (nat_Of.mono k _) (fun _ => ?_)
    | with_reducible refine Le.bind (nat_Gcd.mono k _ _) (fun _ => ?_)
    | with_reducible refine Le.bind (nat_DivMod.mono k _ _) (fun _ => ?_)
    | with_reducible exact nat_Of.mono k _
    | with_reducible exact nat_Gcd.mono k _ _
    | with_reducible exact nat_DivMod.mono k _ _
    | with_reducible refine Le.bind (Le.refl _) (fun _ => ?_)
    | split)
theorem ratio_Zero.mono (k : Nat) : Le (ratio_Zero.f k ) (ratio_Zero.f (k + 1) ) := by
  unfold ratio_Zero.f
  repeat' (first
    | with_reducible exact Le.refl _
    | with_reducible refine Le.ite ?_ ?_
    | with_reducible refine Le.bind (nat_Of.mono k _) (fun _ => ?_)
    | with_reducible exact nat_Of.mono k _
    | with_reducible refine Le.bind (Le.refl _) (fun _ => ?_)
    | split)
theorem ratio_Clean.mono (k : Nat) : ∀ x0 x1 x2, Le (ratio_Clean.f k x0 x1 x2) (ratio_Clean.f (k + 1) x0 x1 x2) := by
  intro x0 x1 x2
  unfold ratio_Clean.f
  repeat' (first
    | with_reducible exact Le.refl _
    | with_reducible refine Le.ite ?_ ?_
    | with_reducible refine Le.bind (nat_Clean.mono k _) (fun _ => ?_)
    | with_reducible refine Le.bind (ratio_Zero.mono k ) (fun _ => ?_)
    | with_reducible refine Le.bind (whole_Clean.mono k _ _) (fun _ => ?_)
    | with_reducible refine Le.bind (ratio_form.mono k _ _ _) (fun _ => ?_)
    | with_reducible exact nat_Clean.mono k _
    | with_reducible exact ratio_Zero.mono k 
    | with_reducible exact whole_Clean.mono k _ _
    | with_reducible exact ratio_form.mono k _ _ _
    | with_reducible refine Le.bind (Le.refl _) (fun _ => ?_)
    | split)
theorem nat_Add.monoL (k : Nat) : (∀ x0 x1 x2 x3 x4 x5, Le (nat_Add.l0 k x0 x1 x2 x3 x4 x5) (nat_Add.l0 (k + 1) x0 x1 x2 x3 x4 x5)) := by
  induction k with
  | zero => exact fun _ _ _ _ _ _ => Le.none _
  | succ k ih =>
    intro x0 x1 x2 x3 x4 x5
    refine Le.eqs (nat_Add.l0.eq_2 ..) (nat_Add.l0.eq_2 ..) ?_
    repeat' (first
      | with_reducible exact Le.refl _
      | with_reducible refine Le.ite ?_ ?_
      | with_reducible exact ih _ _ _ _ _ _
      | with_reducible refine Le.bind (ih _ _ _ _ _ _) (fun _ => ?_)
      | with_reducible refine Le.bind (nat_trim.mono k _) (fun _ => ?_)
      | with_reducible exact nat_trim.mono k _
      | with_reducible refine Le.bind (Le.refl _) (fun _ => ?_)
      | split)
theorem nat_Add.mono (k : Nat) : ∀ x0 x1, Le (nat_Add.f k x0 x1) (nat_Add.f (k + 1) x0 x1) := by
  intro x0 x1
  unfold nat_Add.f
  repeat' (first
    | with_reducible exact Le.refl _
    | with_reducible refine Le.ite ?_ ?_
    | with_reducible exact (nat_Add.monoL k) _ _ _ _ _ _
    | with_reducible refine Le.bind (nat_Clean.mono k _) (fun _ => ?_)
    | with_reducible exact nat_Clean.mono k _
    | with_reducible refine Le.bind (Le.refl _) (fun _ => ?_)
    | split)
theorem ratio_Neg.mono (k : Nat) : ∀ x0 x1 x2, Le (ratio_Neg.f k x0 x1 x2) (ratio_Neg.f (k + 1) x0 x1 x2) := by
  intro x0 x1 x2
  unfold ratio_Neg.f
  repeat' (first
    | with_reducible exact Le.refl _
    | with_reducible refine Le.ite ?_ ?_
    | with_reducible refine Le.bind (ratio_Clean.mono k _ _ _) (fun _ => ?_)
    | with_reducible refine Le.bind (whole_Neg.mono k _ _) (fun _ => ?_)
    | with_reducible exact ratio_Clean.mono k _ _ _
    | with_reducible exact whole_Neg.mono k _ _
    | with_reducible refine Le.bind (Le.refl _) (fun _ => ?_)
    | split)
theorem nat_Mul.monoL (k : Nat) : (∀ x0 x1 x2 x3 x4, Le (nat_Mul.l0 k x0 x1 x2 x3 x4) (nat_Mul.l0 (k + 1) x0 x1 x2 x3 x4)) ∧ (∀ x0 x1 x2 x3 x4 x5 x6 x7 x8 x9 x10, Le (nat_Mul.l1 k x0 x1 x2 x3 x4 x5 x6 x7 x8 x9 x10) (nat_Mul.l1 (k + 1) x0 x1 x2 x3 x4 x5 x6 x7 x8 x9 x10)) := by
  induction k with
  | zero => exact ⟨fun _ _ _ _ _ => Le.none _, fun _ _ _ _ _ _ _ _ _ _ _ => Le.none _⟩
  | succ k ih =>
    refine ⟨?_, ?_⟩
    · intro x0 x1 x2 x3 x4
      refine Le.eqs (nat_Mul.l0.eq_2 ..) (nat_Mul.l0.eq_2 ..) ?_
      repeat' (first
        | with_reducible exact Le.refl _
        | with_reducible refine Le.ite ?_ ?_
        | with_reducible exact ih.2 _ _ _ _ _ _ _ _ _ _ _
        | with_reducible refine Le.bind (ih.2 _ _ _ _ _ _ _ _ _ _ _) (fun _ => ?_)
        | with_reducible refine Le.bind (nat_trim.mono k _) (fun _ => ?_)
        | with_reducible exact nat_trim.mono k _
        | with_reducible refine Le.bind (Le.refl _) (fun _ => ?_)
        | split)
    · intro x0 x1 x2 x3 x4 x5 x6 x7 x8 x9 x10
      refine Le.eqs (nat_Mul.l1.eq_2 ..) (nat_Mul.l1.eq_2 ..) ?_
      repeat' (first
        | with_reducible exact Le.refl _
        | with_reducible refine Le.ite ?_ ?_
        | with_reducible exact ih.1 _ _ _ _ _
        | with_reducible refine Le.bind (ih.1 _ _ _ _ _) (fun _ => ?_)
        | with_reducible exact ih.2 _ _ _ _ _ _ _ _ _ _ _
        | with_reducible refine Le.bind (ih.2 _ _ _ _ _ _ _ _ _ _ _) (fun _ => ?_)
        | with_reducible refine Le.bind (Le.refl _) (fun _ => ?_)
        | split)
theorem nat_Mul.mono (k : Nat) : ∀ x0 x1, Le (nat_Mul.f k x0 x1) (nat_Mul.f (k + 1) x0 x1) := by
  intro x0 x1
  unfold nat_Mul.f
  repeat' (first
    | with_reducible exact Le.refl _
    | with_reducible refine Le.ite ?_ ?_
    | with_reducible exact (nat_Mul.monoL k).1 _ _ _ _ _
    | with_reducible refine Le.bind (nat_Clean.mono k _) (fun _ => ?_)
    | with_reducible exact nat_Clean.mono k _
    | with_reducible refine Le.bind (Le.refl _) (fun _ => ?_)
    | split)
theorem ratio_ten.monoL (k : Nat) : (∀ x0 x1 x2, Le (ratio_ten.l0 k x0 x1 x2) (ratio_ten.l0 (k + 1) x0 x1 x2)) := by
  induction k with
  | zero => exact fun _ _ _ => Le.none _
  | succ k ih =>
    intro x0 x1 x2
    refine Le.eqs (ratio_ten.l0.eq_2 ..) (ratio_ten.l0.eq_2 ..) ?_
    repeat' (first
      | with_reducible exact Le.refl _
      | with_reducible refine Le.ite ?_ ?_
      | with_reducible exact ih _ _ _
      | with_reducible refine Le.bind (ih _ _ _) (fun _ => ?_)
      | with_reducible refine Le.bind (nat_Of.mono k _) (fun _ => ?_)
      | with_reducible refine Le.bind (nat_Mul.mono k _ _) (fun _ => ?_)
      | with_reducible exact nat_Of.mono k _
      | with_reducible exact nat_Mul.mono k _ _
      | with_reducible refine Le.bind (Le.refl _) (fun _ => ?_)
      | split)
theorem ratio_ten.mono (k : Nat) : ∀ x0, Le (ratio_ten.f k x0) (ratio_ten.f (k + 1) x0) := by
  intro x0
  unfold ratio_ten.f
  repeat' (first
    | with_reducible exact Le.refl _
    | with_reducible refine Le.ite ?_ ?_
    | with_reducible exact (ratio_ten.monoL k) _ _ _
    | with_reducible refine Le.bind (nat_Of.mono k _) (fun _ => ?_)
    | with_reducible exact nat_Of.mono k _
    | with_reducible refine Le.bind (Le.refl _) (fun _ => ?_)
    | split)
theorem stringslite_Index.mono (k : Nat) : ∀ x0 x1, Le (stringslite_Index.f k x0 x1) (stringslite_Index.f (k + 1) x0 x1) := by
  intro x0 x1
  unfold stringslite_Index.f
  repeat' (first
    | with_reducible exact Le.refl _
    | with_reducible refine Le.ite ?_ ?_
    | with_reducible refine Le.bind (Le.refl _) (fun _ => ?_)
    | split)
theorem stringslite_Cut.mono (k : Nat) : ∀ x0 x1, Le (stringslite_Cut.f k x0 x1) (stringslite_Cut.f (k + 1) x0 x1) := by
  intro x0 x1
  unfold stringslite_Cut.f
  repeat' (first
    | with_reducible exact Le.refl _
    | with_reducible refine Le.ite ?_ ?_
    | with_reducible refine Le.bind (stringslite_Index.mono k _ _) (fun _ => ?_)
    | with_reducible exact stringslite_Index.mono k _ _
    | with_reducible refine Le.bind (Le.refl _) (fun _ => ?_)
    | split)
theorem strings_Cut.mono (k : Nat) : ∀ x0 x1, Le (strings_Cut.f k x0 x1) (strings_Cut.f (k + 1) x0 x1) := by
  intro x0 x1
  unfold strings_Cut.f
  repeat' (first
    | with_reducible exact Le.refl _
    | with_reducible refine Le.ite ?_ ?_
    | with_reducible refine Le.bind (stringslite_Cut.mono k _ _) (fun _ => ?_)
    | with_reducible exact stringslite_Cut.mono k _ _
    | with_reducible refine Le.bind (Le.refl _) (fun _ => ?_)
    | split)
theorem nat_plus.monoL (k : Nat) : (∀ x0 x1 x2 x3 x4, Le (nat_plus.l0 k x0 x1 x2 x3 x4) (nat_plus.l0 (k + 1) x0 x1 x2 x3 x4)) := by
  induction k with
  | zero => exact fun _ _ _ _ _ => Le.none _
  | succ k ih =>
    intro x0 x1 x2 x3 x4
    refine Le.eqs (nat_plus.l0.eq_2 ..) (nat_plus.l0.eq_2 ..) ?_
    repeat' (first
      | with_reducible exact Le.refl _
      | with_reducible refine Le.ite ?_ ?_
      | with_reducible exact ih _ _ _ _ _
      | with_reducible refine Le.bind (ih _ _ _ _ _) (fun _ => ?_)
      | with_reducible refine Le.bind (nat_trim.mono k _) (fun _ => ?_)
      | with_reducible exact nat_trim.mono k _
      | with_reducible refine Le.bind (Le.refl _) (fun _ => ?_)
      | split)
theorem nat_plus.mono (k : Nat) : ∀ x0 x1, Le (nat_plus.f k x0 x1) (nat_plus.f (k + 1) x0 x1) := by
  intro x0 x1
  unfold nat_plus.f
  repeat' (first
    | with_reducible exact Le.refl _
    | with_reducible refine Le.ite ?_ ?_
    | with_reducible exact (nat_plus.monoL k) _ _ _ _ _
    | with_reducible refine Le.bind (Le.refl _) (fun _ => ?_)
    | split)
theorem nat_Parse.monoL (k : Nat) : (∀ x0 x1 x2, Le (nat_Parse.l0 k x0 x1 x2) (nat_Parse.l0 (k + 1) x0 x1 x2)) ∧ (∀ x0 x1, Le (nat_Parse.l1 k x0 x1) (nat_Parse.l1 (k + 1) x0 x1)) ∧ (∀ x0 x1 x2 x3 x4 x5 x6, Le (nat_Parse.l2 k x0 x1 x2 x3 x4 x5 x6) (nat_Parse.l2 (k + 1) x0 x1 x2 x3 x4 x5 x6)) := by
  induction k with
  | zero => exact ⟨fun _ _ _ => Le.none _, fun _ _ => Le.none _, fun _ _ _ _ _ _ _ => Le.none _⟩
  | succ k ih =>
    refine ⟨?_, ?_, ?_⟩
    · intro x0 x1 x2
      refine Le.eqs (nat_Parse.l0.eq_2 ..) (nat_Parse.l0.eq_2 ..) ?_
      repeat' (first
        | with_reducible exact Le.refl _
        | with_reducible refine Le.ite ?_ ?_
        | with_reducible exact ih.1 _ _ _
        | with_reducible refine Le.bind (ih.1 _ _ _) (fun _ => ?_)
        | with_reducible exact ih.2.1 _ _
        | with_reducible refine Le.bind (ih.2.1 _ _) (fun _ => ?_)
        | with_reducible refine Le.bind (Le.refl _) (fun _ => ?_)
        | split)
    · intro x0 x1
      refine Le.eqs (nat_Parse.l1.eq_2 ..) (nat_Parse.l1.eq_2 ..) ?_
      repeat' (first
        | with_reducible exact Le.refl _
        | with_reducible refine Le.ite ?_ ?_
        | with_reducible exact ih.2.2 _ _ _ _ _ _ _
        | with_reducible refine Le.bind (ih.2.2 _ _ _ _ _ _ _) (fun _ => ?_)
        | with_reducible refine Le.bind (Le.refl _) (fun _ => ?_)
        | split)
    · intro x0 x1 x2 x3 x4 x5 x6
      refine Le.eqs (nat_Parse.l2.eq_2 ..) (nat_Parse.l2.eq_2 ..) ?_
      repeat' (first
        | with_reducible exact Le.refl _
        | with_reducible refine Le.ite ?_ ?_
        | with_reducible exact ih.2.1 _ _
        | with_reducible refine Le.bind (ih.2.1 _ _) (fun _ => ?_)
        | with_reducible exact ih.2.2 _ _ _ _ _ _ _
        | with_reducible refine Le.bind (ih.2.2 _ _ _ _ _ _ _) (fun _ => ?_)
        | with_reducible refine Le.bind (nat_plus.mono k _ _) (fun _ => ?_)
        | with_reducible exact nat_plus.mono k _ _
        | with_reducible refine Le.bind (Le.refl _) (fun _ => ?_)
        | split)
theorem nat_Parse.mono (k : Nat) : ∀ x0, Le (nat_Parse.f k x0) (nat_Parse.f (k + 1) x0) := by
  intro x0
  unfold nat_Parse.f
  repeat' (first
    | with_reducible exact Le.refl _
    | with_reducible refine Le.ite ?_ ?_
    | with_reducible exact (nat_Parse.monoL k).1 _ _ _
    | with_reducible refine Le.bind (Le.refl _) (fun _ => ?_)
    | split)
theorem ratio_plain.mono (k : Nat) : ∀ x0, Le (ratio_plain.f k x0) (ratio_plain.f (k + 1) x0) := by
  intro x0
  unfold ratio_plain.f
  repeat' (first
    | with_reducible exact Le.refl _
    | with_reducible refine Le.ite ?_ ?_
    | with_reducible refine Le.bind (strings_Cut.mono k _ _) (fun _ => ?_)
    | with_reducible refine Le.bind (nat_Parse.mono k _) (fun _ => ?_)
    | with_reducible refine Le.bind (ratio_form.mono k _ _ _) (fun _ => ?_)
    | with_reducible refine Le.bind (ratio_ten.mono k _) (fun _ => ?_)
    | with_reducible refine Le.bind (nat_Mul.mono k _ _) (fun _ => ?_)
    | with_reducible refine Le.bind (nat_Add.mono k _ _) (fun _ => ?_)
    | with_reducible refine Le.bind (nat_Of.mono k _) (fun _ => ?_)
    | with_reducible exact strings_Cut.mono k _ _
    | with_reducible exact nat_Parse.mono k _
    | with_reducible exact ratio_form.mono k _ _ _
    | with_reducible exact ratio_ten.mono k _
    | with_reducible exact nat_Mul.mono k _ _
    | with_reducible exact nat_Add.mono k _ _
    | with_reducible exact nat_Of.mono k _
    | with_reducible refine Le.bind (Le.refl _) (fun _ => ?_)
    | split)
theorem ratio_Parse.mono (k : Nat) : ∀ x0, Le (ratio_Parse.f k x0) (ratio_Parse.f (k + 1) x0) := by
  intro x0
  unfold ratio_Parse.f
  repeat' (first
    | with_reducible exact Le.refl _
    | with_reducible refine Le.ite ?_ ?_
    | with_reducible refine Le.bind (ratio_plain.mono k _) (fun _ => ?_)
    | with_reducible refine Le.bind (ratio_Neg.mono k _ _ _) (fun _ => ?_)
    | with_reducible exact ratio_plain.mono k _
    | with_reducible exact ratio_Neg.mono k _ _ _
    | with_reducible refine Le.bind (Le.refl _) (fun _ => ?_)
    | split)
theorem lex_Words.monoL (k : Nat) : (∀ x0 x1 x2, Le (lex_Words.l0 k x0 x1 x2) (lex_Words.l0 (k + 1) x0 x1 x2)) ∧ (∀ x0 x1 x2 x3, Le (lex_Words.l1 k x0 x1 x2 x3) (lex_Words.l1 (k + 1) x0 x1 x2 x3)) := by
  induction k with
  | zero => exact ⟨fun _ _ _ => Le.none _, fun _ _ _ _ => Le.none _⟩
  | succ k ih =>
    refine ⟨?_, ?_⟩
    · intro x0 x1 x2
      refine Le.eqs (lex_Words.l0.eq_2 ..) (lex_Words.l0.eq_2 ..) ?_
      repeat' (first
        | with_reducible exact Le.refl _
        | with_reducible refine Le.ite ?_ ?_
        | with_reducible exact ih.1 _ _ _
        | with_reducible refine Le.bind (ih.1 _ _ _) (fun _ => ?_)
        | with_reducible exact ih.2 _ _ _ _
        | with_reducible refine Le.bind (ih.2 _ _ _ _) (fun _ => ?_)
        | with_reducible refine Le.bind (Le.refl _) (fun _ => ?_)
        | split)
    · intro x0 x1 x2 x3
      refine Le.eqs (lex_Words.l1.eq_2 ..) (lex_Words.l1.eq_2 ..) ?_
      repeat' (first
        | with_reducible exact Le.refl _
        | with_reducible refine Le.ite ?_ ?_
        | with_reducible exact ih.1 _ _ _
        | with_reducible refine Le.bind (ih.1 _ _ _) (fun _ => ?_)
        | with_reducible exact ih.2 _ _ _ _
        | with_reducible refine Le.bind (ih.2 _ _ _ _) (fun _ => ?_)
        | with_reducible refine Le.bind (Le.refl _) (fun _ => ?_)
        | split)
theorem lex_Words.mono (k : Nat) : ∀ x0, Le (lex_Words.f k x0) (lex_Words.f (k + 1) x0) := by
  intro x0
  unfold lex_Words.f
  repeat' (first
    | with_reducible exact Le.refl _
    | with_reducible refine Le.ite ?_ ?_
    | with_reducible exact (lex_Words.monoL k).1 _ _ _
    | with_reducible refine Le.bind (Le.refl _) (fun _ => ?_)
    | split)
theorem rows_Cell.mono (k : Nat) : ∀ x0, Le (rows_Cell.f k x0) (rows_Cell.f (k + 1) x0) := by
  intro x0
  unfold rows_Cell.f
  repeat' (first
    | with_reducible exact Le.refl _
    | with_reducible refine Le.ite ?_ ?_
    | with_reducible refine Le.bind (ratio_Parse.mono k _) (fun _ => ?_)
    | with_reducible exact ratio_Parse.mono k _
    | with_reducible refine Le.bind (Le.refl _) (fun _ => ?_)
    | split)
theorem rows_Words.monoL (k : Nat) : (∀ x0 x1 x2 x3, Le (rows_Words.l0 k x0 x1 x2 x3) (rows_Words.l0 (k + 1) x0 x1 x2 x3)) := by
  induction k with
  | zero => exact fun _ _ _ _ => Le.none _
  | succ k ih =>
    intro x0 x1 x2 x3
    refine Le.eqs (rows_Words.l0.eq_2 ..) (rows_Words.l0.eq_2 ..) ?_
    repeat' (first
      | with_reducible exact Le.refl _
      | with_reducible refine Le.ite ?_ ?_
      | with_reducible exact ih _ _ _ _
      | with_reducible refine Le.bind (ih _ _ _ _) (fun _ => ?_)
      | with_reducible refine Le.bind (rows_Cell.mono k _) (fun _ => ?_)
      | with_reducible exact rows_Cell.mono k _
      | with_reducible refine Le.bind (Le.refl _) (fun _ => ?_)
      | split)
theorem rows_Words.mono (k : Nat) : ∀ x0, Le (rows_Words.f k x0) (rows_Words.f (k + 1) x0) := by
  intro x0
  unfold rows_Words.f
  repeat' (first
    | with_reducible exact Le.refl _
    | with_reducible refine Le.ite ?_ ?_
    | with_reducible exact (rows_Words.monoL k) _ _ _ _
    | with_reducible refine Le.bind (Le.refl _) (fun _ => ?_)
    | split)
theorem rows_Row.mono (k : Nat) : ∀ x0, Le (rows_Row.f k x0) (rows_Row.f (k + 1) x0) := by
  intro x0
  unfold rows_Row.f
  repeat' (first
    | with_reducible exact Le.refl _
    | with_reducible refine Le.ite ?_ ?_
    | with_reducible refine Le.bind (lex_Words.mono k _) (fun _ => ?_)
    | with_reducible refine Le.bind (rows_Words.mono k _) (fun _ => ?_)
    | with_reducible exact lex_Words.mono k _
    | with_reducible exact rows_Words.mono k _
    | with_reducible refine Le.bind (Le.refl _) (fun _ => ?_)
    | split)
theorem rows_Rows.monoL (k : Nat) : (∀ x0 x1 x2 x3, Le (rows_Rows.l0 k x0 x1 x2 x3) (rows_Rows.l0 (k + 1) x0 x1 x2 x3)) := by
  induction k with
  | zero => exact fun _ _ _ _ => Le.none _
  | succ k ih =>
    intro x0 x1 x2 x3
    refine Le.eqs (rows_Rows.l0.eq_2 ..) (rows_Rows.l0.eq_2 ..) ?_
    repeat' (first
      | with_reducible exact Le.refl _
      | with_reducible refine Le.ite ?_ ?_
      | with_reducible exact ih _ _ _ _
      | with_reducible refine Le.bind (ih _ _ _ _) (fun _ => ?_)
      | with_reducible refine Le.bind (rows_Words.mono k _) (fun _ => ?_)
      | with_reducible exact rows_Words.mono k _
      | with_reducible refine Le.bind (Le.refl _) (fun _ => ?_)
      | split)
theorem rows_Rows.mono (k : Nat) : ∀ x0, Le (rows_Rows.f k x0) (rows_Rows.f (k + 1) x0) := by
  intro x0
  unfold rows_Rows.f
  repeat' (first
    | with_reducible exact Le.refl _
    | with_reducible refine Le.ite ?_ ?_
    | with_reducible exact (rows_Rows.monoL k) _ _ _ _
    | with_reducible refine Le.bind (lex_Words.mono k _) (fun _ => ?_)
    | with_reducible exact lex_Words.mono k _
    | with_reducible refine Le.bind (Le.refl _) (fun _ => ?_)
    | split)
theorem dendronlaw09_awake.mono (k : Nat) : Le (dendronlaw09_awake.f k ) (dendronlaw09_awake.f (k + 1) ) := by
  unfold dendronlaw09_awake.f
  repeat' (first
    | with_reducible exact Le.refl _
    | with_reducible refine Le.ite ?_ ?_
    | with_reducible refine Le.bind (rows_Row.mono k _) (fun _ => ?_)
    | with_reducible refine Le.bind (rows_Rows.mono k _) (fun _ => ?_)
    | with_reducible exact rows_Row.mono k _
    | with_reducible exact rows_Rows.mono k _
    | with_reducible refine Le.bind (Le.refl _) (fun _ => ?_)
    | split)
end Go.DI.Th
namespace Go.DI.Th
open Go Go.RowKit Go.DI
theorem awake09_ev : Ev (fun k => dendronlaw09_awake.f k) true := Ev.mono (K := 400) dendronlaw09_awake.mono (by decide +kernel)
end Go.DI.Th
namespace Go.DI.Th
open Go Go.RowKit Go.DI

def num3 (r : Rt) : Rt := (r.1, r.2.1.take 3, r.2.2.take 3)
theorem number_eq (b : Bool) (n d : List Int) : dendronlaw09_number.f b n d = some (num3 (b, n, d)) := by
  unfold dendronlaw09_number.f num3
  have t : ∀ l : List Int, ¬ (l.length : Int) > 3 → l.take 3 = l := fun l h => List.take_of_length_le (by omega)
  by_cases h1 : (n.length : Int) > 3
  · rw [if_pos h1, if_pos (by omega)]
    by_cases h2 : (d.length : Int) > 3
    · rw [if_pos h2, if_pos (by omega)]
    · rw [if_neg h2]; dsimp only; rw [t d h2]
  · rw [if_neg h1]
    by_cases h2 : (d.length : Int) > 3
    · rw [if_pos h2, if_pos (by omega)]; dsimp only; rw [t n h1]
    · rw [if_neg h2]; dsimp only; rw [t n h1, t d h2]
def cell3 (c : Bool × Rt) : Bool × Rt := (c.1, num3 c.2)
theorem few09_loop (xs : List (Bool × Rt)) (n : Nat) (hn : n ≤ 1099511627776) : ∀ (b a acc : List (Bool × Rt)), xs = a ++ b → a.length ≤ n → acc.length = a.length →
    Ev (fun k => dendronlaw09_Few.l0 k xs (n : Int) acc (a.length : Int)) (acc ++ (b.take (n - a.length)).map cell3) := by
  intro b
  induction b with
  | nil =>
    intro a acc hx _ _
    rw [List.take_nil, List.map_nil, List.append_nil]
    exact Ev.step (fun k => by rw [dendronlaw09_Few.l0, if_neg (by rw [hx]; exact nlt_at a)]) (Ev.now _)
  | cons x b ih =>
    intro a acc hx hl ha
    by_cases h : a.length < n
    · have hg : gt (false, false, [], []) xs (a.length : Int) = x := by rw [hx]; exact gt_at _ a x b
      refine Ev.step (fun k => ?_) ((ih (a ++ [x]) (acc ++ [cell3 x]) (by rw [hx, snoc_at]) (by rw [List.length_append, List.length_singleton]; omega) (by rw [List.length_append, List.length_append, ha]; rfl)).of_eq ?_)
      · rw [dendronlaw09_Few.l0, if_pos (by rw [hx]; exact lt_at a x b), if_pos (by omega), if_pos (nn0 _), hg, number_eq, Option.bind_some, if_pos (by omega), wr_at a x (by omega)]
        rfl
      · obtain ⟨m, hm⟩ : ∃ m, n - a.length = m + 1 := ⟨n - a.length - 1, by omega⟩
        rw [hm, List.take_succ_cons, List.map_cons, List.length_append, List.length_singleton, show n - (a.length + 1) = m by omega, List.append_assoc]
        rfl
    · rw [show n - a.length = 0 by omega, List.take_zero, List.map_nil, List.append_nil]
      exact Ev.step (fun k => by rw [dendronlaw09_Few.l0, if_pos (by rw [hx]; exact lt_at a x b), if_neg (by omega)]) (Ev.now _)
theorem few09_ev (xs : List (Bool × Rt)) (n : Nat) (hn : n ≤ 1099511627776) : Ev (fun k => dendronlaw09_Few.f k xs (n : Int)) ((xs.take n).map cell3) := by
  have := few09_loop xs n hn xs [] [] rfl (Nat.zero_le _) rfl
  rwa [List.nil_append] at this
end Go.DI.Th
namespace Go.DI.Th
open Go Go.RowKit Go.DI

abbrev Ce := Bool × Rt
def CeB (c : Ce) : Prop := RtB 3 c.2
def sameC (a b : Ce) : Bool := if a.1 = true ∨ b.1 = true then a.1 == b.1 else decide (rv a.2 = rv b.2)
def CeU (c : Ce) : Prop := U c.2.2.1 ∧ U c.2.2.2
theorem few_B {l : List Ce} (h : ∀ c ∈ l, CeU c) (n : Nat) : ∀ c ∈ (l.take n).map cell3, CeB c := by
  intro c hc
  obtain ⟨x, hx, rfl⟩ := List.mem_map.1 hc
  obtain ⟨u1, u2⟩ := h x (List.mem_of_mem_take hx)
  exact ⟨fun y hy => u1 y (List.mem_of_mem_take hy), fun y hy => u2 y (List.mem_of_mem_take hy), by show (List.take 3 _).length ≤ 3; rw [List.length_take]; omega, by show (List.take 3 _).length ≤ 3; rw [List.length_take]; omega⟩
end Go.DI.Th
namespace Go.DI.Th
open Go Go.RowKit Go.DI

abbrev Tk := Int × Int × ByteArray
abbrev tk0 : Tk := (0, 0, ByteArray.empty)
def isBar (t : Tk) : Prop := t.2.2.toList = [124]
instance (t : Tk) : Decidable (isBar t) := by unfold isBar; infer_instance
end Go.DI.Th
namespace Go.DI.Th
open Go Go.RowKit Go.DI

theorem rd_small9 (r : Rt) {b : Nat} (h : RtB b r) (hb : b ≤ 300) : Rd (rv r) := by
  have hz := h.sz
  have n1 : len (rv r).num.natAbs ≤ b + 1 := by unfold Sz at hz; omega
  have n2 : len (rv r).den ≤ b + 1 := by unfold Sz at hz; omega
  have p1 := prN_size (rv r).num.natAbs
  have p2 := prN_size (rv r).den
  exact rd_prX _ (by omega) (by omega)
theorem dsame_evB (a b : Ce) (ha : RtB 30000 a.2) (hb : RtB 30000 b.2) : Ev (fun k => dendronref09_Same.f k a.1 a.2.1 a.2.2.1 a.2.2.2 b.1 b.2.1 b.2.2.1 b.2.2.2) (sameC a b) := by
  obtain ⟨x, hx, ex⟩ := D.FL.from ha (by decide)
  obtain ⟨y, hy, ey⟩ := D.FL.from hb (by decide)
  have ho := hx.order hy (by decide)
  have e1 : a.1 = true ∨ b.1 = true → sameC a b = (a.1 == b.1) := fun h => if_pos h
  have e2 : ¬ (a.1 = true ∨ b.1 = true) → sameC a b = decide (rv a.2 = rv b.2) := fun h => if_neg h
  unfold dendronref09_Same.f
  by_cases h1 : a.1 = true
  · rw [e1 (Or.inl h1)]
    exact Ev.if_pos h1 (Ev.if_pos h1 ((Ev.now _).of_eq (by rw [h1]; cases b.1 <;> rfl)))
  · by_cases h2 : b.1 = true
    · rw [e1 (Or.inr h2)]
      exact Ev.if_neg h1 (Ev.if_pos h2 (Ev.if_neg h1 ((Ev.now _).of_eq (by rw [h2, Bool.eq_false_iff.2 h1]; rfl))))
    · rw [e2 (fun h => h.elim h1 h2)]
      refine Ev.if_neg h1 (Ev.if_neg h2 (Ev.bind ex (Ev.bind ey (Ev.bind ho ((Ev.now _).of_eq ?_)))))
      rw [Bool.eq_iff_iff, beq_iff_eq, decide_eq_true_iff]
      exact cmpQ_zero
def qB : ByteArray := ⟨#[63]⟩
abbrev CRt := Bool × Bool × List Int × List Int × Int
def CR (s : ByteArray) : CRt := if s = qB then (true, false, [], [], 0) else if prE (toL s) = 0 then (false, (cn (prV (toL s))).1, (cn (prV (toL s))).2.1, (cn (prV (toL s))).2.2, 0) else (false, false, [], [], prE (toL s))
theorem cell_ev (s : ByteArray) (hs : s.size ≤ 1000000) : Ev (fun k => rows_Cell.f k s) (CR s) := by
  have hp := rparse_ev s (by omega)
  unfold rows_Cell.f CR
  by_cases h : s = qB
  · rw [if_pos h]
    exact Ev.if_pos h (Ev.now _)
  · rw [if_neg h]
    refine Ev.if_neg h (Ev.bind hp ?_)
    unfold rR
    by_cases he : prE (toL s) = 0
    · rw [if_pos he, if_pos he]
      exact Ev.if_neg (fun e => e rfl) (Ev.now _)
    · rw [if_neg he, if_neg he]
      exact Ev.if_pos he (Ev.now _)
theorem rtb_nil : RtB 30000 ((false, [], []) : Rt) := ⟨fun x hx => (by cases hx), fun x hx => (by cases hx), by decide, by decide⟩
theorem prT_cell (r : Rt) (h : RtB 3 r) : CR (prT r) = (false, (cn (rv r)).1, (cn (rv r)).2.1, (cn (rv r)).2.2, 0) ∧ (prT r).size ≤ 1000000 := by
  obtain ⟨a, b⟩ := rd_small9 r h (by decide)
  have hw := prX_word (rv r)
  rw [← prT_rv] at a b hw
  have hz : (prT r).size ≤ 1000000 := by
    have := prR_size r.1 r.2.1 r.2.2
    obtain ⟨_, _, h1, h2⟩ := h
    unfold prT
    omega
  refine ⟨?_, hz⟩
  have hq : prT r ≠ qB := fun e => by
    rw [e] at a
    have : prE (toL qB) = 4 := by decide +kernel
    rw [this] at a
    cases a
  unfold CR
  rw [if_neg hq, if_pos a, b]
theorem print_miss (v : Rt) : Ev (fun k => rows_Print.f k true v.1 v.2.1 v.2.2) qB := by
  unfold rows_Print.f
  exact Ev.if_pos rfl (Ev.now _)
theorem print_num (v : Rt) (h : RtB 3 v) : Ev (fun k => rows_Print.f k false v.1 v.2.1 v.2.2) (prT v) := by
  unfold rows_Print.f
  exact Ev.if_neg (by decide) (Ev.bind (prT_ev v (h.mono (by decide))) (Ev.now _))
end Go.DI.Th
namespace Go.DI.Th
open Go Go.RowKit Go.DI

abbrev WRes := List Ce × Int × Int
def WF (acc : List Ce) : List Tk → WRes
  | [] => (acc, 0, 0)
  | t :: r => if (CR t.2.2).2.2.2.2 ≠ 0 then ([], t.1, (CR t.2.2).2.2.2.2) else WF (acc ++ [((CR t.2.2).1, (CR t.2.2).2.1, (CR t.2.2).2.2.1, (CR t.2.2).2.2.2.1)]) r
def TkZ (l : List Tk) : Prop := ∀ t ∈ l, t.2.2.size ≤ 1000000
theorem words9_l0 (l : List Tk) (hz : TkZ l) (hl : l.length ≤ 100000) : ∀ (b a : List Tk) (acc : List Ce), l = a ++ b → acc.length = a.length → Ev (fun k => rows_Words.l0 k acc l (l.length : Int) (a.length : Int)) (WF acc b) := by
  intro b
  induction b with
  | nil =>
    intro a acc h ha
    rw [List.append_nil] at h
    refine Ev.succ ?_
    simp only [rows_Words.l0]
    exact Ev.if_neg (by rw [h]; omega) (Ev.now _)
  | cons t b ih =>
    intro a acc h ha
    have g : gt tk0 l (a.length : Int) = t := by rw [h]; exact gt_at _ a t b
    have hll : l.length = a.length + (b.length + 1) := by rw [h, List.length_append, List.length_cons]
    have hc := cell_ev t.2.2 (hz t (by rw [h]; simp))
    have hih := ih (a ++ [t]) (acc ++ [((CR t.2.2).1, (CR t.2.2).2.1, (CR t.2.2).2.2.1, (CR t.2.2).2.2.2.1)]) (by rw [h]; simp) (by rw [List.length_append, List.length_append, ha]; rfl)
    rw [List.length_append, List.length_singleton] at hih
    refine Ev.succ ?_
    simp only [rows_Words.l0, g, wr_succ a.length (show a.length ≤ 1125899906842624 by omega)]
    refine Ev.if_pos (by omega) (Ev.if_pos (nn0 _) (Ev.if_pos (by omega) (Ev.bind hc ?_)))
    rw [WF]
    by_cases he : (CR t.2.2).2.2.2.2 ≠ 0
    · rw [if_pos he]
      exact Ev.if_pos he (Ev.now _)
    · rw [if_neg he]
      exact Ev.if_neg he (Ev.if_pos (by omega) hih)
theorem words9_ev (l : List Tk) (hz : TkZ l) (hl : l.length ≤ 100000) : Ev (fun k => rows_Words.f k l) (WF [] l) := words9_l0 l hz hl l [] [] rfl rfl
abbrev RRes := List (List Ce) × Int × Int
def RF (acc : List (List Ce)) : List (List Tk) → RRes
  | [] => (acc, 0, 0)
  | p :: ps => if (WF [] p).2.2 ≠ 0 then ([], (WF [] p).2.1, (WF [] p).2.2) else RF (acc ++ [(WF [] p).1]) ps
theorem rows9_l0 (Ps : List (List Tk)) (hz : ∀ p ∈ Ps, TkZ p ∧ p.length ≤ 100000) (hl : Ps.length ≤ 100000) : ∀ (b a : List (List Tk)) (acc : List (List Ce)), Ps = a ++ b → acc.length = a.length → Ev (fun k => rows_Rows.l0 k acc Ps (Ps.length : Int) (a.length : Int)) (RF acc b) := by
  intro b
  induction b with
  | nil =>
    intro a acc h ha
    rw [List.append_nil] at h
    refine Ev.succ ?_
    simp only [rows_Rows.l0]
    exact Ev.if_neg (by rw [h]; omega) (Ev.now _)
  | cons p b ih =>
    intro a acc h ha
    have g : gt [] Ps (a.length : Int) = p := by rw [h]; exact gt_at _ a p b
    have hll : Ps.length = a.length + (b.length + 1) := by rw [h, List.length_append, List.length_cons]
    obtain ⟨z1, z2⟩ := hz p (by rw [h]; simp)
    have hc := words9_ev p z1 z2
    have hih := ih (a ++ [p]) (acc ++ [(WF [] p).1]) (by rw [h]; simp) (by rw [List.length_append, List.length_append, ha]; rfl)
    rw [List.length_append, List.length_singleton] at hih
    refine Ev.succ ?_
    simp only [rows_Rows.l0, g, wr_succ a.length (show a.length ≤ 1125899906842624 by omega)]
    refine Ev.if_pos (by omega) (Ev.if_pos (nn0 _) (Ev.if_pos (by omega) (Ev.bind hc ?_)))
    rw [RF]
    by_cases he : (WF [] p).2.2 ≠ 0
    · rw [if_pos he]
      exact Ev.if_pos he (Ev.now _)
    · rw [if_neg he]
      exact Ev.if_neg he (Ev.if_pos (by omega) hih)
theorem splitG_out : ∀ (l : List Tk) (out : List (List Tk)) (cur : List Tk), splitG out cur l = out ++ splitG [] cur l
  | [], out, cur => by rw [splitG, splitG, List.nil_append]
  | t :: r, out, cur => by
    rw [splitG, splitG]
    split
    · rw [splitG_out r (out ++ [cur]) [], splitG_out r ([] ++ [cur]) [], List.append_assoc]
      simp
    · rw [splitG_out r out (cur ++ [t])]
end Go.DI.Th
namespace Go.DI.Th
open Go Go.RowKit Go.DI

theorem splitG_bar {cur r : List Tk} {t : Tk} (h : isBar t) : splitG [] cur (t :: r) = cur :: splitG [] [] r := by
  have h' : t.2.2.toList = [124] := h
  rw [splitG, if_pos h', splitG_out]
  rfl
theorem split_parts (B : Nat) : ∀ (l cur : List Tk) (out : List (List Tk)), (∀ p ∈ out, TkZ p ∧ p.length ≤ B) → TkZ cur → TkZ l → cur.length + l.length ≤ B → out.length + l.length + 1 ≤ B → (∀ p ∈ splitG out cur l, TkZ p ∧ p.length ≤ B) ∧ (splitG out cur l).length ≤ B
  | [], cur, out, ho, hc, _, h1, h2 => by
    rw [splitG]
    refine ⟨fun p hp => ?_, by rw [List.length_append, List.length_singleton]; simp only [List.length_nil] at h2; omega⟩
    rcases List.mem_append.1 hp with k | k
    · exact ho p k
    · rw [List.mem_singleton.1 k]; exact ⟨hc, by simp only [List.length_nil] at h1; omega⟩
  | t :: r, cur, out, ho, hc, hl, h1, h2 => by
    rw [List.length_cons] at h1 h2
    rw [splitG]
    split
    · refine split_parts B r [] _ (fun p hp => ?_) (fun x hx => by cases hx) (fun x hx => hl x (List.mem_cons_of_mem _ hx)) (by rw [List.length_nil]; omega) (by rw [List.length_append, List.length_singleton]; omega)
      rcases List.mem_append.1 hp with k | k
      · exact ho p k
      · rw [List.mem_singleton.1 k]; exact ⟨hc, by omega⟩
    · refine split_parts B r _ out ho (fun x hx => ?_) (fun x hx => hl x (List.mem_cons_of_mem _ hx)) (by rw [List.length_append, List.length_singleton]; omega) (by omega)
      rcases List.mem_append.1 hx with k | k
      · exact hc x k
      · rw [List.mem_singleton.1 k]; exact hl t List.mem_cons_self
def LW (x : ByteArray) : List W × Int × Int := wordsS [] 0 (toL x)
theorem LW_ok (x : ByteArray) (hx : x.size ≤ 100000) : TkZ (LW x).1 ∧ (LW x).1.length ≤ 4096 := by
  have hs : (toL x).length ≤ 100000 := by rw [← size_toL]; exact hx
  have h1 := wordsS_sz 1000000 _ (toL x) [] 0 (Nat.le_refl _) (by omega) (fun w hw => by cases hw)
  have h2 := wordsS_bd 1000000 _ (toL x) [] 0 (Nat.le_refl _) (fun w hw => by cases hw) (by omega) (Nat.zero_le _)
  exact ⟨h1, h2.2.1⟩
def SP (l : List Tk) : List (List Tk) := if l = [] then [] else splitG [] [] l
theorem SP_ok {l : List Tk} (z : TkZ l) (hl : l.length ≤ 4096) : (∀ p ∈ SP l, TkZ p ∧ p.length ≤ 100000) ∧ (SP l).length ≤ 100000 := by
  unfold SP
  split
  · exact ⟨fun p hp => (by cases hp), Nat.zero_le _⟩
  · exact split_parts 100000 l [] [] (fun p hp => by cases hp) (fun x hx => by cases hx) z (by rw [List.length_nil]; omega) (by rw [List.length_nil]; omega)
theorem rows9_ev (x : ByteArray) (hx : x.size ≤ 100000) : Ev (fun k => rows_Rows.f k x) (if (LW x).2.2 ≠ 0 then ([], (LW x).2.1, (LW x).2.2) else RF [] (SP (LW x).1)) := by
  obtain ⟨z, hl⟩ := LW_ok x hx
  obtain ⟨s1, s2⟩ := SP_ok z hl
  have hw := words_ev x (by omega)
  unfold rows_Rows.f
  refine Ev.bind (show Ev _ (LW x) from hw) ?_
  by_cases he : (LW x).2.2 ≠ 0
  · rw [if_pos he]
    exact Ev.if_pos he (Ev.now _)
  · rw [if_neg he]
    have hs : Ev (fun _ => rows_Split.f (LW x).1) (SP (LW x).1) := by
      refine Ev.congr (fun _ => ?_) (Ev.now _)
      unfold rows_Split.f SP
      rw [if_pos (by omega)]
      split <;> rfl
    exact Ev.if_neg he (Ev.bind hs (rows9_l0 _ s1 s2 _ [] [] rfl rfl))
end Go.DI.Th
namespace Go.DI.Th
open Go Go.RowKit Go.DI

def prC (c : Ce) : ByteArray := if c.1 = true then qB else prT c.2
def kC (c : Ce) : Ce := if c.1 = true then (true, false, [], []) else (false, cn (rv c.2))
theorem printC_ev (c : Ce) (h : CeB c) : Ev (fun k => rows_Print.f k c.1 c.2.1 c.2.2.1 c.2.2.2) (prC c) := by
  obtain ⟨m, r⟩ := c
  cases m with
  | true => exact print_miss r
  | false => exact print_num r h
theorem CR_prC (c : Ce) (h : CeB c) : CR (prC c) = ((kC c).1, (kC c).2.1, (kC c).2.2.1, (kC c).2.2.2, 0) := by
  obtain ⟨m, r⟩ := c
  cases m with
  | true => exact if_pos rfl
  | false => exact (prT_cell r h).1
theorem prC_word (c : Ce) : WdOk (toL (prC c)) := by
  obtain ⟨m, r⟩ := c
  cases m with
  | true =>
    have e : toL (prC (true, r)) = [63] := rfl
    rw [e]
    refine ⟨by decide, fun x hx => ?_⟩
    rw [List.mem_singleton] at hx
    rw [hx]
    decide
  | false =>
    show WdOk (toL (prT r))
    rw [prT_rv]
    exact prX_word _
theorem same_kC (c : Ce) : sameC (kC c) c = true := by
  obtain ⟨m, r⟩ := c
  cases m with
  | true => rfl
  | false =>
    have : sameC (kC (false, r)) (false, r) = decide (rv (cn (rv r)) = rv r) := rfl
    rw [this, rv_cn]
    exact decide_eq_true rfl
theorem WF_placed : ∀ (l : List Ce) (pos : Nat) (acc : List Ce), (∀ c ∈ l, CeB c) → WF acc (placed pos (l.map fun c => toL (prC c))) = (acc ++ l.map kC, 0, 0)
  | [], pos, acc, _ => by
    rw [List.map_nil, placed, WF, List.map_nil, List.append_nil]
  | c :: l, pos, acc, h => by
    rw [List.map_cons, placed, WF]
    have e : ofL (toL (prC c)) = prC c := toL_inj (toL_ofL _)
    have hc := CR_prC c (h c List.mem_cons_self)
    show (if (CR (ofL (toL (prC c)))).2.2.2.2 ≠ 0 then _ else WF (acc ++ [((CR (ofL (toL (prC c)))).1, (CR (ofL (toL (prC c)))).2.1, (CR (ofL (toL (prC c)))).2.2.1, (CR (ofL (toL (prC c)))).2.2.2.1)]) _) = _
    rw [e, hc]
    rw [if_neg (fun e => e rfl), WF_placed l _ _ (fun x hx => h x (List.mem_cons_of_mem _ hx)), List.append_assoc]
    rfl
theorem joinW_int : ∀ (l : List (List UInt8)), joinW l = [32].intercalate l
  | [] => rfl
  | [w] => by simp [joinW, List.intercalate]
  | w :: v :: l => by
    rw [joinW, joinW_int (v :: l)]
    simp [List.intercalate]
theorem joinW_len : ∀ (l : List (List UInt8)) (B : Nat), (∀ w ∈ l, w.length ≤ B) → (joinW l).length ≤ l.length * (B + 1)
  | [], B, _ => by rw [joinW]; exact Nat.zero_le _
  | [w], B, h => by
    have := h w List.mem_cons_self
    rw [joinW, List.length_singleton]
    omega
  | w :: v :: l, B, h => by
    have h1 := h w List.mem_cons_self
    have h2 := joinW_len (v :: l) B fun x hx => h x (List.mem_cons_of_mem _ hx)
    rw [joinW, List.length_append, List.length_cons, List.length_cons, Nat.add_mul]
    omega
theorem prC_size (c : Ce) (h : CeB c) : (prC c).size ≤ 400 := by
  obtain ⟨m, r⟩ := c
  cases m with
  | true => show qB.size ≤ 400; decide
  | false =>
    have := prR_size r.1 r.2.1 r.2.2
    obtain ⟨_, _, h1, h2⟩ := h
    show (prT r).size ≤ 400
    unfold prT
    have h1' : r.2.1.length ≤ 3 := h1
    have h2' : r.2.2.length ≤ 3 := h2
    omega
def rowT (l : List Ce) : ByteArray := ofL (joinW (l.map fun c => toL (prC c)))
theorem rowT_len (l : List Ce) (h : ∀ c ∈ l, CeB c) : (joinW (l.map fun c => toL (prC c))).length ≤ l.length * 401 := by
  have := joinW_len (l.map fun c => toL (prC c)) 400 fun w hw => by
    obtain ⟨c, hc, rfl⟩ := List.mem_map.1 hw
    rw [← size_toL]
    exact prC_size c (h c hc)
  rwa [List.length_map] at this
theorem write9_l0 (l : List Ce) (h : ∀ c ∈ l, CeB c) (hl : l.length ≤ 1000) : ∀ (b a : List Ce), l = a ++ b → Ev (fun k => rows_Write.l0 k (a.map prC) l (l.length : Int) (a.length : Int)) (rowT l) := by
  have hT := rowT_len l h
  intro b
  induction b with
  | nil =>
    intro a h1
    rw [List.append_nil] at h1
    have e : (32 : UInt8) :: [] = (⟨#[32]⟩ : ByteArray).data.toList := rfl
    have em : (a.map prC).map (fun x => x.data.toList) = l.map fun c => toL (prC c) := by
      rw [h1, List.map_map]
      rfl
    have hj : strings_Join.f (a.map prC) (⟨#[32]⟩ : ByteArray) = some (rowT l) := by
      unfold strings_Join.f
      rw [← e, em, ← joinW_int, if_pos ⟨by rw [List.length_map, ← h1]; omega, by omega⟩]
      rfl
    refine Ev.succ ?_
    simp only [rows_Write.l0, hj]
    exact Ev.if_neg (by rw [h1]; omega) (Ev.bind (Ev.now _) (Ev.now _))
  | cons u b ih =>
    intro a h1
    have g : gt (false, false, [], []) l (a.length : Int) = u := by rw [h1]; exact gt_at _ a u b
    have hll : l.length = a.length + (b.length + 1) := by rw [h1, List.length_append, List.length_cons]
    have hp := printC_ev u (h u (by rw [h1]; simp))
    have hih := ih (a ++ [u]) (by rw [h1]; simp)
    rw [List.length_append, List.length_singleton, List.map_append] at hih
    refine Ev.succ ?_
    simp only [rows_Write.l0, g, wr_succ a.length (show a.length ≤ 1125899906842624 by omega)]
    exact Ev.if_pos (by omega) (Ev.if_pos (nn0 _) (Ev.if_pos (by omega) (Ev.bind hp (Ev.if_pos (by rw [List.length_map]; omega) hih))))
theorem write9_ev (l : List Ce) (h : ∀ c ∈ l, CeB c) (hl : l.length ≤ 1000) : Ev (fun k => rows_Write.f k l) (rowT l) := write9_l0 l h hl l [] rfl
theorem rowback_ev (l : List Ce) (h : ∀ c ∈ l, CeB c) (hl : l.length ≤ 1000) : Ev (fun k => rows_Row.f k (rowT l)) (l.map kC, 0, 0) := by
  have hT := rowT_len l h
  have et : toL (rowT l) = joinW (l.map fun c => toL (prC c)) := toL_ofL _
  have ew : wordsS [] 0 (toL (rowT l)) = (placed 0 (l.map fun c => toL (prC c)), 0, 0) := by
    rw [et, wordsS_join _ [] 0 (fun w hw => by
      obtain ⟨c, hc, rfl⟩ := List.mem_map.1 hw
      exact prC_word c) (by rw [List.length_nil, List.length_map]; omega), List.nil_append]
  have hsz : (rowT l).size ≤ 1000000 := by rw [size_toL, et]; omega
  have hw := words_ev (rowT l) (by omega)
  rw [ew] at hw
  have z : TkZ (placed 0 (l.map fun c => toL (prC c))) := by
    have h1 := wordsS_sz 1000000 _ (toL (rowT l)) [] 0 (Nat.le_refl _) (by rw [← size_toL]; exact hsz) (fun w hw => by cases hw)
    rw [ew] at h1
    exact h1
  have h4 := words9_ev _ z (by rw [placed_length, List.length_map]; omega)
  rw [WF_placed l 0 [] h, List.nil_append] at h4
  unfold rows_Row.f
  exact Ev.bind hw (Ev.if_neg (fun e => e rfl) (Ev.bind h4 (Ev.now _)))
end Go.DI.Th
namespace Go.DI.Th
open Go Go.RowKit Go.DI

def TX (cs : List UInt8) (ws : List (List UInt8)) : Prop := ∀ (acc : List W) (pos : Nat), acc.length + ws.length ≤ 4096 → ∃ toks : List W, wordsS acc pos cs = (acc ++ toks, 0, 0) ∧ toks.map (fun t => toL t.2.2) = ws
theorem TX.nil : TX [] [] := fun acc pos _ => ⟨[], by rw [wordsS, List.append_nil], rfl⟩
theorem TX.blank {cs : List UInt8} {ws : List (List UInt8)} (h : TX cs ws) : TX (32 :: cs) ws := fun acc pos ha => by
  obtain ⟨t, e1, e2⟩ := h acc (pos + 1) ha
  exact ⟨t, by rw [wordsS, if_pos (by decide)]; exact e1, e2⟩
theorem TX.word {w cs : List UInt8} {ws : List (List UInt8)} (hw : WdOk w) (hc : ∀ c, cs.head? = some c → inw c = false) (h : TX cs ws) : TX (w ++ cs) (w :: ws) := fun acc pos ha => by
  rw [List.length_cons] at ha
  have e := wordsS_word acc pos w cs hw hc (by omega)
  obtain ⟨t, e1, e2⟩ := h (acc ++ [((pos : Int), 0, ofL w)]) (pos + w.length) (by rw [List.length_append, List.length_singleton]; omega)
  exact ⟨((pos : Int), 0, ofL w) :: t, by rw [e, e1, List.append_assoc]; rfl, by rw [List.map_cons, e2]; show toL (ofL w) :: ws = _; rw [toL_ofL]⟩
theorem TX.row : ∀ (r : List (List UInt8)) {cs : List UInt8} {ws : List (List UInt8)}, (∀ w ∈ r, WdOk w) → (∀ c, cs.head? = some c → inw c = false) → TX cs ws → TX (joinW r ++ cs) (r ++ ws)
  | [], _, _, _, _, h => h
  | [w], _, _, hr, hc, h => by
    rw [joinW]
    exact TX.word (hr w List.mem_cons_self) hc h
  | w :: v :: r, cs, ws, hr, hc, h => by
    have ih := TX.row (v :: r) (fun x hx => hr x (List.mem_cons_of_mem _ hx)) hc h
    rw [joinW, List.append_assoc, List.cons_append]
    refine TX.word (hr w List.mem_cons_self) (fun c hc => ?_) ih.blank
    have : c = 32 := by simpa using hc.symm
    rw [this]
    decide
def barW : List UInt8 := [124]
def allW : List (List (List UInt8)) → List (List UInt8)
  | [] => []
  | [r] => r
  | r :: q :: rs => r ++ barW :: allW (q :: rs)
def allT : List (List (List UInt8)) → List UInt8
  | [] => []
  | [r] => joinW r
  | r :: q :: rs => joinW r ++ (32 :: 124 :: 32 :: allT (q :: rs))
theorem TX.all : ∀ rs : List (List (List UInt8)), (∀ r ∈ rs, ∀ w ∈ r, WdOk w) → TX (allT rs) (allW rs)
  | [], _ => TX.nil
  | [r], h => by
    have := TX.row r (cs := []) (ws := []) (h r List.mem_cons_self) (fun c hc => by cases hc) TX.nil
    rw [List.append_nil, List.append_nil] at this
    exact this
  | r :: q :: rs, h => by
    have ih := TX.all (q :: rs) fun x hx => h x (List.mem_cons_of_mem _ hx)
    have hb : WdOk barW := ⟨by decide, fun c hc => by rw [show barW = [124] from rfl, List.mem_singleton] at hc; rw [hc]; decide⟩
    have h1 : TX (barW ++ (32 :: allT (q :: rs))) (barW :: allW (q :: rs)) := TX.word hb (fun c hc => by
      have : c = 32 := by simpa using hc.symm
      rw [this]
      decide) ih.blank
    rw [allT, allW]
    refine TX.row r (h r List.mem_cons_self) (fun c hc => ?_) h1.blank
    have : c = 32 := by simpa using hc.symm
    rw [this]
    decide
end Go.DI.Th
namespace Go.DI.Th
open Go Go.RowKit Go.DI

def tx (t : Tk) : List UInt8 := toL t.2.2
theorem isBar_tx (t : Tk) : isBar t ↔ tx t = barW := by
  unfold isBar tx barW
  rw [ByteArray.toList_eq]
  rfl
theorem split_last : ∀ (r : List (List UInt8)) (toks cur : List Tk), toks.map tx = r → (∀ w ∈ r, w ≠ barW) → ∃ p, splitG [] cur toks = [p] ∧ p.map tx = cur.map tx ++ r
  | [], toks, cur, h, _ => by
    have : toks = [] := List.map_eq_nil_iff.1 h
    subst this
    exact ⟨cur, by rw [splitG]; rfl, by rw [List.append_nil]⟩
  | w :: r, toks, cur, h, hn => by
    cases toks with
    | nil => cases h
    | cons t toks =>
      rw [List.map_cons, List.cons.injEq] at h
      have hb : ¬ t.2.2.toList = [124] := fun e => hn w List.mem_cons_self (h.1 ▸ (isBar_tx t).1 e)
      obtain ⟨p, e1, e2⟩ := split_last r toks (cur ++ [t]) h.2 fun x hx => hn x (List.mem_cons_of_mem _ hx)
      exact ⟨p, by rw [splitG, if_neg hb, e1], by rw [e2, List.map_append, List.append_assoc, ← h.1]; rfl⟩
theorem split_bar : ∀ (r : List (List UInt8)) (toks cur : List Tk) (rest : List (List UInt8)), toks.map tx = r ++ barW :: rest → (∀ w ∈ r, w ≠ barW) → ∃ p toks', splitG [] cur toks = p :: splitG [] [] toks' ∧ p.map tx = cur.map tx ++ r ∧ toks'.map tx = rest
  | [], toks, cur, rest, h, _ => by
    cases toks with
    | nil => cases h
    | cons t toks =>
      rw [List.map_cons, List.nil_append, List.cons.injEq] at h
      exact ⟨cur, toks, splitG_bar ((isBar_tx t).2 h.1), by rw [List.append_nil], h.2⟩
  | w :: r, toks, cur, rest, h, hn => by
    cases toks with
    | nil => cases h
    | cons t toks =>
      rw [List.map_cons, List.cons_append, List.cons.injEq] at h
      have hb : ¬ t.2.2.toList = [124] := fun e => hn w List.mem_cons_self (h.1 ▸ (isBar_tx t).1 e)
      obtain ⟨p, toks', e1, e2, e3⟩ := split_bar r toks (cur ++ [t]) rest h.2 fun x hx => hn x (List.mem_cons_of_mem _ hx)
      exact ⟨p, toks', by rw [splitG, if_neg hb, e1], by rw [e2, List.map_append, List.append_assoc, ← h.1]; rfl, e3⟩
theorem split_all : ∀ (rs : List (List (List UInt8))) (toks : List Tk), rs ≠ [] → toks.map tx = allW rs → (∀ r ∈ rs, ∀ w ∈ r, w ≠ barW) → (splitG [] [] toks).map (fun p => p.map tx) = rs
  | [], _, h, _, _ => absurd rfl h
  | [r], toks, _, h, hn => by
    obtain ⟨p, e1, e2⟩ := split_last r toks [] h (hn r List.mem_cons_self)
    rw [e1, List.map_cons, List.map_nil, e2]
    rfl
  | r :: q :: rs, toks, _, h, hn => by
    rw [allW] at h
    obtain ⟨p, toks', e1, e2, e3⟩ := split_bar r toks [] _ h (hn r List.mem_cons_self)
    have ih := split_all (q :: rs) toks' (by simp) e3 fun x hx => hn x (List.mem_cons_of_mem _ hx)
    rw [e1, List.map_cons, ih, e2]
    rfl
end Go.DI.Th
namespace Go.DI.Th
open Go Go.RowKit Go.DI

theorem WF_tx : ∀ (l : List Ce) (p : List Tk) (acc : List Ce), (∀ c ∈ l, CeB c) → p.map tx = l.map (fun c => toL (prC c)) → WF acc p = (acc ++ l.map kC, 0, 0)
  | [], p, acc, _, h => by
    have : p = [] := List.map_eq_nil_iff.1 h
    subst this
    rw [WF, List.map_nil, List.append_nil]
  | c :: l, p, acc, h, hp => by
    cases p with
    | nil => cases hp
    | cons t p =>
      rw [List.map_cons, List.map_cons, List.cons.injEq] at hp
      have e : t.2.2 = prC c := toL_inj hp.1
      have hc := CR_prC c (h c List.mem_cons_self)
      rw [WF, e, hc, if_neg (fun e => e rfl), WF_tx l p _ (fun x hx => h x (List.mem_cons_of_mem _ hx)) hp.2, List.append_assoc]
      rfl
theorem RF_tx : ∀ (rs : List (List Ce)) (ps : List (List Tk)) (acc : List (List Ce)), (∀ r ∈ rs, ∀ c ∈ r, CeB c) → ps.map (fun p => p.map tx) = rs.map (fun r => r.map fun c => toL (prC c)) → RF acc ps = (acc ++ rs.map (·.map kC), 0, 0)
  | [], ps, acc, _, h => by
    have : ps = [] := List.map_eq_nil_iff.1 h
    subst this
    rw [RF, List.map_nil, List.append_nil]
  | r :: rs, ps, acc, h, hp => by
    cases ps with
    | nil => cases hp
    | cons p ps =>
      rw [List.map_cons, List.map_cons, List.cons.injEq] at hp
      have e := WF_tx r p [] (h r List.mem_cons_self) hp.1
      rw [RF, e, if_neg (fun e => e rfl), RF_tx rs ps _ (fun x hx => h x (List.mem_cons_of_mem _ hx)) hp.2, List.append_assoc]
      rfl
theorem prC_notbar (c : Ce) (h : CeB c) : toL (prC c) ≠ barW := fun e => by
  have hc := CR_prC c h
  have e2 : prC c = ⟨#[124]⟩ := toL_inj e
  rw [e2] at hc
  have h1 : (⟨#[124]⟩ : ByteArray) ≠ qB := fun e => by
    have := congrArg toL e
    exact absurd this (by decide)
  have h2 : prE (toL (⟨#[124]⟩ : ByteArray)) = 4 := by decide +kernel
  unfold CR at hc
  rw [if_neg h1, if_neg (by rw [h2]; decide), h2] at hc
  have h4 : (4 : Int) = 0 := congrArg (fun x : CRt => x.2.2.2.2) hc
  exact absurd h4 (by decide)
def rowsT (rs : List (List Ce)) : ByteArray := ofL (allT (rs.map fun r => r.map fun c => toL (prC c)))
theorem rows_toks (rs : List (List Ce)) (h : ∀ r ∈ rs, ∀ c ∈ r, CeB c) (hn : (allW (rs.map fun r => r.map fun c => toL (prC c))).length ≤ 4096) (hne : rs ≠ []) (hx : rs ≠ [[]]) :
    ∃ toks : List Tk, LW (rowsT rs) = (toks, 0, 0) ∧ RF [] (SP toks) = (rs.map (·.map kC), 0, 0) := by
  have hw : ∀ r ∈ rs.map (fun r => r.map fun c => toL (prC c)), ∀ w ∈ r, WdOk w := fun r hr w hw => by
    obtain ⟨r', _, rfl⟩ := List.mem_map.1 hr
    obtain ⟨c, _, rfl⟩ := List.mem_map.1 hw
    exact prC_word c
  have hb : ∀ r ∈ rs.map (fun r => r.map fun c => toL (prC c)), ∀ w ∈ r, w ≠ barW := fun r hr w hw => by
    obtain ⟨r', hr', rfl⟩ := List.mem_map.1 hr
    obtain ⟨c, hc, rfl⟩ := List.mem_map.1 hw
    exact prC_notbar c (h r' hr' c hc)
  obtain ⟨toks, e1, e2⟩ := TX.all _ hw [] 0 (by rw [List.length_nil, Nat.zero_add]; exact hn)
  rw [List.nil_append] at e1
  refine ⟨toks, ?_, ?_⟩
  · unfold LW rowsT
    rw [toL_ofL]
    exact e1
  · have hs := split_all _ toks (by simpa using hne) e2 hb
    have ht : toks ≠ [] := fun e => by
      rw [e, List.map_nil] at e2
      cases rs with
      | nil => exact hne rfl
      | cons r rs =>
        cases rs with
        | nil =>
          have : r.map (fun c => toL (prC c)) = [] := e2.symm
          have := List.map_eq_nil_iff.1 this
          exact hx (by rw [this])
        | cons q rs =>
          have := congrArg List.length e2
          simp [allW] at this
    unfold SP
    rw [if_neg ht, RF_tx rs _ [] h hs, List.nil_append]
end Go.DI.Th
namespace Go.DI.Th
open Go Go.RowKit Go.DI

theorem rsame_evB (a b : Ce) (ha : RtB 30000 a.2) (hb : RtB 30000 b.2) : Ev (fun k => rows_Same.f k a.1 a.2.1 a.2.2.1 a.2.2.2 b.1 b.2.1 b.2.2.1 b.2.2.2) (sameC a b) := by
  have hs := same_cn a.2 b.2 ha hb (by decide) (by decide)
  unfold rows_Same.f sameC
  by_cases h1 : a.1 = true
  · rw [if_pos (Or.inl h1)]
    exact Ev.if_pos h1 (Ev.now _)
  · by_cases h2 : b.1 = true
    · rw [if_pos (Or.inr h2)]
      exact Ev.if_neg h1 (Ev.if_pos h2 (Ev.now _))
    · rw [if_neg (fun h => h.elim h1 h2)]
      exact Ev.if_neg h1 (Ev.if_neg h2 (Ev.bind hs (Ev.now _)))
theorem kC_B (c : Ce) (h : CeB c) : RtB 30000 (kC c).2 := by
  obtain ⟨m, r⟩ := c
  cases m with
  | true => exact rtb_nil
  | false =>
    have hz : Sz (rv r) ≤ 4 := RtB.sz h
    exact cnB (rv r) (by omega)
theorem dequal_k (l : List Ce) (h : ∀ c ∈ l, CeB c) (hm : l.length ≤ 1000000) : Ev (fun k => dendronref09_Equal.f k (l.map kC) l) true := by
  have loop : ∀ (b a : List Ce), l = a ++ b → Ev (fun k => dendronref09_Equal.l0 k (l.map kC) l (a.length : Int)) true := by
    intro b
    induction b with
    | nil =>
      intro a h1
      rw [List.append_nil] at h1
      refine Ev.succ ?_
      simp only [dendronref09_Equal.l0]
      exact Ev.if_neg (by rw [List.length_map, h1]; omega) (Ev.now _)
    | cons u b ih =>
      intro a h1
      have g1 : gt (false, false, [], []) l (a.length : Int) = u := by rw [h1]; exact gt_at _ a u b
      have g2 : gt (false, false, [], []) (l.map kC) (a.length : Int) = kC u := by
        rw [h1, List.map_append, List.map_cons]
        have := gt_at ((false, false, [], []) : Ce) (a.map kC) (kC u) (b.map kC)
        rwa [List.length_map] at this
      have hla : l.length = a.length + (b.length + 1) := by rw [h1, List.length_append, List.length_cons]
      have hu := h u (by rw [h1]; simp)
      have hs := dsame_evB (kC u) u (kC_B u hu) (RtB.mono hu (by decide))
      rw [same_kC] at hs
      have hih := ih (a ++ [u]) (by rw [h1]; simp)
      rw [List.length_append, List.length_singleton] at hih
      refine Ev.succ ?_
      simp only [dendronref09_Equal.l0, g1, g2, wr_succ a.length (show a.length ≤ 1125899906842624 by omega)]
      exact Ev.if_pos (by rw [List.length_map]; omega) (Ev.if_pos (nn0 _) (Ev.if_pos (by omega) (Ev.bind hs (Ev.if_pos rfl hih))))
  unfold dendronref09_Equal.f
  exact Ev.if_neg (by rw [List.length_map]; exact fun e => e rfl) (loop l [] rfl)
theorem requal_k (l : List Ce) (h : ∀ c ∈ l, CeB c) (hm : l.length ≤ 1000000) : Ev (fun k => rows_Equal.f k (l.map kC) l) true := by
  have loop : ∀ (b a : List Ce), l = a ++ b → Ev (fun k => rows_Equal.l0 k (l.map kC) l ((l.map kC).length : Int) (a.length : Int)) true := by
    intro b
    induction b with
    | nil =>
      intro a h1
      rw [List.append_nil] at h1
      refine Ev.succ ?_
      simp only [rows_Equal.l0]
      exact Ev.if_neg (by rw [List.length_map, h1]; omega) (Ev.now _)
    | cons u b ih =>
      intro a h1
      have g1 : gt (false, false, [], []) l (a.length : Int) = u := by rw [h1]; exact gt_at _ a u b
      have g2 : gt (false, false, [], []) (l.map kC) (a.length : Int) = kC u := by
        rw [h1, List.map_append, List.map_cons]
        have := gt_at ((false, false, [], []) : Ce) (a.map kC) (kC u) (b.map kC)
        rwa [List.length_map] at this
      have hla : l.length = a.length + (b.length + 1) := by rw [h1, List.length_append, List.length_cons]
      have hu := h u (by rw [h1]; simp)
      have hs := rsame_evB (kC u) u (kC_B u hu) (RtB.mono hu (by decide))
      rw [same_kC] at hs
      have hih := ih (a ++ [u]) (by rw [h1]; simp)
      rw [List.length_append, List.length_singleton] at hih
      refine Ev.succ ?_
      simp only [rows_Equal.l0, g1, g2, wr_succ a.length (show a.length ≤ 1125899906842624 by omega)]
      exact Ev.if_pos (by rw [List.length_map]; omega) (Ev.if_pos (nn0 _) (Ev.if_pos (by rw [List.length_map]; omega) (Ev.if_pos (by omega) (Ev.bind hs (Ev.if_pos rfl hih)))))
  unfold rows_Equal.f
  exact Ev.if_neg (by rw [List.length_map]; exact fun e => e rfl) (loop l [] rfl)
end Go.DI.Th
namespace Go.DI.Th
open Go Go.RowKit Go.DI

theorem all09_loop (xs : List (List Ce)) (n m : Nat) (hn : n ≤ 1099511627776) (hm : m ≤ 1099511627776) : ∀ (b a acc : List (List Ce)), xs = a ++ b → a.length ≤ n → acc.length = a.length →
    Ev (fun k => dendronlaw09_All.l0 k xs (n : Int) (m : Int) acc (a.length : Int)) (acc ++ (b.take (n - a.length)).map fun r => (r.take m).map cell3) := by
  intro b
  induction b with
  | nil =>
    intro a acc hx _ _
    rw [List.take_nil, List.map_nil, List.append_nil]
    exact Ev.step (fun k => by rw [dendronlaw09_All.l0, if_neg (by rw [hx]; exact nlt_at a)]) (Ev.now _)
  | cons x b ih =>
    intro a acc hx hl ha
    by_cases h : a.length < n
    · have hg : gt [] xs (a.length : Int) = x := by rw [hx]; exact gt_at _ a x b
      have hf := few09_ev x m hm
      have hih := ih (a ++ [x]) (acc ++ [(x.take m).map cell3]) (by rw [hx, snoc_at]) (by rw [List.length_append, List.length_singleton]; omega) (by rw [List.length_append, List.length_append, ha]; rfl)
      rw [List.length_append, List.length_singleton] at hih
      obtain ⟨q, hq⟩ : ∃ q, n - a.length = q + 1 := ⟨n - a.length - 1, by omega⟩
      rw [hq, List.take_succ_cons, List.map_cons]
      rw [show n - (a.length + 1) = q by omega, List.append_assoc] at hih
      refine Ev.succ ?_
      simp only [dendronlaw09_All.l0, hg, wr_succ a.length (show a.length ≤ 1125899906842624 by omega)]
      exact Ev.if_pos (by rw [hx]; exact lt_at a x b) (Ev.if_pos (by omega) (Ev.if_pos (nn0 _) (Ev.bind hf (Ev.if_pos (by omega) hih))))
    · rw [show n - a.length = 0 by omega, List.take_zero, List.map_nil, List.append_nil]
      exact Ev.step (fun k => by rw [dendronlaw09_All.l0, if_pos (by rw [hx]; exact lt_at a x b), if_neg (by omega)]) (Ev.now _)
def all3 (n m : Nat) (xs : List (List Ce)) : List (List Ce) := (xs.take n).map fun r => (r.take m).map cell3
theorem all09_ev (xs : List (List Ce)) (n m : Nat) (hn : n ≤ 1099511627776) (hm : m ≤ 1099511627776) : Ev (fun k => dendronlaw09_All.f k xs (n : Int) (m : Int)) (all3 n m xs) := by
  have := all09_loop xs n m hn hm xs [] [] rfl (Nat.zero_le _) rfl
  rwa [List.nil_append] at this
theorem allT_int : ∀ rs : List (List (List UInt8)), [32, 124, 32].intercalate (rs.map joinW) = allT rs
  | [] => rfl
  | [r] => by simp [allT, List.intercalate]
  | r :: q :: rs => by
    rw [allT, ← allT_int (q :: rs)]
    simp [List.intercalate]
theorem allT_len : ∀ (rs : List (List (List UInt8))) (B : Nat), (∀ r ∈ rs, (joinW r).length ≤ B) → (allT rs).length ≤ rs.length * (B + 3)
  | [], B, _ => by rw [allT]; exact Nat.zero_le _
  | [r], B, h => by
    have := h r List.mem_cons_self
    rw [allT, List.length_singleton]
    omega
  | r :: q :: rs, B, h => by
    have h1 := h r List.mem_cons_self
    have h2 := allT_len (q :: rs) B fun x hx => h x (List.mem_cons_of_mem _ hx)
    rw [allT, List.length_append, List.length_cons, List.length_cons, List.length_cons, List.length_cons, Nat.add_mul]
    omega
theorem allW_len : ∀ (rs : List (List (List UInt8))) (B : Nat), (∀ r ∈ rs, r.length ≤ B) → (allW rs).length ≤ rs.length * (B + 1)
  | [], B, _ => by rw [allW]; exact Nat.zero_le _
  | [r], B, h => by
    have := h r List.mem_cons_self
    rw [allW, List.length_singleton]
    omega
  | r :: q :: rs, B, h => by
    have h1 := h r List.mem_cons_self
    have h2 := allW_len (q :: rs) B fun x hx => h x (List.mem_cons_of_mem _ hx)
    rw [allW, List.length_append, List.length_cons, List.length_cons, Nat.add_mul]
    omega
def wordsOf (rs : List (List Ce)) : List (List (List UInt8)) := rs.map fun r => r.map fun c => toL (prC c)
theorem rowsT_len (rs : List (List Ce)) (h : ∀ r ∈ rs, ∀ c ∈ r, CeB c) (hl : rs.length ≤ 12) (hl2 : ∀ r ∈ rs, r.length ≤ 12) : (allT (wordsOf rs)).length ≤ 60000 ∧ (allW (wordsOf rs)).length ≤ 4096 := by
  have h1 := allT_len (wordsOf rs) 4812 fun r hr => by
    obtain ⟨r', hr', rfl⟩ := List.mem_map.1 hr
    have := rowT_len r' (h r' hr')
    have := hl2 r' hr'
    omega
  have h2 := allW_len (wordsOf rs) 12 fun r hr => by
    obtain ⟨r', hr', rfl⟩ := List.mem_map.1 hr
    rw [List.length_map]
    exact hl2 r' hr'
  have e : (wordsOf rs).length = rs.length := List.length_map _
  rw [e] at h1 h2
  omega
theorem writeAll_l0 (l : List (List Ce)) (h : ∀ r ∈ l, ∀ c ∈ r, CeB c) (hl : l.length ≤ 12) (hl2 : ∀ r ∈ l, r.length ≤ 12) : ∀ (b a : List (List Ce)), l = a ++ b → Ev (fun k => rows_WriteAll.l0 k (a.map rowT) l (l.length : Int) (a.length : Int)) (rowsT l) := by
  have hT := (rowsT_len l h hl hl2).1
  intro b
  induction b with
  | nil =>
    intro a h1
    rw [List.append_nil] at h1
    have em : (a.map rowT).map (fun x => x.data.toList) = (wordsOf l).map joinW := by
      rw [h1, List.map_map]
      unfold wordsOf
      rw [List.map_map]
      refine List.map_congr_left fun r _ => ?_
      exact toL_ofL _
    have e : ([32, 124, 32] : List UInt8) = (⟨#[32, 124, 32]⟩ : ByteArray).data.toList := rfl
    have hj : strings_Join.f (a.map rowT) (⟨#[32, 124, 32]⟩ : ByteArray) = some (rowsT l) := by
      unfold strings_Join.f
      rw [← e, em, allT_int, if_pos ⟨by rw [List.length_map, ← h1]; omega, by omega⟩]
      rfl
    refine Ev.succ ?_
    simp only [rows_WriteAll.l0, hj]
    exact Ev.if_neg (by rw [h1]; omega) (Ev.bind (Ev.now _) (Ev.now _))
  | cons u b ih =>
    intro a h1
    have g : gt [] l (a.length : Int) = u := by rw [h1]; exact gt_at _ a u b
    have hll : l.length = a.length + (b.length + 1) := by rw [h1, List.length_append, List.length_cons]
    have hu : u ∈ l := by rw [h1]; simp
    have hp := write9_ev u (h u hu) (by have := hl2 u hu; omega)
    have hih := ih (a ++ [u]) (by rw [h1]; simp)
    rw [List.length_append, List.length_singleton, List.map_append] at hih
    refine Ev.succ ?_
    simp only [rows_WriteAll.l0, g, wr_succ a.length (show a.length ≤ 1125899906842624 by omega)]
    exact Ev.if_pos (by omega) (Ev.if_pos (nn0 _) (Ev.if_pos (by omega) (Ev.bind hp (Ev.if_pos (by rw [List.length_map]; omega) hih))))
theorem writeAll_ev (l : List (List Ce)) (h : ∀ r ∈ l, ∀ c ∈ r, CeB c) (hl : l.length ≤ 12) (hl2 : ∀ r ∈ l, r.length ≤ 12) : Ev (fun k => rows_WriteAll.f k l) (rowsT l) := writeAll_l0 l h hl hl2 l [] rfl
theorem rowsback_ev (l : List (List Ce)) (h : ∀ r ∈ l, ∀ c ∈ r, CeB c) (hl : l.length ≤ 12) (hl2 : ∀ r ∈ l, r.length ≤ 12) (hx : l ≠ [[]]) : Ev (fun k => rows_Rows.f k (rowsT l)) (l.map (·.map kC), 0, 0) := by
  have hT := rowsT_len l h hl hl2
  have et : toL (rowsT l) = allT (wordsOf l) := toL_ofL _
  have h1 := rows9_ev (rowsT l) (by rw [size_toL, et]; omega)
  by_cases hne : l = []
  · subst hne
    have e : LW (rowsT []) = ([], 0, 0) := by
      unfold LW rowsT
      rw [toL_ofL]
      show wordsS [] 0 (allT []) = _
      rw [allT, wordsS]
    rw [e, if_neg (fun e => e rfl)] at h1
    exact h1
  · obtain ⟨toks, e1, e2⟩ := rows_toks l h hT.2 hne hx
    rw [e1, e2, if_neg (fun e => e rfl)] at h1
    exact h1
theorem rowsback_one : Ev (fun k => rows_Rows.f k (rowsT [[]])) ([], 0, 0) := by
  have h1 := rows9_ev (rowsT [[]]) (by decide +kernel)
  have e : LW (rowsT [[]]) = ([], 0, 0) := by
    unfold LW rowsT
    rw [toL_ofL]
    show wordsS [] 0 (allT [[]]) = _
    rw [allT, joinW, wordsS]
  rw [e, if_neg (fun e => e rfl)] at h1
  exact h1
theorem back_l0 (haw : Ev (fun k => dendronlaw09_awake.f k) true) (l : List (List Ce)) (h : ∀ r ∈ l, ∀ c ∈ r, CeB c) (hl : l.length ≤ 12) (hl2 : ∀ r ∈ l, r.length ≤ 12) : ∀ (b a : List (List Ce)), l = a ++ b →
    Ev (fun k => dendronlaw09_RowsBack.l0 k l (l.map (·.map kC)) (a.length : Int)) true := by
  intro b
  induction b with
  | nil =>
    intro a h1
    rw [List.append_nil] at h1
    refine Ev.succ ?_
    simp only [dendronlaw09_RowsBack.l0]
    exact Ev.if_neg (by rw [List.length_map, h1]; omega) (Ev.bind haw (Ev.now _))
  | cons u b ih =>
    intro a h1
    have g1 : gt [] l (a.length : Int) = u := by rw [h1]; exact gt_at _ a u b
    have g2 : gt [] (l.map (·.map kC)) (a.length : Int) = u.map kC := by
      rw [h1, List.map_append, List.map_cons]
      have := gt_at ([] : List Ce) (a.map (·.map kC)) (u.map kC) (b.map (·.map kC))
      rwa [List.length_map] at this
    have hll : l.length = a.length + (b.length + 1) := by rw [h1, List.length_append, List.length_cons]
    have hu : u ∈ l := by rw [h1]; simp
    have he := dequal_k u (h u hu) (by have := hl2 u hu; omega)
    have hih := ih (a ++ [u]) (by rw [h1]; simp)
    rw [List.length_append, List.length_singleton] at hih
    refine Ev.succ ?_
    simp only [dendronlaw09_RowsBack.l0, g1, g2, wr_succ a.length (show a.length ≤ 1125899906842624 by omega)]
    exact Ev.if_pos (by rw [List.length_map]; omega) (Ev.if_pos (nn0 _) (Ev.if_pos (by omega) (Ev.bind he (Ev.if_pos rfl hih))))
theorem rowsBack_ev0 (haw : Ev (fun k => dendronlaw09_awake.f k) true) (xs : List Ce) (ys : List (List Ce)) (hx : ∀ c ∈ xs, CeU c) (hy : ∀ r ∈ ys, ∀ c ∈ r, CeU c) : Ev (fun k => dendronlaw09_RowsBack.f k xs ys) true := by
  have f1 := few09_ev xs 12 (by decide)
  have f2 := all09_ev ys 12 12 (by decide) (by decide)
  have b1 := few_B hx 12
  have l1 : ((xs.take 12).map cell3).length ≤ 12 := by rw [List.length_map, List.length_take]; omega
  have b2 : ∀ r ∈ all3 12 12 ys, ∀ c ∈ r, CeB c := fun r hr => by
    obtain ⟨r', hr', rfl⟩ := List.mem_map.1 hr
    exact few_B (hy r' (List.mem_of_mem_take hr')) 12
  have l2 : (all3 12 12 ys).length ≤ 12 := by unfold all3; rw [List.length_map, List.length_take]; omega
  have l3 : ∀ r ∈ all3 12 12 ys, r.length ≤ 12 := fun r hr => by
    obtain ⟨r', _, rfl⟩ := List.mem_map.1 hr
    rw [List.length_map, List.length_take]; omega
  generalize (xs.take 12).map cell3 = l at *
  generalize all3 12 12 ys = al at *
  have w1 := write9_ev l b1 (by omega)
  have w2 := rowback_ev l b1 (by omega)
  have w3 := writeAll_ev al b2 l2 l3
  have e1 := dequal_k l b1 (by omega)
  have e2 := requal_k l b1 (by omega)
  unfold dendronlaw09_RowsBack.f
  by_cases hone : al = [[]]
  · subst hone
    have w4 := rowsback_one
    have ee : rowsT [[]] = ByteArray.empty := by decide +kernel
    refine Ev.bind f1 (Ev.bind f2 (Ev.bind w1 (Ev.bind w2 (Ev.bind w3 (Ev.bind w4 (Ev.if_neg (fun e => e rfl) (Ev.bind e1 (Ev.if_pos rfl (Ev.bind e2 (Ev.if_pos rfl (Ev.if_neg (fun e => e rfl) (Ev.if_pos rfl (Ev.if_pos (by decide) (Ev.if_pos rfl (Ev.bind w3 (Ev.if_pos ee (Ev.if_pos rfl (Ev.bind haw (Ev.now _)))))))))))))))))))
  · have w4 := rowsback_ev al b2 l2 l3 hone
    have tail : Ev (fun k => if ((al.map (·.map kC)).length : Int) ≠ (al.length : Int) then some false else dendronlaw09_RowsBack.l0 k al (al.map (·.map kC)) 0) true :=
      Ev.if_neg (by rw [List.length_map]; exact fun e => e rfl) (back_l0 haw al b2 l2 l3 al [] rfl)
    refine Ev.bind f1 (Ev.bind f2 (Ev.bind w1 (Ev.bind w2 (Ev.bind w3 (Ev.bind w4 (Ev.if_neg (fun e => e rfl) (Ev.bind e1 (Ev.if_pos rfl (Ev.bind e2 (Ev.if_pos rfl (Ev.if_neg (fun e => e rfl) ?_)))))))))))
    by_cases h1 : (al.length : Int) = 1
    · refine Ev.if_pos h1 (Ev.if_pos (by omega) (Ev.if_neg (fun e => hone ?_) tail))
      obtain ⟨r, hr⟩ : ∃ r, al = [r] := List.length_eq_one_iff.1 (by omega)
      subst hr
      have : r.length = 0 := by
        have e' : ((r.length : Nat) : Int) = 0 := e
        omega
      rw [List.eq_nil_of_length_eq_zero this]
    · exact Ev.if_neg h1 tail
end Go.DI.Th
