/- What the told functions answer, part 2. No condition. -/
import Derived.Test.YtjpkpmkohcdcbaaDoorTh1
set_option linter.all false
namespace Go.DI.Th
open Go Go.RowKit Go.DI

def cutL (x : UInt8) : List UInt8 → Option (List UInt8 × List UInt8)
  | [] => none
  | c :: w => if c = x then some ([], w) else (cutL x w).map fun p => (c :: p.1, p.2)
theorem cutL_some {x : UInt8} : ∀ {w a b : List UInt8}, cutL x w = some (a, b) → w = a ++ x :: b ∧ x ∉ a
  | [], a, b, h => by cases h
  | c :: w, a, b, h => by
    rw [cutL] at h
    by_cases hc : c = x
    · rw [if_pos hc] at h
      cases h
      rw [hc]
      exact ⟨rfl, List.not_mem_nil⟩
    · rw [if_neg hc] at h
      cases hw : cutL x w with
      | none => rw [hw] at h; cases h
      | some p =>
        rw [hw] at h
        cases h
        obtain ⟨h1, h2⟩ := cutL_some (a := p.1) (b := p.2) hw
        refine ⟨by rw [List.cons_append, ← h1], fun hm => ?_⟩
        rcases List.mem_cons.1 hm with e | hm
        · exact hc e.symm
        · exact h2 hm
theorem cutL_none {x : UInt8} : ∀ {w : List UInt8}, cutL x w = none → x ∉ w
  | [], _ => List.not_mem_nil
  | c :: w, h => by
    rw [cutL] at h
    by_cases hc : c = x
    · rw [if_pos hc] at h; cases h
    · rw [if_neg hc] at h
      cases hw : cutL x w with
      | some p => rw [hw] at h; cases h
      | none =>
        intro hm
        rcases List.mem_cons.1 hm with e | hm
        · exact hc e.symm
        · exact cutL_none hw hm
theorem get_bang {s : ByteArray} {i : Nat} (h : i < s.size) : s[i]! = s[i]'h := getElem!_pos s i h
theorem fIdx_at {s : ByteArray} {a b : List UInt8} {x : UInt8} (h : toL s = a ++ x :: b) (hn : x ∉ a) : fIdx s x = (a.length : Int) := by
  have hsz : s.size = a.length + (b.length + 1) := by rw [size_toL, h, List.length_append, List.length_cons]
  unfold fIdx
  have hf : (List.range s.size).find? (fun i => s[i]! == x) = some a.length := by
    rw [List.find?_range_eq_some]
    refine ⟨?_, by simp; omega, fun j hj => ?_⟩
    · rw [get_bang (by omega), at_byte h (by omega)]
      simp
    · have hjs : j < s.size := by omega
      rw [get_bang hjs]
      have e : s[j]'hjs = (toL s)[j]'(by rw [← size_toL]; exact hjs) := rfl
      have e2 : s[j]'hjs ∈ a := by
        rw [e]
        have : ∀ (l : List UInt8) (hl : j < l.length), l = a ++ x :: b → l[j]'hl ∈ a := by
          intro l hl e
          subst e
          rw [List.getElem_append_left hj]
          exact List.getElem_mem hj
        exact this _ _ h
      simp only [Bool.not_eq_true', beq_eq_false_iff_ne, ne_eq]
      intro e3
      exact hn (e3 ▸ e2)
  rw [hf]
theorem fIdx_none {s : ByteArray} {x : UInt8} (hn : x ∉ toL s) : fIdx s x = -1 := by
  unfold fIdx
  have hf : (List.range s.size).find? (fun i => s[i]! == x) = none := by
    rw [List.find?_eq_none]
    intro j hj
    have hjs : j < s.size := List.mem_range.1 hj
    rw [get_bang hjs]
    have e : s[j]'hjs = (toL s)[j]'(by rw [← size_toL]; exact hjs) := rfl
    simp only [beq_iff_eq]
    intro e2
    apply hn
    rw [← e2, e]
    exact List.getElem_mem _
  rw [hf]
def cutR (s : ByteArray) (x : UInt8) : ByteArray × ByteArray × Bool := match cutL x (toL s) with
  | some (a, b) => (ofL a, ofL b, true)
  | none => (s, ByteArray.empty, false)
theorem cut_ev (s : ByteArray) (hs : s.size ≤ 1125899906842624) (x : UInt8) (sep : ByteArray) (hsep : sep = ⟨#[x]⟩) : Ev (fun k => strings_Cut.f k s sep) (cutR s x) := by
  subst hsep
  have hsz : (⟨#[x]⟩ : ByteArray).size = 1 := rfl
  have hbt : bt (⟨#[x]⟩ : ByteArray) 0 = (x.toNat : Int) := bt_at (b := ⟨#[x]⟩) (p := []) (c := x) (r := []) rfl
  have hix : Ev (fun k => stringslite_Index.f k s ⟨#[x]⟩) (fIdx s x) := by
    unfold stringslite_Index.f
    rw [hsz, hbt]
    refine Ev.if_neg (by decide) ?_
    by_cases he : (⟨#[x]⟩ : ByteArray) = s
    · refine Ev.if_pos he ((Ev.now _).of_eq ?_)
      have : toL s = [] ++ x :: [] := by rw [← he]; rfl
      rw [fIdx_at this List.not_mem_nil]
      rfl
    · refine Ev.if_neg he (Ev.if_pos (by decide) (Ev.if_pos (by decide) ((Ev.now _).of_eq ?_)))
      congr 1
      rw [Int.toNat_natCast]
      exact UInt8.ofNat_toNat
  have hc : Ev (fun k => stringslite_Cut.f k s ⟨#[x]⟩) (cutR s x) := by
    unfold stringslite_Cut.f
    rw [hsz]
    refine Ev.bind hix ?_
    unfold cutR
    cases hx : cutL x (toL s) with
    | none =>
      rw [fIdx_none (cutL_none hx)]
      exact Ev.if_neg (by decide) (Ev.now _)
    | some p =>
      obtain ⟨a, b⟩ := p
      obtain ⟨h1, h2⟩ := cutL_some hx
      have hsize : s.size = a.length + (b.length + 1) := by rw [size_toL, h1, List.length_append, List.length_cons]
      rw [fIdx_at h1 h2]
      have ew : wrap64 ((a.length : Int) + ((1 : Nat) : Int)) = ((a.length + 1 : Nat) : Int) := by rw [wrap_id (by omega) (by omega)]; omega
      have e2 : s.extract (a.length + 1) s.size = ofL b := by
        have h3 : toL s = (a ++ [x]) ++ b := by rw [h1]; simp
        have := ext_drop h3
        rwa [List.length_append, List.length_singleton] at this
      rw [ew, Int.toNat_natCast, Int.toNat_natCast, ext_take h1, e2]
      exact Ev.if_pos (nn0 _) (Ev.if_pos (by omega) (Ev.if_pos (nn0 _) (Ev.if_pos (by omega) (Ev.now _))))
  unfold strings_Cut.f
  exact Ev.bind hc (Ev.now _)
def isPre (x : UInt8) : List UInt8 → Bool
  | [] => false
  | c :: _ => c == x
theorem prefix_ev (s : ByteArray) (x : UInt8) : strings_HasPrefix.f s ⟨#[x]⟩ = some (isPre x (toL s)) := by
  unfold strings_HasPrefix.f stringslite_HasPrefix.f
  have hsz : (⟨#[x]⟩ : ByteArray).size = 1 := rfl
  rw [hsz]
  cases hw : toL s with
  | nil =>
    have h0 : s.size = 0 := by rw [size_toL, hw]; rfl
    rw [if_neg (by omega)]
    rfl
  | cons c t =>
    have h1 : s.size = t.length + 1 := by rw [size_toL, hw]; rfl
    rw [if_pos (by omega), if_pos (by decide)]
    have e1 : s.extract 0 1 = ofL [c] := ext_take (a := [c]) (b := t) hw
    simp only [Option.bind_some, Int.toNat_natCast]
    rw [e1, Option.some.injEq]
    show ((ofL [c]).toList == (⟨#[x]⟩ : ByteArray).toList) = (c == x)
    by_cases h : c = x
    · subst h
      have e : (ofL [c]) = (⟨#[c]⟩ : ByteArray) := rfl
      rw [@str_t ⟨[], 0, 0⟩ _ _ e]
      simp
    · have e : ¬ (ofL [c]) = (⟨#[x]⟩ : ByteArray) := fun e => h (by
        have := congrArg toL e
        have e2 : ([c] : List UInt8) = [x] := this
        exact (List.cons.inj e2).1)
      rw [@str_f ⟨[], 0, 0⟩ _ _ e]
      symm
      simpa using h
theorem ten_l0 (n : Nat) (hn : n ≤ 20000) : ∀ d i : Nat, i + d = n → Ev (fun k => ratio_ten.l0 k (lm (10 ^ i)) (n : Int) (i : Int)) (lm (10 ^ n)) := by
  intro d
  induction d with
  | zero =>
    intro i hi
    obtain rfl : i = n := by omega
    refine Ev.succ ?_
    simp only [ratio_ten.l0]
    exact Ev.if_neg (by omega) (Ev.now _)
  | succ d ih =>
    intro i hi
    have hih := ih (i + 1) (by omega)
    have hl := len_ten i
    have hm := mul_ev (lm (10 ^ i)) (lm 10) (lm_ok _).U (lm_ok _).U (by rw [lm_length, lm_length]; have := len_small (n := 10) (by decide); omega)
    rw [val_lm, val_lm, ← Nat.pow_succ] at hm
    refine Ev.succ ?_
    simp only [ratio_ten.l0, wr_succ i (show i ≤ 1125899906842624 by omega)]
    exact Ev.if_pos (by omega) (Ev.bind (ofN_ev 10 (by decide)) (Ev.bind hm hih))
theorem ten_ev (n : Nat) (hn : n ≤ 20000) : Ev (fun k => ratio_ten.f k (n : Int)) (lm (10 ^ n)) := by
  unfold ratio_ten.f
  exact Ev.bind (ofN_ev 1 (by decide)) (ten_l0 n hn n 0 (by omega))
def plE (w : List UInt8) : Int := match cutL 47 w with
  | some (a, b) => if pE a ≠ 0 then pE a else if pE b ≠ 0 then pE b else if dgv 0 b = 0 then 2 else 0
  | none => match cutL 46 w with
    | some (a, b) => if pE a ≠ 0 then pE a else pE b
    | none => pE w
def plV (w : List UInt8) : Rat := match cutL 47 w with
  | some (a, b) => mkRat (dgv 0 a : Int) (dgv 0 b)
  | none => match cutL 46 w with
    | some (a, b) => mkRat ((dgv 0 a * 10 ^ b.length + dgv 0 b : Nat) : Int) (10 ^ b.length)
    | none => ((dgv 0 w : Int) : Rat)
def rR (e : Int) (x : Rat) : Bool × List Int × List Int × Int := if e = 0 then ((cn x).1, (cn x).2.1, (cn x).2.2, 0) else (false, [], [], e)
theorem form_nat (n q : Nat) (hq : q ≠ 0) (h1 : len n ≤ 549755813888) (h2 : len q ≤ 549755813888) : Ev (fun k => ratio_form.f k false (lm n) (lm q)) (cn (mkRat (n : Int) q)) := by
  have := form_cn (n : Int) q hq (by rw [Int.natAbs_natCast]; exact h1) h2
  rwa [Int.natAbs_natCast, decide_eq_false (show ¬ ((n : Int) < 0) by omega)] at this
theorem pE_len {w : List UInt8} (h : pE w = 0) : len (dgv 0 w) ≤ 10001 := by
  obtain ⟨_, h2, h3⟩ := pE_zero.1 h
  have := len_dgv w h2
  omega
theorem plain_ev (s : ByteArray) (hs : s.size ≤ 1125899906842624) : Ev (fun k => ratio_plain.f k s) (rR (plE (toL s)) (plV (toL s))) := by
  unfold ratio_plain.f
  refine Ev.bind (cut_ev s hs 47 _ rfl) ?_
  unfold cutR plE plV
  cases h1 : cutL 47 (toL s) with
  | some p =>
    obtain ⟨a, b⟩ := p
    dsimp only
    refine Ev.if_pos rfl ?_
    have pa := nparse_ev (ofL a)
    have pb := nparse_ev (ofL b)
    rw [toL_ofL] at pa pb
    unfold pR at pa pb
    by_cases ha : pE a = 0
    · rw [if_pos ha] at pa
      rw [if_neg (fun h => h ha)]
      refine Ev.bind pa (Ev.if_neg (fun h => h rfl) ?_)
      by_cases hb : pE b = 0
      · rw [if_pos hb] at pb
        rw [if_neg (fun h => h hb)]
        refine Ev.bind pb (Ev.if_neg (fun h => h rfl) ?_)
        by_cases h0 : dgv 0 b = 0
        · rw [if_pos h0]
          exact Ev.if_pos (by show ((lm (dgv 0 b)).length : Int) = 0; rw [h0, lm_zero]; rfl) (Ev.now _)
        · rw [if_neg h0]
          have hp := len_eq_zero (n := dgv 0 b)
          have la := pE_len ha
          have lb := pE_len hb
          refine Ev.if_neg (by show ¬ ((lm (dgv 0 b)).length : Int) = 0; rw [lm_length]; omega) ?_
          exact Ev.bind (form_nat (dgv 0 a) (dgv 0 b) h0 (by omega) (by omega)) (Ev.now _)
      · rw [if_neg hb] at pb
        rw [if_pos hb]
        unfold rR
        rw [if_neg hb]
        exact Ev.bind pb (Ev.if_pos hb (Ev.now _))
    · rw [if_neg ha] at pa
      rw [if_pos ha]
      unfold rR
      rw [if_neg ha]
      exact Ev.bind pa (Ev.if_pos ha (Ev.now _))
  | none =>
    dsimp only
    refine Ev.if_neg (by decide) (Ev.bind (cut_ev s hs 46 _ rfl) ?_)
    unfold cutR
    cases h2 : cutL 46 (toL s) with
    | some p =>
      obtain ⟨a, b⟩ := p
      dsimp only
      refine Ev.if_pos rfl ?_
      have pa := nparse_ev (ofL a)
      have pb := nparse_ev (ofL b)
      rw [toL_ofL] at pa pb
      unfold pR at pa pb
      by_cases ha : pE a = 0
      · rw [if_pos ha] at pa
        rw [if_neg (fun h => h ha)]
        refine Ev.bind pa (Ev.if_neg (fun h => h rfl) ?_)
        by_cases hb : pE b = 0
        · rw [if_pos hb] at pb
          refine Ev.bind pb (Ev.if_neg (fun h => h rfl) ?_)
          have hbl := (pE_zero.1 hb).2.2
          have la := pE_len ha
          have lb := pE_len hb
          have lt := len_ten b.length
          have hsz : (ofL b).size = b.length := by rw [size_toL]; rfl
          rw [hsz]
          have hm := mul_ev (lm (dgv 0 a)) (lm (10 ^ b.length)) (lm_ok _).U (lm_ok _).U (by rw [lm_length, lm_length]; omega)
          rw [val_lm, val_lm] at hm
          have lm1 := len_mul (dgv 0 a) (10 ^ b.length)
          have hadd := nadd_ev (lm (dgv 0 a * 10 ^ b.length)) (lm (dgv 0 b)) (lm_ok _).U (lm_ok _).U (by rw [lm_length]; omega) (by rw [lm_length]; omega)
          rw [val_lm, val_lm] at hadd
          have la2 := len_add (dgv 0 a * 10 ^ b.length) (dgv 0 b)
          rw [hb]
          have hf := form_nat (dgv 0 a * 10 ^ b.length + dgv 0 b) (10 ^ b.length) (Nat.pos_iff_ne_zero.1 (Nat.pow_pos (by decide))) (by omega) (by omega)
          exact Ev.bind (ten_ev b.length (by omega)) (Ev.bind hm (Ev.bind hadd (Ev.bind hf (Ev.now _))))
        · rw [if_neg hb] at pb
          unfold rR
          rw [if_neg hb]
          exact Ev.bind pb (Ev.if_pos hb (Ev.now _))
      · rw [if_neg ha] at pa
        rw [if_pos ha]
        unfold rR
        rw [if_neg ha]
        exact Ev.bind pa (Ev.if_pos ha (Ev.now _))
    | none =>
      dsimp only
      refine Ev.if_neg (by decide) ?_
      have pa := nparse_ev s
      unfold pR at pa
      unfold rR
      by_cases ha : pE (toL s) = 0
      · rw [if_pos ha] at pa
        rw [if_pos ha]
        have la := pE_len ha
        have hf := form_nat (dgv 0 (toL s)) 1 (by decide) (by omega) (by rw [len_one]; decide)
        have e : mkRat (dgv 0 (toL s) : Int) 1 = ((dgv 0 (toL s) : Int) : Rat) := Rat.mkRat_self ((dgv 0 (toL s) : Int) : Rat)
        rw [e] at hf
        exact Ev.bind pa (Ev.if_neg (fun h => h rfl) (Ev.bind (ofN_ev 1 (by decide)) (Ev.bind hf (Ev.now _))))
      · rw [if_neg ha] at pa
        rw [if_neg ha]
        exact Ev.bind pa (Ev.if_pos ha (Ev.now _))
end Go.DI.Th
namespace Go.DI.Th
open Go Go.RowKit Go.DI

def sgQ (neg : Bool) (x : Rat) : Rat := if neg = true then -x else x
theorem Sz_sgQ (neg : Bool) (x : Rat) : Sz (sgQ neg x) = Sz x := by
  unfold sgQ
  split
  · exact Sz_neg x
  · rfl
def unm (w : List UInt8) : Bool × List UInt8 := if isPre 45 w = true then (true, w.drop 1) else (false, w)
def prE (w : List UInt8) : Int := plE (unm w).2
def prV (w : List UInt8) : Rat := sgQ (unm w).1 (plV (unm w).2)
theorem plV_sz {w : List UInt8} (h : plE w = 0) : Sz (plV w) ≤ 20100 := by
  unfold plE at h
  unfold plV
  cases h1 : cutL 47 w with
  | some p =>
    obtain ⟨a, b⟩ := p
    rw [h1] at h
    dsimp only at h ⊢
    by_cases ha : pE a = 0
    · rw [if_neg (fun e => e ha)] at h
      by_cases hb : pE b = 0
      · rw [if_neg (fun e => e hb)] at h
        by_cases h0 : dgv 0 b = 0
        · rw [if_pos h0] at h; cases h
        · have := Sz_mk (dgv 0 a : Int) (dgv 0 b) h0
          rw [Int.natAbs_natCast] at this
          have la := pE_len ha
          have lb := pE_len hb
          omega
      · rw [if_pos hb] at h; exact absurd h hb
    · rw [if_pos ha] at h; exact absurd h ha
  | none =>
    rw [h1] at h
    dsimp only at h ⊢
    cases h2 : cutL 46 w with
    | some p =>
      obtain ⟨a, b⟩ := p
      rw [h2] at h
      dsimp only at h ⊢
      by_cases ha : pE a = 0
      · rw [if_neg (fun e => e ha)] at h
        have := Sz_mk ((dgv 0 a * 10 ^ b.length + dgv 0 b : Nat) : Int) (10 ^ b.length) (Nat.pos_iff_ne_zero.1 (Nat.pow_pos (by decide)))
        rw [Int.natAbs_natCast] at this
        have la := pE_len ha
        have lb := pE_len h
        have hbl := (pE_zero.1 h).2.2
        have lt := len_ten b.length
        have lm1 := len_mul (dgv 0 a) (10 ^ b.length)
        have la2 := len_add (dgv 0 a * 10 ^ b.length) (dgv 0 b)
        omega
      · rw [if_pos ha] at h; exact absurd h ha
    | none =>
      rw [h2] at h
      dsimp only at h ⊢
      rw [Sz_int, Int.natAbs_natCast]
      have la := pE_len h
      omega
theorem prV_sz {w : List UInt8} (h : prE w = 0) : Sz (prV w) ≤ 20100 := by
  unfold prV
  rw [Sz_sgQ]
  exact plV_sz h
theorem unm_drop {s : ByteArray} (h : isPre 45 (toL s) = true) : s.extract 1 s.size = ofL ((toL s).drop 1) ∧ 1 ≤ s.size := by
  cases hw : toL s with
  | nil => rw [hw] at h; cases h
  | cons c t =>
    have e : s.extract ([c] : List UInt8).length s.size = ofL t := ext_drop (a := [c]) (b := t) hw
    refine ⟨e, ?_⟩
    have := size_toL s
    rw [hw, List.length_cons] at this
    omega
theorem rparse_ev (s : ByteArray) (hs : s.size ≤ 1125899906842624) : Ev (fun k => ratio_Parse.f k s) (rR (prE (toL s)) (prV (toL s))) := by
  unfold ratio_Parse.f
  rw [prefix_ev]
  unfold prE prV unm
  by_cases hp : isPre 45 (toL s) = true
  · rw [if_pos hp, hp]
    obtain ⟨e1, e2⟩ := unm_drop hp
    rw [e1]
    have hsz : (ofL ((toL s).drop 1)).size ≤ 1125899906842624 := by
      rw [size_toL, toL_ofL, List.length_drop, ← size_toL]
      omega
    have h1 := plain_ev (ofL ((toL s).drop 1)) hsz
    rw [toL_ofL] at h1
    refine Ev.bind (Ev.now true) (Ev.if_pos rfl (Ev.if_pos (by omega) (Ev.bind h1 ?_)))
    dsimp only
    have hsz := plV_sz (w := (toL s).drop 1)
    generalize plE ((toL s).drop 1) = e at hsz ⊢
    generalize plV ((toL s).drop 1) = x at hsz ⊢
    unfold rR
    by_cases h0 : e = 0
    · rw [if_pos h0, if_pos h0]
      have hn := neg_cn (cn x) (cnB x (hsz h0)) (by decide)
      rw [rv_cn] at hn
      exact Ev.if_neg (fun h => h rfl) (Ev.bind hn (Ev.now _))
    · rw [if_neg h0, if_neg h0]
      exact Ev.if_pos h0 (Ev.now _)
  · rw [if_neg hp]
    have hp' : isPre 45 (toL s) = false := by simpa using hp
    rw [hp']
    refine Ev.bind (Ev.now false) (Ev.if_neg (by decide) (Ev.bind (plain_ev s hs) ?_))
    dsimp only
    generalize plE (toL s) = e
    generalize plV (toL s) = x
    unfold rR
    by_cases h0 : e = 0
    · rw [if_pos h0, if_pos h0]
      exact Ev.if_neg (fun h => h rfl) (Ev.now _)
    · rw [if_neg h0, if_neg h0]
      exact Ev.if_pos h0 (Ev.now _)
end Go.DI.Th
namespace Go.DI.Th
open Go Go.RowKit Go.DI

def pickL (s : St) (place : Int) (w : ByteArray) : List ByteArray → Nat → Int × St
  | [], _ => (0, failS s 7 place)
  | x :: l, i => if w = x then ((i : Int), s) else pickL s place w l (i + 1)
def pickS (s : St) (l : List ByteArray) : Int × St := if (wordS s).2.err ≠ 0 then (0, (wordS s).2) else pickL (wordS s).2 (placeS s) (wordS s).1 l 0
theorem pick_l0 (s : St) (place : Int) (w : ByteArray) (ws : List ByteArray) (hw : ws.length ≤ 1000) : ∀ (b a : List ByteArray), ws = a ++ b → Ev (fun k => lex_Reader_Pick.l0 k place w ws (ws.length : Int) (a.length : Int) s.ls s.i s.j s.sz s.err s.at_) ((pickL s place w b a.length).1, (pickL s place w b a.length).2.t) := by
  intro b
  induction b with
  | nil =>
    intro a hr
    rw [List.append_nil] at hr
    refine Ev.succ ?_
    simp only [lex_Reader_Pick.l0, fail_eq]
    exact Ev.if_neg (by rw [hr]; omega) (Ev.now _)
  | cons x b ih =>
    intro a hr
    have e1 := gt_at ByteArray.empty a x b
    have l1 := lt_at a x b
    rw [← hr] at e1 l1
    have hl : ws.length = a.length + (b.length + 1) := by rw [hr, List.length_append, List.length_cons]
    have hih := ih (a ++ [x]) (by rw [hr]; simp)
    refine Ev.succ ?_
    simp only [lex_Reader_Pick.l0, e1, wr_at a x (show a.length ≤ 1125899906842624 by omega)]
    refine Ev.if_pos l1 (Ev.if_pos (nn0 _) (Ev.if_pos l1 ?_))
    rw [pickL]
    by_cases h : w = x
    · rw [if_pos h]
      exact Ev.if_pos h (Ev.now _)
    · rw [if_neg h]
      rw [List.length_append, List.length_singleton] at hih ⊢
      exact Ev.if_neg h hih
theorem pick_ev (s : St) (h : s.Good) (ws : List ByteArray) (hw : ws.length ≤ 1000) : Ev (fun k => lex_Reader_Pick.f k s.ls s.i s.j s.sz s.err s.at_ ws) ((pickS s ws).1, (pickS s ws).2.t) := by
  unfold lex_Reader_Pick.f pickS
  rw [place_eq s h.ok h.l1]
  show Ev (fun k => (lex_Reader_Word.f s.ls s.i s.j s.sz s.err s.at_).bind _) _
  rw [word_eq s h.ok h.l1]
  generalize wordS s = p
  obtain ⟨v, s2⟩ := p
  show Ev (fun k => if (s2.err != 0) = true then some (0, s2.t) else lex_Reader_Pick.l0 k (placeS s) v ws (ws.length : Int) 0 s2.ls s2.i s2.j s2.sz s2.err s2.at_) _
  by_cases he : s2.err ≠ 0
  · rw [if_pos he]
    exact Ev.if_pos (by simpa using he) (Ev.now _)
  · rw [if_neg he]
    exact Ev.if_neg (by simpa using he) (pick_l0 s2 (placeS s) v ws hw ws [] rfl)
theorem pickL_good {s : St} (h : s.Good) (place : Int) (w : ByteArray) : ∀ (l : List ByteArray) (i : Nat), (pickL s place w l i).2.Good
  | [], _ => failS_good h _ _
  | x :: l, i => by
    rw [pickL]
    split
    · exact h
    · exact pickL_good h place w l (i + 1)
theorem pickS_good {s : St} (h : s.Good) (l : List ByteArray) : (pickS s l).2.Good := by
  unfold pickS
  split
  · exact wordS_good h
  · exact pickL_good (wordS_good h) _ _ _ _
def FailS (s : St) (e : Int) : St := if s.err ≠ 0 then s else if e = 0 then s else if s.ls.length ≤ s.i then s else if s.j = 0 then s else failS s e (s.line.getD (s.j - 1) w0).1
theorem Fail_eq (s : St) (h : s.Good) (e : Int) : lex_Reader_Fail.f s.ls s.i s.j s.sz s.err s.at_ e = some (FailS s e).t := by
  unfold lex_Reader_Fail.f FailS
  rw [off_eq]
  show (if (s.err != 0) = true then some s.t else if e = 0 then some s.t else if (s.i : Int) ≥ (s.ls.length : Int) then some s.t else if (s.j : Int) = 0 then some s.t else (if 0 ≤ (s.i : Int) then (if (s.i : Int) < (s.ls.length : Int) then (if 0 ≤ (wrap64 ((s.j : Int) - 1)) then (if (wrap64 ((s.j : Int) - 1)) < (s.line.length : Int) then ((lex_Reader_fail.f s.ls s.i s.j s.sz s.err s.at_ e ((gt (0, 0, ByteArray.empty) s.line (wrap64 ((s.j : Int) - 1))).1)).bind fun v45 => some v45) else none) else none) else none) else none)) = _
  by_cases he : s.err ≠ 0
  · rw [if_pos (by simpa using he), if_pos he]
  · rw [if_neg (by simpa using he), if_neg he]
    by_cases h0 : e = 0
    · rw [if_pos h0, if_pos h0]
    · rw [if_neg h0, if_neg h0]
      by_cases hi : s.ls.length ≤ s.i
      · rw [if_pos (by omega), if_pos hi]
      · rw [if_neg (by omega), if_neg hi]
        by_cases hj : s.j = 0
        · rw [if_pos (by omega), if_pos hj]
        · have hjl := h.ok.jl
          have hjb := h.ok.jb
          have q1 : (s.i : Int) < (s.ls.length : Int) := by omega
          have q2 : ((s.j - 1 : Nat) : Int) < (s.line.length : Int) := by omega
          have ew : wrap64 ((s.j : Int) - 1) = ((s.j - 1 : Nat) : Int) := by rw [wrap_id (by omega) (by omega)]; omega
          have q3 : ¬ (s.j : Int) = 0 := by clear ew; omega
          rw [if_neg q3, if_neg hj, ew, if_pos (nn0 _), if_pos q1, if_pos (nn0 _), if_pos q2, gt_nat, fail_eq]
          rfl
theorem FailS_good {s : St} (h : s.Good) (e : Int) : (FailS s e).Good := by
  unfold FailS
  split
  · exact h
  · split
    · exact h
    · split
      · exact h
      · split
        · exact h
        · exact failS_good h _ _
theorem word_err {s : St} (h : s.err ≠ 0) : wordS s = (ByteArray.empty, s) := by unfold wordS; rw [if_pos h]
theorem take_err {s : St} (h : s.err ≠ 0) (w : ByteArray) : takeS s w = s := by unfold takeS; rw [word_err h]; exact if_pos h
theorem next_err {s : St} (h : s.err ≠ 0) : nextS s = s := by unfold nextS; rw [if_pos h]
theorem end_err {s : St} (h : s.err ≠ 0) : endS s = s := by unfold endS; rw [if_pos h]
theorem count_err {s : St} (h : s.err ≠ 0) (lo hi : Int) : countS s lo hi = (0, s) := by unfold countS; rw [word_err h]; exact if_pos h
theorem pick_err {s : St} (h : s.err ≠ 0) (l : List ByteArray) : pickS s l = (0, s) := by unfold pickS; rw [word_err h]; exact if_pos h
theorem Fail_err {s : St} (h : s.err ≠ 0) (e : Int) : FailS s e = s := by unfold FailS; rw [if_pos h]
def numS (s : St) : Rt × St := (if prE (toL (wordS s).1) = 0 then cn (prV (toL (wordS s).1)) else (false, [], []), FailS (wordS s).2 (prE (toL (wordS s).1)))
theorem num_err {s : St} (h : s.err ≠ 0) : (numS s).2 = s := by unfold numS; rw [word_err h]; exact Fail_err h _
theorem numS_good {s : St} (h : s.Good) : (numS s).2.Good := FailS_good (wordS_good h) _
theorem numS_ok (s : St) : RtOk (numS s).1 := by
  unfold numS
  dsimp only
  by_cases h : prE (toL (wordS s).1) = 0
  · rw [if_pos h]
    exact cnB (b := 1048576) _ (Nat.le_trans (prV_sz h) (by decide))
  · rw [if_neg h]
    exact ⟨fun x hx => (by cases hx), fun x hx => (by cases hx), by decide, by decide⟩
theorem mnum_ev (s : St) (h : s.Good) : Ev (fun k => model_number.f k s.ls s.i s.j s.sz s.err s.at_) ((numS s).1.1, (numS s).1.2.1, (numS s).1.2.2, (numS s).2.t) := by
  unfold model_number.f numS
  rw [word_eq s h.ok h.l1]
  have h2 := wordS_good h
  have h3 := wordS_size h
  generalize wordS s = p at h2 h3 ⊢
  obtain ⟨v, s2⟩ := p
  have h2 : s2.Good := h2
  have h3 : v.size ≤ 1048576 := h3
  have hp := rparse_ev v (by omega)
  refine Ev.bind (Ev.now (v, s2.t)) (Ev.bind hp ?_)
  show Ev (fun k => (lex_Reader_Fail.f s2.ls s2.i s2.j s2.sz s2.err s2.at_ (rR (prE (toL v)) (prV (toL v))).2.2.2).bind _) _
  rw [Fail_eq s2 h2]
  dsimp only
  unfold rR
  by_cases he : prE (toL v) = 0
  · rw [if_pos he, if_pos he]
    rw [he]
    exact Ev.bind (Ev.now _) (Ev.if_neg (fun h => h rfl) (Ev.now _))
  · rw [if_neg he, if_neg he]
    exact Ev.bind (Ev.now _) (Ev.if_pos he (Ev.now _))
theorem lnum_ev (s : St) (h : s.Good) : Ev (fun k => dendronlaw07_read.f k s.ls s.i s.j s.sz s.err s.at_) ((numS s).1.1, (numS s).1.2.1, (numS s).1.2.2, (numS s).2.t) := mnum_ev s h
def leafL : List ByteArray := [⟨#[108, 101, 97, 102]⟩, ⟨#[115, 112, 108, 105, 116]⟩]
def missL : List ByteArray := [⟨#[109, 105, 115, 115, 45, 108, 101, 102, 116]⟩, ⟨#[109, 105, 115, 115, 45, 114, 105, 103, 104, 116]⟩]
def leafS (s : St) : Nd × St := ((true, 0, false, [], [], 0, 0, false, (numS s).1.1, (numS s).1.2.1, (numS s).1.2.2, (numS (numS s).2).1.1, (numS (numS s).2).1.2.1, (numS (numS s).2).1.2.2), nextS (numS (numS s).2).2)
def sp1 (s : St) := countS s 0 64
def sp2 (s : St) := numS (sp1 s).2
def sp3 (s : St) := countS (sp2 s).2 0 255
def sp4 (s : St) := countS (sp3 s).2 0 255
def sp5 (s : St) := pickS (sp4 s).2 missL
def sp6 (s : St) := numS (sp5 s).2
def splitS (s : St) : Nd × St := ((false, (sp1 s).1, (sp2 s).1.1, (sp2 s).1.2.1, (sp2 s).1.2.2, (sp3 s).1, (sp4 s).1, ((sp5 s).1 == 0), false, [], [], (sp6 s).1.1, (sp6 s).1.2.1, (sp6 s).1.2.2), nextS (sp6 s).2)
def nodeS (s : St) : Nd × St := if (pickS s leafL).1 = 0 then leafS (pickS s leafL).2 else splitS (pickS s leafL).2
theorem split_good {s : St} (h : s.Good) : (sp1 s).2.Good ∧ (sp2 s).2.Good ∧ (sp3 s).2.Good ∧ (sp4 s).2.Good ∧ (sp5 s).2.Good ∧ (sp6 s).2.Good := by
  have h1 : (sp1 s).2.Good := countS_good h _ _
  have h2 : (sp2 s).2.Good := numS_good h1
  have h3 : (sp3 s).2.Good := countS_good h2 _ _
  have h4 : (sp4 s).2.Good := countS_good h3 _ _
  have h5 : (sp5 s).2.Good := pickS_good h4 _
  exact ⟨h1, h2, h3, h4, h5, numS_good h5⟩
theorem nodeS_good {s : St} (h : s.Good) : (nodeS s).2.Good := by
  have h1 := pickS_good h leafL
  unfold nodeS
  split
  · exact nextS_good (numS_good (numS_good h1))
  · exact nextS_good (split_good h1).2.2.2.2.2
theorem node_err {s : St} (h : s.err ≠ 0) : (nodeS s).2 = s := by
  unfold nodeS
  rw [pick_err h, if_pos rfl]
  show nextS (numS (numS s).2).2 = s
  rw [num_err h, num_err h, next_err h]
theorem nodeS_ok (s : St) : NdOk (nodeS s).1 := by
  have z : RtOk (false, [], []) := ⟨fun x hx => (by cases hx), fun x hx => (by cases hx), by decide, by decide⟩
  unfold nodeS
  split
  · exact ⟨z, numS_ok _, numS_ok _⟩
  · exact ⟨numS_ok _, z, numS_ok _⟩
theorem mnode_ev (s : St) (h : s.Good) : Ev (fun k => model_node.f k s.ls s.i s.j s.sz s.err s.at_) ((nodeS s).1.1, (nodeS s).1.2.1, (nodeS s).1.2.2.1, (nodeS s).1.2.2.2.1, (nodeS s).1.2.2.2.2.1, (nodeS s).1.2.2.2.2.2.1, (nodeS s).1.2.2.2.2.2.2.1, (nodeS s).1.2.2.2.2.2.2.2.1, (nodeS s).1.2.2.2.2.2.2.2.2.1, (nodeS s).1.2.2.2.2.2.2.2.2.2.1, (nodeS s).1.2.2.2.2.2.2.2.2.2.2.1, (nodeS s).1.2.2.2.2.2.2.2.2.2.2.2.1, (nodeS s).1.2.2.2.2.2.2.2.2.2.2.2.2.1, (nodeS s).1.2.2.2.2.2.2.2.2.2.2.2.2.2, (nodeS s).2.t) := by
  unfold model_node.f nodeS
  have hp := pick_ev s h leafL (by decide)
  have h1 := pickS_good h leafL
  refine Ev.bind hp ?_
  generalize pickS s leafL = p at h1 ⊢
  obtain ⟨i, t⟩ := p
  have h1 : t.Good := h1
  by_cases hi : i = 0
  · rw [if_pos hi]
    have n1 := mnum_ev t h1
    have g1 := numS_good h1
    have n2 := mnum_ev _ g1
    have g2 := numS_good g1
    refine Ev.if_pos hi (Ev.bind n1 (Ev.bind n2 ?_))
    show Ev (fun k => (lex_Reader_Next.f (numS (numS t).2).2.ls (numS (numS t).2).2.i (numS (numS t).2).2.j (numS (numS t).2).2.sz (numS (numS t).2).2.err (numS (numS t).2).2.at_).bind _) _
    rw [next_eq _ g2.ok g2.l1]
    exact Ev.bind (Ev.now _) (Ev.now _)
  · rw [if_neg hi]
    obtain ⟨g1, g2, g3, g4, g5, g6⟩ := split_good h1
    have c1 := count_ev t h1 0 64
    have c2 := mnum_ev _ g1
    have c3 := count_ev _ g2 0 255
    have c4 := count_ev _ g3 0 255
    have c5 := pick_ev _ g4 missL (by decide)
    have c6 := mnum_ev _ g5
    refine Ev.if_neg hi (Ev.bind c1 (Ev.bind c2 (Ev.bind c3 (Ev.bind c4 (Ev.bind c5 (Ev.bind c6 ?_))))))
    show Ev (fun k => (lex_Reader_Next.f (sp6 t).2.ls (sp6 t).2.i (sp6 t).2.j (sp6 t).2.sz (sp6 t).2.err (sp6 t).2.at_).bind _) _
    rw [next_eq _ g6.ok g6.l1]
    exact Ev.bind (Ev.now _) (Ev.now _)
def nodesS : Nat → St → List Nd → List Nd × St
  | 0, s, acc => (acc, s)
  | m + 1, s, acc => if (nodeS s).2.err ≠ 0 then ([], (nodeS s).2) else nodesS m (nodeS s).2 (acc ++ [(nodeS s).1])
theorem nodesS_good : ∀ (m : Nat) {s : St} (acc : List Nd), s.Good → (nodesS m s acc).2.Good
  | 0, _, _, h => h
  | m + 1, s, acc, h => by
    rw [nodesS]
    split
    · exact nodeS_good h
    · exact nodesS_good m _ (nodeS_good h)
theorem nodes_l0 (N : Nat) (hN : N ≤ 255) : ∀ (m i : Nat) (s : St) (acc : List Nd), i + m = N → acc.length = i → s.Good → Ev (fun k => model_tree.l0 k acc (N : Int) (i : Int) s.ls s.i s.j s.sz s.err s.at_) ((nodesS m s acc).1, (nodesS m s acc).2.t) := by
  intro m
  induction m with
  | zero =>
    intro i s acc hi ha h
    refine Ev.succ ?_
    simp only [model_tree.l0]
    exact Ev.if_neg (by omega) (Ev.now _)
  | succ m ih =>
    intro i s acc hi ha h
    have hn := mnode_ev s h
    have hg := nodeS_good h
    refine Ev.succ ?_
    simp only [model_tree.l0, wr_succ i (show i ≤ 1125899906842624 by omega)]
    refine Ev.if_pos (by omega) (Ev.bind hn ?_)
    rw [nodesS]
    refine Ev.bind (Ev.now _) ?_
    by_cases he : (nodeS s).2.err ≠ 0
    · rw [if_pos he]
      exact Ev.if_pos he (Ev.now _)
    · rw [if_neg he]
      exact Ev.if_neg he (Ev.if_pos (by omega) (ih (i + 1) (nodeS s).2 (acc ++ [(nodeS s).1]) (by omega) (by rw [List.length_append, List.length_singleton, ha]) hg))
def tr1 (s : St) := countS (takeS s ⟨#[116, 114, 101, 101]⟩) 1 255
def treeS (s : St) : List Nd × St := nodesS (tr1 s).1.toNat (nextS (tr1 s).2) []
theorem countS_range (s : St) (lo hi : Int) (h0 : 0 ≤ lo) (h1 : 0 ≤ hi) : 0 ≤ (countS s lo hi).1 ∧ (countS s lo hi).1 ≤ hi := by
  unfold countS
  split
  · exact ⟨Int.le_refl _, h1⟩
  · split
    · split
      · exact ⟨Int.le_refl _, h1⟩
      · split
        · exact ⟨Int.le_refl _, h1⟩
        · constructor <;> (show _ ≤ _; omega)
    · exact ⟨Int.le_refl _, h1⟩
theorem treeS_good {s : St} (h : s.Good) : (treeS s).2.Good := nodesS_good _ _ (nextS_good (countS_good (takeS_good h _) _ _))
theorem mtree_ev (s : St) (h : s.Good) : Ev (fun k => model_tree.f k s.ls s.i s.j s.sz s.err s.at_) ((treeS s).1, (treeS s).2.t) := by
  unfold model_tree.f
  have g1 := takeS_good h ⟨#[116, 114, 101, 101]⟩
  have g2 : (tr1 s).2.Good := countS_good g1 _ _
  have c := count_ev _ g1 1 255
  obtain ⟨r1, r2⟩ := countS_range (takeS s ⟨#[116, 114, 101, 101]⟩) 1 255 (by decide) (by decide)
  rw [take_eq s _ h.ok h.l1]
  refine Ev.bind (Ev.now _) (Ev.bind c ?_)
  show Ev (fun k => (lex_Reader_Next.f (tr1 s).2.ls (tr1 s).2.i (tr1 s).2.j (tr1 s).2.sz (tr1 s).2.err (tr1 s).2.at_).bind _) _
  rw [next_eq _ g2.ok g2.l1]
  refine Ev.bind (Ev.now _) ?_
  have := nodes_l0 (tr1 s).1.toNat (by show (countS _ _ _).1.toNat ≤ 255; omega) (tr1 s).1.toNat 0 (nextS (tr1 s).2) [] (by omega) rfl (nextS_good g2)
  rw [Int.toNat_of_nonneg (show 0 ≤ (tr1 s).1 from r1)] at this
  exact this
def treesS : Nat → St → List (List Nd) → List (List Nd) × St
  | 0, s, acc => (acc, s)
  | m + 1, s, acc => if (treeS s).2.err ≠ 0 then (acc, (treeS s).2) else treesS m (treeS s).2 (acc ++ [(treeS s).1])
abbrev MR := Int × List (List Nd) × Int × Int × Int × Int
def fin1 (s : St) : St := endS (nextS (takeS s ⟨#[101, 110, 100]⟩))
def finS (f : Int) (ts : List (List Nd)) (s : St) : MR := if (fin1 s).err ≠ 0 then (0, [], (fin1 s).err, (fin1 s).at_, 0, 0) else (f, ts, 0, 0, 0, 0)
theorem fin_err {s : St} (h : s.err ≠ 0) (f : Int) (ts : List (List Nd)) : finS f ts s = (0, [], s.err, s.at_, 0, 0) := by
  have e : fin1 s = s := by unfold fin1; rw [take_err h, next_err h, end_err h]
  unfold finS
  rw [e, if_pos h]
def hd1 (x : ByteArray) := takeS (nextS (takeS (takeS (readS x) ⟨#[100, 101, 110, 100, 114, 111, 110]⟩) ⟨#[49]⟩)) ⟨#[102, 101, 97, 116, 117, 114, 101, 115]⟩
def hd2 (x : ByteArray) := countS (hd1 x) 0 64
def hd3 (x : ByteArray) := takeS (nextS (hd2 x).2) ⟨#[116, 114, 101, 101, 115]⟩
def hd4 (x : ByteArray) := countS (hd3 x) 0 64
def readM (x : ByteArray) : MR := finS (hd2 x).1 (treesS (hd4 x).1.toNat (nextS (hd4 x).2) []).1 (treesS (hd4 x).1.toNat (nextS (hd4 x).2) []).2
theorem hd_good (x : ByteArray) : (hd1 x).Good ∧ (hd2 x).2.Good ∧ (hd3 x).Good ∧ (hd4 x).2.Good := by
  have h0 := readS_good x
  have h1 : (hd1 x).Good := takeS_good (nextS_good (takeS_good (takeS_good h0 _) _)) _
  have h2 : (hd2 x).2.Good := countS_good h1 _ _
  have h3 : (hd3 x).Good := takeS_good (nextS_good h2) _
  exact ⟨h1, h2, h3, countS_good h3 _ _⟩
end Go.DI.Th
namespace Go.DI.Th
open Go Go.RowKit Go.DI

theorem fin_ev (f : Int) (ts : List (List Nd)) (s : St) (h : s.Good) : Ev (fun _ => ((lex_Reader_Take.f s.ls s.i s.j s.sz s.err s.at_ (⟨#[101, 110, 100]⟩ : ByteArray)).bind fun v2 => ((lex_Reader_Next.f v2.1 v2.2.1 v2.2.2.1 v2.2.2.2.1 v2.2.2.2.2.1 v2.2.2.2.2.2).bind fun v4 => ((lex_Reader_End.f v4.1 v4.2.1 v4.2.2.1 v4.2.2.2.1 v4.2.2.2.2.1 v4.2.2.2.2.2).bind fun v6 => ((lex_Reader_Err.f v6.1 v6.2.1 v6.2.2.1 v6.2.2.2.1 v6.2.2.2.2.1 v6.2.2.2.2.2).bind fun v8 => (if v8.1 ≠ 0 then (some ((0 : Int), ([] : List (List Nd)), v8.1, v8.2.1, (0 : Int), (0 : Int))) else (some (f, ts, 0, 0, 0, 0)))))))) (finS f ts s) := by
  have g1 := takeS_good h ⟨#[101, 110, 100]⟩
  have g2 := nextS_good g1
  rw [take_eq s _ h.ok h.l1]
  refine Ev.bind (Ev.now _) ?_
  show Ev (fun _ => (lex_Reader_Next.f (takeS s ⟨#[101, 110, 100]⟩).ls (takeS s ⟨#[101, 110, 100]⟩).i (takeS s ⟨#[101, 110, 100]⟩).j (takeS s ⟨#[101, 110, 100]⟩).sz (takeS s ⟨#[101, 110, 100]⟩).err (takeS s ⟨#[101, 110, 100]⟩).at_).bind _) _
  rw [next_eq _ g1.ok g1.l1]
  refine Ev.bind (Ev.now _) ?_
  show Ev (fun _ => (lex_Reader_End.f (nextS (takeS s ⟨#[101, 110, 100]⟩)).ls (nextS (takeS s ⟨#[101, 110, 100]⟩)).i (nextS (takeS s ⟨#[101, 110, 100]⟩)).j (nextS (takeS s ⟨#[101, 110, 100]⟩)).sz (nextS (takeS s ⟨#[101, 110, 100]⟩)).err (nextS (takeS s ⟨#[101, 110, 100]⟩)).at_).bind _) _
  rw [end_eq _ g2.ok g2.l1]
  refine Ev.bind (Ev.now _) (Ev.bind (Ev.now _) ?_)
  unfold finS
  by_cases he : (fin1 s).err ≠ 0
  · rw [if_pos he]
    exact Ev.if_pos he (Ev.now _)
  · rw [if_neg he]
    exact Ev.if_neg he (Ev.now _)
theorem mread_l0 (f : Int) (N : Nat) (hN : N ≤ 64) (z1 z2 z3 z4 z5 : Int) : ∀ (m i : Nat) (s : St) (acc : List (List Nd)), i + m = N → acc.length = i → s.Good →
    Ev (fun k => model_Read.l0 k (N : Int) (i : Int) z1 z2 z3 z4 z5 f acc s.ls s.i s.j s.sz s.err s.at_) (finS f (treesS m s acc).1 (treesS m s acc).2) := by
  intro m
  induction m with
  | zero =>
    intro i s acc hi ha h
    refine Ev.succ ?_
    simp only [model_Read.l0]
    exact Ev.if_neg (by omega) (fin_ev f acc s h)
  | succ m ih =>
    intro i s acc hi ha h
    have hg := treeS_good h
    refine Ev.succ ?_
    simp only [model_Read.l0, wr_succ i (show i ≤ 1125899906842624 by omega)]
    refine Ev.if_pos (by omega) (Ev.bind (mtree_ev s h) (Ev.bind (Ev.now _) ?_))
    rw [treesS]
    by_cases he : (treeS s).2.err ≠ 0
    · rw [if_pos he]
      exact Ev.if_pos he (fin_ev f acc _ hg)
    · rw [if_neg he]
      exact Ev.if_neg he (Ev.if_pos (by omega) (ih (i + 1) (treeS s).2 (acc ++ [(treeS s).1]) (by omega) (by rw [List.length_append, List.length_singleton, ha]) hg))
theorem top_ev {R : MR} (x : ByteArray) (L : Nat → Int → Int → RT → Option MR)
    (hL : Ev (fun k => L k (hd4 x).1 (hd2 x).1 (nextS (hd4 x).2).t) R) :
    Ev (fun k => (lex_Read.f k x).bind fun v3 => ((lex_Reader_Take.f v3.1 v3.2.1 v3.2.2.1 v3.2.2.2.1 v3.2.2.2.2.1 v3.2.2.2.2.2 (⟨#[100, 101, 110, 100, 114, 111, 110]⟩ : ByteArray)).bind fun v9 => ((lex_Reader_Take.f v9.1 v9.2.1 v9.2.2.1 v9.2.2.2.1 v9.2.2.2.2.1 v9.2.2.2.2.2 (⟨#[49]⟩ : ByteArray)).bind fun v11 => ((lex_Reader_Next.f v11.1 v11.2.1 v11.2.2.1 v11.2.2.2.1 v11.2.2.2.2.1 v11.2.2.2.2.2).bind fun v13 => ((lex_Reader_Take.f v13.1 v13.2.1 v13.2.2.1 v13.2.2.2.1 v13.2.2.2.2.1 v13.2.2.2.2.2 (⟨#[102, 101, 97, 116, 117, 114, 101, 115]⟩ : ByteArray)).bind fun v15 => ((lex_Reader_Count.f k v15.1 v15.2.1 v15.2.2.1 v15.2.2.2.1 v15.2.2.2.2.1 v15.2.2.2.2.2 0 64).bind fun v17 => ((lex_Reader_Next.f v17.2.1 v17.2.2.1 v17.2.2.2.1 v17.2.2.2.2.1 v17.2.2.2.2.2.1 v17.2.2.2.2.2.2).bind fun v21 => ((lex_Reader_Take.f v21.1 v21.2.1 v21.2.2.1 v21.2.2.2.1 v21.2.2.2.2.1 v21.2.2.2.2.2 (⟨#[116, 114, 101, 101, 115]⟩ : ByteArray)).bind fun v23 => ((lex_Reader_Count.f k v23.1 v23.2.1 v23.2.2.1 v23.2.2.2.1 v23.2.2.2.2.1 v23.2.2.2.2.2 0 64).bind fun v25 => ((lex_Reader_Next.f v25.2.1 v25.2.2.1 v25.2.2.2.1 v25.2.2.2.2.1 v25.2.2.2.2.2.1 v25.2.2.2.2.2.2).bind fun v28 => L k v25.1 v17.1 (v28.1, v28.2.1, v28.2.2.1, v28.2.2.2.1, v28.2.2.2.2.1, v28.2.2.2.2.2))))))))))) R := by
  have g0 := readS_good x
  have g1 := takeS_good g0 ⟨#[100, 101, 110, 100, 114, 111, 110]⟩
  have g2 := takeS_good g1 ⟨#[49]⟩
  have g3 := nextS_good g2
  obtain ⟨k1, k2, k3, k4⟩ := hd_good x
  have g5 := nextS_good k2
  have c1 := count_ev _ k1 0 64
  have c2 := count_ev _ k3 0 64
  have st : ∀ (s : St) (w : ByteArray), s.Good → Ev (fun _ => lex_Reader_Take.f s.ls s.i s.j s.sz s.err s.at_ w) (takeS s w).t := fun s w h => Ev.congr (fun _ => take_eq s w h.ok h.l1) (Ev.now _)
  have sn : ∀ (s : St), s.Good → Ev (fun _ => lex_Reader_Next.f s.ls s.i s.j s.sz s.err s.at_) (nextS s).t := fun s h => Ev.congr (fun _ => next_eq s h.ok h.l1) (Ev.now _)
  exact Ev.bind (read_ev x) (Ev.bind (st _ _ g0) (Ev.bind (st _ _ g1) (Ev.bind (sn _ g2) (Ev.bind (st _ _ g3) (Ev.bind c1 (Ev.bind (sn _ k2) (Ev.bind (st _ _ g5) (Ev.bind c2 (Ev.bind (sn _ k4) hL)))))))))
theorem mread_ev (x : ByteArray) : Ev (fun k => model_Read.f k x) (readM x) := by
  unfold model_Read.f readM
  obtain ⟨k1, k2, k3, k4⟩ := hd_good x
  obtain ⟨r1, r2⟩ := countS_range (hd3 x) 0 64 (by decide) (by decide)
  refine top_ev x (fun k n f t => model_Read.l0 k n 0 0 0 0 0 0 f [] t.1 t.2.1 t.2.2.1 t.2.2.2.1 t.2.2.2.2.1 t.2.2.2.2.2) ?_
  have := mread_l0 (hd2 x).1 (hd4 x).1.toNat (by show (countS _ _ _).1.toNat ≤ 64; omega) 0 0 0 0 0 (hd4 x).1.toNat 0 (nextS (hd4 x).2) [] (by omega) rfl (nextS_good k4)
  rw [Int.toNat_of_nonneg (show 0 ≤ (hd4 x).1 from r1)] at this
  exact this
theorem nodesS_err {s : St} (h : s.err ≠ 0) : ∀ (m : Nat) (acc : List Nd), (nodesS m s acc).2 = s
  | 0, _ => rfl
  | m + 1, acc => by rw [nodesS, node_err h, if_pos h]
theorem tree_err {s : St} (h : s.err ≠ 0) : (treeS s).2 = s := by
  unfold treeS tr1
  rw [take_err h, count_err h]
  show (nodesS 0 (nextS s) []).2 = s
  rw [next_err h]
  rfl
theorem treesS_err {s : St} (h : s.err ≠ 0) : ∀ (m : Nat) (acc : List (List Nd)), (treesS m s acc).2 = s
  | 0, _ => rfl
  | m + 1, acc => by rw [treesS, tree_err h, if_pos h]
def aft (f : Int) (acc : List (List Nd)) (rest : Nat) (p : List Nd × St) : MR := if p.2.err ≠ 0 then (0, [], p.2.err, p.2.at_, 0, 0) else finS f (treesS rest p.2 (acc ++ [p.1])).1 (treesS rest p.2 (acc ++ [p.1])).2
theorem trees_aft (f : Int) (m : Nat) (s : St) (acc : List (List Nd)) : finS f (treesS (m + 1) s acc).1 (treesS (m + 1) s acc).2 = aft f acc m (treeS s) := by
  rw [treesS]
  unfold aft
  by_cases he : (treeS s).2.err ≠ 0
  · rw [if_pos he, if_pos he, fin_err he]
  · rw [if_neg he, if_neg he]
theorem aft_err {f : Int} {acc : List (List Nd)} {rest : Nat} {t : List Nd} {s : St} (h : s.err ≠ 0) : finS f (treesS rest s (acc ++ [t])).1 (treesS rest s (acc ++ [t])).2 = (0, [], s.err, s.at_, 0, 0) := by
  rw [treesS_err h, fin_err h]
theorem ok_ev (s : St) : Ev (fun _ => dendronlaw07_ok.f s.ls s.i s.j s.sz s.err s.at_) ((s.err == 0), s.t) := Ev.now _
theorem lparse_l1 (f : Int) (N i : Nat) (hN : N ≤ 64) (z1 z2 z3 z4 z5 : Int) (acc : List (List Nd)) (ha : acc.length = i) (hi : i < N)
    (ih0 : ∀ (s : St) (acc' : List (List Nd)), acc'.length = i + 1 → s.Good → Ev (fun k => dendronlaw07_parse.l0 k (N : Int) ((i + 1 : Nat) : Int) z1 z2 z3 z4 z5 f acc' s.ls s.i s.j s.sz s.err s.at_) (finS f (treesS (N - (i + 1)) s acc').1 (treesS (N - (i + 1)) s acc').2))
    (M : Nat) (hM : M ≤ 255) (x41 : Bool) : ∀ (m j : Nat) (s : St) (t : List Nd), j + m = M → t.length = j → s.Good →
    Ev (fun k => dendronlaw07_parse.l1 k (N : Int) (i : Int) (M : Int) t (j : Int) x41 z1 z2 z3 z4 z5 f acc s.ls s.i s.j s.sz s.err s.at_) (aft f acc (N - (i + 1)) (nodesS m s t)) := by
  intro m
  induction m with
  | zero =>
    intro j s t hj ht h
    refine Ev.succ ?_
    simp only [dendronlaw07_parse.l1, wr_succ i (show i ≤ 1125899906842624 by omega)]
    refine Ev.if_neg (by omega) (Ev.if_pos (by omega) ((ih0 s (acc ++ [t]) (by rw [List.length_append, List.length_singleton, ha]) h).of_eq ?_))
    rw [nodesS]
    unfold aft
    dsimp only
    by_cases he : s.err ≠ 0
    · rw [if_pos he, aft_err he]
    · rw [if_neg he]
  | succ m ih =>
    intro j s t hj ht h
    refine Ev.succ ?_
    simp only [dendronlaw07_parse.l1, wr_succ i (show i ≤ 1125899906842624 by omega), wr_succ j (show j ≤ 1125899906842624 by omega)]
    refine Ev.if_pos (by omega) (Ev.bind (ok_ev s) ?_)
    by_cases he : s.err ≠ 0
    · have e2 : aft f acc (N - (i + 1)) (nodesS (m + 1) s t) = (0, [], s.err, s.at_, 0, 0) := by
        unfold aft
        rw [nodesS_err he, if_pos he]
      rw [e2]
      refine Ev.if_neg (by simpa using he) (Ev.if_pos (by omega) ((ih0 s (acc ++ [t]) (by rw [List.length_append, List.length_singleton, ha]) h).of_eq (aft_err he)))
    · refine Ev.if_pos (by simpa using he) ?_
      have hp := pick_ev s h leafL (by decide)
      have h1 := pickS_good h leafL
      have next : Ev (fun k => dendronlaw07_parse.l1 k (N : Int) (i : Int) (M : Int) (t ++ [(nodeS s).1]) ((j + 1 : Nat) : Int) x41 z1 z2 z3 z4 z5 f acc (nodeS s).2.ls (nodeS s).2.i (nodeS s).2.j (nodeS s).2.sz (nodeS s).2.err (nodeS s).2.at_) (aft f acc (N - (i + 1)) (nodesS (m + 1) s t)) := by
        refine (ih (j + 1) (nodeS s).2 (t ++ [(nodeS s).1]) (by omega) (by rw [List.length_append, List.length_singleton, ht]) (nodeS_good h)).of_eq ?_
        rw [nodesS]
        by_cases hn : (nodeS s).2.err ≠ 0
        · rw [if_pos hn]
          unfold aft
          rw [nodesS_err hn, if_pos hn]
          exact (if_pos hn).symm
        · rw [if_neg hn]
      refine Ev.bind hp ?_
      unfold nodeS at next
      generalize pickS s leafL = p at h1 next ⊢
      obtain ⟨q, u⟩ := p
      have h1 : u.Good := h1
      by_cases hq : q = 0
      · subst hq
        have n1 := lnum_ev u h1
        have g1 := numS_good h1
        have n2 := lnum_ev _ g1
        have g2 := numS_good g1
        refine Ev.if_pos rfl (Ev.bind n1 (Ev.bind n2 ?_))
        show Ev (fun k => (lex_Reader_Next.f (numS (numS u).2).2.ls (numS (numS u).2).2.i (numS (numS u).2).2.j (numS (numS u).2).2.sz (numS (numS u).2).2.err (numS (numS u).2).2.at_).bind _) _
        rw [next_eq _ g2.ok g2.l1]
        exact Ev.bind (Ev.now _) (Ev.if_pos (by omega) next)
      · rw [if_neg (show ¬ (q, u).1 = 0 from hq)] at next
        obtain ⟨g1, g2, g3, g4, g5, g6⟩ := split_good h1
        have c1 := count_ev u h1 0 64
        have c2 := lnum_ev _ g1
        have c3 := count_ev _ g2 0 255
        have c4 := count_ev _ g3 0 255
        have c5 := pick_ev _ g4 missL (by decide)
        have c6 := lnum_ev _ g5
        have eq0 : (q == 0) = false := beq_false_of_ne hq
        refine Ev.if_neg (by rw [eq0]; decide) (Ev.bind c1 (Ev.bind c2 (Ev.bind c3 (Ev.bind c4 (Ev.bind c5 (Ev.bind c6 ?_))))))
        show Ev (fun k => (lex_Reader_Next.f (sp6 u).2.ls (sp6 u).2.i (sp6 u).2.j (sp6 u).2.sz (sp6 u).2.err (sp6 u).2.at_).bind _) _
        rw [next_eq _ g6.ok g6.l1]
        refine Ev.bind (Ev.now _) (Ev.if_pos (by omega) ?_)
        rw [eq0]
        exact next
theorem lparse_l0 (f : Int) (N : Nat) (hN : N ≤ 64) (z1 z2 z3 z4 z5 : Int) : ∀ (m i : Nat) (s : St) (acc : List (List Nd)), i + m = N → acc.length = i → s.Good →
    Ev (fun k => dendronlaw07_parse.l0 k (N : Int) (i : Int) z1 z2 z3 z4 z5 f acc s.ls s.i s.j s.sz s.err s.at_) (finS f (treesS m s acc).1 (treesS m s acc).2) := by
  intro m
  induction m with
  | zero =>
    intro i s acc hi ha h
    refine Ev.succ ?_
    simp only [dendronlaw07_parse.l0]
    exact Ev.if_neg (by omega) (fin_ev f acc s h)
  | succ m ih =>
    intro i s acc hi ha h
    refine Ev.succ ?_
    simp only [dendronlaw07_parse.l0]
    refine Ev.if_pos (by omega) (Ev.bind (ok_ev s) ?_)
    by_cases he : s.err ≠ 0
    · refine Ev.if_neg (by simpa using he) ((fin_ev f acc s h).of_eq ?_)
      rw [treesS_err he, fin_err he, fin_err he]
    · refine Ev.if_pos (by simpa using he) ?_
      rw [trees_aft]
      have g1 := takeS_good h ⟨#[116, 114, 101, 101]⟩
      have g2 : (tr1 s).2.Good := countS_good g1 _ _
      have c := count_ev _ g1 1 255
      obtain ⟨r1, r2⟩ := countS_range (takeS s ⟨#[116, 114, 101, 101]⟩) 1 255 (by decide) (by decide)
      have st : Ev (fun _ => lex_Reader_Take.f s.ls s.i s.j s.sz s.err s.at_ ⟨#[116, 114, 101, 101]⟩) (takeS s ⟨#[116, 114, 101, 101]⟩).t := Ev.congr (fun _ => take_eq s _ h.ok h.l1) (Ev.now _)
      refine Ev.bind st (Ev.bind c ?_)
      show Ev (fun k => (lex_Reader_Next.f (tr1 s).2.ls (tr1 s).2.i (tr1 s).2.j (tr1 s).2.sz (tr1 s).2.err (tr1 s).2.at_).bind _) _
      rw [next_eq _ g2.ok g2.l1]
      refine Ev.bind (Ev.now _) ?_
      have em : N - (i + 1) = m := by omega
      have := lparse_l1 f N i hN z1 z2 z3 z4 z5 acc ha (by omega) (fun s' acc' ha' hg => by
        rw [em]
        exact ih (i + 1) s' acc' (by omega) ha' hg) (tr1 s).1.toNat (by show (countS _ _ _).1.toNat ≤ 255; omega) true (tr1 s).1.toNat 0 (nextS (tr1 s).2) [] (by omega) rfl (nextS_good g2)
      rw [Int.toNat_of_nonneg (show 0 ≤ (tr1 s).1 from r1), em] at this
      exact this
theorem lparse_ev (x : ByteArray) : Ev (fun k => dendronlaw07_parse.f k x) (readM x) := by
  unfold dendronlaw07_parse.f readM
  obtain ⟨k1, k2, k3, k4⟩ := hd_good x
  obtain ⟨r1, r2⟩ := countS_range (hd3 x) 0 64 (by decide) (by decide)
  refine top_ev x (fun k n f t => dendronlaw07_parse.l0 k n 0 0 0 0 0 0 f [] t.1 t.2.1 t.2.2.1 t.2.2.2.1 t.2.2.2.2.1 t.2.2.2.2.2) ?_
  have := lparse_l0 (hd2 x).1 (hd4 x).1.toNat (by show (countS _ _ _).1.toNat ≤ 64; omega) 0 0 0 0 0 (hd4 x).1.toNat 0 (nextS (hd4 x).2) [] (by omega) rfl (nextS_good k4)
  rw [Int.toNat_of_nonneg (show 0 ≤ (hd4 x).1 from r1)] at this
  exact this
def TrOk (t : List Nd) : Prop := t.length ≤ 255 ∧ ∀ n ∈ t, NdOk n
theorem nodesS_ok : ∀ (m : Nat) (s : St) (acc : List Nd), acc.length + m ≤ 255 → (∀ n ∈ acc, NdOk n) → TrOk (nodesS m s acc).1
  | 0, _, acc, h, ha => ⟨by rw [nodesS]; exact h, ha⟩
  | m + 1, s, acc, h, ha => by
    rw [nodesS]
    split
    · exact ⟨Nat.zero_le _, fun n hn => (by cases hn)⟩
    · refine nodesS_ok m _ _ (by rw [List.length_append, List.length_singleton]; omega) fun n hn => ?_
      rcases List.mem_append.1 hn with h1 | h1
      · exact ha n h1
      · rw [List.mem_singleton.1 h1]; exact nodeS_ok s
theorem treeS_ok (s : St) : TrOk (treeS s).1 := by
  obtain ⟨r1, r2⟩ := countS_range (takeS s ⟨#[116, 114, 101, 101]⟩) 1 255 (by decide) (by decide)
  refine nodesS_ok _ _ _ ?_ fun n hn => (by cases hn)
  show 0 + (countS _ _ _).1.toNat ≤ 255
  omega
theorem treesS_ok : ∀ (m : Nat) (s : St) (acc : List (List Nd)), acc.length + m ≤ 64 → (∀ t ∈ acc, TrOk t) → (treesS m s acc).1.length ≤ 64 ∧ ∀ t ∈ (treesS m s acc).1, TrOk t
  | 0, _, acc, h, ha => ⟨by rw [treesS]; exact h, ha⟩
  | m + 1, s, acc, h, ha => by
    rw [treesS]
    split
    · exact ⟨by show acc.length ≤ 64; omega, ha⟩
    · refine treesS_ok m _ _ (by rw [List.length_append, List.length_singleton]; omega) fun t ht => ?_
      rcases List.mem_append.1 ht with h1 | h1
      · exact ha t h1
      · rw [List.mem_singleton.1 h1]; exact treeS_ok s
theorem readM_ok (x : ByteArray) : small7 (readM x).2.1 ∧ ∀ t ∈ (readM x).2.1, ∀ n ∈ t, NdOk n := by
  obtain ⟨r1, r2⟩ := countS_range (hd3 x) 0 64 (by decide) (by decide)
  have h := treesS_ok (hd4 x).1.toNat (nextS (hd4 x).2) [] (by show 0 + (countS _ _ _).1.toNat ≤ 64; omega) fun t ht => (by cases ht)
  unfold readM finS
  split
  · exact ⟨⟨Nat.zero_le _, fun t ht => (by cases ht)⟩, fun t ht => (by cases ht)⟩
  · exact ⟨⟨Nat.le_trans h.1 (by decide), fun t ht => Nat.le_trans (h.2 t ht).1 (by decide)⟩, fun t ht => (h.2 t ht).2⟩
theorem fault_eq (x : MR) : ((x.2.2.1 == x.2.2.1) && ((x.2.2.2.1 == x.2.2.2.1) && ((x.2.2.2.2.1 == x.2.2.2.2.1) && ((x.2.2.2.2.2 == x.2.2.2.2.2) && true)))) = true := by simp
theorem mreads_tail (x : ByteArray) : Ev (fun k => (model_Read.f k x).bind fun v5 => ((dendronlaw07_parse.f k x).bind fun v14 => (if ((v5.2.2.1 == v14.2.2.1) && ((v5.2.2.2.1 == v14.2.2.2.1) && ((v5.2.2.2.2.1 == v14.2.2.2.2.1) && ((v5.2.2.2.2.2 == v14.2.2.2.2.2) && true)))) = true then ((dendronref07_Same.f k v5.1 v5.2.1 v14.1 v14.2.1).bind fun v28 => (if v28 = true then ((dendronlaw07_awake.f k).bind fun v31 => (some v31)) else (some false))) else (some false)))) true := by
  obtain ⟨h1, h2⟩ := readM_ok x
  exact Ev.bind (mread_ev x) (Ev.bind (lparse_ev x) (Ev.if_pos (fault_eq _) (Ev.bind (same7_ev _ _ h1 h2) (Ev.if_pos rfl (Ev.bind awake07_ev (Ev.now _))))))
theorem modelReads_ev (x : ByteArray) : Ev (fun k => dendronlaw07_ModelReads.f k x) true := by
  unfold dendronlaw07_ModelReads.f
  by_cases h : (x.size : Int) > 4000
  · exact Ev.if_pos h (Ev.if_pos (by omega) (mreads_tail _))
  · exact Ev.if_neg h (mreads_tail x)
end Go.DI.Th
