/- What the told functions answer, part 2. No condition. -/
import Derived.Test.YtcecjcpbehnihaaGreatDoorTh1
import Derived.Laws.RangeAny
import Derived.Laws.RangeString
set_option linter.all false
namespace Go.DI.Th.D
open Go Go.RowKit Go.DI Go.DI.Th

/-- A number of the reference: some fraction, that has a worth. -/
def FL (x : Rat) (s : Nat) (r : Rt) : Prop := ∃ (z : Int) (q : Nat), r = fl z q ∧ q ≠ 0 ∧ mkRat z q = x ∧ L z ≤ s ∧ len q ≤ s
theorem FL.mono {x : Rat} {s s' : Nat} {r : Rt} (h : FL x s r) (hs : s ≤ s') : FL x s' r := by
  obtain ⟨z, q, h1, h2, h3, h4, h5⟩ := h
  exact ⟨z, q, h1, h2, h3, by omega, by omega⟩
theorem mk_pos {z : Int} {q : Nat} (hq : q ≠ 0) : (mkRat z q < 0) ↔ z < 0 := by
  rw [← num_neg_iff, num_mk z q hq, rnum_neg z q hq]
theorem mk_zero {z : Int} {q : Nat} (hq : q ≠ 0) : mkRat z q = 0 ↔ z = 0 := Rat.mkRat_eq_zero hq
theorem FL.plus {x y : Rat} {a b : Nat} {r s : Rt} (h : FL x a r) (h' : FL y b s) (hb : a + b ≤ 1099511627776) : ∃ t, FL (x + y) (a + b + 1) t ∧ Ev (fun k => dendronref03_Plus.f k r.1 r.2.1 r.2.2 s.1 s.2.1 s.2.2) t := by
  obtain ⟨z, q, rfl, q0, rfl, h4, h5⟩ := h
  obtain ⟨w, p, rfl, p0, rfl, k4, k5⟩ := h'
  refine ⟨_, ⟨z * p + w * q, q * p, rfl, Nat.mul_ne_zero q0 p0, (Rat.mkRat_add_mkRat z w q0 p0).symm, ?_, ?_⟩, fplus_ev z q w p (by omega) (by omega) (by omega)⟩
  · have h1 := L_add (z * p) (w * q)
    have h2 := L_mul z (p : Int)
    have h3 := L_mul w (q : Int)
    rw [L_nat] at h2 h3
    omega
  · have := len_mul q p
    omega
theorem FL.times {x y : Rat} {a b : Nat} {r s : Rt} (h : FL x a r) (h' : FL y b s) (hb : a + b ≤ 1099511627776) : ∃ t, FL (x * y) (a + b) t ∧ Ev (fun k => dendronref03_Times.f k r.1 r.2.1 r.2.2 s.1 s.2.1 s.2.2) t := by
  obtain ⟨z, q, rfl, q0, rfl, h4, h5⟩ := h
  obtain ⟨w, p, rfl, p0, rfl, k4, k5⟩ := h'
  refine ⟨_, ⟨z * w, q * p, rfl, Nat.mul_ne_zero q0 p0, (Rat.mkRat_mul_mkRat z w q p).symm, ?_, ?_⟩, ftimes_ev z q w p (by omega) (by omega)⟩
  · have h2 := L_mul z w
    omega
  · have := len_mul q p
    omega
theorem FL.minus {x : Rat} {a : Nat} {r : Rt} (h : FL x a r) : ∃ t, FL (-x) a t ∧ Ev (fun _ => dendronref03_Minus.f r.1 r.2.1 r.2.2) t := by
  obtain ⟨z, q, rfl, q0, rfl, h4, h5⟩ := h
  exact ⟨_, ⟨-z, q, rfl, q0, (Rat.neg_mkRat z q).symm, by rw [L_neg]; exact h4, h5⟩, fminus_ev z q⟩
theorem mk_inv {z : Int} {q : Nat} (hz : z ≠ 0) : (mkRat z q)⁻¹ = mkRat (over q z) z.natAbs := by
  rw [mk_over _ _ hz, ← Rat.divInt_ofNat, Rat.inv_divInt]
theorem FL.inv {x : Rat} {a : Nat} {r : Rt} (h : FL x a r) (hx : x ≠ 0) : ∃ t, FL x⁻¹ a t ∧ Ev (fun _ => dendronref03_Inverse.f r.1 r.2.1 r.2.2) t := by
  obtain ⟨z, q, rfl, q0, rfl, h4, h5⟩ := h
  have hz : z ≠ 0 := fun e => hx ((mk_zero q0).2 e)
  refine ⟨_, ⟨over q z, z.natAbs, rfl, by omega, (mk_inv hz).symm, ?_, h4⟩, finverse_ev z q⟩
  show len (over (q : Int) z).natAbs ≤ a
  rw [over_abs]
  exact h5
theorem FL.order {x y : Rat} {a b : Nat} {r s : Rt} (h : FL x a r) (h' : FL y b s) (hb : a + b ≤ 1099511627776) : Ev (fun k => dendronref03_Order.f k r.1 r.2.1 r.2.2 s.1 s.2.1 s.2.2) (cmpQ x y) := by
  obtain ⟨z, q, rfl, q0, rfl, h4, h5⟩ := h
  obtain ⟨w, p, rfl, p0, rfl, k4, k5⟩ := h'
  rw [← cmpQ_mk z w q p q0 p0]
  exact forder_ev z q w p (by omega) (by omega)
theorem FL.small (a : Int) (b : Nat) (h0 : -9223372036854775808 ≤ a ∧ a ≤ 9223372036854775807) (h : b ≤ 9223372036854775807) (hb : b ≠ 0) : ∃ t, FL (mkRat a b) 5 t ∧ Ev (fun k => dendronref03_Small.f k a (b : Int)) t :=
  ⟨_, ⟨a, b, rfl, hb, rfl, L_pair a h0, len_le (by omega)⟩, fsmall_ev a b h0 h⟩
theorem FL.from {b : Nat} {r : Rt} (h : RtB b r) (hb : b ≤ 1073741824) : ∃ t, FL (rv r) (3 * b + 3) t ∧ Ev (fun k => dendronref03_From.f k r.1 r.2.1 r.2.2) t := by
  refine ⟨_, ⟨num r.1 r.2.1 r.2.2, den r.2.2, rfl, den_pos _, rfl, ?_, ?_⟩, ffrom_ev r.1 r.2.1 r.2.2 h.1 h.2.1 (by have := h.2.2.1; omega) (by have := h.2.2.2; omega)⟩
  · have h1 := len_of_len (num r.1 r.2.1 r.2.2).natAbs
    have h2 := num_len r.1 r.2.1 r.2.2
    have h3 := h.2.2.1
    show len (num r.1 r.2.1 r.2.2).natAbs ≤ _
    omega
  · have h1 := len_of_len (den r.2.2)
    have h2 := den_len r.2.2
    have h3 := h.2.2.2
    omega
theorem FL.zero_N {x : Rat} {a : Nat} {r : Rt} (h : FL x a r) : ((r.2.1.length : Int) = 0 ↔ x = 0) := by
  obtain ⟨z, q, rfl, q0, rfl, h4, h5⟩ := h
  rw [mk_zero q0]
  show ((lm z.natAbs).length : Int) = 0 ↔ _
  rw [lm_nil']
  omega
theorem FL.neg_N {x : Rat} {a : Nat} {r : Rt} (h : FL x a r) : (r.1 = true ↔ x < 0) := by
  obtain ⟨z, q, rfl, q0, rfl, h4, h5⟩ := h
  rw [mk_pos q0]
  exact decide_eq_true_iff
theorem FL.whole (z : Int) {s : Nat} (h : L z ≤ s) (hs : 1 ≤ s) : ∃ t, FL (z : Rat) s t ∧ Ev (fun k => dendronref03_Whole.f k (il z).1 (il z).2) t := by
  refine ⟨fl z 1, ⟨z, 1, rfl, by decide, ?_, h, ?_⟩, ?_⟩
  · exact Rat.mkRat_self (z : Rat)
  · have : len 1 ≤ 1 := len_le (by decide)
    omega
  · unfold dendronref03_Whole.f
    exact Ev.bind (small_ev 1 (by decide)) (Ev.now _)
/-! ### may a number be? -/
theorem lm_of {l : List Int} (h : Th.lm (Th.val l) = l) : Th.Ok l ∧ ∀ x, l.getLast? = some x → x ≠ 0 := by
  constructor
  · rw [← h]; exact Th.lm_ok _
  · rw [← h]; exact Th.lm_last _
theorem right_end (l : List Int) (hok : Th.Ok l) (h0 : l ≠ []) : (rd l ((l.length : Int) - 1) ≠ 0) ↔ Th.lm (Th.val l) = l := by
  have hl : 0 < l.length := List.length_pos_iff.2 h0
  have e : rd l ((l.length : Int) - 1) = l.getLast h0 := by
    unfold rd
    rw [show ((l.length : Int) - 1).toNat = l.length - 1 by omega, List.getD_eq_getElem?_getD, List.getElem?_eq_getElem (by omega), List.getLast_eq_getElem]
    rfl
  rw [e]
  constructor
  · intro h
    exact Th.lm_val hok fun x hx => by
      rw [List.getLast?_eq_some_getLast h0] at hx
      exact (Option.some.inj hx) ▸ h
  · intro h
    exact (lm_of h).2 _ (List.getLast?_eq_some_getLast h0)
theorem right_loop (l : List Int) (hl : Th.U l) (hn : l.length ≤ 1125899906842624) : ∀ b a : List Int, l = a ++ b → Th.Ok a → Ev (fun k => dendronref01_Right.l0 k l (a.length : Int)) (decide (Th.lm (Th.val l) = l)) := by
  intro b
  induction b with
  | nil =>
    intro a hr ha
    rw [List.append_nil] at hr
    subst hr
    refine Ev.succ ?_
    simp only [dendronref01_Right.l0]
    refine Ev.if_neg (by omega) ?_
    by_cases h0 : l = []
    · subst h0
      refine (Ev.if_pos rfl (Ev.now true)).of_eq ?_
      symm
      rw [decide_eq_true_iff]
      show Th.lm 0 = []
      exact Th.lm_zero
    · have hp : 0 < l.length := List.length_pos_iff.2 h0
      refine Ev.if_neg (by omega) ?_
      have ew : wrap64 ((l.length : Int) - 1) = (l.length : Int) - 1 := wrap_id (by omega) (by omega)
      rw [ew]
      refine Ev.if_pos (by omega) (Ev.if_pos (by omega) ((Ev.now _).of_eq ?_))
      rw [Bool.eq_iff_iff, bne_iff_ne, decide_eq_true_iff]
      exact right_end l ha h0
  | cons x b ih =>
    intro a hr ha
    have l1 := lt_at a x b
    have hx : rd l (a.length : Int) = x := by rw [hr]; exact Th.rd_at a x b
    rw [← hr] at l1
    have hlen : l.length = a.length + (b.length + 1) := by rw [hr, List.length_append, List.length_cons]
    have hU := hl x (by rw [hr]; simp)
    refine Ev.succ ?_
    simp only [dendronref01_Right.l0, hx, wr_at a x (show a.length ≤ 1125899906842624 by omega)]
    refine Ev.if_pos l1 (Ev.if_pos (nn0 _) ?_)
    by_cases h : x > 4294967295
    · refine Ev.if_pos h ((Ev.now _).of_eq ?_)
      symm
      rw [decide_eq_false_iff_not]
      intro e
      have := (lm_of e).1 x (by rw [hr]; simp)
      omega
    · exact Ev.if_neg h (ih (a ++ [x]) (by rw [hr]; simp) (ha.append (Th.Ok.cons ⟨hU.1, by omega⟩ Th.Ok.nil)))
theorem right_ev (l : List Int) (hl : Th.U l) (hn : l.length ≤ 1125899906842624) : Ev (fun k => dendronref01_Right.f k l) (decide (Th.lm (Th.val l) = l)) := right_loop l hl hn l [] rfl Th.Ok.nil
end Go.DI.Th.D
namespace Go.DI.Th
open Go Go.RowKit Go.DI
/-- A number is in its form just if its parts are numbers, and nothing divides both. -/
theorem form_iff (r : Rt) : r = cn (rv r) ↔ (lm (val r.2.1) = r.2.1 ∧ lm (val r.2.2) = r.2.2 ∧ r.2.2 ≠ [] ∧ (r.2.1 = [] → r.1 = false) ∧ Nat.gcd (val r.2.1) (val r.2.2) = 1) := by
  obtain ⟨b, n, d⟩ := r
  dsimp only
  constructor
  · intro h
    have h1 : (b, n, d).1 = (cn (rv (b, n, d))).1 := congrArg (·.1) h
    have h2 : (b, n, d).2.1 = (cn (rv (b, n, d))).2.1 := congrArg (·.2.1) h
    have h3 : (b, n, d).2.2 = (cn (rv (b, n, d))).2.2 := congrArg (·.2.2) h
    generalize rv (b, n, d) = x at h1 h2 h3
    dsimp only at h1 h2 h3
    subst h1
    subst h2
    subst h3
    refine ⟨by rw [(val_cn x).1]; rfl, by rw [(val_cn x).2]; rfl, ?_, ?_, ?_⟩
    · intro e
      have := (val_cn x).2
      rw [e] at this
      exact x.den_nz this.symm
    · intro e
      have := (val_cn x).1
      rw [e] at this
      have h0 : x.num = 0 := by
        have : x.num.natAbs = 0 := this.symm
        omega
      show decide (x.num < 0) = false
      rw [h0]; rfl
    · rw [(val_cn x).1, (val_cn x).2]
      exact x.reduced
  · rintro ⟨h1, h2, h3, h4, h5⟩
    have hq : val d ≠ 0 := fun e => h3 (by rw [← h2, e, lm_zero])
    have hnum : num b n d = wv b n := by unfold num; rw [if_neg hq]
    have hden : den d = val d := by unfold den; rw [if_neg hq]
    have e1 : (rv (b, n, d)).num = wv b n := by
      show (mkRat (num b n d) (den d)).num = _
      rw [hnum, hden, num_mk _ _ hq]
      unfold rnum
      rw [wv_abs, h5, Nat.div_one]
      have := wv_abs b n
      split <;> omega
    have e2 : (rv (b, n, d)).den = val d := by
      show (mkRat (num b n d) (den d)).den = _
      rw [hnum, hden, den_mk _ _ hq]
      unfold rden
      rw [wv_abs, h5, Nat.div_one]
    unfold cn
    rw [e1, e2, wv_abs, h1, h2]
    congr 1
    by_cases hn : n = []
    · rw [h4 hn]
      have : wv false n = (val n : Int) := rfl
      rw [this]
      symm
      exact decide_eq_false (by omega)
    · have hv : val n ≠ 0 := fun e => hn (by rw [← h1, e, lm_zero])
      unfold wv
      cases b
      · symm; exact decide_eq_false (by simp)
      · symm; exact decide_eq_true (by simp; omega)
theorem nright_loop (x0 l : List Int) (he : x0 = l) (hl : U l) (hn : l.length ≤ 1125899906842624) : ∀ b a : List Int, l = a ++ b → Ok a → Ev (fun k => nat_Right.l0 k x0 l (l.length : Int) (a.length : Int)) (decide (lm (val l) = l)) := by
  subst he
  intro b
  induction b with
  | nil =>
    intro a hr ha
    rw [List.append_nil] at hr
    subst hr
    refine Ev.succ ?_
    simp only [nat_Right.l0]
    refine Ev.if_neg (by omega) ?_
    by_cases h0 : x0 = []
    · subst h0
      refine (Ev.if_pos rfl (Ev.now true)).of_eq ?_
      symm
      rw [decide_eq_true_iff]
      show lm 0 = []
      exact lm_zero
    · have hp : 0 < x0.length := List.length_pos_iff.2 h0
      refine Ev.if_neg (by omega) ?_
      have ew : wrap64 ((x0.length : Int) - 1) = (x0.length : Int) - 1 := wrap_id (by omega) (by omega)
      rw [ew]
      refine Ev.if_pos (by omega) (Ev.if_pos (by omega) ((Ev.now _).of_eq ?_))
      rw [Bool.eq_iff_iff, bne_iff_ne, decide_eq_true_iff]
      exact D.right_end x0 ha h0
  | cons x b ih =>
    intro a hr ha
    have l1 := lt_at a x b
    have hx : rd x0 (a.length : Int) = x := by rw [hr]; exact rd_at a x b
    rw [← hr] at l1
    have hlen : x0.length = a.length + (b.length + 1) := by rw [hr, List.length_append, List.length_cons]
    have hU := hl x (by rw [hr]; simp)
    refine Ev.succ ?_
    simp only [nat_Right.l0, hx, wr_at a x (show a.length ≤ 1125899906842624 by omega)]
    refine Ev.if_pos l1 (Ev.if_pos (nn0 _) (Ev.if_pos l1 ?_))
    by_cases h : x > 4294967295
    · refine Ev.if_pos h ((Ev.now _).of_eq ?_)
      symm
      rw [decide_eq_false_iff_not]
      intro e
      have := (D.lm_of e).1 x (by rw [hr]; simp)
      omega
    · exact Ev.if_neg h (ih (a ++ [x]) (by rw [hr]; simp) (ha.append (Ok.cons ⟨hU.1, by omega⟩ Ok.nil)))
theorem nright_ev (l : List Int) (hl : U l) (hn : l.length ≤ 1125899906842624) : Ev (fun k => nat_Right.f k l) (decide (lm (val l) = l)) := nright_loop l l rfl hl hn l [] rfl Ok.nil
theorem gcd_one (a b : Nat) : (cmp (Nat.gcd a b) 1 == 0) = decide (Nat.gcd a b = 1) := by
  unfold cmp
  rw [Bool.eq_iff_iff, beq_iff_eq, decide_eq_true_iff]
  split
  · omega
  · split <;> omega
theorem rright_ev (r : Rt) {b : Nat} (h : RtB b r) (hb : b ≤ 1073741824) : Ev (fun k => ratio_Right.f k r.1 r.2.1 r.2.2) (decide (r = cn (rv r))) := by
  have hf := form_iff r
  obtain ⟨s, n, d⟩ := r
  obtain ⟨u1, u2, l1, l2⟩ := h
  dsimp only at hf u1 u2 l1 l2 ⊢
  have hn := nright_ev n u1 (by omega)
  have hd := nright_ev d u2 (by omega)
  unfold ratio_Right.f whole_Right.f
  by_cases h1 : lm (val n) = n
  · rw [decide_eq_true h1] at hn
    by_cases h4 : n = [] → s = false
    · have hw : Ev (fun k => (nat_Right.f k n).bind fun v4 => if v4 = true then (if (n.length : Int) > 0 then some true else some (!s)) else some false) true := by
        refine Ev.bind hn (Ev.if_pos rfl ?_)
        by_cases h0 : n = []
        · rw [h4 h0]
          exact Ev.if_neg (by rw [h0]; decide) (Ev.now _)
        · have := List.length_pos_iff.2 h0
          exact Ev.if_pos (by omega) (Ev.now _)
      refine Ev.bind hw (Ev.if_pos rfl (Ev.bind hd ?_))
      by_cases h2 : lm (val d) = d
      · refine Ev.if_pos (decide_eq_true h2) ?_
        by_cases h3 : d = []
        · rw [decide_eq_false (fun e => (hf.1 e).2.2.1 h3)]
          exact Ev.if_pos (by rw [h3]; rfl) (Ev.now _)
        · have hp := List.length_pos_iff.2 h3
          refine Ev.if_neg (by omega) ?_
          have hg := gcd_ev n d u1 u2 (by omega) (by omega)
          have hc := cmp_ev (lm (Nat.gcd (val n) (val d))) (lm 1) (lm_ok _).U (lm_ok _).U (by
            rw [lm_length]
            have := val_len d
            have hdv : 0 < val d := Nat.pos_of_ne_zero fun e => h3 (by rw [← h2, e, lm_zero])
            have := len_mono (Nat.gcd_le_right (val n) hdv)
            omega) (by rw [lm_length, len_one]; decide)
          rw [val_lm, val_lm] at hc
          refine Ev.bind hg (Ev.bind (ofN_ev 1 (by decide)) (Ev.bind hc ((Ev.now _).of_eq ?_)))
          rw [gcd_one]
          exact decide_eq_decide.2 ⟨fun e => hf.2 ⟨h1, h2, h3, h4, e⟩, fun e => (hf.1 e).2.2.2.2⟩
      · rw [decide_eq_false (fun e => h2 (hf.1 e).2.1)]
        exact Ev.if_neg (by simp [h2]) (Ev.now _)
    · rw [decide_eq_false (fun e => h4 (hf.1 e).2.2.2.1)]
      have h5 : n = [] ∧ s = true := by
        cases s
        · exact absurd (fun _ => rfl) h4
        · exact ⟨Classical.byContradiction fun e => h4 fun e' => absurd e' e, rfl⟩
      have hw : Ev (fun k => (nat_Right.f k n).bind fun v4 => if v4 = true then (if (n.length : Int) > 0 then some true else some (!s)) else some false) false := by
        refine Ev.bind hn (Ev.if_pos rfl ?_)
        rw [h5.2]
        exact Ev.if_neg (by rw [h5.1]; decide) (Ev.now _)
      exact Ev.bind hw (Ev.if_neg (by decide) (Ev.now _))
  · rw [decide_eq_false h1] at hn
    rw [decide_eq_false (fun e => h1 (hf.1 e).1)]
    exact Ev.bind (Ev.bind hn (Ev.if_neg (by decide) (Ev.now _))) (Ev.if_neg (by decide) (Ev.now _))
end Go.DI.Th
namespace Go.DI.Th.D
open Go Go.RowKit Go.DI Go.DI.Th
theorem right3_ev (r : Rt) {b : Nat} (h : RtB b r) (hb : b ≤ 1073741820) : Ev (fun k => dendronref03_Right.f k r.1 r.2.1 r.2.2) (decide (r = cn (rv r))) := by
  have hf := form_iff r
  obtain ⟨s, n, d⟩ := r
  obtain ⟨u1, u2, l1, l2⟩ := h
  dsimp only at hf u1 u2 l1 l2 ⊢
  have hn := right_ev n u1 (by omega)
  have hd := right_ev d u2 (by omega)
  unfold dendronref03_Right.f
  by_cases h1 : Th.lm (Th.val n) = n
  · refine Ev.bind hn (Ev.if_pos (decide_eq_true h1) (Ev.bind hd ?_))
    by_cases h2 : Th.lm (Th.val d) = d
    · refine Ev.if_pos (decide_eq_true h2) ?_
      by_cases h3 : d = []
      · rw [decide_eq_false (fun e => (hf.1 e).2.2.1 h3)]
        exact Ev.if_pos (by rw [h3]; rfl) (Ev.now _)
      · have hp := List.length_pos_iff.2 h3
        refine Ev.if_neg (by omega) ?_
        have a1 := len_of_len (Th.val n)
        have a2 := len_of_len (Th.val d)
        have a3 := Th.val_len n
        have a4 := Th.val_len d
        have tail : (n = [] → s = false) → Ev (fun k => (dendronref01_From.f k n).bind fun v34 => (dendronref01_From.f k d).bind fun v37 => (dendronref01_Gcd.f k v34 v37).bind fun v38 => (dendronref01_Small.f k 1).bind fun v41 => (dendronref01_Order.f k v38 v41).bind fun v42 => some (v42 == 0)) (decide ((s, n, d) = cn (rv (s, n, d)))) := fun h4 => by
          have ho := order_ev (Nat.gcd (Th.val n) (Th.val d)) 1 (by
            have hdv : 0 < Th.val d := Nat.pos_of_ne_zero fun e => h3 (by rw [← h2, e, Th.lm_zero])
            have := len_mono (Nat.gcd_le_right (Th.val n) hdv)
            omega)
          refine Ev.bind (from_ev n u1 (by omega)) (Ev.bind (from_ev d u2 (by omega)) (Ev.bind (gcd_ev _ _ (by omega) (by omega)) (Ev.bind (small_ev 1 (by decide)) (Ev.bind ho ((Ev.now _).of_eq ?_)))))
          rw [gcd_one]
          exact decide_eq_decide.2 ⟨fun e => hf.2 ⟨h1, h2, h3, h4, e⟩, fun e => (hf.1 e).2.2.2.2⟩
        by_cases h0 : n = []
        · refine Ev.if_pos (by rw [h0]; rfl) ?_
          cases s
          · exact Ev.if_neg (by decide) (tail fun _ => rfl)
          · rw [decide_eq_false (fun e => by have := (hf.1 e).2.2.2.1 h0; cases this)]
            exact Ev.if_pos rfl (Ev.now _)
        · have := List.length_pos_iff.2 h0
          exact Ev.if_neg (by omega) (tail fun e => absurd e h0)
    · rw [decide_eq_false (fun e => h2 (hf.1 e).2.1)]
      exact Ev.if_neg (by simp [h2]) (Ev.now _)
  · rw [decide_eq_false (fun e => h1 (hf.1 e).1)]
    exact Ev.bind hn (Ev.if_neg (by simp [h1]) (Ev.now _))
theorem is_ev {x : Rat} {a b : Nat} {r t : Rt} (ht : FL x a t) (h : RtB b r) (hb : 3 * b + a ≤ 1073741820) : Ev (fun k => dendronref03_Is.f k r.1 r.2.1 r.2.2 t.1 t.2.1 t.2.2) (decide (r = cn x)) := by
  unfold dendronref03_Is.f
  refine Ev.bind (right3_ev r h (by omega)) ?_
  by_cases h1 : r = cn (rv r)
  · refine Ev.if_pos (decide_eq_true h1) ?_
    obtain ⟨s, hs, es⟩ := FL.from h (by omega)
    refine Ev.bind es (Ev.bind (hs.order ht (by omega)) ((Ev.now _).of_eq ?_))
    rw [Bool.eq_iff_iff, beq_iff_eq, decide_eq_true_iff, cmpQ_zero]
    exact ⟨fun e => by rw [← e]; exact h1, fun e => by rw [e]; exact rv_cn x⟩
  · have h2 : ¬ r = cn x := fun e => h1 (by
      have h3 : rv r = x := (congrArg rv e).trans (rv_cn x)
      rw [h3]
      exact e)
    rw [decide_eq_false h2]
    exact Ev.if_neg (by simp [h1]) (Ev.now _)
theorem is_true {x : Rat} {a : Nat} {t : Rt} (ht : FL x a t) {b : Nat} (hs : Sz x ≤ b) (hb : 3 * b + a ≤ 1073741820) : Ev (fun k => dendronref03_Is.f k (cn x).1 (cn x).2.1 (cn x).2.2 t.1 t.2.1 t.2.2) true := by
  have := is_ev ht (cnB x hs) hb
  rwa [decide_eq_true rfl] at this
theorem none_true : Ev (fun _ => dendronref03_None.f false [] []) true := Ev.now true
end Go.DI.Th.D
namespace Go.DI.Th.D
open Go Go.RowKit Go.DI Go.DI.Th

theorem il_ev {b : Bool} {n : Nat} {z : Int} (h : sg b n = z) : Ev (fun _ => dendronref02_Make.f b (lm n)) (il z) := by rw [← h]; exact make_ev b n
theorem L_le_of {z w : Int} (h : z.natAbs ≤ w.natAbs) : L z ≤ L w := len_mono h
theorem ediv_abs (z : Int) (q : Nat) (hq : q ≠ 0) : (z / (q : Int)).natAbs ≤ z.natAbs := by
  by_cases hz : z < 0
  · have h3 : z / (q : Int) < 0 := Int.ediv_neg_of_neg_of_pos hz (by omega)
    have h4 : z ≤ z / (q : Int) := by
      rw [Int.le_ediv_iff_mul_le (by omega)]
      have : z * (q : Int) ≤ z * 1 := Int.mul_le_mul_of_nonpos_left (by omega) (by omega)
      omega
    omega
  · have h3 : 0 ≤ z / (q : Int) := Int.ediv_nonneg (by omega) (by omega)
    have h4 : z / (q : Int) ≤ z := Int.ediv_le_self _ (by omega)
    omega
theorem wover_ev (z : Int) (q : Nat) (hq : q ≠ 0) (hz : L z ≤ 1073741824) (hl : len q ≤ 1073741824) :
    Ev (fun k => dendronref02_Over.f k (il z).1 (il z).2 (il (q : Int)).1 (il (q : Int)).2) ((il (z / q)).1, (il (z / q)).2, (il (z % q)).1, (il (z % q)).2) := by
  have ho := over_ev z.natAbs q hq (by omega) (by have : L z = len z.natAbs := rfl; omega)
  have hd := L_le_of (ediv_abs z q hq)
  have hqL : L (q : Int) = len q := L_nat q
  have ht := wtimes_ev (z / q) (q : Int) (by omega)
  have hm := wminus_ev (z / q * (q : Int))
  have hm1 := L_mul (z / (q : Int)) (q : Int)
  have hp := wplus_ev z (-(z / q * (q : Int))) (by omega) (by rw [L_neg]; omega)
  have e : z + -(z / q * (q : Int)) = z % q := by
    have := Int.emod_def z (q : Int)
    rw [Int.mul_comm (q : Int)] at this
    omega
  rw [e] at hp
  have eq1 : (il (q : Int)).1 = false := decide_eq_false (show ¬ ((q : Int) < 0) by omega)
  have eq2 : (il (q : Int)).2 = lm q := by show lm (q : Int).natAbs = _; rw [Int.natAbs_natCast]
  have tail : Ev (fun k => (dendronref02_Times.f k (il (z / q)).1 (il (z / q)).2 false (lm q)).bind fun v41 => (dendronref02_Minus.f v41.1 v41.2).bind fun v42 => (dendronref02_Plus.f k (il z).1 (il z).2 v42.1 v42.2).bind fun v43 => some ((il (z / q)).1, (il (z / q)).2, v43.1, v43.2)) ((il (z / q)).1, (il (z / q)).2, (il (z % q)).1, (il (z % q)).2) := by
    rw [eq1, eq2] at ht
    exact Ev.bind ht (Ev.bind hm (Ev.bind hp (Ev.now _)))
  unfold dendronref02_Over.f
  rw [eq1, eq2]
  refine Ev.bind ho ?_
  by_cases hz0 : z < 0
  · obtain ⟨n, rfl⟩ : ∃ n : Nat, z = -(n : Int) := ⟨z.natAbs, by omega⟩
    rw [Int.natAbs_neg, Int.natAbs_natCast]
    have e1 : (il (-(n : Int))).1 = true := decide_eq_true hz0
    have e3 : (!((il (-(n : Int))).1 == false)) = true := by rw [e1]; rfl
    have e4 : (il (-(n : Int))).1 ≠ false := by rw [e1]; decide
    refine Ev.bind (il_ev (z := -((n / q : Nat) : Int)) (by rw [e3]; rfl)) (Ev.if_pos e4 ?_)
    by_cases hr : n % q = 0
    · refine Ev.if_neg (by rw [lm_length, hr, len_zero]; decide) ?_
      have := (div_neg_exact n q hq hr).1
      rw [this] at tail ⊢
      exact tail
    · have hp0 := len_eq_zero (n := n % q)
      refine Ev.if_pos (by rw [lm_length]; omega) (Ev.bind (wsmall_ev (-1) (by decide) (by decide)) ?_)
      have hx := (div_neg_more n q hq hr).1
      have hadd := wplus_ev (-((n / q : Nat) : Int)) (-1) (by
        rw [L_neg, L_nat]
        have := len_mono (Nat.div_le_self n q)
        have e5 : L (-(n : Int)) = len n := by rw [L_neg, L_nat]
        omega) (by have := L_pair (-1) (by decide); omega)
      have e6 : -((n / q : Nat) : Int) + -1 = -(n : Int) / (q : Int) := by rw [hx]; omega
      rw [e6] at hadd
      exact Ev.bind hadd tail
  · obtain ⟨n, rfl⟩ : ∃ n : Nat, z = (n : Int) := ⟨z.natAbs, by omega⟩
    rw [Int.natAbs_natCast]
    have e1 : (il (n : Int)).1 = false := decide_eq_false hz0
    have e3 : (!((il (n : Int)).1 == false)) = false := by rw [e1]; rfl
    refine Ev.bind (il_ev (z := (n : Int) / (q : Int)) (by rw [e3]; rfl)) (Ev.if_neg (fun h => h e1) tail)
theorem floor_mk (z : Int) (q : Nat) (hq : q ≠ 0) : (mkRat z q).floor = z / (q : Int) := by
  rw [Rat.floor_def, num_mk z q hq, den_mk z q hq]
  obtain ⟨g, g0, e1, e2⟩ := rnum_gcd z q hq
  have : z / (q : Int) = ((g : Int) * rnum z q) / ((g : Int) * (rden z q : Int)) := by
    rw [← e1]
    congr 1
    rw [← Int.natCast_mul, ← e2]
  rw [this, Int.mul_ediv_mul_of_pos _ _ (by omega)]
theorem FL.floor {x : Rat} {a : Nat} {r : Rt} (h : FL x a r) (ha : a ≤ 1073741824) : Ev (fun k => dendronref03_Floor.f k r.1 r.2.1 r.2.2) (il x.floor) := by
  obtain ⟨z, q, rfl, q0, rfl, h4, h5⟩ := h
  rw [floor_mk z q q0]
  unfold dendronref03_Floor.f
  exact Ev.bind (fden_ev _ _ q) (Ev.bind (wover_ev z q q0 (by omega) (by omega)) (Ev.now _))
theorem FL.floor_L {x : Rat} {a : Nat} {r : Rt} (h : FL x a r) : L x.floor ≤ a := by
  obtain ⟨z, q, rfl, q0, rfl, h4, h5⟩ := h
  rw [floor_mk z q q0]
  exact Nat.le_trans (L_le_of (ediv_abs z q q0)) h4
theorem wis_true (z : Int) (h : Th.len z.natAbs ≤ 268435456) : Ev (fun k => dendronref02_Is.f k (wl z).1 (wl z).2 (il z).1 (il z).2) true := by
  unfold dendronref02_Is.f
  have e2 : (wl z).2 = Th.lm z.natAbs := rfl
  have hr := right_ev (wl z).2 (Th.lm_ok _).U (by rw [wl_lens]; omega)
  rw [e2, Th.val_lm, decide_eq_true rfl, ← e2] at hr
  have hf := wfrom_ev (wl z).1 (wl z).2 (Th.lm_ok _).U (by rw [wl_lens]; omega)
  rw [wv_wl] at hf
  have hL : L z ≤ 3 * Th.len z.natAbs := len_of_len _
  have ho := worder_ev z z (by omega) (by omega)
  have e : (cmpI z z == 0) = true := by unfold cmpI; simp
  have tail : Ev (fun k => (dendronref02_From.f k (wl z).1 (wl z).2).bind fun v19 => (dendronref02_Order.f k v19.1 v19.2 (il z).1 (il z).2).bind fun v21 => some (v21 == 0)) true :=
    Ev.bind hf (Ev.bind ho ((Ev.now _).of_eq e))
  refine Ev.bind hr (Ev.if_pos rfl ?_)
  by_cases h0 : z = 0
  · subst h0
    refine Ev.if_neg ?_ (Ev.if_neg (by decide) tail)
    rw [wl_lens, show (0 : Int).natAbs = 0 from rfl, Th.len_zero]
    decide
  · have := Th.len_eq_zero (n := z.natAbs)
    exact Ev.if_pos (by rw [wl_lens]; omega) tail
end Go.DI.Th.D
namespace Go.DI.Th
open Go Go.RowKit Go.DI

/-- Where the first answers, the second answers the same. -/
def Le {α : Type} (a b : Option α) : Prop := ∀ r, a = some r → b = some r
theorem Le.refl {α : Type} (a : Option α) : Le a a := fun _ h => h
theorem Le.none {α : Type} (b : Option α) : Le none b := fun _ h => by cases h
theorem Le.eqs {α : Type} {a b c d : Option α} (h : a = c) (h' : b = d) (k : Le c d) : Le a b := by subst h; subst h'; exact k
theorem Le.bind {α β : Type} {a b : Option α} {f g : α → Option β} (h : Le a b) (k : ∀ v, Le (f v) (g v)) : Le (a.bind f) (b.bind g) := by
  intro r hr
  cases ha : a with
  | none => rw [ha] at hr; cases hr
  | some v =>
    rw [ha] at hr
    rw [h v ha]
    exact k v r hr
theorem Le.ite {α : Type} {c : Prop} [Decidable c] {a b a' b' : Option α} (h : Le a a') (k : Le b b') : Le (if c then a else b) (if c then a' else b') := by
  split
  · exact h
  · exact k
theorem Ev.mono {α : Type} {g : Nat → Option α} (h : ∀ k, Le (g k) (g (k + 1))) {K : Nat} {r : α} (hk : g K = some r) : Ev g r := by
  refine ⟨K, fun n hn => ?_⟩
  induction hn with
  | refl => exact hk
  | step _ ih => exact h _ r ih
theorem nat_trim.monoL (k : Nat) : (∀ x0 x1, Le (nat_trim.l0 k x0 x1) (nat_trim.l0 (k + 1) x0 x1)) := by
  induction k with
  | zero => exact fun _ _ => Le.none _
  | succ k ih =>
    intro x0 x1
    refine Le.eqs (nat_trim.l0.eq_2 ..) (nat_trim.l0.eq_2 ..) ?_
    repeat' (first
      | with_reducible exact Le.refl _
      | with_reducible refine Le.ite ?_ ?_
      | with_reducible exact ih _ _
      | with_reducible refine Le.bind (ih _ _) (fun _ => ?_)
      | with_reducible refine Le.bind (Le.refl _) (fun _ => ?_)
      | split)
theorem nat_trim.mono (k : Nat) : ∀ x0, Le (nat_trim.f k x0) (nat_trim.f (k + 1) x0) := by
  intro x0
  unfold nat_trim.f
  repeat' (first
    | with_reducible exact Le.refl _
    | with_reducible refine Le.ite ?_ ?_
    | with_reducible exact (nat_trim.monoL k) _ _
    | with_reducible refine Le.bind (Le.refl _) (fun _ => ?_)
    | split)
theorem nat_Clean.monoL (k : Nat) : (∀ x0 x1 x2 x3, Le (nat_Clean.l0 k x0 x1 x2 x3) (nat_Clean.l0 (k + 1) x0 x1 x2 x3)) := by
  induction k with
  | zero => exact fun _ _ _ _ => Le.none _
  | succ k ih =>
    intro x0 x1 x2 x3
    refine Le.eqs (nat_Clean.l0.eq_2 ..) (nat_Clean.l0.eq_2 ..) ?_
    repeat' (first
      | with_reducible exact Le.refl _
      | with_reducible refine Le.ite ?_ ?_
      | with_reducible exact ih _ _ _ _
      | with_reducible refine Le.bind (ih _ _ _ _) (fun _ => ?_)
      | with_reducible refine Le.bind (nat_trim.mono k _) (fun _ => ?_)
      | with_reducible exact nat_trim.mono k _
      | with_reducible refine Le.bind (Le.refl _) (fun _ => ?_)
      | split)
theorem nat_Clean.mono (k : Nat) : ∀ x0, Le (nat_Clean.f k x0) (nat_Clean.f (k + 1) x0) := by
  intro x0
  unfold nat_Clean.f
  repeat' (first
    | with_reducible exact Le.refl _
    | with_reducible refine Le.ite ?_ ?_
    | with_reducible exact (nat_Clean.monoL k) _ _ _ _
    | with_reducible refine Le.bind (Le.refl _) (fun _ => ?_)
    | split)
theorem whole_Clean.mono (k : Nat) : ∀ x0 x1, Le (whole_Clean.f k x0 x1) (whole_Clean.f (k + 1) x0 x1) := by
  intro x0 x1
  unfold whole_Clean.f
  repeat' (first
    | with_reducible exact Le.refl _
    | with_reducible refine Le.ite ?_ ?_
    | with_reducible refine Le.bind (nat_Clean.mono k _) (fun _ => ?_)
    | with_reducible exact nat_Clean.mono k _
    | with_reducible refine Le.bind (Le.refl _) (fun _ => ?_)
    | split)
theorem whole_Sign.mono (k : Nat) : ∀ x0 x1, Le (whole_Sign.f k x0 x1) (whole_Sign.f (k + 1) x0 x1) := by
  intro x0 x1
  unfold whole_Sign.f
  repeat' (first
    | with_reducible exact Le.refl _
    | with_reducible refine Le.ite ?_ ?_
    | with_reducible refine Le.bind (whole_Clean.mono k _ _) (fun _ => ?_)
    | with_reducible exact whole_Clean.mono k _ _
    | with_reducible refine Le.bind (Le.refl _) (fun _ => ?_)
    | split)
theorem whole_Neg.mono (k : Nat) : ∀ x0 x1, Le (whole_Neg.f k x0 x1) (whole_Neg.f (k + 1) x0 x1) := by
  intro x0 x1
  unfold whole_Neg.f
  repeat' (first
    | with_reducible exact Le.refl _
    | with_reducible refine Le.ite ?_ ?_
    | with_reducible refine Le.bind (whole_Clean.mono k _ _) (fun _ => ?_)
    | with_reducible exact whole_Clean.mono k _ _
    | with_reducible refine Le.bind (Le.refl _) (fun _ => ?_)
    | split)
theorem nat_Of.mono (k : Nat) : ∀ x0, Le (nat_Of.f k x0) (nat_Of.f (k + 1) x0) := by
  intro x0
  unfold nat_Of.f
  repeat' (first
    | with_reducible exact Le.refl _
    | with_reducible refine Le.ite ?_ ?_
    | with_reducible refine Le.bind (nat_trim.mono k _) (fun _ => ?_)
    | with_reducible exact nat_trim.mono k _
    | with_reducible refine Le.bind (Le.refl _) (fun _ => ?_)
    | split)
theorem nat_order.monoL (k : Nat) : (∀ x0 x1 x2, Le (nat_order.l0 k x0 x1 x2) (nat_order.l0 (k + 1) x0 x1 x2)) := by
  induction k with
  | zero => exact fun _ _ _ => Le.none _
  | succ k ih =>
    intro x0 x1 x2
    refine Le.eqs (nat_order.l0.eq_2 ..) (nat_order.l0.eq_2 ..) ?_
    repeat' (first
      | with_reducible exact Le.refl _
      | with_reducible refine Le.ite ?_ ?_
      | with_reducible exact ih _ _ _
      | with_reducible refine Le.bind (ih _ _ _) (fun _ => ?_)
      | with_reducible refine Le.bind (Le.refl _) (fun _ => ?_)
      | split)
theorem nat_order.mono (k : Nat) : ∀ x0 x1, Le (nat_order.f k x0 x1) (nat_order.f (k + 1) x0 x1) := by
  intro x0 x1
  unfold nat_order.f
  repeat' (first
    | with_reducible exact Le.refl _
    | with_reducible refine Le.ite ?_ ?_
    | with_reducible exact (nat_order.monoL k) _ _ _
    | with_reducible refine Le.bind (Le.refl _) (fun _ => ?_)
    | split)
theorem nat_To.mono (k : Nat) : ∀ x0, Le (nat_To.f k x0) (nat_To.f (k + 1) x0) := by
  intro x0
  unfold nat_To.f
  repeat' (first
    | with_reducible exact Le.refl _
    | with_reducible refine Le.ite ?_ ?_
    | with_reducible refine Le.bind (nat_Clean.mono k _) (fun _ => ?_)
    | with_reducible exact nat_Clean.mono k _
    | with_reducible refine Le.bind (Le.refl _) (fun _ => ?_)
    | split)
theorem nat_euclid.monoL (k : Nat) : (∀ x0 x1, Le (nat_euclid.l0 k x0 x1) (nat_euclid.l0 (k + 1) x0 x1)) := by
  induction k with
  | zero => exact fun _ _ => Le.none _
  | succ k ih =>
    intro x0 x1
    refine Le.eqs (nat_euclid.l0.eq_2 ..) (nat_euclid.l0.eq_2 ..) ?_
    repeat' (first
      | with_reducible exact Le.refl _
      | with_reducible refine Le.ite ?_ ?_
      | with_reducible exact ih _ _
      | with_reducible refine Le.bind (ih _ _) (fun _ => ?_)
      | with_reducible refine Le.bind (nat_Of.mono k _) (fun _ => ?_)
      | with_reducible exact nat_Of.mono k _
      | with_reducible refine Le.bind (Le.refl _) (fun _ => ?_)
      | split)
theorem nat_euclid.mono (k : Nat) : ∀ x0 x1, Le (nat_euclid.f k x0 x1) (nat_euclid.f (k + 1) x0 x1) := by
  intro x0 x1
  unfold nat_euclid.f
  repeat' (first
    | with_reducible exact Le.refl _
    | with_reducible refine Le.ite ?_ ?_
    | with_reducible exact (nat_euclid.monoL k) _ _
    | with_reducible refine Le.bind (nat_To.mono k _) (fun _ => ?_)
    | with_reducible exact nat_To.mono k _
    | with_reducible refine Le.bind (Le.refl _) (fun _ => ?_)
    | split)
theorem nat_zeros.monoL (k : Nat) : (∀ x0 x1 x2 x3, Le (nat_zeros.l0 k x0 x1 x2 x3) (nat_zeros.l0 (k + 1) x0 x1 x2 x3)) := by
  induction k with
  | zero => exact fun _ _ _ _ => Le.none _
  | succ k ih =>
    intro x0 x1 x2 x3
    refine Le.eqs (nat_zeros.l0.eq_2 ..) (nat_zeros.l0.eq_2 ..) ?_
    repeat' (first
      | with_reducible exact Le.refl _
      | with_reducible refine Le.ite ?_ ?_
      | with_reducible exact ih _ _ _ _
      | with_reducible refine Le.bind (ih _ _ _ _) (fun _ => ?_)
      | with_reducible refine Le.bind (Le.refl _) (fun _ => ?_)
      | split)
theorem nat_zeros.mono (k : Nat) : ∀ x0, Le (nat_zeros.f k x0) (nat_zeros.f (k + 1) x0) := by
  intro x0
  unfold nat_zeros.f
  repeat' (first
    | with_reducible exact Le.refl _
    | with_reducible refine Le.ite ?_ ?_
    | with_reducible exact (nat_zeros.monoL k) _ _ _ _
    | with_reducible refine Le.bind (Le.refl _) (fun _ => ?_)
    | split)
theorem nat_shr.monoL (k : Nat) : (∀ x0 x1 x2 x3 x4 x5, Le (nat_shr.l0 k x0 x1 x2 x3 x4 x5) (nat_shr.l0 (k + 1) x0 x1 x2 x3 x4 x5)) := by
  induction k with
  | zero => exact fun _ _ _ _ _ _ => Le.none _
  | succ k ih =>
    intro x0 x1 x2 x3 x4 x5
    refine Le.eqs (nat_shr.l0.eq_2 ..) (nat_shr.l0.eq_2 ..) ?_
    repeat' (first
      | with_reducible exact Le.refl _
      | with_reducible refine Le.ite ?_ ?_
      | with_reducible exact ih _ _ _ _ _ _
      | with_reducible refine Le.bind (ih _ _ _ _ _ _) (fun _ => ?_)
      | with_reducible refine Le.bind (nat_trim.mono k _) (fun _ => ?_)
      | with_reducible exact nat_trim.mono k _
      | with_reducible refine Le.bind (Le.refl _) (fun _ => ?_)
      | split)
theorem nat_shr.mono (k : Nat) : ∀ x0 x1, Le (nat_shr.f k x0 x1) (nat_shr.f (k + 1) x0 x1) := by
  intro x0 x1
  unfold nat_shr.f
  repeat' (first
    | with_reducible exact Le.refl _
    | with_reducible refine Le.ite ?_ ?_
    | with_reducible exact (nat_shr.monoL k) _ _ _ _ _ _
    | with_reducible refine Le.bind (Le.refl _) (fun _ => ?_)
    | split)
theorem nat_trimM.monoL (k : Nat) : (∀ x0 x1, Le (nat_trimM.l0 k x0 x1) (nat_trimM.l0 (k + 1) x0 x1)) := by
  induction k with
  | zero => exact fun _ _ => Le.none _
  | succ k ih =>
    intro x0 x1
    refine Le.eqs (nat_trimM.l0.eq_2 ..) (nat_trimM.l0.eq_2 ..) ?_
    repeat' (first
      | with_reducible exact Le.refl _
      | with_reducible refine Le.ite ?_ ?_
      | with_reducible exact ih _ _
      | with_reducible refine Le.bind (ih _ _) (fun _ => ?_)
      | with_reducible refine Le.bind (Le.refl _) (fun _ => ?_)
      | split)
theorem nat_trimM.mono (k : Nat) : ∀ x0, Le (nat_trimM.f k x0) (nat_trimM.f (k + 1) x0) := by
  intro x0
  unfold nat_trimM.f
  repeat' (first
    | with_reducible exact Le.refl _
    | with_reducible refine Le.ite ?_ ?_
    | with_reducible exact (nat_trimM.monoL k) _ _
    | with_reducible refine Le.bind (Le.refl _) (fun _ => ?_)
    | split)
theorem nat_shl.monoL (k : Nat) : (∀ x0 x1 x2 x3 x4 x5, Le (nat_shl.l0 k x0 x1 x2 x3 x4 x5) (nat_shl.l0 (k + 1) x0 x1 x2 x3 x4 x5)) := by
  induction k with
  | zero => exact fun _ _ _ _ _ _ => Le.none _
  | succ k ih =>
    intro x0 x1 x2 x3 x4 x5
    refine Le.eqs (nat_shl.l0.eq_2 ..) (nat_shl.l0.eq_2 ..) ?_
    repeat' (first
      | with_reducible exact Le.refl _
      | with_reducible refine Le.ite ?_ ?_
      | with_reducible exact ih _ _ _ _ _ _
      | with_reducible refine Le.bind (ih _ _ _ _ _ _) (fun _ => ?_)
      | with_reducible refine Le.bind (nat_trimM.mono k _) (fun _ => ?_)
      | with_reducible exact nat_trimM.mono k _
      | with_reducible refine Le.bind (Le.refl _) (fun _ => ?_)
      | split)
theorem nat_shl.mono (k : Nat) : ∀ x0 x1, Le (nat_shl.f k x0 x1) (nat_shl.f (k + 1) x0 x1) := by
  intro x0 x1
  unfold nat_shl.f
  repeat' (first
    | with_reducible exact Le.refl _
    | with_reducible refine Le.ite ?_ ?_
    | with_reducible exact (nat_shl.monoL k) _ _ _ _ _ _
    | with_reducible refine Le.bind (Le.refl _) (fun _ => ?_)
    | split)
theorem nat_small.monoL (k : Nat) : (∀ x0 x1 x2 x3 x4, Le (nat_small.l0 k x0 x1 x2 x3 x4) (nat_small.l0 (k + 1) x0 x1 x2 x3 x4)) := by
  induction k with
  | zero => exact fun _ _ _ _ _ => Le.none _
  | succ k ih =>
    intro x0 x1 x2 x3 x4
    refine Le.eqs (nat_small.l0.eq_2 ..) (nat_small.l0.eq_2 ..) ?_
    repeat' (first
      | with_reducible exact Le.refl _
      | with_reducible refine Le.ite ?_ ?_
      | with_reducible exact ih _ _ _ _ _
      | with_reducible refine Le.bind (ih _ _ _ _ _) (fun _ => ?_)
      | with_reducible refine Le.bind (nat_trim.mono k _) (fun _ => ?_)
      | with_reducible exact nat_trim.mono k _
      | with_reducible refine Le.bind (Le.refl _) (fun _ => ?_)
      | split)
theorem nat_small.mono (k : Nat) : ∀ x0 x1, Le (nat_small.f k x0 x1) (nat_small.f (k + 1) x0 x1) := by
  intro x0 x1
  unfold nat_small.f
  repeat' (first
    | with_reducible exact Le.refl _
    | with_reducible refine Le.ite ?_ ?_
    | with_reducible exact (nat_small.monoL k) _ _ _ _ _
    | with_reducible refine Le.bind (Le.refl _) (fun _ => ?_)
    | split)
theorem nat_take.monoL (k : Nat) : (∀ x0 x1 x2 x3 x4 x5 x6, Le (nat_take.l0 k x0 x1 x2 x3 x4 x5 x6) (nat_take.l0 (k + 1) x0 x1 x2 x3 x4 x5 x6)) := by
  induction k with
  | zero => exact fun _ _ _ _ _ _ _ => Le.none _
  | succ k ih =>
    intro x0 x1 x2 x3 x4 x5 x6
    refine Le.eqs (nat_take.l0.eq_2 ..) (nat_take.l0.eq_2 ..) ?_
    repeat' (first
      | with_reducible exact Le.refl _
      | with_reducible refine Le.ite ?_ ?_
      | with_reducible exact ih _ _ _ _ _ _ _
      | with_reducible refine Le.bind (ih _ _ _ _ _ _ _) (fun _ => ?_)
      | with_reducible refine Le.bind (Le.refl _) (fun _ => ?_)
      | split)
theorem nat_take.mono (k : Nat) : ∀ x0 x1 x2, Le (nat_take.f k x0 x1 x2) (nat_take.f (k + 1) x0 x1 x2) := by
  intro x0 x1 x2
  unfold nat_take.f
  repeat' (first
    | with_reducible exact Le.refl _
    | with_reducible refine Le.ite ?_ ?_
    | with_reducible exact (nat_take.monoL k) _ _ _ _ _ _ _
    | with_reducible refine Le.bind (Le.refl _) (fun _ => ?_)
    | split)
theorem nat_give.monoL (k : Nat) : (∀ x0 x1 x2 x3 x4, Le (nat_give.l0 k x0 x1 x2 x3 x4) (nat_give.l0 (k + 1) x0 x1 x2 x3 x4)) := by
  induction k with
  | zero => exact fun _ _ _ _ _ => Le.none _
  | succ k ih =>
    intro x0 x1 x2 x3 x4
    refine Le.eqs (nat_give.l0.eq_2 ..) (nat_give.l0.eq_2 ..) ?_
    repeat' (first
      | with_reducible exact Le.refl _
      | with_reducible refine Le.ite ?_ ?_
      | with_reducible exact ih _ _ _ _ _
      | with_reducible refine Le.bind (ih _ _ _ _ _) (fun _ => ?_)
      | with_reducible refine Le.bind (Le.refl _) (fun _ => ?_)
      | split)
theorem nat_give.mono (k : Nat) : ∀ x0 x1, Le (nat_give.f k x0 x1) (nat_give.f (k + 1) x0 x1) := by
  intro x0 x1
  unfold nat_give.f
  repeat' (first
    | with_reducible exact Le.refl _
    | with_reducible refine Le.ite ?_ ?_
    | with_reducible exact (nat_give.monoL k) _ _ _ _ _
    | with_reducible refine Le.bind (Le.refl _) (fun _ => ?_)
    | split)
theorem nat_digit.monoL (k : Nat) : (∀ x0 x1 x2 x3 x4, Le (nat_digit.l0 k x0 x1 x2 x3 x4) (nat_digit.l0 (k + 1) x0 x1 x2 x3 x4)) := by
  induction k with
  | zero => exact fun _ _ _ _ _ => Le.none _
  | succ k ih =>
    intro x0 x1 x2 x3 x4
    refine Le.eqs (nat_digit.l0.eq_2 ..) (nat_digit.l0.eq_2 ..) ?_
    repeat' (first
      | with_reducible exact Le.refl _
      | with_reducible refine Le.ite ?_ ?_
      | with_reducible exact ih _ _ _ _ _
      | with_reducible refine Le.bind (ih _ _ _ _ _) (fun _ => ?_)
      | with_reducible refine Le.bind (nat_take.mono k _ _ _) (fun _ => ?_)
      | with_reducible refine Le.bind (nat_give.mono k _ _) (fun _ => ?_)
      | with_reducible exact nat_take.mono k _ _ _
      | with_reducible exact nat_give.mono k _ _
      | with_reducible refine Le.bind (Le.refl _) (fun _ => ?_)
      | split)
theorem nat_digit.mono (k : Nat) : ∀ x0 x1, Le (nat_digit.f k x0 x1) (nat_digit.f (k + 1) x0 x1) := by
  intro x0 x1
  unfold nat_digit.f
  repeat' (first
    | with_reducible exact Le.refl _
    | with_reducible refine Le.ite ?_ ?_
    | with_reducible exact (nat_digit.monoL k) _ _ _ _ _
    | with_reducible refine Le.bind (Le.refl _) (fun _ => ?_)
    | split)
theorem nat_long.monoL (k : Nat) : (∀ x0 x1 x2 x3 x4 x5, Le (nat_long.l0 k x0 x1 x2 x3 x4 x5) (nat_long.l0 (k + 1) x0 x1 x2 x3 x4 x5)) := by
  induction k with
  | zero => exact fun _ _ _ _ _ _ => Le.none _
  | succ k ih =>
    intro x0 x1 x2 x3 x4 x5
    refine Le.eqs (nat_long.l0.eq_2 ..) (nat_long.l0.eq_2 ..) ?_
    repeat' (first
      | with_reducible exact Le.refl _
      | with_reducible refine Le.ite ?_ ?_
      | with_reducible exact ih _ _ _ _ _ _
      | with_reducible refine Le.bind (ih _ _ _ _ _ _) (fun _ => ?_)
      | with_reducible refine Le.bind (nat_digit.mono k _ _) (fun _ => ?_)
      | with_reducible refine Le.bind (nat_trim.mono k _) (fun _ => ?_)
      | with_reducible refine Le.bind (nat_shr.mono k _ _) (fun _ => ?_)
      | with_reducible exact nat_digit.mono k _ _
      | with_reducible exact nat_trim.mono k _
      | with_reducible exact nat_shr.mono k _ _
      | with_reducible refine Le.bind (Le.refl _) (fun _ => ?_)
      | split)
theorem nat_long.mono (k : Nat) : ∀ x0 x1, Le (nat_long.f k x0 x1) (nat_long.f (k + 1) x0 x1) := by
  intro x0 x1
  unfold nat_long.f
  repeat' (first
    | with_reducible exact Le.refl _
    | with_reducible refine Le.ite ?_ ?_
    | with_reducible exact (nat_long.monoL k) _ _ _ _ _ _
    | with_reducible refine Le.bind (nat_shl.mono k _ _) (fun _ => ?_)
    | with_reducible exact nat_shl.mono k _ _
    | with_reducible refine Le.bind (Le.refl _) (fun _ => ?_)
    | split)
theorem nat_DivMod.mono (k : Nat) : ∀ x0 x1, Le (nat_DivMod.f k x0 x1) (nat_DivMod.f (k + 1) x0 x1) := by
  intro x0 x1
  unfold nat_DivMod.f
  repeat' (first
    | with_reducible exact Le.refl _
    | with_reducible refine Le.ite ?_ ?_
    | with_reducible refine Le.bind (nat_Clean.mono k _) (fun _ => ?_)
    | with_reducible refine Le.bind (nat_order.mono k _ _) (fun _ => ?_)
    | with_reducible refine Le.bind (nat_small.mono k _ _) (fun _ => ?_)
    | with_reducible refine Le.bind (nat_Of.mono k _) (fun _ => ?_)
    | with_reducible refine Le.bind (nat_long.mono k _ _) (fun _ => ?_)
    | with_reducible exact nat_Clean.mono k _
    | with_reducible exact nat_order.mono k _ _
    | with_reducible exact nat_small.mono k _ _
    | with_reducible exact nat_Of.mono k _
    | with_reducible exact nat_long.mono k _ _
    | with_reducible refine Le.bind (Le.refl _) (fun _ => ?_)
    | split)
theorem nat_rest.mono (k : Nat) : ∀ x0 x1, Le (nat_rest.f k x0 x1) (nat_rest.f (k + 1) x0 x1) := by
  intro x0 x1
  unfold nat_rest.f
  repeat' (first
    | with_reducible exact Le.refl _
    | with_reducible refine Le.ite ?_ ?_
    | with_reducible refine Le.bind (nat_DivMod.mono k _ _) (fun _ => ?_)
    | with_reducible exact nat_DivMod.mono k _ _
    | with_reducible refine Le.bind (Le.refl _) (fun _ => ?_)
    | split)
theorem nat_minus.monoL (k : Nat) : (∀ x0 x1 x2 x3 x4 x5, Le (nat_minus.l0 k x0 x1 x2 x3 x4 x5) (nat_minus.l0 (k + 1) x0 x1 x2 x3 x4 x5)) := by
  induction k with
  | zero => exact fun _ _ _ _ _ _ => Le.none _
  | succ k ih =>
    intro x0 x1 x2 x3 x4 x5
    refine Le.eqs (nat_minus.l0.eq_2 ..) (nat_minus.l0.eq_2 ..) ?_
    repeat' (first
      | with_reducible exact Le.refl _
      | with_reducible refine Le.ite ?_ ?_
      | with_reducible exact ih _ _ _ _ _ _
      | with_reducible refine Le.bind (ih _ _ _ _ _ _) (fun _ => ?_)
      | with_reducible refine Le.bind (nat_trim.mono k _) (fun _ => ?_)
      | with_reducible exact nat_trim.mono k _
      | with_reducible refine Le.bind (Le.refl _) (fun _ => ?_)
      | split)
theorem nat_minus.mono (k : Nat) : ∀ x0 x1, Le (nat_minus.f k x0 x1) (nat_minus.f (k + 1) x0 x1) := by
  intro x0 x1
  unfold nat_minus.f
  repeat' (first
    | with_reducible exact Le.refl _
    | with_reducible refine Le.ite ?_ ?_
    | with_reducible exact (nat_minus.monoL k) _ _ _ _ _ _
    | with_reducible refine Le.bind (Le.refl _) (fun _ => ?_)
    | split)
theorem nat_Gcd.monoL (k : Nat) : (∀ x0 x1 x2 x3, Le (nat_Gcd.l0 k x0 x1 x2 x3) (nat_Gcd.l0 (k + 1) x0 x1 x2 x3)) := by
  induction k with
  | zero => exact fun _ _ _ _ => Le.none _
  | succ k ih =>
    intro x0 x1 x2 x3
    refine Le.eqs (nat_Gcd.l0.eq_2 ..) (nat_Gcd.l0.eq_2 ..) ?_
    repeat' (first
      | with_reducible exact Le.refl _
      | with_reducible refine Le.ite ?_ ?_
      | with_reducible exact ih _ _ _ _
      | with_reducible refine Le.bind (ih _ _ _ _) (fun _ => ?_)
      | with_reducible refine Le.bind (nat_order.mono k _ _) (fun _ => ?_)
      | with_reducible refine Le.bind (nat_shl.mono k _ _) (fun _ => ?_)
      | with_reducible refine Le.bind (nat_rest.mono k _ _) (fun _ => ?_)
      | with_reducible refine Le.bind (nat_zeros.mono k _) (fun _ => ?_)
      | with_reducible refine Le.bind (nat_shr.mono k _ _) (fun _ => ?_)
      | with_reducible refine Le.bind (nat_minus.mono k _ _) (fun _ => ?_)
      | with_reducible exact nat_order.mono k _ _
      | with_reducible exact nat_shl.mono k _ _
      | with_reducible exact nat_rest.mono k _ _
      | with_reducible exact nat_zeros.mono k _
      | with_reducible exact nat_shr.mono k _ _
      | with_reducible exact nat_minus.mono k _ _
      | with_reducible refine Le.bind (Le.refl _) (fun _ => ?_)
      | split)
theorem nat_Gcd.mono (k : Nat) : ∀ x0 x1, Le (nat_Gcd.f k x0 x1) (nat_Gcd.f (k + 1) x0 x1) := by
  intro x0 x1
  unfold nat_Gcd.f
  repeat' (first
    | with_reducible exact Le.refl _
    | with_reducible refine Le.ite ?_ ?_
    | with_reducible exact (nat_Gcd.monoL k) _ _ _ _
    | with_reducible refine Le.bind (nat_Clean.mono k _) (fun _ => ?_)
    | with_reducible refine Le.bind (nat_euclid.mono k _ _) (fun _ => ?_)
    | with_reducible refine Le.bind (nat_zeros.mono k _) (fun _ => ?_)
    | with_reducible refine Le.bind (nat_shr.mono k _ _) (fun _ => ?_)
    | with_reducible exact nat_Clean.mono k _
    | with_reducible exact nat_euclid.mono k _ _
    | with_reducible exact nat_zeros.mono k _
    | with_reducible exact nat_shr.mono k _ _
    | with_reducible refine Le.bind (Le.refl _) (fun _ => ?_)
    | split)
theorem ratio_form.mono (k : Nat) : ∀ x0 x1 x2, Le (ratio_form.f k x0 x1 x2) (ratio_form.f (k + 1) x0 x1 x2) := by
  intro x0 x1 x2
  unfold ratio_form.f
  repeat' (first
    | with_reducible exact Le.refl _
    | with_reducible refine Le.ite ?_ ?_
    | with_reducible refine Le.bind (nat_Of.mono k _) (fun _ => ?_)
    | with_reducible refine Le.bind (nat_Gcd.mono k _ _) (fun _ => ?_)
    | with_reducible refine Le.bind (nat_DivMod.mono k _ _) (fun _ => ?_)
    | with_reducible exact nat_Of.mono k _
    | with_reducible exact nat_Gcd.mono k _ _
    | with_reducible exact nat_DivMod.mono k _ _
    | with_reducible refine Le.bind (Le.refl _) (fun _ => ?_)
    | split)
theorem ratio_Make.mono (k : Nat) : ∀ x0 x1 x2 x3, Le (ratio_Make.f k x0 x1 x2 x3) (ratio_Make.f (k + 1) x0 x1 x2 x3) := by
  intro x0 x1 x2 x3
  unfold ratio_Make.f
  repeat' (first
    | with_reducible exact Le.refl _
    | with_reducible refine Le.ite ?_ ?_
    | with_reducible refine Le.bind (whole_Clean.mono k _ _) (fun _ => ?_)
    | with_reducible refine Le.bind (whole_Sign.mono k _ _) (fun _ => ?_)
    | with_reducible refine Le.bind (whole_Neg.mono k _ _) (fun _ => ?_)
    | with_reducible refine Le.bind (ratio_form.mono k _ _ _) (fun _ => ?_)
    | with_reducible exact whole_Clean.mono k _ _
    | with_reducible exact whole_Sign.mono k _ _
    | with_reducible exact whole_Neg.mono k _ _
    | with_reducible exact ratio_form.mono k _ _ _
    | with_reducible refine Le.bind (Le.refl _) (fun _ => ?_)
    | split)
theorem ratio_Zero.mono (k : Nat) : Le (ratio_Zero.f k ) (ratio_Zero.f (k + 1) ) := by
  unfold ratio_Zero.f
  repeat' (first
    | with_reducible exact Le.refl _
    | with_reducible refine Le.ite ?_ ?_
    | with_reducible refine Le.bind (nat_Of.mono k _) (fun _ => ?_)
    | with_reducible exact nat_Of.mono k _
    | with_reducible refine Le.bind (Le.refl _) (fun _ => ?_)
    | split)
theorem whole_Of.mono (k : Nat) : ∀ x0, Le (whole_Of.f k x0) (whole_Of.f (k + 1) x0) := by
  intro x0
  unfold whole_Of.f
  repeat' (first
    | with_reducible exact Le.refl _
    | with_reducible refine Le.ite ?_ ?_
    | with_reducible refine Le.bind (nat_Of.mono k _) (fun _ => ?_)
    | with_reducible exact nat_Of.mono k _
    | with_reducible refine Le.bind (Le.refl _) (fun _ => ?_)
    | split)
theorem ratio_Of.mono (k : Nat) : ∀ x0, Le (ratio_Of.f k x0) (ratio_Of.f (k + 1) x0) := by
  intro x0
  unfold ratio_Of.f
  repeat' (first
    | with_reducible exact Le.refl _
    | with_reducible refine Le.ite ?_ ?_
    | with_reducible refine Le.bind (whole_Of.mono k _) (fun _ => ?_)
    | with_reducible refine Le.bind (nat_Of.mono k _) (fun _ => ?_)
    | with_reducible exact whole_Of.mono k _
    | with_reducible exact nat_Of.mono k _
    | with_reducible refine Le.bind (Le.refl _) (fun _ => ?_)
    | split)
theorem ratio_One.mono (k : Nat) : Le (ratio_One.f k ) (ratio_One.f (k + 1) ) := by
  unfold ratio_One.f
  repeat' (first
    | with_reducible exact Le.refl _
    | with_reducible refine Le.ite ?_ ?_
    | with_reducible refine Le.bind (ratio_Of.mono k _) (fun _ => ?_)
    | with_reducible exact ratio_Of.mono k _
    | with_reducible refine Le.bind (Le.refl _) (fun _ => ?_)
    | split)
theorem ratio_Int.mono (k : Nat) : ∀ x0 x1, Le (ratio_Int.f k x0 x1) (ratio_Int.f (k + 1) x0 x1) := by
  intro x0 x1
  unfold ratio_Int.f
  repeat' (first
    | with_reducible exact Le.refl _
    | with_reducible refine Le.ite ?_ ?_
    | with_reducible refine Le.bind (whole_Clean.mono k _ _) (fun _ => ?_)
    | with_reducible refine Le.bind (nat_Of.mono k _) (fun _ => ?_)
    | with_reducible exact whole_Clean.mono k _ _
    | with_reducible exact nat_Of.mono k _
    | with_reducible refine Le.bind (Le.refl _) (fun _ => ?_)
    | split)
theorem ratio_Clean.mono (k : Nat) : ∀ x0 x1 x2, Le (ratio_Clean.f k x0 x1 x2) (ratio_Clean.f (k + 1) x0 x1 x2) := by
  intro x0 x1 x2
  unfold ratio_Clean.f
  repeat' (first
    | with_reducible exact Le.refl _
    | with_reducible refine Le.ite ?_ ?_
    | with_reducible refine Le.bind (nat_Clean.mono k _) (fun _ => ?_)
    | with_reducible refine Le.bind (ratio_Zero.mono k ) (fun _ => ?_)
    | with_reducible refine Le.bind (whole_Clean.mono k _ _) (fun _ => ?_)
    | with_reducible refine Le.bind (ratio_form.mono k _ _ _) (fun _ => ?_)
    | with_reducible exact nat_Clean.mono k _
    | with_reducible exact ratio_Zero.mono k 
    | with_reducible exact whole_Clean.mono k _ _
    | with_reducible exact ratio_form.mono k _ _ _
    | with_reducible refine Le.bind (Le.refl _) (fun _ => ?_)
    | split)
theorem ratio_Frac.mono (k : Nat) : ∀ x0 x1, Le (ratio_Frac.f k x0 x1) (ratio_Frac.f (k + 1) x0 x1) := by
  intro x0 x1
  unfold ratio_Frac.f
  repeat' (first
    | with_reducible exact Le.refl _
    | with_reducible refine Le.ite ?_ ?_
    | with_reducible refine Le.bind (whole_Of.mono k _) (fun _ => ?_)
    | with_reducible refine Le.bind (ratio_Make.mono k _ _ _ _) (fun _ => ?_)
    | with_reducible refine Le.bind (ratio_Clean.mono k _ _ _) (fun _ => ?_)
    | with_reducible exact whole_Of.mono k _
    | with_reducible exact ratio_Make.mono k _ _ _ _
    | with_reducible exact ratio_Clean.mono k _ _ _
    | with_reducible refine Le.bind (Le.refl _) (fun _ => ?_)
    | split)
theorem nat_Add.monoL (k : Nat) : (∀ x0 x1 x2 x3 x4 x5, Le (nat_Add.l0 k x0 x1 x2 x3 x4 x5) (nat_Add.l0 (k + 1) x0 x1 x2 x3 x4 x5)) := by
  induction k with
  | zero => exact fun _ _ _ _ _ _ => Le.none _
  | succ k ih =>
    intro x0 x1 x2 x3 x4 x5
    refine Le.eqs (nat_Add.l0.eq_2 ..) (nat_Add.l0.eq_2 ..) ?_
    repeat' (first
      | with_reducible exact Le.refl _
      | with_reducible refine Le.ite ?_ ?_
      | with_reducible exact ih _ _ _ _ _ _
      | with_reducible refine Le.bind (ih _ _ _ _ _ _) (fun _ => ?_)
      | with_reducible refine Le.bind (nat_trim.mono k _) (fun _ => ?_)
      | with_reducible exact nat_trim.mono k _
      | with_reducible refine Le.bind (Le.refl _) (fun _ => ?_)
      | split)
theorem nat_Add.mono (k : Nat) : ∀ x0 x1, Le (nat_Add.f k x0 x1) (nat_Add.f (k + 1) x0 x1) := by
  intro x0 x1
  unfold nat_Add.f
  repeat' (first
    | with_reducible exact Le.refl _
    | with_reducible refine Le.ite ?_ ?_
    | with_reducible exact (nat_Add.monoL k) _ _ _ _ _ _
    | with_reducible refine Le.bind (nat_Clean.mono k _) (fun _ => ?_)
    | with_reducible exact nat_Clean.mono k _
    | with_reducible refine Le.bind (Le.refl _) (fun _ => ?_)
    | split)
theorem nat_Sub.mono (k : Nat) : ∀ x0 x1, Le (nat_Sub.f k x0 x1) (nat_Sub.f (k + 1) x0 x1) := by
  intro x0 x1
  unfold nat_Sub.f
  repeat' (first
    | with_reducible exact Le.refl _
    | with_reducible refine Le.ite ?_ ?_
    | with_reducible refine Le.bind (nat_Clean.mono k _) (fun _ => ?_)
    | with_reducible refine Le.bind (nat_order.mono k _ _) (fun _ => ?_)
    | with_reducible refine Le.bind (nat_minus.mono k _ _) (fun _ => ?_)
    | with_reducible exact nat_Clean.mono k _
    | with_reducible exact nat_order.mono k _ _
    | with_reducible exact nat_minus.mono k _ _
    | with_reducible refine Le.bind (Le.refl _) (fun _ => ?_)
    | split)
theorem whole_DivMod.mono (k : Nat) : ∀ x0 x1 x2 x3, Le (whole_DivMod.f k x0 x1 x2 x3) (whole_DivMod.f (k + 1) x0 x1 x2 x3) := by
  intro x0 x1 x2 x3
  unfold whole_DivMod.f
  repeat' (first
    | with_reducible exact Le.refl _
    | with_reducible refine Le.ite ?_ ?_
    | with_reducible refine Le.bind (whole_Clean.mono k _ _) (fun _ => ?_)
    | with_reducible refine Le.bind (nat_DivMod.mono k _ _) (fun _ => ?_)
    | with_reducible refine Le.bind (nat_Of.mono k _) (fun _ => ?_)
    | with_reducible refine Le.bind (nat_Add.mono k _ _) (fun _ => ?_)
    | with_reducible refine Le.bind (nat_Sub.mono k _ _) (fun _ => ?_)
    | with_reducible exact whole_Clean.mono k _ _
    | with_reducible exact nat_DivMod.mono k _ _
    | with_reducible exact nat_Of.mono k _
    | with_reducible exact nat_Add.mono k _ _
    | with_reducible exact nat_Sub.mono k _ _
    | with_reducible refine Le.bind (Le.refl _) (fun _ => ?_)
    | split)
theorem ratio_Floor.mono (k : Nat) : ∀ x0 x1 x2, Le (ratio_Floor.f k x0 x1 x2) (ratio_Floor.f (k + 1) x0 x1 x2) := by
  intro x0 x1 x2
  unfold ratio_Floor.f
  repeat' (first
    | with_reducible exact Le.refl _
    | with_reducible refine Le.ite ?_ ?_
    | with_reducible refine Le.bind (ratio_Clean.mono k _ _ _) (fun _ => ?_)
    | with_reducible refine Le.bind (whole_DivMod.mono k _ _ _ _) (fun _ => ?_)
    | with_reducible exact ratio_Clean.mono k _ _ _
    | with_reducible exact whole_DivMod.mono k _ _ _ _
    | with_reducible refine Le.bind (Le.refl _) (fun _ => ?_)
    | split)
theorem ratio_Neg.mono (k : Nat) : ∀ x0 x1 x2, Le (ratio_Neg.f k x0 x1 x2) (ratio_Neg.f (k + 1) x0 x1 x2) := by
  intro x0 x1 x2
  unfold ratio_Neg.f
  repeat' (first
    | with_reducible exact Le.refl _
    | with_reducible refine Le.ite ?_ ?_
    | with_reducible refine Le.bind (ratio_Clean.mono k _ _ _) (fun _ => ?_)
    | with_reducible refine Le.bind (whole_Neg.mono k _ _) (fun _ => ?_)
    | with_reducible exact ratio_Clean.mono k _ _ _
    | with_reducible exact whole_Neg.mono k _ _
    | with_reducible refine Le.bind (Le.refl _) (fun _ => ?_)
    | split)
theorem ratio_Ceil.mono (k : Nat) : ∀ x0 x1 x2, Le (ratio_Ceil.f k x0 x1 x2) (ratio_Ceil.f (k + 1) x0 x1 x2) := by
  intro x0 x1 x2
  unfold ratio_Ceil.f
  repeat' (first
    | with_reducible exact Le.refl _
    | with_reducible refine Le.ite ?_ ?_
    | with_reducible refine Le.bind (ratio_Neg.mono k _ _ _) (fun _ => ?_)
    | with_reducible refine Le.bind (ratio_Floor.mono k _ _ _) (fun _ => ?_)
    | with_reducible refine Le.bind (whole_Neg.mono k _ _) (fun _ => ?_)
    | with_reducible exact ratio_Neg.mono k _ _ _
    | with_reducible exact ratio_Floor.mono k _ _ _
    | with_reducible exact whole_Neg.mono k _ _
    | with_reducible refine Le.bind (Le.refl _) (fun _ => ?_)
    | split)
theorem nat_Cmp.mono (k : Nat) : ∀ x0 x1, Le (nat_Cmp.f k x0 x1) (nat_Cmp.f (k + 1) x0 x1) := by
  intro x0 x1
  unfold nat_Cmp.f
  repeat' (first
    | with_reducible exact Le.refl _
    | with_reducible refine Le.ite ?_ ?_
    | with_reducible refine Le.bind (nat_Clean.mono k _) (fun _ => ?_)
    | with_reducible refine Le.bind (nat_order.mono k _ _) (fun _ => ?_)
    | with_reducible exact nat_Clean.mono k _
    | with_reducible exact nat_order.mono k _ _
    | with_reducible refine Le.bind (Le.refl _) (fun _ => ?_)
    | split)
theorem whole_Cmp.mono (k : Nat) : ∀ x0 x1 x2 x3, Le (whole_Cmp.f k x0 x1 x2 x3) (whole_Cmp.f (k + 1) x0 x1 x2 x3) := by
  intro x0 x1 x2 x3
  unfold whole_Cmp.f
  repeat' (first
    | with_reducible exact Le.refl _
    | with_reducible refine Le.ite ?_ ?_
    | with_reducible refine Le.bind (whole_Clean.mono k _ _) (fun _ => ?_)
    | with_reducible refine Le.bind (nat_Cmp.mono k _ _) (fun _ => ?_)
    | with_reducible exact whole_Clean.mono k _ _
    | with_reducible exact nat_Cmp.mono k _ _
    | with_reducible refine Le.bind (Le.refl _) (fun _ => ?_)
    | split)
theorem nat_Mul.monoL (k : Nat) : (∀ x0 x1 x2 x3 x4, Le (nat_Mul.l0 k x0 x1 x2 x3 x4) (nat_Mul.l0 (k + 1) x0 x1 x2 x3 x4)) ∧ (∀ x0 x1 x2 x3 x4 x5 x6 x7 x8 x9 x10, Le (nat_Mul.l1 k x0 x1 x2 x3 x4 x5 x6 x7 x8 x9 x10) (nat_Mul.l1 (k + 1) x0 x1 x2 x3 x4 x5 x6 x7 x8 x9 x10)) := by
  induction k with
  | zero => exact ⟨fun _ _ _ _ _ => Le.none _, fun _ _ _ _ _ _ _ _ _ _ _ => Le.none _⟩
  | succ k ih =>
    refine ⟨?_, ?_⟩
    · intro x0 x1 x2 x3 x4
      refine Le.eqs (nat_Mul.l0.eq_2 ..) (nat_Mul.l0.eq_2 ..) ?_
      repeat' (first
        | with_reducible exact Le.refl _
        | with_reducible refine Le.ite ?_ ?_
        | with_reducible exact ih.2 _ _ _ _ _ _ _ _ _ _ _
        | with_reducible refine Le.bind (ih.2 _ _ _ _ _ _ _ _ _ _ _) (fun _ => ?_)
        | with_reducible refine Le.bind (nat_trim.mono k _) (fun _ => ?_)
        | with_reducible exact nat_trim.mono k _
        | with_reducible refine Le.bind (Le.refl _) (fun _ => ?_)
        | split)
    · intro x0 x1 x2 x3 x4 x5 x6 x7 x8 x9 x10
      refine Le.eqs (nat_Mul.l1.eq_2 ..) (nat_Mul.l1.eq_2 ..) ?_
      repeat' (first
        | with_reducible exact Le.refl _
        | with_reducible refine Le.ite ?_ ?_
        | with_reducible exact ih.1 _ _ _ _ _
        | with_reducible refine Le.bind (ih.1 _ _ _ _ _) (fun _ => ?_)
        | with_reducible exact ih.2 _ _ _ _ _ _ _ _ _ _ _
        | with_reducible refine Le.bind (ih.2 _ _ _ _ _ _ _ _ _ _ _) (fun _ => ?_)
        | with_reducible refine Le.bind (Le.refl _) (fun _ => ?_)
        | split)
theorem nat_Mul.mono (k : Nat) : ∀ x0 x1, Le (nat_Mul.f k x0 x1) (nat_Mul.f (k + 1) x0 x1) := by
  intro x0 x1
  unfold nat_Mul.f
  repeat' (first
    | with_reducible exact Le.refl _
    | with_reducible refine Le.ite ?_ ?_
    | with_reducible exact (nat_Mul.monoL k).1 _ _ _ _ _
    | with_reducible refine Le.bind (nat_Clean.mono k _) (fun _ => ?_)
    | with_reducible exact nat_Clean.mono k _
    | with_reducible refine Le.bind (Le.refl _) (fun _ => ?_)
    | split)
theorem whole_Mul.mono (k : Nat) : ∀ x0 x1 x2 x3, Le (whole_Mul.f k x0 x1 x2 x3) (whole_Mul.f (k + 1) x0 x1 x2 x3) := by
  intro x0 x1 x2 x3
  unfold whole_Mul.f
  repeat' (first
    | with_reducible exact Le.refl _
    | with_reducible refine Le.ite ?_ ?_
    | with_reducible refine Le.bind (whole_Clean.mono k _ _) (fun _ => ?_)
    | with_reducible refine Le.bind (nat_Mul.mono k _ _) (fun _ => ?_)
    | with_reducible exact whole_Clean.mono k _ _
    | with_reducible exact nat_Mul.mono k _ _
    | with_reducible refine Le.bind (Le.refl _) (fun _ => ?_)
    | split)
theorem ratio_Cmp.mono (k : Nat) : ∀ x0 x1 x2 x3 x4 x5, Le (ratio_Cmp.f k x0 x1 x2 x3 x4 x5) (ratio_Cmp.f (k + 1) x0 x1 x2 x3 x4 x5) := by
  intro x0 x1 x2 x3 x4 x5
  unfold ratio_Cmp.f
  repeat' (first
    | with_reducible exact Le.refl _
    | with_reducible refine Le.ite ?_ ?_
    | with_reducible refine Le.bind (ratio_Clean.mono k _ _ _) (fun _ => ?_)
    | with_reducible refine Le.bind (whole_Mul.mono k _ _ _ _) (fun _ => ?_)
    | with_reducible refine Le.bind (whole_Cmp.mono k _ _ _ _) (fun _ => ?_)
    | with_reducible exact ratio_Clean.mono k _ _ _
    | with_reducible exact whole_Mul.mono k _ _ _ _
    | with_reducible exact whole_Cmp.mono k _ _ _ _
    | with_reducible refine Le.bind (Le.refl _) (fun _ => ?_)
    | split)
theorem whole_Add.mono (k : Nat) : ∀ x0 x1 x2 x3, Le (whole_Add.f k x0 x1 x2 x3) (whole_Add.f (k + 1) x0 x1 x2 x3) := by
  intro x0 x1 x2 x3
  unfold whole_Add.f
  repeat' (first
    | with_reducible exact Le.refl _
    | with_reducible refine Le.ite ?_ ?_
    | with_reducible refine Le.bind (whole_Clean.mono k _ _) (fun _ => ?_)
    | with_reducible refine Le.bind (nat_Add.mono k _ _) (fun _ => ?_)
    | with_reducible refine Le.bind (nat_Cmp.mono k _ _) (fun _ => ?_)
    | with_reducible refine Le.bind (nat_Sub.mono k _ _) (fun _ => ?_)
    | with_reducible exact whole_Clean.mono k _ _
    | with_reducible exact nat_Add.mono k _ _
    | with_reducible exact nat_Cmp.mono k _ _
    | with_reducible exact nat_Sub.mono k _ _
    | with_reducible refine Le.bind (Le.refl _) (fun _ => ?_)
    | split)
theorem ratio_Add.mono (k : Nat) : ∀ x0 x1 x2 x3 x4 x5, Le (ratio_Add.f k x0 x1 x2 x3 x4 x5) (ratio_Add.f (k + 1) x0 x1 x2 x3 x4 x5) := by
  intro x0 x1 x2 x3 x4 x5
  unfold ratio_Add.f
  repeat' (first
    | with_reducible exact Le.refl _
    | with_reducible refine Le.ite ?_ ?_
    | with_reducible refine Le.bind (ratio_Clean.mono k _ _ _) (fun _ => ?_)
    | with_reducible refine Le.bind (whole_Mul.mono k _ _ _ _) (fun _ => ?_)
    | with_reducible refine Le.bind (whole_Add.mono k _ _ _ _) (fun _ => ?_)
    | with_reducible refine Le.bind (nat_Mul.mono k _ _) (fun _ => ?_)
    | with_reducible refine Le.bind (ratio_form.mono k _ _ _) (fun _ => ?_)
    | with_reducible exact ratio_Clean.mono k _ _ _
    | with_reducible exact whole_Mul.mono k _ _ _ _
    | with_reducible exact whole_Add.mono k _ _ _ _
    | with_reducible exact nat_Mul.mono k _ _
    | with_reducible exact ratio_form.mono k _ _ _
    | with_reducible refine Le.bind (Le.refl _) (fun _ => ?_)
    | split)
theorem ratio_Sub.mono (k : Nat) : ∀ x0 x1 x2 x3 x4 x5, Le (ratio_Sub.f k x0 x1 x2 x3 x4 x5) (ratio_Sub.f (k + 1) x0 x1 x2 x3 x4 x5) := by
  intro x0 x1 x2 x3 x4 x5
  unfold ratio_Sub.f
  repeat' (first
    | with_reducible exact Le.refl _
    | with_reducible refine Le.ite ?_ ?_
    | with_reducible refine Le.bind (ratio_Neg.mono k _ _ _) (fun _ => ?_)
    | with_reducible refine Le.bind (ratio_Add.mono k _ _ _ _ _ _) (fun _ => ?_)
    | with_reducible exact ratio_Neg.mono k _ _ _
    | with_reducible exact ratio_Add.mono k _ _ _ _ _ _
    | with_reducible refine Le.bind (Le.refl _) (fun _ => ?_)
    | split)
theorem ratio_Sign.mono (k : Nat) : ∀ x0 x1 x2, Le (ratio_Sign.f k x0 x1 x2) (ratio_Sign.f (k + 1) x0 x1 x2) := by
  intro x0 x1 x2
  unfold ratio_Sign.f
  repeat' (first
    | with_reducible exact Le.refl _
    | with_reducible refine Le.ite ?_ ?_
    | with_reducible refine Le.bind (ratio_Clean.mono k _ _ _) (fun _ => ?_)
    | with_reducible refine Le.bind (whole_Sign.mono k _ _) (fun _ => ?_)
    | with_reducible exact ratio_Clean.mono k _ _ _
    | with_reducible exact whole_Sign.mono k _ _
    | with_reducible refine Le.bind (Le.refl _) (fun _ => ?_)
    | split)
theorem ratio_Mul.mono (k : Nat) : ∀ x0 x1 x2 x3 x4 x5, Le (ratio_Mul.f k x0 x1 x2 x3 x4 x5) (ratio_Mul.f (k + 1) x0 x1 x2 x3 x4 x5) := by
  intro x0 x1 x2 x3 x4 x5
  unfold ratio_Mul.f
  repeat' (first
    | with_reducible exact Le.refl _
    | with_reducible refine Le.ite ?_ ?_
    | with_reducible refine Le.bind (ratio_Clean.mono k _ _ _) (fun _ => ?_)
    | with_reducible refine Le.bind (whole_Mul.mono k _ _ _ _) (fun _ => ?_)
    | with_reducible refine Le.bind (nat_Mul.mono k _ _) (fun _ => ?_)
    | with_reducible refine Le.bind (ratio_form.mono k _ _ _) (fun _ => ?_)
    | with_reducible exact ratio_Clean.mono k _ _ _
    | with_reducible exact whole_Mul.mono k _ _ _ _
    | with_reducible exact nat_Mul.mono k _ _
    | with_reducible exact ratio_form.mono k _ _ _
    | with_reducible refine Le.bind (Le.refl _) (fun _ => ?_)
    | split)
theorem ratio_Inv.mono (k : Nat) : ∀ x0 x1 x2, Le (ratio_Inv.f k x0 x1 x2) (ratio_Inv.f (k + 1) x0 x1 x2) := by
  intro x0 x1 x2
  unfold ratio_Inv.f
  repeat' (first
    | with_reducible exact Le.refl _
    | with_reducible refine Le.ite ?_ ?_
    | with_reducible refine Le.bind (ratio_Clean.mono k _ _ _) (fun _ => ?_)
    | with_reducible refine Le.bind (ratio_Make.mono k _ _ _ _) (fun _ => ?_)
    | with_reducible exact ratio_Clean.mono k _ _ _
    | with_reducible exact ratio_Make.mono k _ _ _ _
    | with_reducible refine Le.bind (Le.refl _) (fun _ => ?_)
    | split)
theorem ratio_Div.mono (k : Nat) : ∀ x0 x1 x2 x3 x4 x5, Le (ratio_Div.f k x0 x1 x2 x3 x4 x5) (ratio_Div.f (k + 1) x0 x1 x2 x3 x4 x5) := by
  intro x0 x1 x2 x3 x4 x5
  unfold ratio_Div.f
  repeat' (first
    | with_reducible exact Le.refl _
    | with_reducible refine Le.ite ?_ ?_
    | with_reducible refine Le.bind (ratio_Inv.mono k _ _ _) (fun _ => ?_)
    | with_reducible refine Le.bind (ratio_Mul.mono k _ _ _ _ _ _) (fun _ => ?_)
    | with_reducible exact ratio_Inv.mono k _ _ _
    | with_reducible exact ratio_Mul.mono k _ _ _ _ _ _
    | with_reducible refine Le.bind (Le.refl _) (fun _ => ?_)
    | split)
theorem ratio_over.mono (k : Nat) : ∀ x0 x1 x2 x3 x4 x5, Le (ratio_over.f k x0 x1 x2 x3 x4 x5) (ratio_over.f (k + 1) x0 x1 x2 x3 x4 x5) := by
  intro x0 x1 x2 x3 x4 x5
  unfold ratio_over.f
  repeat' (first
    | with_reducible exact Le.refl _
    | with_reducible refine Le.ite ?_ ?_
    | with_reducible refine Le.bind (ratio_Div.mono k _ _ _ _ _ _) (fun _ => ?_)
    | with_reducible exact ratio_Div.mono k _ _ _ _ _ _
    | with_reducible refine Le.bind (Le.refl _) (fun _ => ?_)
    | split)
theorem ratio_unfold.monoL (k : Nat) : (∀ x0 x1 x2 x3 x4 x5, Le (ratio_unfold.l0 k x0 x1 x2 x3 x4 x5) (ratio_unfold.l0 (k + 1) x0 x1 x2 x3 x4 x5)) := by
  induction k with
  | zero => exact fun _ _ _ _ _ _ => Le.none _
  | succ k ih =>
    intro x0 x1 x2 x3 x4 x5
    refine Le.eqs (ratio_unfold.l0.eq_2 ..) (ratio_unfold.l0.eq_2 ..) ?_
    repeat' (first
      | with_reducible exact Le.refl _
      | with_reducible refine Le.ite ?_ ?_
      | with_reducible exact ih _ _ _ _ _ _
      | with_reducible refine Le.bind (ih _ _ _ _ _ _) (fun _ => ?_)
      | with_reducible refine Le.bind (ratio_One.mono k ) (fun _ => ?_)
      | with_reducible refine Le.bind (ratio_over.mono k _ _ _ _ _ _) (fun _ => ?_)
      | with_reducible refine Le.bind (ratio_Add.mono k _ _ _ _ _ _) (fun _ => ?_)
      | with_reducible exact ratio_One.mono k 
      | with_reducible exact ratio_over.mono k _ _ _ _ _ _
      | with_reducible exact ratio_Add.mono k _ _ _ _ _ _
      | with_reducible refine Le.bind (Le.refl _) (fun _ => ?_)
      | split)
theorem ratio_unfold.mono (k : Nat) : ∀ x0 x1 x2 x3, Le (ratio_unfold.f k x0 x1 x2 x3) (ratio_unfold.f (k + 1) x0 x1 x2 x3) := by
  intro x0 x1 x2 x3
  unfold ratio_unfold.f
  repeat' (first
    | with_reducible exact Le.refl _
    | with_reducible refine Le.ite ?_ ?_
    | with_reducible exact (ratio_unfold.monoL k) _ _ _ _ _ _
    | with_reducible refine Le.bind (Le.refl _) (fun _ => ?_)
    | split)
theorem ratio_Simplest.monoL (k : Nat) : (∀ x0 x1 x2 x3 x4 x5 x6 x7, Le (ratio_Simplest.l0 k x0 x1 x2 x3 x4 x5 x6 x7) (ratio_Simplest.l0 (k + 1) x0 x1 x2 x3 x4 x5 x6 x7)) ∧ (∀ x0 x1 x2 x3 x4 x5, Le (ratio_Simplest.f k x0 x1 x2 x3 x4 x5) (ratio_Simplest.f (k + 1) x0 x1 x2 x3 x4 x5)) := by
  induction k with
  | zero => exact ⟨fun _ _ _ _ _ _ _ _ => Le.none _, fun _ _ _ _ _ _ => Le.none _⟩
  | succ k ih =>
    refine ⟨?_, ?_⟩
    · intro x0 x1 x2 x3 x4 x5 x6 x7
      refine Le.eqs (ratio_Simplest.l0.eq_2 ..) (ratio_Simplest.l0.eq_2 ..) ?_
      repeat' (first
        | with_reducible exact Le.refl _
        | with_reducible refine Le.ite ?_ ?_
        | with_reducible exact ih.1 _ _ _ _ _ _ _ _
        | with_reducible refine Le.bind (ih.1 _ _ _ _ _ _ _ _) (fun _ => ?_)
        | with_reducible refine Le.bind (ratio_Ceil.mono k _ _ _) (fun _ => ?_)
        | with_reducible refine Le.bind (ratio_Int.mono k _ _) (fun _ => ?_)
        | with_reducible refine Le.bind (ratio_Cmp.mono k _ _ _ _ _ _) (fun _ => ?_)
        | with_reducible refine Le.bind (ratio_unfold.mono k _ _ _ _) (fun _ => ?_)
        | with_reducible refine Le.bind (ratio_Floor.mono k _ _ _) (fun _ => ?_)
        | with_reducible refine Le.bind (ratio_One.mono k ) (fun _ => ?_)
        | with_reducible refine Le.bind (ratio_Sub.mono k _ _ _ _ _ _) (fun _ => ?_)
        | with_reducible refine Le.bind (ratio_over.mono k _ _ _ _ _ _) (fun _ => ?_)
        | with_reducible exact ratio_Ceil.mono k _ _ _
        | with_reducible exact ratio_Int.mono k _ _
        | with_reducible exact ratio_Cmp.mono k _ _ _ _ _ _
        | with_reducible exact ratio_unfold.mono k _ _ _ _
        | with_reducible exact ratio_Floor.mono k _ _ _
        | with_reducible exact ratio_One.mono k 
        | with_reducible exact ratio_Sub.mono k _ _ _ _ _ _
        | with_reducible exact ratio_over.mono k _ _ _ _ _ _
        | with_reducible refine Le.bind (Le.refl _) (fun _ => ?_)
        | split)
    · intro x0 x1 x2 x3 x4 x5
      refine Le.eqs (ratio_Simplest.f.eq_2 ..) (ratio_Simplest.f.eq_2 ..) ?_
      repeat' (first
        | with_reducible exact Le.refl _
        | with_reducible refine Le.ite ?_ ?_
        | with_reducible exact ih.1 _ _ _ _ _ _ _ _
        | with_reducible refine Le.bind (ih.1 _ _ _ _ _ _ _ _) (fun _ => ?_)
        | with_reducible exact ih.2 _ _ _ _ _ _
        | with_reducible refine Le.bind (ih.2 _ _ _ _ _ _) (fun _ => ?_)
        | with_reducible refine Le.bind (ratio_Clean.mono k _ _ _) (fun _ => ?_)
        | with_reducible refine Le.bind (ratio_Cmp.mono k _ _ _ _ _ _) (fun _ => ?_)
        | with_reducible refine Le.bind (ratio_Sign.mono k _ _ _) (fun _ => ?_)
        | with_reducible refine Le.bind (ratio_Zero.mono k ) (fun _ => ?_)
        | with_reducible refine Le.bind (ratio_Neg.mono k _ _ _) (fun _ => ?_)
        | with_reducible exact ratio_Clean.mono k _ _ _
        | with_reducible exact ratio_Cmp.mono k _ _ _ _ _ _
        | with_reducible exact ratio_Sign.mono k _ _ _
        | with_reducible exact ratio_Zero.mono k 
        | with_reducible exact ratio_Neg.mono k _ _ _
        | with_reducible refine Le.bind (Le.refl _) (fun _ => ?_)
        | split)
theorem ratio_Simplest.mono (k : Nat) : ∀ x0 x1 x2 x3 x4 x5, Le (ratio_Simplest.f k x0 x1 x2 x3 x4 x5) (ratio_Simplest.f (k + 1) x0 x1 x2 x3 x4 x5) := (ratio_Simplest.monoL k).2
theorem ratio_Same.mono (k : Nat) : ∀ x0 x1 x2 x3 x4 x5, Le (ratio_Same.f k x0 x1 x2 x3 x4 x5) (ratio_Same.f (k + 1) x0 x1 x2 x3 x4 x5) := by
  intro x0 x1 x2 x3 x4 x5
  unfold ratio_Same.f
  repeat' (first
    | with_reducible exact Le.refl _
    | with_reducible refine Le.ite ?_ ?_
    | with_reducible refine Le.bind (ratio_Cmp.mono k _ _ _ _ _ _) (fun _ => ?_)
    | with_reducible exact ratio_Cmp.mono k _ _ _ _ _ _
    | with_reducible refine Le.bind (Le.refl _) (fun _ => ?_)
    | split)
theorem ratio_middle.mono (k : Nat) : ∀ x0 x1 x2 x3 x4 x5, Le (ratio_middle.f k x0 x1 x2 x3 x4 x5) (ratio_middle.f (k + 1) x0 x1 x2 x3 x4 x5) := by
  intro x0 x1 x2 x3 x4 x5
  unfold ratio_middle.f
  repeat' (first
    | with_reducible exact Le.refl _
    | with_reducible refine Le.ite ?_ ?_
    | with_reducible refine Le.bind (whole_Add.mono k _ _ _ _) (fun _ => ?_)
    | with_reducible refine Le.bind (nat_Add.mono k _ _) (fun _ => ?_)
    | with_reducible refine Le.bind (ratio_form.mono k _ _ _) (fun _ => ?_)
    | with_reducible exact whole_Add.mono k _ _ _ _
    | with_reducible exact nat_Add.mono k _ _
    | with_reducible exact ratio_form.mono k _ _ _
    | with_reducible refine Le.bind (Le.refl _) (fun _ => ?_)
    | split)
theorem ratio_Near.monoL (k : Nat) : (∀ x0 x1 x2 x3 x4 x5 x6 x7 x8 x9 x10, Le (ratio_Near.l0 k x0 x1 x2 x3 x4 x5 x6 x7 x8 x9 x10) (ratio_Near.l0 (k + 1) x0 x1 x2 x3 x4 x5 x6 x7 x8 x9 x10)) := by
  induction k with
  | zero => exact fun _ _ _ _ _ _ _ _ _ _ _ => Le.none _
  | succ k ih =>
    intro x0 x1 x2 x3 x4 x5 x6 x7 x8 x9 x10
    refine Le.eqs (ratio_Near.l0.eq_2 ..) (ratio_Near.l0.eq_2 ..) ?_
    repeat' (first
      | with_reducible exact Le.refl _
      | with_reducible refine Le.ite ?_ ?_
      | with_reducible exact ih _ _ _ _ _ _ _ _ _ _ _
      | with_reducible refine Le.bind (ih _ _ _ _ _ _ _ _ _ _ _) (fun _ => ?_)
      | with_reducible refine Le.bind (nat_Add.mono k _ _) (fun _ => ?_)
      | with_reducible refine Le.bind (nat_Cmp.mono k _ _) (fun _ => ?_)
      | with_reducible refine Le.bind (ratio_middle.mono k _ _ _ _ _ _) (fun _ => ?_)
      | with_reducible refine Le.bind (ratio_Cmp.mono k _ _ _ _ _ _) (fun _ => ?_)
      | with_reducible refine Le.bind (ratio_Sub.mono k _ _ _ _ _ _) (fun _ => ?_)
      | with_reducible exact nat_Add.mono k _ _
      | with_reducible exact nat_Cmp.mono k _ _
      | with_reducible exact ratio_middle.mono k _ _ _ _ _ _
      | with_reducible exact ratio_Cmp.mono k _ _ _ _ _ _
      | with_reducible exact ratio_Sub.mono k _ _ _ _ _ _
      | with_reducible refine Le.bind (Le.refl _) (fun _ => ?_)
      | split)
theorem ratio_Near.mono (k : Nat) : ∀ x0 x1 x2 x3, Le (ratio_Near.f k x0 x1 x2 x3) (ratio_Near.f (k + 1) x0 x1 x2 x3) := by
  intro x0 x1 x2 x3
  unfold ratio_Near.f
  repeat' (first
    | with_reducible exact Le.refl _
    | with_reducible refine Le.ite ?_ ?_
    | with_reducible exact (ratio_Near.monoL k) _ _ _ _ _ _ _ _ _ _ _
    | with_reducible refine Le.bind (ratio_Clean.mono k _ _ _) (fun _ => ?_)
    | with_reducible refine Le.bind (ratio_Floor.mono k _ _ _) (fun _ => ?_)
    | with_reducible refine Le.bind (ratio_Int.mono k _ _) (fun _ => ?_)
    | with_reducible refine Le.bind (ratio_One.mono k ) (fun _ => ?_)
    | with_reducible refine Le.bind (ratio_Add.mono k _ _ _ _ _ _) (fun _ => ?_)
    | with_reducible refine Le.bind (ratio_Same.mono k _ _ _ _ _ _) (fun _ => ?_)
    | with_reducible refine Le.bind (nat_Of.mono k _) (fun _ => ?_)
    | with_reducible exact ratio_Clean.mono k _ _ _
    | with_reducible exact ratio_Floor.mono k _ _ _
    | with_reducible exact ratio_Int.mono k _ _
    | with_reducible exact ratio_One.mono k 
    | with_reducible exact ratio_Add.mono k _ _ _ _ _ _
    | with_reducible exact ratio_Same.mono k _ _ _ _ _ _
    | with_reducible exact nat_Of.mono k _
    | with_reducible refine Le.bind (Le.refl _) (fun _ => ?_)
    | split)
theorem ratio_ten.monoL (k : Nat) : (∀ x0 x1 x2, Le (ratio_ten.l0 k x0 x1 x2) (ratio_ten.l0 (k + 1) x0 x1 x2)) := by
  induction k with
  | zero => exact fun _ _ _ => Le.none _
  | succ k ih =>
    intro x0 x1 x2
    refine Le.eqs (ratio_ten.l0.eq_2 ..) (ratio_ten.l0.eq_2 ..) ?_
    repeat' (first
      | with_reducible exact Le.refl _
      | with_reducible refine Le.ite ?_ ?_
      | with_reducible exact ih _ _ _
      | with_reducible refine Le.bind (ih _ _ _) (fun _ => ?_)
      | with_reducible refine Le.bind (nat_Of.mono k _) (fun _ => ?_)
      | with_reducible refine Le.bind (nat_Mul.mono k _ _) (fun _ => ?_)
      | with_reducible exact nat_Of.mono k _
      | with_reducible exact nat_Mul.mono k _ _
      | with_reducible refine Le.bind (Le.refl _) (fun _ => ?_)
      | split)
theorem ratio_ten.mono (k : Nat) : ∀ x0, Le (ratio_ten.f k x0) (ratio_ten.f (k + 1) x0) := by
  intro x0
  unfold ratio_ten.f
  repeat' (first
    | with_reducible exact Le.refl _
    | with_reducible refine Le.ite ?_ ?_
    | with_reducible exact (ratio_ten.monoL k) _ _ _
    | with_reducible refine Le.bind (nat_Of.mono k _) (fun _ => ?_)
    | with_reducible exact nat_Of.mono k _
    | with_reducible refine Le.bind (Le.refl _) (fun _ => ?_)
    | split)
theorem stringslite_Index.mono (k : Nat) : ∀ x0 x1, Le (stringslite_Index.f k x0 x1) (stringslite_Index.f (k + 1) x0 x1) := by
  intro x0 x1
  unfold stringslite_Index.f
  repeat' (first
    | with_reducible exact Le.refl _
    | with_reducible refine Le.ite ?_ ?_
    | with_reducible refine Le.bind (Le.refl _) (fun _ => ?_)
    | split)
theorem stringslite_Cut.mono (k : Nat) : ∀ x0 x1, Le (stringslite_Cut.f k x0 x1) (stringslite_Cut.f (k + 1) x0 x1) := by
  intro x0 x1
  unfold stringslite_Cut.f
  repeat' (first
    | with_reducible exact Le.refl _
    | with_reducible refine Le.ite ?_ ?_
    | with_reducible refine Le.bind (stringslite_Index.mono k _ _) (fun _ => ?_)
    | with_reducible exact stringslite_Index.mono k _ _
    | with_reducible refine Le.bind (Le.refl _) (fun _ => ?_)
    | split)
theorem strings_Cut.mono (k : Nat) : ∀ x0 x1, Le (strings_Cut.f k x0 x1) (strings_Cut.f (k + 1) x0 x1) := by
  intro x0 x1
  unfold strings_Cut.f
  repeat' (first
    | with_reducible exact Le.refl _
    | with_reducible refine Le.ite ?_ ?_
    | with_reducible refine Le.bind (stringslite_Cut.mono k _ _) (fun _ => ?_)
    | with_reducible exact stringslite_Cut.mono k _ _
    | with_reducible refine Le.bind (Le.refl _) (fun _ => ?_)
    | split)
theorem nat_plus.monoL (k : Nat) : (∀ x0 x1 x2 x3 x4, Le (nat_plus.l0 k x0 x1 x2 x3 x4) (nat_plus.l0 (k + 1) x0 x1 x2 x3 x4)) := by
  induction k with
  | zero => exact fun _ _ _ _ _ => Le.none _
  | succ k ih =>
    intro x0 x1 x2 x3 x4
    refine Le.eqs (nat_plus.l0.eq_2 ..) (nat_plus.l0.eq_2 ..) ?_
    repeat' (first
      | with_reducible exact Le.refl _
      | with_reducible refine Le.ite ?_ ?_
      | with_reducible exact ih _ _ _ _ _
      | with_reducible refine Le.bind (ih _ _ _ _ _) (fun _ => ?_)
      | with_reducible refine Le.bind (nat_trim.mono k _) (fun _ => ?_)
      | with_reducible exact nat_trim.mono k _
      | with_reducible refine Le.bind (Le.refl _) (fun _ => ?_)
      | split)
theorem nat_plus.mono (k : Nat) : ∀ x0 x1, Le (nat_plus.f k x0 x1) (nat_plus.f (k + 1) x0 x1) := by
  intro x0 x1
  unfold nat_plus.f
  repeat' (first
    | with_reducible exact Le.refl _
    | with_reducible refine Le.ite ?_ ?_
    | with_reducible exact (nat_plus.monoL k) _ _ _ _ _
    | with_reducible refine Le.bind (Le.refl _) (fun _ => ?_)
    | split)
theorem nat_Parse.monoL (k : Nat) : (∀ x0 x1 x2, Le (nat_Parse.l0 k x0 x1 x2) (nat_Parse.l0 (k + 1) x0 x1 x2)) ∧ (∀ x0 x1, Le (nat_Parse.l1 k x0 x1) (nat_Parse.l1 (k + 1) x0 x1)) ∧ (∀ x0 x1 x2 x3 x4 x5 x6, Le (nat_Parse.l2 k x0 x1 x2 x3 x4 x5 x6) (nat_Parse.l2 (k + 1) x0 x1 x2 x3 x4 x5 x6)) := by
  induction k with
  | zero => exact ⟨fun _ _ _ => Le.none _, fun _ _ => Le.none _, fun _ _ _ _ _ _ _ => Le.none _⟩
  | succ k ih =>
    refine ⟨?_, ?_, ?_⟩
    · intro x0 x1 x2
      refine Le.eqs (nat_Parse.l0.eq_2 ..) (nat_Parse.l0.eq_2 ..) ?_
      repeat' (first
        | with_reducible exact Le.refl _
        | with_reducible refine Le.ite ?_ ?_
        | with_reducible exact ih.1 _ _ _
        | with_reducible refine Le.bind (ih.1 _ _ _) (fun _ => ?_)
        | with_reducible exact ih.2.1 _ _
        | with_reducible refine Le.bind (ih.2.1 _ _) (fun _ => ?_)
        | with_reducible refine Le.bind (Le.refl _) (fun _ => ?_)
        | split)
    · intro x0 x1
      refine Le.eqs (nat_Parse.l1.eq_2 ..) (nat_Parse.l1.eq_2 ..) ?_
      repeat' (first
        | with_reducible exact Le.refl _
        | with_reducible refine Le.ite ?_ ?_
        | with_reducible exact ih.2.2 _ _ _ _ _ _ _
        | with_reducible refine Le.bind (ih.2.2 _ _ _ _ _ _ _) (fun _ => ?_)
        | with_reducible refine Le.bind (Le.refl _) (fun _ => ?_)
        | split)
    · intro x0 x1 x2 x3 x4 x5 x6
      refine Le.eqs (nat_Parse.l2.eq_2 ..) (nat_Parse.l2.eq_2 ..) ?_
      repeat' (first
        | with_reducible exact Le.refl _
        | with_reducible refine Le.ite ?_ ?_
        | with_reducible exact ih.2.1 _ _
        | with_reducible refine Le.bind (ih.2.1 _ _) (fun _ => ?_)
        | with_reducible exact ih.2.2 _ _ _ _ _ _ _
        | with_reducible refine Le.bind (ih.2.2 _ _ _ _ _ _ _) (fun _ => ?_)
        | with_reducible refine Le.bind (nat_plus.mono k _ _) (fun _ => ?_)
        | with_reducible exact nat_plus.mono k _ _
        | with_reducible refine Le.bind (Le.refl _) (fun _ => ?_)
        | split)
theorem nat_Parse.mono (k : Nat) : ∀ x0, Le (nat_Parse.f k x0) (nat_Parse.f (k + 1) x0) := by
  intro x0
  unfold nat_Parse.f
  repeat' (first
    | with_reducible exact Le.refl _
    | with_reducible refine Le.ite ?_ ?_
    | with_reducible exact (nat_Parse.monoL k).1 _ _ _
    | with_reducible refine Le.bind (Le.refl _) (fun _ => ?_)
    | split)
theorem ratio_plain.mono (k : Nat) : ∀ x0, Le (ratio_plain.f k x0) (ratio_plain.f (k + 1) x0) := by
  intro x0
  unfold ratio_plain.f
  repeat' (first
    | with_reducible exact Le.refl _
    | with_reducible refine Le.ite ?_ ?_
    | with_reducible refine Le.bind (strings_Cut.mono k _ _) (fun _ => ?_)
    | with_reducible refine Le.bind (nat_Parse.mono k _) (fun _ => ?_)
    | with_reducible refine Le.bind (ratio_form.mono k _ _ _) (fun _ => ?_)
    | with_reducible refine Le.bind (ratio_ten.mono k _) (fun _ => ?_)
    | with_reducible refine Le.bind (nat_Mul.mono k _ _) (fun _ => ?_)
    | with_reducible refine Le.bind (nat_Add.mono k _ _) (fun _ => ?_)
    | with_reducible refine Le.bind (nat_Of.mono k _) (fun _ => ?_)
    | with_reducible exact strings_Cut.mono k _ _
    | with_reducible exact nat_Parse.mono k _
    | with_reducible exact ratio_form.mono k _ _ _
    | with_reducible exact ratio_ten.mono k _
    | with_reducible exact nat_Mul.mono k _ _
    | with_reducible exact nat_Add.mono k _ _
    | with_reducible exact nat_Of.mono k _
    | with_reducible refine Le.bind (Le.refl _) (fun _ => ?_)
    | split)
theorem ratio_Parse.mono (k : Nat) : ∀ x0, Le (ratio_Parse.f k x0) (ratio_Parse.f (k + 1) x0) := by
  intro x0
  unfold ratio_Parse.f
  repeat' (first
    | with_reducible exact Le.refl _
    | with_reducible refine Le.ite ?_ ?_
    | with_reducible refine Le.bind (ratio_plain.mono k _) (fun _ => ?_)
    | with_reducible refine Le.bind (ratio_Neg.mono k _ _ _) (fun _ => ?_)
    | with_reducible exact ratio_plain.mono k _
    | with_reducible exact ratio_Neg.mono k _ _ _
    | with_reducible refine Le.bind (Le.refl _) (fun _ => ?_)
    | split)
theorem nat_Bit.mono (k : Nat) : ∀ x0 x1, Le (nat_Bit.f k x0 x1) (nat_Bit.f (k + 1) x0 x1) := by
  intro x0 x1
  unfold nat_Bit.f
  repeat' (first
    | with_reducible exact Le.refl _
    | with_reducible refine Le.ite ?_ ?_
    | with_reducible refine Le.bind (nat_Clean.mono k _) (fun _ => ?_)
    | with_reducible exact nat_Clean.mono k _
    | with_reducible refine Le.bind (Le.refl _) (fun _ => ?_)
    | split)
theorem nat_Even.mono (k : Nat) : ∀ x0, Le (nat_Even.f k x0) (nat_Even.f (k + 1) x0) := by
  intro x0
  unfold nat_Even.f
  repeat' (first
    | with_reducible exact Le.refl _
    | with_reducible refine Le.ite ?_ ?_
    | with_reducible refine Le.bind (nat_Bit.mono k _ _) (fun _ => ?_)
    | with_reducible exact nat_Bit.mono k _ _
    | with_reducible refine Le.bind (Le.refl _) (fun _ => ?_)
    | split)
theorem ratio_Round.mono (k : Nat) : ∀ x0 x1 x2, Le (ratio_Round.f k x0 x1 x2) (ratio_Round.f (k + 1) x0 x1 x2) := by
  intro x0 x1 x2
  unfold ratio_Round.f
  repeat' (first
    | with_reducible exact Le.refl _
    | with_reducible refine Le.ite ?_ ?_
    | with_reducible refine Le.bind (ratio_Floor.mono k _ _ _) (fun _ => ?_)
    | with_reducible refine Le.bind (ratio_Int.mono k _ _) (fun _ => ?_)
    | with_reducible refine Le.bind (ratio_Sub.mono k _ _ _ _ _ _) (fun _ => ?_)
    | with_reducible refine Le.bind (ratio_Frac.mono k _ _) (fun _ => ?_)
    | with_reducible refine Le.bind (ratio_Cmp.mono k _ _ _ _ _ _) (fun _ => ?_)
    | with_reducible refine Le.bind (nat_Even.mono k _) (fun _ => ?_)
    | with_reducible refine Le.bind (whole_Of.mono k _) (fun _ => ?_)
    | with_reducible refine Le.bind (whole_Add.mono k _ _ _ _) (fun _ => ?_)
    | with_reducible exact ratio_Floor.mono k _ _ _
    | with_reducible exact ratio_Int.mono k _ _
    | with_reducible exact ratio_Sub.mono k _ _ _ _ _ _
    | with_reducible exact ratio_Frac.mono k _ _
    | with_reducible exact ratio_Cmp.mono k _ _ _ _ _ _
    | with_reducible exact nat_Even.mono k _
    | with_reducible exact whole_Of.mono k _
    | with_reducible exact whole_Add.mono k _ _ _ _
    | with_reducible refine Le.bind (Le.refl _) (fun _ => ?_)
    | split)
theorem nat_nine.monoL (k : Nat) : (∀ x0 x1 x2, Le (nat_nine.l0 k x0 x1 x2) (nat_nine.l0 (k + 1) x0 x1 x2)) := by
  induction k with
  | zero => exact fun _ _ _ => Le.none _
  | succ k ih =>
    intro x0 x1 x2
    refine Le.eqs (nat_nine.l0.eq_2 ..) (nat_nine.l0.eq_2 ..) ?_
    repeat' (first
      | with_reducible exact Le.refl _
      | with_reducible refine Le.ite ?_ ?_
      | with_reducible exact ih _ _ _
      | with_reducible refine Le.bind (ih _ _ _) (fun _ => ?_)
      | with_reducible refine Le.bind (Le.refl _) (fun _ => ?_)
      | split)
theorem nat_nine.mono (k : Nat) : ∀ x0, Le (nat_nine.f k x0) (nat_nine.f (k + 1) x0) := by
  intro x0
  unfold nat_nine.f
  repeat' (first
    | with_reducible exact Le.refl _
    | with_reducible refine Le.ite ?_ ?_
    | with_reducible exact (nat_nine.monoL k) _ _ _
    | with_reducible refine Le.bind (Le.refl _) (fun _ => ?_)
    | split)
theorem nat_Print.monoL (k : Nat) : (∀ x0 x1, Le (nat_Print.l0 k x0 x1) (nat_Print.l0 (k + 1) x0 x1)) ∧ (∀ x0 x1 x2, Le (nat_Print.l1 k x0 x1 x2) (nat_Print.l1 (k + 1) x0 x1 x2)) ∧ (∀ x0 x1, Le (nat_Print.l2 k x0 x1) (nat_Print.l2 (k + 1) x0 x1)) := by
  induction k with
  | zero => exact ⟨fun _ _ => Le.none _, fun _ _ _ => Le.none _, fun _ _ => Le.none _⟩
  | succ k ih =>
    refine ⟨?_, ?_, ?_⟩
    · intro x0 x1
      refine Le.eqs (nat_Print.l0.eq_2 ..) (nat_Print.l0.eq_2 ..) ?_
      repeat' (first
        | with_reducible exact Le.refl _
        | with_reducible refine Le.ite ?_ ?_
        | with_reducible exact ih.1 _ _
        | with_reducible refine Le.bind (ih.1 _ _) (fun _ => ?_)
        | with_reducible exact ih.2.1 _ _ _
        | with_reducible refine Le.bind (ih.2.1 _ _ _) (fun _ => ?_)
        | with_reducible refine Le.bind (nat_small.mono k _ _) (fun _ => ?_)
        | with_reducible exact nat_small.mono k _ _
        | with_reducible refine Le.bind (Le.refl _) (fun _ => ?_)
        | split)
    · intro x0 x1 x2
      refine Le.eqs (nat_Print.l1.eq_2 ..) (nat_Print.l1.eq_2 ..) ?_
      repeat' (first
        | with_reducible exact Le.refl _
        | with_reducible refine Le.ite ?_ ?_
        | with_reducible exact ih.2.1 _ _ _
        | with_reducible refine Le.bind (ih.2.1 _ _ _) (fun _ => ?_)
        | with_reducible exact ih.2.2 _ _
        | with_reducible refine Le.bind (ih.2.2 _ _) (fun _ => ?_)
        | with_reducible refine Le.bind (nat_nine.mono k _) (fun _ => ?_)
        | with_reducible exact nat_nine.mono k _
        | with_reducible refine Le.bind (Le.refl _) (fun _ => ?_)
        | split)
    · intro x0 x1
      refine Le.eqs (nat_Print.l2.eq_2 ..) (nat_Print.l2.eq_2 ..) ?_
      repeat' (first
        | with_reducible exact Le.refl _
        | with_reducible refine Le.ite ?_ ?_
        | with_reducible exact ih.2.2 _ _
        | with_reducible refine Le.bind (ih.2.2 _ _) (fun _ => ?_)
        | with_reducible refine Le.bind (Le.refl _) (fun _ => ?_)
        | split)
theorem nat_Print.mono (k : Nat) : ∀ x0, Le (nat_Print.f k x0) (nat_Print.f (k + 1) x0) := by
  intro x0
  unfold nat_Print.f
  repeat' (first
    | with_reducible exact Le.refl _
    | with_reducible refine Le.ite ?_ ?_
    | with_reducible exact (nat_Print.monoL k).1 _ _
    | with_reducible refine Le.bind (nat_Clean.mono k _) (fun _ => ?_)
    | with_reducible exact nat_Clean.mono k _
    | with_reducible refine Le.bind (Le.refl _) (fun _ => ?_)
    | split)
theorem ratio_Decimal.mono (k : Nat) : ∀ x0 x1 x2 x3, Le (ratio_Decimal.f k x0 x1 x2 x3) (ratio_Decimal.f (k + 1) x0 x1 x2 x3) := by
  intro x0 x1 x2 x3
  unfold ratio_Decimal.f
  repeat' (first
    | with_reducible exact Le.refl _
    | with_reducible refine Le.ite ?_ ?_
    | with_reducible refine Le.bind (ratio_ten.mono k _) (fun _ => ?_)
    | with_reducible refine Le.bind (ratio_Int.mono k _ _) (fun _ => ?_)
    | with_reducible refine Le.bind (ratio_Mul.mono k _ _ _ _ _ _) (fun _ => ?_)
    | with_reducible refine Le.bind (ratio_Round.mono k _ _ _) (fun _ => ?_)
    | with_reducible refine Le.bind (nat_Print.mono k _) (fun _ => ?_)
    | with_reducible exact ratio_ten.mono k _
    | with_reducible exact ratio_Int.mono k _ _
    | with_reducible exact ratio_Mul.mono k _ _ _ _ _ _
    | with_reducible exact ratio_Round.mono k _ _ _
    | with_reducible exact nat_Print.mono k _
    | with_reducible refine Le.bind (Le.refl _) (fun _ => ?_)
    | split)
theorem whole_Print.mono (k : Nat) : ∀ x0 x1, Le (whole_Print.f k x0 x1) (whole_Print.f (k + 1) x0 x1) := by
  intro x0 x1
  unfold whole_Print.f
  repeat' (first
    | with_reducible exact Le.refl _
    | with_reducible refine Le.ite ?_ ?_
    | with_reducible refine Le.bind (whole_Clean.mono k _ _) (fun _ => ?_)
    | with_reducible refine Le.bind (nat_Print.mono k _) (fun _ => ?_)
    | with_reducible exact whole_Clean.mono k _ _
    | with_reducible exact nat_Print.mono k _
    | with_reducible refine Le.bind (Le.refl _) (fun _ => ?_)
    | split)
theorem ratio_Print.mono (k : Nat) : ∀ x0 x1 x2, Le (ratio_Print.f k x0 x1 x2) (ratio_Print.f (k + 1) x0 x1 x2) := by
  intro x0 x1 x2
  unfold ratio_Print.f
  repeat' (first
    | with_reducible exact Le.refl _
    | with_reducible refine Le.ite ?_ ?_
    | with_reducible refine Le.bind (ratio_Clean.mono k _ _ _) (fun _ => ?_)
    | with_reducible refine Le.bind (whole_Print.mono k _ _) (fun _ => ?_)
    | with_reducible refine Le.bind (nat_Of.mono k _) (fun _ => ?_)
    | with_reducible refine Le.bind (nat_Cmp.mono k _ _) (fun _ => ?_)
    | with_reducible refine Le.bind (nat_Print.mono k _) (fun _ => ?_)
    | with_reducible exact ratio_Clean.mono k _ _ _
    | with_reducible exact whole_Print.mono k _ _
    | with_reducible exact nat_Of.mono k _
    | with_reducible exact nat_Cmp.mono k _ _
    | with_reducible exact nat_Print.mono k _
    | with_reducible refine Le.bind (Le.refl _) (fun _ => ?_)
    | split)
theorem dendronlaw03_awake.mono (k : Nat) : Le (dendronlaw03_awake.f k ) (dendronlaw03_awake.f (k + 1) ) := by
  unfold dendronlaw03_awake.f
  repeat' (first
    | with_reducible exact Le.refl _
    | with_reducible refine Le.ite ?_ ?_
    | with_reducible refine Le.bind (ratio_Parse.mono k _) (fun _ => ?_)
    | with_reducible refine Le.bind (ratio_Frac.mono k _ _) (fun _ => ?_)
    | with_reducible refine Le.bind (ratio_Simplest.mono k _ _ _ _ _ _) (fun _ => ?_)
    | with_reducible refine Le.bind (ratio_Near.mono k _ _ _ _) (fun _ => ?_)
    | with_reducible refine Le.bind (ratio_Decimal.mono k _ _ _ _) (fun _ => ?_)
    | with_reducible refine Le.bind (ratio_Print.mono k _ _ _) (fun _ => ?_)
    | with_reducible exact ratio_Parse.mono k _
    | with_reducible exact ratio_Frac.mono k _ _
    | with_reducible exact ratio_Simplest.mono k _ _ _ _ _ _
    | with_reducible exact ratio_Near.mono k _ _ _ _
    | with_reducible exact ratio_Decimal.mono k _ _ _ _
    | with_reducible exact ratio_Print.mono k _ _ _
    | with_reducible refine Le.bind (Le.refl _) (fun _ => ?_)
    | split)
end Go.DI.Th
namespace Go.DI.Th
open Go Go.RowKit Go.DI
theorem awake03_ev : Ev (fun k => dendronlaw03_awake.f k) true := Ev.mono (K := 400) dendronlaw03_awake.mono (by decide +kernel)
end Go.DI.Th
namespace Go.DI.Th
open Go Go.RowKit Go.DI

def fewR (r : Rt) : Rt := (r.1, r.2.1.take 8, r.2.2.take 8)
theorem few3_eq (b : Bool) (n d : List Int) : dendronlaw03_few.f b n d = some (fewR (b, n, d)) := by
  unfold dendronlaw03_few.f fewR
  have t : ∀ l : List Int, ¬ (l.length : Int) > 8 → l.take 8 = l := fun l h => List.take_of_length_le (by omega)
  by_cases h1 : (n.length : Int) > 8
  · rw [if_pos h1, if_pos (by omega)]
    by_cases h2 : (d.length : Int) > 8
    · rw [if_pos h2, if_pos (by omega)]
    · rw [if_neg h2]; dsimp only; rw [t d h2]
  · rw [if_neg h1]
    by_cases h2 : (d.length : Int) > 8
    · rw [if_pos h2, if_pos (by omega)]; dsimp only; rw [t n h1]
    · rw [if_neg h2]; dsimp only; rw [t n h1, t d h2]
theorem few3_ev (b : Bool) (n d : List Int) : Ev (fun _ => dendronlaw03_few.f b n d) (fewR (b, n, d)) := Ev.congr (fun _ => few3_eq b n d) (Ev.now _)
def tinyR (r : Rt) : Rt := (r.1, r.2.1.take 2, r.2.2.take 2)
theorem tiny3_eq (b : Bool) (n d : List Int) : dendronlaw03_tiny.f b n d = some (tinyR (b, n, d)) := by
  unfold dendronlaw03_tiny.f tinyR
  have t : ∀ l : List Int, ¬ (l.length : Int) > 2 → l.take 2 = l := fun l h => List.take_of_length_le (by omega)
  by_cases h1 : (n.length : Int) > 2
  · rw [if_pos h1, if_pos (by omega)]
    by_cases h2 : (d.length : Int) > 2
    · rw [if_pos h2, if_pos (by omega)]
    · rw [if_neg h2]; dsimp only; rw [t d h2]
  · rw [if_neg h1]
    by_cases h2 : (d.length : Int) > 2
    · rw [if_pos h2, if_pos (by omega)]; dsimp only; rw [t n h1]
    · rw [if_neg h2]; dsimp only; rw [t n h1, t d h2]
theorem tiny3_ev (b : Bool) (n d : List Int) : Ev (fun _ => dendronlaw03_tiny.f b n d) (tinyR (b, n, d)) := Ev.congr (fun _ => tiny3_eq b n d) (Ev.now _)
theorem U.takeN {l : List Int} (h : U l) (n : Nat) : U (l.take n) := fun x hx => h x (List.mem_of_mem_take hx)
def RtU (r : Rt) : Prop := U r.2.1 ∧ U r.2.2
theorem fewB {r : Rt} (h : RtU r) : RtB 8 (fewR r) := ⟨h.1.takeN 8, h.2.takeN 8, by show (List.take 8 _).length ≤ 8; rw [List.length_take]; omega, by show (List.take 8 _).length ≤ 8; rw [List.length_take]; omega⟩
theorem tinyB {r : Rt} (h : RtU r) : RtB 2 (tinyR r) := ⟨h.1.takeN 2, h.2.takeN 2, by show (List.take 2 _).length ≤ 2; rw [List.length_take]; omega, by show (List.take 2 _).length ≤ 2; rw [List.length_take]; omega⟩
theorem aw3 : Ev (fun k => (dendronlaw03_awake.f k).bind fun v => some v) true := Ev.bind awake03_ev (Ev.now _)
theorem ratioSums_ev (r s : Rt) (hr : RtU r) (hs : RtU s) : Ev (fun k => dendronlaw03_RatioSums.f k r.1 r.2.1 r.2.2 s.1 s.2.1 s.2.2) true := by
  unfold dendronlaw03_RatioSums.f
  refine Ev.bind (few3_ev _ _ _) (Ev.bind (few3_ev _ _ _) ?_)
  have ha := fewB hr
  have hb := fewB hs
  have za := ha.sz
  have zb := hb.sz
  generalize fewR (r.1, r.2.1, r.2.2) = a at ha za ⊢
  generalize fewR (s.1, s.2.1, s.2.2) = b at hb zb ⊢
  obtain ⟨x, hx, ex⟩ := D.FL.from ha (by decide)
  obtain ⟨y, hy, ey⟩ := D.FL.from hb (by decide)
  refine Ev.bind ex (Ev.bind ey (Ev.bind (hx.order hy (by decide)) ?_))
  have hc := cmp_cn a b ha hb (by decide) (by decide)
  have hsm := same_cn a b ha hb (by decide) (by decide)
  have es : decide (rv a = rv b) = (cmpQ (rv a) (rv b) == 0) := by
    rw [Bool.eq_iff_iff, beq_iff_eq, decide_eq_true_iff, cmpQ_zero]
  rw [es] at hsm
  have hmin := min_cn a b ha hb (by decide) (by decide)
  have hmax := max_cn a b ha hb (by decide) (by decide)
  obtain ⟨t1, f1, e1⟩ := hx.plus hy (by decide)
  obtain ⟨t2, f2, e2⟩ := hy.minus
  obtain ⟨t3, f3, e3⟩ := hx.plus f2 (by decide)
  obtain ⟨t4, f4, e4⟩ := hx.times hy (by decide)
  rw [← Rat.sub_eq_add_neg] at f3
  have s1 := Sz_add (rv a) (rv b)
  have s3 := Sz_sub (rv a) (rv b)
  have s4 := Sz_mul (rv a) (rv b)
  have i1 := D.is_true f1 s1 (by omega)
  have i3 := D.is_true f3 s3 (by omega)
  have i4 := D.is_true f4 s4 (by omega)
  have ix := D.is_true hx za (by decide)
  have iy := D.is_true hy zb (by decide)
  have tail : Ev (fun k => (ratio_Div.f k a.1 a.2.1 a.2.2 b.1 b.2.1 b.2.2).bind fun v89 => (ratio_Inv.f k b.1 b.2.1 b.2.2).bind fun v97 => (if (y.2.1.length : Int) = 0 then ((dendronref03_None.f v89.1 v89.2.1 v89.2.2.1).bind fun v110 => (if v110 = true then ((dendronref03_None.f v97.1 v97.2.1 v97.2.2.1).bind fun v113 => (if v113 = true then (if v89.2.2.2 = 2 then (if v97.2.2.2 = 2 then ((dendronlaw03_awake.f k).bind fun v124 => (some v124)) else (some false)) else (some false)) else (some false))) else (some false))) else (if v89.2.2.2 = 0 then (if v97.2.2.2 = 0 then ((dendronref03_Inverse.f y.1 y.2.1 y.2.2).bind fun v118 => ((dendronref03_Is.f k v97.1 v97.2.1 v97.2.2.1 v118.1 v118.2.1 v118.2.2).bind fun v119 => (if v119 = true then ((dendronref03_Inverse.f y.1 y.2.1 y.2.2).bind fun v125 => ((dendronref03_Times.f k x.1 x.2.1 x.2.2 v125.1 v125.2.1 v125.2.2).bind fun v126 => ((dendronref03_Is.f k v89.1 v89.2.1 v89.2.2.1 v126.1 v126.2.1 v126.2.2).bind fun v127 => (if v127 = true then ((dendronlaw03_awake.f k).bind fun v130 => (some v130)) else (some false))))) else (some false)))) else (some false)) else (some false)))) true := by
    have hd := div_cn a b ha hb (by decide)
    have hi := inv_cn b hb (by decide)
    by_cases h0 : rv b = 0
    · rw [if_pos h0] at hd hi
      exact Ev.bind hd (Ev.bind hi (Ev.if_pos (hy.zero_N.2 h0) (Ev.bind D.none_true (Ev.if_pos rfl (Ev.bind D.none_true (Ev.if_pos rfl (Ev.if_pos rfl (Ev.if_pos rfl aw3))))))))
    · rw [if_neg h0] at hd hi
      obtain ⟨t5, f5, e5⟩ := hy.inv h0
      obtain ⟨t6, f6, e6⟩ := hx.times f5 (by decide)
      have s5 := Sz_inv (rv b)
      have s6 := Sz_mul (rv a) (rv b)⁻¹
      have i5 := D.is_true f5 s5 (by omega)
      have i6 := D.is_true f6 s6 (by omega)
      exact Ev.bind hd (Ev.bind hi (Ev.if_neg (fun e => h0 (hy.zero_N.1 e)) (Ev.if_pos rfl (Ev.if_pos rfl (Ev.bind e5 (Ev.bind i5 (Ev.if_pos rfl (Ev.bind e5 (Ev.bind e6 (Ev.bind i6 (Ev.if_pos rfl aw3)))))))))))
  by_cases ho : cmpQ (rv a) (rv b) > 0
  · have hlt := cmpQ_pos.1 ho
    have hnl : ¬ rv a < rv b := Rat.not_lt.2 (Rat.le_of_lt hlt)
    rw [if_pos hlt] at hmin
    rw [if_neg hnl] at hmax
    exact Ev.if_pos ho (Ev.bind hc (Ev.if_neg (fun h => h rfl) (Ev.bind hsm (Ev.if_neg (fun h => h rfl) (Ev.bind hmin (Ev.bind iy (Ev.if_pos rfl (Ev.bind hmax (Ev.bind ix (Ev.if_pos rfl (Ev.bind (add_cn a b ha hb (by decide)) (Ev.bind e1 (Ev.bind i1 (Ev.if_pos rfl (Ev.bind (sub_cn a b ha hb (by decide)) (Ev.bind e2 (Ev.bind e3 (Ev.bind i3 (Ev.if_pos rfl (Ev.bind (mul_cn a b ha hb (by decide)) (Ev.bind e4 (Ev.bind i4 (Ev.if_pos rfl tail)))))))))))))))))))))))
  · have hnl : ¬ rv b < rv a := fun h => ho (cmpQ_pos.2 h)
    rw [if_neg hnl] at hmin
    have em : (if rv a < rv b then rv b else rv a) = rv b := by
      split
      · rfl
      · exact Rat.le_antisymm (Rat.not_lt.1 hnl) (Rat.not_lt.1 ‹_›)
    rw [em] at hmax
    exact Ev.if_neg ho (Ev.bind hc (Ev.if_neg (fun h => h rfl) (Ev.bind hsm (Ev.if_neg (fun h => h rfl) (Ev.bind hmin (Ev.bind ix (Ev.if_pos rfl (Ev.bind hmax (Ev.bind iy (Ev.if_pos rfl (Ev.bind (add_cn a b ha hb (by decide)) (Ev.bind e1 (Ev.bind i1 (Ev.if_pos rfl (Ev.bind (sub_cn a b ha hb (by decide)) (Ev.bind e2 (Ev.bind e3 (Ev.bind i3 (Ev.if_pos rfl (Ev.bind (mul_cn a b ha hb (by decide)) (Ev.bind e4 (Ev.bind i4 (Ev.if_pos rfl tail)))))))))))))))))))))))
theorem sgn_cmp (x : Rat) : sgn x.num = cmpQ x 0 := by
  unfold sgn cmpQ
  by_cases h : x < 0
  · rw [if_pos h, if_pos ((num_neg_iff x).2 h)]
  · have h1 : ¬ x.num < 0 := fun e => h ((num_neg_iff x).1 e)
    rw [if_neg h, if_neg h1]
    by_cases h2 : x = 0
    · rw [if_pos (Rat.num_eq_zero.2 h2), if_neg (by rw [h2]; exact Rat.lt_irrefl)]
    · rw [if_neg (fun e => h2 (Rat.num_eq_zero.1 e)), if_pos (Rat.lt_of_le_of_ne (Rat.not_lt.1 h) (fun e => h2 e.symm))]
theorem sign3_cn (r : Rt) {b : Nat} (h : RtB b r) (hb : b ≤ 1073741824) : Ev (fun k => ratio_Sign.f k r.1 r.2.1 r.2.2) (cmpQ (rv r) 0) := by
  unfold ratio_Sign.f
  refine Ev.bind (clean_cn r h (by omega)) ?_
  have h1 := cnB (rv r) h.sz
  have := wsign_ev (cn (rv r)).1 (cn (rv r)).2.1 h1.1 (by have := h1.2.2.1; omega)
  rw [wv_cn, sgn_cmp] at this
  exact Ev.bind this (Ev.now _)
theorem ratioForms_ev (r : Rt) (hr : RtU r) : Ev (fun k => dendronlaw03_RatioForms.f k r.1 r.2.1 r.2.2) true := by
  unfold dendronlaw03_RatioForms.f
  refine Ev.bind (few3_ev _ _ _) ?_
  have ha := fewB hr
  have za := ha.sz
  generalize fewR (r.1, r.2.1, r.2.2) = a at ha za ⊢
  obtain ⟨x, hx, ex⟩ := D.FL.from ha (by decide)
  obtain ⟨z, hz, ez⟩ := D.FL.small 0 1 (by decide) (by decide) (by decide)
  rw [show mkRat 0 1 = 0 from rfl] at hz
  refine Ev.bind ex (Ev.bind ez (Ev.bind (hx.order hz (by decide)) ?_))
  obtain ⟨t2, f2, e2⟩ := hx.minus
  have zn := Sz_neg (rv a)
  have i2 := D.is_true f2 (b := 9) (by omega) (by decide)
  have ix := D.is_true hx za (by decide)
  have habs := abs_cn a ha (by decide)
  by_cases h : rv a < 0
  · have e : absQ (rv a) = -(rv a) := if_pos h
    rw [e] at habs
    exact Ev.if_pos (cmpQ_neg.2 h) (Ev.bind e2 (Ev.bind (rright_ev a ha (by decide)) (Ev.bind (D.right3_ev a ha (by decide)) (Ev.if_pos rfl (Ev.bind (clean_cn a ha (by decide)) (Ev.bind ix (Ev.if_pos rfl (Ev.bind (sign3_cn a ha (by decide)) (Ev.if_pos rfl (Ev.bind habs (Ev.bind i2 (Ev.if_pos rfl (Ev.bind (neg_cn a ha (by decide)) (Ev.bind e2 (Ev.bind i2 (Ev.if_pos rfl aw3))))))))))))))))
  · have e : absQ (rv a) = rv a := if_neg h
    rw [e] at habs
    exact Ev.if_neg (fun h' => h (cmpQ_neg.1 h')) (Ev.bind (rright_ev a ha (by decide)) (Ev.bind (D.right3_ev a ha (by decide)) (Ev.if_pos rfl (Ev.bind (clean_cn a ha (by decide)) (Ev.bind ix (Ev.if_pos rfl (Ev.bind (sign3_cn a ha (by decide)) (Ev.if_pos rfl (Ev.bind habs (Ev.bind ix (Ev.if_pos rfl (Ev.bind (neg_cn a ha (by decide)) (Ev.bind e2 (Ev.bind i2 (Ev.if_pos rfl aw3)))))))))))))))
end Go.DI.Th
namespace Go.DI.Th
open Go Go.RowKit Go.DI

/-! ### a number times 10^9 and a small one -/
theorem plus_limb (x c : Int) (hx : 0 ≤ x ∧ x < 4294967296) (hc : 0 ≤ c ∧ c < 1000000000) :
    ∃ y z : Int, (0 ≤ y ∧ y < 4294967296) ∧ (0 ≤ z ∧ z < 1000000000) ∧ y + 4294967296 * z = c + x * 1000000000 ∧ Go.bits .and .u64 (IntKind.u64.wrap (c + (IntKind.u64.wrap (x * 1000000000)))) 4294967295 = y ∧ (IntKind.u64.wrap (c + (IntKind.u64.wrap (x * 1000000000)))) / 4294967296 = z := by
  have e : IntKind.u64.wrap (c + (IntKind.u64.wrap (x * 1000000000))) = c + x * 1000000000 := by
    simp only [w64]
    omega
  rw [e, and_low (by omega) (by omega)]
  exact ⟨_, _, ⟨Int.emod_nonneg _ (by decide), Int.emod_lt_of_pos _ (by decide)⟩, by omega, by omega, rfl, rfl⟩
theorem plus_val (p vd vt x y z c : Int) (h : vd + p * c = vt) (hs : y + 4294967296 * z = c + x * 1000000000) : vd + p * y + p * 4294967296 * z = vt + p * x * 1000000000 := by grind
theorem plus_loop (a : List Int) (ha : Ok a) (v : Nat) (N : Nat) (hN : N ≤ 35184372088832) (hla : a.length + 1 = N) (hs : val a * 1000000000 + v < 4294967296 ^ N) (d : Nat) : ∀ (done : List Int) (c : Int), Ok done → done.length + d = N → (0 ≤ c ∧ c < 1000000000) →
    val done + 4294967296 ^ done.length * c = (val (a.take done.length) : Int) * 1000000000 + v →
    Ev (fun k => nat_plus.l0 k a c (done ++ List.replicate d 0) (N : Int) (done.length : Int)) (lm (val a * 1000000000 + v)) := by
  induction d with
  | zero =>
    intro done c hd hl hc hv
    have hl' : done.length = N := by omega
    rw [List.take_of_length_le (by omega)] at hv
    have hz : val done = val a * 1000000000 + v := by
      have e : (4294967296 : Int) ^ done.length = ((4294967296 ^ done.length : Nat) : Int) := by rw [Int.natCast_pow]; rfl
      have hc0 : c = 0 := by
        apply Classical.byContradiction
        intro h0
        have h1 : (4294967296 : Int) ^ done.length * 1 ≤ 4294967296 ^ done.length * c := Int.mul_le_mul_of_nonneg_left (by omega) (by rw [e]; exact Int.natCast_nonneg _)
        rw [Int.mul_one, e, hl'] at h1
        rw [hl'] at e
        rw [hl', e] at hv
        omega
      rw [hc0] at hv
      omega
    refine Ev.step (f := fun k => (nat_trim.f k done).bind fun t => some t) (fun k => ?_) (Ev.bind ?_ (Ev.now _))
    · simp only [nat_plus.l0]
      rw [if_neg (by omega)]
      simp
    · have := trim_ev done hd (by omega)
      rwa [hz] at this
  | succ d ih =>
    intro done c hd hl hc hv
    have va := val_take_rd a ha done.length
    obtain ⟨y, nd, hy, hnd, hsum, e1, e2⟩ := plus_limb (rd a (done.length : Int)) c (rd_ok ha _) hc
    refine Ev.step (fun k => ?_) (ih (done ++ [y]) nd (hd.append (Ok.cons hy Ok.nil)) (by simp; omega) hnd ?_)
    · simp only [nat_plus.l0]
      rw [if_pos (by omega), limb_eq a _ (by omega)]
      simp only [Option.bind_some]
      rw [if_pos (by omega), if_pos (by simp; omega), e1, e2, wrap_id (by omega) (by omega), show ((done.length : Int)).toNat = done.length by omega, fill]
      simp
    · rw [List.length_append, List.length_singleton, va, val_snoc_int done y hy, Int.pow_succ]
      have := plus_val (4294967296 ^ done.length) (val done) _ (rd a (done.length : Int)) y nd c hv hsum
      rw [this, Int.add_mul]
      omega
theorem nplus_ev (n v : Nat) (hv : v < 1000000000) (hl : len n ≤ 35184372088830) : Ev (fun k => nat_plus.f k (lm n) (v : Int)) (lm (n * 1000000000 + v)) := by
  have hN : val (lm n) * 1000000000 + v < 4294967296 ^ (len n + 1) := by
    rw [val_lm]
    have := lt_pow_len n
    rw [Nat.pow_succ]
    have h1 : n + 1 ≤ 4294967296 ^ len n := this
    have h2 : (n + 1) * 4294967296 ≤ 4294967296 ^ len n * 4294967296 := Nat.mul_le_mul_right _ h1
    omega
  have h := plus_loop (lm n) (lm_ok n) v (len n + 1) (by omega) (by rw [lm_length]) hN (len n + 1) [] (v : Int) Ok.nil (by simp) (by omega) (by simp [val])
  rw [val_lm] at h
  unfold nat_plus.f
  simp only [lm_length, wr_succ _ (show len n ≤ 1125899906842624 by omega), Int.toNat_natCast, List.length_replicate]
  exact Ev.if_pos (by omega) (Ev.if_pos (by omega) h)
/-! ### digits -/
def isD (c : UInt8) : Prop := 48 ≤ c.toNat ∧ c.toNat ≤ 57
instance (c : UInt8) : Decidable (isD c) := by unfold isD; infer_instance
def dgv (a : Nat) (l : List UInt8) : Nat := l.foldl (fun a c => 10 * a + (c.toNat - 48)) a
theorem dgv_cons (a : Nat) (c : UInt8) (l : List UInt8) : dgv a (c :: l) = dgv (10 * a + (c.toNat - 48)) l := by unfold dgv; rw [List.foldl_cons]
theorem dgv_nil (a : Nat) : dgv a [] = a := by unfold dgv; rw [List.foldl_nil]
theorem dgv_append (a : Nat) (l m : List UInt8) : dgv a (l ++ m) = dgv (dgv a l) m := List.foldl_append
theorem dgv_shift : ∀ (l : List UInt8) (a : Nat), dgv a l = a * 10 ^ l.length + dgv 0 l
  | [], a => by rw [dgv_nil, dgv_nil, List.length_nil, Nat.pow_zero]; omega
  | c :: l, a => by
    rw [dgv_cons, dgv_cons, dgv_shift l (10 * a + (c.toNat - 48)), dgv_shift l (10 * 0 + (c.toNat - 48)), List.length_cons, Nat.pow_succ, Nat.add_mul, Nat.mul_zero, Nat.zero_add, Nat.mul_comm 10 a, Nat.mul_assoc, Nat.mul_comm 10 (10 ^ l.length)]
    omega
theorem dgv_step (a d p x : Nat) (h3 : 10 * a + d + 1 ≤ (a + 1) * 10) (h : x < (10 * a + d + 1) * p) : x < (a + 1) * (10 * p) := by
  rw [← Nat.mul_assoc]
  exact Nat.lt_of_lt_of_le h (Nat.mul_le_mul_right _ h3)
theorem dgv_lt : ∀ (l : List UInt8) (a : Nat), (∀ c ∈ l, isD c) → dgv a l < (a + 1) * 10 ^ l.length
  | [], a, _ => by rw [dgv_nil, List.length_nil, Nat.pow_zero]; omega
  | c :: l, a, h => by
    have h1 := h c List.mem_cons_self
    have h2 := dgv_lt l (10 * a + (c.toNat - 48)) fun x hx => h x (List.mem_cons_of_mem _ hx)
    have h3 : 10 * a + (c.toNat - 48) + 1 ≤ (a + 1) * 10 := by unfold isD at h1; omega
    rw [dgv_cons, List.length_cons, Nat.pow_succ, Nat.mul_comm (10 ^ l.length) 10]
    exact dgv_step a (c.toNat - 48) (10 ^ l.length) _ h3 h2
/-- Why digits are no number; 0: they are one. -/
def pE (w : List UInt8) : Int := if w = [] then 4 else if ∀ c ∈ w, isD c then (if w.length > 10000 then 5 else 0) else 4
def pR (w : List UInt8) : List Int × Int := if pE w = 0 then (lm (dgv 0 w), 0) else ([], pE w)
theorem pE_zero {w : List UInt8} : pE w = 0 ↔ w ≠ [] ∧ (∀ c ∈ w, isD c) ∧ w.length ≤ 10000 := by
  unfold pE
  by_cases h : w = []
  · rw [if_pos h]
    exact ⟨fun e => (by cases e), fun e => absurd h e.1⟩
  · rw [if_neg h]
    by_cases h1 : ∀ c ∈ w, isD c
    · rw [if_pos h1]
      by_cases h2 : w.length > 10000
      · rw [if_pos h2]
        exact ⟨fun e => (by cases e), fun e => by omega⟩
      · rw [if_neg h2]
        exact ⟨fun _ => ⟨h, h1, by omega⟩, fun _ => rfl⟩
    · rw [if_neg h1]
      exact ⟨fun e => (by cases e), fun e => absurd e.2.1 h1⟩
theorem ofL_eq {s : ByteArray} {w : List UInt8} (h : toL s = w) : s = ofL w := by rw [← h, ofL_toL]
theorem ext_drop {s : ByteArray} {a b : List UInt8} (h : toL s = a ++ b) : s.extract a.length s.size = ofL b := by
  apply toL_inj
  rw [toL_extract, h, List.drop_left, toL_ofL, List.take_of_length_le]
  rw [size_toL, h, List.length_append]
  omega
theorem ext_take {s : ByteArray} {a b : List UInt8} (h : toL s = a ++ b) : s.extract 0 a.length = ofL a := by
  apply toL_inj
  rw [toL_extract, h, toL_ofL, List.drop_zero, Nat.sub_zero, List.take_left]
theorem at_byte {s : ByteArray} {a : List UInt8} {c : UInt8} {b : List UInt8} (h : toL s = a ++ c :: b) (hp : a.length < s.size) : s[a.length]'hp = c := by
  have e : (s[a.length]'hp) = (toL s)[a.length]'(by rw [← size_toL]; exact hp) := rfl
  rw [e]
  have : ∀ (l : List UInt8) (hl : a.length < l.length), l = a ++ c :: b → l[a.length]'hl = c := by
    intro l hl e
    subst e
    rw [List.getElem_append_right (Nat.le_refl _)]
    simp
  exact this _ _ h
theorem toBytes_eq (w : List UInt8) : toBytes (ofL w) = w.map fun c => (c.toNat : Int) := rfl
theorem parse_l2 (rest : ByteArray) (x0 : ByteArray) (x7 : Nat) (hx0 : x7 ≤ x0.size) (hrest : x0.extract x7 x0.size = rest) (acc : Nat) (hacc : len acc ≤ 35184372088830) (w : List UInt8) (hw : ∀ c ∈ w, isD c) (hl : w.length ≤ 9) (R : List Int × Int)
    (hend : Ev (fun k => nat_Parse.l1 k rest (lm (acc * 1000000000 + dgv 0 w))) R) : ∀ (b a : List UInt8), w = a ++ b →
    Ev (fun k => nat_Parse.l2 k x0 (lm acc) (x7 : Int) ((dgv 0 a : Nat) : Int) (w.map fun c => (c.toNat : Int)) (w.length : Int) (a.length : Int)) R := by
  intro b
  induction b with
  | nil =>
    intro a hr
    rw [List.append_nil] at hr
    subst hr
    refine Ev.succ ?_
    simp only [nat_Parse.l2]
    have hlt := dgv_lt w 0 hw
    have h9 : 10 ^ w.length ≤ 10 ^ 9 := Nat.pow_le_pow_right (by decide) hl
    refine Ev.if_neg (by omega) (Ev.bind (nplus_ev acc (dgv 0 w) (by omega) hacc) (Ev.if_pos (nn0 _) (Ev.if_pos (by omega) ?_)))
    rw [Int.toNat_natCast, hrest]
    exact hend
  | cons c b ih =>
    intro a hr
    have hc : isD c := hw c (by rw [hr]; simp)
    have hlen : w.length = a.length + (b.length + 1) := by rw [hr, List.length_append, List.length_cons]
    have ha : ∀ x ∈ a, isD x := fun x hx => hw x (by rw [hr]; exact List.mem_append_left _ hx)
    have hlt := dgv_lt a 0 ha
    have h9 : 10 ^ a.length ≤ 10 ^ 8 := Nat.pow_le_pow_right (by decide) (by omega)
    have hih := ih (a ++ [c]) (by rw [hr]; simp)
    rw [dgv_append] at hih
    have er : rd (w.map fun c => (c.toNat : Int)) (a.length : Int) = (c.toNat : Int) := by
      rw [hr, List.map_append, List.map_cons]
      have := rd_at (a.map fun c => (c.toNat : Int)) (c.toNat : Int) (b.map fun c => (c.toNat : Int))
      rwa [List.length_map] at this
    have e8 : IntKind.u8.wrap ((c.toNat : Int) - 48) = ((c.toNat - 48 : Nat) : Int) := by
      unfold isD at hc
      rw [IntKind.wrap_u8]
      omega
    have e9 : IntKind.u64.wrap ((IntKind.u64.wrap (10 * ((dgv 0 a : Nat) : Int))) + (IntKind.u64.wrap ((c.toNat - 48 : Nat) : Int))) = ((dgv (dgv 0 a) [c] : Nat) : Int) := by
      have : dgv (dgv 0 a) [c] = 10 * dgv 0 a + (c.toNat - 48) := by rw [dgv_cons, dgv_nil]
      rw [this]
      unfold isD at hc
      simp only [w64]
      omega
    refine Ev.succ ?_
    simp only [nat_Parse.l2, er, e8, e9, wr_at a c (show a.length ≤ 1125899906842624 by omega)]
    exact Ev.if_pos (by omega) (Ev.if_pos (nn0 _) (Ev.if_pos (by rw [List.length_map]; omega) hih))
theorem len_ten (n : Nat) : len (10 ^ n) ≤ n + 1 := by
  refine len_le ?_
  have : 10 ^ n ≤ 4294967296 ^ n := Nat.pow_le_pow_left (by decide) n
  rw [Nat.pow_succ]
  have := Nat.pow_pos (n := n) (show 0 < 4294967296 by decide)
  omega
theorem len_dgv (w : List UInt8) (h : ∀ c ∈ w, isD c) : len (dgv 0 w) ≤ w.length + 1 := by
  have h1 := dgv_lt w 0 h
  rw [Nat.zero_add, Nat.one_mul] at h1
  exact Nat.le_trans (len_mono (Nat.le_of_lt h1)) (len_ten _)
theorem parse_l1 : ∀ (m : Nat) (a b : List UInt8), b.length ≤ m → (∀ c ∈ a ++ b, isD c) → (a ++ b).length ≤ 10000 → (a = [] ∨ b.length % 9 = 0) →
    Ev (fun k => nat_Parse.l1 k (ofL b) (lm (dgv 0 a))) (lm (dgv 0 (a ++ b)), 0) := by
  intro m
  induction m with
  | zero =>
    intro a b hb hd hl h9
    obtain rfl : b = [] := List.length_eq_zero_iff.1 (by omega)
    refine Ev.succ ?_
    simp only [nat_Parse.l1]
    rw [List.append_nil]
    exact Ev.if_neg (by decide) (Ev.now _)
  | succ m ih =>
    intro a b hb hd hl h9
    have hsz : (ofL b).size = b.length := by rw [size_toL]; rfl
    refine Ev.succ ?_
    simp only [nat_Parse.l1]
    rw [hsz]
    by_cases h0 : b = []
    · subst h0
      rw [List.append_nil]
      exact Ev.if_neg (by decide) (Ev.now _)
    · have hp := List.length_pos_iff.2 h0
      rw [List.length_append] at hl
      have em : Int.tmod (b.length : Int) 9 = ((b.length % 9 : Nat) : Int) := rfl
      rw [em, Int.toNat_natCast]
      refine Ev.if_pos (by omega) ?_
      have step : ∀ n : Nat, 0 < n → n ≤ 9 → n ≤ b.length → (b.length - n) % 9 = 0 → (a ≠ [] → n = 9) → Ev (fun k => nat_Parse.l2 k (ofL b) (lm (dgv 0 a)) (n : Int) 0 (toBytes ((ofL b).extract 0 n)) ((toBytes ((ofL b).extract 0 n)).length : Int) 0) (lm (dgv 0 (a ++ b)), 0) := by
        intro n n0 n9 nb hm hn
        obtain ⟨u, v, rfl, hu⟩ : ∃ u v : List UInt8, b = u ++ v ∧ u.length = n := ⟨b.take n, b.drop n, (List.take_append_drop n b).symm, by rw [List.length_take]; omega⟩
        have e1 : (ofL (u ++ v)).extract 0 n = ofL u := by rw [← hu]; exact ext_take rfl
        have e2 : (ofL (u ++ v)).extract n (ofL (u ++ v)).size = ofL v := by rw [← hu]; exact ext_drop rfl
        rw [List.length_append] at hm hb hl
        have hdu : ∀ c ∈ u, isD c := fun c hc => hd c (by simp [hc])
        have hda : ∀ c ∈ a, isD c := fun c hc => hd c (by simp [hc])
        have hih := ih (a ++ u) v (by omega) (by rw [List.append_assoc]; exact hd) (by rw [List.append_assoc, List.length_append, List.length_append]; omega) (Or.inr (by
          have e : u.length + v.length - n = v.length := by omega
          rwa [e] at hm))
        have ea : dgv 0 (a ++ u) = dgv 0 a * 1000000000 + dgv 0 u := by
          rw [dgv_append, dgv_shift u (dgv 0 a)]
          by_cases h : a = []
          · rw [h]
            have : dgv 0 ([] : List UInt8) = 0 := dgv_nil 0
            rw [this, Nat.zero_mul, Nat.zero_mul]
          · rw [hu, hn h]
        rw [ea, List.append_assoc] at hih
        rw [e1, toBytes_eq, List.length_map]
        have hla := len_dgv a hda
        exact parse_l2 (ofL v) (ofL (u ++ v)) n (by rw [size_toL, toL_ofL, List.length_append]; omega) e2 (dgv 0 a) (by omega) u hdu (by omega) _ hih u [] rfl
      by_cases hm : b.length % 9 = 0
      · refine Ev.if_pos (by omega) (Ev.if_pos (by omega) (Ev.if_pos ?_ (step 9 (by decide) (by decide) (by omega) (by omega) (fun _ => rfl))))
        rw [size_toL, toL_extract, List.length_take]
        have : lim = 140737488355328 := rfl
        omega
      · refine Ev.if_neg (by omega) (Ev.if_pos (by omega) (Ev.if_pos (by omega) (Ev.if_pos ?_ (step (b.length % 9) (by omega) (by omega) (by omega) (by omega) (fun h => by
          rcases h9 with e | e
          · exact absurd e h
          · exact absurd e hm)))))
        rw [size_toL, toL_extract, List.length_take]
        have : lim = 140737488355328 := rfl
        omega
theorem parse_l0 (s : ByteArray) (w : List UInt8) (hw : toL s = w) (R : List Int × Int)
    (hend : (∀ c ∈ w, isD c) → Ev (fun k => if (s.size : Int) > 10000 then some (([] : List Int), 5) else nat_Parse.l1 k s []) R) (hbad : (¬ ∀ c ∈ w, isD c) → R = ([], 4)) : ∀ (b a : List UInt8), w = a ++ b → (∀ c ∈ a, isD c) →
    Ev (fun k => nat_Parse.l0 k s s a.length) R := by
  intro b
  induction b with
  | nil =>
    intro a hr ha
    rw [List.append_nil] at hr
    subst hr
    refine Ev.succ ?_
    simp only [nat_Parse.l0]
    exact Ev.if_neg (by rw [size_toL, hw]; omega) (hend ha)
  | cons c b ih =>
    intro a hr ha
    have hp : a.length < s.size := by rw [size_toL, hw, hr, List.length_append, List.length_cons]; omega
    have hat := at_byte (hw.trans hr) hp
    refine Ev.succ ?_
    simp only [nat_Parse.l0]
    refine Ev.if_pos hp ?_
    by_cases hc : isD c
    · have hde := decode_ascii s a.length hp (by rw [hat]; unfold isD at hc; omega)
      rw [hat] at hde
      rw [hde]
      have hih := ih (a ++ [c]) (by rw [hr]; simp) (fun x hx => by
        rcases List.mem_append.1 hx with h | h
        · exact ha x h
        · rw [List.mem_singleton.1 h]; exact hc)
      rw [List.length_append, List.length_singleton] at hih
      unfold isD at hc
      exact Ev.if_neg (by show ¬ ((c.toNat : Int) < 48); omega) (Ev.if_neg (by show ¬ ((c.toNat : Int) > 57); omega) hih)
    · have hR := hbad fun h => hc (h c (by rw [hr]; simp))
      rw [hR]
      by_cases h128 : c.toNat < 128
      · have hde := decode_ascii s a.length hp (by rw [hat]; exact h128)
        rw [hat] at hde
        rw [hde]
        unfold isD at hc
        by_cases h48 : c.toNat < 48
        · exact Ev.if_pos (by show (c.toNat : Int) < 48; omega) (Ev.now _)
        · exact Ev.if_neg (by show ¬ ((c.toNat : Int) < 48); omega) (Ev.if_pos (by show (c.toNat : Int) > 57; omega) (Ev.now _))
      · have hde := decode_high s a.length hp (by rw [hat]; omega)
        exact Ev.if_neg (by omega) (Ev.if_pos (by omega) (Ev.now _))
theorem nparse_ev (s : ByteArray) : Ev (fun k => nat_Parse.f k s) (pR (toL s)) := by
  unfold nat_Parse.f
  by_cases h0 : s = ByteArray.empty
  · have e : pR (toL s) = ([], 4) := by rw [h0]; rfl
    rw [e]
    exact Ev.if_pos h0 (Ev.now _)
  · have hne : toL s ≠ [] := fun e => h0 (toL_inj e)
    refine Ev.if_neg h0 (parse_l0 s (toL s) rfl _ (fun hd => ?_) (fun hb => ?_) (toL s) [] rfl (fun c hc => by cases hc))
    · by_cases hl : (toL s).length > 10000
      · have e : pE (toL s) = 5 := by unfold pE; rw [if_neg hne, if_pos hd, if_pos hl]
        have e2 : pR (toL s) = ([], 5) := by unfold pR; rw [e]; rfl
        rw [e2]
        exact Ev.if_pos (by rw [size_toL]; omega) (Ev.now _)
      · have e : pE (toL s) = 0 := pE_zero.2 ⟨hne, hd, by omega⟩
        have e2 : pR (toL s) = (lm (dgv 0 (toL s)), 0) := by unfold pR; rw [if_pos e]
        rw [e2]
        have h1 := parse_l1 (toL s).length [] (toL s) (Nat.le_refl _) hd (by rw [List.nil_append]; omega) (Or.inl rfl)
        have e3 : lm (dgv 0 []) = [] := by rw [dgv_nil]; exact lm_zero
        rw [e3] at h1
        exact Ev.if_neg (by rw [size_toL]; omega) h1
    · have e : pE (toL s) = 4 := by unfold pE; rw [if_neg hne, if_neg hb]
      unfold pR
      rw [e]
      rfl
end Go.DI.Th
namespace Go.DI.Th
open Go Go.RowKit Go.DI

/-- A list cut at the first place where a byte stands. -/
def cutL (x : UInt8) : List UInt8 → Option (List UInt8 × List UInt8)
  | [] => none
  | c :: w => if c = x then some ([], w) else (cutL x w).map fun p => (c :: p.1, p.2)
theorem cutL_some {x : UInt8} : ∀ {w a b : List UInt8}, cutL x w = some (a, b) → w = a ++ x :: b ∧ x ∉ a
  | [], a, b, h => by cases h
  | c :: w, a, b, h => by
    rw [cutL] at h
    by_cases hc : c = x
    · rw [if_pos hc] at h
      cases h
      rw [hc]
      exact ⟨rfl, List.not_mem_nil⟩
    · rw [if_neg hc] at h
      cases hw : cutL x w with
      | none => rw [hw] at h; cases h
      | some p =>
        rw [hw] at h
        cases h
        obtain ⟨h1, h2⟩ := cutL_some (a := p.1) (b := p.2) hw
        refine ⟨by rw [List.cons_append, ← h1], fun hm => ?_⟩
        rcases List.mem_cons.1 hm with e | hm
        · exact hc e.symm
        · exact h2 hm
theorem cutL_none {x : UInt8} : ∀ {w : List UInt8}, cutL x w = none → x ∉ w
  | [], _ => List.not_mem_nil
  | c :: w, h => by
    rw [cutL] at h
    by_cases hc : c = x
    · rw [if_pos hc] at h; cases h
    · rw [if_neg hc] at h
      cases hw : cutL x w with
      | some p => rw [hw] at h; cases h
      | none =>
        intro hm
        rcases List.mem_cons.1 hm with e | hm
        · exact hc e.symm
        · exact cutL_none hw hm
theorem cutL_of {x : UInt8} : ∀ {a b : List UInt8}, x ∉ a → cutL x (a ++ x :: b) = some (a, b)
  | [], b, _ => by rw [List.nil_append, cutL, if_pos rfl]
  | c :: a, b, h => by
    rw [List.cons_append, cutL, if_neg (fun e => h (by rw [e]; exact List.mem_cons_self)), cutL_of (fun hm => h (List.mem_cons_of_mem _ hm))]
    rfl
theorem cutL_not {x : UInt8} : ∀ {w : List UInt8}, x ∉ w → cutL x w = none
  | [], _ => rfl
  | c :: w, h => by
    rw [cutL, if_neg (fun e => h (by rw [e]; exact List.mem_cons_self)), cutL_not (fun hm => h (List.mem_cons_of_mem _ hm))]
    rfl
theorem get_bang {s : ByteArray} {i : Nat} (h : i < s.size) : s[i]! = s[i]'h := getElem!_pos s i h
theorem fIdx_at {s : ByteArray} {a b : List UInt8} {x : UInt8} (h : toL s = a ++ x :: b) (hn : x ∉ a) : fIdx s x = (a.length : Int) := by
  have hsz : s.size = a.length + (b.length + 1) := by rw [size_toL, h, List.length_append, List.length_cons]
  unfold fIdx
  have hf : (List.range s.size).find? (fun i => s[i]! == x) = some a.length := by
    rw [List.find?_range_eq_some]
    refine ⟨?_, by simp; omega, fun j hj => ?_⟩
    · rw [get_bang (by omega), at_byte h (by omega)]
      simp
    · have hjs : j < s.size := by omega
      rw [get_bang hjs]
      have e : s[j]'hjs = (toL s)[j]'(by rw [← size_toL]; exact hjs) := rfl
      have e2 : s[j]'hjs ∈ a := by
        rw [e]
        have : ∀ (l : List UInt8) (hl : j < l.length), l = a ++ x :: b → l[j]'hl ∈ a := by
          intro l hl e
          subst e
          rw [List.getElem_append_left hj]
          exact List.getElem_mem hj
        exact this _ _ h
      simp only [Bool.not_eq_true', beq_eq_false_iff_ne, ne_eq]
      intro e3
      exact hn (e3 ▸ e2)
  rw [hf]
theorem fIdx_none {s : ByteArray} {x : UInt8} (hn : x ∉ toL s) : fIdx s x = -1 := by
  unfold fIdx
  have hf : (List.range s.size).find? (fun i => s[i]! == x) = none := by
    rw [List.find?_eq_none]
    intro j hj
    have hjs : j < s.size := List.mem_range.1 hj
    rw [get_bang hjs]
    have e : s[j]'hjs = (toL s)[j]'(by rw [← size_toL]; exact hjs) := rfl
    simp only [beq_iff_eq]
    intro e2
    apply hn
    rw [← e2, e]
    exact List.getElem_mem _
  rw [hf]
def cutR (s : ByteArray) (x : UInt8) : ByteArray × ByteArray × Bool := match cutL x (toL s) with
  | some (a, b) => (ofL a, ofL b, true)
  | none => (s, ByteArray.empty, false)
theorem cut_ev (s : ByteArray) (hs : s.size ≤ 1125899906842624) (x : UInt8) (sep : ByteArray) (hsep : sep = ⟨#[x]⟩) : Ev (fun k => strings_Cut.f k s sep) (cutR s x) := by
  subst hsep
  have hsz : (⟨#[x]⟩ : ByteArray).size = 1 := rfl
  have hbt : bt (⟨#[x]⟩ : ByteArray) 0 = (x.toNat : Int) := bt_at (b := ⟨#[x]⟩) (p := []) (c := x) (r := []) rfl
  have hix : Ev (fun k => stringslite_Index.f k s ⟨#[x]⟩) (fIdx s x) := by
    unfold stringslite_Index.f
    rw [hsz, hbt]
    refine Ev.if_neg (by decide) ?_
    by_cases he : (⟨#[x]⟩ : ByteArray) = s
    · refine Ev.if_pos he ((Ev.now _).of_eq ?_)
      have : toL s = [] ++ x :: [] := by rw [← he]; rfl
      rw [fIdx_at this List.not_mem_nil]
      rfl
    · refine Ev.if_neg he (Ev.if_pos (by decide) (Ev.if_pos (by decide) ((Ev.now _).of_eq ?_)))
      congr 1
      rw [Int.toNat_natCast]
      exact UInt8.ofNat_toNat
  have hc : Ev (fun k => stringslite_Cut.f k s ⟨#[x]⟩) (cutR s x) := by
    unfold stringslite_Cut.f
    rw [hsz]
    refine Ev.bind hix ?_
    unfold cutR
    cases hx : cutL x (toL s) with
    | none =>
      rw [fIdx_none (cutL_none hx)]
      exact Ev.if_neg (by decide) (Ev.now _)
    | some p =>
      obtain ⟨a, b⟩ := p
      obtain ⟨h1, h2⟩ := cutL_some hx
      have hsize : s.size = a.length + (b.length + 1) := by rw [size_toL, h1, List.length_append, List.length_cons]
      rw [fIdx_at h1 h2]
      have ew : wrap64 ((a.length : Int) + ((1 : Nat) : Int)) = ((a.length + 1 : Nat) : Int) := by rw [wrap_id (by omega) (by omega)]; omega
      have e2 : s.extract (a.length + 1) s.size = ofL b := by
        have h3 : toL s = (a ++ [x]) ++ b := by rw [h1]; simp
        have := ext_drop h3
        rwa [List.length_append, List.length_singleton] at this
      rw [ew, Int.toNat_natCast, Int.toNat_natCast, ext_take h1, e2]
      exact Ev.if_pos (nn0 _) (Ev.if_pos (by omega) (Ev.if_pos (nn0 _) (Ev.if_pos (by omega) (Ev.now _))))
  unfold strings_Cut.f
  exact Ev.bind hc (Ev.now _)
def isPre (x : UInt8) : List UInt8 → Bool
  | [] => false
  | c :: _ => c == x
theorem prefix_ev (s : ByteArray) (x : UInt8) : strings_HasPrefix.f s ⟨#[x]⟩ = some (isPre x (toL s)) := by
  unfold strings_HasPrefix.f stringslite_HasPrefix.f
  have hsz : (⟨#[x]⟩ : ByteArray).size = 1 := rfl
  rw [hsz]
  cases hw : toL s with
  | nil =>
    have h0 : s.size = 0 := by rw [size_toL, hw]; rfl
    rw [if_neg (by omega)]
    rfl
  | cons c t =>
    have h1 : s.size = t.length + 1 := by rw [size_toL, hw]; rfl
    rw [if_pos (by omega), if_pos (by decide)]
    have e1 : s.extract 0 1 = ofL [c] := ext_take (a := [c]) (b := t) hw
    simp only [Option.bind_some, Int.toNat_natCast]
    rw [e1, Option.some.injEq]
    show ((ofL [c]).toList == (⟨#[x]⟩ : ByteArray).toList) = (c == x)
    by_cases h : c = x
    · subst h
      have e : (ofL [c]) = (⟨#[c]⟩ : ByteArray) := rfl
      rw [@str_t ⟨[], 0, 0⟩ _ _ e]
      simp
    · have e : ¬ (ofL [c]) = (⟨#[x]⟩ : ByteArray) := fun e => h (by
        have := congrArg toL e
        have e2 : ([c] : List UInt8) = [x] := this
        exact (List.cons.inj e2).1)
      rw [@str_f ⟨[], 0, 0⟩ _ _ e]
      symm
      simpa using h
/-! ### powers of ten -/
theorem ten_l0 (n : Nat) (hn : n ≤ 20000) : ∀ d i : Nat, i + d = n → Ev (fun k => ratio_ten.l0 k (lm (10 ^ i)) (n : Int) (i : Int)) (lm (10 ^ n)) := by
  intro d
  induction d with
  | zero =>
    intro i hi
    obtain rfl : i = n := by omega
    refine Ev.succ ?_
    simp only [ratio_ten.l0]
    exact Ev.if_neg (by omega) (Ev.now _)
  | succ d ih =>
    intro i hi
    have hih := ih (i + 1) (by omega)
    have hl := len_ten i
    have hm := mul_ev (lm (10 ^ i)) (lm 10) (lm_ok _).U (lm_ok _).U (by rw [lm_length, lm_length]; have := len_small (n := 10) (by decide); omega)
    rw [val_lm, val_lm, ← Nat.pow_succ] at hm
    refine Ev.succ ?_
    simp only [ratio_ten.l0, wr_succ i (show i ≤ 1125899906842624 by omega)]
    exact Ev.if_pos (by omega) (Ev.bind (ofN_ev 10 (by decide)) (Ev.bind hm hih))
theorem ten_ev (n : Nat) (hn : n ≤ 20000) : Ev (fun k => ratio_ten.f k (n : Int)) (lm (10 ^ n)) := by
  unfold ratio_ten.f
  exact Ev.bind (ofN_ev 1 (by decide)) (ten_l0 n hn n 0 (by omega))
/-! ### a number's text -/
/-- Why a text without a minus is no number. -/
def plE (w : List UInt8) : Int := match cutL 47 w with
  | some (a, b) => if pE a ≠ 0 then pE a else if pE b ≠ 0 then pE b else if dgv 0 b = 0 then 2 else 0
  | none => match cutL 46 w with
    | some (a, b) => if pE a ≠ 0 then pE a else pE b
    | none => pE w
def plV (w : List UInt8) : Rat := match cutL 47 w with
  | some (a, b) => mkRat (dgv 0 a : Int) (dgv 0 b)
  | none => match cutL 46 w with
    | some (a, b) => mkRat ((dgv 0 a * 10 ^ b.length + dgv 0 b : Nat) : Int) (10 ^ b.length)
    | none => ((dgv 0 w : Int) : Rat)
def rR (e : Int) (x : Rat) : Bool × List Int × List Int × Int := if e = 0 then ((cn x).1, (cn x).2.1, (cn x).2.2, 0) else (false, [], [], e)
theorem form_nat (n q : Nat) (hq : q ≠ 0) (h1 : len n ≤ 549755813888) (h2 : len q ≤ 549755813888) : Ev (fun k => ratio_form.f k false (lm n) (lm q)) (cn (mkRat (n : Int) q)) := by
  have := form_cn (n : Int) q hq (by rw [Int.natAbs_natCast]; exact h1) h2
  rwa [Int.natAbs_natCast, decide_eq_false (show ¬ ((n : Int) < 0) by omega)] at this
theorem pE_len {w : List UInt8} (h : pE w = 0) : len (dgv 0 w) ≤ 10001 := by
  obtain ⟨_, h2, h3⟩ := pE_zero.1 h
  have := len_dgv w h2
  omega
theorem plain_ev (s : ByteArray) (hs : s.size ≤ 1125899906842624) : Ev (fun k => ratio_plain.f k s) (rR (plE (toL s)) (plV (toL s))) := by
  unfold ratio_plain.f
  refine Ev.bind (cut_ev s hs 47 _ rfl) ?_
  unfold cutR plE plV
  cases h1 : cutL 47 (toL s) with
  | some p =>
    obtain ⟨a, b⟩ := p
    dsimp only
    refine Ev.if_pos rfl ?_
    have pa := nparse_ev (ofL a)
    have pb := nparse_ev (ofL b)
    rw [toL_ofL] at pa pb
    unfold pR at pa pb
    by_cases ha : pE a = 0
    · rw [if_pos ha] at pa
      rw [if_neg (fun h => h ha)]
      refine Ev.bind pa (Ev.if_neg (fun h => h rfl) ?_)
      by_cases hb : pE b = 0
      · rw [if_pos hb] at pb
        rw [if_neg (fun h => h hb)]
        refine Ev.bind pb (Ev.if_neg (fun h => h rfl) ?_)
        by_cases h0 : dgv 0 b = 0
        · rw [if_pos h0]
          exact Ev.if_pos (by show ((lm (dgv 0 b)).length : Int) = 0; rw [h0, lm_zero]; rfl) (Ev.now _)
        · rw [if_neg h0]
          have hp := len_eq_zero (n := dgv 0 b)
          have la := pE_len ha
          have lb := pE_len hb
          refine Ev.if_neg (by show ¬ ((lm (dgv 0 b)).length : Int) = 0; rw [lm_length]; omega) ?_
          exact Ev.bind (form_nat (dgv 0 a) (dgv 0 b) h0 (by omega) (by omega)) (Ev.now _)
      · rw [if_neg hb] at pb
        rw [if_pos hb]
        unfold rR
        rw [if_neg hb]
        exact Ev.bind pb (Ev.if_pos hb (Ev.now _))
    · rw [if_neg ha] at pa
      rw [if_pos ha]
      unfold rR
      rw [if_neg ha]
      exact Ev.bind pa (Ev.if_pos ha (Ev.now _))
  | none =>
    dsimp only
    refine Ev.if_neg (by decide) (Ev.bind (cut_ev s hs 46 _ rfl) ?_)
    unfold cutR
    cases h2 : cutL 46 (toL s) with
    | some p =>
      obtain ⟨a, b⟩ := p
      dsimp only
      refine Ev.if_pos rfl ?_
      have pa := nparse_ev (ofL a)
      have pb := nparse_ev (ofL b)
      rw [toL_ofL] at pa pb
      unfold pR at pa pb
      by_cases ha : pE a = 0
      · rw [if_pos ha] at pa
        rw [if_neg (fun h => h ha)]
        refine Ev.bind pa (Ev.if_neg (fun h => h rfl) ?_)
        by_cases hb : pE b = 0
        · rw [if_pos hb] at pb
          refine Ev.bind pb (Ev.if_neg (fun h => h rfl) ?_)
          have hbl := (pE_zero.1 hb).2.2
          have la := pE_len ha
          have lb := pE_len hb
          have lt := len_ten b.length
          have hsz : (ofL b).size = b.length := by rw [size_toL]; rfl
          rw [hsz]
          have hm := mul_ev (lm (dgv 0 a)) (lm (10 ^ b.length)) (lm_ok _).U (lm_ok _).U (by rw [lm_length, lm_length]; omega)
          rw [val_lm, val_lm] at hm
          have lm1 := len_mul (dgv 0 a) (10 ^ b.length)
          have hadd := nadd_ev (lm (dgv 0 a * 10 ^ b.length)) (lm (dgv 0 b)) (lm_ok _).U (lm_ok _).U (by rw [lm_length]; omega) (by rw [lm_length]; omega)
          rw [val_lm, val_lm] at hadd
          have la2 := len_add (dgv 0 a * 10 ^ b.length) (dgv 0 b)
          rw [hb]
          have hf := form_nat (dgv 0 a * 10 ^ b.length + dgv 0 b) (10 ^ b.length) (Nat.pos_iff_ne_zero.1 (Nat.pow_pos (by decide))) (by omega) (by omega)
          exact Ev.bind (ten_ev b.length (by omega)) (Ev.bind hm (Ev.bind hadd (Ev.bind hf (Ev.now _))))
        · rw [if_neg hb] at pb
          unfold rR
          rw [if_neg hb]
          exact Ev.bind pb (Ev.if_pos hb (Ev.now _))
      · rw [if_neg ha] at pa
        rw [if_pos ha]
        unfold rR
        rw [if_neg ha]
        exact Ev.bind pa (Ev.if_pos ha (Ev.now _))
    | none =>
      dsimp only
      refine Ev.if_neg (by decide) ?_
      have pa := nparse_ev s
      unfold pR at pa
      unfold rR
      by_cases ha : pE (toL s) = 0
      · rw [if_pos ha] at pa
        rw [if_pos ha]
        have la := pE_len ha
        have hf := form_nat (dgv 0 (toL s)) 1 (by decide) (by omega) (by rw [len_one]; decide)
        have e : mkRat (dgv 0 (toL s) : Int) 1 = ((dgv 0 (toL s) : Int) : Rat) := Rat.mkRat_self ((dgv 0 (toL s) : Int) : Rat)
        rw [e] at hf
        exact Ev.bind pa (Ev.if_neg (fun h => h rfl) (Ev.bind (ofN_ev 1 (by decide)) (Ev.bind hf (Ev.now _))))
      · rw [if_neg ha] at pa
        rw [if_neg ha]
        exact Ev.bind pa (Ev.if_pos ha (Ev.now _))
end Go.DI.Th
namespace Go.DI.Th
open Go Go.RowKit Go.DI

def sgQ (neg : Bool) (x : Rat) : Rat := if neg = true then -x else x
theorem Sz_sgQ (neg : Bool) (x : Rat) : Sz (sgQ neg x) = Sz x := by
  unfold sgQ
  split
  · exact Sz_neg x
  · rfl
/-- Is there a minus, and what stands behind it. -/
def unm (w : List UInt8) : Bool × List UInt8 := if isPre 45 w = true then (true, w.drop 1) else (false, w)
def prE (w : List UInt8) : Int := plE (unm w).2
def prV (w : List UInt8) : Rat := sgQ (unm w).1 (plV (unm w).2)
theorem plV_sz {w : List UInt8} (h : plE w = 0) : Sz (plV w) ≤ 20100 := by
  unfold plE at h
  unfold plV
  cases h1 : cutL 47 w with
  | some p =>
    obtain ⟨a, b⟩ := p
    rw [h1] at h
    dsimp only at h ⊢
    by_cases ha : pE a = 0
    · rw [if_neg (fun e => e ha)] at h
      by_cases hb : pE b = 0
      · rw [if_neg (fun e => e hb)] at h
        by_cases h0 : dgv 0 b = 0
        · rw [if_pos h0] at h; cases h
        · have := Sz_mk (dgv 0 a : Int) (dgv 0 b) h0
          rw [Int.natAbs_natCast] at this
          have la := pE_len ha
          have lb := pE_len hb
          omega
      · rw [if_pos hb] at h; exact absurd h hb
    · rw [if_pos ha] at h; exact absurd h ha
  | none =>
    rw [h1] at h
    dsimp only at h ⊢
    cases h2 : cutL 46 w with
    | some p =>
      obtain ⟨a, b⟩ := p
      rw [h2] at h
      dsimp only at h ⊢
      by_cases ha : pE a = 0
      · rw [if_neg (fun e => e ha)] at h
        have := Sz_mk ((dgv 0 a * 10 ^ b.length + dgv 0 b : Nat) : Int) (10 ^ b.length) (Nat.pos_iff_ne_zero.1 (Nat.pow_pos (by decide)))
        rw [Int.natAbs_natCast] at this
        have la := pE_len ha
        have lb := pE_len h
        have hbl := (pE_zero.1 h).2.2
        have lt := len_ten b.length
        have lm1 := len_mul (dgv 0 a) (10 ^ b.length)
        have la2 := len_add (dgv 0 a * 10 ^ b.length) (dgv 0 b)
        omega
      · rw [if_pos ha] at h; exact absurd h ha
    | none =>
      rw [h2] at h
      dsimp only at h ⊢
      rw [Sz_int, Int.natAbs_natCast]
      have la := pE_len h
      omega
theorem prV_sz {w : List UInt8} (h : prE w = 0) : Sz (prV w) ≤ 20100 := by
  unfold prV
  rw [Sz_sgQ]
  exact plV_sz h
theorem unm_drop {s : ByteArray} (h : isPre 45 (toL s) = true) : s.extract 1 s.size = ofL ((toL s).drop 1) ∧ 1 ≤ s.size := by
  cases hw : toL s with
  | nil => rw [hw] at h; cases h
  | cons c t =>
    have e : s.extract ([c] : List UInt8).length s.size = ofL t := ext_drop (a := [c]) (b := t) hw
    refine ⟨e, ?_⟩
    have := size_toL s
    rw [hw, List.length_cons] at this
    omega
theorem rparse_ev (s : ByteArray) (hs : s.size ≤ 1125899906842624) : Ev (fun k => ratio_Parse.f k s) (rR (prE (toL s)) (prV (toL s))) := by
  unfold ratio_Parse.f
  rw [prefix_ev]
  unfold prE prV unm
  by_cases hp : isPre 45 (toL s) = true
  · rw [if_pos hp, hp]
    obtain ⟨e1, e2⟩ := unm_drop hp
    rw [e1]
    have hsz : (ofL ((toL s).drop 1)).size ≤ 1125899906842624 := by
      rw [size_toL, toL_ofL, List.length_drop, ← size_toL]
      omega
    have h1 := plain_ev (ofL ((toL s).drop 1)) hsz
    rw [toL_ofL] at h1
    refine Ev.bind (Ev.now true) (Ev.if_pos rfl (Ev.if_pos (by omega) (Ev.bind h1 ?_)))
    dsimp only
    have hsz := plV_sz (w := (toL s).drop 1)
    generalize plE ((toL s).drop 1) = e at hsz ⊢
    generalize plV ((toL s).drop 1) = x at hsz ⊢
    unfold rR
    by_cases h0 : e = 0
    · rw [if_pos h0, if_pos h0]
      have hn := neg_cn (cn x) (cnB x (hsz h0)) (by decide)
      rw [rv_cn] at hn
      exact Ev.if_neg (fun h => h rfl) (Ev.bind hn (Ev.now _))
    · rw [if_neg h0, if_neg h0]
      exact Ev.if_pos h0 (Ev.now _)
  · rw [if_neg hp]
    have hp' : isPre 45 (toL s) = false := by simpa using hp
    rw [hp']
    refine Ev.bind (Ev.now false) (Ev.if_neg (by decide) (Ev.bind (plain_ev s hs) ?_))
    dsimp only
    generalize plE (toL s) = e
    generalize plV (toL s) = x
    unfold rR
    by_cases h0 : e = 0
    · rw [if_pos h0, if_pos h0]
      exact Ev.if_neg (fun h => h rfl) (Ev.now _)
    · rw [if_neg h0, if_neg h0]
      exact Ev.if_pos h0 (Ev.now _)
end Go.DI.Th
namespace Go.DI.Th
open Go Go.RowKit Go.DI

/-! ### Digits -/
/-- The decimal digits of a number, the highest first, as bytes. -/
def dec (n : Nat) : List Int := if n < 10 then [48 + (n : Int)] else dec (n / 10) ++ [48 + ((n % 10 : Nat) : Int)]
/-- So many digits, zeros ahead. -/
def pad : Nat → Nat → List Int
  | 0, _ => []
  | w + 1, n => pad w (n / 10) ++ [48 + ((n % 10 : Nat) : Int)]
theorem pad_length : ∀ w n, (pad w n).length = w
  | 0, _ => rfl
  | w + 1, n => by rw [pad, List.length_append, pad_length w]; rfl
theorem pad_add (a : Nat) : ∀ b n, pad (a + b) n = pad a (n / 10 ^ b) ++ pad b n
  | 0, n => by rw [Nat.pow_zero, Nat.div_one]; exact (List.append_nil _).symm
  | b + 1, n => by
    rw [← Nat.add_assoc, pad, pad_add a b, pad, Nat.div_div_eq_div_mul, Nat.pow_succ, Nat.mul_comm 10, List.append_assoc]
theorem pad_mod : ∀ w n, pad w (n % 10 ^ w) = pad w n
  | 0, _ => rfl
  | w + 1, n => by
    have h1 : n % 10 ^ (w + 1) / 10 = n / 10 % 10 ^ w := by
      rw [Nat.pow_succ, Nat.mul_comm, Nat.mod_mul_right_div_self]
    have h2 : n % 10 ^ (w + 1) % 10 = n % 10 := Nat.mod_mod_of_dvd n ⟨10 ^ w, by rw [Nat.pow_succ, Nat.mul_comm]⟩
    rw [pad, pad, h1, h2, pad_mod w]
theorem dec_small {n : Nat} (h : n < 10) : dec n = [48 + (n : Int)] := by rw [dec, if_pos h]
theorem dec_big {n : Nat} (h : ¬ n < 10) : dec n = dec (n / 10) ++ [48 + ((n % 10 : Nat) : Int)] := by rw [dec, if_neg h]
theorem pad_zero : ∀ w, pad w 0 = List.replicate w 48
  | 0 => rfl
  | w + 1 => by
    rw [pad, Nat.zero_div, pad_zero w, List.replicate_succ']
    rfl
theorem pad_dec : ∀ w n, n ≠ 0 → n < 10 ^ w → ∃ z, pad w n = List.replicate z 48 ++ dec n
  | 0, n, h0, h => by rw [Nat.pow_zero] at h; omega
  | w + 1, n, h0, h => by
    rw [pad]
    by_cases h1 : n < 10
    · refine ⟨w, ?_⟩
      rw [Nat.div_eq_of_lt h1, pad_zero, dec_small h1, Nat.mod_eq_of_lt h1]
    · rw [Nat.pow_succ] at h
      obtain ⟨z, hz⟩ := pad_dec w (n / 10) (by omega) (by rw [Nat.div_lt_iff_lt_mul (by decide)]; exact h)
      exact ⟨z, by rw [hz, dec_big h1, List.append_assoc]⟩
theorem pad_byte : ∀ w n, ∀ x ∈ pad w n, 48 ≤ x ∧ x ≤ 57
  | 0, _, x, h => by cases h
  | w + 1, n, x, h => by
    rw [pad, List.mem_append] at h
    rcases h with h | h
    · exact pad_byte w _ x h
    · rw [List.mem_singleton] at h
      subst h
      have := Nat.mod_lt n (show 0 < 10 by decide)
      omega
theorem dec_byte (n : Nat) : ∀ x ∈ dec n, 48 ≤ x ∧ x ≤ 57 := by
  induction n using Nat.strongRecOn with
  | ind n ih =>
    intro x h
    by_cases h1 : n < 10
    · rw [dec_small h1, List.mem_singleton] at h
      subst h
      omega
    · rw [dec_big h1, List.mem_append] at h
      rcases h with h | h
      · exact ih (n / 10) (by omega) x h
      · rw [List.mem_singleton] at h
        subst h
        have := Nat.mod_lt n (show 0 < 10 by decide)
        omega
/-- The first digit is not 0. -/
theorem dec_head (n : Nat) (h0 : n ≠ 0) : ∃ x r, dec n = x :: r ∧ x ≠ 48 := by
  induction n using Nat.strongRecOn with
  | ind n ih =>
    by_cases h1 : n < 10
    · exact ⟨_, _, dec_small h1, by omega⟩
    · obtain ⟨x, r, e, hx⟩ := ih (n / 10) (by omega) (by omega)
      exact ⟨x, r ++ [48 + ((n % 10 : Nat) : Int)], by rw [dec_big h1, e]; rfl, hx⟩
theorem bl_tenth (n d : Nat) (h0 : n ≠ 0) (hd : 2 ≤ d) : bl (n / d) + 1 ≤ bl n := by
  have hb : 1 ≤ bl n := by unfold bl; rw [if_neg h0]; omega
  by_cases hz : n / d = 0
  · rw [hz]; exact hb
  · have h1 := bl_le hz
    have h2 := bl_lt n
    have h3 : n / d * 2 ≤ n := Nat.le_trans (Nat.mul_le_mul_left _ hd) (Nat.div_mul_le_self n d)
    have hb2 : 1 ≤ bl (n / d) := by unfold bl; rw [if_neg hz]; omega
    have h4 : 2 ^ bl (n / d) ≤ n := by
      have e : 2 ^ bl (n / d) = 2 ^ (bl (n / d) - 1) * 2 := by rw [← Nat.pow_succ]; congr 1; omega
      rw [e]
      exact Nat.le_trans (Nat.mul_le_mul_right _ h1) h3
    apply Classical.byContradiction
    intro hc
    have := Nat.pow_le_pow_right (n := 2) (by decide) (show bl n ≤ bl (n / d) by omega)
    omega
theorem dec_length (n : Nat) : (dec n).length ≤ bl n + 1 := by
  induction n using Nat.strongRecOn with
  | ind n ih =>
    by_cases h1 : n < 10
    · rw [dec_small h1, List.length_singleton]; omega
    · have := ih (n / 10) (by omega)
      have := bl_tenth n 10 (by omega) (by decide)
      rw [dec_big h1, List.length_append, List.length_singleton]
      omega
theorem bl_len (n : Nat) : bl n ≤ 32 * len n := by
  by_cases h0 : n = 0
  · subst h0; exact Nat.zero_le _
  · have h1 := lt_pow_len n
    rw [show (4294967296 : Nat) = 2 ^ 32 from rfl, ← Nat.pow_mul] at h1
    have h2 := bl_le h0
    apply Classical.byContradiction
    intro hc
    have := Nat.pow_le_pow_right (n := 2) (by decide) (show 32 * len n ≤ bl n - 1 by omega)
    omega
theorem lt_ten_pow (n m : Nat) (h : n / 10 ^ m = 0) : n < 10 ^ m := by
  have hp : 0 < 10 ^ m := Nat.pow_pos (by decide)
  apply Classical.byContradiction
  intro hc
  have := (Nat.le_div_iff_mul_le hp (x := 1) (y := n)).2 (by omega)
  omega

/-! ### nine -/
theorem nine_loop (n0 : Nat) (h : n0 < 18446744073709551616) : ∀ (i n : Nat) (done : List Int), n < 18446744073709551616 → i + done.length = 9 → pad 9 n0 = pad i n ++ done →
    Ev (fun k => nat_nine.l0 k (n : Int) (List.replicate i 0 ++ done) ((i : Int) - 1)) (pad 9 n0) := by
  intro i
  induction i with
  | zero =>
    intro n done hn hl hp
    refine Ev.step (fun k => ?_) (Ev.now _)
    rw [nat_nine.l0, if_neg (by omega), hp]
    rfl
  | succ i ih =>
    intro n done hn hl hp
    rw [show pad (i + 1) n = pad i (n / 10) ++ [48 + ((n % 10 : Nat) : Int)] from rfl, List.append_assoc] at hp
    have e1 : (((i + 1 : Nat) : Int) - 1).toNat = i := by omega
    have c1 : (((i + 1 : Nat) : Int) - 1) ≥ 0 := by omega
    have c2 : (((i + 1 : Nat) : Int) - 1) < ((List.replicate (i + 1) (0 : Int) ++ done).length : Int) := by
      rw [List.length_append, List.length_replicate]; omega
    have e2 : Int.tdiv (n : Int) 10 = ((n / 10 : Nat) : Int) := rfl
    have e3 : Int.tmod (n : Int) 10 = ((n % 10 : Nat) : Int) := rfl
    have hm := Nat.mod_lt n (show 0 < 10 by decide)
    have e4 : IntKind.u8.wrap (IntKind.u64.wrap (48 + ((n % 10 : Nat) : Int))) = 48 + ((n % 10 : Nat) : Int) := by
      generalize n % 10 = d at hm ⊢
      rw [w64, IntKind.wrap_u8]; omega
    have e5 : IntKind.u64.wrap ((n / 10 : Nat) : Int) = ((n / 10 : Nat) : Int) := by
      clear e4
      rw [w64]; omega
    have e6 : wrap64 ((((i + 1 : Nat) : Int) - 1) - 1) = (i : Int) - 1 := by
      clear e4 e5
      rw [wrap_id (by omega) (by omega)]; omega
    refine Ev.step (fun k => ?_) (ih (n / 10) ((48 + ((n % 10 : Nat) : Int)) :: done) (by clear e4 e5 e6; omega) (by rw [List.length_cons]; omega) hp)
    rw [nat_nine.l0, if_pos c1, if_pos c2, e1, e2, e3, e4, e5, e6, fillr]
theorem nine_ev (n : Nat) (h : n < 18446744073709551616) : Ev (fun k => nat_nine.f k (n : Int)) (pad 9 n) := by
  have h1 := nine_loop n h 9 n [] h rfl (by rw [List.append_nil])
  rw [List.append_nil] at h1
  exact h1

/-! ### Print -/
def p9 (i : Nat) : Nat := 10 ^ (9 * i)
theorem p9_succ (i : Nat) : p9 (i + 1) = p9 i * 1000000000 := by
  unfold p9
  rw [Nat.mul_add, Nat.pow_add]
/-- The first parts of nine digits each, the lowest first. -/
def parts (n : Nat) : Nat → List Int
  | 0 => []
  | i + 1 => parts n i ++ [((n / p9 i % 1000000000 : Nat) : Int)]
theorem parts_length (n : Nat) : ∀ i, (parts n i).length = i
  | 0 => rfl
  | i + 1 => by rw [parts, List.length_append, parts_length n i]; rfl
theorem parts_rd (n : Nat) : ∀ m i, i < m → rd (parts n m) (i : Int) = ((n / p9 i % 1000000000 : Nat) : Int)
  | 0, i, h => by omega
  | m + 1, i, h => by
    rw [parts]
    by_cases hi : i = m
    · subst hi
      have := rd_at (parts n i) (((n / p9 i % 1000000000 : Nat) : Int)) []
      rwa [parts_length] at this
    · have ih := parts_rd n m i (by omega)
      rw [rd_nat] at ih ⊢
      rw [List.getD_eq_getElem?_getD, List.getElem?_append_left (by rw [parts_length]; omega), ← List.getD_eq_getElem?_getD]
      exact ih
theorem bytesOk_of {l : List Int} (h : ∀ x ∈ l, 48 ≤ x ∧ x ≤ 57) : bytesOk l = true := by
  unfold bytesOk
  rw [List.all_eq_true]
  intro x hx
  have := h x hx
  simp only [Bool.and_eq_true, decide_eq_true_eq]
  omega
/-- Zeros ahead are dropped. -/
theorem print_l2 (r : List Int) (x : Int) (hx : x ≠ 48) (hb : ∀ y ∈ x :: r, 48 ≤ y ∧ y ≤ 57) (z : Nat) (hz : z + r.length ≤ 1125899906842624) : ∀ d i : Nat, i + d = z →
    Ev (fun k => nat_Print.l2 k (List.replicate z 48 ++ x :: r) (i : Int)) (ofBytes (x :: r)) := by
  have hl : (List.replicate z (48 : Int) ++ x :: r).length = z + r.length + 1 := by rw [List.length_append, List.length_replicate, List.length_cons]; omega
  intro d
  induction d with
  | zero =>
    intro i hi
    obtain rfl : i = z := by omega
    have hr : rd (List.replicate i 48 ++ x :: r) (i : Int) = x := by
      have := rd_at (List.replicate i 48) x r
      rwa [List.length_replicate] at this
    have hd : (List.replicate i (48 : Int) ++ x :: r).drop i = x :: r := by
      rw [List.drop_append_of_le_length (by rw [List.length_replicate]; exact Nat.le_refl _), List.drop_of_length_le (by rw [List.length_replicate]; exact Nat.le_refl _), List.nil_append]
    refine Ev.step (fun k => ?_) (Ev.now _)
    rw [nat_Print.l2, if_pos (Int.natCast_nonneg _), if_pos (by rw [hl]; omega), hr, if_neg hx, Int.toNat_natCast, hd, if_pos (bytesOk_of hb)]
  | succ d ih =>
    intro i hi
    have hr : rd (List.replicate z 48 ++ x :: r) (i : Int) = 48 := by
      rw [rd_nat, List.getD_eq_getElem?_getD, List.getElem?_append_left (by rw [List.length_replicate]; omega), List.getElem?_replicate, if_pos (by omega)]
      rfl
    refine Ev.step (fun k => ?_) (ih (i + 1) (by omega))
    rw [nat_Print.l2, if_pos (Int.natCast_nonneg _), if_pos (by rw [hl]; clear hr; omega), if_pos hr, wr_succ i (by omega)]
theorem print_l1 (n m : Nat) (hm : m ≤ 1099511627776) (R : ByteArray) (hend : Ev (fun k => nat_Print.l2 k (pad (9 * m) n) 0) R) : ∀ i : Nat, i ≤ m →
    Ev (fun k => nat_Print.l1 k (parts n m) (pad (9 * (m - i)) (n / p9 i)) ((i : Int) - 1)) R := by
  intro i
  induction i with
  | zero =>
    intro _
    refine Ev.step (fun k => ?_) hend
    rw [nat_Print.l1, if_neg (by omega), Nat.sub_zero, show p9 0 = 1 from rfl, Nat.div_one]
  | succ i ih =>
    intro hi
    have e0 : (((i + 1 : Nat) : Int) - 1) = (i : Int) := by omega
    have hp := parts_rd n m i (by omega)
    have hlt := Nat.mod_lt (n / p9 i) (show 0 < 1000000000 by decide)
    have e9 := nine_ev (n / p9 i % 1000000000) (by omega)
    have hpad : pad (9 * (m - (i + 1))) (n / p9 (i + 1)) ++ pad 9 (n / p9 i % 1000000000) = pad (9 * (m - i)) (n / p9 i) := by
      have h1 := pad_mod 9 (n / p9 i)
      have h2 := pad_add (9 * (m - (i + 1))) 9 (n / p9 i)
      rw [show (10 : Nat) ^ 9 = 1000000000 from rfl] at h1 h2
      rw [h1, p9_succ, ← Nat.div_div_eq_div_mul, ← h2]
      congr 1
      omega
    have hw : wrap64 ((i : Int) - 1) = (i : Int) - 1 := wrap_id (by omega) (by omega)
    refine Ev.step (f := fun k => (nat_nine.f k (((n / p9 i % 1000000000 : Nat) : Int))).bind fun v7 => if (pad (9 * (m - (i + 1))) (n / p9 (i + 1))).length + v7.length < 140737488355329 then nat_Print.l1 k (parts n m) (pad (9 * (m - (i + 1))) (n / p9 (i + 1)) ++ v7) ((i : Int) - 1) else none) (fun k => ?_) (Ev.bind e9 ?_)
    · rw [nat_Print.l1, e0, if_pos (by exact Int.natCast_nonneg _), if_pos (by rw [parts_length]; exact Int.ofNat_lt.2 (by omega)), hp, hw]
    · refine Ev.if_pos ?_ ?_
      · rw [pad_length, pad_length]; omega
      · rw [hpad]
        exact ih (by omega)
theorem print_l0 (n : Nat) (h0 : n ≠ 0) (hl : len n ≤ 17179869184) : ∀ (x i : Nat), x = n / p9 i → i + bl x ≤ 549755813888 →
    Ev (fun k => nat_Print.l0 k (lm x) (parts n i)) (ofBytes (dec n)) := by
  intro x
  induction x using Nat.strongRecOn with
  | ind x ih =>
    intro i hx hb
    by_cases hz : x = 0
    · have hlt : n < 10 ^ (9 * i) := lt_ten_pow n (9 * i) (by rw [← hz, hx]; rfl)
      obtain ⟨z, hpad⟩ := pad_dec (9 * i) n h0 hlt
      obtain ⟨y, r, hd, hy⟩ := dec_head n h0
      have hby := dec_byte n
      rw [hd] at hpad hby
      have hlen : z + (r.length + 1) = 9 * i := by
        have := congrArg List.length hpad
        rw [pad_length, List.length_append, List.length_replicate, List.length_cons] at this
        exact this.symm
      have hend := print_l2 r y hy hby z (by omega) z 0 (by omega)
      rw [← hpad, ← hd] at hend
      have h1 := print_l1 n i (by omega) (ofBytes (dec n)) hend i (Nat.le_refl _)
      rw [Nat.sub_self, Nat.mul_zero] at h1
      have hw : wrap64 ((i : Int) - 1) = (i : Int) - 1 := wrap_id (by omega) (by omega)
      refine Ev.step (fun k => ?_) h1
      rw [nat_Print.l0, hz, lm_zero, if_neg (by simp), parts_length, hw]
      rfl
    · have hbx := bl_tenth x 1000000000 hz (by decide)
      have hlx : len x ≤ 17179869184 := Nat.le_trans (len_mono (by rw [hx]; exact Nat.div_le_self _ _)) hl
      have es := small_ev (lm x) (lm_ok x) (by rw [lm_length]; omega) 1000000000 (by decide) (by decide)
      rw [val_lm] at es
      have hl0 : len x ≠ 0 := fun e => hz (len_eq_zero.1 e)
      refine Ev.step (f := fun k => (nat_small.f k (lm x) 1000000000).bind fun v5 => if (parts n i).length < 17592186044416 then nat_Print.l0 k v5.1 (parts n i ++ [v5.2]) else none) (fun k => ?_) (Ev.bind es ?_)
      · rw [nat_Print.l0, if_pos (by rw [lm_length]; omega)]
      · refine Ev.if_pos (by rw [parts_length]; omega) ?_
        have hn : x / 1000000000 = n / p9 (i + 1) := by rw [hx, p9_succ, Nat.div_div_eq_div_mul]
        have := ih (x / 1000000000) (by omega) (i + 1) hn (by omega)
        rw [parts, ← hx] at this
        exact this
theorem obs_size (xs : List Int) : (ofBytes xs).size = xs.length := by simp [ofBytes, ByteArray.size]
/-- A number's digits as a string. -/
def prN (n : Nat) : ByteArray := ofBytes (dec n)
theorem prN_size (n : Nat) : (prN n).size ≤ 32 * len n + 1 := by
  have h1 := dec_length n
  have h2 := bl_len n
  unfold prN
  rw [obs_size]
  omega
theorem print_ev (a : List Int) (ha : U a) (hl : a.length ≤ 17179869184) : Ev (fun k => nat_Print.f k a) (prN (val a)) := by
  have lv := val_len a
  refine Ev.bind (clean_ev a ha (by omega)) ?_
  generalize val a = n at lv ⊢
  by_cases h0 : n = 0
  · subst h0
    refine Ev.if_pos (by rw [lm_zero]; rfl) ((Ev.now _).of_eq ?_)
    decide +kernel
  · have hl0 : len n ≠ 0 := fun e => h0 (len_eq_zero.1 e)
    have hb := bl_len n
    refine Ev.if_neg (by rw [lm_length]; omega) ?_
    exact print_l0 n h0 (by omega) n 0 (by rw [show p9 0 = 1 from rfl, Nat.div_one]) (by omega)
end Go.DI.Th
namespace Go.DI.Th
open Go Go.RowKit Go.DI

theorem prN_small {n : Nat} (h : n < 18446744073709551616) : (prN n).size ≤ 65 := by
  have h1 := prN_size n
  have h2 := len_small h
  omega
def minus : ByteArray := ⟨#[45]⟩
def slash : ByteArray := ⟨#[47]⟩
def prW (z : Int) : ByteArray := if z < 0 then minus ++ prN z.natAbs else prN z.natAbs
theorem prW_size (z : Int) : (prW z).size ≤ 32 * len z.natAbs + 2 := by
  have := prN_size z.natAbs
  unfold prW
  split
  · rw [ByteArray.size_append]
    have : minus.size = 1 := rfl
    omega
  · omega
theorem wprint_ev (b : Bool) (l : List Int) (h : U l) (hn : l.length ≤ 17179869184) : Ev (fun k => whole_Print.f k b l) (prW (wv b l)) := by
  have lv := val_len l
  have ha := wv_abs b l
  refine Ev.bind (wclean_ev b l h (by omega)) ?_
  generalize wv b l = z at ha ⊢
  have hl : len z.natAbs ≤ 17179869184 := by rw [ha]; omega
  have hp := print_ev (lm z.natAbs) (lm_ok _).U (by rw [lm_length]; exact hl)
  rw [val_lm] at hp
  have hs := prN_size z.natAbs
  unfold wl prW
  dsimp only
  by_cases hz : z < 0
  · rw [if_pos hz]
    refine Ev.if_pos (decide_eq_true hz) (Ev.bind hp (Ev.if_pos ?_ (Ev.now _)))
    have : (⟨#[45]⟩ : ByteArray).size = 1 := rfl
    omega
  · rw [if_neg hz]
    exact Ev.if_neg (by simp [hz]) (Ev.bind hp (Ev.now _))
def prQ (z : Int) (q : Nat) : ByteArray := if q = 1 then prW z else prW z ++ slash ++ prN q
def prR (b : Bool) (n d : List Int) : ByteArray := prQ (wv (rl (num b n d) (den d)).1 (rl (num b n d) (den d)).2.1) (den d / Nat.gcd (num b n d).natAbs (den d))
theorem num_abs (b : Bool) (n d : List Int) : (num b n d).natAbs ≤ val n := by
  unfold num
  split
  · exact Nat.zero_le _
  · rw [wv_abs]; exact Nat.le_refl _
theorem prQ_size (z : Int) (q : Nat) : (prQ z q).size ≤ 32 * len z.natAbs + 32 * len q + 4 := by
  have h1 := prW_size z
  have h2 := prN_size q
  have h3 : slash.size = 1 := rfl
  unfold prQ
  split
  · omega
  · rw [ByteArray.size_append, ByteArray.size_append]; omega
theorem rl_len (b : Bool) (n d : List Int) : len ((num b n d).natAbs / Nat.gcd (num b n d).natAbs (den d)) ≤ n.length ∧ len (den d / Nat.gcd (num b n d).natAbs (den d)) ≤ d.length + 1 := by
  have lvn := val_len n
  have lvd := val_len d
  have hn := num_abs b n d
  have hd : den d ≤ max (val d) 1 := by unfold den; split <;> omega
  constructor
  · exact Nat.le_trans (len_mono (Nat.le_trans (Nat.div_le_self _ _) hn)) lvn
  · refine Nat.le_trans (len_mono (Nat.le_trans (Nat.div_le_self _ _) hd)) ?_
    have h1 : len (max (val d) 1) ≤ len (val d) + 1 := by
      rcases Nat.le_total (val d) 1 with h | h
      · rw [Nat.max_eq_right h]
        have : len 1 ≤ 1 := len_le (by decide)
        omega
      · rw [Nat.max_eq_left h]; omega
    omega
theorem prR_size (b : Bool) (n d : List Int) : (prR b n d).size ≤ 32 * n.length + 32 * (d.length + 1) + 4 := by
  have h := rl_len b n d
  have := prQ_size (wv (rl (num b n d) (den d)).1 (rl (num b n d) (den d)).2.1) (den d / Nat.gcd (num b n d).natAbs (den d))
  rw [wv_abs] at this
  have e : val (rl (num b n d) (den d)).2.1 = (num b n d).natAbs / Nat.gcd (num b n d).natAbs (den d) := val_lm _
  rw [e] at this
  unfold prR
  omega
theorem rprint_ev (b : Bool) (n d : List Int) (hn : U n) (hd : U d) (hln : n.length ≤ 8589934592) (hld : d.length ≤ 8589934592) : Ev (fun k => ratio_Print.f k b n d) (prR b n d) := by
  have hlen := rl_len b n d
  refine Ev.bind (rclean_ev b n d hn hd (by omega) (by omega)) ?_
  have e1 : (rl (num b n d) (den d)).2.1 = lm ((num b n d).natAbs / Nat.gcd (num b n d).natAbs (den d)) := rfl
  have e2 : (rl (num b n d) (den d)).2.2 = lm (den d / Nat.gcd (num b n d).natAbs (den d)) := rfl
  unfold prR
  generalize hq : den d / Nat.gcd (num b n d).natAbs (den d) = q at hlen e2 ⊢
  generalize (num b n d).natAbs / Nat.gcd (num b n d).natAbs (den d) = p at hlen e1 ⊢
  generalize rl (num b n d) (den d) = x at e1 e2 ⊢
  obtain ⟨s, l1, l2⟩ := x
  dsimp only at e1 e2 ⊢
  subst e1 e2
  have hw := wprint_ev s (lm p) (lm_ok p).U (by rw [lm_length]; omega)
  have hc := cmp_ev (lm q) (lm 1) (lm_ok q).U (lm_ok 1).U (by rw [lm_length]; omega) (by rw [lm_length]; have : len 1 ≤ 1 := len_le (by decide); omega)
  rw [val_lm, val_lm] at hc
  have hs := prW_size (wv s (lm p))
  rw [wv_abs, val_lm] at hs
  have hs2 := prN_size q
  refine Ev.bind hw (Ev.bind (ofN_ev 1 (by decide)) (Ev.bind hc ?_))
  unfold prQ
  by_cases h1 : q = 1
  · subst h1
    rw [if_pos rfl]
    exact Ev.if_pos (by unfold cmp; rw [if_neg (by omega), if_neg (by omega)]) (Ev.now _)
  · rw [if_neg h1]
    have hp := print_ev (lm q) (lm_ok q).U (by rw [lm_length]; omega)
    rw [val_lm] at hp
    refine Ev.if_neg (by unfold cmp; split <;> (try split) <;> omega) (Ev.if_pos ?_ (Ev.bind hp (Ev.if_pos ?_ (Ev.now _))))
    · have : (⟨#[47]⟩ : ByteArray).size = 1 := rfl
      omega
    · rw [ByteArray.size_append]
      have : (⟨#[47]⟩ : ByteArray).size = 1 := rfl
      omega
theorem digits_prR (n : Nat) : prR false (lm n) (lm 1) = prN n := by
  have h1 : val (lm 1) = 1 := val_lm 1
  have h2 : den (lm 1) = 1 := by unfold den; rw [h1, if_neg (by decide)]
  have h3 : num false (lm n) (lm 1) = (n : Int) := by unfold num wv; rw [h1, if_neg (by decide), if_neg (by simp), val_lm]
  unfold prR
  rw [h2, h3, Int.natAbs_natCast, Nat.gcd_one_right]
  unfold rl prQ
  rw [Int.natAbs_natCast, Nat.gcd_one_right, Nat.div_one, Nat.div_one, if_pos rfl]
  have e : wv (decide ((n : Int) < 0)) (lm n) = (n : Int) := by
    rw [decide_eq_false (show ¬ ((n : Int) < 0) by omega)]
    unfold wv
    rw [if_neg (by simp), val_lm]
  rw [e]
  unfold prW
  rw [if_neg (show ¬ ((n : Int) < 0) by omega), Int.natAbs_natCast]
end Go.DI.Th
namespace Go.DI.Th
open Go Go.RowKit Go.DI

def prT (r : Rt) : ByteArray := prR r.1 r.2.1 r.2.2
theorem prT_ev (r : Rt) (h : RtOk r) : Ev (fun k => ratio_Print.f k r.1 r.2.1 r.2.2) (prT r) := rprint_ev r.1 r.2.1 r.2.2 h.1 h.2.1 (by have := h.2.2.1; omega) (by have := h.2.2.2; omega)
theorem ofprint_ev (n : Nat) (h : n ≤ 9223372036854775807) : Ev (fun k => (ratio_Of.f k (n : Int)).bind fun v2 => ((ratio_Print.f k v2.1 v2.2.1 v2.2.2).bind fun v3 => (some v3))) (prN n) := by
  have h1 := rof_ev (n : Int) (by omega) (by omega)
  rw [wl_nat] at h1
  have hl : len n ≤ 2 := len_small (by omega)
  have h2 := rprint_ev false (lm n) (lm 1) (lm_ok n).U (lm_ok 1).U (by rw [lm_length]; omega) (by rw [lm_length]; have := len_small (show 1 < 18446744073709551616 by decide); omega)
  rw [digits_prR] at h2
  exact Ev.bind h1 (Ev.bind h2 (Ev.now _))
end Go.DI.Th
namespace Go.DI.Th
open Go Go.RowKit Go.DI

theorem span_inj {α : Type} (P : α → Prop) : ∀ (a b : List α) (x y : α) (r s : List α), (∀ c ∈ a, P c) → (∀ c ∈ b, P c) → ¬ P x → ¬ P y → a ++ x :: r = b ++ y :: s → a = b ∧ x = y ∧ r = s
  | [], [], x, y, r, s, _, _, _, _, h => by simpa using h
  | [], c :: b, x, y, r, s, _, hb, hx, _, h => by
    injection h with h1 h2
    exact absurd (h1 ▸ hb c List.mem_cons_self) hx
  | c :: a, [], x, y, r, s, ha, _, _, hy, h => by
    injection h with h1 h2
    exact absurd (h1 ▸ ha c List.mem_cons_self) hy
  | c :: a, d :: b, x, y, r, s, ha, hb, hx, hy, h => by
    injection h with h1 h2
    have := span_inj P a b x y r s (fun e he => ha e (List.mem_cons_of_mem _ he)) (fun e he => hb e (List.mem_cons_of_mem _ he)) hx hy h2
    exact ⟨by rw [h1, this.1], this.2⟩
def Dig (c : UInt8) : Prop := 48 ≤ c.toNat ∧ c.toNat ≤ 57
def Wd (c : UInt8) : Prop := c ≠ 32 ∧ c ≠ 10
theorem Dig.wd {c : UInt8} (h : Dig c) : Wd c := ⟨fun e => by subst e; exact absurd h.1 (by decide), fun e => by subst e; exact absurd h.1 (by decide)⟩
theorem Dig.n47 {c : UInt8} (h : Dig c) : c ≠ 47 := fun e => by subst e; exact absurd h.1 (by decide)
theorem Dig.n45 {c : UInt8} (h : Dig c) : c ≠ 45 := fun e => by subst e; exact absurd h.1 (by decide)
theorem toL_ofBytes (l : List Int) : toL (ofBytes l) = l.map fun n => UInt8.ofNat n.toNat := by unfold toL ofBytes; rfl
theorem prN_dig (n : Nat) : ∀ c ∈ toL (prN n), Dig c := by
  intro c hc
  unfold prN at hc
  rw [toL_ofBytes, List.mem_map] at hc
  obtain ⟨x, hx, e⟩ := hc
  have := dec_byte n x hx
  subst e
  unfold Dig
  rw [UInt8.toNat_ofNat', Nat.mod_eq_of_lt (by omega)]
  omega
def vb (l : List UInt8) : Nat := l.foldl (fun a c => 10 * a + (c.toNat - 48)) 0
theorem vb_prN (n : Nat) : vb (toL (prN n)) = n := by
  unfold prN
  rw [toL_ofBytes]
  induction n using Nat.strongRecOn with
  | ind n ih =>
    by_cases h : n < 10
    · rw [dec_small h]
      show 10 * 0 + ((UInt8.ofNat (48 + (n : Int)).toNat).toNat - 48) = n
      rw [UInt8.toNat_ofNat', Nat.mod_eq_of_lt (by omega)]
      omega
    · rw [dec_big h, List.map_append]
      unfold vb at ih ⊢
      rw [List.foldl_append, ih (n / 10) (by omega)]
      show 10 * (n / 10) + ((UInt8.ofNat (48 + ((n % 10 : Nat) : Int)).toNat).toNat - 48) = n
      have hm : n % 10 < 10 := Nat.mod_lt _ (by decide)
      have hd := Nat.div_add_mod n 10
      generalize n % 10 = m at hm hd ⊢
      rw [UInt8.toNat_ofNat', Nat.mod_eq_of_lt (by omega)]
      omega
theorem prN_inj {n m : Nat} (h : prN n = prN m) : n = m := by rw [← vb_prN n, h, vb_prN]
theorem toL_minus : toL minus = [45] := rfl
theorem toL_slash : toL slash = [47] := rfl
theorem prN_ne (n : Nat) : toL (prN n) ≠ [] := by
  unfold prN
  rw [toL_ofBytes]
  by_cases h : n < 10
  · rw [dec_small h]; simp
  · rw [dec_big h]; simp
theorem prW_chars (z : Int) : ∀ c ∈ toL (prW z), Dig c ∨ c = 45 := by
  intro c hc
  unfold prW at hc
  split at hc
  · rw [toL_append, toL_minus] at hc
    rcases List.mem_append.1 hc with h | h
    · right; simpa using h
    · left; exact prN_dig _ c h
  · left; exact prN_dig _ c hc
theorem prW_inj {z w : Int} (h : prW z = prW w) : z = w := by
  have key : ∀ n m : Nat, ¬ (minus ++ prN n = prN m) := fun n m e => by
    have e2 := congrArg toL e
    rw [toL_append, toL_minus] at e2
    have := prN_dig m 45 (by rw [← e2]; simp)
    exact absurd rfl this.n45
  unfold prW at h
  split at h <;> split at h
  · have h2 := congrArg toL h
    rw [toL_append, toL_append] at h2
    have := prN_inj (toL_inj (List.append_cancel_left h2))
    omega
  · exact absurd h (key _ _)
  · exact absurd h.symm (key _ _)
  · have := prN_inj h
    omega
theorem prW_n47 (z : Int) : ∀ c ∈ toL (prW z), c ≠ 47 := by
  intro c hc
  rcases prW_chars z c hc with h | h
  · exact h.n47
  · rw [h]; decide
theorem prW_wd (z : Int) : ∀ c ∈ toL (prW z), Wd c := by
  intro c hc
  rcases prW_chars z c hc with h | h
  · exact h.wd
  · rw [h]; exact ⟨by decide, by decide⟩
theorem prQ_wd (z : Int) (q : Nat) : ∀ c ∈ toL (prQ z q), Wd c := by
  intro c hc
  unfold prQ at hc
  split at hc
  · exact prW_wd z c hc
  · rw [toL_append, toL_append, toL_slash] at hc
    rcases List.mem_append.1 hc with h | h
    · rcases List.mem_append.1 h with h | h
      · exact prW_wd z c h
      · have : c = 47 := by simpa using h
        rw [this]; exact ⟨by decide, by decide⟩
    · exact (prN_dig q c h).wd
theorem prQ_inj {z w : Int} {q p : Nat} (h : prQ z q = prQ w p) : z = w ∧ q = p := by
  have key : ∀ (z w : Int) (p : Nat), ¬ (prW z = prW w ++ slash ++ prN p) := fun z w p e => by
    have e2 := congrArg toL e
    rw [toL_append, toL_append, toL_slash] at e2
    exact absurd rfl (prW_n47 z 47 (by rw [e2]; simp))
  unfold prQ at h
  split at h <;> split at h
  · rename_i h1 h2
    exact ⟨prW_inj h, by rw [h1, h2]⟩
  · exact absurd h (key _ _ _)
  · exact absurd h.symm (key _ _ _)
  · have h2 := congrArg toL h
    rw [toL_append, toL_append, toL_append, toL_append, toL_slash, List.append_assoc, List.append_assoc] at h2
    have h3 := span_inj (fun c => c ≠ 47) _ _ _ _ _ _ (prW_n47 z) (prW_n47 w) (by simp) (by simp) h2
    exact ⟨prW_inj (toL_inj h3.1), prN_inj (toL_inj h3.2.2)⟩
/-! ### fractions in their form -/
theorem wv_rl (z : Int) (q : Nat) : wv (rl z q).1 (rl z q).2.1 = rnum z q := by
  unfold rl wv rnum
  simp only [val_lm, decide_eq_true_eq]
theorem prT_eq (r : Rt) : prT r = prQ (rnum (num r.1 r.2.1 r.2.2) (den r.2.2)) (rden (num r.1 r.2.1 r.2.2) (den r.2.2)) := by
  unfold prT prR
  rw [wv_rl]
  rfl
theorem frac_nat (a q b p : Nat) (hq : q ≠ 0) (hp : p ≠ 0) : (a / Nat.gcd a q = b / Nat.gcd b p ∧ q / Nat.gcd a q = p / Nat.gcd b p) ↔ a * p = b * q := by
  have hg := gcd_pos_right a q hq
  have hh := gcd_pos_right b p hp
  have c1 := Nat.coprime_div_gcd_div_gcd hg
  have c2 := Nat.coprime_div_gcd_div_gcd hh
  have e1 := Nat.div_mul_cancel (Nat.gcd_dvd_left a q)
  have e2 := Nat.div_mul_cancel (Nat.gcd_dvd_right a q)
  have e3 := Nat.div_mul_cancel (Nat.gcd_dvd_left b p)
  have e4 := Nat.div_mul_cancel (Nat.gcd_dvd_right b p)
  generalize Nat.gcd a q = g at *
  generalize Nat.gcd b p = h at *
  generalize a / g = a' at *
  generalize q / g = q' at *
  generalize b / h = b' at *
  generalize p / h = p' at *
  have ht : a * p = b * q ↔ a' * p' = b' * q' := by
    rw [← e1, ← e2, ← e3, ← e4]
    have x1 : a' * g * (p' * h) = (g * h) * (a' * p') := by grind
    have x2 : b' * h * (q' * g) = (g * h) * (b' * q') := by grind
    rw [x1, x2]
    exact ⟨fun e => Nat.eq_of_mul_eq_mul_left (Nat.mul_pos hg hh) e, fun e => by rw [e]⟩
  rw [ht]
  constructor
  · intro ⟨h1, h2⟩
    rw [h1, h2]
  · intro e
    have d1 : q' ∣ p' := c1.symm.dvd_of_dvd_mul_left (by rw [e]; exact Nat.dvd_mul_left _ _)
    have d2 : p' ∣ q' := c2.symm.dvd_of_dvd_mul_left (by rw [← e]; exact Nat.dvd_mul_left _ _)
    have hqp := Nat.dvd_antisymm d1 d2
    have hq0 : 0 < q' := by
      rcases Nat.eq_zero_or_pos q' with h0 | h0
      · rw [h0, Nat.zero_mul] at e2; omega
      · exact h0
    rw [← hqp] at e
    exact ⟨Nat.eq_of_mul_eq_mul_right hq0 e, hqp⟩
theorem mul_neg_pos (z : Int) (p : Nat) (hp : p ≠ 0) : z * p < 0 ↔ z < 0 := by
  constructor
  · intro h
    rcases Int.lt_or_le z 0 with h0 | h0
    · exact h0
    · have := Int.mul_nonneg h0 (Int.natCast_nonneg p)
      omega
  · intro h
    exact Int.mul_neg_of_neg_of_pos h (by omega)
theorem frac_int (z w : Int) (q p : Nat) (hq : q ≠ 0) (hp : p ≠ 0) : (rnum z q = rnum w p ∧ rden z q = rden w p) ↔ z * p = w * q := by
  have hn := frac_nat z.natAbs q w.natAbs p hq hp
  have s1 := rnum_neg z q hq
  have s2 := rnum_neg w p hp
  have a1 := rnum_abs z q
  have a2 := rnum_abs w p
  have hz : z * p = w * q ↔ (z < 0 ↔ w < 0) ∧ z.natAbs * p = w.natAbs * q := by
    have m1 : (z * p).natAbs = z.natAbs * p := by rw [Int.natAbs_mul, Int.natAbs_natCast]
    have m2 : (w * q).natAbs = w.natAbs * q := by rw [Int.natAbs_mul, Int.natAbs_natCast]
    have n1 : z * p < 0 ↔ z < 0 := mul_neg_pos z p hp
    have n2 : w * q < 0 ↔ w < 0 := mul_neg_pos w q hq
    rw [← m1, ← m2, ← n1, ← n2]
    generalize z * (p : Int) = s
    generalize w * (q : Int) = t
    omega
  rw [hz, ← hn]
  unfold rden
  rw [← a1, ← a2, ← s1, ← s2]
  generalize rnum z q = s
  generalize rnum w p = t
  constructor
  · intro ⟨h1, h2⟩; subst h1; exact ⟨Iff.rfl, rfl, h2⟩
  · intro ⟨h1, h2, h3⟩; exact ⟨by omega, h3⟩
theorem prT_iff (r s : Rt) : prT r = prT s ↔ num r.1 r.2.1 r.2.2 * den s.2.2 = num s.1 s.2.1 s.2.2 * den r.2.2 := by
  rw [prT_eq, prT_eq, ← frac_int _ _ _ _ (den_pos _) (den_pos _)]
  exact ⟨prQ_inj, fun h => by rw [h.1, h.2]⟩
/-! ### texts -/
def Sep (u : List UInt8) : Prop := ∃ c t, u = c :: t ∧ ¬ Wd c
theorem sep_sp (u : List UInt8) : Sep (32 :: u) := ⟨32, u, rfl, fun h => h.1 rfl⟩
theorem sep_nl (u : List UInt8) : Sep (10 :: u) := ⟨10, u, rfl, fun h => h.2 rfl⟩
theorem tok_inj {a b : ByteArray} {u v : List UInt8} (ha : ∀ c ∈ toL a, Wd c) (hb : ∀ c ∈ toL b, Wd c) (hu : Sep u) (hv : Sep v) (h : toL a ++ u = toL b ++ v) : a = b ∧ u = v := by
  obtain ⟨c, t, rfl, hc⟩ := hu
  obtain ⟨d, s, rfl, hd⟩ := hv
  have h3 := span_inj Wd _ _ _ _ _ _ ha hb hc hd h
  exact ⟨toL_inj h3.1, by rw [h3.2.1, h3.2.2]⟩
theorem tok_sp {a b : ByteArray} {u v : List UInt8} (ha : ∀ c ∈ toL a, Wd c) (hb : ∀ c ∈ toL b, Wd c) (h : toL a ++ (toL ⟨#[32]⟩ ++ u) = toL b ++ (toL ⟨#[32]⟩ ++ v)) : a = b ∧ u = v := by
  have h1 := tok_inj ha hb (sep_sp u) (sep_sp v) h
  have h2 := h1.2
  injection h2 with _ h3
  exact ⟨h1.1, h3⟩
theorem tok_nl {a b : ByteArray} {u v : List UInt8} (ha : ∀ c ∈ toL a, Wd c) (hb : ∀ c ∈ toL b, Wd c) (h : toL a ++ (toL ⟨#[10]⟩ ++ u) = toL b ++ (toL ⟨#[10]⟩ ++ v)) : a = b ∧ u = v := by
  have h1 := tok_inj ha hb (sep_nl u) (sep_nl v) h
  have h2 := h1.2
  injection h2 with _ h3
  exact ⟨h1.1, h3⟩
theorem prN_wd (n : Nat) : ∀ c ∈ toL (prN n), Wd c := fun c hc => (prN_dig n c hc).wd
theorem prT_wd (r : Rt) : ∀ c ∈ toL (prT r), Wd c := by rw [prT_eq]; exact prQ_wd _ _
end Go.DI.Th
namespace Go.DI.Th.D
open Go Go.RowKit Go.DI Go.DI.Th

def rp (w n : Nat) : List Int := (pad w n).reverse
theorem rp_length (w n : Nat) : (rp w n).length = w := by unfold rp; rw [List.length_reverse, pad_length]
theorem rp_succ (w n : Nat) : rp (w + 1) n = rp w n ++ [48 + ((n / 10 ^ w % 10 : Nat) : Int)] := by
  unfold rp
  have h := pad_add 1 w n
  rw [Nat.add_comm 1 w] at h
  rw [h, List.reverse_append]
  rfl
theorem rp_add (i n : Nat) : rp (4 * i + 4) n = rp (4 * i) n ++ rp 4 (n / 10000 ^ i % 10000) := by
  unfold rp
  have h := pad_add 4 (4 * i) n
  rw [Nat.add_comm 4 (4 * i)] at h
  have e : (10000 : Nat) = 10 ^ 4 := rfl
  have h2 : pad 4 (n / 10 ^ (4 * i)) = pad 4 (n / 10000 ^ i % 10000) := by
    rw [← pad_mod 4 (n / 10 ^ (4 * i)), Nat.pow_mul]
  rw [h, List.reverse_append, h2]
theorem dig_wrap (d : Nat) : IntKind.u8.wrap (wrap64 (48 + Int.tmod (d : Int) 10)) = 48 + ((d % 10 : Nat) : Int) := by
  have e : Int.tmod (d : Int) 10 = ((d % 10 : Nat) : Int) := rfl
  rw [e, wrap_id (by omega) (by omega), IntKind.wrap_u8]
  omega
theorem ten_div (d : Nat) (h : d ≤ 10000) : wrap64 (Int.tdiv (d : Int) 10) = ((d / 10 : Nat) : Int) := by
  have e : Int.tdiv (d : Int) 10 = ((d / 10 : Nat) : Int) := rfl
  rw [e, wrap_id (by omega) (by omega)]
theorem text_l1 (x0 : List Int) (base : List Int) (d : Nat) (hd : d < 10000) (hb : base.length ≤ 1000000) (i : Int) (R : ByteArray)
    (hend : Ev (fun k => dendronref01_Text.l0 k x0 (base ++ rp 4 d) (wrap64 (i + 1))) R) : ∀ m j : Nat, j + m = 4 →
    Ev (fun k => dendronref01_Text.l1 k x0 (base ++ rp j d) i ((d / 10 ^ j : Nat) : Int) (j : Int)) R := by
  intro m
  induction m with
  | zero =>
    intro j hj
    obtain rfl : j = 4 := by omega
    refine Ev.succ ?_
    simp only [dendronref01_Text.l1]
    exact Ev.if_neg (by omega) hend
  | succ m ih =>
    intro j hj
    have hih := ih (j + 1) (by omega)
    have e1 : base ++ rp (j + 1) d = base ++ rp j d ++ [48 + ((d / 10 ^ j % 10 : Nat) : Int)] := by rw [rp_succ, List.append_assoc]
    have e2 : d / 10 ^ (j + 1) = d / 10 ^ j / 10 := by rw [Nat.pow_succ, Nat.div_div_eq_div_mul]
    have e3 : d / 10 ^ j ≤ d := Nat.div_le_self _ _
    rw [e1, e2] at hih
    have hl : (base ++ rp j d).length < 140737488355328 := by rw [List.length_append, rp_length]; omega
    refine Ev.succ ?_
    simp only [dendronref01_Text.l1, dig_wrap, ten_div _ (show d / 10 ^ j ≤ 10000 by omega), wr_succ j (show j ≤ 1125899906842624 by omega)]
    exact Ev.if_pos (by omega) (Ev.if_pos hl hih)
theorem text_l0 (n : Nat) (hn : len n ≤ 100000) (R : ByteArray) (hend : Ev (fun k => dendronref01_Text.l2 k (rp (4 * len n) n) ((rp (4 * len n) n).length : Int)) R) : ∀ d i : Nat, i + d = len n →
    Ev (fun k => dendronref01_Text.l0 k (lm n) (rp (4 * i) n) (i : Int)) R := by
  intro d
  induction d with
  | zero =>
    intro i hi
    obtain rfl : i = len n := by omega
    refine Ev.succ ?_
    simp only [dendronref01_Text.l0]
    exact Ev.if_neg (by rw [lm_length]; omega) hend
  | succ d ih =>
    intro i hi
    have hih := ih (i + 1) (by omega)
    rw [show 4 * (i + 1) = 4 * i + 4 by omega, rp_add] at hih
    have key := text_l1 (lm n) (rp (4 * i) n) (n / 10000 ^ i % 10000) (Nat.mod_lt _ (by decide)) (by rw [rp_length]; omega) (i : Int) R (by
      rw [wr_succ i (by omega)]
      exact hih) 4 0 (by decide)
    have e0 : rp 0 (n / 10000 ^ i % 10000) = [] := rfl
    rw [e0, List.append_nil, Nat.pow_zero, Nat.div_one] at key
    refine Ev.succ ?_
    simp only [dendronref01_Text.l0, rd_lm n i]
    exact Ev.if_pos (by rw [lm_length]; omega) (Ev.if_pos (nn0 _) key)
theorem rd_app (a b : List Int) (i : Nat) (h : i < a.length) : rd (a ++ b) (i : Int) = rd a (i : Int) := by
  unfold rd
  rw [Int.toNat_natCast, List.getD_eq_getElem?_getD, List.getD_eq_getElem?_getD, List.getElem?_append_left h]
/-- The last loop: what was turned is turned again. -/
theorem text_l3 (L z : List Int) (hL : L.length ≤ 1000000) (hok : bytesOk L.reverse = true) : ∀ (j : Nat) (done : List Int), j ≤ L.length → done = (L.drop j).reverse →
    Ev (fun k => dendronref01_Text.l3 k (L ++ z) done ((j : Int) - 1)) (ofBytes L.reverse) := by
  intro j
  induction j with
  | zero =>
    intro done hj hd
    rw [List.drop_zero] at hd
    subst hd
    refine Ev.succ ?_
    simp only [dendronref01_Text.l3]
    exact Ev.if_neg (by omega) (Ev.if_pos hok (Ev.now _))
  | succ j ih =>
    intro done hj hd
    have e1 : ((j + 1 : Nat) : Int) - 1 = (j : Int) := by omega
    have ew : wrap64 ((j : Int) - 1) = (j : Int) - 1 := wrap_id (by omega) (by omega)
    have er : rd (L ++ z) (j : Int) = rd L (j : Int) := rd_app L z j (by omega)
    have ed : L.drop j = rd L (j : Int) :: L.drop (j + 1) := drop_rd L j (by omega)
    have hlen : done.length ≤ L.length := by rw [hd, List.length_reverse, List.length_drop]; omega
    have hll : (j : Int) < ((L ++ z).length : Int) := by rw [List.length_append]; omega
    have hih := ih (done ++ [rd L (j : Int)]) (by omega) (by rw [ed, List.reverse_cons, hd])
    refine Ev.succ ?_
    simp only [dendronref01_Text.l3, e1, ew, er]
    exact Ev.if_pos (by omega) (Ev.if_pos hll (Ev.if_pos (by omega) hih))
/-- Zeros from above are left out. -/
theorem text_l2 (L : List Int) (x : Int) (hx : x ≠ 48) (hL : L.length ≤ 1000000) (R : ByteArray) (hend : Ev (fun k => dendronref01_Text.l3 k (L ++ [x] ++ List.replicate 0 48) [] (L.length : Int)) R)
    (z0 : Nat) (hz0 : z0 ≤ 1000000) (hend' : Ev (fun k => dendronref01_Text.l3 k (L ++ [x] ++ List.replicate z0 48) [] (L.length : Int)) R) : ∀ z : Nat, z ≤ z0 →
    Ev (fun k => dendronref01_Text.l2 k (L ++ [x] ++ List.replicate z0 48) ((L.length + 1 + z : Nat) : Int)) R := by
  intro z
  induction z with
  | zero =>
    intro hz
    have ew : wrap64 (((L.length + 1 + 0 : Nat) : Int) - 1) = (L.length : Int) := by rw [wrap_id (by omega) (by omega)]; omega
    have er : rd (L ++ [x] ++ List.replicate z0 48) (L.length : Int) = x := by rw [List.append_assoc]; exact Th.rd_at L x _
    have hll : (L.length : Int) < ((L ++ [x] ++ List.replicate z0 48).length : Int) := by simp only [List.length_append, List.length_singleton, List.length_replicate]; omega
    refine Ev.succ ?_
    simp only [dendronref01_Text.l2, ew, er]
    by_cases h1 : ((L.length + 1 + 0 : Nat) : Int) > 1
    · exact Ev.if_pos h1 (Ev.if_pos (nn0 _) (Ev.if_pos hll (Ev.if_neg hx (Ev.if_neg (by omega) hend'))))
    · exact Ev.if_neg h1 (Ev.if_neg (by omega) hend')
  | succ z ih =>
    intro hz
    have hih := ih (by omega)
    have ew : wrap64 (((L.length + 1 + (z + 1) : Nat) : Int) - 1) = ((L.length + 1 + z : Nat) : Int) := by rw [wrap_id (by omega) (by omega)]; omega
    have er : rd (L ++ [x] ++ List.replicate z0 48) ((L.length + 1 + z : Nat) : Int) = 48 := by
      unfold rd
      rw [Int.toNat_natCast, List.getD_eq_getElem?_getD, List.getElem?_append_right (by rw [List.length_append, List.length_singleton]; omega), List.getElem?_replicate, if_pos (by rw [List.length_append, List.length_singleton]; omega)]
      rfl
    have hll : ((L.length + 1 + z : Nat) : Int) < ((L ++ [x] ++ List.replicate z0 48).length : Int) := by simp only [List.length_append, List.length_singleton, List.length_replicate]; omega
    refine Ev.succ ?_
    simp only [dendronref01_Text.l2, ew, er]
    exact Ev.if_pos (by omega) (Ev.if_pos (nn0 _) (Ev.if_pos hll (Ev.if_pos trivial hih)))
theorem text_ev (n : Nat) (hn : len n ≤ 100000) : Ev (fun k => dendronref01_Text.f k (lm n)) (prN n) := by
  unfold dendronref01_Text.f
  refine text_l0 n hn _ ?_ (len n) 0 (by omega)
  rw [rp_length]
  by_cases h0 : n = 0
  · subst h0
    rw [len_zero]
    refine Ev.succ ?_
    simp only [dendronref01_Text.l2]
    refine Ev.if_neg (by decide) (Ev.if_pos rfl ((Ev.now _).of_eq ?_))
    unfold prN
    rw [dec_small (by decide)]
    rfl
  · have hlt : n < 10 ^ (4 * len n) := by
      have := lt_pow_len n
      rwa [show 10 ^ (4 * len n) = 10000 ^ len n from by rw [Nat.pow_mul]]
    obtain ⟨z, hz⟩ := pad_dec (4 * len n) n h0 hlt
    obtain ⟨x, r, hdec, hx⟩ := dec_head n h0
    have hlen : 4 * len n = z + (r.length + 1) := by
      have := congrArg List.length hz
      rwa [pad_length, List.length_append, List.length_replicate, hdec, List.length_cons] at this
    have erp : rp (4 * len n) n = r.reverse ++ [x] ++ List.replicate z 48 := by
      unfold rp
      rw [hz, List.reverse_append, List.reverse_replicate, hdec, List.reverse_cons]
    have hok : bytesOk (r.reverse ++ [x]).reverse = true := by
      rw [List.reverse_append, List.reverse_reverse]
      show bytesOk (x :: r) = true
      rw [← hdec]
      exact bytesOk_of (dec_byte n)
    have hl3 : ∀ z' : Nat, Ev (fun k => dendronref01_Text.l3 k (r.reverse ++ [x] ++ List.replicate z' 48) [] (r.reverse.length : Int)) (prN n) := fun z' => by
      have h := text_l3 (r.reverse ++ [x]) (List.replicate z' 48) (by rw [List.length_append, List.length_reverse, List.length_singleton]; omega) hok (r.reverse.length + 1) [] (by rw [List.length_append, List.length_singleton]; exact Nat.le_refl _) (by rw [List.drop_of_length_le (by rw [List.length_append, List.length_singleton]; exact Nat.le_refl _)]; rfl)
      have e1 : ((r.reverse.length + 1 : Nat) : Int) - 1 = (r.reverse.length : Int) := by omega
      rw [e1] at h
      refine h.of_eq ?_
      unfold prN
      rw [List.reverse_append, List.reverse_reverse, hdec]
      rfl
    rw [erp]
    have h := text_l2 r.reverse x hx (by rw [List.length_reverse]; omega) (prN n) (hl3 0) z (by omega) (hl3 z) z (Nat.le_refl _)
    have e2 : ((r.reverse.length + 1 + z : Nat) : Int) = ((4 * len n : Nat) : Int) := by rw [List.length_reverse]; omega
    rwa [e2] at h
theorem wtext_ev (z : Int) (h : L z ≤ 100000) : Ev (fun k => dendronref02_Text.f k (il z).1 (il z).2) (prW z) := by
  unfold dendronref02_Text.f prW
  have ht := text_ev z.natAbs h
  have hs := prN_size z.natAbs
  by_cases hz : z < 0
  · rw [if_pos hz]
    have hs2 : (prN z.natAbs).size ≤ 1000000000000 := by
      have h1 : (prN z.natAbs).size = (dec z.natAbs).length := obs_size _
      have h2 : Th.len z.natAbs ≤ len z.natAbs := Th.len_le (Nat.lt_of_lt_of_le (lt_pow_len z.natAbs) (Nat.pow_le_pow_left (by decide) _))
      have h3 : L z = len z.natAbs := rfl
      omega
    refine Ev.if_pos (decide_eq_true hz) (Ev.bind ht (Ev.if_pos ?_ (Ev.now _)))
    have : (⟨#[45]⟩ : ByteArray).size = 1 := rfl
    omega
  · rw [if_neg hz]
    exact Ev.if_neg (by show ¬ decide (z < 0) = true; simp [hz]) (Ev.bind ht (Ev.now _))
theorem sg_rnum (z : Int) (q : Nat) : sg (decide (z < 0)) (z.natAbs / Nat.gcd z.natAbs q) = rnum z q := by
  unfold sg rnum
  by_cases h : z < 0
  · rw [decide_eq_true h, if_pos rfl, if_pos h]
  · rw [decide_eq_false h, if_neg (by decide), if_neg h]
/-- A number's text. -/
def prX (x : Rat) : ByteArray := prQ x.num x.den
theorem prT_rv (r : Rt) : prT r = prX (rv r) := by
  rw [prT_eq]
  unfold prX rv
  rw [num_mk _ _ (den_pos _), den_mk _ _ (den_pos _)]
theorem FL.text {x : Rat} {a : Nat} {r : Rt} (h : FL x a r) (ha : a ≤ 100000) : Ev (fun k => dendronref03_Text.f k r.1 r.2.1 r.2.2) (prX x) := by
  obtain ⟨z, q, rfl, q0, rfl, h4, h5⟩ := h
  have hz : L z = len z.natAbs := rfl
  have g0 := gcd_pos_right z.natAbs q q0
  have hg := len_mono (Nat.gcd_le_right z.natAbs (show 0 < q by omega))
  have l1 := len_mono (Nat.div_le_self z.natAbs (Nat.gcd z.natAbs q))
  have l2 : len (rden z q) ≤ len q := len_mono (Nat.div_le_self _ _)
  have hnum : L (rnum z q) ≤ 100000 := by
    show len (rnum z q).natAbs ≤ _
    rw [rnum_abs]
    omega
  unfold dendronref03_Text.f
  have hsh : Ev (fun k => dendronref03_Shorter.f k (fl z q).1 (fl z q).2.1 (fl z q).2.2) ((il (rnum z q)).1, (il (rnum z q)).2, lm (rden z q)) := by
    unfold dendronref03_Shorter.f
    exact Ev.bind (gcd_ev q z.natAbs (by omega) (by omega)) (Ev.bind (over_ev z.natAbs (Nat.gcd z.natAbs q) (by omega) (by omega) (by omega)) (Ev.bind (over_ev q (Nat.gcd z.natAbs q) (by omega) (by omega) (by omega)) (Ev.bind (il_ev (sg_rnum z q)) (Ev.now _))))
  refine Ev.bind hsh (Ev.bind (small_ev 1 (by decide)) (Ev.bind (order_ev (rden z q) 1 (by omega)) ?_))
  unfold prX prQ
  rw [num_mk z q q0, den_mk z q q0]
  have hw := wtext_ev (rnum z q) hnum
  have sw := prW_size (rnum z q)
  have sn := prN_size (rden z q)
  have tn : ∀ m : Nat, Th.len m ≤ len m := fun m => Th.len_le (Nat.lt_of_lt_of_le (lt_pow_len m) (Nat.pow_le_pow_left (by decide) _))
  have t1 := tn (rnum z q).natAbs
  have t2 := tn (rden z q)
  have hr : L (rnum z q) = len (rnum z q).natAbs := rfl
  by_cases h1 : rden z q = 1
  · rw [if_pos h1]
    exact Ev.if_pos (by unfold cmp; rw [h1]; rfl) (Ev.bind hw (Ev.now _))
  · rw [if_neg h1]
    have e1 : (⟨#[47]⟩ : ByteArray).size = 1 := rfl
    refine Ev.if_neg (by unfold cmp; split <;> (try split) <;> omega) (Ev.bind hw (Ev.if_pos (by omega) (Ev.bind (text_ev (rden z q) (by omega)) (Ev.if_pos ?_ (Ev.now _)))))
    rw [ByteArray.size_append]
    omega
end Go.DI.Th.D
namespace Go.DI.Th
open Go Go.RowKit Go.DI

theorem vb_dgv (l : List UInt8) : vb l = dgv 0 l := rfl
theorem dgv_prN (n : Nat) : dgv 0 (toL (prN n)) = n := by rw [← vb_dgv, vb_prN]
theorem pE_prN (n : Nat) (h : len n ≤ 300) : pE (toL (prN n)) = 0 := by
  refine pE_zero.2 ⟨prN_ne n, fun c hc => prN_dig n c hc, ?_⟩
  rw [← size_toL]
  have := prN_size n
  omega
/-- What stands behind a number's upper part. -/
def qT (q : Nat) : List UInt8 := if q = 1 then [] else 47 :: toL (prN q)
theorem prX_toL (x : Rat) : toL (D.prX x) = (if x.num < 0 then [45] else []) ++ (toL (prN x.num.natAbs) ++ qT x.den) := by
  unfold D.prX prQ qT prW
  by_cases h1 : x.den = 1
  · rw [if_pos h1, if_pos h1, List.append_nil]
    split
    · rw [toL_append, toL_minus]
    · rw [List.nil_append]
  · rw [if_neg h1, if_neg h1, toL_append, toL_append, toL_slash]
    split
    · rw [toL_append, toL_minus]; simp
    · rw [List.nil_append]; simp
theorem plE_nat (n q : Nat) (hn : len n ≤ 300) (hq : len q ≤ 300) (h0 : q ≠ 0) : plE (toL (prN n) ++ qT q) = 0 ∧ plV (toL (prN n) ++ qT q) = mkRat (n : Int) q := by
  have n47 : (47 : UInt8) ∉ toL (prN n) := fun h => (prN_dig n _ h).n47 rfl
  have n46 : (46 : UInt8) ∉ toL (prN n) := fun h => by
    have := (prN_dig n _ h).1
    exact absurd this (by decide)
  unfold qT
  by_cases h1 : q = 1
  · subst h1
    rw [if_pos rfl, List.append_nil]
    unfold plE plV
    rw [cutL_not n47, cutL_not n46]
    refine ⟨pE_prN n hn, ?_⟩
    show ((dgv 0 (toL (prN n)) : Int) : Rat) = _
    rw [dgv_prN]
    exact (Rat.mkRat_self ((n : Int) : Rat)).symm
  · rw [if_neg h1]
    unfold plE plV
    rw [cutL_of n47]
    dsimp only
    rw [pE_prN n hn, pE_prN q hq, dgv_prN, dgv_prN, if_neg (fun h => h rfl), if_neg (fun h => h rfl), if_neg h0]
    exact ⟨rfl, rfl⟩
theorem prs_prX (x : Rat) (h : Sz x ≤ 300) : prE (toL (D.prX x)) = 0 ∧ prV (toL (D.prX x)) = x := by
  obtain ⟨n1, n2⟩ := Sz_num h
  obtain ⟨h1, h2⟩ := plE_nat x.num.natAbs x.den n1 n2 x.den_nz
  have e := prX_toL x
  unfold prE prV unm
  rw [e]
  by_cases hz : x.num < 0
  · rw [if_pos hz]
    have hp : isPre 45 ([45] ++ (toL (prN x.num.natAbs) ++ qT x.den)) = true := rfl
    rw [if_pos hp]
    show plE (toL (prN x.num.natAbs) ++ qT x.den) = 0 ∧ sgQ true (plV (toL (prN x.num.natAbs) ++ qT x.den)) = x
    rw [h1, h2]
    refine ⟨rfl, ?_⟩
    show -(mkRat (x.num.natAbs : Int) x.den) = x
    rw [Rat.neg_mkRat, show -((x.num.natAbs : Nat) : Int) = x.num by omega, Rat.mkRat_self]
  · rw [if_neg hz, List.nil_append]
    have hp : ¬ isPre 45 (toL (prN x.num.natAbs) ++ qT x.den) = true := by
      have hne := prN_ne x.num.natAbs
      have hd := prN_dig x.num.natAbs
      cases hw : toL (prN x.num.natAbs) with
      | nil => exact absurd hw hne
      | cons c t =>
        rw [hw] at hd
        show ¬ (c == 45) = true
        have := (hd c List.mem_cons_self).n45
        simpa using this
    rw [if_neg hp]
    show plE (toL (prN x.num.natAbs) ++ qT x.den) = 0 ∧ sgQ false (plV (toL (prN x.num.natAbs) ++ qT x.den)) = x
    rw [h1, h2]
    refine ⟨rfl, ?_⟩
    show mkRat (x.num.natAbs : Int) x.den = x
    rw [show ((x.num.natAbs : Nat) : Int) = x.num by omega, Rat.mkRat_self]
theorem texts_ev (a b : Rt) (ha : RtOk a) (hb : RtOk b) : Ev (fun k => ratio_Texts.f k [a, b]) [prT a, prT b] := by
  unfold ratio_Texts.f
  have pa := prT_ev a ha
  have pb := prT_ev b hb
  have w1 : wrap64 (0 + 1) = 1 := by rw [wrap_id (by decide) (by decide)]; rfl
  have w2 : wrap64 (1 + 1) = 2 := by rw [wrap_id (by decide) (by decide)]; rfl
  refine Ev.succ ?_
  simp only [ratio_Texts.l0, w1]
  refine Ev.if_pos (by show (0 : Int) < ((2 : Nat) : Int); decide) (Ev.if_pos (by decide) (Ev.if_pos (by show (0 : Int) < ((2 : Nat) : Int); decide) (Ev.bind pa (Ev.if_pos (by decide) (Ev.succ ?_)))))
  simp only [ratio_Texts.l0, w2]
  refine Ev.if_pos (by show (1 : Int) < ((2 : Nat) : Int); decide) (Ev.if_pos (by decide) (Ev.if_pos (by show (1 : Int) < ((2 : Nat) : Int); decide) (Ev.bind pb (Ev.if_pos (show (1 : Nat) < 8796093022208 by decide) (Ev.succ ?_)))))
  simp only [ratio_Texts.l0]
  exact Ev.if_neg (by show ¬ (2 : Int) < ((2 : Nat) : Int); decide) (Ev.now _)
theorem ratioTexts_ev (r : Rt) (hr : RtU r) : Ev (fun k => dendronlaw03_RatioTexts.f k r.1 r.2.1 r.2.2) true := by
  unfold dendronlaw03_RatioTexts.f
  refine Ev.bind (few3_ev _ _ _) ?_
  have ha := fewB hr
  have za := ha.sz
  generalize fewR (r.1, r.2.1, r.2.2) = a at ha za ⊢
  obtain ⟨x, hx, ex⟩ := D.FL.from ha (by decide)
  have oka : RtOk a := ha.mono (by decide)
  have okb : RtOk (cn (rv a)) := cnB (b := 1048576) _ (by omega)
  have hp := prT_ev a oka
  have hT := hx.text (by decide)
  have e1 : prT a = D.prX (rv a) := D.prT_rv a
  have e2 : prT (cn (rv a)) = D.prX (rv a) := by rw [D.prT_rv, rv_cn]
  have htx := texts_ev a (cn (rv a)) oka okb
  rw [e1] at hp
  rw [e1, e2] at htx
  have hsz : (D.prX (rv a)).size ≤ 1125899906842624 := by
    have := prQ_size (rv a).num (rv a).den
    obtain ⟨n1, n2⟩ := Sz_num za
    unfold D.prX
    omega
  have hpa := rparse_ev (D.prX (rv a)) hsz
  obtain ⟨p1, p2⟩ := prs_prX (rv a) (by omega)
  rw [p1, p2] at hpa
  have hix := D.is_true hx za (by decide)
  refine Ev.bind ex (Ev.bind hp (Ev.bind hpa (Ev.bind htx (Ev.bind hT (Ev.if_pos rfl (Ev.if_pos rfl (Ev.bind hix (Ev.if_pos rfl ?_))))))))
  exact Ev.if_pos rfl (Ev.if_pos (show (0 : Int) < ((2 : Nat) : Int) by decide) (Ev.if_pos rfl (Ev.if_pos (show (1 : Int) < ((2 : Nat) : Int) by decide) (Ev.if_pos rfl aw3))))
end Go.DI.Th
