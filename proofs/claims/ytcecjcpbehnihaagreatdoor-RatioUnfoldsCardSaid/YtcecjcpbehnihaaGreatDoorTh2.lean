/- What the told functions answer, part 2. No condition. -/
import Derived.Test.YtcecjcpbehnihaaGreatDoorTh1
set_option linter.all false
namespace Go.DI.Th.D
open Go Go.RowKit Go.DI Go.DI.Th

/-- A number of the reference: some fraction, that has a worth. -/
def FL (x : Rat) (s : Nat) (r : Rt) : Prop := ∃ (z : Int) (q : Nat), r = fl z q ∧ q ≠ 0 ∧ mkRat z q = x ∧ L z ≤ s ∧ len q ≤ s
theorem FL.mono {x : Rat} {s s' : Nat} {r : Rt} (h : FL x s r) (hs : s ≤ s') : FL x s' r := by
  obtain ⟨z, q, h1, h2, h3, h4, h5⟩ := h
  exact ⟨z, q, h1, h2, h3, by omega, by omega⟩
theorem mk_pos {z : Int} {q : Nat} (hq : q ≠ 0) : (mkRat z q < 0) ↔ z < 0 := by
  rw [← num_neg_iff, num_mk z q hq, rnum_neg z q hq]
theorem mk_zero {z : Int} {q : Nat} (hq : q ≠ 0) : mkRat z q = 0 ↔ z = 0 := Rat.mkRat_eq_zero hq
theorem FL.plus {x y : Rat} {a b : Nat} {r s : Rt} (h : FL x a r) (h' : FL y b s) (hb : a + b ≤ 1099511627776) : ∃ t, FL (x + y) (a + b + 1) t ∧ Ev (fun k => dendronref03_Plus.f k r.1 r.2.1 r.2.2 s.1 s.2.1 s.2.2) t := by
  obtain ⟨z, q, rfl, q0, rfl, h4, h5⟩ := h
  obtain ⟨w, p, rfl, p0, rfl, k4, k5⟩ := h'
  refine ⟨_, ⟨z * p + w * q, q * p, rfl, Nat.mul_ne_zero q0 p0, (Rat.mkRat_add_mkRat z w q0 p0).symm, ?_, ?_⟩, fplus_ev z q w p (by omega) (by omega) (by omega)⟩
  · have h1 := L_add (z * p) (w * q)
    have h2 := L_mul z (p : Int)
    have h3 := L_mul w (q : Int)
    rw [L_nat] at h2 h3
    omega
  · have := len_mul q p
    omega
theorem FL.times {x y : Rat} {a b : Nat} {r s : Rt} (h : FL x a r) (h' : FL y b s) (hb : a + b ≤ 1099511627776) : ∃ t, FL (x * y) (a + b) t ∧ Ev (fun k => dendronref03_Times.f k r.1 r.2.1 r.2.2 s.1 s.2.1 s.2.2) t := by
  obtain ⟨z, q, rfl, q0, rfl, h4, h5⟩ := h
  obtain ⟨w, p, rfl, p0, rfl, k4, k5⟩ := h'
  refine ⟨_, ⟨z * w, q * p, rfl, Nat.mul_ne_zero q0 p0, (Rat.mkRat_mul_mkRat z w q p).symm, ?_, ?_⟩, ftimes_ev z q w p (by omega) (by omega)⟩
  · have h2 := L_mul z w
    omega
  · have := len_mul q p
    omega
theorem FL.minus {x : Rat} {a : Nat} {r : Rt} (h : FL x a r) : ∃ t, FL (-x) a t ∧ Ev (fun _ => dendronref03_Minus.f r.1 r.2.1 r.2.2) t := by
  obtain ⟨z, q, rfl, q0, rfl, h4, h5⟩ := h
  exact ⟨_, ⟨-z, q, rfl, q0, (Rat.neg_mkRat z q).symm, by rw [L_neg]; exact h4, h5⟩, fminus_ev z q⟩
theorem mk_inv {z : Int} {q : Nat} (hz : z ≠ 0) : (mkRat z q)⁻¹ = mkRat (over q z) z.natAbs := by
  rw [mk_over _ _ hz, ← Rat.divInt_ofNat, Rat.inv_divInt]
theorem FL.inv {x : Rat} {a : Nat} {r : Rt} (h : FL x a r) (hx : x ≠ 0) : ∃ t, FL x⁻¹ a t ∧ Ev (fun _ => dendronref03_Inverse.f r.1 r.2.1 r.2.2) t := by
  obtain ⟨z, q, rfl, q0, rfl, h4, h5⟩ := h
  have hz : z ≠ 0 := fun e => hx ((mk_zero q0).2 e)
  refine ⟨_, ⟨over q z, z.natAbs, rfl, by omega, (mk_inv hz).symm, ?_, h4⟩, finverse_ev z q⟩
  show len (over (q : Int) z).natAbs ≤ a
  rw [over_abs]
  exact h5
theorem FL.order {x y : Rat} {a b : Nat} {r s : Rt} (h : FL x a r) (h' : FL y b s) (hb : a + b ≤ 1099511627776) : Ev (fun k => dendronref03_Order.f k r.1 r.2.1 r.2.2 s.1 s.2.1 s.2.2) (cmpQ x y) := by
  obtain ⟨z, q, rfl, q0, rfl, h4, h5⟩ := h
  obtain ⟨w, p, rfl, p0, rfl, k4, k5⟩ := h'
  rw [← cmpQ_mk z w q p q0 p0]
  exact forder_ev z q w p (by omega) (by omega)
theorem FL.small (a : Int) (b : Nat) (h0 : -9223372036854775808 ≤ a ∧ a ≤ 9223372036854775807) (h : b ≤ 9223372036854775807) (hb : b ≠ 0) : ∃ t, FL (mkRat a b) 5 t ∧ Ev (fun k => dendronref03_Small.f k a (b : Int)) t :=
  ⟨_, ⟨a, b, rfl, hb, rfl, L_pair a h0, len_le (by omega)⟩, fsmall_ev a b h0 h⟩
theorem FL.from {b : Nat} {r : Rt} (h : RtB b r) (hb : b ≤ 1073741824) : ∃ t, FL (rv r) (3 * b + 3) t ∧ Ev (fun k => dendronref03_From.f k r.1 r.2.1 r.2.2) t := by
  refine ⟨_, ⟨num r.1 r.2.1 r.2.2, den r.2.2, rfl, den_pos _, rfl, ?_, ?_⟩, ffrom_ev r.1 r.2.1 r.2.2 h.1 h.2.1 (by have := h.2.2.1; omega) (by have := h.2.2.2; omega)⟩
  · have h1 := len_of_len (num r.1 r.2.1 r.2.2).natAbs
    have h2 := num_len r.1 r.2.1 r.2.2
    have h3 := h.2.2.1
    show len (num r.1 r.2.1 r.2.2).natAbs ≤ _
    omega
  · have h1 := len_of_len (den r.2.2)
    have h2 := den_len r.2.2
    have h3 := h.2.2.2
    omega
theorem FL.zero_N {x : Rat} {a : Nat} {r : Rt} (h : FL x a r) : ((r.2.1.length : Int) = 0 ↔ x = 0) := by
  obtain ⟨z, q, rfl, q0, rfl, h4, h5⟩ := h
  rw [mk_zero q0]
  show ((lm z.natAbs).length : Int) = 0 ↔ _
  rw [lm_nil']
  omega
theorem FL.neg_N {x : Rat} {a : Nat} {r : Rt} (h : FL x a r) : (r.1 = true ↔ x < 0) := by
  obtain ⟨z, q, rfl, q0, rfl, h4, h5⟩ := h
  rw [mk_pos q0]
  exact decide_eq_true_iff
theorem FL.whole (z : Int) {s : Nat} (h : L z ≤ s) (hs : 1 ≤ s) : ∃ t, FL (z : Rat) s t ∧ Ev (fun k => dendronref03_Whole.f k (il z).1 (il z).2) t := by
  refine ⟨fl z 1, ⟨z, 1, rfl, by decide, ?_, h, ?_⟩, ?_⟩
  · exact Rat.mkRat_self (z : Rat)
  · have : len 1 ≤ 1 := len_le (by decide)
    omega
  · unfold dendronref03_Whole.f
    exact Ev.bind (small_ev 1 (by decide)) (Ev.now _)
/-! ### may a number be? -/
theorem lm_of {l : List Int} (h : Th.lm (Th.val l) = l) : Th.Ok l ∧ ∀ x, l.getLast? = some x → x ≠ 0 := by
  constructor
  · rw [← h]; exact Th.lm_ok _
  · rw [← h]; exact Th.lm_last _
theorem right_end (l : List Int) (hok : Th.Ok l) (h0 : l ≠ []) : (rd l ((l.length : Int) - 1) ≠ 0) ↔ Th.lm (Th.val l) = l := by
  have hl : 0 < l.length := List.length_pos_iff.2 h0
  have e : rd l ((l.length : Int) - 1) = l.getLast h0 := by
    unfold rd
    rw [show ((l.length : Int) - 1).toNat = l.length - 1 by omega, List.getD_eq_getElem?_getD, List.getElem?_eq_getElem (by omega), List.getLast_eq_getElem]
    rfl
  rw [e]
  constructor
  · intro h
    exact Th.lm_val hok fun x hx => by
      rw [List.getLast?_eq_some_getLast h0] at hx
      exact (Option.some.inj hx) ▸ h
  · intro h
    exact (lm_of h).2 _ (List.getLast?_eq_some_getLast h0)
theorem right_loop (l : List Int) (hl : Th.U l) (hn : l.length ≤ 1125899906842624) : ∀ b a : List Int, l = a ++ b → Th.Ok a → Ev (fun k => dendronref01_Right.l0 k l (a.length : Int)) (decide (Th.lm (Th.val l) = l)) := by
  intro b
  induction b with
  | nil =>
    intro a hr ha
    rw [List.append_nil] at hr
    subst hr
    refine Ev.succ ?_
    simp only [dendronref01_Right.l0]
    refine Ev.if_neg (by omega) ?_
    by_cases h0 : l = []
    · subst h0
      refine (Ev.if_pos rfl (Ev.now true)).of_eq ?_
      symm
      rw [decide_eq_true_iff]
      show Th.lm 0 = []
      exact Th.lm_zero
    · have hp : 0 < l.length := List.length_pos_iff.2 h0
      refine Ev.if_neg (by omega) ?_
      have ew : wrap64 ((l.length : Int) - 1) = (l.length : Int) - 1 := wrap_id (by omega) (by omega)
      rw [ew]
      refine Ev.if_pos (by omega) (Ev.if_pos (by omega) ((Ev.now _).of_eq ?_))
      rw [Bool.eq_iff_iff, bne_iff_ne, decide_eq_true_iff]
      exact right_end l ha h0
  | cons x b ih =>
    intro a hr ha
    have l1 := lt_at a x b
    have hx : rd l (a.length : Int) = x := by rw [hr]; exact Th.rd_at a x b
    rw [← hr] at l1
    have hlen : l.length = a.length + (b.length + 1) := by rw [hr, List.length_append, List.length_cons]
    have hU := hl x (by rw [hr]; simp)
    refine Ev.succ ?_
    simp only [dendronref01_Right.l0, hx, wr_at a x (show a.length ≤ 1125899906842624 by omega)]
    refine Ev.if_pos l1 (Ev.if_pos (nn0 _) ?_)
    by_cases h : x > 4294967295
    · refine Ev.if_pos h ((Ev.now _).of_eq ?_)
      symm
      rw [decide_eq_false_iff_not]
      intro e
      have := (lm_of e).1 x (by rw [hr]; simp)
      omega
    · exact Ev.if_neg h (ih (a ++ [x]) (by rw [hr]; simp) (ha.append (Th.Ok.cons ⟨hU.1, by omega⟩ Th.Ok.nil)))
theorem right_ev (l : List Int) (hl : Th.U l) (hn : l.length ≤ 1125899906842624) : Ev (fun k => dendronref01_Right.f k l) (decide (Th.lm (Th.val l) = l)) := right_loop l hl hn l [] rfl Th.Ok.nil
end Go.DI.Th.D
namespace Go.DI.Th
open Go Go.RowKit Go.DI
/-- A number is in its form just if its parts are numbers, and nothing divides both. -/
theorem form_iff (r : Rt) : r = cn (rv r) ↔ (lm (val r.2.1) = r.2.1 ∧ lm (val r.2.2) = r.2.2 ∧ r.2.2 ≠ [] ∧ (r.2.1 = [] → r.1 = false) ∧ Nat.gcd (val r.2.1) (val r.2.2) = 1) := by
  obtain ⟨b, n, d⟩ := r
  dsimp only
  constructor
  · intro h
    have h1 : (b, n, d).1 = (cn (rv (b, n, d))).1 := congrArg (·.1) h
    have h2 : (b, n, d).2.1 = (cn (rv (b, n, d))).2.1 := congrArg (·.2.1) h
    have h3 : (b, n, d).2.2 = (cn (rv (b, n, d))).2.2 := congrArg (·.2.2) h
    generalize rv (b, n, d) = x at h1 h2 h3
    dsimp only at h1 h2 h3
    subst h1
    subst h2
    subst h3
    refine ⟨by rw [(val_cn x).1]; rfl, by rw [(val_cn x).2]; rfl, ?_, ?_, ?_⟩
    · intro e
      have := (val_cn x).2
      rw [e] at this
      exact x.den_nz this.symm
    · intro e
      have := (val_cn x).1
      rw [e] at this
      have h0 : x.num = 0 := by
        have : x.num.natAbs = 0 := this.symm
        omega
      show decide (x.num < 0) = false
      rw [h0]; rfl
    · rw [(val_cn x).1, (val_cn x).2]
      exact x.reduced
  · rintro ⟨h1, h2, h3, h4, h5⟩
    have hq : val d ≠ 0 := fun e => h3 (by rw [← h2, e, lm_zero])
    have hnum : num b n d = wv b n := by unfold num; rw [if_neg hq]
    have hden : den d = val d := by unfold den; rw [if_neg hq]
    have e1 : (rv (b, n, d)).num = wv b n := by
      show (mkRat (num b n d) (den d)).num = _
      rw [hnum, hden, num_mk _ _ hq]
      unfold rnum
      rw [wv_abs, h5, Nat.div_one]
      have := wv_abs b n
      split <;> omega
    have e2 : (rv (b, n, d)).den = val d := by
      show (mkRat (num b n d) (den d)).den = _
      rw [hnum, hden, den_mk _ _ hq]
      unfold rden
      rw [wv_abs, h5, Nat.div_one]
    unfold cn
    rw [e1, e2, wv_abs, h1, h2]
    congr 1
    by_cases hn : n = []
    · rw [h4 hn]
      have : wv false n = (val n : Int) := rfl
      rw [this]
      symm
      exact decide_eq_false (by omega)
    · have hv : val n ≠ 0 := fun e => hn (by rw [← h1, e, lm_zero])
      unfold wv
      cases b
      · symm; exact decide_eq_false (by simp)
      · symm; exact decide_eq_true (by simp; omega)
theorem nright_loop (x0 l : List Int) (he : x0 = l) (hl : U l) (hn : l.length ≤ 1125899906842624) : ∀ b a : List Int, l = a ++ b → Ok a → Ev (fun k => nat_Right.l0 k x0 l (l.length : Int) (a.length : Int)) (decide (lm (val l) = l)) := by
  subst he
  intro b
  induction b with
  | nil =>
    intro a hr ha
    rw [List.append_nil] at hr
    subst hr
    refine Ev.succ ?_
    simp only [nat_Right.l0]
    refine Ev.if_neg (by omega) ?_
    by_cases h0 : x0 = []
    · subst h0
      refine (Ev.if_pos rfl (Ev.now true)).of_eq ?_
      symm
      rw [decide_eq_true_iff]
      show lm 0 = []
      exact lm_zero
    · have hp : 0 < x0.length := List.length_pos_iff.2 h0
      refine Ev.if_neg (by omega) ?_
      have ew : wrap64 ((x0.length : Int) - 1) = (x0.length : Int) - 1 := wrap_id (by omega) (by omega)
      rw [ew]
      refine Ev.if_pos (by omega) (Ev.if_pos (by omega) ((Ev.now _).of_eq ?_))
      rw [Bool.eq_iff_iff, bne_iff_ne, decide_eq_true_iff]
      exact D.right_end x0 ha h0
  | cons x b ih =>
    intro a hr ha
    have l1 := lt_at a x b
    have hx : rd x0 (a.length : Int) = x := by rw [hr]; exact rd_at a x b
    rw [← hr] at l1
    have hlen : x0.length = a.length + (b.length + 1) := by rw [hr, List.length_append, List.length_cons]
    have hU := hl x (by rw [hr]; simp)
    refine Ev.succ ?_
    simp only [nat_Right.l0, hx, wr_at a x (show a.length ≤ 1125899906842624 by omega)]
    refine Ev.if_pos l1 (Ev.if_pos (nn0 _) (Ev.if_pos l1 ?_))
    by_cases h : x > 4294967295
    · refine Ev.if_pos h ((Ev.now _).of_eq ?_)
      symm
      rw [decide_eq_false_iff_not]
      intro e
      have := (D.lm_of e).1 x (by rw [hr]; simp)
      omega
    · exact Ev.if_neg h (ih (a ++ [x]) (by rw [hr]; simp) (ha.append (Ok.cons ⟨hU.1, by omega⟩ Ok.nil)))
theorem nright_ev (l : List Int) (hl : U l) (hn : l.length ≤ 1125899906842624) : Ev (fun k => nat_Right.f k l) (decide (lm (val l) = l)) := nright_loop l l rfl hl hn l [] rfl Ok.nil
theorem gcd_one (a b : Nat) : (cmp (Nat.gcd a b) 1 == 0) = decide (Nat.gcd a b = 1) := by
  unfold cmp
  rw [Bool.eq_iff_iff, beq_iff_eq, decide_eq_true_iff]
  split
  · omega
  · split <;> omega
theorem rright_ev (r : Rt) {b : Nat} (h : RtB b r) (hb : b ≤ 1073741824) : Ev (fun k => ratio_Right.f k r.1 r.2.1 r.2.2) (decide (r = cn (rv r))) := by
  have hf := form_iff r
  obtain ⟨s, n, d⟩ := r
  obtain ⟨u1, u2, l1, l2⟩ := h
  dsimp only at hf u1 u2 l1 l2 ⊢
  have hn := nright_ev n u1 (by omega)
  have hd := nright_ev d u2 (by omega)
  unfold ratio_Right.f whole_Right.f
  by_cases h1 : lm (val n) = n
  · rw [decide_eq_true h1] at hn
    by_cases h4 : n = [] → s = false
    · have hw : Ev (fun k => (nat_Right.f k n).bind fun v4 => if v4 = true then (if (n.length : Int) > 0 then some true else some (!s)) else some false) true := by
        refine Ev.bind hn (Ev.if_pos rfl ?_)
        by_cases h0 : n = []
        · rw [h4 h0]
          exact Ev.if_neg (by rw [h0]; decide) (Ev.now _)
        · have := List.length_pos_iff.2 h0
          exact Ev.if_pos (by omega) (Ev.now _)
      refine Ev.bind hw (Ev.if_pos rfl (Ev.bind hd ?_))
      by_cases h2 : lm (val d) = d
      · refine Ev.if_pos (decide_eq_true h2) ?_
        by_cases h3 : d = []
        · rw [decide_eq_false (fun e => (hf.1 e).2.2.1 h3)]
          exact Ev.if_pos (by rw [h3]; rfl) (Ev.now _)
        · have hp := List.length_pos_iff.2 h3
          refine Ev.if_neg (by omega) ?_
          have hg := gcd_ev n d u1 u2 (by omega) (by omega)
          have hc := cmp_ev (lm (Nat.gcd (val n) (val d))) (lm 1) (lm_ok _).U (lm_ok _).U (by
            rw [lm_length]
            have := val_len d
            have hdv : 0 < val d := Nat.pos_of_ne_zero fun e => h3 (by rw [← h2, e, lm_zero])
            have := len_mono (Nat.gcd_le_right (val n) hdv)
            omega) (by rw [lm_length, len_one]; decide)
          rw [val_lm, val_lm] at hc
          refine Ev.bind hg (Ev.bind (ofN_ev 1 (by decide)) (Ev.bind hc ((Ev.now _).of_eq ?_)))
          rw [gcd_one]
          exact decide_eq_decide.2 ⟨fun e => hf.2 ⟨h1, h2, h3, h4, e⟩, fun e => (hf.1 e).2.2.2.2⟩
      · rw [decide_eq_false (fun e => h2 (hf.1 e).2.1)]
        exact Ev.if_neg (by simp [h2]) (Ev.now _)
    · rw [decide_eq_false (fun e => h4 (hf.1 e).2.2.2.1)]
      have h5 : n = [] ∧ s = true := by
        cases s
        · exact absurd (fun _ => rfl) h4
        · exact ⟨Classical.byContradiction fun e => h4 fun e' => absurd e' e, rfl⟩
      have hw : Ev (fun k => (nat_Right.f k n).bind fun v4 => if v4 = true then (if (n.length : Int) > 0 then some true else some (!s)) else some false) false := by
        refine Ev.bind hn (Ev.if_pos rfl ?_)
        rw [h5.2]
        exact Ev.if_neg (by rw [h5.1]; decide) (Ev.now _)
      exact Ev.bind hw (Ev.if_neg (by decide) (Ev.now _))
  · rw [decide_eq_false h1] at hn
    rw [decide_eq_false (fun e => h1 (hf.1 e).1)]
    exact Ev.bind (Ev.bind hn (Ev.if_neg (by decide) (Ev.now _))) (Ev.if_neg (by decide) (Ev.now _))
end Go.DI.Th
namespace Go.DI.Th.D
open Go Go.RowKit Go.DI Go.DI.Th
theorem right3_ev (r : Rt) {b : Nat} (h : RtB b r) (hb : b ≤ 1073741820) : Ev (fun k => dendronref03_Right.f k r.1 r.2.1 r.2.2) (decide (r = cn (rv r))) := by
  have hf := form_iff r
  obtain ⟨s, n, d⟩ := r
  obtain ⟨u1, u2, l1, l2⟩ := h
  dsimp only at hf u1 u2 l1 l2 ⊢
  have hn := right_ev n u1 (by omega)
  have hd := right_ev d u2 (by omega)
  unfold dendronref03_Right.f
  by_cases h1 : Th.lm (Th.val n) = n
  · refine Ev.bind hn (Ev.if_pos (decide_eq_true h1) (Ev.bind hd ?_))
    by_cases h2 : Th.lm (Th.val d) = d
    · refine Ev.if_pos (decide_eq_true h2) ?_
      by_cases h3 : d = []
      · rw [decide_eq_false (fun e => (hf.1 e).2.2.1 h3)]
        exact Ev.if_pos (by rw [h3]; rfl) (Ev.now _)
      · have hp := List.length_pos_iff.2 h3
        refine Ev.if_neg (by omega) ?_
        have a1 := len_of_len (Th.val n)
        have a2 := len_of_len (Th.val d)
        have a3 := Th.val_len n
        have a4 := Th.val_len d
        have tail : (n = [] → s = false) → Ev (fun k => (dendronref01_From.f k n).bind fun v34 => (dendronref01_From.f k d).bind fun v37 => (dendronref01_Gcd.f k v34 v37).bind fun v38 => (dendronref01_Small.f k 1).bind fun v41 => (dendronref01_Order.f k v38 v41).bind fun v42 => some (v42 == 0)) (decide ((s, n, d) = cn (rv (s, n, d)))) := fun h4 => by
          have ho := order_ev (Nat.gcd (Th.val n) (Th.val d)) 1 (by
            have hdv : 0 < Th.val d := Nat.pos_of_ne_zero fun e => h3 (by rw [← h2, e, Th.lm_zero])
            have := len_mono (Nat.gcd_le_right (Th.val n) hdv)
            omega)
          refine Ev.bind (from_ev n u1 (by omega)) (Ev.bind (from_ev d u2 (by omega)) (Ev.bind (gcd_ev _ _ (by omega) (by omega)) (Ev.bind (small_ev 1 (by decide)) (Ev.bind ho ((Ev.now _).of_eq ?_)))))
          rw [gcd_one]
          exact decide_eq_decide.2 ⟨fun e => hf.2 ⟨h1, h2, h3, h4, e⟩, fun e => (hf.1 e).2.2.2.2⟩
        by_cases h0 : n = []
        · refine Ev.if_pos (by rw [h0]; rfl) ?_
          cases s
          · exact Ev.if_neg (by decide) (tail fun _ => rfl)
          · rw [decide_eq_false (fun e => by have := (hf.1 e).2.2.2.1 h0; cases this)]
            exact Ev.if_pos rfl (Ev.now _)
        · have := List.length_pos_iff.2 h0
          exact Ev.if_neg (by omega) (tail fun e => absurd e h0)
    · rw [decide_eq_false (fun e => h2 (hf.1 e).2.1)]
      exact Ev.if_neg (by simp [h2]) (Ev.now _)
  · rw [decide_eq_false (fun e => h1 (hf.1 e).1)]
    exact Ev.bind hn (Ev.if_neg (by simp [h1]) (Ev.now _))
theorem is_ev {x : Rat} {a b : Nat} {r t : Rt} (ht : FL x a t) (h : RtB b r) (hb : 3 * b + a ≤ 1073741820) : Ev (fun k => dendronref03_Is.f k r.1 r.2.1 r.2.2 t.1 t.2.1 t.2.2) (decide (r = cn x)) := by
  unfold dendronref03_Is.f
  refine Ev.bind (right3_ev r h (by omega)) ?_
  by_cases h1 : r = cn (rv r)
  · refine Ev.if_pos (decide_eq_true h1) ?_
    obtain ⟨s, hs, es⟩ := FL.from h (by omega)
    refine Ev.bind es (Ev.bind (hs.order ht (by omega)) ((Ev.now _).of_eq ?_))
    rw [Bool.eq_iff_iff, beq_iff_eq, decide_eq_true_iff, cmpQ_zero]
    exact ⟨fun e => by rw [← e]; exact h1, fun e => by rw [e]; exact rv_cn x⟩
  · have h2 : ¬ r = cn x := fun e => h1 (by
      have h3 : rv r = x := (congrArg rv e).trans (rv_cn x)
      rw [h3]
      exact e)
    rw [decide_eq_false h2]
    exact Ev.if_neg (by simp [h1]) (Ev.now _)
theorem is_true {x : Rat} {a : Nat} {t : Rt} (ht : FL x a t) {b : Nat} (hs : Sz x ≤ b) (hb : 3 * b + a ≤ 1073741820) : Ev (fun k => dendronref03_Is.f k (cn x).1 (cn x).2.1 (cn x).2.2 t.1 t.2.1 t.2.2) true := by
  have := is_ev ht (cnB x hs) hb
  rwa [decide_eq_true rfl] at this
theorem none_true : Ev (fun _ => dendronref03_None.f false [] []) true := Ev.now true
end Go.DI.Th.D
namespace Go.DI.Th.D
open Go Go.RowKit Go.DI Go.DI.Th

theorem il_ev {b : Bool} {n : Nat} {z : Int} (h : sg b n = z) : Ev (fun _ => dendronref02_Make.f b (lm n)) (il z) := by rw [← h]; exact make_ev b n
theorem L_le_of {z w : Int} (h : z.natAbs ≤ w.natAbs) : L z ≤ L w := len_mono h
theorem ediv_abs (z : Int) (q : Nat) (hq : q ≠ 0) : (z / (q : Int)).natAbs ≤ z.natAbs := by
  by_cases hz : z < 0
  · have h3 : z / (q : Int) < 0 := Int.ediv_neg_of_neg_of_pos hz (by omega)
    have h4 : z ≤ z / (q : Int) := by
      rw [Int.le_ediv_iff_mul_le (by omega)]
      have : z * (q : Int) ≤ z * 1 := Int.mul_le_mul_of_nonpos_left (by omega) (by omega)
      omega
    omega
  · have h3 : 0 ≤ z / (q : Int) := Int.ediv_nonneg (by omega) (by omega)
    have h4 : z / (q : Int) ≤ z := Int.ediv_le_self _ (by omega)
    omega
theorem wover_ev (z : Int) (q : Nat) (hq : q ≠ 0) (hz : L z ≤ 1073741824) (hl : len q ≤ 1073741824) :
    Ev (fun k => dendronref02_Over.f k (il z).1 (il z).2 (il (q : Int)).1 (il (q : Int)).2) ((il (z / q)).1, (il (z / q)).2, (il (z % q)).1, (il (z % q)).2) := by
  have ho := over_ev z.natAbs q hq (by omega) (by have : L z = len z.natAbs := rfl; omega)
  have hd := L_le_of (ediv_abs z q hq)
  have hqL : L (q : Int) = len q := L_nat q
  have ht := wtimes_ev (z / q) (q : Int) (by omega)
  have hm := wminus_ev (z / q * (q : Int))
  have hm1 := L_mul (z / (q : Int)) (q : Int)
  have hp := wplus_ev z (-(z / q * (q : Int))) (by omega) (by rw [L_neg]; omega)
  have e : z + -(z / q * (q : Int)) = z % q := by
    have := Int.emod_def z (q : Int)
    rw [Int.mul_comm (q : Int)] at this
    omega
  rw [e] at hp
  have eq1 : (il (q : Int)).1 = false := decide_eq_false (show ¬ ((q : Int) < 0) by omega)
  have eq2 : (il (q : Int)).2 = lm q := by show lm (q : Int).natAbs = _; rw [Int.natAbs_natCast]
  have tail : Ev (fun k => (dendronref02_Times.f k (il (z / q)).1 (il (z / q)).2 false (lm q)).bind fun v41 => (dendronref02_Minus.f v41.1 v41.2).bind fun v42 => (dendronref02_Plus.f k (il z).1 (il z).2 v42.1 v42.2).bind fun v43 => some ((il (z / q)).1, (il (z / q)).2, v43.1, v43.2)) ((il (z / q)).1, (il (z / q)).2, (il (z % q)).1, (il (z % q)).2) := by
    rw [eq1, eq2] at ht
    exact Ev.bind ht (Ev.bind hm (Ev.bind hp (Ev.now _)))
  unfold dendronref02_Over.f
  rw [eq1, eq2]
  refine Ev.bind ho ?_
  by_cases hz0 : z < 0
  · obtain ⟨n, rfl⟩ : ∃ n : Nat, z = -(n : Int) := ⟨z.natAbs, by omega⟩
    rw [Int.natAbs_neg, Int.natAbs_natCast]
    have e1 : (il (-(n : Int))).1 = true := decide_eq_true hz0
    have e3 : (!((il (-(n : Int))).1 == false)) = true := by rw [e1]; rfl
    have e4 : (il (-(n : Int))).1 ≠ false := by rw [e1]; decide
    refine Ev.bind (il_ev (z := -((n / q : Nat) : Int)) (by rw [e3]; rfl)) (Ev.if_pos e4 ?_)
    by_cases hr : n % q = 0
    · refine Ev.if_neg (by rw [lm_length, hr, len_zero]; decide) ?_
      have := (div_neg_exact n q hq hr).1
      rw [this] at tail ⊢
      exact tail
    · have hp0 := len_eq_zero (n := n % q)
      refine Ev.if_pos (by rw [lm_length]; omega) (Ev.bind (wsmall_ev (-1) (by decide) (by decide)) ?_)
      have hx := (div_neg_more n q hq hr).1
      have hadd := wplus_ev (-((n / q : Nat) : Int)) (-1) (by
        rw [L_neg, L_nat]
        have := len_mono (Nat.div_le_self n q)
        have e5 : L (-(n : Int)) = len n := by rw [L_neg, L_nat]
        omega) (by have := L_pair (-1) (by decide); omega)
      have e6 : -((n / q : Nat) : Int) + -1 = -(n : Int) / (q : Int) := by rw [hx]; omega
      rw [e6] at hadd
      exact Ev.bind hadd tail
  · obtain ⟨n, rfl⟩ : ∃ n : Nat, z = (n : Int) := ⟨z.natAbs, by omega⟩
    rw [Int.natAbs_natCast]
    have e1 : (il (n : Int)).1 = false := decide_eq_false hz0
    have e3 : (!((il (n : Int)).1 == false)) = false := by rw [e1]; rfl
    refine Ev.bind (il_ev (z := (n : Int) / (q : Int)) (by rw [e3]; rfl)) (Ev.if_neg (fun h => h e1) tail)
theorem floor_mk (z : Int) (q : Nat) (hq : q ≠ 0) : (mkRat z q).floor = z / (q : Int) := by
  rw [Rat.floor_def, num_mk z q hq, den_mk z q hq]
  obtain ⟨g, g0, e1, e2⟩ := rnum_gcd z q hq
  have : z / (q : Int) = ((g : Int) * rnum z q) / ((g : Int) * (rden z q : Int)) := by
    rw [← e1]
    congr 1
    rw [← Int.natCast_mul, ← e2]
  rw [this, Int.mul_ediv_mul_of_pos _ _ (by omega)]
theorem FL.floor {x : Rat} {a : Nat} {r : Rt} (h : FL x a r) (ha : a ≤ 1073741824) : Ev (fun k => dendronref03_Floor.f k r.1 r.2.1 r.2.2) (il x.floor) := by
  obtain ⟨z, q, rfl, q0, rfl, h4, h5⟩ := h
  rw [floor_mk z q q0]
  unfold dendronref03_Floor.f
  exact Ev.bind (fden_ev _ _ q) (Ev.bind (wover_ev z q q0 (by omega) (by omega)) (Ev.now _))
theorem FL.floor_L {x : Rat} {a : Nat} {r : Rt} (h : FL x a r) : L x.floor ≤ a := by
  obtain ⟨z, q, rfl, q0, rfl, h4, h5⟩ := h
  rw [floor_mk z q q0]
  exact Nat.le_trans (L_le_of (ediv_abs z q q0)) h4
theorem wis_true (z : Int) (h : Th.len z.natAbs ≤ 268435456) : Ev (fun k => dendronref02_Is.f k (wl z).1 (wl z).2 (il z).1 (il z).2) true := by
  unfold dendronref02_Is.f
  have e2 : (wl z).2 = Th.lm z.natAbs := rfl
  have hr := right_ev (wl z).2 (Th.lm_ok _).U (by rw [wl_lens]; omega)
  rw [e2, Th.val_lm, decide_eq_true rfl, ← e2] at hr
  have hf := wfrom_ev (wl z).1 (wl z).2 (Th.lm_ok _).U (by rw [wl_lens]; omega)
  rw [wv_wl] at hf
  have hL : L z ≤ 3 * Th.len z.natAbs := len_of_len _
  have ho := worder_ev z z (by omega) (by omega)
  have e : (cmpI z z == 0) = true := by unfold cmpI; simp
  have tail : Ev (fun k => (dendronref02_From.f k (wl z).1 (wl z).2).bind fun v19 => (dendronref02_Order.f k v19.1 v19.2 (il z).1 (il z).2).bind fun v21 => some (v21 == 0)) true :=
    Ev.bind hf (Ev.bind ho ((Ev.now _).of_eq e))
  refine Ev.bind hr (Ev.if_pos rfl ?_)
  by_cases h0 : z = 0
  · subst h0
    refine Ev.if_neg ?_ (Ev.if_neg (by decide) tail)
    rw [wl_lens, show (0 : Int).natAbs = 0 from rfl, Th.len_zero]
    decide
  · have := Th.len_eq_zero (n := z.natAbs)
    exact Ev.if_pos (by rw [wl_lens]; omega) tail
end Go.DI.Th.D
namespace Go.DI.Th
open Go Go.RowKit Go.DI

/-- Where the first answers, the second answers the same. -/
def Le {α : Type} (a b : Option α) : Prop := ∀ r, a = some r → b = some r
theorem Le.refl {α : Type} (a : Option α) : Le a a := fun _ h => h
theorem Le.none {α : Type} (b : Option α) : Le none b := fun _ h => by cases h
theorem Le.eqs {α : Type} {a b c d : Option α} (h : a = c) (h' : b = d) (k : Le c d) : Le a b := by subst h; subst h'; exact k
theorem Le.bind {α β : Type} {a b : Option α} {f g : α → Option β} (h : Le a b) (k : ∀ v, Le (f v) (g v)) : Le (a.bind f) (b.bind g) := by
  intro r hr
  cases ha : a with
  | none => rw [ha] at hr; cases hr
  | some v =>
    rw [ha] at hr
    rw [h v ha]
    exact k v r hr
theorem Le.ite {α : Type} {c : Prop} [Decidable c] {a b a' b' : Option α} (h : Le a a') (k : Le b b') : Le (if c then a else b) (if c then a' else b') := by
  split
  · exact h
  · exact k
theorem Ev.mono {α : Type} {g : Nat → Option α} (h : ∀ k, Le (g k) (g (k + 1))) {K : Nat} {r : α} (hk : g K = some r) : Ev g r := by
  refine ⟨K, fun n hn => ?_⟩
  induction hn with
  | refl => exact hk
  | step _ ih => exact h _ r ih
theorem nat_trim.monoL (k : Nat) : (∀ x0 x1, Le (nat_trim.l0 k x0 x1) (nat_trim.l0 (k + 1) x0 x1)) := by
  induction k with
  | zero => exact fun _ _ => Le.none _
  | succ k ih =>
    intro x0 x1
    refine Le.eqs (nat_trim.l0.eq_2 ..) (nat_trim.l0.eq_2 ..) ?_
    repeat' (first
      | with_reducible exact Le.refl _
      | with_reducible refine Le.ite ?_ ?_
      | with_reducible exact ih _ _
      | with_reducible refine Le.bind (ih _ _) (fun _ => ?_)
      | with_reducible refine Le.bind (Le.refl _) (fun _ => ?_)
      | split)
theorem nat_trim.mono (k : Nat) : ∀ x0, Le (nat_trim.f k x0) (nat_trim.f (k + 1) x0) := by
  intro x0
  unfold nat_trim.f
  repeat' (first
    | with_reducible exact Le.refl _
    | with_reducible refine Le.ite ?_ ?_
    | with_reducible exact (nat_trim.monoL k) _ _
    | with_reducible refine Le.bind (Le.refl _) (fun _ => ?_)
    | split)
theorem nat_Clean.monoL (k : Nat) : (∀ x0 x1 x2 x3, Le (nat_Clean.l0 k x0 x1 x2 x3) (nat_Clean.l0 (k + 1) x0 x1 x2 x3)) := by
  induction k with
  | zero => exact fun _ _ _ _ => Le.none _
  | succ k ih =>
    intro x0 x1 x2 x3
    refine Le.eqs (nat_Clean.l0.eq_2 ..) (nat_Clean.l0.eq_2 ..) ?_
    repeat' (first
      | with_reducible exact Le.refl _
      | with_reducible refine Le.ite ?_ ?_
      | with_reducible exact ih _ _ _ _
      | with_reducible refine Le.bind (ih _ _ _ _) (fun _ => ?_)
      | with_reducible refine Le.bind (nat_trim.mono k _) (fun _ => ?_)
      | with_reducible exact nat_trim.mono k _
      | with_reducible refine Le.bind (Le.refl _) (fun _ => ?_)
      | split)
theorem nat_Clean.mono (k : Nat) : ∀ x0, Le (nat_Clean.f k x0) (nat_Clean.f (k + 1) x0) := by
  intro x0
  unfold nat_Clean.f
  repeat' (first
    | with_reducible exact Le.refl _
    | with_reducible refine Le.ite ?_ ?_
    | with_reducible exact (nat_Clean.monoL k) _ _ _ _
    | with_reducible refine Le.bind (Le.refl _) (fun _ => ?_)
    | split)
theorem whole_Clean.mono (k : Nat) : ∀ x0 x1, Le (whole_Clean.f k x0 x1) (whole_Clean.f (k + 1) x0 x1) := by
  intro x0 x1
  unfold whole_Clean.f
  repeat' (first
    | with_reducible exact Le.refl _
    | with_reducible refine Le.ite ?_ ?_
    | with_reducible refine Le.bind (nat_Clean.mono k _) (fun _ => ?_)
    | with_reducible exact nat_Clean.mono k _
    | with_reducible refine Le.bind (Le.refl _) (fun _ => ?_)
    | split)
theorem whole_Sign.mono (k : Nat) : ∀ x0 x1, Le (whole_Sign.f k x0 x1) (whole_Sign.f (k + 1) x0 x1) := by
  intro x0 x1
  unfold whole_Sign.f
  repeat' (first
    | with_reducible exact Le.refl _
    | with_reducible refine Le.ite ?_ ?_
    | with_reducible refine Le.bind (whole_Clean.mono k _ _) (fun _ => ?_)
    | with_reducible exact whole_Clean.mono k _ _
    | with_reducible refine Le.bind (Le.refl _) (fun _ => ?_)
    | split)
theorem whole_Neg.mono (k : Nat) : ∀ x0 x1, Le (whole_Neg.f k x0 x1) (whole_Neg.f (k + 1) x0 x1) := by
  intro x0 x1
  unfold whole_Neg.f
  repeat' (first
    | with_reducible exact Le.refl _
    | with_reducible refine Le.ite ?_ ?_
    | with_reducible refine Le.bind (whole_Clean.mono k _ _) (fun _ => ?_)
    | with_reducible exact whole_Clean.mono k _ _
    | with_reducible refine Le.bind (Le.refl _) (fun _ => ?_)
    | split)
theorem nat_Of.mono (k : Nat) : ∀ x0, Le (nat_Of.f k x0) (nat_Of.f (k + 1) x0) := by
  intro x0
  unfold nat_Of.f
  repeat' (first
    | with_reducible exact Le.refl _
    | with_reducible refine Le.ite ?_ ?_
    | with_reducible refine Le.bind (nat_trim.mono k _) (fun _ => ?_)
    | with_reducible exact nat_trim.mono k _
    | with_reducible refine Le.bind (Le.refl _) (fun _ => ?_)
    | split)
theorem nat_order.monoL (k : Nat) : (∀ x0 x1 x2, Le (nat_order.l0 k x0 x1 x2) (nat_order.l0 (k + 1) x0 x1 x2)) := by
  induction k with
  | zero => exact fun _ _ _ => Le.none _
  | succ k ih =>
    intro x0 x1 x2
    refine Le.eqs (nat_order.l0.eq_2 ..) (nat_order.l0.eq_2 ..) ?_
    repeat' (first
      | with_reducible exact Le.refl _
      | with_reducible refine Le.ite ?_ ?_
      | with_reducible exact ih _ _ _
      | with_reducible refine Le.bind (ih _ _ _) (fun _ => ?_)
      | with_reducible refine Le.bind (Le.refl _) (fun _ => ?_)
      | split)
theorem nat_order.mono (k : Nat) : ∀ x0 x1, Le (nat_order.f k x0 x1) (nat_order.f (k + 1) x0 x1) := by
  intro x0 x1
  unfold nat_order.f
  repeat' (first
    | with_reducible exact Le.refl _
    | with_reducible refine Le.ite ?_ ?_
    | with_reducible exact (nat_order.monoL k) _ _ _
    | with_reducible refine Le.bind (Le.refl _) (fun _ => ?_)
    | split)
theorem nat_To.mono (k : Nat) : ∀ x0, Le (nat_To.f k x0) (nat_To.f (k + 1) x0) := by
  intro x0
  unfold nat_To.f
  repeat' (first
    | with_reducible exact Le.refl _
    | with_reducible refine Le.ite ?_ ?_
    | with_reducible refine Le.bind (nat_Clean.mono k _) (fun _ => ?_)
    | with_reducible exact nat_Clean.mono k _
    | with_reducible refine Le.bind (Le.refl _) (fun _ => ?_)
    | split)
theorem nat_euclid.monoL (k : Nat) : (∀ x0 x1, Le (nat_euclid.l0 k x0 x1) (nat_euclid.l0 (k + 1) x0 x1)) := by
  induction k with
  | zero => exact fun _ _ => Le.none _
  | succ k ih =>
    intro x0 x1
    refine Le.eqs (nat_euclid.l0.eq_2 ..) (nat_euclid.l0.eq_2 ..) ?_
    repeat' (first
      | with_reducible exact Le.refl _
      | with_reducible refine Le.ite ?_ ?_
      | with_reducible exact ih _ _
      | with_reducible refine Le.bind (ih _ _) (fun _ => ?_)
      | with_reducible refine Le.bind (nat_Of.mono k _) (fun _ => ?_)
      | with_reducible exact nat_Of.mono k _
      | with_reducible refine Le.bind (Le.refl _) (fun _ => ?_)
      | split)
theorem nat_euclid.mono (k : Nat) : ∀ x0 x1, Le (nat_euclid.f k x0 x1) (nat_euclid.f (k + 1) x0 x1) := by
  intro x0 x1
  unfold nat_euclid.f
  repeat' (first
    | with_reducible exact Le.refl _
    | with_reducible refine Le.ite ?_ ?_
    | with_reducible exact (nat_euclid.monoL k) _ _
    | with_reducible refine Le.bind (nat_To.mono k _) (fun _ => ?_)
    | with_reducible exact nat_To.mono k _
    | with_reducible refine Le.bind (Le.refl _) (fun _ => ?_)
    | split)
theorem nat_zeros.monoL (k : Nat) : (∀ x0 x1 x2 x3, Le (nat_zeros.l0 k x0 x1 x2 x3) (nat_zeros.l0 (k + 1) x0 x1 x2 x3)) := by
  induction k with
  | zero => exact fun _ _ _ _ => Le.none _
  | succ k ih =>
    intro x0 x1 x2 x3
    refine Le.eqs (nat_zeros.l0.eq_2 ..) (nat_zeros.l0.eq_2 ..) ?_
    repeat' (first
      | with_reducible exact Le.refl _
      | with_reducible refine Le.ite ?_ ?_
      | with_reducible exact ih _ _ _ _
      | with_reducible refine Le.bind (ih _ _ _ _) (fun _ => ?_)
      | with_reducible refine Le.bind (Le.refl _) (fun _ => ?_)
      | split)
theorem nat_zeros.mono (k : Nat) : ∀ x0, Le (nat_zeros.f k x0) (nat_zeros.f (k + 1) x0) := by
  intro x0
  unfold nat_zeros.f
  repeat' (first
    | with_reducible exact Le.refl _
    | with_reducible refine Le.ite ?_ ?_
    | with_reducible exact (nat_zeros.monoL k) _ _ _ _
    | with_reducible refine Le.bind (Le.refl _) (fun _ => ?_)
    | split)
theorem nat_shr.monoL (k : Nat) : (∀ x0 x1 x2 x3 x4 x5, Le (nat_shr.l0 k x0 x1 x2 x3 x4 x5) (nat_shr.l0 (k + 1) x0 x1 x2 x3 x4 x5)) := by
  induction k with
  | zero => exact fun _ _ _ _ _ _ => Le.none _
  | succ k ih =>
    intro x0 x1 x2 x3 x4 x5
    refine Le.eqs (nat_shr.l0.eq_2 ..) (nat_shr.l0.eq_2 ..) ?_
    repeat' (first
      | with_reducible exact Le.refl _
      | with_reducible refine Le.ite ?_ ?_
      | with_reducible exact ih _ _ _ _ _ _
      | with_reducible refine Le.bind (ih _ _ _ _ _ _) (fun _ => ?_)
      | with_reducible refine Le.bind (nat_trim.mono k _) (fun _ => ?_)
      | with_reducible exact nat_trim.mono k _
      | with_reducible refine Le.bind (Le.refl _) (fun _ => ?_)
      | split)
theorem nat_shr.mono (k : Nat) : ∀ x0 x1, Le (nat_shr.f k x0 x1) (nat_shr.f (k + 1) x0 x1) := by
  intro x0 x1
  unfold nat_shr.f
  repeat' (first
    | with_reducible exact Le.refl _
    | with_reducible refine Le.ite ?_ ?_
    | with_reducible exact (nat_shr.monoL k) _ _ _ _ _ _
    | with_reducible refine Le.bind (Le.refl _) (fun _ => ?_)
    | split)
theorem nat_trimM.monoL (k : Nat) : (∀ x0 x1, Le (nat_trimM.l0 k x0 x1) (nat_trimM.l0 (k + 1) x0 x1)) := by
  induction k with
  | zero => exact fun _ _ => Le.none _
  | succ k ih =>
    intro x0 x1
    refine Le.eqs (nat_trimM.l0.eq_2 ..) (nat_trimM.l0.eq_2 ..) ?_
    repeat' (first
      | with_reducible exact Le.refl _
      | with_reducible refine Le.ite ?_ ?_
      | with_reducible exact ih _ _
      | with_reducible refine Le.bind (ih _ _) (fun _ => ?_)
      | with_reducible refine Le.bind (Le.refl _) (fun _ => ?_)
      | split)
theorem nat_trimM.mono (k : Nat) : ∀ x0, Le (nat_trimM.f k x0) (nat_trimM.f (k + 1) x0) := by
  intro x0
  unfold nat_trimM.f
  repeat' (first
    | with_reducible exact Le.refl _
    | with_reducible refine Le.ite ?_ ?_
    | with_reducible exact (nat_trimM.monoL k) _ _
    | with_reducible refine Le.bind (Le.refl _) (fun _ => ?_)
    | split)
theorem nat_shl.monoL (k : Nat) : (∀ x0 x1 x2 x3 x4 x5, Le (nat_shl.l0 k x0 x1 x2 x3 x4 x5) (nat_shl.l0 (k + 1) x0 x1 x2 x3 x4 x5)) := by
  induction k with
  | zero => exact fun _ _ _ _ _ _ => Le.none _
  | succ k ih =>
    intro x0 x1 x2 x3 x4 x5
    refine Le.eqs (nat_shl.l0.eq_2 ..) (nat_shl.l0.eq_2 ..) ?_
    repeat' (first
      | with_reducible exact Le.refl _
      | with_reducible refine Le.ite ?_ ?_
      | with_reducible exact ih _ _ _ _ _ _
      | with_reducible refine Le.bind (ih _ _ _ _ _ _) (fun _ => ?_)
      | with_reducible refine Le.bind (nat_trimM.mono k _) (fun _ => ?_)
      | with_reducible exact nat_trimM.mono k _
      | with_reducible refine Le.bind (Le.refl _) (fun _ => ?_)
      | split)
theorem nat_shl.mono (k : Nat) : ∀ x0 x1, Le (nat_shl.f k x0 x1) (nat_shl.f (k + 1) x0 x1) := by
  intro x0 x1
  unfold nat_shl.f
  repeat' (first
    | with_reducible exact Le.refl _
    | with_reducible refine Le.ite ?_ ?_
    | with_reducible exact (nat_shl.monoL k) _ _ _ _ _ _
    | with_reducible refine Le.bind (Le.refl _) (fun _ => ?_)
    | split)
theorem nat_small.monoL (k : Nat) : (∀ x0 x1 x2 x3 x4, Le (nat_small.l0 k x0 x1 x2 x3 x4) (nat_small.l0 (k + 1) x0 x1 x2 x3 x4)) := by
  induction k with
  | zero => exact fun _ _ _ _ _ => Le.none _
  | succ k ih =>
    intro x0 x1 x2 x3 x4
    refine Le.eqs (nat_small.l0.eq_2 ..) (nat_small.l0.eq_2 ..) ?_
    repeat' (first
      | with_reducible exact Le.refl _
      | with_reducible refine Le.ite ?_ ?_
      | with_reducible exact ih _ _ _ _ _
      | with_reducible refine Le.bind (ih _ _ _ _ _) (fun _ => ?_)
      | with_reducible refine Le.bind (nat_trim.mono k _) (fun _ => ?_)
      | with_reducible exact nat_trim.mono k _
      | with_reducible refine Le.bind (Le.refl _) (fun _ => ?_)
      | split)
theorem nat_small.mono (k : Nat) : ∀ x0 x1, Le (nat_small.f k x0 x1) (nat_small.f (k + 1) x0 x1) := by
  intro x0 x1
  unfold nat_small.f
  repeat' (first
    | with_reducible exact Le.refl _
    | with_reducible refine Le.ite ?_ ?_
    | with_reducible exact (nat_small.monoL k) _ _ _ _ _
    | with_reducible refine Le.bind (Le.refl _) (fun _ => ?_)
    | split)
theorem nat_take.monoL (k : Nat) : (∀ x0 x1 x2 x3 x4 x5 x6, Le (nat_take.l0 k x0 x1 x2 x3 x4 x5 x6) (nat_take.l0 (k + 1) x0 x1 x2 x3 x4 x5 x6)) := by
  induction k with
  | zero => exact fun _ _ _ _ _ _ _ => Le.none _
  | succ k ih =>
    intro x0 x1 x2 x3 x4 x5 x6
    refine Le.eqs (nat_take.l0.eq_2 ..) (nat_take.l0.eq_2 ..) ?_
    repeat' (first
      | with_reducible exact Le.refl _
      | with_reducible refine Le.ite ?_ ?_
      | with_reducible exact ih _ _ _ _ _ _ _
      | with_reducible refine Le.bind (ih _ _ _ _ _ _ _) (fun _ => ?_)
      | with_reducible refine Le.bind (Le.refl _) (fun _ => ?_)
      | split)
theorem nat_take.mono (k : Nat) : ∀ x0 x1 x2, Le (nat_take.f k x0 x1 x2) (nat_take.f (k + 1) x0 x1 x2) := by
  intro x0 x1 x2
  unfold nat_take.f
  repeat' (first
    | with_reducible exact Le.refl _
    | with_reducible refine Le.ite ?_ ?_
    | with_reducible exact (nat_take.monoL k) _ _ _ _ _ _ _
    | with_reducible refine Le.bind (Le.refl _) (fun _ => ?_)
    | split)
theorem nat_give.monoL (k : Nat) : (∀ x0 x1 x2 x3 x4, Le (nat_give.l0 k x0 x1 x2 x3 x4) (nat_give.l0 (k + 1) x0 x1 x2 x3 x4)) := by
  induction k with
  | zero => exact fun _ _ _ _ _ => Le.none _
  | succ k ih =>
    intro x0 x1 x2 x3 x4
    refine Le.eqs (nat_give.l0.eq_2 ..) (nat_give.l0.eq_2 ..) ?_
    repeat' (first
      | with_reducible exact Le.refl _
      | with_reducible refine Le.ite ?_ ?_
      | with_reducible exact ih _ _ _ _ _
      | with_reducible refine Le.bind (ih _ _ _ _ _) (fun _ => ?_)
      | with_reducible refine Le.bind (Le.refl _) (fun _ => ?_)
      | split)
theorem nat_give.mono (k : Nat) : ∀ x0 x1, Le (nat_give.f k x0 x1) (nat_give.f (k + 1) x0 x1) := by
  intro x0 x1
  unfold nat_give.f
  repeat' (first
    | with_reducible exact Le.refl _
    | with_reducible refine Le.ite ?_ ?_
    | with_reducible exact (nat_give.monoL k) _ _ _ _ _
    | with_reducible refine Le.bind (Le.refl _) (fun _ => ?_)
    | split)
theorem nat_digit.monoL (k : Nat) : (∀ x0 x1 x2 x3 x4, Le (nat_digit.l0 k x0 x1 x2 x3 x4) (nat_digit.l0 (k + 1) x0 x1 x2 x3 x4)) := by
  induction k with
  | zero => exact fun _ _ _ _ _ => Le.none _
  | succ k ih =>
    intro x0 x1 x2 x3 x4
    refine Le.eqs (nat_digit.l0.eq_2 ..) (nat_digit.l0.eq_2 ..) ?_
    repeat' (first
      | with_reducible exact Le.refl _
      | with_reducible refine Le.ite ?_ ?_
      | with_reducible exact ih _ _ _ _ _
      | with_reducible refine Le.bind (ih _ _ _ _ _) (fun _ => ?_)
      | with_reducible refine Le.bind (nat_take.mono k _ _ _) (fun _ => ?_)
      | with_reducible refine Le.bind (nat_give.mono k _ _) (fun _ => ?_)
      | with_reducible exact nat_take.mono k _ _ _
      | with_reducible exact nat_give.mono k _ _
      | with_reducible refine Le.bind (Le.refl _) (fun _ => ?_)
      | split)
theorem nat_digit.mono (k : Nat) : ∀ x0 x1, Le (nat_digit.f k x0 x1) (nat_digit.f (k + 1) x0 x1) := by
  intro x0 x1
  unfold nat_digit.f
  repeat' (first
    | with_reducible exact Le.refl _
    | with_reducible refine Le.ite ?_ ?_
    | with_reducible exact (nat_digit.monoL k) _ _ _ _ _
    | with_reducible refine Le.bind (Le.refl _) (fun _ => ?_)
    | split)
theorem nat_long.monoL (k : Nat) : (∀ x0 x1 x2 x3 x4 x5, Le (nat_long.l0 k x0 x1 x2 x3 x4 x5) (nat_long.l0 (k + 1) x0 x1 x2 x3 x4 x5)) := by
  induction k with
  | zero => exact fun _ _ _ _ _ _ => Le.none _
  | succ k ih =>
    intro x0 x1 x2 x3 x4 x5
    refine Le.eqs (nat_long.l0.eq_2 ..) (nat_long.l0.eq_2 ..) ?_
    repeat' (first
      | with_reducible exact Le.refl _
      | with_reducible refine Le.ite ?_ ?_
      | with_reducible exact ih _ _ _ _ _ _
      | with_reducible refine Le.bind (ih _ _ _ _ _ _) (fun _ => ?_)
      | with_reducible refine Le.bind (nat_digit.mono k _ _) (fun _ => ?_)
      | with_reducible refine Le.bind (nat_trim.mono k _) (fun _ => ?_)
      | with_reducible refine Le.bind (nat_shr.mono k _ _) (fun _ => ?_)
      | with_reducible exact nat_digit.mono k _ _
      | with_reducible exact nat_trim.mono k _
      | with_reducible exact nat_shr.mono k _ _
      | with_reducible refine Le.bind (Le.refl _) (fun _ => ?_)
      | split)
theorem nat_long.mono (k : Nat) : ∀ x0 x1, Le (nat_long.f k x0 x1) (nat_long.f (k + 1) x0 x1) := by
  intro x0 x1
  unfold nat_long.f
  repeat' (first
    | with_reducible exact Le.refl _
    | with_reducible refine Le.ite ?_ ?_
    | with_reducible exact (nat_long.monoL k) _ _ _ _ _ _
    | with_reducible refine Le.bind (nat_shl.mono k _ _) (fun _ => ?_)
    | with_reducible exact nat_shl.mono k _ _
    | with_reducible refine Le.bind (Le.refl _) (fun _ => ?_)
    | split)
theorem nat_DivMod.mono (k : Nat) : ∀ x0 x1, Le (nat_DivMod.f k x0 x1) (nat_DivMod.f (k + 1) x0 x1) := by
  intro x0 x1
  unfold nat_DivMod.f
  repeat' (first
    | with_reducible exact Le.refl _
    | with_reducible refine Le.ite ?_ ?_
    | with_reducible refine Le.bind (nat_Clean.mono k _) (fun _ => ?_)
    | with_reducible refine Le.bind (nat_order.mono k _ _) (fun _ => ?_)
    | with_reducible refine Le.bind (nat_small.mono k _ _) (fun _ => ?_)
    | with_reducible refine Le.bind (nat_Of.mono k _) (fun _ => ?_)
    | with_reducible refine Le.bind (nat_long.mono k _ _) (fun _ => ?_)
    | with_reducible exact nat_Clean.mono k _
    | with_reducible exact nat_order.mono k _ _
    | with_reducible exact nat_small.mono k _ _
    | with_reducible exact nat_Of.mono k _
    | with_reducible exact nat_long.mono k _ _
    | with_reducible refine Le.bind (Le.refl _) (fun _ => ?_)
    | split)
theorem nat_rest.mono (k : Nat) : ∀ x0 x1, Le (nat_rest.f k x0 x1) (nat_rest.f (k + 1) x0 x1) := by
  intro x0 x1
  unfold nat_rest.f
  repeat' (first
    | with_reducible exact Le.refl _
    | with_reducible refine Le.ite ?_ ?_
    | with_reducible refine Le.bind (nat_DivMod.mono k _ _) (fun _ => ?_)
    | with_reducible exact nat_DivMod.mono k _ _
    | with_reducible refine Le.bind (Le.refl _) (fun _ => ?_)
    | split)
theorem nat_minus.monoL (k : Nat) : (∀ x0 x1 x2 x3 x4 x5, Le (nat_minus.l0 k x0 x1 x2 x3 x4 x5) (nat_minus.l0 (k + 1) x0 x1 x2 x3 x4 x5)) := by
  induction k with
  | zero => exact fun _ _ _ _ _ _ => Le.none _
  | succ k ih =>
    intro x0 x1 x2 x3 x4 x5
    refine Le.eqs (nat_minus.l0.eq_2 ..) (nat_minus.l0.eq_2 ..) ?_
    repeat' (first
      | with_reducible exact Le.refl _
      | with_reducible refine Le.ite ?_ ?_
      | with_reducible exact ih _ _ _ _ _ _
      | with_reducible refine Le.bind (ih _ _ _ _ _ _) (fun _ => ?_)
      | with_reducible refine Le.bind (nat_trim.mono k _) (fun _ => ?_)
      | with_reducible exact nat_trim.mono k _
      | with_reducible refine Le.bind (Le.refl _) (fun _ => ?_)
      | split)
theorem nat_minus.mono (k : Nat) : ∀ x0 x1, Le (nat_minus.f k x0 x1) (nat_minus.f (k + 1) x0 x1) := by
  intro x0 x1
  unfold nat_minus.f
  repeat' (first
    | with_reducible exact Le.refl _
    | with_reducible refine Le.ite ?_ ?_
    | with_reducible exact (nat_minus.monoL k) _ _ _ _ _ _
    | with_reducible refine Le.bind (Le.refl _) (fun _ => ?_)
    | split)
theorem nat_Gcd.monoL (k : Nat) : (∀ x0 x1 x2 x3, Le (nat_Gcd.l0 k x0 x1 x2 x3) (nat_Gcd.l0 (k + 1) x0 x1 x2 x3)) := by
  induction k with
  | zero => exact fun _ _ _ _ => Le.none _
  | succ k ih =>
    intro x0 x1 x2 x3
    refine Le.eqs (nat_Gcd.l0.eq_2 ..) (nat_Gcd.l0.eq_2 ..) ?_
    repeat' (first
      | with_reducible exact Le.refl _
      | with_reducible refine Le.ite ?_ ?_
      | with_reducible exact ih _ _ _ _
      | with_reducible refine Le.bind (ih _ _ _ _) (fun _ => ?_)
      | with_reducible refine Le.bind (nat_order.mono k _ _) (fun _ => ?_)
      | with_reducible refine Le.bind (nat_shl.mono k _ _) (fun _ => ?_)
      | with_reducible refine Le.bind (nat_rest.mono k _ _) (fun _ => ?_)
      | with_reducible refine Le.bind (nat_zeros.mono k _) (fun _ => ?_)
      | with_reducible refine Le.bind (nat_shr.mono k _ _) (fun _ => ?_)
      | with_reducible refine Le.bind (nat_minus.mono k _ _) (fun _ => ?_)
      | with_reducible exact nat_order.mono k _ _
      | with_reducible exact nat_shl.mono k _ _
      | with_reducible exact nat_rest.mono k _ _
      | with_reducible exact nat_zeros.mono k _
      | with_reducible exact nat_shr.mono k _ _
      | with_reducible exact nat_minus.mono k _ _
      | with_reducible refine Le.bind (Le.refl _) (fun _ => ?_)
      | split)
theorem nat_Gcd.mono (k : Nat) : ∀ x0 x1, Le (nat_Gcd.f k x0 x1) (nat_Gcd.f (k + 1) x0 x1) := by
  intro x0 x1
  unfold nat_Gcd.f
  repeat' (first
    | with_reducible exact Le.refl _
    | with_reducible refine Le.ite ?_ ?_
    | with_reducible exact (nat_Gcd.monoL k) _ _ _ _
    | with_reducible refine Le.bind (nat_Clean.mono k _) (fun _ => ?_)
    | with_reducible refine Le.bind (nat_euclid.mono k _ _) (fun _ => ?_)
    | with_reducible refine Le.bind (nat_zeros.mono k _) (fun _ => ?_)
    | with_reducible refine Le.bind (nat_shr.mono k _ _) (fun _ => ?_)
    | with_reducible exact nat_Clean.mono k _
    | with_reducible exact nat_euclid.mono k _ _
    | with_reducible exact nat_zeros.mono k _
    | with_reducible exact nat_shr.mono k _ _
    | with_reducible refine Le.bind (Le.refl _) (fun _ => ?_)
    | split)
theorem ratio_form.mono (k : Nat) : ∀ x0 x1 x2, Le (ratio_form.f k x0 x1 x2) (ratio_form.f (k + 1) x0 x1 x2) := by
  intro x0 x1 x2
  unfold ratio_form.f
  repeat' (first
    | with_reducible exact Le.refl _
    | with_reducible refine Le.ite ?_ ?_
    | with_reducible refine Le.bind (nat_Of.mono k _) (fun _ => ?_)
    | with_reducible refine Le.bind (nat_Gcd.mono k _ _) (fun _ => ?_)
    | with_reducible refine Le.bind (nat_DivMod.mono k _ _) (fun _ => ?_)
    | with_reducible exact nat_Of.mono k _
    | with_reducible exact nat_Gcd.mono k _ _
    | with_reducible exact nat_DivMod.mono k _ _
    | with_reducible refine Le.bind (Le.refl _) (fun _ => ?_)
    | split)
theorem ratio_Make.mono (k : Nat) : ∀ x0 x1 x2 x3, Le (ratio_Make.f k x0 x1 x2 x3) (ratio_Make.f (k + 1) x0 x1 x2 x3) := by
  intro x0 x1 x2 x3
  unfold ratio_Make.f
  repeat' (first
    | with_reducible exact Le.refl _
    | with_reducible refine Le.ite ?_ ?_
    | with_reducible refine Le.bind (whole_Clean.mono k _ _) (fun _ => ?_)
    | with_reducible refine Le.bind (whole_Sign.mono k _ _) (fun _ => ?_)
    | with_reducible refine Le.bind (whole_Neg.mono k _ _) (fun _ => ?_)
    | with_reducible refine Le.bind (ratio_form.mono k _ _ _) (fun _ => ?_)
    | with_reducible exact whole_Clean.mono k _ _
    | with_reducible exact whole_Sign.mono k _ _
    | with_reducible exact whole_Neg.mono k _ _
    | with_reducible exact ratio_form.mono k _ _ _
    | with_reducible refine Le.bind (Le.refl _) (fun _ => ?_)
    | split)
theorem ratio_Zero.mono (k : Nat) : Le (ratio_Zero.f k ) (ratio_Zero.f (k + 1) ) := by
  unfold ratio_Zero.f
  repeat' (first
    | with_reducible exact Le.refl _
    | with_reducible refine Le.ite ?_ ?_
    | with_reducible refine Le.bind (nat_Of.mono k _) (fun _ => ?_)
    | with_reducible exact nat_Of.mono k _
    | with_reducible refine Le.bind (Le.refl _) (fun _ => ?_)
    | split)
theorem whole_Of.mono (k : Nat) : ∀ x0, Le (whole_Of.f k x0) (whole_Of.f (k + 1) x0) := by
  intro x0
  unfold whole_Of.f
  repeat' (first
    | with_reducible exact Le.refl _
    | with_reducible refine Le.ite ?_ ?_
    | with_reducible refine Le.bind (nat_Of.mono k _) (fun _ => ?_)
    | with_reducible exact nat_Of.mono k _
    | with_reducible refine Le.bind (Le.refl _) (fun _ => ?_)
    | split)
theorem ratio_Of.mono (k : Nat) : ∀ x0, Le (ratio_Of.f k x0) (ratio_Of.f (k + 1) x0) := by
  intro x0
  unfold ratio_Of.f
  repeat' (first
    | with_reducible exact Le.refl _
    | with_reducible refine Le.ite ?_ ?_
    | with_reducible refine Le.bind (whole_Of.mono k _) (fun _ => ?_)
    | with_reducible refine Le.bind (nat_Of.mono k _) (fun _ => ?_)
    | with_reducible exact whole_Of.mono k _
    | with_reducible exact nat_Of.mono k _
    | with_reducible refine Le.bind (Le.refl _) (fun _ => ?_)
    | split)
theorem ratio_One.mono (k : Nat) : Le (ratio_One.f k ) (ratio_One.f (k + 1) ) := by
  unfold ratio_One.f
  repeat' (first
    | with_reducible exact Le.refl _
    | with_reducible refine Le.ite ?_ ?_
    | with_reducible refine Le.bind (ratio_Of.mono k _) (fun _ => ?_)
    | with_reducible exact ratio_Of.mono k _
    | with_reducible refine Le.bind (Le.refl _) (fun _ => ?_)
    | split)
theorem ratio_Int.mono (k : Nat) : ∀ x0 x1, Le (ratio_Int.f k x0 x1) (ratio_Int.f (k + 1) x0 x1) := by
  intro x0 x1
  unfold ratio_Int.f
  repeat' (first
    | with_reducible exact Le.refl _
    | with_reducible refine Le.ite ?_ ?_
    | with_reducible refine Le.bind (whole_Clean.mono k _ _) (fun _ => ?_)
    | with_reducible refine Le.bind (nat_Of.mono k _) (fun _ => ?_)
    | with_reducible exact whole_Clean.mono k _ _
    | with_reducible exact nat_Of.mono k _
    | with_reducible refine Le.bind (Le.refl _) (fun _ => ?_)
    | split)
theorem ratio_Clean.mono (k : Nat) : ∀ x0 x1 x2, Le (ratio_Clean.f k x0 x1 x2) (ratio_Clean.f (k + 1) x0 x1 x2) := by
  intro x0 x1 x2
  unfold ratio_Clean.f
  repeat' (first
    | with_reducible exact Le.refl _
    | with_reducible refine Le.ite ?_ ?_
    | with_reducible refine Le.bind (nat_Clean.mono k _) (fun _ => ?_)
    | with_reducible refine Le.bind (ratio_Zero.mono k ) (fun _ => ?_)
    | with_reducible refine Le.bind (whole_Clean.mono k _ _) (fun _ => ?_)
    | with_reducible refine Le.bind (ratio_form.mono k _ _ _) (fun _ => ?_)
    | with_reducible exact nat_Clean.mono k _
    | with_reducible exact ratio_Zero.mono k 
    | with_reducible exact whole_Clean.mono k _ _
    | with_reducible exact ratio_form.mono k _ _ _
    | with_reducible refine Le.bind (Le.refl _) (fun _ => ?_)
    | split)
theorem ratio_Frac.mono (k : Nat) : ∀ x0 x1, Le (ratio_Frac.f k x0 x1) (ratio_Frac.f (k + 1) x0 x1) := by
  intro x0 x1
  unfold ratio_Frac.f
  repeat' (first
    | with_reducible exact Le.refl _
    | with_reducible refine Le.ite ?_ ?_
    | with_reducible refine Le.bind (whole_Of.mono k _) (fun _ => ?_)
    | with_reducible refine Le.bind (ratio_Make.mono k _ _ _ _) (fun _ => ?_)
    | with_reducible refine Le.bind (ratio_Clean.mono k _ _ _) (fun _ => ?_)
    | with_reducible exact whole_Of.mono k _
    | with_reducible exact ratio_Make.mono k _ _ _ _
    | with_reducible exact ratio_Clean.mono k _ _ _
    | with_reducible refine Le.bind (Le.refl _) (fun _ => ?_)
    | split)
theorem nat_Add.monoL (k : Nat) : (∀ x0 x1 x2 x3 x4 x5, Le (nat_Add.l0 k x0 x1 x2 x3 x4 x5) (nat_Add.l0 (k + 1) x0 x1 x2 x3 x4 x5)) := by
  induction k with
  | zero => exact fun _ _ _ _ _ _ => Le.none _
  | succ k ih =>
    intro x0 x1 x2 x3 x4 x5
    refine Le.eqs (nat_Add.l0.eq_2 ..) (nat_Add.l0.eq_2 ..) ?_
    repeat' (first
      | with_reducible exact Le.refl _
      | with_reducible refine Le.ite ?_ ?_
      | with_reducible exact ih _ _ _ _ _ _
      | with_reducible refine Le.bind (ih _ _ _ _ _ _) (fun _ => ?_)
      | with_reducible refine Le.bind (nat_trim.mono k _) (fun _ => ?_)
      | with_reducible exact nat_trim.mono k _
      | with_reducible refine Le.bind (Le.refl _) (fun _ => ?_)
      | split)
theorem nat_Add.mono (k : Nat) : ∀ x0 x1, Le (nat_Add.f k x0 x1) (nat_Add.f (k + 1) x0 x1) := by
  intro x0 x1
  unfold nat_Add.f
  repeat' (first
    | with_reducible exact Le.refl _
    | with_reducible refine Le.ite ?_ ?_
    | with_reducible exact (nat_Add.monoL k) _ _ _ _ _ _
    | with_reducible refine Le.bind (nat_Clean.mono k _) (fun _ => ?_)
    | with_reducible exact nat_Clean.mono k _
    | with_reducible refine Le.bind (Le.refl _) (fun _ => ?_)
    | split)
theorem nat_Sub.mono (k : Nat) : ∀ x0 x1, Le (nat_Sub.f k x0 x1) (nat_Sub.f (k + 1) x0 x1) := by
  intro x0 x1
  unfold nat_Sub.f
  repeat' (first
    | with_reducible exact Le.refl _
    | with_reducible refine Le.ite ?_ ?_
    | with_reducible refine Le.bind (nat_Clean.mono k _) (fun _ => ?_)
    | with_reducible refine Le.bind (nat_order.mono k _ _) (fun _ => ?_)
    | with_reducible refine Le.bind (nat_minus.mono k _ _) (fun _ => ?_)
    | with_reducible exact nat_Clean.mono k _
    | with_reducible exact nat_order.mono k _ _
    | with_reducible exact nat_minus.mono k _ _
    | with_reducible refine Le.bind (Le.refl _) (fun _ => ?_)
    | split)
theorem whole_DivMod.mono (k : Nat) : ∀ x0 x1 x2 x3, Le (whole_DivMod.f k x0 x1 x2 x3) (whole_DivMod.f (k + 1) x0 x1 x2 x3) := by
  intro x0 x1 x2 x3
  unfold whole_DivMod.f
  repeat' (first
    | with_reducible exact Le.refl _
    | with_reducible refine Le.ite ?_ ?_
    | with_reducible refine Le.bind (whole_Clean.mono k _ _) (fun _ => ?_)
    | with_reducible refine Le.bind (nat_DivMod.mono k _ _) (fun _ => ?_)
    | with_reducible refine Le.bind (nat_Of.mono k _) (fun _ => ?_)
    | with_reducible refine Le.bind (nat_Add.mono k _ _) (fun _ => ?_)
    | with_reducible refine Le.bind (nat_Sub.mono k _ _) (fun _ => ?_)
    | with_reducible exact whole_Clean.mono k _ _
    | with_reducible exact nat_DivMod.mono k _ _
    | with_reducible exact nat_Of.mono k _
    | with_reducible exact nat_Add.mono k _ _
    | with_reducible exact nat_Sub.mono k _ _
    | with_reducible refine Le.bind (Le.refl _) (fun _ => ?_)
    | split)
theorem ratio_Floor.mono (k : Nat) : ∀ x0 x1 x2, Le (ratio_Floor.f k x0 x1 x2) (ratio_Floor.f (k + 1) x0 x1 x2) := by
  intro x0 x1 x2
  unfold ratio_Floor.f
  repeat' (first
    | with_reducible exact Le.refl _
    | with_reducible refine Le.ite ?_ ?_
    | with_reducible refine Le.bind (ratio_Clean.mono k _ _ _) (fun _ => ?_)
    | with_reducible refine Le.bind (whole_DivMod.mono k _ _ _ _) (fun _ => ?_)
    | with_reducible exact ratio_Clean.mono k _ _ _
    | with_reducible exact whole_DivMod.mono k _ _ _ _
    | with_reducible refine Le.bind (Le.refl _) (fun _ => ?_)
    | split)
theorem ratio_Neg.mono (k : Nat) : ∀ x0 x1 x2, Le (ratio_Neg.f k x0 x1 x2) (ratio_Neg.f (k + 1) x0 x1 x2) := by
  intro x0 x1 x2
  unfold ratio_Neg.f
  repeat' (first
    | with_reducible exact Le.refl _
    | with_reducible refine Le.ite ?_ ?_
    | with_reducible refine Le.bind (ratio_Clean.mono k _ _ _) (fun _ => ?_)
    | with_reducible refine Le.bind (whole_Neg.mono k _ _) (fun _ => ?_)
    | with_reducible exact ratio_Clean.mono k _ _ _
    | with_reducible exact whole_Neg.mono k _ _
    | with_reducible refine Le.bind (Le.refl _) (fun _ => ?_)
    | split)
theorem ratio_Ceil.mono (k : Nat) : ∀ x0 x1 x2, Le (ratio_Ceil.f k x0 x1 x2) (ratio_Ceil.f (k + 1) x0 x1 x2) := by
  intro x0 x1 x2
  unfold ratio_Ceil.f
  repeat' (first
    | with_reducible exact Le.refl _
    | with_reducible refine Le.ite ?_ ?_
    | with_reducible refine Le.bind (ratio_Neg.mono k _ _ _) (fun _ => ?_)
    | with_reducible refine Le.bind (ratio_Floor.mono k _ _ _) (fun _ => ?_)
    | with_reducible refine Le.bind (whole_Neg.mono k _ _) (fun _ => ?_)
    | with_reducible exact ratio_Neg.mono k _ _ _
    | with_reducible exact ratio_Floor.mono k _ _ _
    | with_reducible exact whole_Neg.mono k _ _
    | with_reducible refine Le.bind (Le.refl _) (fun _ => ?_)
    | split)
theorem nat_Cmp.mono (k : Nat) : ∀ x0 x1, Le (nat_Cmp.f k x0 x1) (nat_Cmp.f (k + 1) x0 x1) := by
  intro x0 x1
  unfold nat_Cmp.f
  repeat' (first
    | with_reducible exact Le.refl _
    | with_reducible refine Le.ite ?_ ?_
    | with_reducible refine Le.bind (nat_Clean.mono k _) (fun _ => ?_)
    | with_reducible refine Le.bind (nat_order.mono k _ _) (fun _ => ?_)
    | with_reducible exact nat_Clean.mono k _
    | with_reducible exact nat_order.mono k _ _
    | with_reducible refine Le.bind (Le.refl _) (fun _ => ?_)
    | split)
theorem whole_Cmp.mono (k : Nat) : ∀ x0 x1 x2 x3, Le (whole_Cmp.f k x0 x1 x2 x3) (whole_Cmp.f (k + 1) x0 x1 x2 x3) := by
  intro x0 x1 x2 x3
  unfold whole_Cmp.f
  repeat' (first
    | with_reducible exact Le.refl _
    | with_reducible refine Le.ite ?_ ?_
    | with_reducible refine Le.bind (whole_Clean.mono k _ _) (fun _ => ?_)
    | with_reducible refine Le.bind (nat_Cmp.mono k _ _) (fun _ => ?_)
    | with_reducible exact whole_Clean.mono k _ _
    | with_reducible exact nat_Cmp.mono k _ _
    | with_reducible refine Le.bind (Le.refl _) (fun _ => ?_)
    | split)
theorem nat_Mul.monoL (k : Nat) : (∀ x0 x1 x2 x3 x4, Le (nat_Mul.l0 k x0 x1 x2 x3 x4) (nat_Mul.l0 (k + 1) x0 x1 x2 x3 x4)) ∧ (∀ x0 x1 x2 x3 x4 x5 x6 x7 x8 x9 x10, Le (nat_Mul.l1 k x0 x1 x2 x3 x4 x5 x6 x7 x8 x9 x10) (nat_Mul.l1 (k + 1) x0 x1 x2 x3 x4 x5 x6 x7 x8 x9 x10)) := by
  induction k with
  | zero => exact ⟨fun _ _ _ _ _ => Le.none _, fun _ _ _ _ _ _ _ _ _ _ _ => Le.none _⟩
  | succ k ih =>
    refine ⟨?_, ?_⟩
    · intro x0 x1 x2 x3 x4
      refine Le.eqs (nat_Mul.l0.eq_2 ..) (nat_Mul.l0.eq_2 ..) ?_
      repeat' (first
        | with_reducible exact Le.refl _
        | with_reducible refine Le.ite ?_ ?_
        | with_reducible exact ih.2 _ _ _ _ _ _ _ _ _ _ _
        | with_reducible refine Le.bind (ih.2 _ _ _ _ _ _ _ _ _ _ _) (fun _ => ?_)
        | with_reducible refine Le.bind (nat_trim.mono k _) (fun _ => ?_)
        | with_reducible exact nat_trim.mono k _
        | with_reducible refine Le.bind (Le.refl _) (fun _ => ?_)
        | split)
    · intro x0 x1 x2 x3 x4 x5 x6 x7 x8 x9 x10
      refine Le.eqs (nat_Mul.l1.eq_2 ..) (nat_Mul.l1.eq_2 ..) ?_
      repeat' (first
        | with_reducible exact Le.refl _
        | with_reducible refine Le.ite ?_ ?_
        | with_reducible exact ih.1 _ _ _ _ _
        | with_reducible refine Le.bind (ih.1 _ _ _ _ _) (fun _ => ?_)
        | with_reducible exact ih.2 _ _ _ _ _ _ _ _ _ _ _
        | with_reducible refine Le.bind (ih.2 _ _ _ _ _ _ _ _ _ _ _) (fun _ => ?_)
        | with_reducible refine Le.bind (Le.refl _) (fun _ => ?_)
        | split)
theorem nat_Mul.mono (k : Nat) : ∀ x0 x1, Le (nat_Mul.f k x0 x1) (nat_Mul.f (k + 1) x0 x1) := by
  intro x0 x1
  unfold nat_Mul.f
  repeat' (first
    | with_reducible exact Le.refl _
    | with_reducible refine Le.ite ?_ ?_
    | with_reducible exact (nat_Mul.monoL k).1 _ _ _ _ _
    | with_reducible refine Le.bind (nat_Clean.mono k _) (fun _ => ?_)
    | with_reducible exact nat_Clean.mono k _
    | with_reducible refine Le.bind (Le.refl _) (fun _ => ?_)
    | split)
theorem whole_Mul.mono (k : Nat) : ∀ x0 x1 x2 x3, Le (whole_Mul.f k x0 x1 x2 x3) (whole_Mul.f (k + 1) x0 x1 x2 x3) := by
  intro x0 x1 x2 x3
  unfold whole_Mul.f
  repeat' (first
    | with_reducible exact Le.refl _
    | with_reducible refine Le.ite ?_ ?_
    | with_reducible refine Le.bind (whole_Clean.mono k _ _) (fun _ => ?_)
    | with_reducible refine Le.bind (nat_Mul.mono k _ _) (fun _ => ?_)
    | with_reducible exact whole_Clean.mono k _ _
    | with_reducible exact nat_Mul.mono k _ _
    | with_reducible refine Le.bind (Le.refl _) (fun _ => ?_)
    | split)
theorem ratio_Cmp.mono (k : Nat) : ∀ x0 x1 x2 x3 x4 x5, Le (ratio_Cmp.f k x0 x1 x2 x3 x4 x5) (ratio_Cmp.f (k + 1) x0 x1 x2 x3 x4 x5) := by
  intro x0 x1 x2 x3 x4 x5
  unfold ratio_Cmp.f
  repeat' (first
    | with_reducible exact Le.refl _
    | with_reducible refine Le.ite ?_ ?_
    | with_reducible refine Le.bind (ratio_Clean.mono k _ _ _) (fun _ => ?_)
    | with_reducible refine Le.bind (whole_Mul.mono k _ _ _ _) (fun _ => ?_)
    | with_reducible refine Le.bind (whole_Cmp.mono k _ _ _ _) (fun _ => ?_)
    | with_reducible exact ratio_Clean.mono k _ _ _
    | with_reducible exact whole_Mul.mono k _ _ _ _
    | with_reducible exact whole_Cmp.mono k _ _ _ _
    | with_reducible refine Le.bind (Le.refl _) (fun _ => ?_)
    | split)
theorem whole_Add.mono (k : Nat) : ∀ x0 x1 x2 x3, Le (whole_Add.f k x0 x1 x2 x3) (whole_Add.f (k + 1) x0 x1 x2 x3) := by
  intro x0 x1 x2 x3
  unfold whole_Add.f
  repeat' (first
    | with_reducible exact Le.refl _
    | with_reducible refine Le.ite ?_ ?_
    | with_reducible refine Le.bind (whole_Clean.mono k _ _) (fun _ => ?_)
    | with_reducible refine Le.bind (nat_Add.mono k _ _) (fun _ => ?_)
    | with_reducible refine Le.bind (nat_Cmp.mono k _ _) (fun _ => ?_)
    | with_reducible refine Le.bind (nat_Sub.mono k _ _) (fun _ => ?_)
    | with_reducible exact whole_Clean.mono k _ _
    | with_reducible exact nat_Add.mono k _ _
    | with_reducible exact nat_Cmp.mono k _ _
    | with_reducible exact nat_Sub.mono k _ _
    | with_reducible refine Le.bind (Le.refl _) (fun _ => ?_)
    | split)
theorem ratio_Add.mono (k : Nat) : ∀ x0 x1 x2 x3 x4 x5, Le (ratio_Add.f k x0 x1 x2 x3 x4 x5) (ratio_Add.f (k + 1) x0 x1 x2 x3 x4 x5) := by
  intro x0 x1 x2 x3 x4 x5
  unfold ratio_Add.f
  repeat' (first
    | with_reducible exact Le.refl _
    | with_reducible refine Le.ite ?_ ?_
    | with_reducible refine Le.bind (ratio_Clean.mono k _ _ _) (fun _ => ?_)
    | with_reducible refine Le.bind (whole_Mul.mono k _ _ _ _) (fun _ => ?_)
    | with_reducible refine Le.bind (whole_Add.mono k _ _ _ _) (fun _ => ?_)
    | with_reducible refine Le.bind (nat_Mul.mono k _ _) (fun _ => ?_)
    | with_reducible refine Le.bind (ratio_form.mono k _ _ _) (fun _ => ?_)
    | with_reducible exact ratio_Clean.mono k _ _ _
    | with_reducible exact whole_Mul.mono k _ _ _ _
    | with_reducible exact whole_Add.mono k _ _ _ _
    | with_reducible exact nat_Mul.mono k _ _
    | with_reducible exact ratio_form.mono k _ _ _
    | with_reducible refine Le.bind (Le.refl _) (fun _ => ?_)
    | split)
theorem ratio_Sub.mono (k : Nat) : ∀ x0 x1 x2 x3 x4 x5, Le (ratio_Sub.f k x0 x1 x2 x3 x4 x5) (ratio_Sub.f (k + 1) x0 x1 x2 x3 x4 x5) := by
  intro x0 x1 x2 x3 x4 x5
  unfold ratio_Sub.f
  repeat' (first
    | with_reducible exact Le.refl _
    | with_reducible refine Le.ite ?_ ?_
    | with_reducible refine Le.bind (ratio_Neg.mono k _ _ _) (fun _ => ?_)
    | with_reducible refine Le.bind (ratio_Add.mono k _ _ _ _ _ _) (fun _ => ?_)
    | with_reducible exact ratio_Neg.mono k _ _ _
    | with_reducible exact ratio_Add.mono k _ _ _ _ _ _
    | with_reducible refine Le.bind (Le.refl _) (fun _ => ?_)
    | split)
theorem ratio_Sign.mono (k : Nat) : ∀ x0 x1 x2, Le (ratio_Sign.f k x0 x1 x2) (ratio_Sign.f (k + 1) x0 x1 x2) := by
  intro x0 x1 x2
  unfold ratio_Sign.f
  repeat' (first
    | with_reducible exact Le.refl _
    | with_reducible refine Le.ite ?_ ?_
    | with_reducible refine Le.bind (ratio_Clean.mono k _ _ _) (fun _ => ?_)
    | with_reducible refine Le.bind (whole_Sign.mono k _ _) (fun _ => ?_)
    | with_reducible exact ratio_Clean.mono k _ _ _
    | with_reducible exact whole_Sign.mono k _ _
    | with_reducible refine Le.bind (Le.refl _) (fun _ => ?_)
    | split)
theorem ratio_Mul.mono (k : Nat) : ∀ x0 x1 x2 x3 x4 x5, Le (ratio_Mul.f k x0 x1 x2 x3 x4 x5) (ratio_Mul.f (k + 1) x0 x1 x2 x3 x4 x5) := by
  intro x0 x1 x2 x3 x4 x5
  unfold ratio_Mul.f
  repeat' (first
    | with_reducible exact Le.refl _
    | with_reducible refine Le.ite ?_ ?_
    | with_reducible refine Le.bind (ratio_Clean.mono k _ _ _) (fun _ => ?_)
    | with_reducible refine Le.bind (whole_Mul.mono k _ _ _ _) (fun _ => ?_)
    | with_reducible refine Le.bind (nat_Mul.mono k _ _) (fun _ => ?_)
    | with_reducible refine Le.bind (ratio_form.mono k _ _ _) (fun _ => ?_)
    | with_reducible exact ratio_Clean.mono k _ _ _
    | with_reducible exact whole_Mul.mono k _ _ _ _
    | with_reducible exact nat_Mul.mono k _ _
    | with_reducible exact ratio_form.mono k _ _ _
    | with_reducible refine Le.bind (Le.refl _) (fun _ => ?_)
    | split)
theorem ratio_Inv.mono (k : Nat) : ∀ x0 x1 x2, Le (ratio_Inv.f k x0 x1 x2) (ratio_Inv.f (k + 1) x0 x1 x2) := by
  intro x0 x1 x2
  unfold ratio_Inv.f
  repeat' (first
    | with_reducible exact Le.refl _
    | with_reducible refine Le.ite ?_ ?_
    | with_reducible refine Le.bind (ratio_Clean.mono k _ _ _) (fun _ => ?_)
    | with_reducible refine Le.bind (ratio_Make.mono k _ _ _ _) (fun _ => ?_)
    | with_reducible exact ratio_Clean.mono k _ _ _
    | with_reducible exact ratio_Make.mono k _ _ _ _
    | with_reducible refine Le.bind (Le.refl _) (fun _ => ?_)
    | split)
theorem ratio_Div.mono (k : Nat) : ∀ x0 x1 x2 x3 x4 x5, Le (ratio_Div.f k x0 x1 x2 x3 x4 x5) (ratio_Div.f (k + 1) x0 x1 x2 x3 x4 x5) := by
  intro x0 x1 x2 x3 x4 x5
  unfold ratio_Div.f
  repeat' (first
    | with_reducible exact Le.refl _
    | with_reducible refine Le.ite ?_ ?_
    | with_reducible refine Le.bind (ratio_Inv.mono k _ _ _) (fun _ => ?_)
    | with_reducible refine Le.bind (ratio_Mul.mono k _ _ _ _ _ _) (fun _ => ?_)
    | with_reducible exact ratio_Inv.mono k _ _ _
    | with_reducible exact ratio_Mul.mono k _ _ _ _ _ _
    | with_reducible refine Le.bind (Le.refl _) (fun _ => ?_)
    | split)
theorem ratio_over.mono (k : Nat) : ∀ x0 x1 x2 x3 x4 x5, Le (ratio_over.f k x0 x1 x2 x3 x4 x5) (ratio_over.f (k + 1) x0 x1 x2 x3 x4 x5) := by
  intro x0 x1 x2 x3 x4 x5
  unfold ratio_over.f
  repeat' (first
    | with_reducible exact Le.refl _
    | with_reducible refine Le.ite ?_ ?_
    | with_reducible refine Le.bind (ratio_Div.mono k _ _ _ _ _ _) (fun _ => ?_)
    | with_reducible exact ratio_Div.mono k _ _ _ _ _ _
    | with_reducible refine Le.bind (Le.refl _) (fun _ => ?_)
    | split)
theorem ratio_unfold.monoL (k : Nat) : (∀ x0 x1 x2 x3 x4 x5, Le (ratio_unfold.l0 k x0 x1 x2 x3 x4 x5) (ratio_unfold.l0 (k + 1) x0 x1 x2 x3 x4 x5)) := by
  induction k with
  | zero => exact fun _ _ _ _ _ _ => Le.none _
  | succ k ih =>
    intro x0 x1 x2 x3 x4 x5
    refine Le.eqs (ratio_unfold.l0.eq_2 ..) (ratio_unfold.l0.eq_2 ..) ?_
    repeat' (first
      | with_reducible exact Le.refl _
      | with_reducible refine Le.ite ?_ ?_
      | with_reducible exact ih _ _ _ _ _ _
      | with_reducible refine Le.bind (ih _ _ _ _ _ _) (fun _ => ?_)
      | with_reducible refine Le.bind (ratio_One.mono k ) (fun _ => ?_)
      | with_reducible refine Le.bind (ratio_over.mono k _ _ _ _ _ _) (fun _ => ?_)
      | with_reducible refine Le.bind (ratio_Add.mono k _ _ _ _ _ _) (fun _ => ?_)
      | with_reducible exact ratio_One.mono k 
      | with_reducible exact ratio_over.mono k _ _ _ _ _ _
      | with_reducible exact ratio_Add.mono k _ _ _ _ _ _
      | with_reducible refine Le.bind (Le.refl _) (fun _ => ?_)
      | split)
theorem ratio_unfold.mono (k : Nat) : ∀ x0 x1 x2 x3, Le (ratio_unfold.f k x0 x1 x2 x3) (ratio_unfold.f (k + 1) x0 x1 x2 x3) := by
  intro x0 x1 x2 x3
  unfold ratio_unfold.f
  repeat' (first
    | with_reducible exact Le.refl _
    | with_reducible refine Le.ite ?_ ?_
    | with_reducible exact (ratio_unfold.monoL k) _ _ _ _ _ _
    | with_reducible refine Le.bind (Le.refl _) (fun _ => ?_)
    | split)
theorem ratio_Simplest.monoL (k : Nat) : (∀ x0 x1 x2 x3 x4 x5 x6 x7, Le (ratio_Simplest.l0 k x0 x1 x2 x3 x4 x5 x6 x7) (ratio_Simplest.l0 (k + 1) x0 x1 x2 x3 x4 x5 x6 x7)) ∧ (∀ x0 x1 x2 x3 x4 x5, Le (ratio_Simplest.f k x0 x1 x2 x3 x4 x5) (ratio_Simplest.f (k + 1) x0 x1 x2 x3 x4 x5)) := by
  induction k with
  | zero => exact ⟨fun _ _ _ _ _ _ _ _ => Le.none _, fun _ _ _ _ _ _ => Le.none _⟩
  | succ k ih =>
    refine ⟨?_, ?_⟩
    · intro x0 x1 x2 x3 x4 x5 x6 x7
      refine Le.eqs (ratio_Simplest.l0.eq_2 ..) (ratio_Simplest.l0.eq_2 ..) ?_
      repeat' (first
        | with_reducible exact Le.refl _
        | with_reducible refine Le.ite ?_ ?_
        | with_reducible exact ih.1 _ _ _ _ _ _ _ _
        | with_reducible refine Le.bind (ih.1 _ _ _ _ _ _ _ _) (fun _ => ?_)
        | with_reducible refine Le.bind (ratio_Ceil.mono k _ _ _) (fun _ => ?_)
        | with_reducible refine Le.bind (ratio_Int.mono k _ _) (fun _ => ?_)
        | with_reducible refine Le.bind (ratio_Cmp.mono k _ _ _ _ _ _) (fun _ => ?_)
        | with_reducible refine Le.bind (ratio_unfold.mono k _ _ _ _) (fun _ => ?_)
        | with_reducible refine Le.bind (ratio_Floor.mono k _ _ _) (fun _ => ?_)
        | with_reducible refine Le.bind (ratio_One.mono k ) (fun _ => ?_)
        | with_reducible refine Le.bind (ratio_Sub.mono k _ _ _ _ _ _) (fun _ => ?_)
        | with_reducible refine Le.bind (ratio_over.mono k _ _ _ _ _ _) (fun _ => ?_)
        | with_reducible exact ratio_Ceil.mono k _ _ _
        | with_reducible exact ratio_Int.mono k _ _
        | with_reducible exact ratio_Cmp.mono k _ _ _ _ _ _
        | with_reducible exact ratio_unfold.mono k _ _ _ _
        | with_reducible exact ratio_Floor.mono k _ _ _
        | with_reducible exact ratio_One.mono k 
        | with_reducible exact ratio_Sub.mono k _ _ _ _ _ _
        | with_reducible exact ratio_over.mono k _ _ _ _ _ _
        | with_reducible refine Le.bind (Le.refl _) (fun _ => ?_)
        | split)
    · intro x0 x1 x2 x3 x4 x5
      refine Le.eqs (ratio_Simplest.f.eq_2 ..) (ratio_Simplest.f.eq_2 ..) ?_
      repeat' (first
        | with_reducible exact Le.refl _
        | with_reducible refine Le.ite ?_ ?_
        | with_reducible exact ih.1 _ _ _ _ _ _ _ _
        | with_reducible refine Le.bind (ih.1 _ _ _ _ _ _ _ _) (fun _ => ?_)
        | with_reducible exact ih.2 _ _ _ _ _ _
        | with_reducible refine Le.bind (ih.2 _ _ _ _ _ _) (fun _ => ?_)
        | with_reducible refine Le.bind (ratio_Clean.mono k _ _ _) (fun _ => ?_)
        | with_reducible refine Le.bind (ratio_Cmp.mono k _ _ _ _ _ _) (fun _ => ?_)
        | with_reducible refine Le.bind (ratio_Sign.mono k _ _ _) (fun _ => ?_)
        | with_reducible refine Le.bind (ratio_Zero.mono k ) (fun _ => ?_)
        | with_reducible refine Le.bind (ratio_Neg.mono k _ _ _) (fun _ => ?_)
        | with_reducible exact ratio_Clean.mono k _ _ _
        | with_reducible exact ratio_Cmp.mono k _ _ _ _ _ _
        | with_reducible exact ratio_Sign.mono k _ _ _
        | with_reducible exact ratio_Zero.mono k 
        | with_reducible exact ratio_Neg.mono k _ _ _
        | with_reducible refine Le.bind (Le.refl _) (fun _ => ?_)
        | split)
theorem ratio_Simplest.mono (k : Nat) : ∀ x0 x1 x2 x3 x4 x5, Le (ratio_Simplest.f k x0 x1 x2 x3 x4 x5) (ratio_Simplest.f (k + 1) x0 x1 x2 x3 x4 x5) := (ratio_Simplest.monoL k).2
theorem ratio_Same.mono (k : Nat) : ∀ x0 x1 x2 x3 x4 x5, Le (ratio_Same.f k x0 x1 x2 x3 x4 x5) (ratio_Same.f (k + 1) x0 x1 x2 x3 x4 x5) := by
  intro x0 x1 x2 x3 x4 x5
  unfold ratio_Same.f
  repeat' (first
    | with_reducible exact Le.refl _
    | with_reducible refine Le.ite ?_ ?_
    | with_reducible refine Le.bind (ratio_Cmp.mono k _ _ _ _ _ _) (fun _ => ?_)
    | with_reducible exact ratio_Cmp.mono k _ _ _ _ _ _
    | with_reducible refine Le.bind (Le.refl _) (fun _ => ?_)
    | split)
theorem ratio_middle.mono (k : Nat) : ∀ x0 x1 x2 x3 x4 x5, Le (ratio_middle.f k x0 x1 x2 x3 x4 x5) (ratio_middle.f (k + 1) x0 x1 x2 x3 x4 x5) := by
  intro x0 x1 x2 x3 x4 x5
  unfold ratio_middle.f
  repeat' (first
    | with_reducible exact Le.refl _
    | with_reducible refine Le.ite ?_ ?_
    | with_reducible refine Le.bind (whole_Add.mono k _ _ _ _) (fun _ => ?_)
    | with_reducible refine Le.bind (nat_Add.mono k _ _) (fun _ => ?_)
    | with_reducible refine Le.bind (ratio_form.mono k _ _ _) (fun _ => ?_)
    | with_reducible exact whole_Add.mono k _ _ _ _
    | with_reducible exact nat_Add.mono k _ _
    | with_reducible exact ratio_form.mono k _ _ _
    | with_reducible refine Le.bind (Le.refl _) (fun _ => ?_)
    | split)
theorem ratio_Near.monoL (k : Nat) : (∀ x0 x1 x2 x3 x4 x5 x6 x7 x8 x9 x10, Le (ratio_Near.l0 k x0 x1 x2 x3 x4 x5 x6 x7 x8 x9 x10) (ratio_Near.l0 (k + 1) x0 x1 x2 x3 x4 x5 x6 x7 x8 x9 x10)) := by
  induction k with
  | zero => exact fun _ _ _ _ _ _ _ _ _ _ _ => Le.none _
  | succ k ih =>
    intro x0 x1 x2 x3 x4 x5 x6 x7 x8 x9 x10
    refine Le.eqs (ratio_Near.l0.eq_2 ..) (ratio_Near.l0.eq_2 ..) ?_
    repeat' (first
      | with_reducible exact Le.refl _
      | with_reducible refine Le.ite ?_ ?_
      | with_reducible exact ih _ _ _ _ _ _ _ _ _ _ _
      | with_reducible refine Le.bind (ih _ _ _ _ _ _ _ _ _ _ _) (fun _ => ?_)
      | with_reducible refine Le.bind (nat_Add.mono k _ _) (fun _ => ?_)
      | with_reducible refine Le.bind (nat_Cmp.mono k _ _) (fun _ => ?_)
      | with_reducible refine Le.bind (ratio_middle.mono k _ _ _ _ _ _) (fun _ => ?_)
      | with_reducible refine Le.bind (ratio_Cmp.mono k _ _ _ _ _ _) (fun _ => ?_)
      | with_reducible refine Le.bind (ratio_Sub.mono k _ _ _ _ _ _) (fun _ => ?_)
      | with_reducible exact nat_Add.mono k _ _
      | with_reducible exact nat_Cmp.mono k _ _
      | with_reducible exact ratio_middle.mono k _ _ _ _ _ _
      | with_reducible exact ratio_Cmp.mono k _ _ _ _ _ _
      | with_reducible exact ratio_Sub.mono k _ _ _ _ _ _
      | with_reducible refine Le.bind (Le.refl _) (fun _ => ?_)
      | split)
theorem ratio_Near.mono (k : Nat) : ∀ x0 x1 x2 x3, Le (ratio_Near.f k x0 x1 x2 x3) (ratio_Near.f (k + 1) x0 x1 x2 x3) := by
  intro x0 x1 x2 x3
  unfold ratio_Near.f
  repeat' (first
    | with_reducible exact Le.refl _
    | with_reducible refine Le.ite ?_ ?_
    | with_reducible exact (ratio_Near.monoL k) _ _ _ _ _ _ _ _ _ _ _
    | with_reducible refine Le.bind (ratio_Clean.mono k _ _ _) (fun _ => ?_)
    | with_reducible refine Le.bind (ratio_Floor.mono k _ _ _) (fun _ => ?_)
    | with_reducible refine Le.bind (ratio_Int.mono k _ _) (fun _ => ?_)
    | with_reducible refine Le.bind (ratio_One.mono k ) (fun _ => ?_)
    | with_reducible refine Le.bind (ratio_Add.mono k _ _ _ _ _ _) (fun _ => ?_)
    | with_reducible refine Le.bind (ratio_Same.mono k _ _ _ _ _ _) (fun _ => ?_)
    | with_reducible refine Le.bind (nat_Of.mono k _) (fun _ => ?_)
    | with_reducible exact ratio_Clean.mono k _ _ _
    | with_reducible exact ratio_Floor.mono k _ _ _
    | with_reducible exact ratio_Int.mono k _ _
    | with_reducible exact ratio_One.mono k 
    | with_reducible exact ratio_Add.mono k _ _ _ _ _ _
    | with_reducible exact ratio_Same.mono k _ _ _ _ _ _
    | with_reducible exact nat_Of.mono k _
    | with_reducible refine Le.bind (Le.refl _) (fun _ => ?_)
    | split)
theorem ratio_ten.monoL (k : Nat) : (∀ x0 x1 x2, Le (ratio_ten.l0 k x0 x1 x2) (ratio_ten.l0 (k + 1) x0 x1 x2)) := by
  induction k with
  | zero => exact fun _ _ _ => Le.none _
  | succ k ih =>
    intro x0 x1 x2
    refine Le.eqs (ratio_ten.l0.eq_2 ..) (ratio_ten.l0.eq_2 ..) ?_
    repeat' (first
      | with_reducible exact Le.refl _
      | with_reducible refine Le.ite ?_ ?_
      | with_reducible exact ih _ _ _
      | with_reducible refine Le.bind (ih _ _ _) (fun _ => ?_)
      | with_reducible refine Le.bind (nat_Of.mono k _) (fun _ => ?_)
      | with_reducible refine Le.bind (nat_Mul.mono k _ _) (fun _ => ?_)
      | with_reducible exact nat_Of.mono k _
      | with_reducible exact nat_Mul.mono k _ _
      | with_reducible refine Le.bind (Le.refl _) (fun _ => ?_)
      | split)
theorem ratio_ten.mono (k : Nat) : ∀ x0, Le (ratio_ten.f k x0) (ratio_ten.f (k + 1) x0) := by
  intro x0
  unfold ratio_ten.f
  repeat' (first
    | with_reducible exact Le.refl _
    | with_reducible refine Le.ite ?_ ?_
    | with_reducible exact (ratio_ten.monoL k) _ _ _
    | with_reducible refine Le.bind (nat_Of.mono k _) (fun _ => ?_)
    | with_reducible exact nat_Of.mono k _
    | with_reducible refine Le.bind (Le.refl _) (fun _ => ?_)
    | split)
theorem stringslite_Index.mono (k : Nat) : ∀ x0 x1, Le (stringslite_Index.f k x0 x1) (stringslite_Index.f (k + 1) x0 x1) := by
  intro x0 x1
  unfold stringslite_Index.f
  repeat' (first
    | with_reducible exact Le.refl _
    | with_reducible refine Le.ite ?_ ?_
    | with_reducible refine Le.bind (Le.refl _) (fun _ => ?_)
    | split)
theorem stringslite_Cut.mono (k : Nat) : ∀ x0 x1, Le (stringslite_Cut.f k x0 x1) (stringslite_Cut.f (k + 1) x0 x1) := by
  intro x0 x1
  unfold stringslite_Cut.f
  repeat' (first
    | with_reducible exact Le.refl _
    | with_reducible refine Le.ite ?_ ?_
    | with_reducible refine Le.bind (stringslite_Index.mono k _ _) (fun _ => ?_)
    | with_reducible exact stringslite_Index.mono k _ _
    | with_reducible refine Le.bind (Le.refl _) (fun _ => ?_)
    | split)
theorem strings_Cut.mono (k : Nat) : ∀ x0 x1, Le (strings_Cut.f k x0 x1) (strings_Cut.f (k + 1) x0 x1) := by
  intro x0 x1
  unfold strings_Cut.f
  repeat' (first
    | with_reducible exact Le.refl _
    | with_reducible refine Le.ite ?_ ?_
    | with_reducible refine Le.bind (stringslite_Cut.mono k _ _) (fun _ => ?_)
    | with_reducible exact stringslite_Cut.mono k _ _
    | with_reducible refine Le.bind (Le.refl _) (fun _ => ?_)
    | split)
theorem nat_plus.monoL (k : Nat) : (∀ x0 x1 x2 x3 x4, Le (nat_plus.l0 k x0 x1 x2 x3 x4) (nat_plus.l0 (k + 1) x0 x1 x2 x3 x4)) := by
  induction k with
  | zero => exact fun _ _ _ _ _ => Le.none _
  | succ k ih =>
    intro x0 x1 x2 x3 x4
    refine Le.eqs (nat_plus.l0.eq_2 ..) (nat_plus.l0.eq_2 ..) ?_
    repeat' (first
      | with_reducible exact Le.refl _
      | with_reducible refine Le.ite ?_ ?_
      | with_reducible exact ih _ _ _ _ _
      | with_reducible refine Le.bind (ih _ _ _ _ _) (fun _ => ?_)
      | with_reducible refine Le.bind (nat_trim.mono k _) (fun _ => ?_)
      | with_reducible exact nat_trim.mono k _
      | with_reducible refine Le.bind (Le.refl _) (fun _ => ?_)
      | split)
theorem nat_plus.mono (k : Nat) : ∀ x0 x1, Le (nat_plus.f k x0 x1) (nat_plus.f (k + 1) x0 x1) := by
  intro x0 x1
  unfold nat_plus.f
  repeat' (first
    | with_reducible exact Le.refl _
    | with_reducible refine Le.ite ?_ ?_
    | with_reducible exact (nat_plus.monoL k) _ _ _ _ _
    | with_reducible refine Le.bind (Le.refl _) (fun _ => ?_)
    | split)
theorem nat_Parse.monoL (k : Nat) : (∀ x0 x1 x2, Le (nat_Parse.l0 k x0 x1 x2) (nat_Parse.l0 (k + 1) x0 x1 x2)) ∧ (∀ x0 x1, Le (nat_Parse.l1 k x0 x1) (nat_Parse.l1 (k + 1) x0 x1)) ∧ (∀ x0 x1 x2 x3 x4 x5 x6, Le (nat_Parse.l2 k x0 x1 x2 x3 x4 x5 x6) (nat_Parse.l2 (k + 1) x0 x1 x2 x3 x4 x5 x6)) := by
  induction k with
  | zero => exact ⟨fun _ _ _ => Le.none _, fun _ _ => Le.none _, fun _ _ _ _ _ _ _ => Le.none _⟩
  | succ k ih =>
    refine ⟨?_, ?_, ?_⟩
    · intro x0 x1 x2
      refine Le.eqs (nat_Parse.l0.eq_2 ..) (nat_Parse.l0.eq_2 ..) ?_
      repeat' (first
        | with_reducible exact Le.refl _
        | with_reducible refine Le.ite ?_ ?_
        | with_reducible exact ih.1 _ _ _
        | with_reducible refine Le.bind (ih.1 _ _ _) (fun _ => ?_)
        | with_reducible exact ih.2.1 _ _
        | with_reducible refine Le.bind (ih.2.1 _ _) (fun _ => ?_)
        | with_reducible refine Le.bind (Le.refl _) (fun _ => ?_)
        | split)
    · intro x0 x1
      refine Le.eqs (nat_Parse.l1.eq_2 ..) (nat_Parse.l1.eq_2 ..) ?_
      repeat' (first
        | with_reducible exact Le.refl _
        | with_reducible refine Le.ite ?_ ?_
        | with_reducible exact ih.2.2 _ _ _ _ _ _ _
        | with_reducible refine Le.bind (ih.2.2 _ _ _ _ _ _ _) (fun _ => ?_)
        | with_reducible refine Le.bind (Le.refl _) (fun _ => ?_)
        | split)
    · intro x0 x1 x2 x3 x4 x5 x6
      refine Le.eqs (nat_Parse.l2.eq_2 ..) (nat_Parse.l2.eq_2 ..) ?_
      repeat' (first
        | with_reducible exact Le.refl _
        | with_reducible refine Le.ite ?_ ?_
        | with_reducible exact ih.2.1 _ _
        | with_reducible refine Le.bind (ih.2.1 _ _) (fun _ => ?_)
        | with_reducible exact ih.2.2 _ _ _ _ _ _ _
        | with_reducible refine Le.bind (ih.2.2 _ _ _ _ _ _ _) (fun _ => ?_)
        | with_reducible refine Le.bind (nat_plus.mono k _ _) (fun _ => ?_)
        | with_reducible exact nat_plus.mono k _ _
        | with_reducible refine Le.bind (Le.refl _) (fun _ => ?_)
        | split)
theorem nat_Parse.mono (k : Nat) : ∀ x0, Le (nat_Parse.f k x0) (nat_Parse.f (k + 1) x0) := by
  intro x0
  unfold nat_Parse.f
  repeat' (first
    | with_reducible exact Le.refl _
    | with_reducible refine Le.ite ?_ ?_
    | with_reducible exact (nat_Parse.monoL k).1 _ _ _
    | with_reducible refine Le.bind (Le.refl _) (fun _ => ?_)
    | split)
theorem ratio_plain.mono (k : Nat) : ∀ x0, Le (ratio_plain.f k x0) (ratio_plain.f (k + 1) x0) := by
  intro x0
  unfold ratio_plain.f
  repeat' (first
    | with_reducible exact Le.refl _
    | with_reducible refine Le.ite ?_ ?_
    | with_reducible refine Le.bind (strings_Cut.mono k _ _) (fun _ => ?_)
    | with_reducible refine Le.bind (nat_Parse.mono k _) (fun _ => ?_)
    | with_reducible refine Le.bind (ratio_form.mono k _ _ _) (fun _ => ?_)
    | with_reducible refine Le.bind (ratio_ten.mono k _) (fun _ => ?_)
    | with_reducible refine Le.bind (nat_Mul.mono k _ _) (fun _ => ?_)
    | with_reducible refine Le.bind (nat_Add.mono k _ _) (fun _ => ?_)
    | with_reducible refine Le.bind (nat_Of.mono k _) (fun _ => ?_)
    | with_reducible exact strings_Cut.mono k _ _
    | with_reducible exact nat_Parse.mono k _
    | with_reducible exact ratio_form.mono k _ _ _
    | with_reducible exact ratio_ten.mono k _
    | with_reducible exact nat_Mul.mono k _ _
    | with_reducible exact nat_Add.mono k _ _
    | with_reducible exact nat_Of.mono k _
    | with_reducible refine Le.bind (Le.refl _) (fun _ => ?_)
    | split)
theorem ratio_Parse.mono (k : Nat) : ∀ x0, Le (ratio_Parse.f k x0) (ratio_Parse.f (k + 1) x0) := by
  intro x0
  unfold ratio_Parse.f
  repeat' (first
    | with_reducible exact Le.refl _
    | with_reducible refine Le.ite ?_ ?_
    | with_reducible refine Le.bind (ratio_plain.mono k _) (fun _ => ?_)
    | with_reducible refine Le.bind (ratio_Neg.mono k _ _ _) (fun _ => ?_)
    | with_reducible exact ratio_plain.mono k _
    | with_reducible exact ratio_Neg.mono k _ _ _
    | with_reducible refine Le.bind (Le.refl _) (fun _ => ?_)
    | split)
theorem nat_Bit.mono (k : Nat) : ∀ x0 x1, Le (nat_Bit.f k x0 x1) (nat_Bit.f (k + 1) x0 x1) := by
  intro x0 x1
  unfold nat_Bit.f
  repeat' (first
    | with_reducible exact Le.refl _
    | with_reducible refine Le.ite ?_ ?_
    | with_reducible refine Le.bind (nat_Clean.mono k _) (fun _ => ?_)
    | with_reducible exact nat_Clean.mono k _
    | with_reducible refine Le.bind (Le.refl _) (fun _ => ?_)
    | split)
theorem nat_Even.mono (k : Nat) : ∀ x0, Le (nat_Even.f k x0) (nat_Even.f (k + 1) x0) := by
  intro x0
  unfold nat_Even.f
  repeat' (first
    | with_reducible exact Le.refl _
    | with_reducible refine Le.ite ?_ ?_
    | with_reducible refine Le.bind (nat_Bit.mono k _ _) (fun _ => ?_)
    | with_reducible exact nat_Bit.mono k _ _
    | with_reducible refine Le.bind (Le.refl _) (fun _ => ?_)
    | split)
theorem ratio_Round.mono (k : Nat) : ∀ x0 x1 x2, Le (ratio_Round.f k x0 x1 x2) (ratio_Round.f (k + 1) x0 x1 x2) := by
  intro x0 x1 x2
  unfold ratio_Round.f
  repeat' (first
    | with_reducible exact Le.refl _
    | with_reducible refine Le.ite ?_ ?_
    | with_reducible refine Le.bind (ratio_Floor.mono k _ _ _) (fun _ => ?_)
    | with_reducible refine Le.bind (ratio_Int.mono k _ _) (fun _ => ?_)
    | with_reducible refine Le.bind (ratio_Sub.mono k _ _ _ _ _ _) (fun _ => ?_)
    | with_reducible refine Le.bind (ratio_Frac.mono k _ _) (fun _ => ?_)
    | with_reducible refine Le.bind (ratio_Cmp.mono k _ _ _ _ _ _) (fun _ => ?_)
    | with_reducible refine Le.bind (nat_Even.mono k _) (fun _ => ?_)
    | with_reducible refine Le.bind (whole_Of.mono k _) (fun _ => ?_)
    | with_reducible refine Le.bind (whole_Add.mono k _ _ _ _) (fun _ => ?_)
    | with_reducible exact ratio_Floor.mono k _ _ _
    | with_reducible exact ratio_Int.mono k _ _
    | with_reducible exact ratio_Sub.mono k _ _ _ _ _ _
    | with_reducible exact ratio_Frac.mono k _ _
    | with_reducible exact ratio_Cmp.mono k _ _ _ _ _ _
    | with_reducible exact nat_Even.mono k _
    | with_reducible exact whole_Of.mono k _
    | with_reducible exact whole_Add.mono k _ _ _ _
    | with_reducible refine Le.bind (Le.refl _) (fun _ => ?_)
    | split)
theorem nat_nine.monoL (k : Nat) : (∀ x0 x1 x2, Le (nat_nine.l0 k x0 x1 x2) (nat_nine.l0 (k + 1) x0 x1 x2)) := by
  induction k with
  | zero => exact fun _ _ _ => Le.none _
  | succ k ih =>
    intro x0 x1 x2
    refine Le.eqs (nat_nine.l0.eq_2 ..) (nat_nine.l0.eq_2 ..) ?_
    repeat' (first
      | with_reducible exact Le.refl _
      | with_reducible refine Le.ite ?_ ?_
      | with_reducible exact ih _ _ _
      | with_reducible refine Le.bind (ih _ _ _) (fun _ => ?_)
      | with_reducible refine Le.bind (Le.refl _) (fun _ => ?_)
      | split)
theorem nat_nine.mono (k : Nat) : ∀ x0, Le (nat_nine.f k x0) (nat_nine.f (k + 1) x0) := by
  intro x0
  unfold nat_nine.f
  repeat' (first
    | with_reducible exact Le.refl _
    | with_reducible refine Le.ite ?_ ?_
    | with_reducible exact (nat_nine.monoL k) _ _ _
    | with_reducible refine Le.bind (Le.refl _) (fun _ => ?_)
    | split)
theorem nat_Print.monoL (k : Nat) : (∀ x0 x1, Le (nat_Print.l0 k x0 x1) (nat_Print.l0 (k + 1) x0 x1)) ∧ (∀ x0 x1 x2, Le (nat_Print.l1 k x0 x1 x2) (nat_Print.l1 (k + 1) x0 x1 x2)) ∧ (∀ x0 x1, Le (nat_Print.l2 k x0 x1) (nat_Print.l2 (k + 1) x0 x1)) := by
  induction k with
  | zero => exact ⟨fun _ _ => Le.none _, fun _ _ _ => Le.none _, fun _ _ => Le.none _⟩
  | succ k ih =>
    refine ⟨?_, ?_, ?_⟩
    · intro x0 x1
      refine Le.eqs (nat_Print.l0.eq_2 ..) (nat_Print.l0.eq_2 ..) ?_
      repeat' (first
        | with_reducible exact Le.refl _
        | with_reducible refine Le.ite ?_ ?_
        | with_reducible exact ih.1 _ _
        | with_reducible refine Le.bind (ih.1 _ _) (fun _ => ?_)
        | with_reducible exact ih.2.1 _ _ _
        | with_reducible refine Le.bind (ih.2.1 _ _ _) (fun _ => ?_)
        | with_reducible refine Le.bind (nat_small.mono k _ _) (fun _ => ?_)
        | with_reducible exact nat_small.mono k _ _
        | with_reducible refine Le.bind (Le.refl _) (fun _ => ?_)
        | split)
    · intro x0 x1 x2
      refine Le.eqs (nat_Print.l1.eq_2 ..) (nat_Print.l1.eq_2 ..) ?_
      repeat' (first
        | with_reducible exact Le.refl _
        | with_reducible refine Le.ite ?_ ?_
        | with_reducible exact ih.2.1 _ _ _
        | with_reducible refine Le.bind (ih.2.1 _ _ _) (fun _ => ?_)
        | with_reducible exact ih.2.2 _ _
        | with_reducible refine Le.bind (ih.2.2 _ _) (fun _ => ?_)
        | with_reducible refine Le.bind (nat_nine.mono k _) (fun _ => ?_)
        | with_reducible exact nat_nine.mono k _
        | with_reducible refine Le.bind (Le.refl _) (fun _ => ?_)
        | split)
    · intro x0 x1
      refine Le.eqs (nat_Print.l2.eq_2 ..) (nat_Print.l2.eq_2 ..) ?_
      repeat' (first
        | with_reducible exact Le.refl _
        | with_reducible refine Le.ite ?_ ?_
        | with_reducible exact ih.2.2 _ _
        | with_reducible refine Le.bind (ih.2.2 _ _) (fun _ => ?_)
        | with_reducible refine Le.bind (Le.refl _) (fun _ => ?_)
        | split)
theorem nat_Print.mono (k : Nat) : ∀ x0, Le (nat_Print.f k x0) (nat_Print.f (k + 1) x0) := by
  intro x0
  unfold nat_Print.f
  repeat' (first
    | with_reducible exact Le.refl _
    | with_reducible refine Le.ite ?_ ?_
    | with_reducible exact (nat_Print.monoL k).1 _ _
    | with_reducible refine Le.bind (nat_Clean.mono k _) (fun _ => ?_)
    | with_reducible exact nat_Clean.mono k _
    | with_reducible refine Le.bind (Le.refl _) (fun _ => ?_)
    | split)
theorem ratio_Decimal.mono (k : Nat) : ∀ x0 x1 x2 x3, Le (ratio_Decimal.f k x0 x1 x2 x3) (ratio_Decimal.f (k + 1) x0 x1 x2 x3) := by
  intro x0 x1 x2 x3
  unfold ratio_Decimal.f
  repeat' (first
    | with_reducible exact Le.refl _
    | with_reducible refine Le.ite ?_ ?_
    | with_reducible refine Le.bind (ratio_ten.mono k _) (fun _ => ?_)
    | with_reducible refine Le.bind (ratio_Int.mono k _ _) (fun _ => ?_)
    | with_reducible refine Le.bind (ratio_Mul.mono k _ _ _ _ _ _) (fun _ => ?_)
    | with_reducible refine Le.bind (ratio_Round.mono k _ _ _) (fun _ => ?_)
    | with_reducible refine Le.bind (nat_Print.mono k _) (fun _ => ?_)
    | with_reducible exact ratio_ten.mono k _
    | with_reducible exact ratio_Int.mono k _ _
    | with_reducible exact ratio_Mul.mono k _ _ _ _ _ _
    | with_reducible exact ratio_Round.mono k _ _ _
    | with_reducible exact nat_Print.mono k _
    | with_reducible refine Le.bind (Le.refl _) (fun _ => ?_)
    | split)
theorem whole_Print.mono (k : Nat) : ∀ x0 x1, Le (whole_Print.f k x0 x1) (whole_Print.f (k + 1) x0 x1) := by
  intro x0 x1
  unfold whole_Print.f
  repeat' (first
    | with_reducible exact Le.refl _
    | with_reducible refine Le.ite ?_ ?_
    | with_reducible refine Le.bind (whole_Clean.mono k _ _) (fun _ => ?_)
    | with_reducible refine Le.bind (nat_Print.mono k _) (fun _ => ?_)
    | with_reducible exact whole_Clean.mono k _ _
    | with_reducible exact nat_Print.mono k _
    | with_reducible refine Le.bind (Le.refl _) (fun _ => ?_)
    | split)
theorem ratio_Print.mono (k : Nat) : ∀ x0 x1 x2, Le (ratio_Print.f k x0 x1 x2) (ratio_Print.f (k + 1) x0 x1 x2) := by
  intro x0 x1 x2
  unfold ratio_Print.f
  repeat' (first
    | with_reducible exact Le.refl _
    | with_reducible refine Le.ite ?_ ?_
    | with_reducible refine Le.bind (ratio_Clean.mono k _ _ _) (fun _ => ?_)
    | with_reducible refine Le.bind (whole_Print.mono k _ _) (fun _ => ?_)
    | with_reducible refine Le.bind (nat_Of.mono k _) (fun _ => ?_)
    | with_reducible refine Le.bind (nat_Cmp.mono k _ _) (fun _ => ?_)
    | with_reducible refine Le.bind (nat_Print.mono k _) (fun _ => ?_)
    | with_reducible exact ratio_Clean.mono k _ _ _
    | with_reducible exact whole_Print.mono k _ _
    | with_reducible exact nat_Of.mono k _
    | with_reducible exact nat_Cmp.mono k _ _
    | with_reducible exact nat_Print.mono k _
    | with_reducible refine Le.bind (Le.refl _) (fun _ => ?_)
    | split)
theorem dendronlaw03_awake.mono (k : Nat) : Le (dendronlaw03_awake.f k ) (dendronlaw03_awake.f (k + 1) ) := by
  unfold dendronlaw03_awake.f
  repeat' (first
    | with_reducible exact Le.refl _
    | with_reducible refine Le.ite ?_ ?_
    | with_reducible refine Le.bind (ratio_Parse.mono k _) (fun _ => ?_)
    | with_reducible refine Le.bind (ratio_Frac.mono k _ _) (fun _ => ?_)
    | with_reducible refine Le.bind (ratio_Simplest.mono k _ _ _ _ _ _) (fun _ => ?_)
    | with_reducible refine Le.bind (ratio_Near.mono k _ _ _ _) (fun _ => ?_)
    | with_reducible refine Le.bind (ratio_Decimal.mono k _ _ _ _) (fun _ => ?_)
    | with_reducible refine Le.bind (ratio_Print.mono k _ _ _) (fun _ => ?_)
    | with_reducible exact ratio_Parse.mono k _
    | with_reducible exact ratio_Frac.mono k _ _
    | with_reducible exact ratio_Simplest.mono k _ _ _ _ _ _
    | with_reducible exact ratio_Near.mono k _ _ _ _
    | with_reducible exact ratio_Decimal.mono k _ _ _ _
    | with_reducible exact ratio_Print.mono k _ _ _
    | with_reducible refine Le.bind (Le.refl _) (fun _ => ?_)
    | split)
end Go.DI.Th
namespace Go.DI.Th
open Go Go.RowKit Go.DI
theorem awake03_ev : Ev (fun k => dendronlaw03_awake.f k) true := Ev.mono (K := 400) dendronlaw03_awake.mono (by decide +kernel)
end Go.DI.Th
namespace Go.DI.Th
open Go Go.RowKit Go.DI

def fewR (r : Rt) : Rt := (r.1, r.2.1.take 8, r.2.2.take 8)
theorem few3_eq (b : Bool) (n d : List Int) : dendronlaw03_few.f b n d = some (fewR (b, n, d)) := by
  unfold dendronlaw03_few.f fewR
  have t : ∀ l : List Int, ¬ (l.length : Int) > 8 → l.take 8 = l := fun l h => List.take_of_length_le (by omega)
  by_cases h1 : (n.length : Int) > 8
  · rw [if_pos h1, if_pos (by omega)]
    by_cases h2 : (d.length : Int) > 8
    · rw [if_pos h2, if_pos (by omega)]
    · rw [if_neg h2]; dsimp only; rw [t d h2]
  · rw [if_neg h1]
    by_cases h2 : (d.length : Int) > 8
    · rw [if_pos h2, if_pos (by omega)]; dsimp only; rw [t n h1]
    · rw [if_neg h2]; dsimp only; rw [t n h1, t d h2]
theorem few3_ev (b : Bool) (n d : List Int) : Ev (fun _ => dendronlaw03_few.f b n d) (fewR (b, n, d)) := Ev.congr (fun _ => few3_eq b n d) (Ev.now _)
def tinyR (r : Rt) : Rt := (r.1, r.2.1.take 2, r.2.2.take 2)
theorem tiny3_eq (b : Bool) (n d : List Int) : dendronlaw03_tiny.f b n d = some (tinyR (b, n, d)) := by
  unfold dendronlaw03_tiny.f tinyR
  have t : ∀ l : List Int, ¬ (l.length : Int) > 2 → l.take 2 = l := fun l h => List.take_of_length_le (by omega)
  by_cases h1 : (n.length : Int) > 2
  · rw [if_pos h1, if_pos (by omega)]
    by_cases h2 : (d.length : Int) > 2
    · rw [if_pos h2, if_pos (by omega)]
    · rw [if_neg h2]; dsimp only; rw [t d h2]
  · rw [if_neg h1]
    by_cases h2 : (d.length : Int) > 2
    · rw [if_pos h2, if_pos (by omega)]; dsimp only; rw [t n h1]
    · rw [if_neg h2]; dsimp only; rw [t n h1, t d h2]
theorem tiny3_ev (b : Bool) (n d : List Int) : Ev (fun _ => dendronlaw03_tiny.f b n d) (tinyR (b, n, d)) := Ev.congr (fun _ => tiny3_eq b n d) (Ev.now _)
theorem U.takeN {l : List Int} (h : U l) (n : Nat) : U (l.take n) := fun x hx => h x (List.mem_of_mem_take hx)
def RtU (r : Rt) : Prop := U r.2.1 ∧ U r.2.2
theorem fewB {r : Rt} (h : RtU r) : RtB 8 (fewR r) := ⟨h.1.takeN 8, h.2.takeN 8, by show (List.take 8 _).length ≤ 8; rw [List.length_take]; omega, by show (List.take 8 _).length ≤ 8; rw [List.length_take]; omega⟩
theorem tinyB {r : Rt} (h : RtU r) : RtB 2 (tinyR r) := ⟨h.1.takeN 2, h.2.takeN 2, by show (List.take 2 _).length ≤ 2; rw [List.length_take]; omega, by show (List.take 2 _).length ≤ 2; rw [List.length_take]; omega⟩
theorem aw3 : Ev (fun k => (dendronlaw03_awake.f k).bind fun v => some v) true := Ev.bind awake03_ev (Ev.now _)
theorem ratioSums_ev (r s : Rt) (hr : RtU r) (hs : RtU s) : Ev (fun k => dendronlaw03_RatioSums.f k r.1 r.2.1 r.2.2 s.1 s.2.1 s.2.2) true := by
  unfold dendronlaw03_RatioSums.f
  refine Ev.bind (few3_ev _ _ _) (Ev.bind (few3_ev _ _ _) ?_)
  have ha := fewB hr
  have hb := fewB hs
  have za := ha.sz
  have zb := hb.sz
  generalize fewR (r.1, r.2.1, r.2.2) = a at ha za ⊢
  generalize fewR (s.1, s.2.1, s.2.2) = b at hb zb ⊢
  obtain ⟨x, hx, ex⟩ := D.FL.from ha (by decide)
  obtain ⟨y, hy, ey⟩ := D.FL.from hb (by decide)
  refine Ev.bind ex (Ev.bind ey (Ev.bind (hx.order hy (by decide)) ?_))
  have hc := cmp_cn a b ha hb (by decide) (by decide)
  have hsm := same_cn a b ha hb (by decide) (by decide)
  have es : decide (rv a = rv b) = (cmpQ (rv a) (rv b) == 0) := by
    rw [Bool.eq_iff_iff, beq_iff_eq, decide_eq_true_iff, cmpQ_zero]
  rw [es] at hsm
  have hmin := min_cn a b ha hb (by decide) (by decide)
  have hmax := max_cn a b ha hb (by decide) (by decide)
  obtain ⟨t1, f1, e1⟩ := hx.plus hy (by decide)
  obtain ⟨t2, f2, e2⟩ := hy.minus
  obtain ⟨t3, f3, e3⟩ := hx.plus f2 (by decide)
  obtain ⟨t4, f4, e4⟩ := hx.times hy (by decide)
  rw [← Rat.sub_eq_add_neg] at f3
  have s1 := Sz_add (rv a) (rv b)
  have s3 := Sz_sub (rv a) (rv b)
  have s4 := Sz_mul (rv a) (rv b)
  have i1 := D.is_true f1 s1 (by omega)
  have i3 := D.is_true f3 s3 (by omega)
  have i4 := D.is_true f4 s4 (by omega)
  have ix := D.is_true hx za (by decide)
  have iy := D.is_true hy zb (by decide)
  have tail : Ev (fun k => (ratio_Div.f k a.1 a.2.1 a.2.2 b.1 b.2.1 b.2.2).bind fun v89 => (ratio_Inv.f k b.1 b.2.1 b.2.2).bind fun v97 => (if (y.2.1.length : Int) = 0 then ((dendronref03_None.f v89.1 v89.2.1 v89.2.2.1).bind fun v110 => (if v110 = true then ((dendronref03_None.f v97.1 v97.2.1 v97.2.2.1).bind fun v113 => (if v113 = true then (if v89.2.2.2 = 2 then (if v97.2.2.2 = 2 then ((dendronlaw03_awake.f k).bind fun v124 => (some v124)) else (some false)) else (some false)) else (some false))) else (some false))) else (if v89.2.2.2 = 0 then (if v97.2.2.2 = 0 then ((dendronref03_Inverse.f y.1 y.2.1 y.2.2).bind fun v118 => ((dendronref03_Is.f k v97.1 v97.2.1 v97.2.2.1 v118.1 v118.2.1 v118.2.2).bind fun v119 => (if v119 = true then ((dendronref03_Inverse.f y.1 y.2.1 y.2.2).bind fun v125 => ((dendronref03_Times.f k x.1 x.2.1 x.2.2 v125.1 v125.2.1 v125.2.2).bind fun v126 => ((dendronref03_Is.f k v89.1 v89.2.1 v89.2.2.1 v126.1 v126.2.1 v126.2.2).bind fun v127 => (if v127 = true then ((dendronlaw03_awake.f k).bind fun v130 => (some v130)) else (some false))))) else (some false)))) else (some false)) else (some false)))) true := by
    have hd := div_cn a b ha hb (by decide)
    have hi := inv_cn b hb (by decide)
    by_cases h0 : rv b = 0
    · rw [if_pos h0] at hd hi
      exact Ev.bind hd (Ev.bind hi (Ev.if_pos (hy.zero_N.2 h0) (Ev.bind D.none_true (Ev.if_pos rfl (Ev.bind D.none_true (Ev.if_pos rfl (Ev.if_pos rfl (Ev.if_pos rfl aw3))))))))
    · rw [if_neg h0] at hd hi
      obtain ⟨t5, f5, e5⟩ := hy.inv h0
      obtain ⟨t6, f6, e6⟩ := hx.times f5 (by decide)
      have s5 := Sz_inv (rv b)
      have s6 := Sz_mul (rv a) (rv b)⁻¹
      have i5 := D.is_true f5 s5 (by omega)
      have i6 := D.is_true f6 s6 (by omega)
      exact Ev.bind hd (Ev.bind hi (Ev.if_neg (fun e => h0 (hy.zero_N.1 e)) (Ev.if_pos rfl (Ev.if_pos rfl (Ev.bind e5 (Ev.bind i5 (Ev.if_pos rfl (Ev.bind e5 (Ev.bind e6 (Ev.bind i6 (Ev.if_pos rfl aw3)))))))))))
  by_cases ho : cmpQ (rv a) (rv b) > 0
  · have hlt := cmpQ_pos.1 ho
    have hnl : ¬ rv a < rv b := Rat.not_lt.2 (Rat.le_of_lt hlt)
    rw [if_pos hlt] at hmin
    rw [if_neg hnl] at hmax
    exact Ev.if_pos ho (Ev.bind hc (Ev.if_neg (fun h => h rfl) (Ev.bind hsm (Ev.if_neg (fun h => h rfl) (Ev.bind hmin (Ev.bind iy (Ev.if_pos rfl (Ev.bind hmax (Ev.bind ix (Ev.if_pos rfl (Ev.bind (add_cn a b ha hb (by decide)) (Ev.bind e1 (Ev.bind i1 (Ev.if_pos rfl (Ev.bind (sub_cn a b ha hb (by decide)) (Ev.bind e2 (Ev.bind e3 (Ev.bind i3 (Ev.if_pos rfl (Ev.bind (mul_cn a b ha hb (by decide)) (Ev.bind e4 (Ev.bind i4 (Ev.if_pos rfl tail)))))))))))))))))))))))
  · have hnl : ¬ rv b < rv a := fun h => ho (cmpQ_pos.2 h)
    rw [if_neg hnl] at hmin
    have em : (if rv a < rv b then rv b else rv a) = rv b := by
      split
      · rfl
      · exact Rat.le_antisymm (Rat.not_lt.1 hnl) (Rat.not_lt.1 ‹_›)
    rw [em] at hmax
    exact Ev.if_neg ho (Ev.bind hc (Ev.if_neg (fun h => h rfl) (Ev.bind hsm (Ev.if_neg (fun h => h rfl) (Ev.bind hmin (Ev.bind ix (Ev.if_pos rfl (Ev.bind hmax (Ev.bind iy (Ev.if_pos rfl (Ev.bind (add_cn a b ha hb (by decide)) (Ev.bind e1 (Ev.bind i1 (Ev.if_pos rfl (Ev.bind (sub_cn a b ha hb (by decide)) (Ev.bind e2 (Ev.bind e3 (Ev.bind i3 (Ev.if_pos rfl (Ev.bind (mul_cn a b ha hb (by decide)) (Ev.bind e4 (Ev.bind i4 (Ev.if_pos rfl tail)))))))))))))))))))))))
theorem sgn_cmp (x : Rat) : sgn x.num = cmpQ x 0 := by
  unfold sgn cmpQ
  by_cases h : x < 0
  · rw [if_pos h, if_pos ((num_neg_iff x).2 h)]
  · have h1 : ¬ x.num < 0 := fun e => h ((num_neg_iff x).1 e)
    rw [if_neg h, if_neg h1]
    by_cases h2 : x = 0
    · rw [if_pos (Rat.num_eq_zero.2 h2), if_neg (by rw [h2]; exact Rat.lt_irrefl)]
    · rw [if_neg (fun e => h2 (Rat.num_eq_zero.1 e)), if_pos (Rat.lt_of_le_of_ne (Rat.not_lt.1 h) (fun e => h2 e.symm))]
theorem sign3_cn (r : Rt) {b : Nat} (h : RtB b r) (hb : b ≤ 1073741824) : Ev (fun k => ratio_Sign.f k r.1 r.2.1 r.2.2) (cmpQ (rv r) 0) := by
  unfold ratio_Sign.f
  refine Ev.bind (clean_cn r h (by omega)) ?_
  have h1 := cnB (rv r) h.sz
  have := wsign_ev (cn (rv r)).1 (cn (rv r)).2.1 h1.1 (by have := h1.2.2.1; omega)
  rw [wv_cn, sgn_cmp] at this
  exact Ev.bind this (Ev.now _)
theorem ratioForms_ev (r : Rt) (hr : RtU r) : Ev (fun k => dendronlaw03_RatioForms.f k r.1 r.2.1 r.2.2) true := by
  unfold dendronlaw03_RatioForms.f
  refine Ev.bind (few3_ev _ _ _) ?_
  have ha := fewB hr
  have za := ha.sz
  generalize fewR (r.1, r.2.1, r.2.2) = a at ha za ⊢
  obtain ⟨x, hx, ex⟩ := D.FL.from ha (by decide)
  obtain ⟨z, hz, ez⟩ := D.FL.small 0 1 (by decide) (by decide) (by decide)
  rw [show mkRat 0 1 = 0 from rfl] at hz
  refine Ev.bind ex (Ev.bind ez (Ev.bind (hx.order hz (by decide)) ?_))
  obtain ⟨t2, f2, e2⟩ := hx.minus
  have zn := Sz_neg (rv a)
  have i2 := D.is_true f2 (b := 9) (by omega) (by decide)
  have ix := D.is_true hx za (by decide)
  have habs := abs_cn a ha (by decide)
  by_cases h : rv a < 0
  · have e : absQ (rv a) = -(rv a) := if_pos h
    rw [e] at habs
    exact Ev.if_pos (cmpQ_neg.2 h) (Ev.bind e2 (Ev.bind (rright_ev a ha (by decide)) (Ev.bind (D.right3_ev a ha (by decide)) (Ev.if_pos rfl (Ev.bind (clean_cn a ha (by decide)) (Ev.bind ix (Ev.if_pos rfl (Ev.bind (sign3_cn a ha (by decide)) (Ev.if_pos rfl (Ev.bind habs (Ev.bind i2 (Ev.if_pos rfl (Ev.bind (neg_cn a ha (by decide)) (Ev.bind e2 (Ev.bind i2 (Ev.if_pos rfl aw3))))))))))))))))
  · have e : absQ (rv a) = rv a := if_neg h
    rw [e] at habs
    exact Ev.if_neg (fun h' => h (cmpQ_neg.1 h')) (Ev.bind (rright_ev a ha (by decide)) (Ev.bind (D.right3_ev a ha (by decide)) (Ev.if_pos rfl (Ev.bind (clean_cn a ha (by decide)) (Ev.bind ix (Ev.if_pos rfl (Ev.bind (sign3_cn a ha (by decide)) (Ev.if_pos rfl (Ev.bind habs (Ev.bind ix (Ev.if_pos rfl (Ev.bind (neg_cn a ha (by decide)) (Ev.bind e2 (Ev.bind i2 (Ev.if_pos rfl aw3)))))))))))))))
end Go.DI.Th
namespace Go.DI.Th
open Go Go.RowKit Go.DI

theorem mk_one (z : Int) : mkRat z 1 = (z : Rat) := Rat.mkRat_self (z : Rat)
theorem Sz_int64 (z : Int) (h : -9223372036854775808 ≤ z ∧ z ≤ 9223372036854775807) : Sz (z : Rat) ≤ 2 := by
  rw [Sz_int]
  have := len_small (n := z.natAbs) (by omega)
  omega
theorem Sz_div64 (n d : Int) (hn : -9223372036854775808 ≤ n ∧ n ≤ 9223372036854775807) (hd : -9223372036854775808 ≤ d ∧ d ≤ 9223372036854775807) (h0 : d ≠ 0) : Sz (Rat.divInt n d) ≤ 2 := by
  rw [← mk_over n d h0]
  have h1 := Sz_mk (over n d) d.natAbs (by omega)
  rw [over_abs] at h1
  have h2 := len_small (n := n.natAbs) (by omega)
  have h3 := len_small (n := d.natAbs) (by omega)
  omega
theorem small_Q (n : Int) (h : -9223372036854775808 ≤ n ∧ n ≤ 9223372036854775807) : ∃ t, D.FL (n : Rat) 5 t ∧ Ev (fun k => dendronref03_Small.f k n 1) t := by
  obtain ⟨t, h1, h2⟩ := D.FL.small n 1 h (by decide) (by decide)
  rw [mk_one] at h1
  exact ⟨t, h1, h2⟩
theorem wv_take_len (b : Bool) (l : List Int) : len (wv b (l.take 8)).natAbs ≤ 8 := by
  rw [wv_abs]
  have := val_len (l.take 8)
  rw [List.length_take] at this
  omega
theorem ratioMakes_ev (b : Bool) (l : List Int) (c : Bool) (m : List Int) (n d : Int) (hl : U l) (hm : U m) (hn : -9223372036854775808 ≤ n ∧ n ≤ 9223372036854775807) (hd : -9223372036854775808 ≤ d ∧ d ≤ 9223372036854775807) :
    Ev (fun k => dendronlaw03_RatioMakes.f k b l c m n d) true := by
  unfold dendronlaw03_RatioMakes.f
  refine Ev.bind (few3_ev _ _ _) (Ev.bind (few3_ev _ _ _) ?_)
  show Ev (fun k => (ratio_Make.f k b (l.take 8) c (m.take 8)).bind _) true
  have ul := hl.takeN 8
  have um := hm.takeN 8
  have ll : (l.take 8).length ≤ 8 := by rw [List.length_take]; omega
  have lm' : (m.take 8).length ≤ 8 := by rw [List.length_take]; omega
  have zl := wv_take_len b l
  have zm := wv_take_len c m
  have hmk := make_cn b (l.take 8) c (m.take 8) ul um (by omega) (by omega)
  have hy := D.wfrom_ev c (m.take 8) um (by omega)
  have hx := D.wfrom_ev b (l.take 8) ul (by omega)
  have hint := int_cn b (l.take 8) ul (by omega)
  have lx : D.L (wv b (l.take 8)) ≤ 24 := Nat.le_trans (D.len_of_len _) (by omega)
  have ly : D.L (wv c (m.take 8)) ≤ 24 := Nat.le_trans (D.len_of_len _) (by omega)
  generalize wv b (l.take 8) = z at *
  generalize wv c (m.take 8) = w at *
  obtain ⟨t0, f0, e0⟩ := small_Q 0 (by decide)
  obtain ⟨t1, f1, e1⟩ := small_Q 1 (by decide)
  obtain ⟨tn, fn, en⟩ := small_Q n hn
  obtain ⟨td, fd, ed⟩ := small_Q d hd
  obtain ⟨tz, fz, ez⟩ := D.FL.whole z lx (by decide)
  obtain ⟨tw, fw, ew⟩ := D.FL.whole w ly (by decide)
  have i0 := D.is_true f0 (b := 2) (Sz_int64 0 (by decide)) (by decide)
  have i1 := D.is_true f1 (b := 2) (Sz_int64 1 (by decide)) (by decide)
  have inn := D.is_true fn (b := 2) (Sz_int64 n hn) (by decide)
  have iz := D.is_true fz (b := 8) (by rw [Sz_int]; omega) (by decide)
  have tail : Ev (fun k => if ((D.il w).2.length : Int) = 0 then ((dendronref03_None.f (if w = 0 then (false, [], [], 2) else ((cn (Rat.divInt z w)).1, (cn (Rat.divInt z w)).2.1, (cn (Rat.divInt z w)).2.2, 0) : Bool × List Int × List Int × Int).1 (if w = 0 then (false, [], [], 2) else ((cn (Rat.divInt z w)).1, (cn (Rat.divInt z w)).2.1, (cn (Rat.divInt z w)).2.2, 0) : Bool × List Int × List Int × Int).2.1 (if w = 0 then (false, [], [], 2) else ((cn (Rat.divInt z w)).1, (cn (Rat.divInt z w)).2.1, (cn (Rat.divInt z w)).2.2, 0) : Bool × List Int × List Int × Int).2.2.1).bind fun v79 => (if v79 = true then (if (if w = 0 then (false, [], [], 2) else ((cn (Rat.divInt z w)).1, (cn (Rat.divInt z w)).2.1, (cn (Rat.divInt z w)).2.2, 0) : Bool × List Int × List Int × Int).2.2.2 = 2 then ((dendronlaw03_awake.f k).bind fun v85 => (some v85)) else (some false)) else (some false))) else (if (if w = 0 then (false, [], [], 2) else ((cn (Rat.divInt z w)).1, (cn (Rat.divInt z w)).2.1, (cn (Rat.divInt z w)).2.2, 0) : Bool × List Int × List Int × Int).2.2.2 = 0 then ((dendronref02_From.f k b (l.take 8)).bind fun v83 => ((dendronref03_Whole.f k v83.1 v83.2).bind fun v84 => ((dendronref03_Whole.f k (D.il w).1 (D.il w).2).bind fun v86 => ((dendronref03_Inverse.f v86.1 v86.2.1 v86.2.2).bind fun v87 => ((dendronref03_Times.f k v84.1 v84.2.1 v84.2.2 v87.1 v87.2.1 v87.2.2).bind fun v88 => ((dendronref03_Is.f k (if w = 0 then (false, [], [], 2) else ((cn (Rat.divInt z w)).1, (cn (Rat.divInt z w)).2.1, (cn (Rat.divInt z w)).2.2, 0) : Bool × List Int × List Int × Int).1 (if w = 0 then (false, [], [], 2) else ((cn (Rat.divInt z w)).1, (cn (Rat.divInt z w)).2.1, (cn (Rat.divInt z w)).2.2, 0) : Bool × List Int × List Int × Int).2.1 (if w = 0 then (false, [], [], 2) else ((cn (Rat.divInt z w)).1, (cn (Rat.divInt z w)).2.1, (cn (Rat.divInt z w)).2.2, 0) : Bool × List Int × List Int × Int).2.2.1 v88.1 v88.2.1 v88.2.2).bind fun v89 => (if v89 = true then ((dendronlaw03_awake.f k).bind fun v92 => (some v92)) else (some false)))))))) else (some false))) true := by
    by_cases h0 : w = 0
    · rw [if_pos h0]
      exact Ev.if_pos (D.lm_nil'.2 (by rw [h0]; rfl)) (Ev.bind D.none_true (Ev.if_pos rfl (Ev.if_pos rfl aw3)))
    · rw [if_neg h0]
      have hw : ((w : Int) : Rat) ≠ 0 := fun e => h0 (Rat.intCast_eq_zero_iff.1 e)
      obtain ⟨ti, fi, ei⟩ := fw.inv hw
      obtain ⟨tt, ft, et⟩ := fz.times fi (by decide)
      have eq : (z : Rat) * (w : Rat)⁻¹ = Rat.divInt z w := by rw [Rat.divInt_eq_div, Rat.div_def]
      rw [eq] at ft
      have sq : Sz (Rat.divInt z w) ≤ 8 := by
        rw [← mk_over z w h0]
        have h1 := Sz_mk (over z w) w.natAbs (by omega)
        rw [over_abs] at h1
        omega
      have it := D.is_true ft sq (by decide)
      exact Ev.if_neg (fun e => h0 (by have := D.lm_nil'.1 e; omega)) (Ev.if_pos rfl (Ev.bind hx (Ev.bind ez (Ev.bind ew (Ev.bind ei (Ev.bind et (Ev.bind it (Ev.if_pos rfl aw3))))))))
  refine Ev.bind hmk (Ev.bind hy (Ev.bind zero_cn (Ev.bind e0 (Ev.bind i0 (Ev.if_pos rfl (Ev.bind one_cn (Ev.bind e1 (Ev.bind i1 (Ev.if_pos rfl (Ev.bind (rof_cn n hn.1 hn.2) (Ev.bind en (Ev.bind inn (Ev.if_pos rfl (Ev.bind hint (Ev.bind hx (Ev.bind ez (Ev.bind iz (Ev.if_pos rfl (Ev.bind (frac_cn n d hn hd) (Ev.bind e0 ?_))))))))))))))))))))
  by_cases h0 : d = 0
  · refine Ev.if_neg (fun h => h h0) (Ev.bind ?_ (Ev.if_pos rfl tail))
    rw [h0, Rat.divInt_zero]
    exact i0
  · have hd0 : ((d : Int) : Rat) ≠ 0 := fun e => h0 (Rat.intCast_eq_zero_iff.1 e)
    obtain ⟨ti, fi, ei⟩ := fd.inv hd0
    obtain ⟨tt, ft, et⟩ := fn.times fi (by decide)
    have eq : (n : Rat) * (d : Rat)⁻¹ = Rat.divInt n d := by rw [Rat.divInt_eq_div, Rat.div_def]
    rw [eq] at ft
    have it := D.is_true ft (Sz_div64 n d hn hd h0) (by decide)
    exact Ev.if_pos h0 (Ev.bind en (Ev.bind ed (Ev.bind ei (Ev.bind et (Ev.bind it (Ev.if_pos rfl tail))))))
end Go.DI.Th
namespace Go.DI.Th
open Go Go.RowKit Go.DI

abbrev It := Bool × List Int
abbrev it0 : It := (false, [])
def gi (m : List It) (i : Nat) : It := gt it0 m (i : Int)
def zq (m : List It) (i : Nat) : Int := wv (gi m i).1 (gi m i).2
def ItB (m : List It) : Prop := ∀ e ∈ m, U e.2 ∧ e.2.length ≤ 2
theorem gi_mem (m : List It) (i : Nat) (h : i < m.length) : gi m i ∈ m := by
  unfold gi gt
  rw [Int.toNat_natCast, List.getD_eq_getElem?_getD, List.getElem?_eq_getElem h]
  exact List.getElem_mem h
theorem zq_len {m : List It} (hB : ItB m) {i : Nat} (h : i < m.length) : len (zq m i).natAbs ≤ 2 := by
  obtain ⟨_, h2⟩ := hB _ (gi_mem m i h)
  unfold zq
  rw [wv_abs]
  exact Nat.le_trans (val_len _) h2
/-- A number's whole parts, one inside the other: from inside. -/
def unf (m : List It) : Nat → Rat → Option Rat
  | 0, x => some x
  | i + 1, x => if x = 0 then none else unf m i ((zq m i : Rat) + x⁻¹)
def unfR (m : List It) (i : Nat) (x : Rat) : Bool × List Int × List Int × Int := match unf m i x with
  | none => (false, [], [], 2)
  | some y => ((cn y).1, (cn y).2.1, (cn y).2.2, 0)
theorem Sz_zq {m : List It} (hB : ItB m) {i : Nat} (h : i < m.length) : Sz ((zq m i : Int) : Rat) ≤ 2 := by
  rw [Sz_int]
  have := zq_len hB h
  omega
theorem Sz_unf {m : List It} (hB : ItB m) : ∀ (i : Nat) (x y : Rat), i ≤ m.length → unf m i x = some y → Sz y ≤ Sz x + 3 * i
  | 0, x, y, _, h => by
    rw [unf] at h
    cases h
    omega
  | i + 1, x, y, hi, h => by
    rw [unf] at h
    by_cases h0 : x = 0
    · rw [if_pos h0] at h; cases h
    · rw [if_neg h0] at h
      have h1 := Sz_unf hB i _ y (by omega) h
      have h2 := Sz_add ((zq m i : Int) : Rat) x⁻¹
      have h3 := Sz_zq hB (i := i) (by omega)
      have h4 := Sz_inv x
      omega
theorem unfold_l0 (m : List It) (hm : m.length ≤ 1000) (hB : ItB m) (b20 : Bool) : ∀ (i : Nat) (x : Rat), i ≤ m.length → Sz x + 3 * i ≤ 10000 →
    Ev (fun k => ratio_Unfold.l0 k m ((i : Int) - 1) b20 (cn x).1 (cn x).2.1 (cn x).2.2) (unfR m i x) := by
  intro i
  induction i with
  | zero =>
    intro x hi hs
    refine Ev.succ ?_
    simp only [ratio_Unfold.l0]
    exact Ev.if_neg (by omega) (Ev.now _)
  | succ i ih =>
    intro x hi hs
    have e1 : ((i + 1 : Nat) : Int) - 1 = (i : Int) := by omega
    have ew : wrap64 ((i : Int) - 1) = (i : Int) - 1 := wrap_id (by omega) (by omega)
    have eg : gt it0 m (i : Int) = gi m i := rfl
    have hbx := cnB x (Nat.le_refl _)
    have hsg := sign3_cn (cn x) hbx (by omega)
    rw [rv_cn] at hsg
    obtain ⟨u1, u2⟩ := hB _ (gi_mem m i (by omega))
    refine Ev.succ ?_
    simp only [ratio_Unfold.l0, e1, ew, eg]
    refine Ev.if_pos (by omega) (Ev.bind hsg ?_)
    unfold unfR
    rw [unf]
    by_cases h0 : x = 0
    · rw [if_pos h0]
      exact Ev.if_pos (cmpQ_zero.2 h0) (Ev.now _)
    · rw [if_neg h0]
      have hint := int_cn (gi m i).1 (gi m i).2 u1 (by omega)
      have ho := over_cn (cn 1) (cn x) (cnB (b := 2) 1 (Sz_int64 1 (by decide))) hbx (by omega) (by rw [rv_cn]; exact h0)
      rw [rv_cn, rv_cn, Rat.one_mul] at ho
      have z2 := Sz_zq hB (i := i) (by omega)
      have z4 := Sz_inv x
      have ha := add_cn (cn ((zq m i : Int) : Rat)) (cn x⁻¹) (cnB _ z2) (cnB (b := Sz x) _ z4) (by omega)
      rw [rv_cn, rv_cn] at ha
      have h2 := Sz_add ((zq m i : Int) : Rat) x⁻¹
      exact Ev.if_neg (fun e => h0 (cmpQ_zero.1 e)) (Ev.if_pos (by omega) (Ev.bind hint (Ev.bind one_cn (Ev.bind ho (Ev.bind ha (ih _ (by omega) (by omega)))))))
def unfoldR (m : List It) : Bool × List Int × List Int × Int := if m = [] then (false, [], [], 15) else unfR m (m.length - 1) (zq m (m.length - 1) : Rat)
theorem unfold_cn (m : List It) (hm : m.length ≤ 1000) (hB : ItB m) : Ev (fun k => ratio_Unfold.f k m) (unfoldR m) := by
  unfold ratio_Unfold.f unfoldR
  by_cases h : m = []
  · rw [if_pos h]
    exact Ev.if_pos (by rw [h]; rfl) (Ev.now _)
  · rw [if_neg h]
    have hp := List.length_pos_iff.2 h
    have e1 : wrap64 ((m.length : Int) - 1) = ((m.length - 1 : Nat) : Int) := by rw [wrap_id (by omega) (by omega)]; omega
    have e2 : wrap64 ((m.length : Int) - 2) = ((m.length - 1 : Nat) : Int) - 1 := by rw [wrap_id (by omega) (by omega)]; omega
    have eg : gt it0 m ((m.length - 1 : Nat) : Int) = gi m (m.length - 1) := rfl
    obtain ⟨u1, u2⟩ := hB _ (gi_mem m (m.length - 1) (by omega))
    have hint := int_cn (gi m (m.length - 1)).1 (gi m (m.length - 1)).2 u1 (by omega)
    have z2 := Sz_zq hB (i := m.length - 1) (by omega)
    rw [e1, e2, eg]
    exact Ev.if_neg (by omega) (Ev.if_pos (by omega) (Ev.if_pos (by omega) (Ev.bind hint (unfold_l0 m hm hB false (m.length - 1) (zq m (m.length - 1) : Rat) (by omega) (by omega)))))
theorem unfolds_l1 (m : List It) (hm : m.length ≤ 20) (hB : ItB m) : ∀ (i : Nat) (x : Rat) (t : Rt), i ≤ m.length → D.FL x (10 + 10 * (m.length - i)) t → Sz x + 3 * i ≤ 100 →
    Ev (fun k => dendronlaw03_RatioUnfolds.l1 k m (unfR m i x).2.2.2 ((i : Int) - 1) (unfR m i x).1 (unfR m i x).2.1 (unfR m i x).2.2.1 t.1 t.2.1 t.2.2) true := by
  intro i
  induction i with
  | zero =>
    intro x t hi ht hs
    have := D.is_true ht (b := 100) (by omega) (by omega)
    refine Ev.succ ?_
    simp only [dendronlaw03_RatioUnfolds.l1]
    exact Ev.if_neg (by omega) (Ev.if_pos rfl (Ev.bind this (Ev.if_pos rfl aw3)))
  | succ i ih =>
    intro x t hi ht hs
    have e1 : ((i + 1 : Nat) : Int) - 1 = (i : Int) := by omega
    have ew : wrap64 ((i : Int) - 1) = (i : Int) - 1 := wrap_id (by omega) (by omega)
    have eg : gt it0 m (i : Int) = gi m i := rfl
    obtain ⟨u1, u2⟩ := hB _ (gi_mem m i (by omega))
    refine Ev.succ ?_
    simp only [dendronlaw03_RatioUnfolds.l1, e1, ew, eg]
    refine Ev.if_pos (by omega) ?_
    by_cases h0 : x = 0
    · have er : unfR m (i + 1) x = (false, [], [], 2) := by
        unfold unfR
        rw [unf, if_pos h0]
      rw [er]
      exact Ev.if_pos (ht.zero_N.2 h0) (Ev.bind D.none_true (Ev.if_pos rfl (Ev.if_pos rfl aw3)))
    · have er : unfR m (i + 1) x = unfR m i ((zq m i : Rat) + x⁻¹) := by
        unfold unfR
        rw [unf, if_neg h0]
      rw [er]
      have hf := D.wfrom_ev (gi m i).1 (gi m i).2 u1 (by omega)
      have hl : D.L (zq m i) ≤ 6 := Nat.le_trans (D.len_of_len _) (by have := zq_len hB (i := i) (by omega); omega)
      obtain ⟨w, hw, ew'⟩ := D.FL.whole (zq m i) hl (by decide)
      obtain ⟨v, hv, ev⟩ := ht.inv h0
      obtain ⟨u, hu, eu⟩ := hw.plus hv (by omega)
      have z2 := Sz_zq hB (i := i) (by omega)
      have z4 := Sz_inv x
      have h2 := Sz_add ((zq m i : Int) : Rat) x⁻¹
      exact Ev.if_neg (fun e => h0 (ht.zero_N.1 e)) (Ev.if_pos (by omega) (Ev.bind hf (Ev.bind ew' (Ev.bind ev (Ev.bind eu (ih _ u (by omega) (hu.mono (by omega)) (by omega)))))))
theorem unfolds_tail (m : List It) (hm : m.length ≤ 20) (hB : ItB m) : Ev (fun k => (ratio_Unfold.f k m).bind fun v9 => (if (m.length : Int) = 0 then ((dendronref03_None.f v9.1 v9.2.1 v9.2.2.1).bind fun v20 => (if v20 = true then (if v9.2.2.2 = 15 then ((dendronlaw03_awake.f k).bind fun v26 => (some v26)) else (some false)) else (some false))) else (if 0 ≤ (wrap64 ((m.length : Int) - 1)) then (if (wrap64 ((m.length : Int) - 1)) < (m.length : Int) then ((dendronref02_From.f k ((gt (false, []) m (wrap64 ((m.length : Int) - 1))).1) ((gt (false, []) m (wrap64 ((m.length : Int) - 1))).2)).bind fun v25 => ((dendronref03_Whole.f k v25.1 v25.2).bind fun v26 => (dendronlaw03_RatioUnfolds.l1 k m v9.2.2.2 (wrap64 ((m.length : Int) - 2)) v9.1 v9.2.1 v9.2.2.1 v26.1 v26.2.1 v26.2.2))) else none) else none))) true := by
  refine Ev.bind (unfold_cn m (by omega) hB) ?_
  unfold unfoldR
  by_cases h : m = []
  · rw [if_pos h]
    exact Ev.if_pos (by rw [h]; rfl) (Ev.bind D.none_true (Ev.if_pos rfl (Ev.if_pos rfl aw3)))
  · rw [if_neg h]
    have hp := List.length_pos_iff.2 h
    have e1 : wrap64 ((m.length : Int) - 1) = ((m.length - 1 : Nat) : Int) := by rw [wrap_id (by omega) (by omega)]; omega
    have e2 : wrap64 ((m.length : Int) - 2) = ((m.length - 1 : Nat) : Int) - 1 := by rw [wrap_id (by omega) (by omega)]; omega
    have eg : gt it0 m ((m.length - 1 : Nat) : Int) = gi m (m.length - 1) := rfl
    obtain ⟨u1, u2⟩ := hB _ (gi_mem m (m.length - 1) (by omega))
    have hf := D.wfrom_ev (gi m (m.length - 1)).1 (gi m (m.length - 1)).2 u1 (by omega)
    have hl : D.L (zq m (m.length - 1)) ≤ 6 := Nat.le_trans (D.len_of_len _) (by have := zq_len hB (i := m.length - 1) (by omega); omega)
    obtain ⟨w, hw, ew'⟩ := D.FL.whole (zq m (m.length - 1)) hl (by decide)
    have z2 := Sz_zq hB (i := m.length - 1) (by omega)
    rw [e1, e2, eg]
    exact Ev.if_neg (by omega) (Ev.if_pos (by omega) (Ev.if_pos (by omega) (Ev.bind hf (Ev.bind ew' (unfolds_l1 m hm hB (m.length - 1) _ w (by omega) (hw.mono (by omega)) (by omega))))))
def tinyI (e : It) : It := (e.1, e.2.take 2)
theorem unfolds_l0 (l : List It) (hU : ∀ r ∈ l, U r.2) : ∀ (b a : List It), l = a ++ b → a.length ≤ 20 → Ev (fun k => dendronlaw03_RatioUnfolds.l0 k l (a.map tinyI) (a.length : Int)) true := by
  have hB : ∀ a b : List It, l = a ++ b → ItB (a.map tinyI) := fun a b e r hr => by
    obtain ⟨x, hx, rfl⟩ := List.mem_map.1 hr
    exact ⟨(hU x (by rw [e]; exact List.mem_append_left _ hx)).takeN 2, by show (x.2.take 2).length ≤ 2; rw [List.length_take]; omega⟩
  intro b
  induction b with
  | nil =>
    intro a hr ha
    have hb := hB a [] hr
    rw [List.append_nil] at hr
    refine Ev.succ ?_
    simp only [dendronlaw03_RatioUnfolds.l0]
    exact Ev.if_neg (by rw [hr]; omega) (unfolds_tail _ (by rw [List.length_map]; exact ha) hb)
  | cons r b ih =>
    intro a hr ha
    have hb := hB a (r :: b) hr
    have e1 := gt_at it0 a r b
    have l1 := lt_at a r b
    rw [← hr] at e1 l1
    refine Ev.succ ?_
    simp only [dendronlaw03_RatioUnfolds.l0, e1, wr_at a r (show a.length ≤ 1125899906842624 by omega)]
    refine Ev.if_pos l1 ?_
    by_cases h20 : a.length = 20
    · exact Ev.if_neg (by omega) (unfolds_tail _ (by rw [List.length_map]; exact ha) hb)
    · have em : (a ++ [r]).map tinyI = a.map tinyI ++ [tinyI r] := by rw [List.map_append]; rfl
      have hih := ih (a ++ [r]) (by rw [hr]; simp) (by rw [List.length_append, List.length_singleton]; omega)
      rw [em] at hih
      exact Ev.if_pos (by omega) (Ev.if_pos (nn0 _) (Ev.bind (tiny3_ev _ _ _) (Ev.if_pos (by rw [List.length_map]; omega) hih)))
theorem ratioUnfolds_ev (l : List It) (hU : ∀ r ∈ l, U r.2) : Ev (fun k => dendronlaw03_RatioUnfolds.f k l) true := by
  unfold dendronlaw03_RatioUnfolds.f
  exact unfolds_l0 l hU l [] rfl (by decide)
end Go.DI.Th
