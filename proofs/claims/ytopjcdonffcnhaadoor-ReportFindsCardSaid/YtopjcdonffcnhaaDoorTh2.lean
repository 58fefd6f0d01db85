/- What the told functions answer, part 2. No condition. -/
import Derived.Test.YtopjcdonffcnhaaDoorTh1
set_option linter.all false
namespace Go.DI.Th
open Go Go.RowKit Go.DI

theorem text_l2 (xs : List En) (i : Int) (b0 b1 b2 : Int) (t : List (List Rt)) (ta : List (List Rt)) (row : List Rt) (tb : List (List Rt)) (htb : t = ta ++ row :: tb) (hta : ta.length ≤ 1099511627776) (R acc0 : ByteArray) (hr : row.length ≤ 1099511627776) (hv : ∀ v ∈ row, RtOk v) (hs : acc0.size ≤ M)
    (hend : Ev (fun k => dendronlaw29_text.l1 k xs acc0 i ((ta ++ [row]).length : Int) b0 b1 b2 t) R) : ∀ (b a : List Rt) (acc : ByteArray), row = a ++ b → acc ++ rowTail b = acc0 →
    Ev (fun k => dendronlaw29_text.l2 k xs acc i (ta.length : Int) (a.length : Int) b0 b1 b2 t) R := by
  have g0 : gt [] t (ta.length : Int) = row := by rw [htb]; exact gt_at _ ta row tb
  have g1 : (ta.length : Int) < (t.length : Int) := by rw [htb]; exact lt_at ta row tb
  have g2 := wr_at ta row (by omega)
  intro b
  induction b with
  | nil =>
    intro a acc hx he
    rw [rowTail] at he
    have hsz : acc.size + 1 ≤ M := by
      rw [← he, ByteArray.size_append] at hs
      exact hs
    refine Ev.step (fun k => ?_) hend
    rw [dendronlaw29_text.l2, if_pos (nn0 _), if_pos g1, g0, if_neg (by rw [hx]; exact nlt_at a), if_pos (by have e1 : (⟨#[10]⟩ : ByteArray).size = 1 := rfl; rw [e1]; unfold M at hsz; omega), he, g2]
  | cons x b ih =>
    intro a acc hx he
    have hg : gt (false, [], []) row (a.length : Int) = x := by rw [hx]; exact gt_at _ a x b
    have hl := lt_at a x b
    rw [← hx] at hl
    rw [rowTail] at he
    have he2 : ((acc ++ (⟨#[32]⟩ : ByteArray)) ++ prT x) ++ rowTail b = acc0 := by rw [← he]; simp only [ByteArray.append_assoc]
    have hsz : acc.size + 1 + (prT x).size + (rowTail b).size ≤ M := by
      rw [← he2] at hs
      simp only [ByteArray.size_append] at hs
      exact hs
    refine Ev.step (f := fun k => (if acc.size + (⟨#[32]⟩ : ByteArray).size ≤ 9223372036854775807 then (if 0 ≤ (a.length : Int) then ((ratio_Print.f k x.1 x.2.1 x.2.2).bind fun v18 => (if (acc ++ (⟨#[32]⟩ : ByteArray)).size + v18.size ≤ 9223372036854775807 then (dendronlaw29_text.l2 k xs ((acc ++ (⟨#[32]⟩ : ByteArray)) ++ v18) i (ta.length : Int) ((a ++ [x]).length : Int) b0 b1 b2 t) else none)) else none) else none)) (fun k => ?_) ?_
    · rw [dendronlaw29_text.l2, if_pos (nn0 _), if_pos g1, g0, if_pos hl, hg, wr_at a x (by omega)]
    · refine Ev.if_pos ?_ (Ev.if_pos (nn0 _) (Ev.bind (prT_ev x (hv x (by rw [hx]; exact List.mem_append_right _ List.mem_cons_self))) (Ev.if_pos ?_ ?_)))
      · simp only [ByteArray.size_append, lit_size, List.size_toArray, List.length_cons, List.length_nil]; unfold M at hsz; omega
      · simp only [ByteArray.size_append, lit_size, List.size_toArray, List.length_cons, List.length_nil]; unfold M at hsz; omega
      · exact ih (a ++ [x]) _ (by rw [hx, snoc_at]) he2
theorem text_l1 (xs : List En) (i : Int) (b0 b1 b2 : Int) (t : List (List Rt)) (R : ByteArray) (ht : t.length ≤ 1099511627776) (hv : ∀ r ∈ t, r.length ≤ 1000 ∧ ∀ v ∈ r, RtOk v) (acc0 : ByteArray) (hs : acc0.size ≤ M)
    (hend : Ev (fun k => dendronlaw29_text.l0 k xs acc0 (wrap64 (i + 1))) R) : ∀ (b a : List (List Rt)) (acc : ByteArray), t = a ++ b → acc ++ rowsT b = acc0 →
    Ev (fun k => dendronlaw29_text.l1 k xs acc i (a.length : Int) b0 b1 b2 t) R := by
  intro b
  induction b with
  | nil =>
    intro a acc hx he
    rw [rowsT, append_empty] at he
    refine Ev.step (fun k => ?_) hend
    rw [dendronlaw29_text.l1, if_neg (by rw [hx]; exact nlt_at a), he]
  | cons x b ih =>
    intro a acc hx he
    have hg : gt [] t (a.length : Int) = x := by rw [hx]; exact gt_at _ a x b
    have hl := lt_at a x b
    rw [← hx] at hl
    rw [rowsT] at he
    obtain ⟨x1, x2⟩ := hv x (by rw [hx]; exact List.mem_append_right _ List.mem_cons_self)
    have he2 : ((acc ++ (⟨#[114, 111, 119, 32]⟩ : ByteArray)) ++ prN x.length) ++ rowTail x ++ rowsT b = acc0 := by rw [← he]; simp only [ByteArray.append_assoc]
    have hsz : acc.size + 4 + (prN x.length).size + (rowTail x).size + (rowsT b).size ≤ M := by
      rw [← he2] at hs
      simp only [ByteArray.size_append] at hs
      exact hs
    have h1 := ih (a ++ [x]) _ (by rw [hx, snoc_at]) he2
    have h2 := text_l2 xs i b0 b1 b2 t a x b hx (by omega) R _ (by omega) x2 (by simp only [ByteArray.size_append, lit_size, List.size_toArray, List.length_cons, List.length_nil]; omega) h1 x [] _ rfl rfl
    refine Ev.step (f := fun k => (if acc.size + (⟨#[114, 111, 119, 32]⟩ : ByteArray).size ≤ 9223372036854775807 then (if 0 ≤ (a.length : Int) then ((dendronlaw29_digits.f k (x.length : Int)).bind fun v13 => (if (acc ++ (⟨#[114, 111, 119, 32]⟩ : ByteArray)).size + v13.size ≤ 9223372036854775807 then (dendronlaw29_text.l2 k xs ((acc ++ (⟨#[114, 111, 119, 32]⟩ : ByteArray)) ++ v13) i (a.length : Int) 0 b0 b1 b2 t) else none)) else none) else none)) (fun k => ?_) ?_
    · rw [dendronlaw29_text.l1, if_pos hl, hg]
    · refine Ev.if_pos ?_ (Ev.if_pos (nn0 _) (Ev.bind (ldigits_ev x.length (by omega)) (Ev.if_pos ?_ h2)))
      · simp only [ByteArray.size_append, lit_size, List.size_toArray, List.length_cons, List.length_nil]; unfold M at hsz; omega
      · simp only [ByteArray.size_append, lit_size, List.size_toArray, List.length_cons, List.length_nil]; unfold M at hsz; omega
theorem lit_error : (⟨#[32, 101, 114, 114, 111, 114, 32]⟩ : ByteArray) = ⟨#[32]⟩ ++ ⟨#[101, 114, 114, 111, 114, 32]⟩ := by decide +kernel
theorem lit_table : (⟨#[32, 116, 97, 98, 108, 101, 32]⟩ : ByteArray) = ⟨#[32]⟩ ++ ⟨#[116, 97, 98, 108, 101, 32]⟩ := by decide +kernel
theorem text_l0 (xs : List En) (hn : xs.length ≤ 16384) (hv : ∀ x ∈ xs, EnOk x) : ∀ (b a : List En) (acc : ByteArray), xs = a ++ b → okL a.length b → (acc ++ entsT b).size ≤ M →
    Ev (fun k => dendronlaw29_text.l0 k xs acc (a.length : Int)) (acc ++ entsT b) := by
  intro b
  induction b with
  | nil =>
    intro a acc hx _ hs
    rw [entsT, append_empty]
    exact Ev.step (fun k => by rw [dendronlaw29_text.l0, if_neg (by rw [hx]; exact nlt_at a)]) (Ev.now _)
  | cons x b ih =>
    intro a acc hx hok hs
    have hg : gt (0, 0, 0, []) xs (a.length : Int) = x := by rw [hx]; exact gt_at _ a x b
    have hl := lt_at a x b
    rw [← hx] at hl
    have hal : a.length < 16384 := by omega
    obtain ⟨x1, x2⟩ := hv x (by rw [hx]; exact List.mem_append_right _ List.mem_cons_self)
    rw [entsT] at hs
    obtain ⟨s1, s2, s3⟩ := ent_sizes acc x (entsT b) hs
    obtain ⟨hok, hokb⟩ := hok
    have hw := wr_at a x (by omega)
    have hid := hok.1
    have t1 : ((x.1.toNat : Nat) : Int) = x.1 := by omega
    have t2 : ((x.2.1.toNat : Nat) : Int) = x.2.1 := toNat_ofNonneg hok.2.1
    have t3 : ((x.2.2.1.toNat : Nat) : Int) = x.2.2.1 := toNat_ofNonneg hok.2.2.2.1
    have d1 := ldigits_ev x.1.toNat (by omega)
    have d2 := ldigits_ev x.2.1.toNat (by have := hok.2.2.1; omega)
    have d3 := ldigits_ev x.2.2.1.toNat (by have := hok.2.2.2.2.1; omega)
    have d4 := ldigits_ev x.2.2.2.length (by omega)
    rw [t1] at d1
    rw [t2] at d2
    rw [t3] at d3
    have step : ∀ acc1 : ByteArray, acc1 = acc ++ entT x → Ev (fun k => dendronlaw29_text.l0 k xs acc1 (wrap64 ((a.length : Int) + 1))) (acc ++ entsT (x :: b)) := by
      intro acc1 he
      have h1 := ih (a ++ [x]) acc1 (by rw [hx, snoc_at]) (by rw [List.length_append, List.length_singleton]; exact hokb) (by rw [he, ByteArray.append_assoc]; exact hs)
      rw [hw]
      refine h1.of_eq ?_
      rw [he, entsT, ByteArray.append_assoc]
    refine Ev.step (fun k => by rw [dendronlaw29_text.l0, if_pos hl, if_pos (nn0 _), hg]) ?_
    refine Ev.if_pos ?_ (Ev.bind d1 (Ev.if_pos ?_ (Ev.if_pos ?_ (Ev.bind d2 (Ev.if_pos ?_ ?_)))))
    · simp only [ByteArray.size_append, lit_size, List.size_toArray, List.length_cons, List.length_nil]; unfold M at s1; omega
    · simp only [ByteArray.size_append, lit_size, List.size_toArray, List.length_cons, List.length_nil]; unfold M at s1; omega
    · simp only [ByteArray.size_append, lit_size, List.size_toArray, List.length_cons, List.length_nil]; unfold M at s1; omega
    · simp only [ByteArray.size_append, lit_size, List.size_toArray, List.length_cons, List.length_nil]; unfold M at s1; omega
    · by_cases he : x.2.2.1 ≠ 0
      · have s := s2 he
        refine Ev.if_pos he (Ev.if_pos ?_ (Ev.bind d3 (Ev.if_pos ?_ (Ev.if_pos ?_ (step _ ?_)))))
        · simp only [ByteArray.size_append, lit_size, List.size_toArray, List.length_cons, List.length_nil]; unfold M at s; omega
        · simp only [ByteArray.size_append, lit_size, List.size_toArray, List.length_cons, List.length_nil]; unfold M at s; omega
        · simp only [ByteArray.size_append, lit_size, List.size_toArray, List.length_cons, List.length_nil]; unfold M at s; omega
        · unfold entT
          rw [if_pos he, lit_error]
          simp only [ByteArray.append_assoc]
      · have s := s3 he
        refine Ev.if_neg he (Ev.if_pos ?_ (Ev.bind d4 (Ev.if_pos ?_ (Ev.if_pos ?_ ?_))))
        · simp only [ByteArray.size_append, lit_size, List.size_toArray, List.length_cons, List.length_nil]; unfold M at s; omega
        · simp only [ByteArray.size_append, lit_size, List.size_toArray, List.length_cons, List.length_nil]; unfold M at s; omega
        · simp only [ByteArray.size_append, lit_size, List.size_toArray, List.length_cons, List.length_nil]; unfold M at s; omega
        · refine text_l1 xs _ _ _ _ x.2.2.2 _ x1 x2 _ ?_ (step _ rfl) x.2.2.2 [] _ rfl ?_
          · rw [← ByteArray.append_assoc, ByteArray.size_append] at hs; omega
          · unfold entT
            rw [if_neg he, lit_table]
            simp only [ByteArray.append_assoc]
theorem text_ev (xs : List En) (hn : xs.length ≤ 16384) (hv : ∀ x ∈ xs, EnOk x) (hok : okL 0 xs) (hs : (headT xs.length ++ entsT xs).size ≤ M) : Ev (fun k => dendronlaw29_text.f k xs) (headT xs.length ++ entsT xs) := by
  have hh : (headT xs.length).size = 8 + (prN xs.length).size := by
    unfold headT
    simp only [ByteArray.size_append, lit_size, List.size_toArray, List.length_cons, List.length_nil]
    omega
  have hs2 := hs
  rw [ByteArray.size_append, hh] at hs2
  have h1 := text_l0 xs hn hv xs [] (headT xs.length) rfl hok hs
  refine Ev.bind (ldigits_ev xs.length (by omega)) (Ev.if_pos ?_ (Ev.if_pos ?_ ?_))
  · simp only [ByteArray.size_append, lit_size, List.size_toArray, List.length_cons, List.length_nil]; unfold M at hs2; omega
  · simp only [ByteArray.size_append, lit_size, List.size_toArray, List.length_cons, List.length_nil]; unfold M at hs2; omega
  · refine Ev.congr (fun k => ?_) h1
    have e : (⟨#[114, 101, 112, 111, 114, 116, 32]⟩ : ByteArray) ++ prN xs.length ++ ⟨#[10]⟩ = headT xs.length := by
      unfold headT
      rw [ByteArray.append_assoc]
    rw [e]
    rfl

/-! ### Sizes of few entries -/
theorem rowTail_size : ∀ (l : List Rt), (∀ r ∈ l, r.2.1.length ≤ 3 ∧ r.2.2.length ≤ 3) → (rowTail l).size ≤ 1 + 230 * l.length
  | [], _ => by
    rw [rowTail]
    have : (⟨#[10]⟩ : ByteArray).size = 1 := rfl
    omega
  | r :: l, h => by
    have h1 := rowTail_size l fun x hx => h x (List.mem_cons_of_mem _ hx)
    obtain ⟨h2, h3⟩ := h r List.mem_cons_self
    have h4 := prR_size r.1 r.2.1 r.2.2
    have e : (⟨#[32]⟩ : ByteArray).size = 1 := rfl
    rw [rowTail, ByteArray.size_append, ByteArray.size_append, e, List.length_cons]
    unfold prT
    omega
theorem rowsT_size : ∀ (l : List (List Rt)), (∀ r ∈ l, r.length ≤ 12 ∧ ∀ x ∈ r, x.2.1.length ≤ 3 ∧ x.2.2.length ≤ 3) → (rowsT l).size ≤ 3000 * l.length
  | [], _ => by rw [rowsT]; exact Nat.zero_le _
  | r :: l, h => by
    have h1 := rowsT_size l fun x hx => h x (List.mem_cons_of_mem _ hx)
    obtain ⟨h2, h3⟩ := h r List.mem_cons_self
    have h4 := rowTail_size r h3
    have h5 := prN_small (n := r.length) (by omega)
    have e : (⟨#[114, 111, 119, 32]⟩ : ByteArray).size = 4 := rfl
    rw [rowsT, ByteArray.size_append, ByteArray.size_append, ByteArray.size_append, e, List.length_cons]
    omega
def few3 (x : En) : Prop := x.2.2.2.length ≤ 70 ∧ ∀ r ∈ x.2.2.2, r.length ≤ 12 ∧ ∀ v ∈ r, v.2.1.length ≤ 3 ∧ v.2.2.length ≤ 3
theorem entT_size (x : En) (h : few3 x) (hi : -9223372036854775808 ≤ x.1 ∧ x.1 ≤ 9223372036854775807) (hk : -9223372036854775808 ≤ x.2.1 ∧ x.2.1 ≤ 9223372036854775807) (he : -9223372036854775808 ≤ x.2.2.1 ∧ x.2.2.1 ≤ 9223372036854775807) : (entT x).size ≤ 300000 := by
  have h1 := prN_small (n := x.1.toNat) (by omega)
  have h2 := prN_small (n := x.2.1.toNat) (by omega)
  have h3 := prN_small (n := x.2.2.1.toNat) (by omega)
  have hlen := h.1
  have h4 := prN_small (n := x.2.2.2.length) (by omega)
  have h5 := rowsT_size x.2.2.2 h.2
  unfold entT
  simp only [ByteArray.size_append, lit_size, List.size_toArray, List.length_cons, List.length_nil]
  split <;> simp only [ByteArray.size_append, lit_size, List.size_toArray, List.length_cons, List.length_nil] <;> omega
theorem entsT_size : ∀ (l : List En), (∀ x ∈ l, (entT x).size ≤ 300000) → (entsT l).size ≤ 300000 * l.length
  | [], _ => by rw [entsT]; exact Nat.zero_le _
  | x :: l, h => by
    have h1 := entsT_size l fun y hy => h y (List.mem_cons_of_mem _ hy)
    have h2 := h x List.mem_cons_self
    rw [entsT, ByteArray.size_append, List.length_cons]
    omega
/-! ### The law -/
def I64 (z : Int) : Prop := -9223372036854775808 ≤ z ∧ z ≤ 9223372036854775807
def EnW (x : En) : Prop := I64 x.1 ∧ I64 x.2.1 ∧ I64 x.2.2.1 ∧ ∀ r ∈ x.2.2.2, ∀ v ∈ r, U v.2.1 ∧ U v.2.2
theorem U.take {l : List Int} (h : U l) (n : Nat) : U (l.take n) := fun x hx => h x (List.mem_of_mem_take hx)
theorem ent3_ok (x : En) (h : EnW x) : few3 (ent3 x) ∧ EnOk (ent3 x) ∧ (entT (ent3 x)).size ≤ 300000 := by
  have hr : ∀ r ∈ (ent3 x).2.2.2, r.length ≤ 12 ∧ ∀ v ∈ r, RtOk v ∧ v.2.1.length ≤ 3 ∧ v.2.2.length ≤ 3 := by
    intro r hr
    obtain ⟨r0, h0, rfl⟩ := List.mem_map.1 hr
    have h0' := List.mem_of_mem_take h0
    refine ⟨by unfold row3; rw [List.length_map, List.length_take]; omega, fun v hv => ?_⟩
    obtain ⟨v0, h1, rfl⟩ := List.mem_map.1 hv
    obtain ⟨u1, u2⟩ := h.2.2.2 r0 h0' v0 (List.mem_of_mem_take h1)
    have l1 : (v0.2.1.take 3).length ≤ 3 := by rw [List.length_take]; omega
    have l2 : (v0.2.2.take 3).length ≤ 3 := by rw [List.length_take]; omega
    exact ⟨⟨u1.take 3, u2.take 3, Nat.le_trans l1 (by decide), Nat.le_trans l2 (by decide)⟩, l1, l2⟩
  have hl : (ent3 x).2.2.2.length ≤ 70 := by
    show ((x.2.2.2.take 70).map row3).length ≤ 70
    rw [List.length_map, List.length_take]; omega
  have hf : few3 (ent3 x) := ⟨hl, fun r h1 => ⟨(hr r h1).1, fun v hv => ((hr r h1).2 v hv).2⟩⟩
  exact ⟨hf, ⟨Nat.le_trans hl (by decide), fun r h1 => ⟨Nat.le_trans (hr r h1).1 (by decide), fun v hv => ((hr r h1).2 v hv).1⟩⟩, entT_size _ hf h.1 h.2.1 h.2.2.1⟩
theorem few29_ok (l : List En) (h : ∀ x ∈ l, EnW x) : (few29 l).length ≤ 8 ∧ (∀ x ∈ few29 l, EnOk x) ∧ (headT (few29 l).length ++ entsT (few29 l)).size ≤ M := by
  have hl : (few29 l).length ≤ 8 := by unfold few29; rw [List.length_map, List.length_take]; omega
  have hx : ∀ x ∈ few29 l, EnOk x ∧ (entT x).size ≤ 300000 := by
    intro x hx
    obtain ⟨x0, h0, rfl⟩ := List.mem_map.1 hx
    exact (ent3_ok x0 (h x0 (List.mem_of_mem_take h0))).2
  refine ⟨hl, fun x hm => (hx x hm).1, ?_⟩
  have h1 := entsT_size (few29 l) fun x hm => (hx x hm).2
  have h2 := prN_small (n := (few29 l).length) (by omega)
  unfold headT M
  simp only [ByteArray.size_append, lit_size, List.size_toArray, List.length_cons, List.length_nil]
  omega
theorem prN_digit (n : Nat) (h : n < 10) : prN n = ofBytes [48 + (n : Int)] := by unfold prN; rw [dec_small h]
theorem ex_prT : prT (rl 1 2) = ⟨#[49, 47, 50]⟩ := by
  unfold prT prR
  obtain ⟨e1, e2⟩ := num_rl 1 2 (by decide)
  rw [e1, e2, show rnum 1 2 = 1 by decide +kernel, show rden 1 2 = 2 by decide +kernel]
  unfold rl wv prQ prW
  rw [val_lm]
  have g : Nat.gcd (Int.natAbs 1) 2 = 1 := by decide
  rw [g, show Int.natAbs 1 / 1 = 1 from rfl, show 2 / 1 = 2 from rfl, if_neg (by decide), if_neg (by decide), if_neg (by decide), show Int.natAbs ((1 : Nat) : Int) = 1 from rfl, prN_digit 1 (by decide), prN_digit 2 (by decide)]
  decide +kernel
theorem awake29_ev : Ev (fun k => dendronlaw29_awake.f k) true := by
  have h1 := frac_ev 1 2 (by omega) (by omega)
  rw [if_neg (by decide), show over 1 2 = 1 from rfl] at h1
  have h1' : Ev (fun k => ratio_Frac.f k 1 2) (rl 1 2) := h1
  let xs : List En := [(0, 2, 0, [[rl 1 2]])]
  have hu := rl_ok 1 2
  have hl := rl_lens 1 2
  have l1 : len (Int.natAbs 1) ≤ 2 := len_small (by decide)
  have l2 : len 2 ≤ 2 := len_small (by decide)
  have hv : ∀ x ∈ xs, EnOk x := by
    intro x hx
    rw [List.mem_singleton] at hx
    subst hx
    refine ⟨by decide, fun r hr => ?_⟩
    have hr : r ∈ [[rl 1 2]] := hr
    rw [List.mem_singleton] at hr
    subst hr
    refine ⟨by simp, fun v hv => ?_⟩
    rw [List.mem_singleton] at hv
    subst hv
    exact ⟨hu.1, hu.2, by omega, by omega⟩
  have ht : headT xs.length ++ entsT xs = cst_0edf54b5 := by
    show headT 1 ++ (entT (0, 2, 0, [[rl 1 2]]) ++ ByteArray.empty) = cst_0edf54b5
    unfold headT entT rowsT rowTail rowTail rowsT
    dsimp only
    rw [ex_prT, if_neg (by decide)]
    show _ ++ (prN 1 ++ _) ++ (_ ++ (prN 0 ++ (_ ++ (prN 2 ++ (_ ++ (_ ++ (prN 1 ++ (_ ++ (_ ++ (prN 1 ++ _))))))))) ++ _) = _
    rw [prN_digit 0 (by decide), prN_digit 1 (by decide), prN_digit 2 (by decide)]
    decide +kernel
  have hok : okL 0 xs := ⟨⟨rfl, by decide, by decide, by decide, by decide, fun h => absurd rfl h, by decide⟩, trivial⟩
  have h2 := write_ev xs (by decide) hv (by rw [ht]; decide +kernel)
  unfold writeR at h2
  rw [if_pos hok, ht] at h2
  exact Ev.bind h1' (Ev.bind h2 (Ev.if_pos rfl (Ev.if_pos rfl (Ev.now _))))
theorem reportWrites_ev (l : List En) (h : ∀ x ∈ l, EnW x) : Ev (fun k => dendronlaw29_ReportWrites.f k l) true := by
  obtain ⟨f1, f2, f3⟩ := few29_ok l h
  refine Ev.bind (few29_ev l) (Ev.bind (write_ev (few29 l) (by omega) f2 f3) ?_)
  have hr := lright_loop (few29 l) (by omega) (few29 l) [] rfl
  refine Ev.bind (a := decide (okL 0 (few29 l))) hr ?_
  unfold writeR
  by_cases hok : okL 0 (few29 l)
  · rw [if_pos hok]
    exact Ev.if_pos (decide_eq_true hok) (Ev.bind (text_ev (few29 l) (by omega) f2 hok f3) (Ev.if_pos rfl (Ev.if_pos rfl (Ev.bind awake29_ev (Ev.now _)))))
  · rw [if_neg hok]
    exact Ev.if_neg (by simp [hok]) (Ev.if_pos rfl (Ev.if_pos rfl (Ev.bind awake29_ev (Ev.now _))))
end Go.DI.Th
namespace Go.DI.Th
open Go Go.RowKit Go.DI

/-! ### words -/
def toL (b : ByteArray) : List UInt8 := b.data.toList
theorem toL_append (a b : ByteArray) : toL (a ++ b) = toL a ++ toL b := by unfold toL; simp
theorem toL_inj {a b : ByteArray} (h : toL a = toL b) : a = b := by
  unfold toL at h
  have := Array.toList_inj.1 h
  cases a; cases b
  simpa using this
theorem span_inj {α : Type} (P : α → Prop) : ∀ (a b : List α) (x y : α) (r s : List α), (∀ c ∈ a, P c) → (∀ c ∈ b, P c) → ¬ P x → ¬ P y → a ++ x :: r = b ++ y :: s → a = b ∧ x = y ∧ r = s
  | [], [], x, y, r, s, _, _, _, _, h => by simpa using h
  | [], c :: b, x, y, r, s, _, hb, hx, _, h => by
    injection h with h1 h2
    exact absurd (h1 ▸ hb c List.mem_cons_self) hx
  | c :: a, [], x, y, r, s, ha, _, _, hy, h => by
    injection h with h1 h2
    exact absurd (h1 ▸ ha c List.mem_cons_self) hy
  | c :: a, d :: b, x, y, r, s, ha, hb, hx, hy, h => by
    injection h with h1 h2
    have := span_inj P a b x y r s (fun e he => ha e (List.mem_cons_of_mem _ he)) (fun e he => hb e (List.mem_cons_of_mem _ he)) hx hy h2
    exact ⟨by rw [h1, this.1], this.2⟩
def Dig (c : UInt8) : Prop := 48 ≤ c.toNat ∧ c.toNat ≤ 57
def Wd (c : UInt8) : Prop := c ≠ 32 ∧ c ≠ 10
theorem Dig.wd {c : UInt8} (h : Dig c) : Wd c := ⟨fun e => by subst e; exact absurd h.1 (by decide), fun e => by subst e; exact absurd h.1 (by decide)⟩
theorem Dig.n47 {c : UInt8} (h : Dig c) : c ≠ 47 := fun e => by subst e; exact absurd h.1 (by decide)
theorem Dig.n45 {c : UInt8} (h : Dig c) : c ≠ 45 := fun e => by subst e; exact absurd h.1 (by decide)
theorem toL_ofBytes (l : List Int) : toL (ofBytes l) = l.map fun n => UInt8.ofNat n.toNat := by unfold toL ofBytes; rfl
theorem prN_dig (n : Nat) : ∀ c ∈ toL (prN n), Dig c := by
  intro c hc
  unfold prN at hc
  rw [toL_ofBytes, List.mem_map] at hc
  obtain ⟨x, hx, e⟩ := hc
  have := dec_byte n x hx
  subst e
  unfold Dig
  rw [UInt8.toNat_ofNat', Nat.mod_eq_of_lt (by omega)]
  omega
def vb (l : List UInt8) : Nat := l.foldl (fun a c => 10 * a + (c.toNat - 48)) 0
theorem vb_prN (n : Nat) : vb (toL (prN n)) = n := by
  unfold prN
  rw [toL_ofBytes]
  induction n using Nat.strongRecOn with
  | ind n ih =>
    by_cases h : n < 10
    · rw [dec_small h]
      show 10 * 0 + ((UInt8.ofNat (48 + (n : Int)).toNat).toNat - 48) = n
      rw [UInt8.toNat_ofNat', Nat.mod_eq_of_lt (by omega)]
      omega
    · rw [dec_big h, List.map_append]
      unfold vb at ih ⊢
      rw [List.foldl_append, ih (n / 10) (by omega)]
      show 10 * (n / 10) + ((UInt8.ofNat (48 + ((n % 10 : Nat) : Int)).toNat).toNat - 48) = n
      have hm : n % 10 < 10 := Nat.mod_lt _ (by decide)
      have hd := Nat.div_add_mod n 10
      generalize n % 10 = m at hm hd ⊢
      rw [UInt8.toNat_ofNat', Nat.mod_eq_of_lt (by omega)]
      omega
theorem prN_inj {n m : Nat} (h : prN n = prN m) : n = m := by rw [← vb_prN n, h, vb_prN]
theorem toL_minus : toL minus = [45] := rfl
theorem toL_slash : toL slash = [47] := rfl
theorem prN_ne (n : Nat) : toL (prN n) ≠ [] := by
  unfold prN
  rw [toL_ofBytes]
  by_cases h : n < 10
  · rw [dec_small h]; simp
  · rw [dec_big h]; simp
theorem prW_chars (z : Int) : ∀ c ∈ toL (prW z), Dig c ∨ c = 45 := by
  intro c hc
  unfold prW at hc
  split at hc
  · rw [toL_append, toL_minus] at hc
    rcases List.mem_append.1 hc with h | h
    · right; simpa using h
    · left; exact prN_dig _ c h
  · left; exact prN_dig _ c hc
theorem prW_inj {z w : Int} (h : prW z = prW w) : z = w := by
  have key : ∀ n m : Nat, ¬ (minus ++ prN n = prN m) := fun n m e => by
    have e2 := congrArg toL e
    rw [toL_append, toL_minus] at e2
    have := prN_dig m 45 (by rw [← e2]; simp)
    exact absurd rfl this.n45
  unfold prW at h
  split at h <;> split at h
  · have h2 := congrArg toL h
    rw [toL_append, toL_append] at h2
    have := prN_inj (toL_inj (List.append_cancel_left h2))
    omega
  · exact absurd h (key _ _)
  · exact absurd h.symm (key _ _)
  · have := prN_inj h
    omega
theorem prW_n47 (z : Int) : ∀ c ∈ toL (prW z), c ≠ 47 := by
  intro c hc
  rcases prW_chars z c hc with h | h
  · exact h.n47
  · rw [h]; decide
theorem prW_wd (z : Int) : ∀ c ∈ toL (prW z), Wd c := by
  intro c hc
  rcases prW_chars z c hc with h | h
  · exact h.wd
  · rw [h]; exact ⟨by decide, by decide⟩
theorem prQ_wd (z : Int) (q : Nat) : ∀ c ∈ toL (prQ z q), Wd c := by
  intro c hc
  unfold prQ at hc
  split at hc
  · exact prW_wd z c hc
  · rw [toL_append, toL_append, toL_slash] at hc
    rcases List.mem_append.1 hc with h | h
    · rcases List.mem_append.1 h with h | h
      · exact prW_wd z c h
      · have : c = 47 := by simpa using h
        rw [this]; exact ⟨by decide, by decide⟩
    · exact (prN_dig q c h).wd
theorem prQ_inj {z w : Int} {q p : Nat} (h : prQ z q = prQ w p) : z = w ∧ q = p := by
  have key : ∀ (z w : Int) (p : Nat), ¬ (prW z = prW w ++ slash ++ prN p) := fun z w p e => by
    have e2 := congrArg toL e
    rw [toL_append, toL_append, toL_slash] at e2
    exact absurd rfl (prW_n47 z 47 (by rw [e2]; simp))
  unfold prQ at h
  split at h <;> split at h
  · rename_i h1 h2
    exact ⟨prW_inj h, by rw [h1, h2]⟩
  · exact absurd h (key _ _ _)
  · exact absurd h.symm (key _ _ _)
  · have h2 := congrArg toL h
    rw [toL_append, toL_append, toL_append, toL_append, toL_slash, List.append_assoc, List.append_assoc] at h2
    have h3 := span_inj (fun c => c ≠ 47) _ _ _ _ _ _ (prW_n47 z) (prW_n47 w) (by simp) (by simp) h2
    exact ⟨prW_inj (toL_inj h3.1), prN_inj (toL_inj h3.2.2)⟩
/-! ### fractions in their form -/
theorem wv_rl (z : Int) (q : Nat) : wv (rl z q).1 (rl z q).2.1 = rnum z q := by
  unfold rl wv rnum
  simp only [val_lm, decide_eq_true_eq]
theorem prT_eq (r : Rt) : prT r = prQ (rnum (num r.1 r.2.1 r.2.2) (den r.2.2)) (rden (num r.1 r.2.1 r.2.2) (den r.2.2)) := by
  unfold prT prR
  rw [wv_rl]
  rfl
theorem frac_nat (a q b p : Nat) (hq : q ≠ 0) (hp : p ≠ 0) : (a / Nat.gcd a q = b / Nat.gcd b p ∧ q / Nat.gcd a q = p / Nat.gcd b p) ↔ a * p = b * q := by
  have hg := gcd_pos_right a q hq
  have hh := gcd_pos_right b p hp
  have c1 := Nat.coprime_div_gcd_div_gcd hg
  have c2 := Nat.coprime_div_gcd_div_gcd hh
  have e1 := Nat.div_mul_cancel (Nat.gcd_dvd_left a q)
  have e2 := Nat.div_mul_cancel (Nat.gcd_dvd_right a q)
  have e3 := Nat.div_mul_cancel (Nat.gcd_dvd_left b p)
  have e4 := Nat.div_mul_cancel (Nat.gcd_dvd_right b p)
  generalize Nat.gcd a q = g at *
  generalize Nat.gcd b p = h at *
  generalize a / g = a' at *
  generalize q / g = q' at *
  generalize b / h = b' at *
  generalize p / h = p' at *
  have ht : a * p = b * q ↔ a' * p' = b' * q' := by
    rw [← e1, ← e2, ← e3, ← e4]
    have x1 : a' * g * (p' * h) = (g * h) * (a' * p') := by grind
    have x2 : b' * h * (q' * g) = (g * h) * (b' * q') := by grind
    rw [x1, x2]
    exact ⟨fun e => Nat.eq_of_mul_eq_mul_left (Nat.mul_pos hg hh) e, fun e => by rw [e]⟩
  rw [ht]
  constructor
  · intro ⟨h1, h2⟩
    rw [h1, h2]
  · intro e
    have d1 : q' ∣ p' := c1.symm.dvd_of_dvd_mul_left (by rw [e]; exact Nat.dvd_mul_left _ _)
    have d2 : p' ∣ q' := c2.symm.dvd_of_dvd_mul_left (by rw [← e]; exact Nat.dvd_mul_left _ _)
    have hqp := Nat.dvd_antisymm d1 d2
    have hq0 : 0 < q' := by
      rcases Nat.eq_zero_or_pos q' with h0 | h0
      · rw [h0, Nat.zero_mul] at e2; omega
      · exact h0
    rw [← hqp] at e
    exact ⟨Nat.eq_of_mul_eq_mul_right hq0 e, hqp⟩
theorem mul_neg_pos (z : Int) (p : Nat) (hp : p ≠ 0) : z * p < 0 ↔ z < 0 := by
  constructor
  · intro h
    rcases Int.lt_or_le z 0 with h0 | h0
    · exact h0
    · have := Int.mul_nonneg h0 (Int.natCast_nonneg p)
      omega
  · intro h
    exact Int.mul_neg_of_neg_of_pos h (by omega)
theorem frac_int (z w : Int) (q p : Nat) (hq : q ≠ 0) (hp : p ≠ 0) : (rnum z q = rnum w p ∧ rden z q = rden w p) ↔ z * p = w * q := by
  have hn := frac_nat z.natAbs q w.natAbs p hq hp
  have s1 := rnum_neg z q hq
  have s2 := rnum_neg w p hp
  have a1 := rnum_abs z q
  have a2 := rnum_abs w p
  have hz : z * p = w * q ↔ (z < 0 ↔ w < 0) ∧ z.natAbs * p = w.natAbs * q := by
    have m1 : (z * p).natAbs = z.natAbs * p := by rw [Int.natAbs_mul, Int.natAbs_natCast]
    have m2 : (w * q).natAbs = w.natAbs * q := by rw [Int.natAbs_mul, Int.natAbs_natCast]
    have n1 : z * p < 0 ↔ z < 0 := mul_neg_pos z p hp
    have n2 : w * q < 0 ↔ w < 0 := mul_neg_pos w q hq
    rw [← m1, ← m2, ← n1, ← n2]
    generalize z * (p : Int) = s
    generalize w * (q : Int) = t
    omega
  rw [hz, ← hn]
  unfold rden
  rw [← a1, ← a2, ← s1, ← s2]
  generalize rnum z q = s
  generalize rnum w p = t
  constructor
  · intro ⟨h1, h2⟩; subst h1; exact ⟨Iff.rfl, rfl, h2⟩
  · intro ⟨h1, h2, h3⟩; exact ⟨by omega, h3⟩
theorem prT_iff (r s : Rt) : prT r = prT s ↔ num r.1 r.2.1 r.2.2 * den s.2.2 = num s.1 s.2.1 s.2.2 * den r.2.2 := by
  rw [prT_eq, prT_eq, ← frac_int _ _ _ _ (den_pos _) (den_pos _)]
  exact ⟨prQ_inj, fun h => by rw [h.1, h.2]⟩
/-! ### texts -/
def Sep (u : List UInt8) : Prop := ∃ c t, u = c :: t ∧ ¬ Wd c
theorem sep_sp (u : List UInt8) : Sep (32 :: u) := ⟨32, u, rfl, fun h => h.1 rfl⟩
theorem sep_nl (u : List UInt8) : Sep (10 :: u) := ⟨10, u, rfl, fun h => h.2 rfl⟩
theorem tok_inj {a b : ByteArray} {u v : List UInt8} (ha : ∀ c ∈ toL a, Wd c) (hb : ∀ c ∈ toL b, Wd c) (hu : Sep u) (hv : Sep v) (h : toL a ++ u = toL b ++ v) : a = b ∧ u = v := by
  obtain ⟨c, t, rfl, hc⟩ := hu
  obtain ⟨d, s, rfl, hd⟩ := hv
  have h3 := span_inj Wd _ _ _ _ _ _ ha hb hc hd h
  exact ⟨toL_inj h3.1, by rw [h3.2.1, h3.2.2]⟩
theorem tok_sp {a b : ByteArray} {u v : List UInt8} (ha : ∀ c ∈ toL a, Wd c) (hb : ∀ c ∈ toL b, Wd c) (h : toL a ++ (toL ⟨#[32]⟩ ++ u) = toL b ++ (toL ⟨#[32]⟩ ++ v)) : a = b ∧ u = v := by
  have h1 := tok_inj ha hb (sep_sp u) (sep_sp v) h
  have h2 := h1.2
  injection h2 with _ h3
  exact ⟨h1.1, h3⟩
theorem tok_nl {a b : ByteArray} {u v : List UInt8} (ha : ∀ c ∈ toL a, Wd c) (hb : ∀ c ∈ toL b, Wd c) (h : toL a ++ (toL ⟨#[10]⟩ ++ u) = toL b ++ (toL ⟨#[10]⟩ ++ v)) : a = b ∧ u = v := by
  have h1 := tok_inj ha hb (sep_nl u) (sep_nl v) h
  have h2 := h1.2
  injection h2 with _ h3
  exact ⟨h1.1, h3⟩
theorem prN_wd (n : Nat) : ∀ c ∈ toL (prN n), Wd c := fun c hc => (prN_dig n c hc).wd
theorem prT_wd (r : Rt) : ∀ c ∈ toL (prT r), Wd c := by rw [prT_eq]; exact prQ_wd _ _
theorem rowTail_sep (l : List Rt) (u : List UInt8) : Sep (toL (rowTail l) ++ u) := by
  cases l with
  | nil => exact sep_nl u
  | cons r l =>
    unfold rowTail
    rw [toL_append]
    exact sep_sp _
theorem rowTail_inj : ∀ (l l' : List Rt) (u u' : List UInt8), toL (rowTail l) ++ u = toL (rowTail l') ++ u' → l.map prT = l'.map prT ∧ u = u'
  | [], [], u, u', h => ⟨rfl, List.append_cancel_left h⟩
  | [], r :: l, u, u', h => by
    unfold rowTail at h
    rw [toL_append] at h
    have h1 : (10 : UInt8) = 32 := by injection h
    exact absurd h1 (by decide)
  | r :: l, [], u, u', h => by
    unfold rowTail at h
    rw [toL_append] at h
    have h1 : (32 : UInt8) = 10 := by injection h
    exact absurd h1 (by decide)
  | r :: l, s :: l', u, u', h => by
    unfold rowTail at h
    rw [toL_append, toL_append, toL_append, toL_append, List.append_assoc, List.append_assoc, List.append_assoc, List.append_assoc] at h
    have h1 := List.append_cancel_left h
    have h2 := tok_inj (prT_wd r) (prT_wd s) (rowTail_sep l u) (rowTail_sep l' u') h1
    have h3 := rowTail_inj l l' u u' h2.2
    exact ⟨by rw [List.map_cons, List.map_cons, h2.1, h3.1], h3.2⟩
def viewR (t : List (List Rt)) : List (List ByteArray) := t.map fun r => r.map prT
theorem rowsT_inj : ∀ (t t' : List (List Rt)) (u u' : List UInt8), t.length = t'.length → toL (rowsT t) ++ u = toL (rowsT t') ++ u' → viewR t = viewR t' ∧ u = u'
  | [], [], u, u', _, h => ⟨rfl, List.append_cancel_left h⟩
  | [], r :: t, u, u', hl, h => by simp at hl
  | r :: t, [], u, u', hl, h => by simp at hl
  | r :: t, s :: t', u, u', hl, h => by
    unfold rowsT at h
    simp only [toL_append, List.append_assoc] at h
    have h1 := List.append_cancel_left h
    have h2 := tok_inj (prN_wd _) (prN_wd _) (rowTail_sep r _) (rowTail_sep s _) h1
    have h3 := rowTail_inj r s _ _ h2.2
    have h4 := rowsT_inj t t' u u' (by simpa using hl) h3.2
    refine ⟨?_, h4.2⟩
    show r.map prT :: viewR t = s.map prT :: viewR t'
    rw [h3.1, h4.1]
theorem rowTail_congr : ∀ (l l' : List Rt), l.map prT = l'.map prT → rowTail l = rowTail l'
  | [], [], _ => rfl
  | [], r :: l, h => by simp at h
  | r :: l, [], h => by simp at h
  | r :: l, s :: l', h => by
    rw [List.map_cons, List.map_cons] at h
    injection h with h1 h2
    unfold rowTail
    rw [h1, rowTail_congr l l' h2]
theorem rowsT_congr : ∀ (t t' : List (List Rt)), viewR t = viewR t' → rowsT t = rowsT t'
  | [], [], _ => rfl
  | [], r :: l, h => by simp [viewR] at h
  | r :: l, [], h => by simp [viewR] at h
  | r :: t, s :: t', h => by
    have h0 : r.map prT :: viewR t = s.map prT :: viewR t' := h
    injection h0 with h1 h2
    unfold rowsT
    have hl : r.length = s.length := by have := congrArg List.length h1; simpa using this
    rw [hl, rowTail_congr r s h1, rowsT_congr t t' h2]
theorem viewR_len {t t' : List (List Rt)} (h : viewR t = viewR t') : t.length = t'.length := by have := congrArg List.length h; simpa [viewR] using this
def viewE (x : En) : Int × Int × Int × List (List ByteArray) := (x.1, x.2.1, x.2.2.1, viewR x.2.2.2)
theorem viewE_iff (x y : En) : viewE x = viewE y ↔ x.1 = y.1 ∧ x.2.1 = y.2.1 ∧ x.2.2.1 = y.2.2.1 ∧ viewR x.2.2.2 = viewR y.2.2.2 := by
  unfold viewE
  simp only [Prod.mk.injEq]
theorem entT_congr (x y : En) (h : viewE x = viewE y) : entT x = entT y := by
  obtain ⟨h1, h2, h3, h4⟩ := (viewE_iff x y).1 h
  unfold entT
  rw [h1, h2, h3, rowsT_congr _ _ h4, viewR_len h4]
theorem toNat_eq {a b : Int} (ha : 0 ≤ a) (hb : 0 ≤ b) (h : a.toNat = b.toNat) : a = b := by omega
theorem entT_inj (i : Nat) (x y : En) (hx : okE i x) (hy : okE i y) (u u' : List UInt8) (h : toL (entT x) ++ u = toL (entT y) ++ u') : viewE x = viewE y ∧ u = u' := by
  obtain ⟨x1, x2, _, x4, _, x6, _⟩ := hx
  obtain ⟨y1, y2, _, y4, _, y6, _⟩ := hy
  unfold entT at h
  simp only [toL_append, List.append_assoc] at h
  have h1 := List.append_cancel_left h
  have h2 := tok_sp (prN_wd _) (prN_wd _) h1
  have h4 := tok_sp (prN_wd _) (prN_wd _) h2.2
  have h5 := h4.2
  have k2 := toNat_eq x2 y2 (prN_inj h4.1)
  rw [viewE_iff]
  have split (c : Prop) [Decidable c] (a b : ByteArray) (u : List UInt8) : toL (if c then a else b) ++ u = if c then toL a ++ u else toL b ++ u := by split <;> rfl
  rw [split, split] at h5
  by_cases hx0 : x.2.2.1 ≠ 0
  · rw [if_pos hx0] at h5
    by_cases hy0 : y.2.2.1 ≠ 0
    · rw [if_pos hy0] at h5
      simp only [toL_append, List.append_assoc] at h5
      have h6 := List.append_cancel_left h5
      have h7 := tok_nl (prN_wd _) (prN_wd _) h6
      have k3 := toNat_eq x4 y4 (prN_inj h7.1)
      have ex := List.eq_nil_of_length_eq_zero (x6 hx0)
      have ey := List.eq_nil_of_length_eq_zero (y6 hy0)
      refine ⟨⟨by rw [x1, y1], k2, k3, by rw [ex, ey]⟩, h7.2⟩
    · rw [if_neg hy0] at h5
      simp only [toL_append, List.append_assoc] at h5
      have h6 : (101 : UInt8) = 116 := by injection h5
      exact absurd h6 (by decide)
  · rw [if_neg hx0] at h5
    by_cases hy0 : y.2.2.1 ≠ 0
    · rw [if_pos hy0] at h5
      simp only [toL_append, List.append_assoc] at h5
      have h6 : (116 : UInt8) = 101 := by injection h5
      exact absurd h6 (by decide)
    · rw [if_neg hy0] at h5
      simp only [toL_append, List.append_assoc] at h5
      have h6 := List.append_cancel_left h5
      have h7 := tok_nl (prN_wd _) (prN_wd _) h6
      have h8 := rowsT_inj _ _ _ _ (prN_inj h7.1) (h7.2)
      exact ⟨⟨by rw [x1, y1], k2, by omega, h8.1⟩, h8.2⟩
theorem entsT_inj : ∀ (l l' : List En) (i : Nat), okL i l → okL i l' → l.length = l'.length → toL (entsT l) = toL (entsT l') → l.map viewE = l'.map viewE
  | [], [], _, _, _, _, _ => rfl
  | [], r :: l, _, _, _, hl, h => by simp at hl
  | r :: l, [], _, _, _, hl, h => by simp at hl
  | x :: l, y :: l', i, hx, hy, hl, h => by
    unfold entsT at h
    rw [toL_append, toL_append] at h
    have h1 := entT_inj i x y hx.1 hy.1 _ _ h
    rw [List.map_cons, List.map_cons, h1.1, entsT_inj l l' (i + 1) hx.2 hy.2 (by simpa using hl) h1.2]
theorem entsT_congr : ∀ (l l' : List En), l.map viewE = l'.map viewE → entsT l = entsT l'
  | [], [], _ => rfl
  | [], r :: l, h => by simp at h
  | r :: l, [], h => by simp at h
  | x :: l, y :: l', h => by
    rw [List.map_cons, List.map_cons] at h
    injection h with h1 h2
    unfold entsT
    rw [entT_congr x y h1, entsT_congr l l' h2]
theorem text_iff (l l' : List En) (h : okL 0 l) (h' : okL 0 l') : headT l.length ++ entsT l = headT l'.length ++ entsT l' ↔ l.map viewE = l'.map viewE := by
  constructor
  · intro e
    have e1 := congrArg toL e
    unfold headT at e1
    simp only [toL_append, List.append_assoc] at e1
    have h1 := List.append_cancel_left e1
    have h2 := tok_nl (prN_wd _) (prN_wd _) h1
    exact entsT_inj l l' 0 h h' (prN_inj h2.1) h2.2
  · intro e
    have hl : l.length = l'.length := by have := congrArg List.length e; simpa using this
    rw [hl, entsT_congr l l' e]
end Go.DI.Th
namespace Go.DI.Th
open Go Go.RowKit Go.DI

theorem toList_inj' {a b : ByteArray} (h : a.toList = b.toList) : a = b := by
  rw [ByteArray.toList_eq, ByteArray.toList_eq] at h
  exact toL_inj h
theorem dlen_num (b : Bool) (n d : List Int) : D.L (num b n d) ≤ 3 * n.length := by
  have h1 := D.len_of_len (val n)
  have h2 := val_len n
  have h3 := D.len_mono (num_abs b n d)
  unfold D.L
  omega
theorem dlen_den (d : List Int) : D.len (den d) ≤ 3 * d.length + 1 := by
  unfold den
  split
  · exact Nat.le_trans (D.len_le (k := 1) (by decide)) (by omega)
  · have h1 := D.len_of_len (val d)
    have h2 := val_len d
    omega
def numT (r : Rt) : Int := num r.1 r.2.1 r.2.2
def denT (r : Rt) : Nat := den r.2.2
theorem from_rt (r : Rt) (h : RtOk r) : Ev (fun k => dendronref03_From.f k r.1 r.2.1 r.2.2) (D.fl (numT r) (denT r)) :=
  D.ffrom_ev r.1 r.2.1 r.2.2 h.1 h.2.1 (Nat.le_trans h.2.2.1 (by decide)) (Nat.le_trans h.2.2.2 (by decide))
theorem order_rt (r s : Rt) (h : RtOk r) (h' : RtOk s) : Ev (fun k => dendronref03_Order.f k (D.fl (numT r) (denT r)).1 (D.fl (numT r) (denT r)).2.1 (D.fl (numT r) (denT r)).2.2 (D.fl (numT s) (denT s)).1 (D.fl (numT s) (denT s)).2.1 (D.fl (numT s) (denT s)).2.2) (D.cmpI (numT r * denT s) (numT s * denT r)) := by
  have a1 := dlen_num r.1 r.2.1 r.2.2
  have a2 := dlen_num s.1 s.2.1 s.2.2
  have a3 := dlen_den r.2.2
  have a4 := dlen_den s.2.2
  obtain ⟨_, _, b1, b2⟩ := h
  obtain ⟨_, _, b3, b4⟩ := h'
  exact D.forder_ev _ _ _ _ (by unfold numT denT; omega) (by unfold numT denT; omega)
theorem cmp_ne (r s : Rt) : D.cmpI (numT r * denT s) (numT s * denT r) ≠ 0 ↔ prT r ≠ prT s := by
  rw [Ne, Ne, prT_iff]
  unfold D.cmpI numT denT
  generalize num r.1 r.2.1 r.2.2 * (den s.2.2 : Int) = x
  generalize num s.1 s.2.1 s.2.2 * (den r.2.2 : Int) = y
  by_cases h1 : x < y
  · rw [if_pos h1]; exact ⟨fun _ => by omega, fun _ => by decide⟩
  · rw [if_neg h1]
    by_cases h2 : y < x
    · rw [if_pos h2]; exact ⟨fun _ => by omega, fun _ => by decide⟩
    · rw [if_neg h2]; exact ⟨fun h => absurd rfl h, fun h => absurd (by omega) h⟩
theorem same_l1_step (k : Nat) (a0 a1 a2 : Int) (ta : List (List Rt)) (row : List Rt) (tb : List (List Rt)) (c0 c1 c2 : Int) (sa : List (List Rt)) (row' : List Rt) (sb : List (List Rt)) (hsa : sa.length = ta.length)
    (r s : Rt) (a b a' b' : List Rt) (hr : row = a ++ r :: b) (hs : row' = a' ++ s :: b') (hl : a.length = a'.length) (hn : a.length ≤ 1099511627776) :
    dendronref29_Same.l1 (k + 1) (ta.length : Int) (a.length : Int) a0 a1 a2 (ta ++ row :: tb) c0 c1 c2 (sa ++ row' :: sb) = (dendronref03_From.f k r.1 r.2.1 r.2.2).bind fun v16 => ((dendronref03_From.f k s.1 s.2.1 s.2.2).bind fun v25 => ((dendronref03_Order.f k v16.1 v16.2.1 v16.2.2 v25.1 v25.2.1 v25.2.2).bind fun v26 => (if v26 ≠ 0 then (some false) else (dendronref29_Same.l1 k (ta.length : Int) ((a ++ [r]).length : Int) a0 a1 a2 (ta ++ row :: tb) c0 c1 c2 (sa ++ row' :: sb))))) := by
  have e1 := gt_at [] ta row tb
  have e2 := gt_at [] sa row' sb
  rw [hsa] at e2
  have e3 := gt_at (false, [], []) a r b
  rw [← hr] at e3
  have e4 := gt_at (false, [], []) a' s b'
  rw [← hs, ← hl] at e4
  have e5 := wr_at a r (Nat.le_trans hn (by decide))
  have l1 := lt_at ta row tb
  have l2 := lt_at sa row' sb
  rw [hsa] at l2
  have l3 := lt_at a r b
  rw [← hr] at l3
  have l4 := lt_at a' s b'
  rw [← hs, ← hl] at l4
  rw [dendronref29_Same.l1, e1, e2, e3, e4, e5, if_pos (nn0 _), if_pos l1, if_pos l3, if_pos (nn0 _)]
  congr 1
  funext v16
  rw [if_pos l2, if_pos l4]
theorem same_l1 (a0 a1 a2 : Int) (ta : List (List Rt)) (row : List Rt) (tb : List (List Rt)) (c0 c1 c2 : Int) (sa : List (List Rt)) (row' : List Rt) (sb : List (List Rt)) (hsa : sa.length = ta.length) (hta : ta.length ≤ 1099511627776)
    (hrow : row.length ≤ 1099511627776) (hv : ∀ v ∈ row, RtOk v) (hv' : ∀ v ∈ row', RtOk v) (Q : Prop) [Decidable Q]
    (hend : Ev (fun k => dendronref29_Same.l0 k ((ta ++ [row]).length : Int) a0 a1 a2 (ta ++ row :: tb) c0 c1 c2 (sa ++ row' :: sb)) (decide Q)) :
    ∀ (b a b' a' : List Rt), row = a ++ b → row' = a' ++ b' → a.length = a'.length → b.length = b'.length →
    Ev (fun k => dendronref29_Same.l1 k (ta.length : Int) (a.length : Int) a0 a1 a2 (ta ++ row :: tb) c0 c1 c2 (sa ++ row' :: sb)) (decide (b.map prT = b'.map prT ∧ Q)) := by
  intro b
  induction b with
  | nil =>
    intro a b' a' hr hs hl hbl
    have hb' := List.eq_nil_of_length_eq_zero hbl.symm
    subst hb'
    refine Ev.step (f := fun k => dendronref29_Same.l0 k ((ta ++ [row]).length : Int) a0 a1 a2 (ta ++ row :: tb) c0 c1 c2 (sa ++ row' :: sb)) (fun k => ?_) (hend.of_eq ?_)
    · have e1 := gt_at [] ta row tb
      have e3 : ¬ (a.length : Int) < (row.length : Int) := by rw [hr]; exact nlt_at a
      rw [dendronref29_Same.l1, e1, if_pos (nn0 _), if_pos (lt_at ta row tb), if_neg e3, wr_at ta row (Nat.le_trans hta (by decide))]
    · simp
  | cons r b ih =>
    intro a b' a' hr hs hl hbl
    cases b' with
    | nil => simp at hbl
    | cons s b' =>
      have hn : a.length ≤ 1099511627776 := by
        have : row.length = a.length + (b.length + 1) := by rw [hr, List.length_append, List.length_cons]
        omega
      have hrk := hv r (by rw [hr]; simp)
      have hsk := hv' s (by rw [hs]; simp)
      refine Ev.step (fun k => same_l1_step k a0 a1 a2 ta row tb c0 c1 c2 sa row' sb hsa r s a b a' b' hr hs hl hn) (Ev.bind (from_rt r hrk) (Ev.bind (from_rt s hsk) (Ev.bind (order_rt r s hrk hsk) ?_)))
      have hc := cmp_ne r s
      by_cases hp : prT r = prT s
      · refine Ev.if_neg (fun h => hc.1 h hp) ((ih (a ++ [r]) b' (a' ++ [s]) (by rw [hr]; simp) (by rw [hs]; simp) (by simp [hl]) (by simpa using hbl)).of_eq ?_)
        simp [hp]
      · refine Ev.if_pos (hc.2 hp) ((Ev.now false).of_eq ?_)
        symm
        rw [decide_eq_false_iff_not]
        intro h
        have h1 := h.1
        rw [List.map_cons, List.map_cons] at h1
        injection h1 with h2 h3
        exact hp h2
theorem same_l0 (a0 a1 a2 : Int) (t t' : List (List Rt)) (c0 c1 c2 : Int) (ht : t.length ≤ 1099511627776) (hv : ∀ r ∈ t, r.length ≤ 1000 ∧ ∀ v ∈ r, RtOk v) (hv' : ∀ r ∈ t', r.length ≤ 1000 ∧ ∀ v ∈ r, RtOk v) :
    ∀ (b a b' a' : List (List Rt)), t = a ++ b → t' = a' ++ b' → a.length = a'.length → b.length = b'.length →
    Ev (fun k => dendronref29_Same.l0 k (a.length : Int) a0 a1 a2 t c0 c1 c2 t') (decide (viewR b = viewR b')) := by
  intro b
  induction b with
  | nil =>
    intro a b' a' hr hs hl hbl
    have hb' := List.eq_nil_of_length_eq_zero hbl.symm
    subst hb'
    refine Ev.step (f := fun _ => some true) (fun k => ?_) ((Ev.now true).of_eq (by simp))
    rw [dendronref29_Same.l0, if_neg (by rw [hr]; exact nlt_at a)]
  | cons r b ih =>
    intro a b' a' hr hs hl hbl
    cases b' with
    | nil => simp at hbl
    | cons s b' =>
      have hn : a.length ≤ 1099511627776 := by
        have : t.length = a.length + (b.length + 1) := by rw [hr, List.length_append, List.length_cons]
        omega
      have hrk := hv r (by rw [hr]; simp)
      have hsk := hv' s (by rw [hs]; simp)
      have hih := ih (a ++ [r]) b' (a' ++ [s]) (by rw [hr]; simp) (by rw [hs]; simp) (by simp [hl]) (by simpa using hbl)
      subst hr
      subst hs
      have e1 := gt_at [] a r b
      have e2 := gt_at [] a' s b'
      have l2 := lt_at a' s b'
      rw [← hl] at e2 l2
      refine Ev.step (f := fun k => if (r.length : Int) ≠ (s.length : Int) then (some false) else (dendronref29_Same.l1 k (a.length : Int) 0 a0 a1 a2 (a ++ r :: b) c0 c1 c2 (a' ++ s :: b'))) (fun k => ?_) ?_
      · rw [dendronref29_Same.l0, e1, e2, if_pos (lt_at a r b), if_pos (nn0 _), if_pos l2]
      · by_cases hrs : r.length = s.length
        · refine Ev.if_neg (fun h => h (by omega)) ?_
          have h1 := same_l1 a0 a1 a2 a r b c0 c1 c2 a' s b' hl.symm hn (Nat.le_trans hrk.1 (by decide)) hrk.2 hsk.2 _ hih r [] s [] rfl rfl rfl hrs
          refine h1.of_eq ?_
          have e : viewR (r :: b) = viewR (s :: b') ↔ (r.map prT = s.map prT ∧ viewR b = viewR b') := by
            show (r.map prT :: viewR b = s.map prT :: viewR b') ↔ _
            rw [List.cons.injEq]
          exact decide_eq_decide.2 e.symm
        · refine Ev.if_pos (fun h => hrs (by omega)) ((Ev.now false).of_eq ?_)
          symm
          rw [decide_eq_false_iff_not]
          intro h
          have h0 : r.map prT :: viewR b = s.map prT :: viewR b' := h
          injection h0 with h1 h2
          have := congrArg List.length h1
          simp at this
          exact hrs this
theorem rsame_ev (x y : En) (hx : EnOk x) (hy : EnOk y) : Ev (fun k => dendronref29_Same.f k x.1 x.2.1 x.2.2.1 x.2.2.2 y.1 y.2.1 y.2.2.1 y.2.2.2) (decide (viewE x = viewE y)) := by
  unfold dendronref29_Same.f
  refine Ev.guard (fun h e => h ((viewE_iff x y).1 e).1) fun h1 => ?_
  refine Ev.guard (fun h e => h ((viewE_iff x y).1 e).2.1) fun h2 => ?_
  refine Ev.guard (fun h e => h ((viewE_iff x y).1 e).2.2.1) fun h3 => ?_
  refine Ev.guard (fun h e => h (by rw [viewR_len ((viewE_iff x y).1 e).2.2.2])) fun h4 => ?_
  have h := same_l0 x.1 x.2.1 x.2.2.1 x.2.2.2 y.2.2.2 y.1 y.2.1 y.2.2.1 hx.1 hx.2 hy.2 x.2.2.2 [] y.2.2.2 [] rfl rfl rfl (by omega)
  refine h.of_eq ?_
  rw [decide_eq_decide, viewE_iff]
  exact ⟨fun h => ⟨by omega, by omega, by omega, h⟩, fun h => h.2.2.2⟩
theorem all_l0 (xs ys : List En) (hn : xs.length ≤ 16384) (hx : ∀ x ∈ xs, EnOk x) (hy : ∀ x ∈ ys, EnOk x) : ∀ (b a b' a' : List En), xs = a ++ b → ys = a' ++ b' → a.length = a'.length → b.length = b'.length →
    Ev (fun k => dendronref29_All.l0 k xs ys (a.length : Int)) (decide (b.map viewE = b'.map viewE)) := by
  intro b
  induction b with
  | nil =>
    intro a b' a' hr hs hl hbl
    have hb' := List.eq_nil_of_length_eq_zero hbl.symm
    subst hb'
    refine Ev.step (f := fun _ => some true) (fun k => ?_) ((Ev.now true).of_eq (by simp))
    rw [dendronref29_All.l0, if_neg (by rw [hr]; exact nlt_at a)]
  | cons x b ih =>
    intro a b' a' hr hs hl hbl
    cases b' with
    | nil => simp at hbl
    | cons y b' =>
      have hna : a.length ≤ 16384 := by
        have : xs.length = a.length + (b.length + 1) := by rw [hr, List.length_append, List.length_cons]
        omega
      have hxk := hx x (by rw [hr]; simp)
      have hyk := hy y (by rw [hs]; simp)
      have hih := ih (a ++ [x]) b' (a' ++ [y]) (by rw [hr]; simp) (by rw [hs]; simp) (by simp [hl]) (by simpa using hbl)
      subst hr
      subst hs
      have e1 := gt_at ((0, 0, 0, []) : En) a x b
      have e2 := gt_at ((0, 0, 0, []) : En) a' y b'
      have l2 := lt_at a' y b'
      rw [← hl] at e2 l2
      refine Ev.step (f := fun k => (dendronref29_Same.f k x.1 x.2.1 x.2.2.1 x.2.2.2 y.1 y.2.1 y.2.2.1 y.2.2.2).bind fun v12 => (if v12 = true then (dendronref29_All.l0 k (a ++ x :: b) (a' ++ y :: b') ((a ++ [x]).length : Int)) else (some false))) (fun k => ?_) (Ev.bind (rsame_ev x y hxk hyk) ?_)
      · rw [dendronref29_All.l0, e1, e2, if_pos (lt_at a x b), if_pos (nn0 _), if_pos l2, wr_at a x (Nat.le_trans hna (by decide))]
      · by_cases hv : viewE x = viewE y
        · refine Ev.if_pos (decide_eq_true hv) (hih.of_eq ?_)
          rw [decide_eq_decide, List.map_cons, List.map_cons, List.cons.injEq]
          exact ⟨fun h => ⟨hv, h⟩, fun h => h.2⟩
        · refine Ev.if_neg (by simp [hv]) ((Ev.now false).of_eq ?_)
          symm
          rw [decide_eq_false_iff_not, List.map_cons, List.map_cons, List.cons.injEq]
          exact fun h => hv h.1
theorem all_ev (xs ys : List En) (hn : xs.length ≤ 16384) (hx : ∀ x ∈ xs, EnOk x) (hy : ∀ x ∈ ys, EnOk x) : Ev (fun k => dendronref29_All.f k xs ys) (decide (xs.map viewE = ys.map viewE)) := by
  unfold dendronref29_All.f
  refine Ev.guard (fun h e => h (by have := congrArg List.length e; simp at this; omega)) fun h1 => ?_
  exact all_l0 xs ys hn hx hy xs [] ys [] rfl rfl rfl (by omega)
theorem reportUnlike_ev (l l' : List En) (h : ∀ x ∈ l, EnW x) (h' : ∀ x ∈ l', EnW x) : Ev (fun k => dendronlaw29_ReportUnlike.f k l l') true := by
  unfold dendronlaw29_ReportUnlike.f
  obtain ⟨h1, h2, h3⟩ := few29_ok l h
  obtain ⟨h1', h2', h3'⟩ := few29_ok l' h'
  refine Ev.bind (few29_ev l) (Ev.bind (few29_ev l') ?_)
  refine Ev.bind (write_ev (few29 l) (by omega) h2 h3) (Ev.bind (write_ev (few29 l') (by omega) h2' h3') ?_)
  have hall := all_ev (few29 l) (few29 l') (by omega) h2 h2'
  generalize few29 l = xs at *
  generalize few29 l' = ys at *
  unfold writeR
  by_cases ho : okL 0 xs
  · rw [if_pos ho]
    refine Ev.if_neg (by simp) ?_
    by_cases ho' : okL 0 ys
    · rw [if_pos ho']
      refine Ev.if_neg (by simp) (Ev.bind hall (Ev.if_pos ?_ (Ev.bind awake29_ev (Ev.now _))))
      rw [Bool.eq_iff_iff, beq_iff_eq, decide_eq_true_iff, ← text_iff xs ys ho ho']
      exact ⟨fun e => toList_inj' e, fun e => by rw [e]⟩
    · rw [if_neg ho']
      exact Ev.if_pos (by decide) (Ev.bind awake29_ev (Ev.now _))
  · rw [if_neg ho]
    exact Ev.if_pos (by decide) (Ev.bind awake29_ev (Ev.now _))
end Go.DI.Th
namespace Go.DI.Th
open Go Go.RowKit Go.DI

theorem Ev.succ {α : Type} {g : Nat → Option α} {r : α} (h : Ev (fun k => g (k + 1)) r) : Ev g r := Ev.step (fun _ => rfl) h
theorem psame_rt (r s : Rt) (h : RtOk r) (h' : RtOk s) : Ev (fun k => ratio_Same.f k r.1 r.2.1 r.2.2 s.1 s.2.1 s.2.2) (decide (prT r = prT s)) := by
  refine (rsame_num r.1 r.2.1 r.2.2 s.1 s.2.1 s.2.2 h.1 h.2.1 h'.1 h'.2.1 (Nat.le_trans h.2.2.1 (by decide)) (Nat.le_trans h.2.2.2 (by decide)) (Nat.le_trans h'.2.2.1 (by decide)) (Nat.le_trans h'.2.2.2 (by decide))).of_eq ?_
  rw [decide_eq_decide, prT_iff]
theorem psame_l1_step (k : Nat) (t : List (List Rt)) (m : Int) (row : List Rt) (c0 c1 c2 : Int) (sa : List (List Rt)) (row' : List Rt) (sb : List (List Rt)) 
    (r s : Rt) (a b a' b' : List Rt) (hr : row = a ++ r :: b) (hs : row' = a' ++ s :: b') (hl : a.length = a'.length) (hn : a.length ≤ 1099511627776) :
    report_Same.l1 (k + 1) (sa.length : Int) t m (sa.length : Int) row (row.length : Int) (a.length : Int) c0 c1 c2 (sa ++ row' :: sb) = (ratio_Same.f k r.1 r.2.1 r.2.2 s.1 s.2.1 s.2.2).bind fun v16 => (if v16 = true then (report_Same.l1 k (sa.length : Int) t m (sa.length : Int) row (row.length : Int) ((a ++ [r]).length : Int) c0 c1 c2 (sa ++ row' :: sb)) else (some false)) := by
  have e2 := gt_at [] sa row' sb
  have e3 := gt_at (false, [], []) a r b
  rw [← hr] at e3
  have e4 := gt_at (false, [], []) a' s b'
  rw [← hs, ← hl] at e4
  have e5 := wr_at a r (Nat.le_trans hn (by decide))
  have l2 := lt_at sa row' sb
  have l3 := lt_at a r b
  rw [← hr] at l3
  have l4 := lt_at a' s b'
  rw [← hs, ← hl] at l4
  rw [report_Same.l1, e2, e3, e4, e5, if_pos l3, if_pos (nn0 _), if_pos l3, if_pos (nn0 _), if_pos l2, if_pos l4]
theorem psame_l1 (t : List (List Rt)) (m : Int) (row : List Rt) (c0 c1 c2 : Int) (sa : List (List Rt)) (row' : List Rt) (sb : List (List Rt)) (hta : sa.length ≤ 1099511627776)
    (hrow : row.length ≤ 1099511627776) (hv : ∀ v ∈ row, RtOk v) (hv' : ∀ v ∈ row', RtOk v) (Q : Prop) [Decidable Q]
    (hend : Ev (fun k => report_Same.l0 k t m ((sa ++ [row']).length : Int) c0 c1 c2 (sa ++ row' :: sb)) (decide Q)) :
    ∀ (b a b' a' : List Rt), row = a ++ b → row' = a' ++ b' → a.length = a'.length → b.length = b'.length →
    Ev (fun k => report_Same.l1 k (sa.length : Int) t m (sa.length : Int) row (row.length : Int) (a.length : Int) c0 c1 c2 (sa ++ row' :: sb)) (decide (b.map prT = b'.map prT ∧ Q)) := by
  intro b
  induction b with
  | nil =>
    intro a b' a' hr hs hl hbl
    have hb' := List.eq_nil_of_length_eq_zero hbl.symm
    subst hb'
    refine Ev.step (f := fun k => report_Same.l0 k t m ((sa ++ [row']).length : Int) c0 c1 c2 (sa ++ row' :: sb)) (fun k => ?_) (hend.of_eq ?_)
    · have e3 : ¬ (a.length : Int) < (row.length : Int) := by rw [hr]; exact nlt_at a
      rw [report_Same.l1, if_neg e3, wr_at sa row' (Nat.le_trans hta (by decide))]
    · simp
  | cons r b ih =>
    intro a b' a' hr hs hl hbl
    cases b' with
    | nil => simp at hbl
    | cons s b' =>
      have hn : a.length ≤ 1099511627776 := by
        have : row.length = a.length + (b.length + 1) := by rw [hr, List.length_append, List.length_cons]
        omega
      have hrk := hv r (by rw [hr]; simp)
      have hsk := hv' s (by rw [hs]; simp)
      refine Ev.step (fun k => psame_l1_step k t m row c0 c1 c2 sa row' sb r s a b a' b' hr hs hl hn) (Ev.bind (psame_rt r s hrk hsk) ?_)
      by_cases hp : prT r = prT s
      · refine Ev.if_pos (decide_eq_true hp) ((ih (a ++ [r]) b' (a' ++ [s]) (by rw [hr]; simp) (by rw [hs]; simp) (by simp [hl]) (by simpa using hbl)).of_eq ?_)
        simp [hp]
      · refine Ev.if_neg (by simp [hp]) ((Ev.now false).of_eq ?_)
        symm
        rw [decide_eq_false_iff_not]
        intro h
        have h1 := h.1
        rw [List.map_cons, List.map_cons] at h1
        injection h1 with h2 h3
        exact hp h2
theorem psame_l0 (t t' : List (List Rt)) (c0 c1 c2 : Int) (ht : t.length ≤ 1099511627776) (hv : ∀ r ∈ t, r.length ≤ 1000 ∧ ∀ v ∈ r, RtOk v) (hv' : ∀ r ∈ t', r.length ≤ 1000 ∧ ∀ v ∈ r, RtOk v) :
    ∀ (b a b' a' : List (List Rt)), t = a ++ b → t' = a' ++ b' → a.length = a'.length → b.length = b'.length →
    Ev (fun k => report_Same.l0 k t (t.length : Int) (a.length : Int) c0 c1 c2 t') (decide (viewR b = viewR b')) := by
  intro b
  induction b with
  | nil =>
    intro a b' a' hr hs hl hbl
    have hb' := List.eq_nil_of_length_eq_zero hbl.symm
    subst hb'
    refine Ev.step (f := fun _ => some true) (fun k => ?_) ((Ev.now true).of_eq (by simp))
    rw [report_Same.l0, if_neg (by rw [hr]; exact nlt_at a)]
  | cons r b ih =>
    intro a b' a' hr hs hl hbl
    cases b' with
    | nil => simp at hbl
    | cons s b' =>
      have hn : a.length ≤ 1099511627776 := by
        have : t.length = a.length + (b.length + 1) := by rw [hr, List.length_append, List.length_cons]
        omega
      have hrk := hv r (by rw [hr]; simp)
      have hsk := hv' s (by rw [hs]; simp)
      have hih := ih (a ++ [r]) b' (a' ++ [s]) (by rw [hr]; simp) (by rw [hs]; simp) (by simp [hl]) (by simpa using hbl)
      subst hr
      subst hs
      have e1 := gt_at [] a r b
      have e2 := gt_at [] a' s b'
      have l2 := lt_at a' s b'
      rw [← hl] at e2 l2
      refine Ev.step (f := fun k => if (r.length : Int) ≠ (s.length : Int) then (some false) else (report_Same.l1 k (a.length : Int) (a ++ r :: b) ((a ++ r :: b).length : Int) (a.length : Int) r (r.length : Int) 0 c0 c1 c2 (a' ++ s :: b'))) (fun k => ?_) ?_
      · rw [report_Same.l0, e1, e2, if_pos (lt_at a r b), if_pos (nn0 _), if_pos (lt_at a r b), if_pos l2]
      · by_cases hrs : r.length = s.length
        · refine Ev.if_neg (fun h => h (by omega)) ?_
          have hih2 : Ev (fun k => report_Same.l0 k (a ++ r :: b) ((a ++ r :: b).length : Int) ((a' ++ [s]).length : Int) c0 c1 c2 (a' ++ s :: b')) (decide (viewR b = viewR b')) := by
            have e : (a' ++ [s]).length = (a ++ [r]).length := by simp [hl]
            rw [e]; exact hih
          have h1 := psame_l1 (a ++ r :: b) ((a ++ r :: b).length : Int) r c0 c1 c2 a' s b' (by omega) (Nat.le_trans hrk.1 (by decide)) hrk.2 hsk.2 _ hih2 r [] s [] rfl rfl rfl hrs
          rw [← hl] at h1
          refine h1.of_eq ?_
          have e : viewR (r :: b) = viewR (s :: b') ↔ (r.map prT = s.map prT ∧ viewR b = viewR b') := by
            show (r.map prT :: viewR b = s.map prT :: viewR b') ↔ _
            rw [List.cons.injEq]
          exact decide_eq_decide.2 e.symm
        · refine Ev.if_pos (fun h => hrs (by omega)) ((Ev.now false).of_eq ?_)
          symm
          rw [decide_eq_false_iff_not]
          intro h
          have h0 : r.map prT :: viewR b = s.map prT :: viewR b' := h
          injection h0 with h1 h2
          have := congrArg List.length h1
          simp at this
          exact hrs this
theorem psame_ev (x y : En) (hx : EnOk x) (hy : EnOk y) : Ev (fun k => report_Same.f k x.1 x.2.1 x.2.2.1 x.2.2.2 y.1 y.2.1 y.2.2.1 y.2.2.2) (decide (viewE x = viewE y)) := by
  unfold report_Same.f
  refine Ev.guard (fun h e => h ((viewE_iff x y).1 e).1) fun h1 => ?_
  refine Ev.guard (fun h e => h ((viewE_iff x y).1 e).2.1) fun h2 => ?_
  refine Ev.guard (fun h e => h ((viewE_iff x y).1 e).2.2.1) fun h3 => ?_
  refine Ev.guard (fun h e => h (by rw [viewR_len ((viewE_iff x y).1 e).2.2.2])) fun h4 => ?_
  have h := psame_l0 x.2.2.2 y.2.2.2 y.1 y.2.1 y.2.2.1 hx.1 hx.2 hy.2 x.2.2.2 [] y.2.2.2 [] rfl rfl rfl (by omega)
  refine h.of_eq ?_
  rw [decide_eq_decide, viewE_iff]
  exact ⟨fun h => ⟨by omega, by omega, by omega, h⟩, fun h => h.2.2.2⟩
/-! ### the ids of errors -/
def errs : List En → List Int
  | [] => []
  | x :: l => if x.2.2.1 ≠ 0 then x.1 :: errs l else errs l
theorem errs_append (a b : List En) : errs (a ++ b) = errs a ++ errs b := by
  induction a with
  | nil => rfl
  | cons x a ih =>
    rw [List.cons_append, errs, errs, ih]
    split <;> rfl
theorem errs_len (a : List En) : (errs a).length ≤ a.length := by
  induction a with
  | nil => exact Nat.le_refl _
  | cons x a ih =>
    rw [errs]
    split
    · rw [List.length_cons, List.length_cons]; omega
    · rw [List.length_cons]; omega
theorem errs_one (a : List En) (x : En) : errs (a ++ [x]) = if x.2.2.1 ≠ 0 then errs a ++ [x.1] else errs a := by
  rw [errs_append, errs, errs]
  split
  · rfl
  · rw [List.append_nil]
theorem faults_l0 (xs : List En) (hn : xs.length ≤ 16384) : ∀ (b a : List En), xs = a ++ b → Ev (fun k => report_Faults.l0 k (errs a) xs (xs.length : Int) (a.length : Int)) (errs xs) := by
  intro b
  induction b with
  | nil =>
    intro a hr
    refine Ev.step (f := fun _ => some (errs a)) (fun k => ?_) ((Ev.now _).of_eq (by rw [hr, List.append_nil]))
    rw [report_Faults.l0, if_neg (by rw [hr]; exact nlt_at a)]
  | cons x b ih =>
    intro a hr
    have hih := ih (a ++ [x]) (by rw [hr]; simp)
    have hel := errs_len a
    have hal : a.length ≤ 16384 := by
      have : xs.length = a.length + (b.length + 1) := by rw [hr, List.length_append, List.length_cons]
      omega
    have e1 := gt_at ((0, 0, 0, []) : En) a x b
    have l1 := lt_at a x b
    rw [← hr] at e1 l1
    rw [errs_one] at hih
    refine Ev.step (f := fun k => if x.2.2.1 ≠ 0 then (if (errs a).length < 17592186044416 then (report_Faults.l0 k (errs a ++ [x.1]) xs (xs.length : Int) ((a ++ [x]).length : Int)) else none) else (report_Faults.l0 k (errs a) xs (xs.length : Int) ((a ++ [x]).length : Int))) (fun k => ?_) ?_
    · rw [report_Faults.l0, e1, if_pos l1, if_pos (nn0 _), if_pos l1, wr_at a x (by omega)]
    · by_cases he : x.2.2.1 ≠ 0
      · rw [if_pos he] at hih
        exact Ev.if_pos he (Ev.if_pos (by omega) hih)
      · rw [if_neg he] at hih
        exact Ev.if_neg he hih
theorem faults_ev (xs : List En) (hn : xs.length ≤ 16384) : Ev (fun k => report_Faults.f k xs) (errs xs) := faults_l0 xs hn xs [] rfl
/-! ### the entry of an id -/
def Hit (id : Int) (l : List En) : Option En := l.find? fun x => decide (x.1 = id)
theorem hit_cons (id : Int) (x : En) (l : List En) : Hit id (x :: l) = if x.1 = id then some x else Hit id l := by
  unfold Hit
  rw [List.find?_cons]
  by_cases h : x.1 = id
  · rw [decide_eq_true h, if_pos h]
  · rw [decide_eq_false h, if_neg h]
theorem hit_snoc (id : Int) (a : List En) (x : En) : Hit id (a ++ [x]) = (Hit id a).or (if x.1 = id then some x else none) := by
  unfold Hit
  rw [List.find?_append]
  congr 1
  rw [List.find?_cons]
  by_cases h : x.1 = id
  · rw [decide_eq_true h, if_pos h]
  · rw [decide_eq_false h, if_neg h]; rfl
def found (o : Option En) : Int × Int × Int × List (List Rt) × Bool := match o with
  | some x => (x.1, x.2.1, x.2.2.1, x.2.2.2, true)
  | none => (0, 0, 0, [], false)
theorem find_l0 (id : Int) (xs : List En) (hn : xs.length ≤ 16384) : ∀ (b a : List En), xs = a ++ b → Ev (fun k => report_Find.l0 k id xs (xs.length : Int) (a.length : Int) 0 0 0) (found (Hit id b)) := by
  intro b
  induction b with
  | nil =>
    intro a hr
    refine Ev.step (f := fun _ => some (0, 0, 0, [], false)) (fun k => ?_) (Ev.now _)
    rw [report_Find.l0, if_neg (by rw [hr]; exact nlt_at a)]
  | cons x b ih =>
    intro a hr
    have hih := ih (a ++ [x]) (by rw [hr]; simp)
    have hal : a.length ≤ 16384 := by
      have : xs.length = a.length + (b.length + 1) := by rw [hr, List.length_append, List.length_cons]
      omega
    have e1 := gt_at ((0, 0, 0, []) : En) a x b
    have l1 := lt_at a x b
    rw [← hr] at e1 l1
    rw [hit_cons]
    refine Ev.step (f := fun k => if x.1 = id then (some (x.1, x.2.1, x.2.2.1, x.2.2.2, true)) else (report_Find.l0 k id xs (xs.length : Int) ((a ++ [x]).length : Int) 0 0 0)) (fun k => ?_) ?_
    · rw [report_Find.l0, e1, if_pos l1, if_pos (nn0 _), if_pos l1, wr_at a x (by omega)]
    · by_cases he : x.1 = id
      · rw [if_pos he]
        exact Ev.if_pos he (Ev.now _)
      · rw [if_neg he]
        exact Ev.if_neg he hih
theorem find_ev (id : Int) (xs : List En) (hn : xs.length ≤ 16384) : Ev (fun k => report_Find.f k xs id) (found (Hit id xs)) := find_l0 id xs hn xs [] rfl
/-! ### the law -/
def At (id : Int) (xs a : List En) (w : Int) : Prop := (w = -1 ∧ Hit id a = none) ∨ (∃ n : Nat, w = (n : Int) ∧ n < a.length ∧ Hit id a = some (gt (0, 0, 0, []) xs (n : Int)))
theorem finds_l1 (id : Int) (xs : List En) (hn : xs.length ≤ 16384) (hx : ∀ x ∈ xs, EnOk x) (w : Int) (hw : At id xs xs w) (es : List Int) (he : es.length ≤ 16384) :
    ∀ (b a : List Int), es = a ++ b → Ev (fun k => dendronlaw29_ReportFinds.l1 k xs (found (Hit id xs)).2.2.2.2 es w es (a.length : Int) (found (Hit id xs)).1 (found (Hit id xs)).2.1 (found (Hit id xs)).2.2.1 (found (Hit id xs)).2.2.2.1) true := by
  intro b
  induction b with
  | nil =>
    intro a hr
    refine Ev.succ ?_
    have e3 : ¬ (a.length : Int) < (es.length : Int) := by rw [hr]; exact nlt_at a
    simp only [dendronlaw29_ReportFinds.l1]
    refine Ev.if_neg e3 ?_
    rcases hw with ⟨h1, h2⟩ | ⟨n, h1, h2, h3⟩
    · rw [h2]
      refine Ev.if_pos (by omega) (Ev.if_neg (by decide) ?_)
      have hz : EnOk (0, 0, 0, []) := ⟨Nat.zero_le _, fun r hr => by cases hr⟩
      exact Ev.bind (rsame_ev (0, 0, 0, []) (0, 0, 0, []) hz hz) (Ev.if_pos (by simp) (Ev.bind awake29_ev (Ev.now _)))
    · have hm : gt (0, 0, 0, []) xs (n : Int) ∈ xs := List.mem_of_find?_eq_some h3
      rw [h3, h1]
      refine Ev.if_neg (by omega) (Ev.if_pos rfl (Ev.if_pos (nn0 _) (Ev.if_pos (by omega) ?_)))
      generalize gt (0, 0, 0, []) xs (n : Int) = x at hm ⊢
      exact Ev.bind (rsame_ev x x (hx x hm) (hx x hm)) (Ev.if_pos (by simp) (Ev.bind awake29_ev (Ev.now _)))
  | cons x b ih =>
    intro a hr
    have hih := ih (a ++ [x]) (by rw [hr]; simp)
    have hal : a.length ≤ 16384 := by
      have : es.length = a.length + (b.length + 1) := by rw [hr, List.length_append, List.length_cons]
      omega
    have l1 := lt_at a x b
    rw [← hr] at l1
    have ew := wr_at a x (by omega)
    refine Ev.succ ?_
    simp only [dendronlaw29_ReportFinds.l1, ew]
    exact Ev.if_pos l1 (Ev.if_pos (nn0 _) (Ev.if_pos l1 (Ev.if_neg (fun h => h rfl) hih)))
theorem at_snoc (id : Int) (xs a b : List En) (x : En) (hr : xs = a ++ x :: b) (w : Int) (hw : At id xs a w) : At id xs (a ++ [x]) (if w < 0 then (if x.1 = id then (a.length : Int) else w) else w) := by
  have e1 := gt_at ((0, 0, 0, []) : En) a x b
  rw [← hr] at e1
  rcases hw with ⟨h1, h2⟩ | ⟨n, h1, h2, h3⟩
  · rw [if_pos (by omega)]
    by_cases h : x.1 = id
    · rw [if_pos h]
      exact Or.inr ⟨a.length, rfl, by simp, by rw [hit_snoc, h2, if_pos h, e1]; rfl⟩
    · rw [if_neg h]
      exact Or.inl ⟨h1, by rw [hit_snoc, h2, if_neg h]; rfl⟩
  · rw [if_neg (by omega)]
    exact Or.inr ⟨n, h1, by rw [List.length_append]; omega, by rw [hit_snoc, h3]; rfl⟩
theorem finds_l0 (id : Int) (xs : List En) (hn : xs.length ≤ 16384) (hx : ∀ x ∈ xs, EnOk x) : ∀ (b a : List En) (w : Int), xs = a ++ b → At id xs a w →
    Ev (fun k => dendronlaw29_ReportFinds.l0 k xs id (found (Hit id xs)).2.2.2.2 (errs a) w (a.length : Int) (found (Hit id xs)).1 (found (Hit id xs)).2.1 (found (Hit id xs)).2.2.1 (found (Hit id xs)).2.2.2.1) true := by
  intro b
  induction b with
  | nil =>
    intro a w hr hw
    have ha : xs = a := by rw [hr, List.append_nil]
    subst ha
    have hel := errs_len xs
    refine Ev.succ ?_
    simp only [dendronlaw29_ReportFinds.l0]
    refine Ev.if_neg (by omega) (Ev.bind (faults_ev xs hn) (Ev.if_neg (fun h => h rfl) ?_))
    exact finds_l1 id xs hn hx w hw (errs xs) (by omega) (errs xs) [] rfl
  | cons x b ih =>
    intro a w hr hw
    have hnext := at_snoc id xs a b x hr w hw
    have hal : a.length ≤ 16384 := by
      have : xs.length = a.length + (b.length + 1) := by rw [hr, List.length_append, List.length_cons]
      omega
    have hih := ih (a ++ [x]) _ (by rw [hr]; simp) hnext
    have hel := errs_len a
    have e1 := gt_at ((0, 0, 0, []) : En) a x b
    have l1 := lt_at a x b
    rw [← hr] at e1 l1
    have ew := wr_at a x (by omega)
    rw [errs_one] at hih
    have hx0 : gt (0, 0, 0, []) xs 0 ∈ xs := by
      rw [hr]
      cases a with
      | nil => exact List.mem_cons_self
      | cons y a => exact List.mem_cons_self
    have h0 : (0 : Int) < (xs.length : Int) := by omega
    have s1 := psame_ev (gt (0, 0, 0, []) xs 0) x (hx _ hx0) (hx x (by rw [hr]; simp))
    have s2 := rsame_ev (gt (0, 0, 0, []) xs 0) x (hx _ hx0) (hx x (by rw [hr]; simp))
    refine Ev.succ ?_
    simp only [dendronlaw29_ReportFinds.l0, e1, ew]
    refine Ev.if_pos l1 (Ev.if_pos (nn0 _) ?_)
    by_cases he : x.2.2.1 ≠ 0
    · rw [if_pos he] at hih
      refine Ev.if_pos he (Ev.if_pos (by omega) ?_)
      by_cases hw0 : w < 0
      · rw [if_pos hw0] at hih
        refine Ev.if_pos hw0 ?_
        by_cases hid : x.1 = id
        · rw [if_pos hid] at hih
          exact Ev.if_pos hid (Ev.if_pos h0 (Ev.bind s1 (Ev.bind s2 (Ev.if_neg (fun h => h rfl) hih))))
        · rw [if_neg hid] at hih
          exact Ev.if_neg hid (Ev.if_pos h0 (Ev.bind s1 (Ev.bind s2 (Ev.if_neg (fun h => h rfl) hih))))
      · rw [if_neg hw0] at hih
        exact Ev.if_neg hw0 (Ev.if_pos h0 (Ev.bind s1 (Ev.bind s2 (Ev.if_neg (fun h => h rfl) hih))))
    · rw [if_neg he] at hih
      refine Ev.if_neg he ?_
      by_cases hw0 : w < 0
      · rw [if_pos hw0] at hih
        refine Ev.if_pos hw0 ?_
        by_cases hid : x.1 = id
        · rw [if_pos hid] at hih
          exact Ev.if_pos hid (Ev.if_pos h0 (Ev.bind s1 (Ev.bind s2 (Ev.if_neg (fun h => h rfl) hih))))
        · rw [if_neg hid] at hih
          exact Ev.if_neg hid (Ev.if_pos h0 (Ev.bind s1 (Ev.bind s2 (Ev.if_neg (fun h => h rfl) hih))))
      · rw [if_neg hw0] at hih
        exact Ev.if_neg hw0 (Ev.if_pos h0 (Ev.bind s1 (Ev.bind s2 (Ev.if_neg (fun h => h rfl) hih))))
theorem reportFinds_ev (l : List En) (id : Int) (h : ∀ x ∈ l, EnW x) : Ev (fun k => dendronlaw29_ReportFinds.f k l id) true := by
  unfold dendronlaw29_ReportFinds.f
  obtain ⟨h1, h2, h3⟩ := few29_ok l h
  refine Ev.bind (few29_ev l) (Ev.bind (find_ev id (few29 l) (by omega)) ?_)
  exact finds_l0 id (few29 l) (by omega) h2 (few29 l) [] (-1) rfl (Or.inl ⟨rfl, rfl⟩)
end Go.DI.Th
