/- What the told functions answer, part 2. No condition. -/
import Derived.Test.YtajagmmjkmmchaaDoorTh1
set_option linter.all false
namespace Go.DI.Th
open Go Go.RowKit Go.DI

inductive BT where
  | leaf (i : Nat)
  | node (i : Nat) (l r : BT)
def BT.root : BT → Nat
  | .leaf i => i
  | .node i _ _ => i
def BT.size : BT → Nat
  | .leaf _ => 1
  | .node _ l r => 1 + l.size + r.size
def BT.lvs : BT → List Nat
  | .leaf i => [i]
  | .node _ l r => l.lvs ++ r.lvs
def BT.dep : BT → Nat
  | .leaf _ => 0
  | .node _ l r => max l.dep r.dep + 1
def Says (t : List Nd) : BT → Prop
  | .leaf i => i < t.length ∧ (nd t i).1 = true
  | .node i l r => i < t.length ∧ (nd t i).1 ≠ true ∧ (nd t i).2.2.2.2.2.1 = (l.root : Int) ∧ (nd t i).2.2.2.2.2.2.1 = (r.root : Int) ∧ Says t l ∧ Says t r
theorem BT.lvs_size : ∀ T : BT, 2 * T.lvs.length = T.size + 1
  | .leaf _ => rfl
  | .node _ l r => by
    have h1 := l.lvs_size
    have h2 := r.lvs_size
    rw [BT.lvs, BT.size, List.length_append]
    omega
theorem BT.size_pos : ∀ T : BT, 1 ≤ T.size
  | .leaf _ => Nat.le_refl _
  | .node _ l r => by rw [BT.size]; omega
theorem Says.lt {t : List Nd} : ∀ {T : BT}, Says t T → T.root < t.length
  | .leaf _, h => h.1
  | .node _ _ _, h => h.1
def sizes : List BT → Nat
  | [] => 0
  | T :: l => T.size + sizes l
theorem sizes_append : ∀ a b : List BT, sizes (a ++ b) = sizes a + sizes b
  | [], b => (Nat.zero_add _).symm
  | T :: a, b => by rw [List.cons_append, sizes, sizes, sizes_append a b]; omega
theorem len_ge : ∀ (n : Nat) (P : List Nat), (∀ i, i < n → i ∈ P) → n ≤ P.length
  | 0, _, _ => Nat.zero_le _
  | n + 1, P, h => by
    have hm := h n (by omega)
    have h1 := len_ge n (P.erase n) fun i hi => (List.mem_erase_of_ne (by omega)).2 (h i (by omega))
    rw [List.length_erase_of_mem hm] at h1
    have := List.length_pos_of_mem hm
    omega
theorem trees_of {f : Int} {t : List Nd} (o : Once f t) (hall : ∀ i, i < t.length → climb t (t.length + 1) i = true) : ∀ (m : Nat) (P S : List Nat), Walk t P S → t.length ≤ P.length + m →
    ∃ Ts : List BT, Ts.map BT.root = S ∧ (∀ T ∈ Ts, Says t T) ∧ P.length + sizes Ts = t.length := by
  have done : ∀ P, Walk t P [] → P.length = t.length := fun P w => by
    have h1 := w.size
    have h2 := len_ge t.length P fun i hi => (w.done i hi).2 (hall i hi)
    have : ([] : List Nat).length = 0 := rfl
    omega
  intro m
  induction m with
  | zero =>
    intro P S w hm
    have hs := w.size
    obtain rfl : S = [] := List.length_eq_zero_iff.1 (by omega)
    exact ⟨[], rfl, fun T hT => (by cases hT), by rw [sizes]; exact done P w⟩
  | succ m ih =>
    intro P S w hm
    rcases List.eq_nil_or_concat S with rfl | ⟨S, a, rfl⟩
    · exact ⟨[], rfl, fun T hT => (by cases hT), by rw [sizes]; exact done P w⟩
    · rw [List.concat_eq_append] at w ⊢
      have ha : a < t.length := w.lt a (by simp)
      by_cases hb : (nd t a).1 = true
      · obtain ⟨Ts, h1, h2, h3⟩ := ih (a :: P) S (w.leaf hb) (by rw [List.length_cons]; omega)
        refine ⟨Ts ++ [.leaf a], ?_, ?_, ?_⟩
        · rw [List.map_append, h1]; rfl
        · intro T hT
          rcases List.mem_append.1 hT with h | h
          · exact h2 T h
          · rw [List.mem_singleton.1 h]; exact ⟨ha, hb⟩
        · rw [sizes_append]
          rw [List.length_cons] at h3
          show P.length + (sizes Ts + (1 + 0)) = _
          omega
      · obtain ⟨l, r, hl, hr, l1, l2, r1, r2⟩ := kids (o.rng a ha) hb
        obtain ⟨Ts, h1, h2, h3⟩ := ih (a :: P) (S ++ [l, r]) (w.split o hb hl hr) (by rw [List.length_cons]; omega)
        obtain ⟨Ts', u, e1, e2, e3⟩ := List.map_eq_append_iff.1 h1
        obtain ⟨L, u2, f1, f2, f3⟩ := List.map_eq_cons_iff.1 e3
        obtain ⟨R, u3, g1, g2, g3⟩ := List.map_eq_cons_iff.1 f3
        have g4 : u3 = [] := List.map_eq_nil_iff.1 g3
        subst g4
        subst g1
        subst f1
        subst e1
        refine ⟨Ts' ++ [.node a L R], ?_, ?_, ?_⟩
        · rw [List.map_append, e2]; rfl
        · intro T hT
          rcases List.mem_append.1 hT with h | h
          · exact h2 T (by simp [h])
          · rw [List.mem_singleton.1 h]
            exact ⟨ha, hb, by rw [f2]; exact hl, by rw [g2]; exact hr, h2 L (by simp), h2 R (by simp)⟩
        · rw [sizes_append] at h3 ⊢
          rw [List.length_cons] at h3
          have e5 : sizes [L, R] = L.size + (R.size + 0) := rfl
          have e6 : sizes [BT.node a L R] = (1 + L.size + R.size) + 0 := rfl
          omega
theorem lleaves_ev (t : List Nd) (ht : t.length ≤ 255) : ∀ (T : BT), Says t T → T.size ≤ 255 → Ev (fun k => dendronlaw08_leaves.f k t (T.root : Int)) (T.lvs.map cI)
  | .leaf i, h, hs => by
    refine Ev.succ ?_
    have hi := h.1
    simp only [dendronlaw08_leaves.f, BT.root, gt_nd]
    exact Ev.if_pos (nn0 _) (Ev.if_pos (by omega) (Ev.if_pos h.2 (Ev.now _)))
  | .node i l r, h, hs => by
    obtain ⟨hi, hb, hl, hr, h1, h2⟩ := h
    rw [BT.size] at hs
    have i1 := lleaves_ev t ht l h1 (by omega)
    have i2 := lleaves_ev t ht r h2 (by omega)
    have s1 := l.lvs_size
    have s2 := r.lvs_size
    refine Ev.succ ?_
    simp only [dendronlaw08_leaves.f, BT.root, gt_nd, hl, hr]
    refine Ev.if_pos (nn0 _) (Ev.if_pos (by omega) (Ev.if_neg hb (Ev.bind i1 (Ev.bind i2 (Ev.if_pos (by rw [List.length_map, List.length_map]; omega) ((Ev.now _).of_eq ?_))))))
    rw [BT.lvs, List.map_append]
theorem BT.dep_lt : ∀ T : BT, T.dep < T.size
  | .leaf _ => Nat.lt_succ_self _
  | .node _ l r => by
    have h1 := l.dep_lt
    have h2 := r.dep_lt
    rw [BT.dep, BT.size]
    omega
theorem ldepth_ev (t : List Nd) (ht : t.length ≤ 255) : ∀ (T : BT), Says t T → T.size ≤ 255 → Ev (fun k => dendronlaw08_depth.f k t (T.root : Int)) (T.dep : Int)
  | .leaf i, h, hs => by
    refine Ev.succ ?_
    have hi := h.1
    simp only [dendronlaw08_depth.f, BT.root, gt_nd]
    exact Ev.if_pos (nn0 _) (Ev.if_pos (by omega) (Ev.if_pos h.2 (Ev.now _)))
  | .node i l r, h, hs => by
    obtain ⟨hi, hb, hl, hr, h1, h2⟩ := h
    rw [BT.size] at hs
    have i1 := ldepth_ev t ht l h1 (by omega)
    have i2 := ldepth_ev t ht r h2 (by omega)
    have s1 := l.dep_lt
    have s2 := r.dep_lt
    have ed : (BT.node i l r).dep = max l.dep r.dep + 1 := rfl
    refine Ev.succ ?_
    simp only [dendronlaw08_depth.f, BT.root, gt_nd, hl, hr, wr_succ _ (show l.dep ≤ 1125899906842624 by omega), wr_succ _ (show r.dep ≤ 1125899906842624 by omega)]
    refine Ev.if_pos (nn0 _) (Ev.if_pos (by omega) (Ev.if_neg hb (Ev.bind i1 (Ev.bind i2 ?_))))
    by_cases hlt : (l.dep : Int) < (r.dep : Int)
    · exact Ev.if_pos hlt ((Ev.now _).of_eq (by rw [ed, wr_succ _ (by omega)]; omega))
    · exact Ev.if_neg hlt ((Ev.now _).of_eq (by rw [ed, wr_succ _ (by omega)]; omega))
def cT (T : BT) : Int := (T.root : Int)
theorem leaves_l0 (t : List Nd) (ht : t.length ≤ 255) : ∀ (m : Nat) (Ts : List BT) (out : List Int), sizes Ts ≤ m → (∀ T ∈ Ts, Says t T) → out.length + sizes Ts ≤ 1000 → Ts.length ≤ 1000 →
    Ev (fun k => valid_Leaves.l0 k t out (Ts.map cT)) (out ++ (Ts.reverse.flatMap BT.lvs).map cI) := by
  intro m
  induction m with
  | zero =>
    intro Ts out hm hs ho hl
    cases Ts with
    | nil =>
      refine Ev.succ ?_
      simp only [valid_Leaves.l0, List.map_nil, List.length_nil]
      exact Ev.if_neg (by decide) ((Ev.now _).of_eq (by simp))
    | cons T Ts =>
      have := T.size_pos
      rw [sizes] at hm
      omega
  | succ m ih =>
    intro Ts out hm hs ho hl
    rcases List.eq_nil_or_concat Ts with rfl | ⟨Ts, T, rfl⟩
    · refine Ev.succ ?_
      simp only [valid_Leaves.l0, List.map_nil, List.length_nil]
      exact Ev.if_neg (by decide) ((Ev.now _).of_eq (by simp))
    · rw [List.concat_eq_append] at hm hs ho hl ⊢
      have hT := hs T (by simp)
      have hlt := hT.lt
      rw [sizes_append] at hm ho
      have e1 : sizes [T] = T.size + 0 := rfl
      rw [List.length_append, List.length_singleton] at hl
      have hA : (Ts.map cT).length = Ts.length := List.length_map _
      have ew : wrap64 ((((Ts.map cT).length + 1 : Nat) : Int) - 1) = ((Ts.map cT).length : Int) := by
        rw [wrap_id (by omega) (by omega)]
        omega
      have er : rd (Ts.map cT ++ [cT T]) ((Ts.map cT).length : Int) = (T.root : Int) := rd_at _ _ []
      have et : (Ts.map cT ++ [cT T]).take (Ts.map cT).length = Ts.map cT := List.take_left
      have el : (Ts.map cT ++ [cT T]).length = (Ts.map cT).length + 1 := by rw [List.length_append, List.length_singleton]
      have em : (Ts ++ [T]).map cT = Ts.map cT ++ [cT T] := by rw [List.map_append]; rfl
      have q0 : (((Ts.map cT).length + 1 : Nat) : Int) > 0 := by clear ew; omega
      have q1 : ((Ts.map cT).length : Int) < (((Ts.map cT).length + 1 : Nat) : Int) := by clear ew; omega
      have q2 : ((Ts.map cT).length : Int) ≤ (((Ts.map cT).length + 1 : Nat) : Int) := by clear ew; omega
      have q3 : (T.root : Int) < (t.length : Int) := by clear ew; omega
      have q4 : out.length < 17592186044416 := by clear ew; omega
      have q5 : (Ts.map cT).length + 2 < 17592186044417 := by clear ew; omega
      rw [em]
      refine Ev.succ ?_
      simp only [valid_Leaves.l0, el, ew, er, gt_nd, Int.toNat_natCast, et]
      clear ew
      refine Ev.if_pos q0 (Ev.if_pos (nn0 _) (Ev.if_pos q1 (Ev.if_pos q2 (Ev.if_pos (nn0 _) (Ev.if_pos q3 ?_)))))
      cases T with
      | leaf i =>
        have es : (BT.leaf i).size = 1 := rfl
        have hih := ih Ts (out ++ [(i : Int)]) (by omega) (fun x hx => hs x (by simp [hx])) (by rw [List.length_append, List.length_singleton]; omega) (by omega)
        refine Ev.if_pos hT.2 (Ev.if_pos q4 (hih.of_eq ?_))
        rw [List.reverse_append]
        simp [BT.lvs, cI]
      | node i l r =>
        obtain ⟨hi, hb, hl', hr', h1, h2⟩ := hT
        have es : (BT.node i l r).size = 1 + l.size + r.size := rfl
        have e2 : sizes [r, l] = r.size + (l.size + 0) := rfl
        have hih := ih (Ts ++ [r, l]) out (by rw [sizes_append]; omega) (fun x hx => by
          rcases List.mem_append.1 hx with h | h
          · exact hs x (by simp [h])
          · rcases List.mem_cons.1 h with rfl | h
            · exact h2
            · rw [List.mem_singleton.1 h]; exact h1) (by rw [sizes_append]; omega) (by
            rw [List.length_append]
            have p1 := l.size_pos
            have p2 := r.size_pos
            have p3 : ∀ L : List BT, L.length ≤ sizes L := fun L => by
              induction L with
              | nil => exact Nat.le_refl _
              | cons x L ihL => have := x.size_pos; rw [sizes, List.length_cons]; omega
            have := p3 Ts
            have e9 : ([r, l] : List BT).length = 2 := rfl
            omega)
        have em2 : (Ts ++ [r, l]).map cT = Ts.map cT ++ [(r.root : Int), (l.root : Int)] := by rw [List.map_append]; rfl
        rw [em2] at hih
        simp only [BT.root, hl', hr']
        refine Ev.if_neg hb (Ev.if_pos q5 (hih.of_eq ?_))
        rw [List.reverse_append, List.reverse_append]
        simp [BT.lvs]
def gmx (d : Nat → Nat) : List BT → Nat
  | [] => 0
  | T :: l => max (d T.root + T.dep) (gmx d l)
theorem gmx_append (d : Nat → Nat) : ∀ a b : List BT, gmx d (a ++ b) = max (gmx d a) (gmx d b)
  | [], b => by rw [List.nil_append, gmx]; omega
  | T :: a, b => by rw [List.cons_append, gmx, gmx, gmx_append d a b]; omega
theorem gmx_congr {d e : Nat → Nat} : ∀ {l : List BT}, (∀ T ∈ l, d T.root = e T.root) → gmx d l = gmx e l
  | [], _ => rfl
  | T :: l, h => by rw [gmx, gmx, h T List.mem_cons_self, gmx_congr fun x hx => h x (List.mem_cons_of_mem _ hx)]
theorem dset (D : List Int) (d : Nat → Nat) (n li ri v : Nat) (hl : li < D.length) (hr : ri < D.length) (hd : ∀ i, i < n → rd D (i : Int) = (d i : Int)) :
    ∃ d' : Nat → Nat, (∀ x, x < n → rd ((D.set li (v : Int)).set ri (v : Int)) (x : Int) = (d' x : Int)) ∧ d' li = v ∧ d' ri = v ∧ ∀ x, x ≠ li → x ≠ ri → d' x = d x := by
  refine ⟨fun x => if x = li ∨ x = ri then v else d x, fun x hx => ?_, if_pos (Or.inl rfl), if_pos (Or.inr rfl), fun x h1 h2 => if_neg fun h => h.elim h1 h2⟩
  rw [rd_set _ ri x _ (by rw [List.length_set]; exact hr), rd_set _ li x _ hl]
  show _ = ((if x = li ∨ x = ri then v else d x : Nat) : Int)
  by_cases c1 : x = ri
  · rw [if_pos c1, if_pos (Or.inr c1)]
  · rw [if_neg c1]
    by_cases c2 : x = li
    · rw [if_pos c2, if_pos (Or.inl c2)]
    · rw [if_neg c2, if_neg (fun h => h.elim c2 c1), hd x hx]
theorem depth_l0 {f : Int} (t : List Nd) (ht : t.length ≤ 255) (o : Once f t) : ∀ (m : Nat) (P : List Nat) (Ts : List BT) (D : List Int) (d : Nat → Nat) (most : Nat), Walk t P (Ts.map BT.root) → (∀ T ∈ Ts, Says t T) → t.length ≤ P.length + m → D.length = t.length → (∀ i, i < t.length → rd D (i : Int) = (d i : Int)) → (∀ T ∈ Ts, d T.root ≤ P.length) → most ≤ P.length →
    Ev (fun k => valid_Depth.l0 k t D (most : Int) (Ts.map cT)) ((max most (gmx d Ts) : Nat) : Int) := by
  intro m
  induction m with
  | zero =>
    intro P Ts D d most w hs hm hD hd hP hmo
    have hsz := w.size
    rw [List.length_map] at hsz
    obtain rfl : Ts = [] := List.length_eq_zero_iff.1 (by omega)
    refine Ev.succ ?_
    simp only [valid_Depth.l0, List.map_nil, List.length_nil]
    exact Ev.if_neg (by decide) ((Ev.now _).of_eq (by rw [gmx]; omega))
  | succ m ih =>
    intro P Ts D d most w hs hm hD hd hP hmo
    rcases List.eq_nil_or_concat Ts with rfl | ⟨Ts, T, rfl⟩
    · refine Ev.succ ?_
      simp only [valid_Depth.l0, List.map_nil, List.length_nil]
      exact Ev.if_neg (by decide) ((Ev.now _).of_eq (by rw [gmx]; omega))
    · rw [List.concat_eq_append] at w hs hP ⊢
      have hT := hs T (by simp)
      have hlt := hT.lt
      have hsz := w.size
      rw [List.length_map, List.length_append, List.length_singleton] at hsz
      have er1 : (Ts ++ [T]).map BT.root = Ts.map BT.root ++ [T.root] := by rw [List.map_append]; rfl
      rw [er1] at w
      have hdT := hP T (by simp)
      have hA : (Ts.map cT).length = Ts.length := List.length_map _
      have ew : wrap64 ((((Ts.map cT).length + 1 : Nat) : Int) - 1) = ((Ts.map cT).length : Int) := by
        rw [wrap_id (by omega) (by omega)]
        omega
      have er : rd (Ts.map cT ++ [cT T]) ((Ts.map cT).length : Int) = (T.root : Int) := rd_at _ _ []
      have et : (Ts.map cT ++ [cT T]).take (Ts.map cT).length = Ts.map cT := List.take_left
      have el : (Ts.map cT ++ [cT T]).length = (Ts.map cT).length + 1 := by rw [List.length_append, List.length_singleton]
      have em : (Ts ++ [T]).map cT = Ts.map cT ++ [cT T] := by rw [List.map_append]; rfl
      have hda := hd T.root hlt
      have q0 : (((Ts.map cT).length + 1 : Nat) : Int) > 0 := by clear ew; omega
      have q1 : ((Ts.map cT).length : Int) < (((Ts.map cT).length + 1 : Nat) : Int) := by clear ew; omega
      have q2 : ((Ts.map cT).length : Int) ≤ (((Ts.map cT).length + 1 : Nat) : Int) := by clear ew; omega
      have q3 : (T.root : Int) < (t.length : Int) := by clear ew; omega
      have q4 : (T.root : Int) < (D.length : Int) := by clear ew; omega
      have q5 : (Ts.map cT).length + 2 < 17592186044417 := by clear ew; omega
      rw [em, gmx_append]
      have eg : gmx d [T] = max (d T.root + T.dep) 0 := rfl
      refine Ev.succ ?_
      simp only [valid_Depth.l0, el, ew, er, gt_nd, Int.toNat_natCast, et, hda, mx_nat, List.length_set]
      clear ew
      refine Ev.if_pos q0 (Ev.if_pos (nn0 _) (Ev.if_pos q1 (Ev.if_pos q2 (Ev.if_pos (nn0 _) (Ev.if_pos q4 (Ev.if_pos q3 ?_))))))
      cases T with
      | leaf i =>
        have hih := ih (i :: P) Ts D d (max most (d i)) (w.leaf hT.2) (fun x hx => hs x (by simp [hx])) (by rw [List.length_cons]; omega) hD hd (fun x hx => by rw [List.length_cons]; have := hP x (by simp [hx]); omega) (by
          rw [List.length_cons]
          have : d i ≤ P.length := hdT
          omega)
        have e0 : (BT.leaf i).dep = 0 := rfl
        have e1 : (BT.leaf i).root = i := rfl
        refine Ev.if_pos hT.2 (hih.of_eq ?_)
        rw [eg, e0, e1]
        omega
      | node i l r =>
        obtain ⟨hi, hb, hl', hr', h1, h2⟩ := hT
        have hll := h1.lt
        have hrl := h2.lt
        have hdi : d i ≤ P.length := hdT
        have w2 := w.split (a := i) o hb hl' hr'
        have hw2 := w2.nodup
        have fresh : ∀ x ∈ Ts, x.root ≠ l.root ∧ x.root ≠ r.root := fun x hx => by
          have hm1 : x.root ∈ i :: P ++ Ts.map BT.root := List.mem_append_right _ (List.mem_map.2 ⟨x, hx, rfl⟩)
          rw [← List.append_assoc] at hw2
          have := (List.nodup_append.1 hw2).2.2
          exact ⟨this x.root hm1 l.root (by simp), this x.root hm1 r.root (by simp)⟩
        have w8 : d i ≤ 1125899906842624 := by omega
        obtain ⟨d', hD', dl, dr, dx0⟩ := dset D d t.length l.root r.root (d i + 1) (by omega) (by omega) hd
        have er2 : (Ts ++ [l, r]).map BT.root = Ts.map BT.root ++ [l.root, r.root] := by rw [List.map_append]; rfl
        have dx : ∀ x ∈ Ts, d' x.root = d x.root := fun x hx => dx0 _ (fresh x hx).1 (fresh x hx).2
        have hih := ih (i :: P) (Ts ++ [l, r]) ((D.set l.root ((d i + 1 : Nat) : Int)).set r.root ((d i + 1 : Nat) : Int)) d' (max most (d i)) (by rw [er2]; exact w2) (fun x hx => by
          rcases List.mem_append.1 hx with h | h
          · exact hs x (by simp [h])
          · rcases List.mem_cons.1 h with rfl | h
            · exact h1
            · rw [List.mem_singleton.1 h]; exact h2) (by rw [List.length_cons]; omega) (by rw [List.length_set, List.length_set]; exact hD) hD' (fun x hx => by
            rw [List.length_cons]
            rcases List.mem_append.1 hx with h | h
            · rw [dx x h]; have := hP x (by simp [h]); omega
            · rcases List.mem_cons.1 h with rfl | h
              · rw [dl]; omega
              · rw [List.mem_singleton.1 h, dr]; omega) (by rw [List.length_cons]; omega)
        have em2 : (Ts ++ [l, r]).map cT = Ts.map cT ++ [(l.root : Int), (r.root : Int)] := by rw [List.map_append]; rfl
        rw [em2] at hih
        have q6 : (l.root : Int) < (D.length : Int) := by omega
        have q7 : (r.root : Int) < (D.length : Int) := by omega
        simp only [BT.root, hl', hr', wr_succ _ w8, Int.toNat_natCast]
        refine Ev.if_neg hb (Ev.if_pos (nn0 _) (Ev.if_pos q6 (Ev.if_pos (nn0 _) (Ev.if_pos q7 (Ev.if_pos q5 (hih.of_eq ?_))))))
        rw [gmx_append, gmx_congr dx, eg]
        have e3 : gmx d' [l, r] = max (d' l.root + l.dep) (max (d' r.root + r.dep) 0) := rfl
        have e4 : (BT.node i l r).dep = max l.dep r.dep + 1 := rfl
        have e5 : (BT.node i l r).root = i := rfl
        rw [e3, dl, dr, e4, e5]
        omega
def covS (t : List Nd) (s : Rat) : List Nat → Rat
  | [] => s
  | a :: l => covS t (s + rv (nd t a).cov) l
theorem covS_append (t : List Nd) : ∀ (a b : List Nat) (s : Rat), covS t s (a ++ b) = covS t (covS t s a) b
  | [], _, _ => rfl
  | x :: a, b, s => by rw [List.cons_append, covS, covS_append t a b, covS]
theorem covS_tree (t : List Nd) (hsum : ∀ i, i < t.length → (nd t i).1 ≠ true → rv (nd t i).cov = rv (nd t (nd t i).2.2.2.2.2.1.toNat).cov + rv (nd t (nd t i).2.2.2.2.2.2.1.toNat).cov) : ∀ (T : BT) (s : Rat), Says t T → covS t s T.lvs = s + rv (nd t T.root).cov
  | .leaf i, s, h => rfl
  | .node i l r, s, h => by
    obtain ⟨hi, hb, hl, hr, h1, h2⟩ := h
    have e := hsum i hi hb
    rw [hl, hr, Int.toNat_natCast, Int.toNat_natCast] at e
    rw [BT.lvs, covS_append, covS_tree t hsum l s h1, covS_tree t hsum r _ h2]
    show _ = s + rv (nd t i).cov
    rw [e, Rat.add_assoc]
theorem sum_l0 (t : List Nd) (ht : t.length ≤ 255) (hp : ∀ n ∈ t, NdOk n) (l : List Nat) (hl : l.length ≤ 255) (hlt : ∀ a ∈ l, a < t.length) (h0 : 0 < t.length) : ∀ (b a : List Nat) (s : Rat), l = a ++ b → Sz s ≤ 1048578 * (a.length + 1) → covS t s b = rv (nd t 0).cov →
    Ev (fun k => dendronlaw08_ValidLeaves.l0 k t (l.map cI) (l.map cI) (a.length : Int) (cn s).1 (cn s).2.1 (cn s).2.2) true := by
  intro b
  induction b with
  | nil =>
    intro a s hr hs hc
    rw [List.append_nil] at hr
    have hlen : l.length = a.length := by rw [hr]
    have hz := hp _ (nd_mem t 0 h0)
    have hsm := same_cn (cn s) (nd t 0).cov (cnB s (Nat.le_refl _)) hz.2.2.B (by omega) (by decide)
    have hc' : s = rv (nd t 0).cov := hc
    rw [rv_cn, decide_eq_true hc'] at hsm
    have e0 : gt nd0 t 0 = nd t 0 := rfl
    refine Ev.succ ?_
    simp only [dendronlaw08_ValidLeaves.l0, e0]
    exact Ev.if_neg (by rw [List.length_map]; omega) (Ev.if_pos (by omega) (Ev.bind hsm (Ev.if_pos rfl (Ev.bind awake08_ev (Ev.now _)))))
  | cons x b ih =>
    intro a s hr hs hc
    have hlen : l.length = a.length + (b.length + 1) := by rw [hr, List.length_append, List.length_cons]
    have hx := hlt x (by rw [hr]; simp)
    have hn := (hp _ (nd_mem t x hx)).2.2.B
    have er : rd (l.map cI) (a.length : Int) = (x : Int) := by
      rw [hr, List.map_append, List.map_cons]
      have := rd_at (a.map cI) (cI x) (b.map cI)
      rwa [List.length_map] at this
    have hz := hn.sz
    have hz2 := Sz_add s (rv (nd t x).cov)
    have ha := add_cn (cn s) (nd t x).cov (cnB s (Nat.le_refl _)) hn (by omega)
    rw [rv_cn] at ha
    have hih := ih (a ++ [x]) (s + rv (nd t x).cov) (by rw [hr]; simp) (by rw [List.length_append, List.length_singleton]; omega) hc
    refine Ev.succ ?_
    simp only [dendronlaw08_ValidLeaves.l0, er, gt_nd, wr_at a x (show a.length ≤ 1125899906842624 by omega)]
    have ql : (a.length : Int) < ((l.map cI).length : Int) := by rw [List.length_map]; omega
    exact Ev.if_pos ql (Ev.if_pos (nn0 _) (Ev.if_pos ql (Ev.if_neg (fun h => h rfl) (Ev.if_pos (nn0 _) (Ev.if_pos (by omega) (Ev.bind ha hih))))))
theorem lvs_lt {t : List Nd} : ∀ {T : BT}, Says t T → ∀ a ∈ T.lvs, a < t.length
  | .leaf i, h, a, ha => by
    rw [BT.lvs, List.mem_singleton] at ha
    rw [ha]; exact h.1
  | .node i l r, h, a, ha => by
    obtain ⟨_, _, _, _, h1, h2⟩ := h
    rw [BT.lvs] at ha
    rcases List.mem_append.1 ha with h | h
    · exact lvs_lt h1 a h
    · exact lvs_lt h2 a h
theorem check_parts {f : Int} {t : List Nd} (h : (checkF f [t]).1 = 0) : fitM f [t] ∧ A0 f t = none ∧ A1 t = none ∧ A3 t = none := by
  unfold checkF at h
  by_cases hf : fitM f [t]
  · rw [if_pos hf] at h
    refine ⟨hf, ?_⟩
    unfold checkA C1 C2 C3 at h
    cases h0 : A0 f t with
    | some i => rw [firstT_some h0] at h; exact absurd h (by show ¬ (8 : Int) = 0; decide)
    | none =>
      rw [firstT_next h0] at h
      cases h1 : A1 t with
      | some i => rw [firstT_some h1] at h; exact absurd h (by show ¬ (11 : Int) = 0; decide)
      | none =>
        rw [firstT_next h1] at h
        cases h2 : A2 t with
        | some i => rw [firstT_some h2] at h; exact absurd h (by show ¬ (12 : Int) = 0; decide)
        | none =>
          rw [firstT_next h2] at h
          cases h3 : A3 t with
          | some i => rw [firstT_some h3] at h; exact absurd h (by show ¬ (13 : Int) = 0; decide)
          | none => exact ⟨rfl, rfl, rfl⟩
  · rw [if_neg hf] at h
    exact absurd h (by decide)
theorem tree_of {f : Int} {t : List Nd} (h : (checkF f [t]).1 = 0) : ∃ T : BT, T.root = 0 ∧ Says t T ∧ T.size = t.length ∧ Once f t ∧ 1 ≤ t.length ∧ t.length ≤ 255 ∧ (∀ i, i < t.length → (nd t i).1 ≠ true → rv (nd t i).cov = rv (nd t (nd t i).2.2.2.2.2.1.toNat).cov + rv (nd t (nd t i).2.2.2.2.2.2.1.toNat).cov) := by
  obtain ⟨hf, h0, h1, h3⟩ := check_parts h
  obtain ⟨_, _, _, g4⟩ := hf
  have g := g4 t List.mem_cons_self
  have hA : A1 t = (first (bad1 t) t.length 0).or (first (bad2 t) t.length 0) := rfl
  rw [hA] at h1
  have hb1 : first (bad1 t) t.length 0 = none := by
    cases hx : first (bad1 t) t.length 0 with
    | none => rfl
    | some i => rw [hx] at h1; cases h1
  rw [hb1] at h1
  have hb2 : first (bad2 t) t.length 0 = none := h1
  have o : Once f t := ⟨A0_rng h0, fun j j0 j1 => by
    have := first_none _ _ hb1 j (by omega) (by omega)
    unfold bad1 at this
    exact Classical.byContradiction fun e => of_decide_eq_false this ⟨j0, e⟩⟩
  have hall : ∀ i, i < t.length → climb t (t.length + 1) i = true := fun i hi => by
    have := first_none _ _ hb2 i (by omega) (by omega)
    unfold bad2 at this
    simpa using this
  obtain ⟨Ts, e1, e2, e3⟩ := trees_of o hall t.length [] [0] (Walk.start t (by have := g.1; omega)) (by simp)
  obtain ⟨T, u, f1, f2, f3⟩ := List.map_eq_cons_iff.1 e1
  have g5 : u = [] := List.map_eq_nil_iff.1 f3
  subst g5
  subst f1
  refine ⟨T, f2, e2 T List.mem_cons_self, ?_, o, g.1, g.2.1, fun i hi hb => ?_⟩
  · have : sizes [T] = T.size + 0 := rfl
    have e9 : ([] : List Nat).length = 0 := rfl
    omega
  · have := first_none _ _ h3 i (by omega) (by omega)
    unfold bad4 at this
    exact Classical.byContradiction fun e => of_decide_eq_false this ⟨hb, e⟩
theorem validLeaves_ev (t0 : List Nd) (f : Int) (h : ∀ n ∈ t0, NdW n) : Ev (fun k => dendronlaw08_ValidLeaves.f k t0 f) true := by
  unfold dendronlaw08_ValidLeaves.f
  have hw : ∀ s ∈ [t0], ∀ n ∈ s, NdW n := fun s hs => by rw [List.mem_singleton.1 hs]; exact h
  have hf := few7_ev f [t0]
  have hp := few7_nd [t0] hw
  rw [few7_one] at hf hp
  have hp1 := hp (tree4 t0) List.mem_cons_self
  refine Ev.bind hf (Ev.if_pos (show (0 : Int) < ((1 : Nat) : Int) by decide) ?_)
  have e0 : gt [] (f, [tree4 t0]).2 0 = tree4 t0 := rfl
  rw [e0]
  show Ev (fun k => (valid_Leaves.f k (tree4 t0) f).bind fun v15 => ((valid_Depth.f k (tree4 t0) f).bind fun v19 => ((dendronlaw08_check.f k f [tree4 t0]).bind _))) true
  have htv := tree_ev f (tree4 t0) hp1
  have hck := lcheck_ev f [tree4 t0] hp
  generalize tree4 t0 = t at hp1 htv hck ⊢
  by_cases hc : (checkF f [t]).1 = 0
  · obtain ⟨T, r0, hT, hsz, o, l1, l2, hsum⟩ := tree_of hc
    have htrue : ((checkF f [t]).1 == 0) = true := by rw [hc]; rfl
    rw [htrue] at htv
    have es : sizes [T] = T.size + 0 := rfl
    have hL : Ev (fun k => valid_Leaves.f k t f) (T.lvs.map cI) := by
      unfold valid_Leaves.f
      have := leaves_l0 t l2 (sizes [T]) [T] [] (Nat.le_refl _) (fun x hx => by rw [List.mem_singleton.1 hx]; exact hT) (by rw [es]; simp; omega) (by simp)
      have e1 : [T].map cT = [0] := by show [((T.root : Nat) : Int)] = [0]; rw [r0]; rfl
      rw [e1] at this
      refine Ev.bind htv (Ev.if_pos rfl (this.of_eq ?_))
      simp
    have hD : Ev (fun k => valid_Depth.f k t f) (T.dep : Int) := by
      unfold valid_Depth.f
      rw [Int.toNat_natCast]
      have w := Walk.start t (by omega)
      have := depth_l0 (f := f) t l2 o t.length [] [T] (List.replicate t.length 0) (fun _ => 0) 0 (by rw [show [T].map BT.root = [0] from by show [T.root] = [0]; rw [r0]]; exact w) (fun x hx => by rw [List.mem_singleton.1 hx]; exact hT) (by simp) List.length_replicate (fun i hi => by
        unfold rd
        rw [Int.toNat_natCast, List.getD_eq_getElem?_getD, List.getElem?_replicate, if_pos hi]
        rfl) (fun x _ => Nat.zero_le _) (Nat.zero_le _)
      have e1 : [T].map cT = [0] := by show [((T.root : Nat) : Int)] = [0]; rw [r0]; rfl
      rw [e1] at this
      refine Ev.bind htv (Ev.if_pos rfl (Ev.if_pos (by omega) (this.of_eq ?_)))
      show ((max 0 (max (0 + T.dep) 0) : Nat) : Int) = _
      omega
    have hl := lleaves_ev t l2 T hT (by omega)
    have hd := ldepth_ev t l2 T hT (by omega)
    rw [r0] at hl hd
    have hln := T.lvs_size
    have hlen : (T.lvs.map cI).length = T.lvs.length := List.length_map _
    have w1 : wrap64 (2 * ((T.lvs.map cI).length : Int)) = 2 * ((T.lvs.map cI).length : Int) := wrap_id (by omega) (by omega)
    have w2 : wrap64 ((t.length : Int) + 1) = ((t.length + 1 : Nat) : Int) := wr_succ _ (by clear w1; omega)
    have w3 : ¬ (2 * ((T.lvs.map cI).length : Int) ≠ ((t.length + 1 : Nat) : Int)) := by clear w1 w2; omega
    have z0 : Ev (fun k => ratio_Zero.f k) (cn 0) := by
      have e : cn 0 = (false, [], lm 1) := by
        unfold cn
        rw [show (0 : Rat).num = 0 from rfl, show (0 : Rat).den = 1 from rfl, show (0 : Int).natAbs = 0 from rfl, lm_zero]
        rfl
      rw [e]
      exact Ev.bind (ofN_ev 1 (by decide)) (Ev.now _)
    have z1 : Sz (0 : Rat) ≤ 1048578 := by
      unfold Sz
      rw [show (0 : Rat).num = 0 from rfl, show (0 : Rat).den = 1 from rfl, show (0 : Int).natAbs = 0 from rfl, len_zero, len_one]
      decide
    have hcv := covS_tree t hsum T 0 hT
    rw [r0, Rat.zero_add] at hcv
    have hs := sum_l0 t l2 hp1 T.lvs (by omega) (lvs_lt hT) (by omega) T.lvs [] 0 rfl (by rw [List.length_nil]; omega) hcv
    have e2 : gt [] [t] 0 = t := rfl
    refine Ev.bind hL (Ev.bind hD (Ev.bind hck (Ev.if_neg (fun e => e hc) (Ev.bind hl (Ev.bind z0 (Ev.if_neg (fun e => e rfl) (Ev.bind hd (Ev.if_neg (fun e => e rfl) ?_))))))))
    rw [w1, w2]
    exact Ev.if_neg w3 hs
  · have hfalse : ((checkF f [t]).1 == 0) = false := beq_false_of_ne hc
    rw [hfalse] at htv
    have hL : Ev (fun k => valid_Leaves.f k t f) [] := by
      unfold valid_Leaves.f
      exact Ev.bind htv (Ev.if_neg (by decide) (Ev.now _))
    have hD : Ev (fun k => valid_Depth.f k t f) (-1) := by
      unfold valid_Depth.f
      exact Ev.bind htv (Ev.if_neg (by decide) (Ev.now _))
    exact Ev.bind hL (Ev.bind hD (Ev.bind hck (Ev.if_pos hc (Ev.if_pos rfl (Ev.if_pos rfl (Ev.bind awake08_ev (Ev.now _)))))))
end Go.DI.Th
