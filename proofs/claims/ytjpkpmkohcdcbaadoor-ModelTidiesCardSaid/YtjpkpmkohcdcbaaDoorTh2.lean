/- What the told functions answer, part 2. No condition. -/
import Derived.Test.YtjpkpmkohcdcbaaDoorTh1
set_option linter.all false
namespace Go.DI.Th
open Go Go.RowKit Go.DI

theorem ltext_l0 (f : Int) (ts : List (List Nd)) (hts : ts.length ≤ 64) (hv : ∀ t ∈ ts, t.length ≤ 255 ∧ ∀ n ∈ t, NdOk n ∧ okN n) (acc0 : ByteArray) (hs0 : (acc0 ++ treesB ts ++ endB).size ≤ MM) :
    ∀ (b a : List (List Nd)) (acc : ByteArray), ts = a ++ b → acc ++ treesB b = acc0 ++ treesB ts → Ev (fun k => dendronlaw07_text.l0 k acc (a.length : Int) f ts) (acc0 ++ treesB ts ++ endB) := by
  have hM : MM = 70368744177664 := rfl
  intro b
  induction b with
  | nil =>
    intro a acc hr hacc
    rw [List.append_nil] at hr
    rw [treesB, ByteArray.append_empty] at hacc
    rw [← hacc] at hs0 ⊢
    rw [ByteArray.size_append] at hs0
    refine Ev.succ ?_
    simp only [dendronlaw07_text.l0]
    exact Ev.if_neg (by rw [hr]; omega) (Ev.if_pos (by show acc.size + endB.size ≤ _; omega) (Ev.now _))
  | cons t b ih =>
    intro a acc hr hacc
    have e1 := gt_at [] a t b
    have l1 := lt_at a t b
    rw [← hr] at e1 l1
    have hl : ts.length = a.length + (b.length + 1) := by rw [hr, List.length_append, List.length_cons]
    have ht := hv t (by rw [hr]; simp)
    have hA : acc ++ treeW ++ prN t.length ++ nl ++ linesB t ++ treesB b = acc0 ++ treesB ts := by
      rw [← hacc, treesB]
      simp only [ByteArray.append_assoc]
    have hih := ih (a ++ [t]) (acc ++ treeW ++ prN t.length ++ nl ++ linesB t) (by rw [hr]; simp) hA
    have hz := congrArg ByteArray.size hA
    rw [ByteArray.size_append] at hs0
    have hz1 : (acc ++ treeW ++ prN t.length ++ nl ++ linesB t).size ≤ MM := by
      rw [ByteArray.size_append] at hz
      omega
    have hz2 : acc.size + 5 + (prN t.length).size + 1 ≤ MM := by
      rw [ByteArray.size_append, ByteArray.size_append, ByteArray.size_append, ByteArray.size_append, treeW_size, nl_size] at hz1
      omega
    have z3 : (⟨#[116, 114, 101, 101, 32]⟩ : ByteArray).size = 5 := rfl
    have z2 : (⟨#[10]⟩ : ByteArray).size = 1 := rfl
    refine Ev.succ ?_
    simp only [dendronlaw07_text.l0, e1, ByteArray.size_append, z2, z3]
    refine Ev.if_pos l1 (Ev.if_pos (by omega) (Ev.if_pos (nn0 _) (Ev.bind (l7digits_ev t.length (by omega)) (Ev.if_pos (by omega) (Ev.if_pos (by omega) ?_)))))
    exact ltext_l1 f ts a t b hr (by omega) ht.1 ht.2 _ (acc ++ treeW ++ prN t.length ++ nl) hz1 hih t [] _ rfl rfl
theorem ltext_ev (f : Int) (ts : List (List Nd)) (h : fitM f ts) (hv : ∀ t ∈ ts, ∀ n ∈ t, NdOk n) (hs : (modelB f.toNat ts).size ≤ MM) : Ev (fun k => dendronlaw07_text.f k f ts) (modelB f.toNat ts) := by
  unfold dendronlaw07_text.f
  obtain ⟨g1, g2, g3, g4⟩ := h
  obtain ⟨f, rfl⟩ : ∃ n : Nat, f = (n : Int) := ⟨f.toNat, by omega⟩
  rw [Int.toNat_natCast] at hs ⊢
  obtain ⟨q1, q2, q3⟩ := headB_size f ts.length (by omega) g3
  have e1 : (⟨#[100, 101, 110, 100, 114, 111, 110, 32, 49, 10, 102, 101, 97, 116, 117, 114, 101, 115, 32]⟩ : ByteArray).size = 19 := rfl
  have e2 : (⟨#[10, 116, 114, 101, 101, 115, 32]⟩ : ByteArray).size = 7 := rfl
  have e3 : (⟨#[10]⟩ : ByteArray).size = 1 := rfl
  simp only [ByteArray.size_append, e1, e2, e3]
  have hl0 := ltext_l0 (f : Int) ts g3 (fun t ht => ⟨(g4 t ht).2.1, fun n hn => ⟨hv t ht n hn, (g4 t ht).2.2 n hn⟩⟩) (headB f ts.length) hs ts [] (headB f ts.length) rfl rfl
  exact Ev.bind (l7digits_ev f (by omega)) (Ev.if_pos (by omega) (Ev.if_pos (by omega) (Ev.bind (l7digits_ev ts.length (by omega)) (Ev.if_pos (by omega) (Ev.if_pos (by omega) hl0)))))
theorem awake07_ev : Ev (fun k => dendronlaw07_awake.f k) true := by
  unfold dendronlaw07_awake.f
  have hw := mwrite_ev 0 [] (fun t ht => by cases ht) (by decide +kernel)
  have hf : writeM 0 [] = (cst_c5d6179e, 0) := by
    unfold writeM
    rw [if_pos ⟨by decide, by decide, by decide, fun t ht => by cases ht⟩]
    have : modelB (0 : Int).toNat [] = cst_c5d6179e := by decide +kernel
    rw [this]
  rw [hf] at hw
  exact Ev.bind hw (Ev.if_pos rfl (Ev.now _))
end Go.DI.Th
namespace Go.DI.Th
open Go Go.RowKit Go.DI

theorem num4_ok (r : Rt) (h : U r.2.1 ∧ U r.2.2) : RtOk (num4 r) ∧ (num4 r).2.1.length ≤ 4 ∧ (num4 r).2.2.length ≤ 4 := by
  have a1 : (r.2.1.take 4).length ≤ 4 := by rw [List.length_take]; omega
  have a2 : (r.2.2.take 4).length ≤ 4 := by rw [List.length_take]; omega
  exact ⟨⟨U.take' h.1 4, U.take' h.2 4, Nat.le_trans a1 (by decide), Nat.le_trans a2 (by decide)⟩, a1, a2⟩
theorem prT_small (r : Rt) (h1 : r.2.1.length ≤ 4) (h2 : r.2.2.length ≤ 4) : (prT r).size ≤ 300 := by
  have := prR_size r.1 r.2.1 r.2.2
  unfold prT
  omega
theorem nd4_ok (n : Nd) (h : NdW n) : NdOk (nd4 n) ∧ (prT (nd4 n).cut).size ≤ 300 ∧ (prT (nd4 n).val).size ≤ 300 ∧ (prT (nd4 n).cov).size ≤ 300 := by
  obtain ⟨h1, h2, h3⟩ := h
  have k1 := num4_ok n.cut h1
  have k2 := num4_ok n.val h2
  have k3 := num4_ok n.cov h3
  exact ⟨⟨k1.1, k2.1, k3.1⟩, prT_small _ k1.2.1 k1.2.2, prT_small _ k2.2.1 k2.2.2, prT_small _ k3.2.1 k3.2.2⟩
theorem lineT_size (n : Nd) (ho : okN n) (h1 : (prT n.cut).size ≤ 300) (h2 : (prT n.val).size ≤ 300) (h3 : (prT n.cov).size ≤ 300) : (lineT n).size ≤ 1000 := by
  obtain ⟨a1, a2, a3, a4, a5, a6⟩ := ho
  have z1 := prN_small (n := n.2.1.toNat) (by omega)
  have z2 := prN_small (n := n.2.2.2.2.2.1.toNat) (by omega)
  have z3 := prN_small (n := n.2.2.2.2.2.2.1.toNat) (by omega)
  have e1 : sp.size = 1 := rfl
  have e2 : leaf5.size = 5 := rfl
  have e3 : split6.size = 6 := rfl
  by_cases hb : n.1 = true
  · rw [lineT_leaf n hb]
    simp only [ByteArray.size_append, e1, e2]
    omega
  · rw [lineT_split n hb]
    have e4 : (missW n.2.2.2.2.2.2.2.1).size ≤ 10 := by unfold missW; split <;> decide
    simp only [ByteArray.size_append, e1, e3]
    omega
theorem linesB_size : ∀ (l : List Nd), (∀ n ∈ l, (lineT n).size ≤ 1000) → (linesB l).size ≤ 1001 * l.length
  | [], _ => Nat.zero_le _
  | n :: l, h => by
    have h1 := h n List.mem_cons_self
    have h2 := linesB_size l fun x hx => h x (List.mem_cons_of_mem _ hx)
    rw [linesB, ByteArray.size_append, ByteArray.size_append, nl_size, List.length_cons]
    omega
theorem treesB_size : ∀ (l : List (List Nd)), (∀ t ∈ l, t.length ≤ 255 ∧ ∀ n ∈ t, (lineT n).size ≤ 1000) → (treesB l).size ≤ 300000 * l.length
  | [], _ => Nat.zero_le _
  | t :: l, h => by
    have h1 := h t List.mem_cons_self
    have h2 := treesB_size l fun x hx => h x (List.mem_cons_of_mem _ hx)
    have h3 := linesB_size t h1.2
    have h4 := prN_small (n := t.length) (by omega)
    rw [treesB]
    simp only [ByteArray.size_append, nl_size, treeW_size, List.length_cons]
    omega
theorem few7_ok (f : Int) (ts : List (List Nd)) (h : ∀ t ∈ ts, ∀ n ∈ t, NdW n) : (∀ t ∈ few7 ts, ∀ n ∈ t, NdOk n) ∧ (fitM f (few7 ts) → (modelB f.toNat (few7 ts)).size ≤ MM) := by
  have key : ∀ t ∈ few7 ts, ∀ n ∈ t, ∃ m, NdW m ∧ n = nd4 m := by
    intro t ht n hn
    unfold few7 at ht
    obtain ⟨t', ht', rfl⟩ := List.mem_map.1 ht
    unfold tree4 at hn
    obtain ⟨m, hm, rfl⟩ := List.mem_map.1 hn
    exact ⟨m, h t' (List.mem_of_mem_take ht') m (List.mem_of_mem_take hm), rfl⟩
  refine ⟨fun t ht n hn => ?_, fun hf => ?_⟩
  · obtain ⟨m, hm, rfl⟩ := key t ht n hn
    exact (nd4_ok m hm).1
  · obtain ⟨g1, g2, g3, g4⟩ := hf
    have hl : (few7 ts).length ≤ 6 := by unfold few7; rw [List.length_map, List.length_take]; omega
    have hz := treesB_size (few7 ts) fun t ht => ⟨(g4 t ht).2.1, fun n hn => by
      obtain ⟨m, hm, rfl⟩ := key t ht n hn
      have k := nd4_ok m hm
      exact lineT_size _ ((g4 t ht).2.2 _ hn) k.2.1 k.2.2.1 k.2.2.2⟩
    have q2 := prN_small (n := f.toNat) (by omega)
    have q3 := prN_small (n := (few7 ts).length) (by omega)
    unfold modelB headB
    have e1 : (⟨#[100, 101, 110, 100, 114, 111, 110, 32, 49, 10, 102, 101, 97, 116, 117, 114, 101, 115, 32]⟩ : ByteArray).size = 19 := rfl
    have e2 : (⟨#[10, 116, 114, 101, 101, 115, 32]⟩ : ByteArray).size = 7 := rfl
    have e3 : endB.size = 4 := rfl
    have hM : MM = 70368744177664 := rfl
    simp only [ByteArray.size_append, nl_size, e1, e2, e3]
    omega
theorem modelWrites_ev (f : Int) (ts : List (List Nd)) (h : ∀ t ∈ ts, ∀ n ∈ t, NdW n) : Ev (fun k => dendronlaw07_ModelWrites.f k f ts) true := by
  unfold dendronlaw07_ModelWrites.f
  obtain ⟨h1, h2⟩ := few7_ok f ts h
  refine Ev.bind (few7_ev f ts) ?_
  generalize few7 ts = xs at h1 h2
  by_cases hf : fitM f xs
  · have hw := mwrite_ev f xs h1 (h2 hf)
    unfold writeM at hw
    rw [if_pos hf] at hw
    refine Ev.bind hw (Ev.bind (fits_ev f xs) (Ev.bind (lfits_ev f xs) (Ev.if_neg (fun h => h rfl) (Ev.bind (lfits_ev f xs) (Ev.if_pos (decide_eq_true hf) (Ev.bind (ltext_ev f xs hf h1 (h2 hf)) ?_))))))
    exact Ev.if_pos rfl (Ev.if_pos rfl (Ev.bind awake07_ev (Ev.now _)))
  · have hw : Ev (fun k => model_Write.f k f xs) (.empty, 1) := by
      unfold model_Write.f
      exact Ev.bind (fits_ev f xs) (Ev.if_neg (by simp [hf]) (Ev.now _))
    refine Ev.bind hw (Ev.bind (fits_ev f xs) (Ev.bind (lfits_ev f xs) (Ev.if_neg (fun h => h rfl) (Ev.bind (lfits_ev f xs) (Ev.if_neg (by simp [hf]) ?_)))))
    exact Ev.if_pos rfl (Ev.if_pos rfl (Ev.bind awake07_ev (Ev.now _)))
end Go.DI.Th
namespace Go.DI.Th
open Go Go.RowKit Go.DI

def clR (r : Rt) : Rt := rl (num r.1 r.2.1 r.2.2) (den r.2.2)
theorem clR_ev (r : Rt) (h : RtOk r) : Ev (fun k => ratio_Clean.f k r.1 r.2.1 r.2.2) (clR r) := rclean_ev r.1 r.2.1 r.2.2 h.1 h.2.1 (by have := h.2.2.1; omega) (by have := h.2.2.2; omega)
theorem clR_ok (r : Rt) (h : RtOk r) : RtOk (clR r) := by
  obtain ⟨h1, h2, h3, h4⟩ := h
  have u := rl_ok (num r.1 r.2.1 r.2.2) (den r.2.2)
  have l := rl_lens (num r.1 r.2.1 r.2.2) (den r.2.2)
  have v1 := val_len r.2.1
  have v2 := val_len r.2.2
  have v3 := len_mono (num_abs r.1 r.2.1 r.2.2)
  have v4 : len (den r.2.2) ≤ max (len (val r.2.2)) 2 := by
    unfold den
    split
    · have := len_small (show 1 < 18446744073709551616 by decide)
      omega
    · omega
  exact ⟨u.1, u.2, by unfold clR; omega, by unfold clR; omega⟩
theorem clR_again (r : Rt) : clR (clR r) = clR r := by
  unfold clR
  obtain ⟨e1, e2⟩ := num_rl (num r.1 r.2.1 r.2.2) (den r.2.2) (den_pos _)
  rw [e1, e2, rl_again _ _ (den_pos _)]
def tidyN (n : Nd) : Nd := if n.1 = true then (n.1, 0, false, [], [], 0, 0, false, (clR n.val).1, (clR n.val).2.1, (clR n.val).2.2, (clR n.cov).1, (clR n.cov).2.1, (clR n.cov).2.2) else
  (n.1, n.2.1, (clR n.cut).1, (clR n.cut).2.1, (clR n.cut).2.2, n.2.2.2.2.2.1, n.2.2.2.2.2.2.1, n.2.2.2.2.2.2.2.1, false, [], [], (clR n.cov).1, (clR n.cov).2.1, (clR n.cov).2.2)
theorem tidyN_ok (n : Nd) (h : NdOk n) : NdOk (tidyN n) := by
  have z : RtOk (false, [], []) := ⟨fun x hx => (by cases hx), fun x hx => (by cases hx), by decide, by decide⟩
  unfold tidyN
  by_cases hb : n.1 = true
  · rw [if_pos hb]
    exact ⟨z, clR_ok _ h.2.1, clR_ok _ h.2.2⟩
  · rw [if_neg hb]
    exact ⟨clR_ok _ h.1, z, clR_ok _ h.2.2⟩
theorem tidyN_again (n : Nd) : tidyN (tidyN n) = tidyN n := by
  by_cases hb : n.1 = true
  · have e : tidyN n = (n.1, 0, false, [], [], 0, 0, false, (clR n.val).1, (clR n.val).2.1, (clR n.val).2.2, (clR n.cov).1, (clR n.cov).2.1, (clR n.cov).2.2) := if_pos hb
    rw [e]
    unfold tidyN
    rw [if_pos hb]
    have a1 := clR_again n.val
    have a2 := clR_again n.cov
    show (n.1, 0, false, [], [], 0, 0, false, (clR (clR n.val)).1, (clR (clR n.val)).2.1, (clR (clR n.val)).2.2, (clR (clR n.cov)).1, (clR (clR n.cov)).2.1, (clR (clR n.cov)).2.2) = _
    rw [a1, a2]
  · have e : tidyN n = (n.1, n.2.1, (clR n.cut).1, (clR n.cut).2.1, (clR n.cut).2.2, n.2.2.2.2.2.1, n.2.2.2.2.2.2.1, n.2.2.2.2.2.2.2.1, false, [], [], (clR n.cov).1, (clR n.cov).2.1, (clR n.cov).2.2) := if_neg hb
    rw [e]
    unfold tidyN
    rw [if_neg hb]
    have a1 := clR_again n.cut
    have a2 := clR_again n.cov
    show (n.1, n.2.1, (clR (clR n.cut)).1, (clR (clR n.cut)).2.1, (clR (clR n.cut)).2.2, n.2.2.2.2.2.1, n.2.2.2.2.2.2.1, n.2.2.2.2.2.2.2.1, false, [], [], (clR (clR n.cov)).1, (clR (clR n.cov)).2.1, (clR (clR n.cov)).2.2) = _
    rw [a1, a2]
def tidyT (ts : List (List Nd)) : List (List Nd) := ts.map (·.map tidyN)
theorem tidyT_again (ts : List (List Nd)) : tidyT (tidyT ts) = tidyT ts := by
  unfold tidyT
  rw [List.map_map]
  refine List.map_congr_left fun t _ => ?_
  show (t.map tidyN).map tidyN = t.map tidyN
  rw [List.map_map]
  exact List.map_congr_left fun n _ => tidyN_again n
theorem tidyT_ok (ts : List (List Nd)) (h : ∀ t ∈ ts, ∀ n ∈ t, NdOk n) : ∀ t ∈ tidyT ts, ∀ n ∈ t, NdOk n := by
  intro t ht n hn
  unfold tidyT at ht
  obtain ⟨t', ht', rfl⟩ := List.mem_map.1 ht
  obtain ⟨m, hm, rfl⟩ := List.mem_map.1 hn
  exact tidyN_ok m (h t' ht' m hm)
def small7 (ts : List (List Nd)) : Prop := ts.length ≤ 1000 ∧ ∀ t ∈ ts, t.length ≤ 1000
theorem tidyT_small (ts : List (List Nd)) (h : small7 ts) : small7 (tidyT ts) := by
  refine ⟨by unfold tidyT; rw [List.length_map]; exact h.1, fun t ht => ?_⟩
  unfold tidyT at ht
  obtain ⟨t', ht', rfl⟩ := List.mem_map.1 ht
  rw [List.length_map]
  exact h.2 t' ht'
/-! ### the program's -/
theorem mtidy_l1 (ts : List (List Nd)) (ta : List (List Nd)) (hta : ta.length ≤ 1000) (t : List Nd) (ht : t.length ≤ 1000) (hv : ∀ n ∈ t, NdOk n) (b20 f : Int) (out : List (List Nd)) (ho : out.length ≤ 1000) (R : Int × List (List Nd))
    (hend : Ev (fun k => model_Tidy.l0 k ts (ts.length : Int) ((ta ++ [t]).length : Int) b20 f (out ++ [t.map tidyN])) R) : ∀ (b a : List Nd), t = a ++ b →
    Ev (fun k => model_Tidy.l1 k (a.map tidyN) ts (ts.length : Int) (ta.length : Int) t (t.length : Int) (a.length : Int) b20 f out) R := by
  have ew := wr_at ta t (by omega)
  intro b
  induction b with
  | nil =>
    intro a hr
    rw [List.append_nil] at hr
    subst hr
    refine Ev.succ ?_
    simp only [model_Tidy.l1, ew]
    exact Ev.if_neg (by omega) (Ev.if_pos (by omega) hend)
  | cons n b ih =>
    intro a hr
    have e2 := gt_at nd0 a n b
    have l2 := lt_at a n b
    rw [← hr] at e2 l2
    have hl : t.length = a.length + (b.length + 1) := by rw [hr, List.length_append, List.length_cons]
    have hn := hv n (by rw [hr]; simp)
    have hih := ih (a ++ [n]) (by rw [hr]; simp)
    rw [List.map_append, List.map_cons, List.map_nil] at hih
    refine Ev.succ ?_
    simp only [model_Tidy.l1, e2, wr_at a n (show a.length ≤ 1125899906842624 by omega)]
    refine Ev.if_pos l2 (Ev.if_pos (nn0 _) (Ev.if_pos l2 (Ev.bind (clR_ev n.cov hn.2.2) ?_)))
    by_cases hb : n.1 = true
    · have e : tidyN n = (n.1, 0, false, [], [], 0, 0, false, (clR n.val).1, (clR n.val).2.1, (clR n.val).2.2, (clR n.cov).1, (clR n.cov).2.1, (clR n.cov).2.2) := if_pos hb
      rw [e] at hih
      exact Ev.if_pos hb (Ev.bind (clR_ev n.val hn.2.1) (Ev.if_pos (by rw [List.length_map]; omega) hih))
    · have e : tidyN n = (n.1, n.2.1, (clR n.cut).1, (clR n.cut).2.1, (clR n.cut).2.2, n.2.2.2.2.2.1, n.2.2.2.2.2.2.1, n.2.2.2.2.2.2.2.1, false, [], [], (clR n.cov).1, (clR n.cov).2.1, (clR n.cov).2.2) := if_neg hb
      rw [e] at hih
      exact Ev.if_neg hb (Ev.bind (clR_ev n.cut hn.1) (Ev.if_pos (by rw [List.length_map]; omega) hih))
theorem mtidy_l0 (ts : List (List Nd)) (hs : small7 ts) (hv : ∀ t ∈ ts, ∀ n ∈ t, NdOk n) (b20 f : Int) : ∀ (b a : List (List Nd)), ts = a ++ b → Ev (fun k => model_Tidy.l0 k ts (ts.length : Int) (a.length : Int) b20 f (tidyT a)) (f, tidyT ts) := by
  intro b
  induction b with
  | nil =>
    intro a hr
    rw [List.append_nil] at hr
    subst hr
    refine Ev.succ ?_
    simp only [model_Tidy.l0]
    exact Ev.if_neg (by omega) (Ev.now _)
  | cons t b ih =>
    intro a hr
    have e1 := gt_at [] a t b
    have l1 := lt_at a t b
    rw [← hr] at e1 l1
    have hl : ts.length = a.length + (b.length + 1) := by rw [hr, List.length_append, List.length_cons]
    have h0 := hs.1
    have hm : t ∈ ts := by rw [hr]; simp
    have hih := ih (a ++ [t]) (by rw [hr]; simp)
    have ea : tidyT (a ++ [t]) = tidyT a ++ [t.map tidyN] := by unfold tidyT; rw [List.map_append]; rfl
    rw [ea] at hih
    refine Ev.succ ?_
    simp only [model_Tidy.l0, e1]
    exact Ev.if_pos l1 (Ev.if_pos (nn0 _) (Ev.if_pos l1 (mtidy_l1 ts a (by omega) t (hs.2 t hm) (hv t hm) b20 f (tidyT a) (by unfold tidyT; rw [List.length_map]; omega) _ hih t [] rfl)))
theorem mtidy_ev (f : Int) (ts : List (List Nd)) (hs : small7 ts) (hv : ∀ t ∈ ts, ∀ n ∈ t, NdOk n) : Ev (fun k => model_Tidy.f k f ts) (f, tidyT ts) := mtidy_l0 ts hs hv 0 f ts [] rfl
/-! ### the law's -/
theorem ltidy_l1 (ts : List (List Nd)) (ta : List (List Nd)) (hta : ta.length ≤ 1000) (t : List Nd) (tb : List (List Nd)) (hts : ts = ta ++ t :: tb) (ht : t.length ≤ 1000) (hv : ∀ n ∈ t, NdOk n) (b10 b20 f : Int) (out : List (List Nd)) (ho : out.length ≤ 1000) (R : Int × List (List Nd))
    (hend : Ev (fun k => dendronlaw07_tidy.l0 k ((ta ++ [t]).length : Int) b10 ts b20 f (out ++ [t.map tidyN])) R) : ∀ (b a : List Nd), t = a ++ b →
    Ev (fun k => dendronlaw07_tidy.l1 k (ta.length : Int) (a.map tidyN) (a.length : Int) b10 ts b20 f out) R := by
  have ew := wr_at ta t (by omega)
  have e1 := gt_at [] ta t tb
  have l1 := lt_at ta t tb
  rw [← hts] at e1 l1
  intro b
  induction b with
  | nil =>
    intro a hr
    rw [List.append_nil] at hr
    subst hr
    refine Ev.succ ?_
    simp only [dendronlaw07_tidy.l1, ew, e1]
    exact Ev.if_pos (nn0 _) (Ev.if_pos l1 (Ev.if_neg (by omega) (Ev.if_pos (by omega) hend)))
  | cons n b ih =>
    intro a hr
    have e2 := gt_at nd0 a n b
    have l2 := lt_at a n b
    rw [← hr] at e2 l2
    have hl : t.length = a.length + (b.length + 1) := by rw [hr, List.length_append, List.length_cons]
    have hn := hv n (by rw [hr]; simp)
    have hih := ih (a ++ [n]) (by rw [hr]; simp)
    rw [List.map_append, List.map_cons, List.map_nil] at hih
    refine Ev.succ ?_
    simp only [dendronlaw07_tidy.l1, e1, e2, wr_at a n (show a.length ≤ 1125899906842624 by omega)]
    refine Ev.if_pos (nn0 _) (Ev.if_pos l1 (Ev.if_pos l2 (Ev.if_pos (nn0 _) (Ev.bind (clR_ev n.cov hn.2.2) ?_))))
    by_cases hb : n.1 = true
    · have e : tidyN n = (n.1, 0, false, [], [], 0, 0, false, (clR n.val).1, (clR n.val).2.1, (clR n.val).2.2, (clR n.cov).1, (clR n.cov).2.1, (clR n.cov).2.2) := if_pos hb
      rw [e] at hih
      exact Ev.if_pos hb (Ev.bind (clR_ev n.val hn.2.1) (Ev.if_pos (by rw [List.length_map]; omega) hih))
    · have e : tidyN n = (n.1, n.2.1, (clR n.cut).1, (clR n.cut).2.1, (clR n.cut).2.2, n.2.2.2.2.2.1, n.2.2.2.2.2.2.1, n.2.2.2.2.2.2.2.1, false, [], [], (clR n.cov).1, (clR n.cov).2.1, (clR n.cov).2.2) := if_neg hb
      rw [e] at hih
      exact Ev.if_neg hb (Ev.bind (clR_ev n.cut hn.1) (Ev.if_pos (by rw [List.length_map]; omega) hih))
theorem ltidy_l0 (ts : List (List Nd)) (hs : small7 ts) (hv : ∀ t ∈ ts, ∀ n ∈ t, NdOk n) (b10 b20 f : Int) : ∀ (b a : List (List Nd)), ts = a ++ b → Ev (fun k => dendronlaw07_tidy.l0 k (a.length : Int) b10 ts b20 f (tidyT a)) (f, tidyT ts) := by
  intro b
  induction b with
  | nil =>
    intro a hr
    rw [List.append_nil] at hr
    subst hr
    refine Ev.succ ?_
    simp only [dendronlaw07_tidy.l0]
    exact Ev.if_neg (by omega) (Ev.now _)
  | cons t b ih =>
    intro a hr
    have l1 := lt_at a t b
    rw [← hr] at l1
    have hl : ts.length = a.length + (b.length + 1) := by rw [hr, List.length_append, List.length_cons]
    have h0 := hs.1
    have hm : t ∈ ts := by rw [hr]; simp
    have hih := ih (a ++ [t]) (by rw [hr]; simp)
    have ea : tidyT (a ++ [t]) = tidyT a ++ [t.map tidyN] := by unfold tidyT; rw [List.map_append]; rfl
    rw [ea] at hih
    refine Ev.succ ?_
    simp only [dendronlaw07_tidy.l0]
    exact Ev.if_pos l1 (ltidy_l1 ts a (by omega) t b hr (hs.2 t hm) (hv t hm) b10 b20 f (tidyT a) (by unfold tidyT; rw [List.length_map]; omega) _ hih t [] rfl)
theorem ltidy_ev (f : Int) (ts : List (List Nd)) (hs : small7 ts) (hv : ∀ t ∈ ts, ∀ n ∈ t, NdOk n) : Ev (fun k => dendronlaw07_tidy.f k f ts) (f, tidyT ts) := ltidy_l0 ts hs hv f 0 f ts [] rfl
/-! ### Same -/
theorem exact_l1 (s : Bool) (n d : List Int) (hd : d.length ≤ 1125899906842624) : ∀ (b a : List Int), d = a ++ b → Ev (fun k => dendronref07_exact.l1 k (a.length : Int) s n d s n d) true := by
  intro b
  induction b with
  | nil =>
    intro a hr
    rw [List.append_nil] at hr
    subst hr
    refine Ev.succ ?_
    simp only [dendronref07_exact.l1]
    exact Ev.if_neg (by omega) (Ev.now _)
  | cons x b ih =>
    intro a hr
    have l1 := lt_at a x b
    rw [← hr] at l1
    have hl : d.length = a.length + (b.length + 1) := by rw [hr, List.length_append, List.length_cons]
    have hih := ih (a ++ [x]) (by rw [hr]; simp)
    refine Ev.succ ?_
    simp only [dendronref07_exact.l1, wr_at a x (show a.length ≤ 1125899906842624 by omega)]
    exact Ev.if_pos l1 (Ev.if_pos (nn0 _) (Ev.if_pos l1 (Ev.if_neg (fun h => h rfl) hih)))
theorem exact_l0 (s : Bool) (n d : List Int) (hn : n.length ≤ 1125899906842624) (hd : d.length ≤ 1125899906842624) : ∀ (b a : List Int), n = a ++ b → Ev (fun k => dendronref07_exact.l0 k (a.length : Int) s n d s n d) true := by
  intro b
  induction b with
  | nil =>
    intro a hr
    rw [List.append_nil] at hr
    subst hr
    refine Ev.succ ?_
    simp only [dendronref07_exact.l0]
    exact Ev.if_neg (by omega) (exact_l1 s n d hd d [] rfl)
  | cons x b ih =>
    intro a hr
    have l1 := lt_at a x b
    rw [← hr] at l1
    have hl : n.length = a.length + (b.length + 1) := by rw [hr, List.length_append, List.length_cons]
    have hih := ih (a ++ [x]) (by rw [hr]; simp)
    refine Ev.succ ?_
    simp only [dendronref07_exact.l0, wr_at a x (show a.length ≤ 1125899906842624 by omega)]
    exact Ev.if_pos l1 (Ev.if_pos (nn0 _) (Ev.if_pos l1 (Ev.if_neg (fun h => h rfl) hih)))
theorem exact_ev (r : Rt) (h : RtOk r) : Ev (fun k => dendronref07_exact.f k r.1 r.2.1 r.2.2 r.1 r.2.1 r.2.2) true := by
  unfold dendronref07_exact.f
  exact Ev.if_neg (fun h => h rfl) (Ev.if_neg (fun h => h rfl) (Ev.if_neg (fun h => h rfl) (exact_l0 r.1 r.2.1 r.2.2 (by have := h.2.2.1; omega) (by have := h.2.2.2; omega) r.2.1 [] rfl)))
theorem same7_l1 (f : Int) (ts : List (List Nd)) (ta : List (List Nd)) (hta : ta.length ≤ 1000) (t : List Nd) (tb : List (List Nd)) (hts : ts = ta ++ t :: tb) (ht : t.length ≤ 1000) (hv : ∀ n ∈ t, NdOk n)
    (hend : Ev (fun k => dendronref07_Same.l0 k ((ta ++ [t]).length : Int) f ts f ts) true) : ∀ (b a : List Nd), t = a ++ b →
    Ev (fun k => dendronref07_Same.l1 k (ta.length : Int) (a.length : Int) f ts f ts) true := by
  have ew := wr_at ta t (by omega)
  have e1 := gt_at [] ta t tb
  have l1 := lt_at ta t tb
  rw [← hts] at e1 l1
  intro b
  induction b with
  | nil =>
    intro a hr
    rw [List.append_nil] at hr
    subst hr
    refine Ev.succ ?_
    simp only [dendronref07_Same.l1, ew, e1]
    exact Ev.if_pos (nn0 _) (Ev.if_pos l1 (Ev.if_neg (by omega) hend))
  | cons n b ih =>
    intro a hr
    have e2 := gt_at nd0 a n b
    have l2 := lt_at a n b
    rw [← hr] at e2 l2
    have hl : t.length = a.length + (b.length + 1) := by rw [hr, List.length_append, List.length_cons]
    have hn := hv n (by rw [hr]; simp)
    have hih := ih (a ++ [n]) (by rw [hr]; simp)
    refine Ev.succ ?_
    simp only [dendronref07_Same.l1, e1, e2, wr_at a n (show a.length ≤ 1125899906842624 by omega)]
    refine Ev.if_pos (nn0 _) (Ev.if_pos l1 (Ev.if_pos l2 (Ev.if_pos (nn0 _) (Ev.if_pos l1 (Ev.if_pos l2 ?_)))))
    refine Ev.if_neg (fun h => h rfl) (Ev.if_neg (fun h => h rfl) (Ev.if_neg (fun h => h rfl) (Ev.if_neg (fun h => h rfl) (Ev.if_neg (fun h => h rfl) ?_))))
    exact Ev.bind (exact_ev n.cut hn.1) (Ev.if_pos rfl (Ev.bind (exact_ev n.val hn.2.1) (Ev.if_pos rfl (Ev.bind (exact_ev n.cov hn.2.2) (Ev.if_pos rfl hih)))))
theorem same7_l0 (f : Int) (ts : List (List Nd)) (hs : small7 ts) (hv : ∀ t ∈ ts, ∀ n ∈ t, NdOk n) : ∀ (b a : List (List Nd)), ts = a ++ b → Ev (fun k => dendronref07_Same.l0 k (a.length : Int) f ts f ts) true := by
  intro b
  induction b with
  | nil =>
    intro a hr
    rw [List.append_nil] at hr
    subst hr
    refine Ev.succ ?_
    simp only [dendronref07_Same.l0]
    exact Ev.if_neg (by omega) (Ev.now _)
  | cons t b ih =>
    intro a hr
    have l1 := lt_at a t b
    rw [← hr] at l1
    have hl : ts.length = a.length + (b.length + 1) := by rw [hr, List.length_append, List.length_cons]
    have h0 := hs.1
    have hm : t ∈ ts := by rw [hr]; simp
    have hih := ih (a ++ [t]) (by rw [hr]; simp)
    refine Ev.succ ?_
    simp only [dendronref07_Same.l0]
    exact Ev.if_pos l1 (Ev.if_pos (nn0 _) (Ev.if_pos l1 (Ev.if_neg (fun h => h rfl) (same7_l1 f ts a (by omega) t b hr (hs.2 t hm) (hv t hm) hih t [] rfl))))
theorem same7_ev (f : Int) (ts : List (List Nd)) (hs : small7 ts) (hv : ∀ t ∈ ts, ∀ n ∈ t, NdOk n) : Ev (fun k => dendronref07_Same.f k f ts f ts) true := by
  unfold dendronref07_Same.f
  exact Ev.if_neg (fun h => h rfl) (Ev.if_neg (fun h => h rfl) (same7_l0 f ts hs hv ts [] rfl))
theorem few7_small (ts : List (List Nd)) : small7 (few7 ts) := by
  unfold few7
  refine ⟨by rw [List.length_map, List.length_take]; omega, fun t ht => ?_⟩
  obtain ⟨t', ht', rfl⟩ := List.mem_map.1 ht
  unfold tree4
  rw [List.length_map, List.length_take]
  omega
theorem modelTidies_ev (f : Int) (ts : List (List Nd)) (h : ∀ t ∈ ts, ∀ n ∈ t, NdW n) : Ev (fun k => dendronlaw07_ModelTidies.f k f ts) true := by
  unfold dendronlaw07_ModelTidies.f
  obtain ⟨h1, h2⟩ := few7_ok f ts h
  refine Ev.bind (few7_ev f ts) ?_
  have hs := few7_small ts
  generalize few7 ts = xs at h1 h2 hs
  have t1 := mtidy_ev f xs hs h1
  have t2 := ltidy_ev f xs hs h1
  have hs' := tidyT_small xs hs
  have h1' := tidyT_ok xs h1
  have t3 := mtidy_ev f (tidyT xs) hs' h1'
  rw [tidyT_again] at t3
  have s := same7_ev f (tidyT xs) hs' h1'
  exact Ev.bind t1 (Ev.bind t2 (Ev.bind s (Ev.if_pos rfl (Ev.bind t3 (Ev.bind s (Ev.if_pos rfl (Ev.bind awake07_ev (Ev.now _))))))))
end Go.DI.Th
