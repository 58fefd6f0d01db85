/- What the told functions answer, part 2. No condition. -/
import Derived.Test.YtajagmmjkmmchaaGreatDoorTh1
set_option linter.all false
namespace Go.DI.Th
open Go Go.RowKit Go.DI

def pickL (s : St) (place : Int) (w : ByteArray) : List ByteArray → Nat → Int × St
  | [], _ => (0, failS s 7 place)
  | x :: l, i => if w = x then ((i : Int), s) else pickL s place w l (i + 1)
def pickS (s : St) (l : List ByteArray) : Int × St := if (wordS s).2.err ≠ 0 then (0, (wordS s).2) else pickL (wordS s).2 (placeS s) (wordS s).1 l 0
theorem pick_l0 (s : St) (place : Int) (w : ByteArray) (ws : List ByteArray) (hw : ws.length ≤ 1000) : ∀ (b a : List ByteArray), ws = a ++ b → Ev (fun k => lex_Reader_Pick.l0 k place w ws (ws.length : Int) (a.length : Int) s.ls s.i s.j s.sz s.err s.at_) ((pickL s place w b a.length).1, (pickL s place w b a.length).2.t) := by
  intro b
  induction b with
  | nil =>
    intro a hr
    rw [List.append_nil] at hr
    refine Ev.succ ?_
    simp only [lex_Reader_Pick.l0, fail_eq]
    exact Ev.if_neg (by rw [hr]; omega) (Ev.now _)
  | cons x b ih =>
    intro a hr
    have e1 := gt_at ByteArray.empty a x b
    have l1 := lt_at a x b
    rw [← hr] at e1 l1
    have hl : ws.length = a.length + (b.length + 1) := by rw [hr, List.length_append, List.length_cons]
    have hih := ih (a ++ [x]) (by rw [hr]; simp)
    refine Ev.succ ?_
    simp only [lex_Reader_Pick.l0, e1, wr_at a x (show a.length ≤ 1125899906842624 by omega)]
    refine Ev.if_pos l1 (Ev.if_pos (nn0 _) (Ev.if_pos l1 ?_))
    rw [pickL]
    by_cases h : w = x
    · rw [if_pos h]
      exact Ev.if_pos h (Ev.now _)
    · rw [if_neg h]
      rw [List.length_append, List.length_singleton] at hih ⊢
      exact Ev.if_neg h hih
theorem pick_ev (s : St) (h : s.Good) (ws : List ByteArray) (hw : ws.length ≤ 1000) : Ev (fun k => lex_Reader_Pick.f k s.ls s.i s.j s.sz s.err s.at_ ws) ((pickS s ws).1, (pickS s ws).2.t) := by
  unfold lex_Reader_Pick.f pickS
  rw [place_eq s h.ok h.l1]
  show Ev (fun k => (lex_Reader_Word.f s.ls s.i s.j s.sz s.err s.at_).bind _) _
  rw [word_eq s h.ok h.l1]
  generalize wordS s = p
  obtain ⟨v, s2⟩ := p
  show Ev (fun k => if (s2.err != 0) = true then some (0, s2.t) else lex_Reader_Pick.l0 k (placeS s) v ws (ws.length : Int) 0 s2.ls s2.i s2.j s2.sz s2.err s2.at_) _
  by_cases he : s2.err ≠ 0
  · rw [if_pos he]
    exact Ev.if_pos (by simpa using he) (Ev.now _)
  · rw [if_neg he]
    exact Ev.if_neg (by simpa using he) (pick_l0 s2 (placeS s) v ws hw ws [] rfl)
theorem pickL_good {s : St} (h : s.Good) (place : Int) (w : ByteArray) : ∀ (l : List ByteArray) (i : Nat), (pickL s place w l i).2.Good
  | [], _ => failS_good h _ _
  | x :: l, i => by
    rw [pickL]
    split
    · exact h
    · exact pickL_good h place w l (i + 1)
theorem pickS_good {s : St} (h : s.Good) (l : List ByteArray) : (pickS s l).2.Good := by
  unfold pickS
  split
  · exact wordS_good h
  · exact pickL_good (wordS_good h) _ _ _ _
def FailS (s : St) (e : Int) : St := if s.err ≠ 0 then s else if e = 0 then s else if s.ls.length ≤ s.i then s else if s.j = 0 then s else failS s e (s.line.getD (s.j - 1) w0).1
theorem Fail_eq (s : St) (h : s.Good) (e : Int) : lex_Reader_Fail.f s.ls s.i s.j s.sz s.err s.at_ e = some (FailS s e).t := by
  unfold lex_Reader_Fail.f FailS
  rw [off_eq]
  show (if (s.err != 0) = true then some s.t else if e = 0 then some s.t else if (s.i : Int) ≥ (s.ls.length : Int) then some s.t else if (s.j : Int) = 0 then some s.t else (if 0 ≤ (s.i : Int) then (if (s.i : Int) < (s.ls.length : Int) then (if 0 ≤ (wrap64 ((s.j : Int) - 1)) then (if (wrap64 ((s.j : Int) - 1)) < (s.line.length : Int) then ((lex_Reader_fail.f s.ls s.i s.j s.sz s.err s.at_ e ((gt (0, 0, ByteArray.empty) s.line (wrap64 ((s.j : Int) - 1))).1)).bind fun v45 => some v45) else none) else none) else none) else none)) = _
  by_cases he : s.err ≠ 0
  · rw [if_pos (by simpa using he), if_pos he]
  · rw [if_neg (by simpa using he), if_neg he]
    by_cases h0 : e = 0
    · rw [if_pos h0, if_pos h0]
    · rw [if_neg h0, if_neg h0]
      by_cases hi : s.ls.length ≤ s.i
      · rw [if_pos (by omega), if_pos hi]
      · rw [if_neg (by omega), if_neg hi]
        by_cases hj : s.j = 0
        · rw [if_pos (by omega), if_pos hj]
        · have hjl := h.ok.jl
          have hjb := h.ok.jb
          have q1 : (s.i : Int) < (s.ls.length : Int) := by omega
          have q2 : ((s.j - 1 : Nat) : Int) < (s.line.length : Int) := by omega
          have ew : wrap64 ((s.j : Int) - 1) = ((s.j - 1 : Nat) : Int) := by rw [wrap_id (by omega) (by omega)]; omega
          have q3 : ¬ (s.j : Int) = 0 := by clear ew; omega
          rw [if_neg q3, if_neg hj, ew, if_pos (nn0 _), if_pos q1, if_pos (nn0 _), if_pos q2, gt_nat, fail_eq]
          rfl
theorem FailS_good {s : St} (h : s.Good) (e : Int) : (FailS s e).Good := by
  unfold FailS
  split
  · exact h
  · split
    · exact h
    · split
      · exact h
      · split
        · exact h
        · exact failS_good h _ _
def numS (s : St) : Rt × St := (if prE (toL (wordS s).1) = 0 then cn (prV (toL (wordS s).1)) else (false, [], []), FailS (wordS s).2 (prE (toL (wordS s).1)))
theorem numS_good {s : St} (h : s.Good) : (numS s).2.Good := FailS_good (wordS_good h) _
theorem numS_ok (s : St) : RtOk (numS s).1 := by
  unfold numS
  dsimp only
  by_cases h : prE (toL (wordS s).1) = 0
  · rw [if_pos h]
    exact cnB (b := 1048576) _ (Nat.le_trans (prV_sz h) (by decide))
  · rw [if_neg h]
    exact ⟨fun x hx => (by cases hx), fun x hx => (by cases hx), by decide, by decide⟩
theorem mnum_ev (s : St) (h : s.Good) : Ev (fun k => model_number.f k s.ls s.i s.j s.sz s.err s.at_) ((numS s).1.1, (numS s).1.2.1, (numS s).1.2.2, (numS s).2.t) := by
  unfold model_number.f numS
  rw [word_eq s h.ok h.l1]
  have h2 := wordS_good h
  have h3 := wordS_size h
  generalize wordS s = p at h2 h3 ⊢
  obtain ⟨v, s2⟩ := p
  have h2 : s2.Good := h2
  have h3 : v.size ≤ 1048576 := h3
  have hp := rparse_ev v (by omega)
  refine Ev.bind (Ev.now (v, s2.t)) (Ev.bind hp ?_)
  show Ev (fun k => (lex_Reader_Fail.f s2.ls s2.i s2.j s2.sz s2.err s2.at_ (rR (prE (toL v)) (prV (toL v))).2.2.2).bind _) _
  rw [Fail_eq s2 h2]
  dsimp only
  unfold rR
  by_cases he : prE (toL v) = 0
  · rw [if_pos he, if_pos he]
    rw [he]
    exact Ev.bind (Ev.now _) (Ev.if_neg (fun h => h rfl) (Ev.now _))
  · rw [if_neg he, if_neg he]
    exact Ev.bind (Ev.now _) (Ev.if_pos he (Ev.now _))
def leafL : List ByteArray := [⟨#[108, 101, 97, 102]⟩, ⟨#[115, 112, 108, 105, 116]⟩]
def missL : List ByteArray := [⟨#[109, 105, 115, 115, 45, 108, 101, 102, 116]⟩, ⟨#[109, 105, 115, 115, 45, 114, 105, 103, 104, 116]⟩]
def leafS (s : St) : Nd × St := ((true, 0, false, [], [], 0, 0, false, (numS s).1.1, (numS s).1.2.1, (numS s).1.2.2, (numS (numS s).2).1.1, (numS (numS s).2).1.2.1, (numS (numS s).2).1.2.2), nextS (numS (numS s).2).2)
def sp1 (s : St) := countS s 0 64
def sp2 (s : St) := numS (sp1 s).2
def sp3 (s : St) := countS (sp2 s).2 0 255
def sp4 (s : St) := countS (sp3 s).2 0 255
def sp5 (s : St) := pickS (sp4 s).2 missL
def sp6 (s : St) := numS (sp5 s).2
def splitS (s : St) : Nd × St := ((false, (sp1 s).1, (sp2 s).1.1, (sp2 s).1.2.1, (sp2 s).1.2.2, (sp3 s).1, (sp4 s).1, ((sp5 s).1 == 0), false, [], [], (sp6 s).1.1, (sp6 s).1.2.1, (sp6 s).1.2.2), nextS (sp6 s).2)
def nodeS (s : St) : Nd × St := if (pickS s leafL).1 = 0 then leafS (pickS s leafL).2 else splitS (pickS s leafL).2
theorem split_good {s : St} (h : s.Good) : (sp1 s).2.Good ∧ (sp2 s).2.Good ∧ (sp3 s).2.Good ∧ (sp4 s).2.Good ∧ (sp5 s).2.Good ∧ (sp6 s).2.Good := by
  have h1 : (sp1 s).2.Good := countS_good h _ _
  have h2 : (sp2 s).2.Good := numS_good h1
  have h3 : (sp3 s).2.Good := countS_good h2 _ _
  have h4 : (sp4 s).2.Good := countS_good h3 _ _
  have h5 : (sp5 s).2.Good := pickS_good h4 _
  exact ⟨h1, h2, h3, h4, h5, numS_good h5⟩
theorem nodeS_good {s : St} (h : s.Good) : (nodeS s).2.Good := by
  have h1 := pickS_good h leafL
  unfold nodeS
  split
  · exact nextS_good (numS_good (numS_good h1))
  · exact nextS_good (split_good h1).2.2.2.2.2
theorem nodeS_ok (s : St) : NdOk (nodeS s).1 := by
  have z : RtOk (false, [], []) := ⟨fun x hx => (by cases hx), fun x hx => (by cases hx), by decide, by decide⟩
  unfold nodeS
  split
  · exact ⟨z, numS_ok _, numS_ok _⟩
  · exact ⟨numS_ok _, z, numS_ok _⟩
theorem mnode_ev (s : St) (h : s.Good) : Ev (fun k => model_node.f k s.ls s.i s.j s.sz s.err s.at_) ((nodeS s).1.1, (nodeS s).1.2.1, (nodeS s).1.2.2.1, (nodeS s).1.2.2.2.1, (nodeS s).1.2.2.2.2.1, (nodeS s).1.2.2.2.2.2.1, (nodeS s).1.2.2.2.2.2.2.1, (nodeS s).1.2.2.2.2.2.2.2.1, (nodeS s).1.2.2.2.2.2.2.2.2.1, (nodeS s).1.2.2.2.2.2.2.2.2.2.1, (nodeS s).1.2.2.2.2.2.2.2.2.2.2.1, (nodeS s).1.2.2.2.2.2.2.2.2.2.2.2.1, (nodeS s).1.2.2.2.2.2.2.2.2.2.2.2.2.1, (nodeS s).1.2.2.2.2.2.2.2.2.2.2.2.2.2, (nodeS s).2.t) := by
  unfold model_node.f nodeS
  have hp := pick_ev s h leafL (by decide)
  have h1 := pickS_good h leafL
  refine Ev.bind hp ?_
  generalize pickS s leafL = p at h1 ⊢
  obtain ⟨i, t⟩ := p
  have h1 : t.Good := h1
  by_cases hi : i = 0
  · rw [if_pos hi]
    have n1 := mnum_ev t h1
    have g1 := numS_good h1
    have n2 := mnum_ev _ g1
    have g2 := numS_good g1
    refine Ev.if_pos hi (Ev.bind n1 (Ev.bind n2 ?_))
    show Ev (fun k => (lex_Reader_Next.f (numS (numS t).2).2.ls (numS (numS t).2).2.i (numS (numS t).2).2.j (numS (numS t).2).2.sz (numS (numS t).2).2.err (numS (numS t).2).2.at_).bind _) _
    rw [next_eq _ g2.ok g2.l1]
    exact Ev.bind (Ev.now _) (Ev.now _)
  · rw [if_neg hi]
    obtain ⟨g1, g2, g3, g4, g5, g6⟩ := split_good h1
    have c1 := count_ev t h1 0 64
    have c2 := mnum_ev _ g1
    have c3 := count_ev _ g2 0 255
    have c4 := count_ev _ g3 0 255
    have c5 := pick_ev _ g4 missL (by decide)
    have c6 := mnum_ev _ g5
    refine Ev.if_neg hi (Ev.bind c1 (Ev.bind c2 (Ev.bind c3 (Ev.bind c4 (Ev.bind c5 (Ev.bind c6 ?_))))))
    show Ev (fun k => (lex_Reader_Next.f (sp6 t).2.ls (sp6 t).2.i (sp6 t).2.j (sp6 t).2.sz (sp6 t).2.err (sp6 t).2.at_).bind _) _
    rw [next_eq _ g6.ok g6.l1]
    exact Ev.bind (Ev.now _) (Ev.now _)
def nodesS : Nat → St → List Nd → List Nd × St
  | 0, s, acc => (acc, s)
  | m + 1, s, acc => if (nodeS s).2.err ≠ 0 then ([], (nodeS s).2) else nodesS m (nodeS s).2 (acc ++ [(nodeS s).1])
theorem nodesS_good : ∀ (m : Nat) {s : St} (acc : List Nd), s.Good → (nodesS m s acc).2.Good
  | 0, _, _, h => h
  | m + 1, s, acc, h => by
    rw [nodesS]
    split
    · exact nodeS_good h
    · exact nodesS_good m _ (nodeS_good h)
theorem nodes_l0 (N : Nat) (hN : N ≤ 255) : ∀ (m i : Nat) (s : St) (acc : List Nd), i + m = N → acc.length = i → s.Good → Ev (fun k => model_tree.l0 k acc (N : Int) (i : Int) s.ls s.i s.j s.sz s.err s.at_) ((nodesS m s acc).1, (nodesS m s acc).2.t) := by
  intro m
  induction m with
  | zero =>
    intro i s acc hi ha h
    refine Ev.succ ?_
    simp only [model_tree.l0]
    exact Ev.if_neg (by omega) (Ev.now _)
  | succ m ih =>
    intro i s acc hi ha h
    have hn := mnode_ev s h
    have hg := nodeS_good h
    refine Ev.succ ?_
    simp only [model_tree.l0, wr_succ i (show i ≤ 1125899906842624 by omega)]
    refine Ev.if_pos (by omega) (Ev.bind hn ?_)
    rw [nodesS]
    refine Ev.bind (Ev.now _) ?_
    by_cases he : (nodeS s).2.err ≠ 0
    · rw [if_pos he]
      exact Ev.if_pos he (Ev.now _)
    · rw [if_neg he]
      exact Ev.if_neg he (Ev.if_pos (by omega) (ih (i + 1) (nodeS s).2 (acc ++ [(nodeS s).1]) (by omega) (by rw [List.length_append, List.length_singleton, ha]) hg))
def tr1 (s : St) := countS (takeS s ⟨#[116, 114, 101, 101]⟩) 1 255
def treeS (s : St) : List Nd × St := nodesS (tr1 s).1.toNat (nextS (tr1 s).2) []
theorem countS_range (s : St) (lo hi : Int) (h0 : 0 ≤ lo) (h1 : 0 ≤ hi) : 0 ≤ (countS s lo hi).1 ∧ (countS s lo hi).1 ≤ hi := by
  unfold countS
  split
  · exact ⟨Int.le_refl _, h1⟩
  · split
    · split
      · exact ⟨Int.le_refl _, h1⟩
      · split
        · exact ⟨Int.le_refl _, h1⟩
        · constructor <;> (show _ ≤ _; omega)
    · exact ⟨Int.le_refl _, h1⟩
theorem treeS_good {s : St} (h : s.Good) : (treeS s).2.Good := nodesS_good _ _ (nextS_good (countS_good (takeS_good h _) _ _))
theorem mtree_ev (s : St) (h : s.Good) : Ev (fun k => model_tree.f k s.ls s.i s.j s.sz s.err s.at_) ((treeS s).1, (treeS s).2.t) := by
  unfold model_tree.f
  have g1 := takeS_good h ⟨#[116, 114, 101, 101]⟩
  have g2 : (tr1 s).2.Good := countS_good g1 _ _
  have c := count_ev _ g1 1 255
  obtain ⟨r1, r2⟩ := countS_range (takeS s ⟨#[116, 114, 101, 101]⟩) 1 255 (by decide) (by decide)
  rw [take_eq s _ h.ok h.l1]
  refine Ev.bind (Ev.now _) (Ev.bind c ?_)
  show Ev (fun k => (lex_Reader_Next.f (tr1 s).2.ls (tr1 s).2.i (tr1 s).2.j (tr1 s).2.sz (tr1 s).2.err (tr1 s).2.at_).bind _) _
  rw [next_eq _ g2.ok g2.l1]
  refine Ev.bind (Ev.now _) ?_
  have := nodes_l0 (tr1 s).1.toNat (by show (countS _ _ _).1.toNat ≤ 255; omega) (tr1 s).1.toNat 0 (nextS (tr1 s).2) [] (by omega) rfl (nextS_good g2)
  rw [Int.toNat_of_nonneg (show 0 ≤ (tr1 s).1 from r1)] at this
  exact this
def treesS : Nat → St → List (List Nd) → List (List Nd) × St
  | 0, s, acc => (acc, s)
  | m + 1, s, acc => if (treeS s).2.err ≠ 0 then (acc, (treeS s).2) else treesS m (treeS s).2 (acc ++ [(treeS s).1])
abbrev MR := Int × List (List Nd) × Int × Int × Int × Int
def fin1 (s : St) : St := endS (nextS (takeS s ⟨#[101, 110, 100]⟩))
def finS (f : Int) (ts : List (List Nd)) (s : St) : MR := if (fin1 s).err ≠ 0 then (0, [], (fin1 s).err, (fin1 s).at_, 0, 0) else (f, ts, 0, 0, 0, 0)
def hd1 (x : ByteArray) := takeS (nextS (takeS (takeS (readS x) ⟨#[100, 101, 110, 100, 114, 111, 110]⟩) ⟨#[49]⟩)) ⟨#[102, 101, 97, 116, 117, 114, 101, 115]⟩
def hd2 (x : ByteArray) := countS (hd1 x) 0 64
def hd3 (x : ByteArray) := takeS (nextS (hd2 x).2) ⟨#[116, 114, 101, 101, 115]⟩
def hd4 (x : ByteArray) := countS (hd3 x) 0 64
def readM (x : ByteArray) : MR := finS (hd2 x).1 (treesS (hd4 x).1.toNat (nextS (hd4 x).2) []).1 (treesS (hd4 x).1.toNat (nextS (hd4 x).2) []).2
theorem hd_good (x : ByteArray) : (hd1 x).Good ∧ (hd2 x).2.Good ∧ (hd3 x).Good ∧ (hd4 x).2.Good := by
  have h0 := readS_good x
  have h1 : (hd1 x).Good := takeS_good (nextS_good (takeS_good (takeS_good h0 _) _)) _
  have h2 : (hd2 x).2.Good := countS_good h1 _ _
  have h3 : (hd3 x).Good := takeS_good (nextS_good h2) _
  exact ⟨h1, h2, h3, countS_good h3 _ _⟩
end Go.DI.Th
namespace Go.DI.Th
open Go Go.RowKit Go.DI

theorem fin_ev (f : Int) (ts : List (List Nd)) (s : St) (h : s.Good) : Ev (fun _ => ((lex_Reader_Take.f s.ls s.i s.j s.sz s.err s.at_ (⟨#[101, 110, 100]⟩ : ByteArray)).bind fun v2 => ((lex_Reader_Next.f v2.1 v2.2.1 v2.2.2.1 v2.2.2.2.1 v2.2.2.2.2.1 v2.2.2.2.2.2).bind fun v4 => ((lex_Reader_End.f v4.1 v4.2.1 v4.2.2.1 v4.2.2.2.1 v4.2.2.2.2.1 v4.2.2.2.2.2).bind fun v6 => ((lex_Reader_Err.f v6.1 v6.2.1 v6.2.2.1 v6.2.2.2.1 v6.2.2.2.2.1 v6.2.2.2.2.2).bind fun v8 => (if v8.1 ≠ 0 then (some ((0 : Int), ([] : List (List Nd)), v8.1, v8.2.1, (0 : Int), (0 : Int))) else (some (f, ts, 0, 0, 0, 0)))))))) (finS f ts s) := by
  have g1 := takeS_good h ⟨#[101, 110, 100]⟩
  have g2 := nextS_good g1
  rw [take_eq s _ h.ok h.l1]
  refine Ev.bind (Ev.now _) ?_
  show Ev (fun _ => (lex_Reader_Next.f (takeS s ⟨#[101, 110, 100]⟩).ls (takeS s ⟨#[101, 110, 100]⟩).i (takeS s ⟨#[101, 110, 100]⟩).j (takeS s ⟨#[101, 110, 100]⟩).sz (takeS s ⟨#[101, 110, 100]⟩).err (takeS s ⟨#[101, 110, 100]⟩).at_).bind _) _
  rw [next_eq _ g1.ok g1.l1]
  refine Ev.bind (Ev.now _) ?_
  show Ev (fun _ => (lex_Reader_End.f (nextS (takeS s ⟨#[101, 110, 100]⟩)).ls (nextS (takeS s ⟨#[101, 110, 100]⟩)).i (nextS (takeS s ⟨#[101, 110, 100]⟩)).j (nextS (takeS s ⟨#[101, 110, 100]⟩)).sz (nextS (takeS s ⟨#[101, 110, 100]⟩)).err (nextS (takeS s ⟨#[101, 110, 100]⟩)).at_).bind _) _
  rw [end_eq _ g2.ok g2.l1]
  refine Ev.bind (Ev.now _) (Ev.bind (Ev.now _) ?_)
  unfold finS
  by_cases he : (fin1 s).err ≠ 0
  · rw [if_pos he]
    exact Ev.if_pos he (Ev.now _)
  · rw [if_neg he]
    exact Ev.if_neg he (Ev.now _)
theorem mread_l0 (f : Int) (N : Nat) (hN : N ≤ 64) (z1 z2 z3 z4 z5 : Int) : ∀ (m i : Nat) (s : St) (acc : List (List Nd)), i + m = N → acc.length = i → s.Good →
    Ev (fun k => model_Read.l0 k (N : Int) (i : Int) z1 z2 z3 z4 z5 f acc s.ls s.i s.j s.sz s.err s.at_) (finS f (treesS m s acc).1 (treesS m s acc).2) := by
  intro m
  induction m with
  | zero =>
    intro i s acc hi ha h
    refine Ev.succ ?_
    simp only [model_Read.l0]
    exact Ev.if_neg (by omega) (fin_ev f acc s h)
  | succ m ih =>
    intro i s acc hi ha h
    have hg := treeS_good h
    refine Ev.succ ?_
    simp only [model_Read.l0, wr_succ i (show i ≤ 1125899906842624 by omega)]
    refine Ev.if_pos (by omega) (Ev.bind (mtree_ev s h) (Ev.bind (Ev.now _) ?_))
    rw [treesS]
    by_cases he : (treeS s).2.err ≠ 0
    · rw [if_pos he]
      exact Ev.if_pos he (fin_ev f acc _ hg)
    · rw [if_neg he]
      exact Ev.if_neg he (Ev.if_pos (by omega) (ih (i + 1) (treeS s).2 (acc ++ [(treeS s).1]) (by omega) (by rw [List.length_append, List.length_singleton, ha]) hg))
theorem top_ev {R : MR} (x : ByteArray) (L : Nat → Int → Int → RT → Option MR)
    (hL : Ev (fun k => L k (hd4 x).1 (hd2 x).1 (nextS (hd4 x).2).t) R) :
    Ev (fun k => (lex_Read.f k x).bind fun v3 => ((lex_Reader_Take.f v3.1 v3.2.1 v3.2.2.1 v3.2.2.2.1 v3.2.2.2.2.1 v3.2.2.2.2.2 (⟨#[100, 101, 110, 100, 114, 111, 110]⟩ : ByteArray)).bind fun v9 => ((lex_Reader_Take.f v9.1 v9.2.1 v9.2.2.1 v9.2.2.2.1 v9.2.2.2.2.1 v9.2.2.2.2.2 (⟨#[49]⟩ : ByteArray)).bind fun v11 => ((lex_Reader_Next.f v11.1 v11.2.1 v11.2.2.1 v11.2.2.2.1 v11.2.2.2.2.1 v11.2.2.2.2.2).bind fun v13 => ((lex_Reader_Take.f v13.1 v13.2.1 v13.2.2.1 v13.2.2.2.1 v13.2.2.2.2.1 v13.2.2.2.2.2 (⟨#[102, 101, 97, 116, 117, 114, 101, 115]⟩ : ByteArray)).bind fun v15 => ((lex_Reader_Count.f k v15.1 v15.2.1 v15.2.2.1 v15.2.2.2.1 v15.2.2.2.2.1 v15.2.2.2.2.2 0 64).bind fun v17 => ((lex_Reader_Next.f v17.2.1 v17.2.2.1 v17.2.2.2.1 v17.2.2.2.2.1 v17.2.2.2.2.2.1 v17.2.2.2.2.2.2).bind fun v21 => ((lex_Reader_Take.f v21.1 v21.2.1 v21.2.2.1 v21.2.2.2.1 v21.2.2.2.2.1 v21.2.2.2.2.2 (⟨#[116, 114, 101, 101, 115]⟩ : ByteArray)).bind fun v23 => ((lex_Reader_Count.f k v23.1 v23.2.1 v23.2.2.1 v23.2.2.2.1 v23.2.2.2.2.1 v23.2.2.2.2.2 0 64).bind fun v25 => ((lex_Reader_Next.f v25.2.1 v25.2.2.1 v25.2.2.2.1 v25.2.2.2.2.1 v25.2.2.2.2.2.1 v25.2.2.2.2.2.2).bind fun v28 => L k v25.1 v17.1 (v28.1, v28.2.1, v28.2.2.1, v28.2.2.2.1, v28.2.2.2.2.1, v28.2.2.2.2.2))))))))))) R := by
  have g0 := readS_good x
  have g1 := takeS_good g0 ⟨#[100, 101, 110, 100, 114, 111, 110]⟩
  have g2 := takeS_good g1 ⟨#[49]⟩
  have g3 := nextS_good g2
  obtain ⟨k1, k2, k3, k4⟩ := hd_good x
  have g5 := nextS_good k2
  have c1 := count_ev _ k1 0 64
  have c2 := count_ev _ k3 0 64
  have st : ∀ (s : St) (w : ByteArray), s.Good → Ev (fun _ => lex_Reader_Take.f s.ls s.i s.j s.sz s.err s.at_ w) (takeS s w).t := fun s w h => Ev.congr (fun _ => take_eq s w h.ok h.l1) (Ev.now _)
  have sn : ∀ (s : St), s.Good → Ev (fun _ => lex_Reader_Next.f s.ls s.i s.j s.sz s.err s.at_) (nextS s).t := fun s h => Ev.congr (fun _ => next_eq s h.ok h.l1) (Ev.now _)
  exact Ev.bind (read_ev x) (Ev.bind (st _ _ g0) (Ev.bind (st _ _ g1) (Ev.bind (sn _ g2) (Ev.bind (st _ _ g3) (Ev.bind c1 (Ev.bind (sn _ k2) (Ev.bind (st _ _ g5) (Ev.bind c2 (Ev.bind (sn _ k4) hL)))))))))
theorem mread_ev (x : ByteArray) : Ev (fun k => model_Read.f k x) (readM x) := by
  unfold model_Read.f readM
  obtain ⟨k1, k2, k3, k4⟩ := hd_good x
  obtain ⟨r1, r2⟩ := countS_range (hd3 x) 0 64 (by decide) (by decide)
  refine top_ev x (fun k n f t => model_Read.l0 k n 0 0 0 0 0 0 f [] t.1 t.2.1 t.2.2.1 t.2.2.2.1 t.2.2.2.2.1 t.2.2.2.2.2) ?_
  have := mread_l0 (hd2 x).1 (hd4 x).1.toNat (by show (countS _ _ _).1.toNat ≤ 64; omega) 0 0 0 0 0 (hd4 x).1.toNat 0 (nextS (hd4 x).2) [] (by omega) rfl (nextS_good k4)
  rw [Int.toNat_of_nonneg (show 0 ≤ (hd4 x).1 from r1)] at this
  exact this
def TrOk (t : List Nd) : Prop := t.length ≤ 255 ∧ ∀ n ∈ t, NdOk n
theorem nodesS_ok : ∀ (m : Nat) (s : St) (acc : List Nd), acc.length + m ≤ 255 → (∀ n ∈ acc, NdOk n) → TrOk (nodesS m s acc).1
  | 0, _, acc, h, ha => ⟨by rw [nodesS]; exact h, ha⟩
  | m + 1, s, acc, h, ha => by
    rw [nodesS]
    split
    · exact ⟨Nat.zero_le _, fun n hn => (by cases hn)⟩
    · refine nodesS_ok m _ _ (by rw [List.length_append, List.length_singleton]; omega) fun n hn => ?_
      rcases List.mem_append.1 hn with h1 | h1
      · exact ha n h1
      · rw [List.mem_singleton.1 h1]; exact nodeS_ok s
theorem treeS_ok (s : St) : TrOk (treeS s).1 := by
  obtain ⟨r1, r2⟩ := countS_range (takeS s ⟨#[116, 114, 101, 101]⟩) 1 255 (by decide) (by decide)
  refine nodesS_ok _ _ _ ?_ fun n hn => (by cases hn)
  show 0 + (countS _ _ _).1.toNat ≤ 255
  omega
theorem treesS_ok : ∀ (m : Nat) (s : St) (acc : List (List Nd)), acc.length + m ≤ 64 → (∀ t ∈ acc, TrOk t) → (treesS m s acc).1.length ≤ 64 ∧ ∀ t ∈ (treesS m s acc).1, TrOk t
  | 0, _, acc, h, ha => ⟨by rw [treesS]; exact h, ha⟩
  | m + 1, s, acc, h, ha => by
    rw [treesS]
    split
    · exact ⟨by show acc.length ≤ 64; omega, ha⟩
    · refine treesS_ok m _ _ (by rw [List.length_append, List.length_singleton]; omega) fun t ht => ?_
      rcases List.mem_append.1 ht with h1 | h1
      · exact ha t h1
      · rw [List.mem_singleton.1 h1]; exact treeS_ok s
theorem readM_ok (x : ByteArray) : small7 (readM x).2.1 ∧ ∀ t ∈ (readM x).2.1, ∀ n ∈ t, NdOk n := by
  obtain ⟨r1, r2⟩ := countS_range (hd3 x) 0 64 (by decide) (by decide)
  have h := treesS_ok (hd4 x).1.toNat (nextS (hd4 x).2) [] (by show 0 + (countS _ _ _).1.toNat ≤ 64; omega) fun t ht => (by cases ht)
  unfold readM finS
  split
  · exact ⟨⟨Nat.zero_le _, fun t ht => (by cases ht)⟩, fun t ht => (by cases ht)⟩
  · exact ⟨⟨Nat.le_trans h.1 (by decide), fun t ht => Nat.le_trans (h.2 t ht).1 (by decide)⟩, fun t ht => (h.2 t ht).2⟩
end Go.DI.Th
namespace Go.DI.Th
open Go Go.RowKit Go.DI

def first (bad : Nat → Bool) : Nat → Nat → Option Nat
  | 0, _ => none
  | m + 1, i => if bad i = true then some i else first bad m (i + 1)
theorem first_none {p : Nat → Bool} : ∀ (m i : Nat), first p m i = none → ∀ j, i ≤ j → j < i + m → p j = false
  | 0, _, _, j, h1, h2 => by omega
  | m + 1, i, h, j, h1, h2 => by
    rw [first] at h
    by_cases hp : p i = true
    · rw [if_pos hp] at h; cases h
    · rw [if_neg hp] at h
      by_cases hj : j = i
      · subst hj; simpa using hp
      · exact first_none m (i + 1) h j (by omega) (by omega)
def nd (t : List Nd) (i : Nat) : Nd := gt nd0 t (i : Int)
theorem gt_nd (t : List Nd) (i : Nat) : gt nd0 t (i : Int) = nd t i := rfl
theorem nd_mem (t : List Nd) (i : Nat) (h : i < t.length) : nd t i ∈ t := by
  unfold nd gt
  rw [Int.toNat_natCast, List.getD_eq_getElem?_getD, List.getElem?_eq_getElem h]
  exact List.getElem_mem h
def okR (f : Int) (L : Nat) (n : Nd) : Prop := n.1 = true ∨ (n.2.1 < f ∧ 1 ≤ n.2.2.2.2.2.1 ∧ n.2.2.2.2.2.1 < L ∧ 1 ≤ n.2.2.2.2.2.2.1 ∧ n.2.2.2.2.2.2.1 < L)
instance (f : Int) (L : Nat) (n : Nd) : Decidable (okR f L n) := by unfold okR; infer_instance
def cc (n : Nd) (a : Nat) : Nat := if n.1 = true then 0 else (if n.2.2.2.2.2.1 = (a : Int) then 1 else 0) + (if n.2.2.2.2.2.2.1 = (a : Int) then 1 else 0)
def cu (t : List Nd) : Nat → Nat → Nat
  | 0, _ => 0
  | j + 1, a => cu t j a + cc (nd t j) a
theorem cc_le (n : Nd) (a : Nat) : cc n a ≤ 2 := by
  unfold cc
  split
  · omega
  · split <;> split <;> omega
theorem cu_le (t : List Nd) : ∀ j a, cu t j a ≤ 2 * j
  | 0, _ => Nat.le_refl _
  | j + 1, a => by
    have := cu_le t j a
    have := cc_le (nd t j) a
    rw [cu]; omega
theorem cc_cu (t : List Nd) (a m : Nat) : ∀ j, m < j → cc (nd t m) a ≤ cu t j a
  | 0, h => by omega
  | j + 1, h => by
    rw [cu]
    by_cases e : m = j
    · subst e; omega
    · have := cc_cu t a m j (by omega); omega
theorem cc_two (t : List Nd) (a m n : Nat) (h : m < n) : ∀ j, n < j → cc (nd t m) a + cc (nd t n) a ≤ cu t j a
  | 0, h => by omega
  | j + 1, h' => by
    rw [cu]
    by_cases e : n = j
    · subst e
      have := cc_cu t a m n h
      omega
    · have := cc_two t a m n h j (by omega)
      omega
def ch (t : List Nd) (p a : Nat) : Prop := (nd t p).1 ≠ true ∧ ((nd t p).2.2.2.2.2.1 = (a : Int) ∨ (nd t p).2.2.2.2.2.2.1 = (a : Int))
instance (t : List Nd) (p a : Nat) : Decidable (ch t p a) := by unfold ch; infer_instance
theorem ch_cc {t : List Nd} {p a : Nat} (h : ch t p a) : 1 ≤ cc (nd t p) a := by
  unfold cc
  rw [if_neg h.1]
  rcases h.2 with e | e
  · rw [if_pos e]; omega
  · rw [if_pos e]; omega
theorem ch_unique {t : List Nd} {p q a : Nat} (hc : cu t t.length a = 1) (hp : p < t.length) (hq : q < t.length) (h : ch t p a) (h' : ch t q a) : p = q := by
  have h1 := ch_cc h
  have h2 := ch_cc h'
  rcases Nat.lt_trichotomy p q with e | e | e
  · have := cc_two t a p q e t.length hq; omega
  · exact e
  · have := cc_two t a q p e t.length hp; omega
def upTo (t : List Nd) (a : Nat) : Nat → Int
  | 0 => -1
  | j + 1 => if ch t j a then (j : Int) else upTo t a j
theorem upTo_none {t : List Nd} {a : Nat} : ∀ {j : Nat}, upTo t a j < 0 → ∀ p, p < j → ¬ ch t p a
  | 0, _, p, h => by omega
  | j + 1, h, p, hp => by
    rw [upTo] at h
    by_cases hc : ch t j a
    · rw [if_pos hc] at h; omega
    · rw [if_neg hc] at h
      by_cases e : p = j
      · subst e; exact hc
      · exact upTo_none h p (by omega)
theorem upTo_some {t : List Nd} {a : Nat} : ∀ {j : Nat}, ¬ upTo t a j < 0 → ∃ p : Nat, upTo t a j = (p : Int) ∧ p < j ∧ ch t p a
  | 0, h => by rw [upTo] at h; omega
  | j + 1, h => by
    rw [upTo] at h ⊢
    by_cases hc : ch t j a
    · rw [if_pos hc]; exact ⟨j, rfl, by omega, hc⟩
    · rw [if_neg hc] at h ⊢
      obtain ⟨p, h1, h2, h3⟩ := upTo_some h
      exact ⟨p, h1, by omega, h3⟩
def climb (t : List Nd) : Nat → Nat → Bool
  | 0, _ => false
  | k + 1, a => if a = 0 then true else if upTo t a t.length < 0 then false else climb t k (upTo t a t.length).toNat
theorem climb_mono (t : List Nd) : ∀ k a, climb t k a = true → climb t (k + 1) a = true
  | 0, _, h => by cases h
  | k + 1, a, h => by
    rw [climb] at h ⊢
    by_cases h0 : a = 0
    · rw [if_pos h0]
    · rw [if_neg h0] at h ⊢
      by_cases h1 : upTo t a t.length < 0
      · rw [if_pos h1] at h; cases h
      · rw [if_neg h1] at h ⊢
        exact climb_mono t k _ h
theorem climb_le (t : List Nd) {k m : Nat} (h : k ≤ m) (a : Nat) (hc : climb t k a = true) : climb t m a = true := by
  induction h with
  | refl => exact hc
  | step _ ih => exact climb_mono t _ a ih
theorem climb_child {t : List Nd} {p a k : Nat} (hcu : cu t t.length a = 1) (hp : p < t.length) (h : ch t p a) (ha : a ≠ 0) (hc : climb t k p = true) : climb t (k + 1) a = true := by
  rw [climb, if_neg ha]
  have h1 : ¬ upTo t a t.length < 0 := fun e => upTo_none e p hp h
  obtain ⟨q, e1, e2, e3⟩ := upTo_some h1
  have : q = p := ch_unique hcu e2 hp e3 h
  subst this
  rw [if_neg h1, e1, Int.toNat_natCast]
  exact hc
theorem nodup_len : ∀ (n : Nat) (l : List Nat), l.Nodup → (∀ x ∈ l, x < n) → l.length ≤ n
  | 0, l, _, h => by
    cases l with
    | nil => exact Nat.le_refl _
    | cons x l => exact absurd (h x List.mem_cons_self) (by omega)
  | n + 1, l, hn, h => by
    by_cases hm : n ∈ l
    · have h1 := nodup_len n (l.erase n) (hn.erase n) fun x hx => by
        have hx' := (List.Nodup.mem_erase_iff hn).1 hx
        have := h x hx'.2
        have := hx'.1
        omega
      rw [List.length_erase_of_mem hm] at h1
      omega
    · have h1 := nodup_len n l hn fun x hx => by
        have := h x hx
        have : x ≠ n := fun e => hm (e ▸ hx)
        omega
      omega
structure Once (f : Int) (t : List Nd) : Prop where
  rng : ∀ i, i < t.length → okR f t.length (nd t i)
  one : ∀ i, 0 < i → i < t.length → cu t t.length i = 1
structure Walk (t : List Nd) (P S : List Nat) : Prop where
  nodup : (P ++ S).Nodup
  lt : ∀ x ∈ P ++ S, x < t.length
  zero : 0 ∈ P ++ S
  par : ∀ x ∈ P ++ S, x = 0 ∨ ∃ p ∈ P, ch t p x
  kid : ∀ p ∈ P, ∀ x, ch t p x → x ∈ P ++ S
  up : ∀ x ∈ P ++ S, climb t (P.length + 1) x = true
theorem Walk.start (t : List Nd) (h : 0 < t.length) : Walk t [] [0] where
  nodup := by simp
  lt := fun x hx => by
    have : x = 0 := by simpa using hx
    omega
  zero := by simp
  par := fun x hx => Or.inl (by simpa using hx)
  kid := fun p hp => by cases hp
  up := fun x hx => by
    have : x = 0 := by simpa using hx
    subst this
    rfl
theorem perm_pop (P S : List Nat) (a : Nat) : (P ++ (S ++ [a])).Perm (a :: P ++ S) := by
  rw [← List.append_assoc]
  exact (List.perm_append_comm (l₁ := P ++ S) (l₂ := [a]))
theorem Walk.leaf {t : List Nd} {P S : List Nat} {a : Nat} (w : Walk t P (S ++ [a])) (h : (nd t a).1 = true) : Walk t (a :: P) S := by
  have pm := perm_pop P S a
  have mm : ∀ x, x ∈ a :: P ++ S ↔ x ∈ P ++ (S ++ [a]) := fun x => (pm.mem_iff (a := x)).symm
  exact {
    nodup := pm.nodup_iff.1 w.nodup
    lt := fun x hx => w.lt x ((mm x).1 hx)
    zero := (mm 0).2 w.zero
    par := fun x hx => by
      rcases w.par x ((mm x).1 hx) with e | ⟨p, hp, hc⟩
      · exact Or.inl e
      · exact Or.inr ⟨p, List.mem_cons_of_mem _ hp, hc⟩
    kid := fun p hp x hc => by
      rcases List.mem_cons.1 hp with rfl | hp
      · exact absurd h hc.1
      · exact (mm x).2 (w.kid p hp x hc)
    up := fun x hx => climb_mono t _ x (w.up x ((mm x).1 hx)) }
theorem Walk.split {f : Int} {t : List Nd} {P S : List Nat} {a l r : Nat} (o : Once f t) (w : Walk t P (S ++ [a])) (h : (nd t a).1 ≠ true) (hl : (nd t a).2.2.2.2.2.1 = (l : Int)) (hr : (nd t a).2.2.2.2.2.2.1 = (r : Int)) : Walk t (a :: P) (S ++ [l, r]) := by
  have pm := perm_pop P S a
  have mm : ∀ x, x ∈ a :: P ++ S ↔ x ∈ P ++ (S ++ [a]) := fun x => (pm.mem_iff (a := x)).symm
  have hal : a < t.length := w.lt a (by simp)
  have hn : (a :: P ++ S).Nodup := pm.nodup_iff.1 w.nodup
  have haP : a ∉ P := fun hm => by
    rw [List.cons_append, List.nodup_cons] at hn
    exact hn.1 (List.mem_append_left _ hm)
  have hok : (nd t a).2.1 < f ∧ 1 ≤ (nd t a).2.2.2.2.2.1 ∧ (nd t a).2.2.2.2.2.1 < t.length ∧ 1 ≤ (nd t a).2.2.2.2.2.2.1 ∧ (nd t a).2.2.2.2.2.2.1 < t.length := (o.rng a hal).resolve_left h
  rw [hl, hr] at hok
  have cl : ch t a l := ⟨h, Or.inl hl⟩
  have cr : ch t a r := ⟨h, Or.inr hr⟩
  have new : ∀ x, ch t a x → 0 < x → x < t.length → x ∉ a :: P ++ S := fun x hc h0 hx hm => by
    rcases w.par x ((mm x).1 hm) with e | ⟨p, hp, hc'⟩
    · omega
    · have hpl := w.lt p (List.mem_append_left _ hp)
      have := ch_unique (o.one x h0 hx) hpl hal hc' hc
      exact haP (this ▸ hp)
  have nl := new l cl (by omega) (by omega)
  have nr := new r cr (by omega) (by omega)
  have hne : l ≠ r := fun e => by
    have h1 := o.one l (by omega) (by omega)
    have h2 := cc_cu t l a t.length hal
    unfold cc at h2
    rw [if_neg h, if_pos hl, if_pos (by rw [hr, e])] at h2
    omega
  have mm2 : ∀ x, x ∈ a :: P ++ (S ++ [l, r]) ↔ (x ∈ P ++ (S ++ [a]) ∨ x = l ∨ x = r) := fun x => by
    rw [← mm x, ← List.append_assoc, List.mem_append (s := a :: P ++ S)]
    simp
  exact {
    nodup := by
      rw [← List.append_assoc]
      refine List.nodup_append.2 ⟨hn, by simp [hne], ?_⟩
      intro x hx y hy e
      subst e
      rcases List.mem_cons.1 hy with rfl | hy
      · exact nl hx
      · have : x = r := by simpa using hy
        subst this
        exact nr hx
    lt := fun x hx => by
      rcases (mm2 x).1 hx with h1 | rfl | rfl
      · exact w.lt x h1
      · omega
      · omega
    zero := (mm2 0).2 (Or.inl w.zero)
    par := fun x hx => by
      rcases (mm2 x).1 hx with h1 | rfl | rfl
      · rcases w.par x h1 with e | ⟨p, hp, hc⟩
        · exact Or.inl e
        · exact Or.inr ⟨p, List.mem_cons_of_mem _ hp, hc⟩
      · exact Or.inr ⟨a, List.mem_cons_self, cl⟩
      · exact Or.inr ⟨a, List.mem_cons_self, cr⟩
    kid := fun p hp x hc => by
      refine (mm2 x).2 ?_
      rcases List.mem_cons.1 hp with rfl | hp
      · rcases hc.2 with e | e
        · rw [hl] at e
          exact Or.inr (Or.inl (by omega))
        · rw [hr] at e
          exact Or.inr (Or.inr (by omega))
      · exact Or.inl (w.kid p hp x hc)
    up := fun x hx => by
      have ha : climb t (P.length + 1) a = true := w.up a (by simp)
      show climb t (P.length + 1 + 1) x = true
      rcases (mm2 x).1 hx with h1 | rfl | rfl
      · exact climb_mono t _ x (w.up x h1)
      · exact climb_child (o.one x (by omega) (by omega)) hal cl (by omega) ha
      · exact climb_child (o.one x (by omega) (by omega)) hal cr (by omega) ha }
theorem Walk.size {t : List Nd} {P S : List Nat} (w : Walk t P S) : P.length + S.length ≤ t.length := by
  have := nodup_len t.length (P ++ S) w.nodup w.lt
  rwa [List.length_append] at this
theorem Walk.done {t : List Nd} {P : List Nat} (w : Walk t P []) (i : Nat) (hi : i < t.length) : i ∈ P ↔ climb t (t.length + 1) i = true := by
  have e : P ++ [] = P := List.append_nil P
  constructor
  · intro h
    have hs := w.size
    exact climb_le t (k := P.length + 1) (by simp at hs; omega) i (w.up i (by rw [e]; exact h))
  · have key : ∀ k a, climb t k a = true → a ∈ P := by
      intro k
      induction k with
      | zero => intro a h; cases h
      | succ k ih =>
        intro a h
        rw [climb] at h
        by_cases h0 : a = 0
        · subst h0
          have := w.zero
          rwa [e] at this
        · rw [if_neg h0] at h
          by_cases h1 : upTo t a t.length < 0
          · rw [if_pos h1] at h; cases h
          · rw [if_neg h1] at h
            obtain ⟨p, e1, e2, e3⟩ := upTo_some h1
            rw [e1, Int.toNat_natCast] at h
            have := w.kid p (ih p h) a e3
            rwa [e] at this
    exact key _ i
end Go.DI.Th
namespace Go.DI.Th
open Go Go.RowKit Go.DI

theorem first_hit {bad : Nat → Bool} {m i : Nat} (h : bad i = true) : first bad (m + 1) i = some i := by rw [first, if_pos h]
theorem first_skip {bad : Nat → Bool} {m i : Nat} (h : bad i = false) : first bad (m + 1) i = first bad m (i + 1) := by rw [first, if_neg (by simp [h])]
def ans (e z : Int) : Option Nat → Int × Int
  | some i => ((i : Int), e)
  | none => (z, 0)
theorem Ev.cut {α : Type} {c P : Prop} [Decidable c] {r1 r : α} {f : Nat → Option α} (hP : c → P) (hr : P → r = r1) (h : ¬ c → Ev f r) : Ev (fun n => if c then some r1 else f n) r := by
  by_cases h1 : c
  · rw [hr (hP h1)]
    exact Ev.if_pos h1 (Ev.now _)
  · exact Ev.if_neg h1 (h h1)
def bad0 (f : Int) (t : List Nd) (i : Nat) : Bool := decide (¬ okR f t.length (nd t i))
def bad1 (t : List Nd) (i : Nat) : Bool := decide (0 < i ∧ cu t t.length i ≠ 1)
def bad2 (t : List Nd) (i : Nat) : Bool := !(climb t (t.length + 1) i)
def bad3 (t : List Nd) (i : Nat) : Bool := decide (sgn (rv (nd t i).cov).num ≤ 0)
def bad4 (t : List Nd) (i : Nat) : Bool := decide ((nd t i).1 ≠ true ∧ rv (nd t i).cov ≠ rv (nd t (nd t i).2.2.2.2.2.1.toNat).cov + rv (nd t (nd t i).2.2.2.2.2.2.1.toNat).cov)
theorem ranges_loop (t : List Nd) (f : Int) (ht : t.length ≤ 255) (hp : ∀ n ∈ t, okN n) : ∀ d i : Nat, i + d = t.length → Ev (fun k => valid_ranges.l0 k t f t (t.length : Int) (i : Int)) (ans 8 0 (first (bad0 f t) d i)) := by
  intro d
  induction d with
  | zero =>
    intro i hi
    refine Ev.succ ?_
    simp only [valid_ranges.l0]
    exact Ev.if_neg (by omega) (Ev.now _)
  | succ d ih =>
    intro i hi
    have hn := hp _ (nd_mem t i (by omega))
    have hih := ih (i + 1) (by omega)
    have e1 : ¬ okR f t.length (nd t i) → ans 8 0 (first (bad0 f t) (d + 1) i) = ((i : Int), 8) := fun h => by rw [first_hit (decide_eq_true h)]; rfl
    have e2 : okR f t.length (nd t i) → first (bad0 f t) d (i + 1) = first (bad0 f t) (d + 1) i := fun h => (first_skip (decide_eq_false (fun h' => h' h))).symm
    refine Ev.succ ?_
    simp only [valid_ranges.l0, gt_nd, wr_succ i (show i ≤ 1125899906842624 by omega)]
    refine Ev.if_pos (by omega) (Ev.if_pos (nn0 _) (Ev.if_pos (by omega) ?_))
    by_cases hb : (nd t i).1 = true
    · exact Ev.if_pos hb (hih.of_eq (by rw [e2 (Or.inl hb)]))
    · refine Ev.if_neg hb ?_
      have no : ∀ {c : Prop}, (c → ¬ ((nd t i).2.1 < f ∧ 1 ≤ (nd t i).2.2.2.2.2.1 ∧ (nd t i).2.2.2.2.2.1 < t.length ∧ 1 ≤ (nd t i).2.2.2.2.2.2.1 ∧ (nd t i).2.2.2.2.2.2.1 < t.length)) → c → ¬ okR f t.length (nd t i) := fun h hc ho => h hc (ho.resolve_left hb)
      refine Ev.if_neg (by have := hn.1; omega) ?_
      refine Ev.cut (no fun h => by omega) e1 fun g1 => ?_
      refine Ev.cut (no fun h => by omega) e1 fun g2 => ?_
      refine Ev.cut (no fun h => by omega) e1 fun g3 => ?_
      refine Ev.cut (no fun h => by omega) e1 fun g4 => ?_
      refine Ev.cut (no fun h => by omega) e1 fun g5 => ?_
      exact hih.of_eq (by rw [e2 (Or.inr ⟨by omega, by omega, by omega, by omega, by omega⟩)])
def A0 (f : Int) (t : List Nd) : Option Nat := first (bad0 f t) t.length 0
theorem ranges_ev (t : List Nd) (f : Int) (ht : t.length ≤ 255) (hp : ∀ n ∈ t, okN n) : Ev (fun k => valid_ranges.f k t f) (ans 8 0 (A0 f t)) := ranges_loop t f ht hp t.length 0 (by omega)
theorem A0_rng {f : Int} {t : List Nd} (h : A0 f t = none) : ∀ i, i < t.length → okR f t.length (nd t i) := fun i hi => by
  have := first_none t.length 0 h i (by omega) (by omega)
  unfold bad0 at this
  exact Classical.byContradiction (of_decide_eq_false this)
theorem rd_set (l : List Int) (a i : Nat) (v : Int) (h : a < l.length) : rd (l.set a v) (i : Int) = if i = a then v else rd l (i : Int) := by
  unfold rd
  rw [Int.toNat_natCast, List.getD_eq_getElem?_getD, List.getD_eq_getElem?_getD, List.getElem?_set]
  by_cases e : i = a
  · subst e
    rw [if_pos rfl, if_pos rfl, if_pos h]
    rfl
  · rw [if_neg (fun h => e h.symm), if_neg e]
def CuOk (t : List Nd) (j : Nat) (x : List Int) : Prop := x.length = t.length ∧ ∀ i, i < t.length → rd x (i : Int) = (cu t j i : Int)
theorem CuOk.start (t : List Nd) : CuOk t 0 (List.replicate t.length 0) := by
  refine ⟨List.length_replicate, fun i hi => ?_⟩
  unfold rd
  rw [Int.toNat_natCast, List.getD_eq_getElem?_getD, List.getElem?_replicate, if_pos hi]
  rfl
theorem CuOk.leaf {t : List Nd} {j : Nat} {x : List Int} (h : CuOk t j x) (hl : (nd t j).1 = true) : CuOk t (j + 1) x := by
  refine ⟨h.1, fun i hi => ?_⟩
  rw [h.2 i hi, cu]
  unfold cc
  rw [if_pos hl]
  rfl
theorem CuOk.split {t : List Nd} {j l r : Nat} {x : List Int} (h : CuOk t j x) (hb : (nd t j).1 ≠ true) (hl : (nd t j).2.2.2.2.2.1 = (l : Int)) (hr : (nd t j).2.2.2.2.2.2.1 = (r : Int)) (hln : l < t.length) (hrn : r < t.length) (hj : j ≤ 1000) :
    CuOk t (j + 1) ((x.set l (wrap64 (rd x (l : Int) + 1))).set r (wrap64 (rd (x.set l (wrap64 (rd x (l : Int) + 1))) (r : Int) + 1))) := by
  refine ⟨by rw [List.length_set, List.length_set]; exact h.1, fun i hi => ?_⟩
  have b1 := cu_le t j l
  have b2 := cu_le t j r
  have h1 := h.1
  have w : ∀ a : Nat, a < t.length → rd (x.set l (wrap64 (rd x (l : Int) + 1))) (a : Int) = ((cu t j a + (if l = a then 1 else 0) : Nat) : Int) := fun a ha => by
    rw [rd_set x l a _ (by omega), h.2 l hln]
    by_cases e : a = l
    · subst e
      rw [if_pos rfl, if_pos rfl, wrap_id (by omega) (by omega)]
      omega
    · rw [if_neg e, if_neg (fun h => e h.symm), h.2 a ha]
      rfl
  rw [rd_set _ r i _ (by rw [List.length_set]; omega), w r hrn, w i hi, cu]
  unfold cc
  rw [if_neg hb, hl, hr]
  by_cases e : i = r
  · subst e
    rw [if_pos rfl, wrap_id (by split <;> omega) (by split <;> omega), if_pos rfl]
    by_cases e2 : l = i
    · subst e2
      rw [if_pos rfl, if_pos rfl]
      omega
    · rw [if_neg e2, if_neg (fun h => e2 (by omega))]
      omega
  · rw [if_neg e, if_neg (show ¬ ((r : Int) = (i : Int)) from fun h => e (by omega))]
    by_cases e2 : l = i
    · subst e2
      rw [if_pos rfl, if_pos rfl]
    · rw [if_neg e2, if_neg (show ¬ ((l : Int) = (i : Int)) from fun h => e2 (by omega))]
theorem kids {f : Int} {t : List Nd} {i : Nat} (h : okR f t.length (nd t i)) (hb : (nd t i).1 ≠ true) : ∃ l r : Nat, (nd t i).2.2.2.2.2.1 = (l : Int) ∧ (nd t i).2.2.2.2.2.2.1 = (r : Int) ∧ 1 ≤ l ∧ l < t.length ∧ 1 ≤ r ∧ r < t.length := by
  have h' := h.resolve_left hb
  exact ⟨(nd t i).2.2.2.2.2.1.toNat, (nd t i).2.2.2.2.2.2.1.toNat, by omega, by omega, by omega, by omega, by omega, by omega⟩
theorem shape_l0 (f : Int) (t : List Nd) (ht : t.length ≤ 255) (hr : ∀ i, i < t.length → okR f t.length (nd t i)) (R : Int × Int) (hend : ∀ x, CuOk t t.length x → Ev (fun k => valid_shape.l1 k t x (x.length : Int) 0) R) : ∀ (d j : Nat) (x : List Int), j + d = t.length → CuOk t j x →
    Ev (fun k => valid_shape.l0 k t x t (t.length : Int) (j : Int)) R := by
  intro d
  induction d with
  | zero =>
    intro j x hj hx
    obtain rfl : j = t.length := by omega
    refine Ev.succ ?_
    simp only [valid_shape.l0]
    exact Ev.if_neg (by omega) (hend x hx)
  | succ d ih =>
    intro j x hj hx
    refine Ev.succ ?_
    simp only [valid_shape.l0, gt_nd, wr_succ j (show j ≤ 1125899906842624 by omega), List.length_set]
    refine Ev.if_pos (by omega) (Ev.if_pos (nn0 _) (Ev.if_pos (by omega) ?_))
    by_cases hb : (nd t j).1 = true
    · exact Ev.if_pos hb (ih (j + 1) x (by omega) (hx.leaf hb))
    · refine Ev.if_neg hb ?_
      obtain ⟨l, r, hl, hr', l1, l2, r1, r2⟩ := kids (hr j (by omega)) hb
      have hih := ih (j + 1) _ (by omega) (hx.split hb hl hr' l2 r2 (by omega))
      have hx1 := hx.1
      have hl' : (nd t j).2.2.2.2.2.1 = (l : Int) := hl
      have hr'' : (nd t j).2.2.2.2.2.2.1 = (r : Int) := hr'
      rw [hl', hr'', Int.toNat_natCast, Int.toNat_natCast]
      exact Ev.if_pos (nn0 _) (Ev.if_pos (by omega) (Ev.if_pos (nn0 _) (Ev.if_pos (by omega) hih)))
theorem getD_set (l : List Bool) (a i : Nat) (v : Bool) (h : a < l.length) : (l.set a v).getD i false = if i = a then v else l.getD i false := by
  rw [List.getD_eq_getElem?_getD, List.getD_eq_getElem?_getD, List.getElem?_set]
  by_cases e : i = a
  · subst e
    rw [if_pos rfl, if_pos rfl, if_pos h]
    rfl
  · rw [if_neg (fun h => e h.symm), if_neg e]
def SeenOk (t : List Nd) (P : List Nat) (x : List Bool) : Prop := x.length = t.length ∧ ∀ i, i < t.length → x.getD i false = decide (i ∈ P)
theorem SeenOk.start (t : List Nd) : SeenOk t [] (List.replicate t.length false) := by
  refine ⟨List.length_replicate, fun i hi => ?_⟩
  rw [List.getD_eq_getElem?_getD, List.getElem?_replicate, if_pos hi]
  simp
theorem SeenOk.add {t : List Nd} {P : List Nat} {x : List Bool} (h : SeenOk t P x) {a : Nat} (ha : a < t.length) : SeenOk t (a :: P) (x.set a true) := by
  refine ⟨by rw [List.length_set]; exact h.1, fun i hi => ?_⟩
  have h1 := h.1
  rw [getD_set x a i _ (by omega), h.2 i hi]
  by_cases e : i = a
  · subst e
    rw [if_pos rfl]
    simp
  · rw [if_neg e]
    simp [e]
theorem shape_l3 (t : List Nd) (ht : t.length ≤ 255) (x : List Bool) (hx : x.length = t.length) (hs : ∀ i, i < t.length → x.getD i false = !(bad2 t i)) : ∀ d i : Nat, i + d = t.length → Ev (fun k => valid_shape.l3 k x (x.length : Int) (i : Int)) (ans 11 0 (first (bad2 t) d i)) := by
  intro d
  induction d with
  | zero =>
    intro i hi
    refine Ev.succ ?_
    simp only [valid_shape.l3]
    exact Ev.if_neg (by omega) (Ev.now _)
  | succ d ih =>
    intro i hi
    have hih := ih (i + 1) (by omega)
    have h1 := hs i (by omega)
    refine Ev.succ ?_
    simp only [valid_shape.l3, wr_succ i (show i ≤ 1125899906842624 by omega), Int.toNat_natCast, h1]
    refine Ev.if_pos (by omega) (Ev.if_pos (nn0 _) (Ev.if_pos (by omega) ?_))
    by_cases hb : bad2 t i = true
    · rw [first_hit hb]
      exact Ev.if_neg (by simp [hb]) (Ev.now _)
    · have hb' : bad2 t i = false := by simpa using hb
      rw [first_skip hb']
      exact Ev.if_pos (by simp [hb']) hih
def cI (x : Nat) : Int := (x : Int)
theorem shape_l2 (f : Int) (t : List Nd) (ht : t.length ≤ 255) (o : Once f t) : ∀ (m : Nat) (P S : List Nat) (x : List Bool), Walk t P S → SeenOk t P x → t.length ≤ P.length + m →
    Ev (fun k => valid_shape.l2 k t x (S.map cI)) (ans 11 0 (first (bad2 t) t.length 0)) := by
  intro m
  induction m with
  | zero =>
    intro P S x w hx hm
    have hs := w.size
    obtain rfl : S = [] := List.length_eq_zero_iff.1 (by omega)
    refine Ev.succ ?_
    simp only [valid_shape.l2, List.map_nil, List.length_nil]
    refine Ev.if_neg (by decide) (shape_l3 t ht x hx.1 (fun i hi => ?_) t.length 0 (by omega))
    rw [hx.2 i hi]
    unfold bad2
    rw [Bool.not_not, Bool.eq_iff_iff, decide_eq_true_iff]
    exact w.done i hi
  | succ m ih =>
    intro P S x w hx hm
    rcases List.eq_nil_or_concat S with rfl | ⟨S, a, rfl⟩
    · refine Ev.succ ?_
      simp only [valid_shape.l2, List.map_nil, List.length_nil]
      refine Ev.if_neg (by decide) (shape_l3 t ht x hx.1 (fun i hi => ?_) t.length 0 (by omega))
      rw [hx.2 i hi]
      unfold bad2
      rw [Bool.not_not, Bool.eq_iff_iff, decide_eq_true_iff]
      exact w.done i hi
    · rw [List.concat_eq_append] at w ⊢
      have hs := w.size
      rw [List.length_append, List.length_singleton] at hs
      have ha : a < t.length := w.lt a (by simp)
      have hx1 := hx.1
      have hA : (S.map cI).length = S.length := List.length_map _
      have ew : wrap64 ((((S.map cI).length + 1 : Nat) : Int) - 1) = ((S.map cI).length : Int) := by
        rw [wrap_id (by omega) (by omega)]
        omega
      have er : rd (S.map cI ++ [(a : Int)]) ((S.map cI).length : Int) = (a : Int) := rd_at _ _ []
      have et : (S.map cI ++ [(a : Int)]).take (S.map cI).length = S.map cI := List.take_left
      have el : (S.map cI ++ [(a : Int)]).length = (S.map cI).length + 1 := by rw [List.length_append, List.length_singleton]
      have em : (S ++ [a]).map cI = S.map cI ++ [(a : Int)] := by rw [List.map_append]; rfl
      rw [em]
      refine Ev.succ ?_
      simp only [valid_shape.l2, ew, er, gt_nd, Int.toNat_natCast, et, el]
      refine Ev.if_pos (by omega) (Ev.if_pos (nn0 _) (Ev.if_pos (by omega) (Ev.if_pos (by omega) (Ev.if_pos (nn0 _) (Ev.if_pos (by omega) (Ev.if_pos (by omega) ?_))))))
      by_cases hb : (nd t a).1 = true
      · exact Ev.if_pos hb (ih (a :: P) S _ (w.leaf hb) (hx.add ha) (by rw [List.length_cons]; omega))
      · refine Ev.if_neg hb ?_
        obtain ⟨l, r, hl, hr, l1, l2, r1, r2⟩ := kids (o.rng a ha) hb
        have hih := ih (a :: P) (S ++ [l, r]) _ (w.split o hb hl hr) (hx.add ha) (by rw [List.length_cons]; omega)
        have hl' : (nd t a).2.2.2.2.2.1 = (l : Int) := hl
        have hr' : (nd t a).2.2.2.2.2.2.1 = (r : Int) := hr
        have em2 : (S ++ [l, r]).map cI = S.map cI ++ [(l : Int), (r : Int)] := by rw [List.map_append]; rfl
        rw [em2] at hih
        rw [hl', hr']
        exact Ev.if_pos (by show (S.map cI).length + 2 < _; omega) hih
def A1 (t : List Nd) : Option Nat := (first (bad1 t) t.length 0).or (first (bad2 t) t.length 0)
theorem shape_l1 (f : Int) (t : List Nd) (ht : t.length ≤ 255) (h0 : 1 ≤ t.length) (hr : ∀ i, i < t.length → okR f t.length (nd t i)) (x : List Int) (hx : CuOk t t.length x) : ∀ d i : Nat, i + d = t.length → (∀ j, j < i → bad1 t j = false) →
    Ev (fun k => valid_shape.l1 k t x (x.length : Int) (i : Int)) (ans 11 0 ((first (bad1 t) d i).or (first (bad2 t) t.length 0))) := by
  have hx1 := hx.1
  intro d
  induction d with
  | zero =>
    intro i hi hj
    have o : Once f t := ⟨hr, fun j j0 j1 => by
      have := hj j (by omega)
      unfold bad1 at this
      have := of_decide_eq_false this
      exact Classical.byContradiction fun e => this ⟨j0, e⟩⟩
    refine Ev.succ ?_
    simp only [valid_shape.l1, Int.toNat_natCast]
    exact Ev.if_neg (by omega) (Ev.if_pos (by omega) (shape_l2 f t ht o t.length [] [0] _ (Walk.start t (by omega)) (SeenOk.start t) (by simp)))
  | succ d ih =>
    intro i hi hj
    refine Ev.succ ?_
    simp only [valid_shape.l1, wr_succ i (show i ≤ 1125899906842624 by omega), hx.2 i (by omega)]
    refine Ev.if_pos (by omega) (Ev.if_pos (nn0 _) (Ev.if_pos (by omega) ?_))
    by_cases hb : bad1 t i = true
    · have hb' := of_decide_eq_true hb
      rw [first_hit hb]
      exact Ev.if_pos (by omega) (Ev.if_pos (by omega) (Ev.now _))
    · have hb2 : bad1 t i = false := by simpa using hb
      have hb' := of_decide_eq_false hb2
      rw [first_skip hb2]
      have hih := ih (i + 1) (by omega) (fun j hj' => by
        by_cases e : j = i
        · rw [e]; exact hb2
        · exact hj j (by omega))
      by_cases hi0 : i = 0
      · exact Ev.if_neg (by omega) hih
      · refine Ev.if_pos (by omega) (Ev.if_neg (fun e => hb' ⟨by omega, by omega⟩) hih)
theorem shape_ev (f : Int) (t : List Nd) (ht : t.length ≤ 255) (h0 : 1 ≤ t.length) (hr : ∀ i, i < t.length → okR f t.length (nd t i)) : Ev (fun k => valid_shape.f k t) (ans 11 0 (A1 t)) := by
  unfold valid_shape.f
  rw [Int.toNat_natCast]
  exact Ev.if_pos (by omega) (shape_l0 f t ht hr _ (fun x hx => shape_l1 f t ht h0 hr x hx t.length 0 (by omega) (fun j hj => by omega)) t.length 0 _ (by omega) (CuOk.start t))
theorem sign_cn (r : Rt) {b : Nat} (h : RtB b r) (hb : b ≤ 1073741824) : Ev (fun k => ratio_Sign.f k r.1 r.2.1 r.2.2) (sgn (rv r).num) := by
  unfold ratio_Sign.f
  refine Ev.bind (clean_cn r h (by omega)) ?_
  have h1 := cnB (rv r) h.sz
  have := wsign_ev (cn (rv r)).1 (cn (rv r)).2.1 h1.1 (by have := h1.2.2.1; omega)
  rw [wv_cn] at this
  exact Ev.bind this (Ev.now _)
theorem covers_loop (t : List Nd) (ht : t.length ≤ 255) (hp : ∀ n ∈ t, NdOk n) : ∀ d i : Nat, i + d = t.length → Ev (fun k => valid_covers.l0 k t (t.length : Int) (i : Int)) (ans 12 0 (first (bad3 t) d i)) := by
  intro d
  induction d with
  | zero =>
    intro i hi
    refine Ev.succ ?_
    simp only [valid_covers.l0]
    exact Ev.if_neg (by omega) (Ev.now _)
  | succ d ih =>
    intro i hi
    have hn := hp _ (nd_mem t i (by omega))
    have hih := ih (i + 1) (by omega)
    refine Ev.succ ?_
    simp only [valid_covers.l0, gt_nd, wr_succ i (show i ≤ 1125899906842624 by omega)]
    refine Ev.if_pos (by omega) (Ev.if_pos (nn0 _) (Ev.if_pos (by omega) (Ev.bind (sign_cn (nd t i).cov hn.2.2.B (by decide)) ?_)))
    by_cases hb : sgn (rv (nd t i).cov).num ≤ 0
    · rw [first_hit (decide_eq_true hb : bad3 t i = true)]
      exact Ev.if_pos hb (Ev.now _)
    · rw [first_skip (decide_eq_false hb : bad3 t i = false)]
      exact Ev.if_neg hb hih
def A2 (t : List Nd) : Option Nat := first (bad3 t) t.length 0
theorem covers_ev (t : List Nd) (ht : t.length ≤ 255) (hp : ∀ n ∈ t, NdOk n) : Ev (fun k => valid_covers.f k t) (ans 12 0 (A2 t)) := covers_loop t ht hp t.length 0 (by omega)
theorem sums_loop (f : Int) (t : List Nd) (ht : t.length ≤ 255) (hp : ∀ n ∈ t, NdOk n) (hr : ∀ i, i < t.length → okR f t.length (nd t i)) : ∀ d i : Nat, i + d = t.length → Ev (fun k => valid_sums.l0 k t t (t.length : Int) (i : Int)) (ans 13 0 (first (bad4 t) d i)) := by
  intro d
  induction d with
  | zero =>
    intro i hi
    refine Ev.succ ?_
    simp only [valid_sums.l0]
    exact Ev.if_neg (by omega) (Ev.now _)
  | succ d ih =>
    intro i hi
    have hn := hp _ (nd_mem t i (by omega))
    have hih := ih (i + 1) (by omega)
    refine Ev.succ ?_
    simp only [valid_sums.l0, gt_nd, wr_succ i (show i ≤ 1125899906842624 by omega)]
    refine Ev.if_pos (by omega) (Ev.if_pos (nn0 _) (Ev.if_pos (by omega) ?_))
    by_cases hb : (nd t i).1 = true
    · rw [first_skip (decide_eq_false (fun h => h.1 hb) : bad4 t i = false)]
      exact Ev.if_pos hb hih
    · refine Ev.if_neg hb ?_
      obtain ⟨l, r, hl, hr', l1, l2, r1, r2⟩ := kids (hr i (by omega)) hb
      have eb : bad4 t i = decide ((nd t i).1 ≠ true ∧ rv (nd t i).cov ≠ rv (nd t l).cov + rv (nd t r).cov) := by
        unfold bad4
        rw [hl, hr', Int.toNat_natCast, Int.toNat_natCast]
      have hl' : (nd t i).2.2.2.2.2.1 = (l : Int) := hl
      have hr'' : (nd t i).2.2.2.2.2.2.1 = (r : Int) := hr'
      rw [hl', hr'']
      simp only [gt_nd]
      have ol := (hp _ (nd_mem t l l2)).2.2.B
      have or := (hp _ (nd_mem t r r2)).2.2.B
      have za := Sz_add (rv (nd t l).cov) (rv (nd t r).cov)
      have z1 := ol.sz
      have z2 := or.sz
      have hs := same_cn (nd t i).cov (cn (rv (nd t l).cov + rv (nd t r).cov)) hn.2.2.B (cnB _ (Nat.le_refl _)) (by decide) (by omega)
      rw [rv_cn] at hs
      refine Ev.if_pos (nn0 _) (Ev.if_pos (by omega) (Ev.if_pos (nn0 _) (Ev.if_pos (by omega) (Ev.bind (add_cn (nd t l).cov (nd t r).cov ol or (by decide)) (Ev.bind hs ?_)))))
      by_cases he : rv (nd t i).cov = rv (nd t l).cov + rv (nd t r).cov
      · rw [first_skip (show bad4 t i = false by rw [eb]; exact decide_eq_false fun h => h.2 he)]
        exact Ev.if_pos (decide_eq_true he) hih
      · rw [first_hit (show bad4 t i = true by rw [eb]; exact decide_eq_true ⟨hb, he⟩)]
        exact Ev.if_neg (by simp [he]) (Ev.now _)
def A3 (t : List Nd) : Option Nat := first (bad4 t) t.length 0
theorem sums_ev (f : Int) (t : List Nd) (ht : t.length ≤ 255) (hp : ∀ n ∈ t, NdOk n) (hr : ∀ i, i < t.length → okR f t.length (nd t i)) : Ev (fun k => valid_sums.f k t) (ans 13 0 (A3 t)) := sums_loop f t ht hp hr t.length 0 (by omega)
end Go.DI.Th
namespace Go.DI.Th
open Go Go.RowKit Go.DI

theorem parents_loop (t : List Nd) (a : Nat) (ht : t.length ≤ 255) : ∀ d j : Nat, j + d = t.length → Ev (fun k => dendronlaw08_parents.l0 k t (a : Int) (cu t j a : Int) (j : Int)) (cu t t.length a : Int) := by
  intro d
  induction d with
  | zero =>
    intro j hj
    obtain rfl : j = t.length := by omega
    refine Ev.succ ?_
    simp only [dendronlaw08_parents.l0]
    exact Ev.if_neg (by omega) (Ev.now _)
  | succ d ih =>
    intro j hj
    have hih := ih (j + 1) (by omega)
    have b1 := cu_le t j a
    have w1 : wrap64 ((cu t j a : Int) + 1) = (cu t j a : Int) + 1 := wrap_id (by omega) (by omega)
    have w2 : wrap64 ((cu t j a : Int) + 1 + 1) = (cu t j a : Int) + 1 + 1 := wrap_id (by omega) (by omega)
    rw [cu] at hih
    unfold cc at hih
    refine Ev.succ ?_
    simp only [dendronlaw08_parents.l0, gt_nd, wr_succ j (show j ≤ 1125899906842624 by omega), w1, w2]
    refine Ev.if_pos (by omega) (Ev.if_pos (nn0 _) ?_)
    by_cases hb : (nd t j).1 = true
    · rw [if_pos hb] at hih
      exact Ev.if_pos hb (Ev.if_pos hb hih)
    · rw [if_neg hb] at hih
      refine Ev.if_neg hb ?_
      by_cases hl : (nd t j).2.2.2.2.2.1 = (a : Int)
      · rw [if_pos hl] at hih
        refine Ev.if_pos hl (Ev.if_neg hb ?_)
        by_cases hr : (nd t j).2.2.2.2.2.2.1 = (a : Int)
        · rw [if_pos hr] at hih
          exact Ev.if_pos hr hih
        · rw [if_neg hr] at hih
          exact Ev.if_neg hr hih
      · rw [if_neg hl] at hih
        refine Ev.if_neg hl (Ev.if_neg hb ?_)
        by_cases hr : (nd t j).2.2.2.2.2.2.1 = (a : Int)
        · rw [if_pos hr] at hih
          exact Ev.if_pos hr (hih.of_eq rfl)
        · rw [if_neg hr] at hih
          exact Ev.if_neg hr hih
theorem parents_ev (t : List Nd) (a : Nat) (ht : t.length ≤ 255) : Ev (fun k => dendronlaw08_parents.f k t (a : Int)) (cu t t.length a : Int) := parents_loop t a ht t.length 0 (by omega)
theorem reached_l1 (t : List Nd) (a : Nat) (ht : t.length ≤ 255) (x5 : Int) (R : Bool) (hend : Ev (fun k => if upTo t a t.length < 0 then some false else dendronlaw08_reached.l0 k t (upTo t a t.length) (wrap64 (x5 + 1))) R) : ∀ d j : Nat, j + d = t.length →
    Ev (fun k => dendronlaw08_reached.l1 k t (a : Int) x5 (upTo t a j) (j : Int)) R := by
  intro d
  induction d with
  | zero =>
    intro j hj
    obtain rfl : j = t.length := by omega
    refine Ev.succ ?_
    simp only [dendronlaw08_reached.l1]
    exact Ev.if_neg (by omega) hend
  | succ d ih =>
    intro j hj
    have hih := ih (j + 1) (by omega)
    rw [upTo] at hih
    refine Ev.succ ?_
    simp only [dendronlaw08_reached.l1, gt_nd, wr_succ j (show j ≤ 1125899906842624 by omega)]
    refine Ev.if_pos (by omega) (Ev.if_pos (nn0 _) ?_)
    by_cases hb : (nd t j).1 = true
    · rw [if_neg (fun h => h.1 hb)] at hih
      exact Ev.if_pos hb hih
    · refine Ev.if_neg hb ?_
      by_cases hl : (nd t j).2.2.2.2.2.1 = (a : Int)
      · rw [if_pos ⟨hb, Or.inl hl⟩] at hih
        exact Ev.if_pos hl hih
      · refine Ev.if_neg hl ?_
        by_cases hr : (nd t j).2.2.2.2.2.2.1 = (a : Int)
        · rw [if_pos ⟨hb, Or.inr hr⟩] at hih
          exact Ev.if_pos hr hih
        · rw [if_neg (fun h => h.2.elim hl hr)] at hih
          exact Ev.if_neg hr hih
theorem reached_l0 (t : List Nd) (ht : t.length ≤ 255) : ∀ (m a x : Nat), x + m = t.length + 1 → Ev (fun k => dendronlaw08_reached.l0 k t (a : Int) (x : Int)) (climb t m a) := by
  intro m
  induction m with
  | zero =>
    intro a x hx
    refine Ev.succ ?_
    simp only [dendronlaw08_reached.l0]
    exact Ev.if_neg (by omega) (Ev.now _)
  | succ m ih =>
    intro a x hx
    refine Ev.succ ?_
    simp only [dendronlaw08_reached.l0]
    rw [climb]
    refine Ev.if_pos (by omega) ?_
    by_cases h0 : a = 0
    · rw [if_pos h0]
      exact Ev.if_pos (by omega) (Ev.now _)
    · rw [if_neg h0]
      refine Ev.if_neg (by omega) (reached_l1 t a ht (x : Int) _ ?_ t.length 0 (by omega))
      by_cases h1 : upTo t a t.length < 0
      · rw [if_pos h1]
        exact Ev.if_pos h1 (Ev.now _)
      · rw [if_neg h1]
        refine Ev.if_neg h1 ?_
        have hih := ih (upTo t a t.length).toNat (x + 1) (by omega)
        rw [Int.toNat_of_nonneg (by omega)] at hih
        rwa [wr_succ x (by omega)]
theorem reached_ev (t : List Nd) (ht : t.length ≤ 255) (a : Nat) : Ev (fun k => dendronlaw08_reached.f k t (a : Int)) (climb t (t.length + 1) a) := reached_l0 t ht (t.length + 1) a 0 (by omega)
theorem rule0_loop (t : List Nd) (f : Int) (ht : t.length ≤ 255) : ∀ d i : Nat, i + d = t.length → Ev (fun k => dendronlaw08_rule.l0 k t f 0 (i : Int)) (ans 8 (-1) (first (bad0 f t) d i)) := by
  intro d
  induction d with
  | zero =>
    intro i hi
    refine Ev.succ ?_
    simp only [dendronlaw08_rule.l0]
    exact Ev.if_neg (by omega) (Ev.now _)
  | succ d ih =>
    intro i hi
    have hih := ih (i + 1) (by omega)
    refine Ev.succ ?_
    simp only [dendronlaw08_rule.l0, gt_nd, wr_succ i (show i ≤ 1125899906842624 by omega)]
    refine Ev.if_pos (by omega) (Ev.if_pos (nn0 _) ?_)
    have e1 : ¬ okR f t.length (nd t i) → ans 8 (-1) (first (bad0 f t) (d + 1) i) = ((i : Int), 8) := fun h => by rw [first_hit (decide_eq_true h)]; rfl
    have e2 : okR f t.length (nd t i) → first (bad0 f t) d (i + 1) = first (bad0 f t) (d + 1) i := fun h => (first_skip (decide_eq_false (fun h' => h' h))).symm
    refine Ev.if_pos trivial ?_
    by_cases hb : (nd t i).1 = true
    · exact Ev.if_pos hb (hih.of_eq (by rw [e2 (Or.inl hb)]))
    · refine Ev.if_neg hb ?_
      have no : ∀ {c : Prop}, (c → ¬ ((nd t i).2.1 < f ∧ 1 ≤ (nd t i).2.2.2.2.2.1 ∧ (nd t i).2.2.2.2.2.1 < t.length ∧ 1 ≤ (nd t i).2.2.2.2.2.2.1 ∧ (nd t i).2.2.2.2.2.2.1 < t.length)) → c → ¬ okR f t.length (nd t i) := fun h hc ho => h hc (ho.resolve_left hb)
      refine Ev.cut (no fun h => by omega) e1 fun g1 => ?_
      refine Ev.cut (no fun h => by omega) e1 fun g2 => ?_
      refine Ev.cut (no fun h => by omega) e1 fun g3 => ?_
      refine Ev.cut (no fun h => by omega) e1 fun g4 => ?_
      refine Ev.cut (no fun h => by omega) e1 fun g5 => ?_
      exact hih.of_eq (by rw [e2 (Or.inr ⟨by omega, by omega, by omega, by omega, by omega⟩)])
theorem rule0_ev (t : List Nd) (f : Int) (ht : t.length ≤ 255) : Ev (fun k => dendronlaw08_rule.f k t f 0) (ans 8 (-1) (first (bad0 f t) t.length 0)) := rule0_loop t f ht t.length 0 (by omega)
theorem rule1_loop (t : List Nd) (f : Int) (ht : t.length ≤ 255) : ∀ d i : Nat, i + d = t.length → Ev (fun k => dendronlaw08_rule.l0 k t f 1 (i : Int)) (ans 11 (-1) (first (bad1 t) d i)) := by
  intro d
  induction d with
  | zero =>
    intro i hi
    refine Ev.succ ?_
    simp only [dendronlaw08_rule.l0]
    exact Ev.if_neg (by omega) (Ev.now _)
  | succ d ih =>
    intro i hi
    have hih := ih (i + 1) (by omega)
    refine Ev.succ ?_
    simp only [dendronlaw08_rule.l0, gt_nd, wr_succ i (show i ≤ 1125899906842624 by omega)]
    refine Ev.if_pos (by omega) (Ev.if_pos (nn0 _) ?_)
    refine Ev.if_neg (by decide) (Ev.if_pos trivial ?_)
    by_cases hb : bad1 t i = true
    · have hb' := of_decide_eq_true hb
      rw [first_hit hb]
      exact Ev.if_pos (by omega) (Ev.bind (parents_ev t i ht) (Ev.if_pos (by omega) (Ev.now _)))
    · have hb2 : bad1 t i = false := by simpa using hb
      have hb' := of_decide_eq_false hb2
      rw [first_skip hb2]
      by_cases hi0 : i = 0
      · exact Ev.if_neg (by omega) hih
      · exact Ev.if_pos (by omega) (Ev.bind (parents_ev t i ht) (Ev.if_neg (fun e => hb' ⟨by omega, by omega⟩) hih))
theorem rule1_ev (t : List Nd) (f : Int) (ht : t.length ≤ 255) : Ev (fun k => dendronlaw08_rule.f k t f 1) (ans 11 (-1) (first (bad1 t) t.length 0)) := rule1_loop t f ht t.length 0 (by omega)
theorem rule2_loop (t : List Nd) (f : Int) (ht : t.length ≤ 255) : ∀ d i : Nat, i + d = t.length → Ev (fun k => dendronlaw08_rule.l0 k t f 2 (i : Int)) (ans 11 (-1) (first (bad2 t) d i)) := by
  intro d
  induction d with
  | zero =>
    intro i hi
    refine Ev.succ ?_
    simp only [dendronlaw08_rule.l0]
    exact Ev.if_neg (by omega) (Ev.now _)
  | succ d ih =>
    intro i hi
    have hih := ih (i + 1) (by omega)
    refine Ev.succ ?_
    simp only [dendronlaw08_rule.l0, gt_nd, wr_succ i (show i ≤ 1125899906842624 by omega)]
    refine Ev.if_pos (by omega) (Ev.if_pos (nn0 _) ?_)
    refine Ev.if_neg (by decide) (Ev.if_neg (by decide) (Ev.if_pos trivial (Ev.bind (reached_ev t ht i) ?_)))
    by_cases hb : bad2 t i = true
    · have hc : climb t (t.length + 1) i = false := by unfold bad2 at hb; simpa using hb
      rw [first_hit hb]
      exact Ev.if_neg (by simp [hc]) (Ev.now _)
    · have hb2 : bad2 t i = false := by simpa using hb
      have hc : climb t (t.length + 1) i = true := by unfold bad2 at hb2; simpa using hb2
      rw [first_skip hb2]
      exact Ev.if_pos hc hih
theorem rule2_ev (t : List Nd) (f : Int) (ht : t.length ≤ 255) : Ev (fun k => dendronlaw08_rule.f k t f 2) (ans 11 (-1) (first (bad2 t) t.length 0)) := rule2_loop t f ht t.length 0 (by omega)
theorem rule3_loop (t : List Nd) (f : Int) (ht : t.length ≤ 255) (hp : ∀ n ∈ t, NdOk n) : ∀ d i : Nat, i + d = t.length → Ev (fun k => dendronlaw08_rule.l0 k t f 3 (i : Int)) (ans 12 (-1) (first (bad3 t) d i)) := by
  intro d
  induction d with
  | zero =>
    intro i hi
    refine Ev.succ ?_
    simp only [dendronlaw08_rule.l0]
    exact Ev.if_neg (by omega) (Ev.now _)
  | succ d ih =>
    intro i hi
    have hih := ih (i + 1) (by omega)
    refine Ev.succ ?_
    simp only [dendronlaw08_rule.l0, gt_nd, wr_succ i (show i ≤ 1125899906842624 by omega)]
    refine Ev.if_pos (by omega) (Ev.if_pos (nn0 _) ?_)
    have hn := hp _ (nd_mem t i (by omega))
    refine Ev.if_neg (by decide) (Ev.if_neg (by decide) (Ev.if_neg (by decide) (Ev.if_pos trivial (Ev.bind (sign_cn (nd t i).cov hn.2.2.B (by decide)) ?_))))
    by_cases hb : sgn (rv (nd t i).cov).num ≤ 0
    · rw [first_hit (decide_eq_true hb : bad3 t i = true)]
      exact Ev.if_pos hb (Ev.now _)
    · rw [first_skip (decide_eq_false hb : bad3 t i = false)]
      exact Ev.if_neg hb hih
theorem rule3_ev (t : List Nd) (f : Int) (ht : t.length ≤ 255) (hp : ∀ n ∈ t, NdOk n) : Ev (fun k => dendronlaw08_rule.f k t f 3) (ans 12 (-1) (first (bad3 t) t.length 0)) := rule3_loop t f ht hp t.length 0 (by omega)
theorem rule4_loop (t : List Nd) (f : Int) (ht : t.length ≤ 255) (hp : ∀ n ∈ t, NdOk n) (hr : ∀ i, i < t.length → okR f t.length (nd t i)) : ∀ d i : Nat, i + d = t.length → Ev (fun k => dendronlaw08_rule.l0 k t f 4 (i : Int)) (ans 13 (-1) (first (bad4 t) d i)) := by
  intro d
  induction d with
  | zero =>
    intro i hi
    refine Ev.succ ?_
    simp only [dendronlaw08_rule.l0]
    exact Ev.if_neg (by omega) (Ev.now _)
  | succ d ih =>
    intro i hi
    have hih := ih (i + 1) (by omega)
    refine Ev.succ ?_
    simp only [dendronlaw08_rule.l0, gt_nd, wr_succ i (show i ≤ 1125899906842624 by omega)]
    refine Ev.if_pos (by omega) (Ev.if_pos (nn0 _) ?_)
    have hn := hp _ (nd_mem t i (by omega))
    refine Ev.if_neg (by decide) (Ev.if_neg (by decide) (Ev.if_neg (by decide) (Ev.if_neg (by decide) ?_)))
    by_cases hb : (nd t i).1 = true
    · rw [first_skip (decide_eq_false (fun h => h.1 hb) : bad4 t i = false)]
      exact Ev.if_pos hb hih
    · refine Ev.if_neg hb ?_
      obtain ⟨l, r, hl, hr', l1, l2, r1, r2⟩ := kids (hr i (by omega)) hb
      have eb : bad4 t i = decide ((nd t i).1 ≠ true ∧ rv (nd t i).cov ≠ rv (nd t l).cov + rv (nd t r).cov) := by
        unfold bad4
        rw [hl, hr', Int.toNat_natCast, Int.toNat_natCast]
      have hl' : (nd t i).2.2.2.2.2.1 = (l : Int) := hl
      have hr'' : (nd t i).2.2.2.2.2.2.1 = (r : Int) := hr'
      rw [hl', hr'']
      simp only [gt_nd]
      have ol := (hp _ (nd_mem t l l2)).2.2.B
      have or := (hp _ (nd_mem t r r2)).2.2.B
      have za := Sz_add (rv (nd t l).cov) (rv (nd t r).cov)
      have z1 := ol.sz
      have z2 := or.sz
      have hs := same_cn (nd t i).cov (cn (rv (nd t l).cov + rv (nd t r).cov)) hn.2.2.B (cnB _ (Nat.le_refl _)) (by decide) (by omega)
      rw [rv_cn] at hs
      refine Ev.if_pos (nn0 _) (Ev.if_pos (by omega) (Ev.if_pos (nn0 _) (Ev.if_pos (by omega) (Ev.bind (add_cn (nd t l).cov (nd t r).cov ol or (by decide)) (Ev.bind hs ?_)))))
      by_cases he : rv (nd t i).cov = rv (nd t l).cov + rv (nd t r).cov
      · rw [first_skip (show bad4 t i = false by rw [eb]; exact decide_eq_false fun h => h.2 he)]
        exact Ev.if_pos (decide_eq_true he) hih
      · rw [first_hit (show bad4 t i = true by rw [eb]; exact decide_eq_true ⟨hb, he⟩)]
        exact Ev.if_neg (by simp [he]) (Ev.now _)
theorem rule4_ev (t : List Nd) (f : Int) (ht : t.length ≤ 255) (hp : ∀ n ∈ t, NdOk n) (hr : ∀ i, i < t.length → okR f t.length (nd t i)) : Ev (fun k => dendronlaw08_rule.f k t f 4) (ans 13 (-1) (first (bad4 t) t.length 0)) := rule4_loop t f ht hp hr t.length 0 (by omega)
def firstT (g : List Nd → Option Nat) (e : Int) : List (List Nd) → Nat → Option (Int × Int × Int × Int)
  | [], _ => none
  | t :: ts, i => match g t with
    | some j => some (e, 0, (i : Int), (j : Int))
    | none => firstT g e ts (i + 1)
theorem firstT_some {g : List Nd → Option Nat} {e : Int} {t : List Nd} {ts : List (List Nd)} {i j : Nat} (h : g t = some j) : firstT g e (t :: ts) i = some (e, 0, (i : Int), (j : Int)) := by rw [firstT, h]
theorem firstT_next {g : List Nd → Option Nat} {e : Int} {t : List Nd} {ts : List (List Nd)} {i : Nat} (h : g t = none) : firstT g e (t :: ts) i = firstT g e ts (i + 1) := by rw [firstT, h]
def C3 (ts : List (List Nd)) : Int × Int × Int × Int := (firstT A3 13 ts 0).getD (0, 0, 0, 0)
def C2 (ts : List (List Nd)) : Int × Int × Int × Int := (firstT A2 12 ts 0).getD (C3 ts)
def C1 (ts : List (List Nd)) : Int × Int × Int × Int := (firstT A1 11 ts 0).getD (C2 ts)
def checkA (f : Int) (ts : List (List Nd)) : Int × Int × Int × Int := (firstT (A0 f) 8 ts 0).getD (C1 ts)
def checkF (f : Int) (ts : List (List Nd)) : Int × Int × Int × Int := if fitM f ts then checkA f ts else (1, 0, 0, 0)
theorem chk_l1_0 (f : Int) (ts : List (List Nd)) (hts : ts.length ≤ 64) (R : Int × Int × Int × Int) (hg : ∀ t ∈ ts, Ev (fun k => valid_ranges.f k t f) (ans 8 0 (A0 f t)))
    (hend : (∀ t ∈ ts, A0 f t = none) → Ev (fun k => valid_Check.l0 k 1 f ts 0 0 0 0) R) : ∀ (b a : List (List Nd)), ts = a ++ b → (∀ t ∈ a, A0 f t = none) →
    Ev (fun k => valid_Check.l1 k 0 0 ts (ts.length : Int) (a.length : Int) f ts 0 0 0 0) ((firstT (A0 f) 8 b a.length).getD R) := by
  intro b
  induction b with
  | nil =>
    intro a hr ha
    rw [List.append_nil] at hr
    subst hr
    have w1 : wrap64 (0 + 1) = 1 := by rw [wrap_id (by decide) (by decide)]; rfl
    refine Ev.succ ?_
    simp only [valid_Check.l1, w1]
    exact Ev.if_neg (by omega) (hend ha)
  | cons t b ih =>
    intro a hr ha
    have e1 := gt_at [] a t b
    have l1 := lt_at a t b
    rw [← hr] at e1 l1
    have hl : ts.length = a.length + (b.length + 1) := by rw [hr, List.length_append, List.length_cons]
    have h1 := hg t (by rw [hr]; simp)
    refine Ev.succ ?_
    simp only [valid_Check.l1, e1, wr_at a t (show a.length ≤ 1125899906842624 by omega)]
    refine Ev.if_pos l1 (Ev.if_pos (nn0 _) (Ev.if_pos l1 (Ev.if_pos trivial (Ev.bind h1 ?_))))
    cases hx : A0 f t with
    | some j =>
      rw [firstT_some hx]
      exact Ev.if_pos (show (8 : Int) ≠ 0 by decide) (Ev.bind (Ev.now _) (Ev.now _))
    | none =>
      rw [firstT_next hx]
      have hih := ih (a ++ [t]) (by rw [hr]; simp) (fun s hs => by
        rcases List.mem_append.1 hs with h | h
        · exact ha s h
        · rw [List.mem_singleton.1 h]; exact hx)
      rw [List.length_append, List.length_singleton] at hih ⊢
      exact Ev.if_neg (fun h => h rfl) hih
theorem chk_l1_1 (f : Int) (ts : List (List Nd)) (hts : ts.length ≤ 64) (R : Int × Int × Int × Int) (hg : ∀ t ∈ ts, Ev (fun k => valid_shape.f k t) (ans 11 0 (A1 t)))
    (hend : (∀ t ∈ ts, A1 t = none) → Ev (fun k => valid_Check.l0 k 2 f ts 0 0 0 0) R) : ∀ (b a : List (List Nd)), ts = a ++ b → (∀ t ∈ a, A1 t = none) →
    Ev (fun k => valid_Check.l1 k 1 1 ts (ts.length : Int) (a.length : Int) f ts 0 0 0 0) ((firstT (A1) 11 b a.length).getD R) := by
  intro b
  induction b with
  | nil =>
    intro a hr ha
    rw [List.append_nil] at hr
    subst hr
    have w1 : wrap64 (1 + 1) = 2 := by rw [wrap_id (by decide) (by decide)]; rfl
    refine Ev.succ ?_
    simp only [valid_Check.l1, w1]
    exact Ev.if_neg (by omega) (hend ha)
  | cons t b ih =>
    intro a hr ha
    have e1 := gt_at [] a t b
    have l1 := lt_at a t b
    rw [← hr] at e1 l1
    have hl : ts.length = a.length + (b.length + 1) := by rw [hr, List.length_append, List.length_cons]
    have h1 := hg t (by rw [hr]; simp)
    refine Ev.succ ?_
    simp only [valid_Check.l1, e1, wr_at a t (show a.length ≤ 1125899906842624 by omega)]
    refine Ev.if_pos l1 (Ev.if_pos (nn0 _) (Ev.if_pos l1 (Ev.if_neg (by decide) (Ev.if_pos trivial (Ev.bind h1 ?_)))))
    cases hx : A1 t with
    | some j =>
      rw [firstT_some hx]
      exact Ev.if_pos (show (11 : Int) ≠ 0 by decide) (Ev.bind (Ev.now _) (Ev.now _))
    | none =>
      rw [firstT_next hx]
      have hih := ih (a ++ [t]) (by rw [hr]; simp) (fun s hs => by
        rcases List.mem_append.1 hs with h | h
        · exact ha s h
        · rw [List.mem_singleton.1 h]; exact hx)
      rw [List.length_append, List.length_singleton] at hih ⊢
      exact Ev.if_neg (fun h => h rfl) hih
theorem chk_l1_2 (f : Int) (ts : List (List Nd)) (hts : ts.length ≤ 64) (R : Int × Int × Int × Int) (hg : ∀ t ∈ ts, Ev (fun k => valid_covers.f k t) (ans 12 0 (A2 t)))
    (hend : (∀ t ∈ ts, A2 t = none) → Ev (fun k => valid_Check.l0 k 3 f ts 0 0 0 0) R) : ∀ (b a : List (List Nd)), ts = a ++ b → (∀ t ∈ a, A2 t = none) →
    Ev (fun k => valid_Check.l1 k 2 2 ts (ts.length : Int) (a.length : Int) f ts 0 0 0 0) ((firstT (A2) 12 b a.length).getD R) := by
  intro b
  induction b with
  | nil =>
    intro a hr ha
    rw [List.append_nil] at hr
    subst hr
    have w1 : wrap64 (2 + 1) = 3 := by rw [wrap_id (by decide) (by decide)]; rfl
    refine Ev.succ ?_
    simp only [valid_Check.l1, w1]
    exact Ev.if_neg (by omega) (hend ha)
  | cons t b ih =>
    intro a hr ha
    have e1 := gt_at [] a t b
    have l1 := lt_at a t b
    rw [← hr] at e1 l1
    have hl : ts.length = a.length + (b.length + 1) := by rw [hr, List.length_append, List.length_cons]
    have h1 := hg t (by rw [hr]; simp)
    refine Ev.succ ?_
    simp only [valid_Check.l1, e1, wr_at a t (show a.length ≤ 1125899906842624 by omega)]
    refine Ev.if_pos l1 (Ev.if_pos (nn0 _) (Ev.if_pos l1 (Ev.if_neg (by decide) (Ev.if_neg (by decide) (Ev.if_pos trivial (Ev.bind h1 ?_))))))
    cases hx : A2 t with
    | some j =>
      rw [firstT_some hx]
      exact Ev.if_pos (show (12 : Int) ≠ 0 by decide) (Ev.bind (Ev.now _) (Ev.now _))
    | none =>
      rw [firstT_next hx]
      have hih := ih (a ++ [t]) (by rw [hr]; simp) (fun s hs => by
        rcases List.mem_append.1 hs with h | h
        · exact ha s h
        · rw [List.mem_singleton.1 h]; exact hx)
      rw [List.length_append, List.length_singleton] at hih ⊢
      exact Ev.if_neg (fun h => h rfl) hih
theorem chk_l1_3 (f : Int) (ts : List (List Nd)) (hts : ts.length ≤ 64) (R : Int × Int × Int × Int) (hg : ∀ t ∈ ts, Ev (fun k => valid_sums.f k t) (ans 13 0 (A3 t)))
    (hend : (∀ t ∈ ts, A3 t = none) → Ev (fun k => valid_Check.l0 k 4 f ts 0 0 0 0) R) : ∀ (b a : List (List Nd)), ts = a ++ b → (∀ t ∈ a, A3 t = none) →
    Ev (fun k => valid_Check.l1 k 3 3 ts (ts.length : Int) (a.length : Int) f ts 0 0 0 0) ((firstT (A3) 13 b a.length).getD R) := by
  intro b
  induction b with
  | nil =>
    intro a hr ha
    rw [List.append_nil] at hr
    subst hr
    have w1 : wrap64 (3 + 1) = 4 := by rw [wrap_id (by decide) (by decide)]; rfl
    refine Ev.succ ?_
    simp only [valid_Check.l1, w1]
    exact Ev.if_neg (by omega) (hend ha)
  | cons t b ih =>
    intro a hr ha
    have e1 := gt_at [] a t b
    have l1 := lt_at a t b
    rw [← hr] at e1 l1
    have hl : ts.length = a.length + (b.length + 1) := by rw [hr, List.length_append, List.length_cons]
    have h1 := hg t (by rw [hr]; simp)
    refine Ev.succ ?_
    simp only [valid_Check.l1, e1, wr_at a t (show a.length ≤ 1125899906842624 by omega)]
    refine Ev.if_pos l1 (Ev.if_pos (nn0 _) (Ev.if_pos l1 (Ev.if_neg (by decide) (Ev.if_neg (by decide) (Ev.if_neg (by decide) (Ev.if_pos trivial (Ev.bind h1 ?_)))))))
    cases hx : A3 t with
    | some j =>
      rw [firstT_some hx]
      exact Ev.if_pos (show (13 : Int) ≠ 0 by decide) (Ev.bind (Ev.now _) (Ev.now _))
    | none =>
      rw [firstT_next hx]
      have hih := ih (a ++ [t]) (by rw [hr]; simp) (fun s hs => by
        rcases List.mem_append.1 hs with h | h
        · exact ha s h
        · rw [List.mem_singleton.1 h]; exact hx)
      rw [List.length_append, List.length_singleton] at hih ⊢
      exact Ev.if_neg (fun h => h rfl) hih
theorem check_ev (f : Int) (ts : List (List Nd)) (hp : ∀ t ∈ ts, ∀ n ∈ t, NdOk n) : Ev (fun k => valid_Check.f k f ts) (checkF f ts) := by
  unfold valid_Check.f checkF
  refine Ev.bind (fits_ev f ts) ?_
  by_cases hf : fitM f ts
  · rw [if_pos hf]
    refine Ev.if_pos (decide_eq_true hf) ?_
    obtain ⟨g1, g2, g3, g4⟩ := hf
    have c4 : Ev (fun k => valid_Check.l0 k 4 f ts 0 0 0 0) (0, 0, 0, 0) := by
      refine Ev.succ ?_
      simp only [valid_Check.l0]
      exact Ev.if_neg (by decide) (Ev.now _)
    have c3 : (∀ t ∈ ts, A0 f t = none) → Ev (fun k => valid_Check.l0 k 3 f ts 0 0 0 0) (C3 ts) := fun h0 => by
      refine Ev.succ ?_
      simp only [valid_Check.l0]
      exact Ev.if_pos (by decide) (chk_l1_3 f ts g3 _ (fun t ht => sums_ev f t (g4 t ht).2.1 (hp t ht) (A0_rng (h0 t ht))) (fun _ => c4) ts [] rfl (fun t ht => by cases ht))
    have c2 : (∀ t ∈ ts, A0 f t = none) → Ev (fun k => valid_Check.l0 k 2 f ts 0 0 0 0) (C2 ts) := fun h0 => by
      refine Ev.succ ?_
      simp only [valid_Check.l0]
      exact Ev.if_pos (by decide) (chk_l1_2 f ts g3 _ (fun t ht => covers_ev t (g4 t ht).2.1 (hp t ht)) (fun _ => c3 h0) ts [] rfl (fun t ht => by cases ht))
    have c1 : (∀ t ∈ ts, A0 f t = none) → Ev (fun k => valid_Check.l0 k 1 f ts 0 0 0 0) (C1 ts) := fun h0 => by
      refine Ev.succ ?_
      simp only [valid_Check.l0]
      exact Ev.if_pos (by decide) (chk_l1_1 f ts g3 _ (fun t ht => shape_ev f t (g4 t ht).2.1 (g4 t ht).1 (A0_rng (h0 t ht))) (fun _ => c2 h0) ts [] rfl (fun t ht => by cases ht))
    refine Ev.succ ?_
    simp only [valid_Check.l0]
    exact Ev.if_pos (by decide) (chk_l1_0 f ts g3 _ (fun t ht => ranges_ev t f (g4 t ht).2.1 (g4 t ht).2.2) c1 ts [] rfl (fun t ht => by cases ht))
  · rw [if_neg hf]
    exact Ev.if_neg (by simp [hf]) (Ev.now _)
abbrev ord : List (List Int) := [[0], [1, 2], [3], [4]]
theorem lchk_l1_0 (f : Int) (ts : List (List Nd)) (hts : ts.length ≤ 64) (hlen : ∀ t ∈ ts, t.length ≤ 255) (R : Int × Int × Int × Int)
    (hend : (∀ t ∈ ts, A0 f t = none) → Ev (fun k => dendronlaw08_check.l0 k ord 1 f ts 0 0 0 0) R) : ∀ (b a : List (List Nd)), ts = a ++ b → (∀ t ∈ a, A0 f t = none) →
    Ev (fun k => dendronlaw08_check.l1 k ord 0 (a.length : Int) f ts 0 0 0 0) ((firstT (A0 f) 8 b a.length).getD R) := by
  intro b
  induction b with
  | nil =>
    intro a hr ha
    rw [List.append_nil] at hr
    subst hr
    have w1 : wrap64 (0 + 1) = 1 := by rw [wrap_id (by decide) (by decide)]; rfl
    refine Ev.succ ?_
    simp only [dendronlaw08_check.l1, w1]
    exact Ev.if_neg (by omega) (hend ha)
  | cons t b ih =>
    intro a hr ha
    have e1 := gt_at [] a t b
    have l1 := lt_at a t b
    rw [← hr] at e1 l1
    have hl : ts.length = a.length + (b.length + 1) := by rw [hr, List.length_append, List.length_cons]
    have r1 : Ev (fun k => dendronlaw08_rule.f k t f 0) (ans 8 (-1) (A0 f t)) := rule0_ev t f (hlen t (by rw [hr]; simp))
    refine Ev.succ ?_
    simp only [dendronlaw08_check.l1]
    refine Ev.if_pos l1 (Ev.succ ?_)
    simp only [dendronlaw08_check.l2, e1]
    refine Ev.if_pos (by decide) (Ev.if_pos (by decide) (Ev.if_pos (by decide) (Ev.if_pos (nn0 _) (Ev.if_pos l1 (Ev.if_pos (by decide) (Ev.bind r1 ?_))))))
    cases hx : A0 f t with
    | some j =>
      rw [firstT_some hx]
      exact Ev.if_pos (show (8 : Int) ≠ 0 by decide) (Ev.now _)
    | none =>
      rw [firstT_next hx]
      have hih := ih (a ++ [t]) (by rw [hr]; simp) (fun s hs => by
        rcases List.mem_append.1 hs with h | h
        · exact ha s h
        · rw [List.mem_singleton.1 h]; exact hx)
      rw [List.length_append, List.length_singleton] at hih
      have w1 : wrap64 (0 + 1) = 1 := by rw [wrap_id (by decide) (by decide)]; rfl
      rw [w1]
      refine Ev.if_neg (fun h => h rfl) (Ev.succ ?_)
      simp only [dendronlaw08_check.l2, wr_succ a.length (show a.length ≤ 1125899906842624 by omega)]
      exact Ev.if_pos (by decide) (Ev.if_pos (by decide) (Ev.if_neg (by decide) hih))
theorem lchk_l1_1 (f : Int) (ts : List (List Nd)) (hts : ts.length ≤ 64) (hlen : ∀ t ∈ ts, t.length ≤ 255) (R : Int × Int × Int × Int)
    (hend : (∀ t ∈ ts, A1 t = none) → Ev (fun k => dendronlaw08_check.l0 k ord 2 f ts 0 0 0 0) R) : ∀ (b a : List (List Nd)), ts = a ++ b → (∀ t ∈ a, A1 t = none) →
    Ev (fun k => dendronlaw08_check.l1 k ord 1 (a.length : Int) f ts 0 0 0 0) ((firstT (A1) 11 b a.length).getD R) := by
  intro b
  induction b with
  | nil =>
    intro a hr ha
    rw [List.append_nil] at hr
    subst hr
    have w1 : wrap64 (1 + 1) = 2 := by rw [wrap_id (by decide) (by decide)]; rfl
    refine Ev.succ ?_
    simp only [dendronlaw08_check.l1, w1]
    exact Ev.if_neg (by omega) (hend ha)
  | cons t b ih =>
    intro a hr ha
    have e1 := gt_at [] a t b
    have l1 := lt_at a t b
    rw [← hr] at e1 l1
    have hl : ts.length = a.length + (b.length + 1) := by rw [hr, List.length_append, List.length_cons]
    have r1 := rule1_ev t f (hlen t (by rw [hr]; simp))
    have r2 := rule2_ev t f (hlen t (by rw [hr]; simp))
    have hA : A1 t = (first (bad1 t) t.length 0).or (first (bad2 t) t.length 0) := rfl
    have hnext : A1 t = none → Ev (fun k => dendronlaw08_check.l2 k ord 1 (a.length : Int) 2 f ts 0 0 0 0) ((firstT A1 11 b (a.length + 1)).getD R) := fun hx => by
      have hih := ih (a ++ [t]) (by rw [hr]; simp) (fun s hs => by
        rcases List.mem_append.1 hs with h | h
        · exact ha s h
        · rw [List.mem_singleton.1 h]; exact hx)
      rw [List.length_append, List.length_singleton] at hih
      refine Ev.succ ?_
      simp only [dendronlaw08_check.l2, wr_succ a.length (show a.length ≤ 1125899906842624 by omega)]
      exact Ev.if_pos (by decide) (Ev.if_pos (by decide) (Ev.if_neg (by decide) hih))
    refine Ev.succ ?_
    simp only [dendronlaw08_check.l1]
    refine Ev.if_pos l1 (Ev.succ ?_)
    simp only [dendronlaw08_check.l2, e1]
    refine Ev.if_pos (by decide) (Ev.if_pos (by decide) (Ev.if_pos (by decide) (Ev.if_pos (nn0 _) (Ev.if_pos l1 (Ev.if_pos (by decide) (Ev.bind r1 ?_))))))
    cases hx : first (bad1 t) t.length 0 with
    | some j =>
      rw [firstT_some (show A1 t = some j by rw [hA, hx]; rfl)]
      exact Ev.if_pos (show (11 : Int) ≠ 0 by decide) (Ev.now _)
    | none =>
      have w1 : wrap64 (0 + 1) = 1 := by rw [wrap_id (by decide) (by decide)]; rfl
      have w2 : wrap64 (1 + 1) = 2 := by rw [wrap_id (by decide) (by decide)]; rfl
      rw [w1]
      refine Ev.if_neg (fun h => h rfl) (Ev.succ ?_)
      simp only [dendronlaw08_check.l2, e1, w2]
      refine Ev.if_pos (by decide) (Ev.if_pos (by decide) (Ev.if_pos (by decide) (Ev.if_pos (nn0 _) (Ev.if_pos l1 (Ev.if_pos (by decide) (Ev.bind r2 ?_))))))
      cases hy : first (bad2 t) t.length 0 with
      | some j =>
        rw [firstT_some (show A1 t = some j by rw [hA, hx, hy]; rfl)]
        exact Ev.if_pos (show (11 : Int) ≠ 0 by decide) (Ev.now _)
      | none =>
        have hn : A1 t = none := by rw [hA, hx, hy]; rfl
        rw [firstT_next hn]
        exact Ev.if_neg (fun h => h rfl) (hnext hn)
theorem lchk_l1_2 (f : Int) (ts : List (List Nd)) (hts : ts.length ≤ 64) (hlen : ∀ t ∈ ts, t.length ≤ 255) (hp : ∀ t ∈ ts, ∀ n ∈ t, NdOk n) (R : Int × Int × Int × Int)
    (hend : (∀ t ∈ ts, A2 t = none) → Ev (fun k => dendronlaw08_check.l0 k ord 3 f ts 0 0 0 0) R) : ∀ (b a : List (List Nd)), ts = a ++ b → (∀ t ∈ a, A2 t = none) →
    Ev (fun k => dendronlaw08_check.l1 k ord 2 (a.length : Int) f ts 0 0 0 0) ((firstT (A2) 12 b a.length).getD R) := by
  intro b
  induction b with
  | nil =>
    intro a hr ha
    rw [List.append_nil] at hr
    subst hr
    have w1 : wrap64 (2 + 1) = 3 := by rw [wrap_id (by decide) (by decide)]; rfl
    refine Ev.succ ?_
    simp only [dendronlaw08_check.l1, w1]
    exact Ev.if_neg (by omega) (hend ha)
  | cons t b ih =>
    intro a hr ha
    have e1 := gt_at [] a t b
    have l1 := lt_at a t b
    rw [← hr] at e1 l1
    have hl : ts.length = a.length + (b.length + 1) := by rw [hr, List.length_append, List.length_cons]
    have r1 : Ev (fun k => dendronlaw08_rule.f k t f 3) (ans 12 (-1) (A2 t)) := rule3_ev t f (hlen t (by rw [hr]; simp)) (hp t (by rw [hr]; simp))
    refine Ev.succ ?_
    simp only [dendronlaw08_check.l1]
    refine Ev.if_pos l1 (Ev.succ ?_)
    simp only [dendronlaw08_check.l2, e1]
    refine Ev.if_pos (by decide) (Ev.if_pos (by decide) (Ev.if_pos (by decide) (Ev.if_pos (nn0 _) (Ev.if_pos l1 (Ev.if_pos (by decide) (Ev.bind r1 ?_))))))
    cases hx : A2 t with
    | some j =>
      rw [firstT_some hx]
      exact Ev.if_pos (show (12 : Int) ≠ 0 by decide) (Ev.now _)
    | none =>
      rw [firstT_next hx]
      have hih := ih (a ++ [t]) (by rw [hr]; simp) (fun s hs => by
        rcases List.mem_append.1 hs with h | h
        · exact ha s h
        · rw [List.mem_singleton.1 h]; exact hx)
      rw [List.length_append, List.length_singleton] at hih
      have w1 : wrap64 (0 + 1) = 1 := by rw [wrap_id (by decide) (by decide)]; rfl
      rw [w1]
      refine Ev.if_neg (fun h => h rfl) (Ev.succ ?_)
      simp only [dendronlaw08_check.l2, wr_succ a.length (show a.length ≤ 1125899906842624 by omega)]
      exact Ev.if_pos (by decide) (Ev.if_pos (by decide) (Ev.if_neg (by decide) hih))
theorem lchk_l1_3 (f : Int) (ts : List (List Nd)) (hts : ts.length ≤ 64) (hlen : ∀ t ∈ ts, t.length ≤ 255) (hp : ∀ t ∈ ts, ∀ n ∈ t, NdOk n) (hrg : ∀ t ∈ ts, ∀ i, i < t.length → okR f t.length (nd t i)) (R : Int × Int × Int × Int)
    (hend : (∀ t ∈ ts, A3 t = none) → Ev (fun k => dendronlaw08_check.l0 k ord 4 f ts 0 0 0 0) R) : ∀ (b a : List (List Nd)), ts = a ++ b → (∀ t ∈ a, A3 t = none) →
    Ev (fun k => dendronlaw08_check.l1 k ord 3 (a.length : Int) f ts 0 0 0 0) ((firstT (A3) 13 b a.length).getD R) := by
  intro b
  induction b with
  | nil =>
    intro a hr ha
    rw [List.append_nil] at hr
    subst hr
    have w1 : wrap64 (3 + 1) = 4 := by rw [wrap_id (by decide) (by decide)]; rfl
    refine Ev.succ ?_
    simp only [dendronlaw08_check.l1, w1]
    exact Ev.if_neg (by omega) (hend ha)
  | cons t b ih =>
    intro a hr ha
    have e1 := gt_at [] a t b
    have l1 := lt_at a t b
    rw [← hr] at e1 l1
    have hl : ts.length = a.length + (b.length + 1) := by rw [hr, List.length_append, List.length_cons]
    have r1 : Ev (fun k => dendronlaw08_rule.f k t f 4) (ans 13 (-1) (A3 t)) := rule4_ev t f (hlen t (by rw [hr]; simp)) (hp t (by rw [hr]; simp)) (hrg t (by rw [hr]; simp))
    refine Ev.succ ?_
    simp only [dendronlaw08_check.l1]
    refine Ev.if_pos l1 (Ev.succ ?_)
    simp only [dendronlaw08_check.l2, e1]
    refine Ev.if_pos (by decide) (Ev.if_pos (by decide) (Ev.if_pos (by decide) (Ev.if_pos (nn0 _) (Ev.if_pos l1 (Ev.if_pos (by decide) (Ev.bind r1 ?_))))))
    cases hx : A3 t with
    | some j =>
      rw [firstT_some hx]
      exact Ev.if_pos (show (13 : Int) ≠ 0 by decide) (Ev.now _)
    | none =>
      rw [firstT_next hx]
      have hih := ih (a ++ [t]) (by rw [hr]; simp) (fun s hs => by
        rcases List.mem_append.1 hs with h | h
        · exact ha s h
        · rw [List.mem_singleton.1 h]; exact hx)
      rw [List.length_append, List.length_singleton] at hih
      have w1 : wrap64 (0 + 1) = 1 := by rw [wrap_id (by decide) (by decide)]; rfl
      rw [w1]
      refine Ev.if_neg (fun h => h rfl) (Ev.succ ?_)
      simp only [dendronlaw08_check.l2, wr_succ a.length (show a.length ≤ 1125899906842624 by omega)]
      exact Ev.if_pos (by decide) (Ev.if_pos (by decide) (Ev.if_neg (by decide) hih))
theorem lcheck_ev (f : Int) (ts : List (List Nd)) (hp : ∀ t ∈ ts, ∀ n ∈ t, NdOk n) : Ev (fun k => dendronlaw08_check.f k f ts) (checkF f ts) := by
  unfold dendronlaw08_check.f checkF
  refine Ev.bind (fits_ev f ts) ?_
  by_cases hf : fitM f ts
  · rw [if_pos hf]
    refine Ev.if_pos (decide_eq_true hf) ?_
    obtain ⟨g1, g2, g3, g4⟩ := hf
    have hlen : ∀ t ∈ ts, t.length ≤ 255 := fun t ht => (g4 t ht).2.1
    have c4 : Ev (fun k => dendronlaw08_check.l0 k ord 4 f ts 0 0 0 0) (0, 0, 0, 0) := by
      refine Ev.succ ?_
      simp only [dendronlaw08_check.l0]
      exact Ev.if_neg (by decide) (Ev.now _)
    have c3 : (∀ t ∈ ts, A0 f t = none) → Ev (fun k => dendronlaw08_check.l0 k ord 3 f ts 0 0 0 0) (C3 ts) := fun h0 => by
      refine Ev.succ ?_
      simp only [dendronlaw08_check.l0]
      exact Ev.if_pos (by decide) (lchk_l1_3 f ts g3 hlen hp (fun t ht => A0_rng (h0 t ht)) _ (fun _ => c4) ts [] rfl (fun t ht => by cases ht))
    have c2 : (∀ t ∈ ts, A0 f t = none) → Ev (fun k => dendronlaw08_check.l0 k ord 2 f ts 0 0 0 0) (C2 ts) := fun h0 => by
      refine Ev.succ ?_
      simp only [dendronlaw08_check.l0]
      exact Ev.if_pos (by decide) (lchk_l1_2 f ts g3 hlen hp _ (fun _ => c3 h0) ts [] rfl (fun t ht => by cases ht))
    have c1 : (∀ t ∈ ts, A0 f t = none) → Ev (fun k => dendronlaw08_check.l0 k ord 1 f ts 0 0 0 0) (C1 ts) := fun h0 => by
      refine Ev.succ ?_
      simp only [dendronlaw08_check.l0]
      exact Ev.if_pos (by decide) (lchk_l1_1 f ts g3 hlen _ (fun _ => c2 h0) ts [] rfl (fun t ht => by cases ht))
    refine Ev.succ ?_
    simp only [dendronlaw08_check.l0]
    exact Ev.if_pos (by decide) (lchk_l1_0 f ts g3 hlen _ c1 ts [] rfl (fun t ht => by cases ht))
  · rw [if_neg hf]
    exact Ev.if_neg (by simp [hf]) (Ev.now _)
end Go.DI.Th
namespace Go.DI.Th
open Go Go.RowKit Go.DI

theorem firstT_code {g : List Nd → Option Nat} {e : Int} : ∀ {ts : List (List Nd)} {i : Nat} {x : Int × Int × Int × Int}, firstT g e ts i = some x → x.1 = e
  | [], _, _, h => by cases h
  | s :: ts, i, x, h => by
    cases hg : g s with
    | some j => rw [firstT_some hg] at h; exact (Option.some.inj h) ▸ rfl
    | none => rw [firstT_next hg] at h; exact firstT_code h
theorem code_getD {g : List Nd → Option Nat} {e : Int} {ts : List (List Nd)} {i : Nat} {R : Int × Int × Int × Int} (he : e ≠ 0) (hR : R.1 = 0 → R = (0, 0, 0, 0)) : ((firstT g e ts i).getD R).1 = 0 → (firstT g e ts i).getD R = (0, 0, 0, 0) := by
  intro h
  cases hx : firstT g e ts i with
  | some x =>
    rw [hx] at h
    exact absurd ((firstT_code hx).symm.trans h) he
  | none =>
    rw [hx] at h
    exact hR h
theorem checkF_zero (f : Int) (ts : List (List Nd)) : (checkF f ts).1 = 0 → checkF f ts = (0, 0, 0, 0) := by
  unfold checkF
  split
  · unfold checkA C1 C2 C3
    exact code_getD (by decide) (code_getD (by decide) (code_getD (by decide) (code_getD (by decide) fun _ => rfl)))
  · intro h; cases h
theorem ok_eq (f : Int) (ts : List (List Nd)) : (((checkF f ts).1 == 0) && (((checkF f ts).2.1 == 0) && (((checkF f ts).2.2.1 == 0) && (((checkF f ts).2.2.2 == 0) && true)))) = ((checkF f ts).1 == 0) := by
  by_cases h : (checkF f ts).1 = 0
  · rw [checkF_zero f ts h]; rfl
  · have : ((checkF f ts).1 == 0) = false := beq_false_of_ne h
    rw [this]; rfl
theorem ok_ev (f : Int) (ts : List (List Nd)) (hp : ∀ t ∈ ts, ∀ n ∈ t, NdOk n) : Ev (fun k => valid_Ok.f k f ts) ((checkF f ts).1 == 0) := by
  unfold valid_Ok.f
  refine Ev.bind (check_ev f ts hp) ((Ev.now _).of_eq (ok_eq f ts))
def one8 : Rt := (false, [1], [1])
theorem one_ev : Ev (fun k => ratio_One.f k) one8 := by
  unfold ratio_One.f
  have h := rof_ev 1 (by decide) (by decide)
  have e : ((wl 1).1, (wl 1).2, lm 1) = one8 := by
    unfold wl one8
    rw [show (1 : Int).natAbs = 1 from rfl, lm_one (by decide) (by decide)]
    rfl
  rw [e] at h
  exact Ev.bind h (Ev.now _)
def awakeT : List Nd := [(false, 0, false, [], [], 1, 1, false, false, [], [], false, [1], [1]), (true, 0, false, [], [], 0, 0, false, false, [], [], false, [1], [1])]
theorem one8_ok : RtOk one8 := ⟨fun x hx => (by rw [List.mem_singleton.1 hx]; decide), fun x hx => (by rw [List.mem_singleton.1 hx]; decide), by decide, by decide⟩
theorem nil_ok : RtOk (false, [], []) := ⟨fun x hx => (by cases hx), fun x hx => (by cases hx), by decide, by decide⟩
theorem awakeT_ok : ∀ n ∈ awakeT, NdOk n := by
  intro n hn
  unfold awakeT at hn
  rcases List.mem_cons.1 hn with rfl | hn
  · exact ⟨nil_ok, nil_ok, one8_ok⟩
  · rw [List.mem_singleton.1 hn]
    exact ⟨nil_ok, nil_ok, one8_ok⟩
theorem awake08_ev : Ev (fun k => dendronlaw08_awake.f k) true := by
  unfold dendronlaw08_awake.f
  refine Ev.bind one_ev ?_
  have hc := check_ev 1 [awakeT] (fun t ht => by rw [List.mem_singleton.1 ht]; exact awakeT_ok)
  have e : checkF 1 [awakeT] = (11, 0, 0, 1) := by
    unfold checkF
    rw [if_pos (by decide)]
    unfold checkA
    have h0 : firstT (A0 1) 8 [awakeT] 0 = none := by decide +kernel
    have h1 : firstT A1 11 [awakeT] 0 = some (11, 0, 0, 1) := by decide +kernel
    unfold C1
    rw [h0, h1]
    rfl
  rw [e] at hc
  have ho := ok_ev 0 [] (fun t ht => by cases ht)
  have e2 : ((checkF 0 []).1 == 0) = true := by decide +kernel
  rw [e2] at ho
  exact Ev.bind hc (Ev.if_pos rfl (Ev.bind ho (Ev.now _)))
end Go.DI.Th
namespace Go.DI.Th
open Go Go.RowKit Go.DI

def vparse (x : ByteArray) : MR := if (readM x).2.2.1 ≠ 0 then (0, [], (readM x).2.2) else if (checkF (readM x).1 (readM x).2.1).1 ≠ 0 then (0, [], checkF (readM x).1 (readM x).2.1) else ((readM x).1, (readM x).2.1, 0, 0, 0, 0)
theorem vparse_ev (x : ByteArray) : Ev (fun k => valid_Parse.f k x) (vparse x) := by
  unfold valid_Parse.f vparse
  obtain ⟨h1, h2⟩ := readM_ok x
  refine Ev.bind (mread_ev x) ?_
  by_cases he : (readM x).2.2.1 ≠ 0
  · rw [if_pos he]
    exact Ev.if_pos he (Ev.now _)
  · rw [if_neg he]
    refine Ev.if_neg he (Ev.bind (check_ev (readM x).1 (readM x).2.1 h2) ?_)
    by_cases hc : (checkF (readM x).1 (readM x).2.1).1 ≠ 0
    · exact Ev.if_pos hc ((Ev.now _).of_eq (if_pos hc).symm)
    · exact Ev.if_neg hc ((Ev.now _).of_eq (if_neg hc).symm)
theorem nothing_ev : Ev (fun k => dendronref07_Same.f k 0 [] 0 []) true := same7_ev 0 [] ⟨Nat.zero_le _, fun t ht => (by cases ht)⟩ fun t ht => (by cases ht)
theorem four_same (x : Int × Int × Int × Int) : ((x.1 == x.1) && ((x.2.1 == x.2.1) && ((x.2.2.1 == x.2.2.1) && ((x.2.2.2 == x.2.2.2) && true)))) = true := by simp
theorem aw8 : Ev (fun k => (dendronlaw08_awake.f k).bind fun v => some v) true := Ev.bind awake08_ev (Ev.now _)
theorem parses_tail (x : ByteArray) : Ev (fun k => (valid_Parse.f k x).bind fun v5 => ((model_Read.f k x).bind fun v14 => (if v14.2.2.1 = 0 then ((dendronlaw08_check.f k v14.1 v14.2.1).bind fun v26 => (if v26.1 ≠ 0 then (if ((v5.2.2.1 == v26.1) && ((v5.2.2.2.1 == v26.2.1) && ((v5.2.2.2.2.1 == v26.2.2.1) && ((v5.2.2.2.2.2 == v26.2.2.2) && true)))) = true then ((dendronref07_Same.f k v5.1 v5.2.1 0 ([] : List (List (Nd)))).bind fun v37 => (if v37 = true then ((dendronlaw08_awake.f k).bind fun v40 => (some v40)) else (some false))) else (some false)) else (if ((v5.2.2.1 == v26.1) && ((v5.2.2.2.1 == v26.2.1) && ((v5.2.2.2.2.1 == v26.2.2.1) && ((v5.2.2.2.2.2 == v26.2.2.2) && true)))) = true then ((dendronref07_Same.f k v5.1 v5.2.1 v14.1 v14.2.1).bind fun v37 => (if v37 = true then ((dendronlaw08_awake.f k).bind fun v40 => (some v40)) else (some false))) else (some false)))) else (if v14.2.2.1 ≠ 0 then (if ((v5.2.2.1 == v14.2.2.1) && ((v5.2.2.2.1 == v14.2.2.2.1) && ((v5.2.2.2.2.1 == v14.2.2.2.2.1) && ((v5.2.2.2.2.2 == v14.2.2.2.2.2) && true)))) = true then ((dendronref07_Same.f k v5.1 v5.2.1 0 ([] : List (List (Nd)))).bind fun v34 => (if v34 = true then ((dendronlaw08_awake.f k).bind fun v37 => (some v37)) else (some false))) else (some false)) else (if ((v5.2.2.1 == v14.2.2.1) && ((v5.2.2.2.1 == v14.2.2.2.1) && ((v5.2.2.2.2.1 == v14.2.2.2.2.1) && ((v5.2.2.2.2.2 == v14.2.2.2.2.2) && true)))) = true then ((dendronref07_Same.f k v5.1 v5.2.1 v14.1 v14.2.1).bind fun v34 => (if v34 = true then ((dendronlaw08_awake.f k).bind fun v37 => (some v37)) else (some false))) else (some false)))))) true := by
  obtain ⟨h1, h2⟩ := readM_ok x
  refine Ev.bind (vparse_ev x) (Ev.bind (mread_ev x) ?_)
  unfold vparse
  by_cases he : (readM x).2.2.1 ≠ 0
  · rw [if_pos he]
    exact Ev.if_neg he (Ev.if_pos he (Ev.if_pos (four_same (readM x).2.2) (Ev.bind nothing_ev (Ev.if_pos rfl aw8))))
  · rw [if_neg he]
    refine Ev.if_pos (Classical.not_not.1 he) (Ev.bind (lcheck_ev (readM x).1 (readM x).2.1 h2) ?_)
    by_cases hc : (checkF (readM x).1 (readM x).2.1).1 ≠ 0
    · rw [if_pos hc]
      exact Ev.if_pos hc (Ev.if_pos (four_same _) (Ev.bind nothing_ev (Ev.if_pos rfl aw8)))
    · rw [if_neg hc]
      have e := checkF_zero _ _ (Classical.not_not.1 hc)
      rw [e]
      exact Ev.if_neg (fun h => h rfl) (Ev.if_pos rfl (Ev.bind (same7_ev _ _ h1 h2) (Ev.if_pos rfl aw8)))
theorem validParses_ev (x : ByteArray) : Ev (fun k => dendronlaw08_ValidParses.f k x) true := by
  unfold dendronlaw08_ValidParses.f
  by_cases h : (x.size : Int) > 4000
  · exact Ev.if_pos h (Ev.if_pos (by omega) (parses_tail _))
  · exact Ev.if_neg h (parses_tail x)
end Go.DI.Th
