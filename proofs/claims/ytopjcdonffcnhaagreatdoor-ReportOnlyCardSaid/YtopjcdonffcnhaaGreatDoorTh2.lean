/- What the told functions answer, part 2. No condition. -/
import Derived.Test.YtopjcdonffcnhaaGreatDoorTh1
set_option linter.all false
namespace Go.DI.Th
open Go Go.RowKit Go.DI

def sgQ (neg : Bool) (x : Rat) : Rat := if neg = true then -x else x
theorem Sz_sgQ (neg : Bool) (x : Rat) : Sz (sgQ neg x) = Sz x := by
  unfold sgQ
  split
  · exact Sz_neg x
  · rfl
def unm (w : List UInt8) : Bool × List UInt8 := if isPre 45 w = true then (true, w.drop 1) else (false, w)
def prE (w : List UInt8) : Int := plE (unm w).2
def prV (w : List UInt8) : Rat := sgQ (unm w).1 (plV (unm w).2)
theorem plV_sz {w : List UInt8} (h : plE w = 0) : Sz (plV w) ≤ 20100 := by
  unfold plE at h
  unfold plV
  cases h1 : cutL 47 w with
  | some p =>
    obtain ⟨a, b⟩ := p
    rw [h1] at h
    dsimp only at h ⊢
    by_cases ha : pE a = 0
    · rw [if_neg (fun e => e ha)] at h
      by_cases hb : pE b = 0
      · rw [if_neg (fun e => e hb)] at h
        by_cases h0 : dgv 0 b = 0
        · rw [if_pos h0] at h; cases h
        · have := Sz_mk (dgv 0 a : Int) (dgv 0 b) h0
          rw [Int.natAbs_natCast] at this
          have la := pE_len ha
          have lb := pE_len hb
          omega
      · rw [if_pos hb] at h; exact absurd h hb
    · rw [if_pos ha] at h; exact absurd h ha
  | none =>
    rw [h1] at h
    dsimp only at h ⊢
    cases h2 : cutL 46 w with
    | some p =>
      obtain ⟨a, b⟩ := p
      rw [h2] at h
      dsimp only at h ⊢
      by_cases ha : pE a = 0
      · rw [if_neg (fun e => e ha)] at h
        have := Sz_mk ((dgv 0 a * 10 ^ b.length + dgv 0 b : Nat) : Int) (10 ^ b.length) (Nat.pos_iff_ne_zero.1 (Nat.pow_pos (by decide)))
        rw [Int.natAbs_natCast] at this
        have la := pE_len ha
        have lb := pE_len h
        have hbl := (pE_zero.1 h).2.2
        have lt := len_ten b.length
        have lm1 := len_mul (dgv 0 a) (10 ^ b.length)
        have la2 := len_add (dgv 0 a * 10 ^ b.length) (dgv 0 b)
        omega
      · rw [if_pos ha] at h; exact absurd h ha
    | none =>
      rw [h2] at h
      dsimp only at h ⊢
      rw [Sz_int, Int.natAbs_natCast]
      have la := pE_len h
      omega
theorem prV_sz {w : List UInt8} (h : prE w = 0) : Sz (prV w) ≤ 20100 := by
  unfold prV
  rw [Sz_sgQ]
  exact plV_sz h
theorem unm_drop {s : ByteArray} (h : isPre 45 (toL s) = true) : s.extract 1 s.size = ofL ((toL s).drop 1) ∧ 1 ≤ s.size := by
  cases hw : toL s with
  | nil => rw [hw] at h; cases h
  | cons c t =>
    have e : s.extract ([c] : List UInt8).length s.size = ofL t := ext_drop (a := [c]) (b := t) hw
    refine ⟨e, ?_⟩
    have := size_toL s
    rw [hw, List.length_cons] at this
    omega
theorem rparse_ev (s : ByteArray) (hs : s.size ≤ 1125899906842624) : Ev (fun k => ratio_Parse.f k s) (rR (prE (toL s)) (prV (toL s))) := by
  unfold ratio_Parse.f
  rw [prefix_ev]
  unfold prE prV unm
  by_cases hp : isPre 45 (toL s) = true
  · rw [if_pos hp, hp]
    obtain ⟨e1, e2⟩ := unm_drop hp
    rw [e1]
    have hsz : (ofL ((toL s).drop 1)).size ≤ 1125899906842624 := by
      rw [size_toL, toL_ofL, List.length_drop, ← size_toL]
      omega
    have h1 := plain_ev (ofL ((toL s).drop 1)) hsz
    rw [toL_ofL] at h1
    refine Ev.bind (Ev.now true) (Ev.if_pos rfl (Ev.if_pos (by omega) (Ev.bind h1 ?_)))
    dsimp only
    have hsz := plV_sz (w := (toL s).drop 1)
    generalize plE ((toL s).drop 1) = e at hsz ⊢
    generalize plV ((toL s).drop 1) = x at hsz ⊢
    unfold rR
    by_cases h0 : e = 0
    · rw [if_pos h0, if_pos h0]
      have hn := neg_cn (cn x) (cnB x (hsz h0)) (by decide)
      rw [rv_cn] at hn
      exact Ev.if_neg (fun h => h rfl) (Ev.bind hn (Ev.now _))
    · rw [if_neg h0, if_neg h0]
      exact Ev.if_pos h0 (Ev.now _)
  · rw [if_neg hp]
    have hp' : isPre 45 (toL s) = false := by simpa using hp
    rw [hp']
    refine Ev.bind (Ev.now false) (Ev.if_neg (by decide) (Ev.bind (plain_ev s hs) ?_))
    dsimp only
    generalize plE (toL s) = e
    generalize plV (toL s) = x
    unfold rR
    by_cases h0 : e = 0
    · rw [if_pos h0, if_pos h0]
      exact Ev.if_neg (fun h => h rfl) (Ev.now _)
    · rw [if_neg h0, if_neg h0]
      exact Ev.if_pos h0 (Ev.now _)
end Go.DI.Th
namespace Go.DI.Th
open Go Go.RowKit Go.DI

def pickL (s : St) (place : Int) (w : ByteArray) : List ByteArray → Nat → Int × St
  | [], _ => (0, failS s 7 place)
  | x :: l, i => if w = x then ((i : Int), s) else pickL s place w l (i + 1)
def pickS (s : St) (l : List ByteArray) : Int × St := if (wordS s).2.err ≠ 0 then (0, (wordS s).2) else pickL (wordS s).2 (placeS s) (wordS s).1 l 0
theorem pick_l0 (s : St) (place : Int) (w : ByteArray) (ws : List ByteArray) (hw : ws.length ≤ 1000) : ∀ (b a : List ByteArray), ws = a ++ b → Ev (fun k => lex_Reader_Pick.l0 k place w ws (ws.length : Int) (a.length : Int) s.ls s.i s.j s.sz s.err s.at_) ((pickL s place w b a.length).1, (pickL s place w b a.length).2.t) := by
  intro b
  induction b with
  | nil =>
    intro a hr
    rw [List.append_nil] at hr
    refine Ev.succ ?_
    simp only [lex_Reader_Pick.l0, fail_eq]
    exact Ev.if_neg (by rw [hr]; omega) (Ev.now _)
  | cons x b ih =>
    intro a hr
    have e1 := gt_at ByteArray.empty a x b
    have l1 := lt_at a x b
    rw [← hr] at e1 l1
    have hl : ws.length = a.length + (b.length + 1) := by rw [hr, List.length_append, List.length_cons]
    have hih := ih (a ++ [x]) (by rw [hr]; simp)
    refine Ev.succ ?_
    simp only [lex_Reader_Pick.l0, e1, wr_at a x (show a.length ≤ 1125899906842624 by omega)]
    refine Ev.if_pos l1 (Ev.if_pos (nn0 _) (Ev.if_pos l1 ?_))
    rw [pickL]
    by_cases h : w = x
    · rw [if_pos h]
      exact Ev.if_pos h (Ev.now _)
    · rw [if_neg h]
      rw [List.length_append, List.length_singleton] at hih ⊢
      exact Ev.if_neg h hih
theorem pick_ev (s : St) (h : s.Good) (ws : List ByteArray) (hw : ws.length ≤ 1000) : Ev (fun k => lex_Reader_Pick.f k s.ls s.i s.j s.sz s.err s.at_ ws) ((pickS s ws).1, (pickS s ws).2.t) := by
  unfold lex_Reader_Pick.f pickS
  rw [place_eq s h.ok h.l1]
  show Ev (fun k => (lex_Reader_Word.f s.ls s.i s.j s.sz s.err s.at_).bind _) _
  rw [word_eq s h.ok h.l1]
  generalize wordS s = p
  obtain ⟨v, s2⟩ := p
  show Ev (fun k => if (s2.err != 0) = true then some (0, s2.t) else lex_Reader_Pick.l0 k (placeS s) v ws (ws.length : Int) 0 s2.ls s2.i s2.j s2.sz s2.err s2.at_) _
  by_cases he : s2.err ≠ 0
  · rw [if_pos he]
    exact Ev.if_pos (by simpa using he) (Ev.now _)
  · rw [if_neg he]
    exact Ev.if_neg (by simpa using he) (pick_l0 s2 (placeS s) v ws hw ws [] rfl)
theorem pickL_good {s : St} (h : s.Good) (place : Int) (w : ByteArray) : ∀ (l : List ByteArray) (i : Nat), (pickL s place w l i).2.Good
  | [], _ => failS_good h _ _
  | x :: l, i => by
    rw [pickL]
    split
    · exact h
    · exact pickL_good h place w l (i + 1)
theorem pickS_good {s : St} (h : s.Good) (l : List ByteArray) : (pickS s l).2.Good := by
  unfold pickS
  split
  · exact wordS_good h
  · exact pickL_good (wordS_good h) _ _ _ _
def FailS (s : St) (e : Int) : St := if s.err ≠ 0 then s else if e = 0 then s else if s.ls.length ≤ s.i then s else if s.j = 0 then s else failS s e (s.line.getD (s.j - 1) w0).1
theorem Fail_eq (s : St) (h : s.Good) (e : Int) : lex_Reader_Fail.f s.ls s.i s.j s.sz s.err s.at_ e = some (FailS s e).t := by
  unfold lex_Reader_Fail.f FailS
  rw [off_eq]
  show (if (s.err != 0) = true then some s.t else if e = 0 then some s.t else if (s.i : Int) ≥ (s.ls.length : Int) then some s.t else if (s.j : Int) = 0 then some s.t else (if 0 ≤ (s.i : Int) then (if (s.i : Int) < (s.ls.length : Int) then (if 0 ≤ (wrap64 ((s.j : Int) - 1)) then (if (wrap64 ((s.j : Int) - 1)) < (s.line.length : Int) then ((lex_Reader_fail.f s.ls s.i s.j s.sz s.err s.at_ e ((gt (0, 0, ByteArray.empty) s.line (wrap64 ((s.j : Int) - 1))).1)).bind fun v45 => some v45) else none) else none) else none) else none)) = _
  by_cases he : s.err ≠ 0
  · rw [if_pos (by simpa using he), if_pos he]
  · rw [if_neg (by simpa using he), if_neg he]
    by_cases h0 : e = 0
    · rw [if_pos h0, if_pos h0]
    · rw [if_neg h0, if_neg h0]
      by_cases hi : s.ls.length ≤ s.i
      · rw [if_pos (by omega), if_pos hi]
      · rw [if_neg (by omega), if_neg hi]
        by_cases hj : s.j = 0
        · rw [if_pos (by omega), if_pos hj]
        · have hjl := h.ok.jl
          have hjb := h.ok.jb
          have q1 : (s.i : Int) < (s.ls.length : Int) := by omega
          have q2 : ((s.j - 1 : Nat) : Int) < (s.line.length : Int) := by omega
          have ew : wrap64 ((s.j : Int) - 1) = ((s.j - 1 : Nat) : Int) := by rw [wrap_id (by omega) (by omega)]; omega
          have q3 : ¬ (s.j : Int) = 0 := by clear ew; omega
          rw [if_neg q3, if_neg hj, ew, if_pos (nn0 _), if_pos q1, if_pos (nn0 _), if_pos q2, gt_nat, fail_eq]
          rfl
theorem FailS_good {s : St} (h : s.Good) (e : Int) : (FailS s e).Good := by
  unfold FailS
  split
  · exact h
  · split
    · exact h
    · split
      · exact h
      · split
        · exact h
        · exact failS_good h _ _
theorem word_err {s : St} (h : s.err ≠ 0) : wordS s = (ByteArray.empty, s) := by unfold wordS; rw [if_pos h]
theorem take_err {s : St} (h : s.err ≠ 0) (w : ByteArray) : takeS s w = s := by unfold takeS; rw [word_err h]; exact if_pos h
theorem next_err {s : St} (h : s.err ≠ 0) : nextS s = s := by unfold nextS; rw [if_pos h]
theorem end_err {s : St} (h : s.err ≠ 0) : endS s = s := by unfold endS; rw [if_pos h]
theorem count_err {s : St} (h : s.err ≠ 0) (lo hi : Int) : countS s lo hi = (0, s) := by unfold countS; rw [word_err h]; exact if_pos h
theorem pick_err {s : St} (h : s.err ≠ 0) (l : List ByteArray) : pickS s l = (0, s) := by unfold pickS; rw [word_err h]; exact if_pos h
theorem Fail_err {s : St} (h : s.err ≠ 0) (e : Int) : FailS s e = s := by unfold FailS; rw [if_pos h]
def numS (s : St) : Rt × St := (if prE (toL (wordS s).1) = 0 then cn (prV (toL (wordS s).1)) else (false, [], []), FailS (wordS s).2 (prE (toL (wordS s).1)))
theorem numS_ok (s : St) : RtOk (numS s).1 := by
  unfold numS
  dsimp only
  by_cases h : prE (toL (wordS s).1) = 0
  · rw [if_pos h]
    exact cnB (b := 1048576) _ (Nat.le_trans (prV_sz h) (by decide))
  · rw [if_neg h]
    exact ⟨fun x hx => (by cases hx), fun x hx => (by cases hx), by decide, by decide⟩
theorem countS_range (s : St) (lo hi : Int) (h0 : 0 ≤ lo) (h1 : 0 ≤ hi) : 0 ≤ (countS s lo hi).1 ∧ (countS s lo hi).1 ≤ hi := by
  unfold countS
  split
  · exact ⟨Int.le_refl _, h1⟩
  · split
    · split
      · exact ⟨Int.le_refl _, h1⟩
      · split
        · exact ⟨Int.le_refl _, h1⟩
        · constructor <;> (show _ ≤ _; omega)
    · exact ⟨Int.le_refl _, h1⟩
end Go.DI.Th
namespace Go.DI.Th
open Go Go.RowKit Go.DI

end Go.DI.Th
namespace Go.DI.Th
open Go Go.RowKit Go.DI

def prX (x : Rat) : ByteArray := prQ x.num x.den
def Rd (x : Rat) : Prop := prE (toL (prX x)) = 0 ∧ prV (toL (prX x)) = x
end Go.DI.Th
namespace Go.DI.Th
open Go Go.RowKit Go.DI

def wds (l : List W) : List (List UInt8) := l.map fun w => toL w.2.2
structure Cur (s : St) (ws : List (List UInt8)) (rest : List (List (List UInt8))) : Prop where
  good : s.Good
  err : s.err = 0
  il : s.i < s.ls.length
  cur : wds (s.line.drop s.j) = ws
  nxt : (s.ls.drop (s.i + 1)).map wds = rest
theorem Cur.word {s : St} {w : List UInt8} {ws : List (List UInt8)} {rest : List (List (List UInt8))} (h : Cur s (w :: ws) rest) : ∃ s', wordS s = (ofL w, s') ∧ Cur s' ws rest := by
  have hne : ¬ s.err ≠ 0 := fun e => e h.err
  have hlen := congrArg List.length h.cur
  unfold wds at hlen
  rw [List.length_map, List.length_drop, List.length_cons] at hlen
  have hj : s.j < s.line.length := by omega
  have hm : moreS s := ⟨h.err, h.il, hj⟩
  have hd : s.line.drop s.j = s.line.getD s.j w0 :: s.line.drop (s.j + 1) := by
    rw [List.drop_eq_getElem_cons hj, List.getD_eq_getElem?_getD, List.getElem?_eq_getElem hj]
    rfl
  have hc := h.cur
  rw [hd] at hc
  have h1 : toL (s.line.getD s.j w0).2.2 = w := (List.cons.inj hc).1
  have h2 : wds (s.line.drop (s.j + 1)) = ws := (List.cons.inj hc).2
  have hg := wordS_good h.good
  refine ⟨{ s with j := s.j + 1 }, ?_, ?_⟩
  · unfold wordS
    rw [if_neg hne, if_pos hm]
    rw [← h1, ofL_toL]
  · have e : (wordS s).2 = { s with j := s.j + 1 } := by unfold wordS; rw [if_neg hne, if_pos hm]
    rw [e] at hg
    exact ⟨hg, h.err, h.il, h2, h.nxt⟩
theorem Cur.take {s : St} {w : ByteArray} {ws : List (List UInt8)} {rest : List (List (List UInt8))} (h : Cur s (toL w :: ws) rest) : Cur (takeS s w) ws rest := by
  obtain ⟨s', e, c⟩ := h.word
  unfold takeS
  rw [e]
  dsimp only
  rw [if_neg (fun h => h c.err), ofL_toL, if_neg (fun h => h rfl)]
  exact c
theorem Cur.num {s : St} {x : Rat} {ws : List (List UInt8)} {rest : List (List (List UInt8))} (h : Cur s (toL (prX x) :: ws) rest) (hx : Rd x) : (numS s).1 = cn x ∧ Cur (numS s).2 ws rest := by
  obtain ⟨s', e, c⟩ := h.word
  unfold numS
  rw [e]
  dsimp only
  rw [toL_ofL, hx.1, hx.2, if_pos rfl]
  refine ⟨rfl, ?_⟩
  unfold FailS
  rw [if_neg (fun h => h c.err), if_pos rfl]
  exact c
theorem Cur.more {s : St} {rest : List (List (List UInt8))} (h : Cur s [] rest) : ¬ moreS s := fun hm => by
  have hlen := congrArg List.length h.cur
  unfold wds at hlen
  rw [List.length_map, List.length_drop, List.length_nil] at hlen
  have := hm.2.2
  omega
theorem Cur.next {s : St} {l : List (List UInt8)} {rest : List (List (List UInt8))} (h : Cur s [] (l :: rest)) : Cur (nextS s) l rest := by
  have hne : ¬ s.err ≠ 0 := fun e => e h.err
  have hlen := congrArg List.length h.nxt
  rw [List.length_map, List.length_drop, List.length_cons] at hlen
  have hi : s.i + 1 < s.ls.length := by omega
  have hd : s.ls.drop (s.i + 1) = s.ls.getD (s.i + 1) [] :: s.ls.drop (s.i + 1 + 1) := by
    rw [List.drop_eq_getElem_cons hi, List.getD_eq_getElem?_getD, List.getElem?_eq_getElem hi]
    rfl
  have hc := h.nxt
  rw [hd] at hc
  have h1 : wds (s.ls.getD (s.i + 1) []) = l := (List.cons.inj hc).1
  have h2 : (s.ls.drop (s.i + 1 + 1)).map wds = rest := (List.cons.inj hc).2
  have hg := nextS_good h.good
  have e : nextS s = { s with i := s.i + 1, j := 0 } := by
    unfold nextS
    rw [if_neg hne, if_neg h.more, if_neg (by have := h.il; omega)]
  rw [e] at hg ⊢
  exact ⟨hg, h.err, hi, h1, h2⟩
structure CurE (s : St) : Prop where
  good : s.Good
  err : s.err = 0
  il : s.i = s.ls.length
theorem CurE.done {s : St} (h : CurE s) : endS s = s := by
  unfold endS
  rw [if_neg (fun e => e h.err), if_neg (by have := h.il; omega)]
def CurL (s : St) (L : List (List (List UInt8))) : Prop := ∃ l rest, L = l :: rest ∧ Cur s l rest
theorem CurL.of {s : St} {l : List (List UInt8)} {rest : List (List (List UInt8))} (h : Cur s l rest) : CurL s (l :: rest) := ⟨l, rest, rfl, h⟩
theorem CurL.err {s : St} {L : List (List (List UInt8))} (h : CurL s L) : s.err = 0 := by
  obtain ⟨_, _, _, c⟩ := h
  exact c.err
end Go.DI.Th
namespace Go.DI.Th
open Go Go.RowKit Go.DI

end Go.DI.Th
namespace Go.DI.Th
open Go Go.RowKit Go.DI

def wz : List W → Nat
  | [] => 0
  | w :: l => w.2.2.size + 1 + wz l
theorem wz_append : ∀ a b : List W, wz (a ++ b) = wz a + wz b
  | [], b => by rw [List.nil_append, wz]; omega
  | w :: a, b => by rw [List.cons_append, wz, wz, wz_append a b]; omega
theorem wz_shift (n pos : Nat) : ∀ l : List W, wz (l.map (shiftW n pos)) = wz l
  | [] => rfl
  | w :: l => by rw [List.map_cons, wz, wz, wz_shift n pos l]; rfl
def lz : List (List W) → Nat
  | [] => 0
  | l :: r => wz l + lz r
theorem lz_append : ∀ a b : List (List W), lz (a ++ b) = lz a + lz b
  | [], b => by rw [List.nil_append, lz]; omega
  | w :: a, b => by rw [List.cons_append, lz, lz, lz_append a b]; omega
def rem (s : St) : Nat := wz (s.line.drop s.j) + lz (s.ls.drop (s.i + 1))
theorem failS_err {s : St} {e a : Int} (he : e ≠ 0) : (failS s e a).err ≠ 0 := by
  unfold failS
  by_cases h : s.err ≠ 0
  · rw [if_pos h]; exact h
  · rw [if_neg h]; exact he
theorem word_rem {s : St} (h : (wordS s).2.err = 0) : s.err = 0 ∧ moreS s ∧ (wordS s).2.i = s.i ∧ 1 ≤ (wordS s).2.j ∧ (wordS s).2.ls = s.ls ∧ rem (wordS s).2 + (wordS s).1.size + 1 = rem s := by
  unfold wordS at h ⊢
  by_cases he : s.err ≠ 0
  · rw [if_pos he] at h; exact absurd h he
  · rw [if_neg he] at h ⊢
    by_cases hm : moreS s
    · rw [if_pos hm]
      refine ⟨hm.1, hm, rfl, by show 1 ≤ s.j + 1; omega, rfl, ?_⟩
      have hj := hm.2.2
      have e : s.line.drop s.j = s.line.getD s.j w0 :: s.line.drop (s.j + 1) := by
        rw [List.getD_eq_getElem?_getD, List.getElem?_eq_getElem hj]
        exact List.drop_eq_getElem_cons hj
      show wz (s.line.drop (s.j + 1)) + lz (s.ls.drop (s.i + 1)) + (s.line.getD s.j w0).2.2.size + 1 = wz (s.line.drop s.j) + lz (s.ls.drop (s.i + 1))
      rw [e, wz]
      omega
    · rw [if_neg hm] at h
      exact absurd h (failS_err (by decide))
theorem take_rem {s : St} {w : ByteArray} (h : (takeS s w).err = 0) : s.err = 0 ∧ rem (takeS s w) + 1 ≤ rem s := by
  unfold takeS at h ⊢
  by_cases he : (wordS s).2.err ≠ 0
  · rw [if_pos he] at h; exact absurd h he
  · rw [if_neg he] at h ⊢
    by_cases hw : (wordS s).1 ≠ w
    · rw [if_pos hw] at h; exact absurd h (failS_err (by decide))
    · rw [if_neg hw] at h ⊢
      obtain ⟨a, _, _, _, _, b⟩ := word_rem h
      exact ⟨a, by omega⟩
theorem next_rem {s : St} (h : (nextS s).err = 0) : s.err = 0 ∧ rem (nextS s) ≤ rem s := by
  unfold nextS at h ⊢
  by_cases he : s.err ≠ 0
  · rw [if_pos he] at h; exact absurd h he
  · rw [if_neg he] at h ⊢
    by_cases hm : moreS s
    · rw [if_pos hm] at h; exact absurd h (failS_err (by decide))
    · rw [if_neg hm] at h ⊢
      by_cases hl : s.ls.length ≤ s.i
      · rw [if_pos hl] at h; exact absurd h (failS_err (by decide))
      · rw [if_neg hl]
        refine ⟨by omega, ?_⟩
        show wz ((s.ls.getD (s.i + 1) []).drop 0) + lz (s.ls.drop (s.i + 1 + 1)) ≤ wz (s.line.drop s.j) + lz (s.ls.drop (s.i + 1))
        by_cases h2 : s.i + 1 < s.ls.length
        · rw [List.drop_eq_getElem_cons h2, lz, List.getD_eq_getElem?_getD, List.getElem?_eq_getElem h2]
          show wz (s.ls[s.i + 1].drop 0) + _ ≤ _
          rw [List.drop_zero]
          omega
        · rw [List.getD_eq_getElem?_getD, List.getElem?_eq_none (by omega), List.drop_of_length_le (show s.ls.length ≤ s.i + 1 + 1 by omega)]
          exact Nat.zero_le _
theorem end_rem {s : St} (h : (endS s).err = 0) : s.err = 0 := by
  unfold endS at h
  by_cases he : s.err ≠ 0
  · rw [if_pos he] at h; exact absurd h he
  · omega
theorem count_rem {s : St} {lo hi : Int} (h : (countS s lo hi).2.err = 0) : s.err = 0 ∧ lo ≤ (countS s lo hi).1 ∧ (countS s lo hi).1 ≤ hi ∧ rem (countS s lo hi).2 + 1 ≤ rem s := by
  unfold countS at h ⊢
  by_cases he : (wordS s).2.err ≠ 0
  · rw [if_pos he] at h; exact absurd h he
  · rw [if_neg he] at h ⊢
    cases hs : smallS (toL (wordS s).1) with
    | none =>
      rw [hs] at h
      exact absurd h (failS_err (by decide))
    | some n =>
      rw [hs] at h
      dsimp only at h ⊢
      by_cases c1 : (n : Int) < lo
      · rw [if_pos c1] at h; exact absurd h (failS_err (by decide))
      · rw [if_neg c1] at h ⊢
        by_cases c2 : (n : Int) > hi
        · rw [if_pos c2] at h; exact absurd h (failS_err (by decide))
        · rw [if_neg c2] at h ⊢
          obtain ⟨a, _, _, _, _, b⟩ := word_rem h
          refine ⟨a, by show lo ≤ (n : Int); omega, by show (n : Int) ≤ hi; omega, ?_⟩
          show rem (wordS s).2 + 1 ≤ rem s
          omega
theorem pickL_rem {s : St} {p : Int} {w : ByteArray} : ∀ {l : List ByteArray} {i : Nat}, (pickL s p w l i).2.err = 0 → (pickL s p w l i).2 = s
  | [], _, h => absurd h (failS_err (by decide))
  | x :: l, i, h => by
    rw [pickL] at h ⊢
    by_cases e : w = x
    · rw [if_pos e]
    · rw [if_neg e] at h ⊢
      exact pickL_rem h
theorem pick_rem {s : St} {l : List ByteArray} (h : (pickS s l).2.err = 0) : s.err = 0 ∧ rem (pickS s l).2 + 1 ≤ rem s := by
  unfold pickS at h ⊢
  by_cases he : (wordS s).2.err ≠ 0
  · rw [if_pos he] at h; exact absurd h he
  · rw [if_neg he] at h ⊢
    have e := pickL_rem h
    rw [e] at h ⊢
    obtain ⟨a, _, _, _, _, b⟩ := word_rem h
    exact ⟨a, by omega⟩
theorem Fail_zero {s : St} {e : Int} (hs : s.err = 0) (hi : s.i < s.ls.length) (hj : 1 ≤ s.j) (h : (FailS s e).err = 0) : e = 0 ∧ FailS s e = s := by
  unfold FailS at h ⊢
  rw [if_neg (by omega)] at h ⊢
  by_cases e0 : e = 0
  · rw [if_pos e0]; exact ⟨e0, rfl⟩
  · rw [if_neg e0, if_neg (by omega), if_neg (by omega)] at h
    exact absurd h (failS_err e0)
end Go.DI.Th
namespace Go.DI.Th
open Go Go.RowKit Go.DI

def ll (t : List Nd) : Nat := (textW (t.map lineW)).length
theorem wordsS_wz : ∀ (n : Nat) (cs : List UInt8) (acc : List W) (pos : Nat), cs.length ≤ n → wz (wordsS acc pos cs).1 ≤ wz acc + 2 * cs.length := by
  intro n
  induction n with
  | zero =>
    intro cs acc pos hn
    have : cs = [] := List.eq_nil_of_length_eq_zero (by omega)
    subst this
    rw [wordsS]
    exact Nat.le_refl _
  | succ n ih =>
    intro cs acc pos hn
    cases cs with
    | nil => rw [wordsS]; exact Nat.le_refl _
    | cons c r =>
      rw [List.length_cons] at hn ⊢
      rw [wordsS]
      split
      · have := ih r acc (pos + 1) (by omega)
        omega
      · split
        · show wz acc ≤ _; omega
        · split
          · split
            · exact Nat.zero_le _
            · have hsplit := congrArg List.length (List.takeWhile_append_dropWhile (p := inw) (l := r))
              rw [List.length_append] at hsplit
              have := ih (r.dropWhile inw) (acc ++ [((pos : Int), 0, ofL (c :: r.takeWhile inw))]) (pos + (c :: r.takeWhile inw).length) (by omega)
              rw [wz_append, wz, wz] at this
              have e : (ofL (c :: r.takeWhile inw)).size = (r.takeWhile inw).length + 1 := by rw [size_toL, toL_ofL, List.length_cons]
              have e2 : (((pos : Int), (0 : Int), ofL (c :: r.takeWhile inw)) : W).2.2.size = (r.takeWhile inw).length + 1 := e
              rw [e2] at this
              omega
          · exact Nat.zero_le _
theorem linesS_lz : ∀ (m : Nat) (cs : List UInt8) (acc : List (List W)) (n pos : Nat), cs.length ≤ m → lz (linesS acc n pos cs).1 ≤ lz acc + 2 * cs.length := by
  intro m
  induction m using Nat.strongRecOn with
  | ind m ih =>
    intro cs acc n pos hm
    have hlen := congrArg List.length (List.takeWhile_append_dropWhile (p := nnl) (l := cs))
    rw [List.length_append] at hlen
    have hw := wordsS_wz _ (cs.takeWhile nnl) [] 0 (Nat.le_refl _)
    have hz : wz ([] : List W) = 0 := rfl
    rw [hz] at hw
    have hacc : lz (if (wordsS [] 0 (cs.takeWhile nnl)).1.length > 0 then acc ++ [(wordsS [] 0 (cs.takeWhile nnl)).1.map (shiftW n pos)] else acc) ≤ lz acc + 2 * (cs.takeWhile nnl).length := by
      split
      · rw [lz_append, lz, lz, wz_shift]; omega
      · omega
    rw [linesS]
    split
    · exact Nat.zero_le _
    · split
      · exact Nat.zero_le _
      · split
        · show lz (if _ then _ else _) ≤ _
          omega
        · rename_i c r hd
          rw [hd, List.length_cons] at hlen
          have := ih r.length (by omega) r (if (wordsS [] 0 (cs.takeWhile nnl)).1.length > 0 then acc ++ [(wordsS [] 0 (cs.takeWhile nnl)).1.map (shiftW n pos)] else acc) (n + 1) (pos + (cs.takeWhile nnl).length + 1) (Nat.le_refl _)
          omega
theorem read_rem (x : ByteArray) : rem (readS x) ≤ 2 * x.size := by
  have h : lz (linesT x).1 ≤ 2 * x.size := by
    unfold linesT
    split
    · exact Nat.zero_le _
    · have := linesS_lz _ (toL x) [] 0 0 (Nat.le_refl _)
      rw [size_toL]
      have e : lz ([] : List (List W)) = 0 := rfl
      omega
  refine Nat.le_trans ?_ h
  show wz (((linesT x).1.getD 0 []).drop 0) + lz ((linesT x).1.drop (0 + 1)) ≤ lz (linesT x).1
  cases (linesT x).1 with
  | nil => exact Nat.le_refl _
  | cons l r => exact Nat.le_refl _
end Go.DI.Th
namespace Go.DI.Th
open Go Go.RowKit Go.DI

abbrev En := Int × Int × Int × List (List Rt)

end Go.DI.Th
namespace Go.DI.Th
open Go Go.RowKit Go.DI

theorem digits_ev (n : Nat) (h : n ≤ 9223372036854775807) : Ev (fun k => report_digits.f k (n : Int)) (prN n) := ofprint_ev n h
def okE (i : Nat) (x : En) : Prop := x.1 = (i : Int) ∧ 0 ≤ x.2.1 ∧ x.2.1 ≤ 9 ∧ 0 ≤ x.2.2.1 ∧ x.2.2.1 ≤ 999 ∧ (x.2.2.1 ≠ 0 → x.2.2.2.length = 0) ∧ x.2.2.2.length ≤ 64
instance (i : Nat) (x : En) : Decidable (okE i x) := by unfold okE; infer_instance
def okL : Nat → List En → Prop
  | _, [] => True
  | i, x :: l => okE i x ∧ okL (i + 1) l
instance okL.dec : ∀ (i : Nat) (l : List En), Decidable (okL i l)
  | _, [] => .isTrue trivial
  | i, x :: l => by
    unfold okL
    have := okL.dec (i + 1) l
    infer_instance
theorem right_loop (t : List (List Rt)) (hrows : ∀ r ∈ t, r.length ≤ 1000) (ht : t.length ≤ 1099511627776) : ∀ (b a : List (List Rt)), t = a ++ b → Ev (fun k => report_right.l0 k t (t.length : Int) (a.length : Int)) true := by
  intro b
  induction b with
  | nil =>
    intro a hx
    exact Ev.step (fun k => by rw [report_right.l0, if_neg (by rw [hx]; exact nlt_at a)]) (Ev.now _)
  | cons x b ih =>
    intro a hx
    have hg : gt [] t (a.length : Int) = x := by rw [hx]; exact gt_at _ a x b
    have hl := lt_at a x b
    rw [← hx] at hl
    have hm := hrows x (by rw [hx]; exact List.mem_append_right _ List.mem_cons_self)
    refine Ev.step (fun k => ?_) (ih (a ++ [x]) (by rw [hx, snoc_at]))
    rw [report_right.l0, if_pos hl, if_pos (nn0 _), if_pos hl, hg, if_neg (by omega), wr_at a x (by omega)]
theorem right_ev (i : Nat) (x : En) (hrows : ∀ r ∈ x.2.2.2, r.length ≤ 1000) (ht : x.2.2.2.length ≤ 1099511627776) : Ev (fun k => report_right.f k x.1 x.2.1 x.2.2.1 x.2.2.2 (i : Int)) (decide (okE i x)) := by
  unfold report_right.f
  refine Ev.guard (P := okE i x) (fun h e => h e.1) fun h1 => ?_
  refine Ev.guard (P := okE i x) (fun h e => by have := e.2.1; omega) fun h2 => ?_
  refine Ev.guard (P := okE i x) (fun h e => by have := e.2.2.1; omega) fun h3 => ?_
  refine Ev.guard (P := okE i x) (fun h e => by have := e.2.2.2.1; omega) fun h4 => ?_
  refine Ev.guard (P := okE i x) (fun h e => by have := e.2.2.2.2.1; omega) fun h5 => ?_
  have fin : (x.2.2.1 ≠ 0 → x.2.2.2.length = 0) → Ev (fun k => if (x.2.2.2.length : Int) > 64 then some false else report_right.l0 k x.2.2.2 (x.2.2.2.length : Int) 0) (decide (okE i x)) := by
    intro h6
    refine Ev.guard (P := okE i x) (fun h e => by have := e.2.2.2.2.2.2; omega) fun h7 => ?_
    rw [decide_eq_true (show okE i x from ⟨Decidable.not_not.1 h1, by omega, by omega, by omega, by omega, h6, by omega⟩)]
    exact right_loop x.2.2.2 hrows ht x.2.2.2 [] rfl
  by_cases h6 : x.2.2.1 ≠ 0
  · refine Ev.if_pos h6 (Ev.guard (P := okE i x) (fun h e => by have := e.2.2.2.2.2.1 h6; omega) fun h7 => ?_)
    exact fin fun _ => by omega
  · exact Ev.if_neg h6 (fin fun h => absurd h h6)
def rowTail : List Rt → ByteArray
  | [] => ⟨#[10]⟩
  | r :: l => ⟨#[32]⟩ ++ (prT r ++ rowTail l)
def rowsT : List (List Rt) → ByteArray
  | [] => .empty
  | r :: l => ⟨#[114, 111, 119, 32]⟩ ++ (prN r.length ++ (rowTail r ++ rowsT l))
def entT (x : En) : ByteArray := ⟨#[101, 110, 116, 114, 121, 32]⟩ ++ (prN x.1.toNat ++ (⟨#[32]⟩ ++ (prN x.2.1.toNat ++ (⟨#[32]⟩ ++
  if x.2.2.1 ≠ 0 then ⟨#[101, 114, 114, 111, 114, 32]⟩ ++ (prN x.2.2.1.toNat ++ ⟨#[10]⟩) else ⟨#[116, 97, 98, 108, 101, 32]⟩ ++ (prN x.2.2.2.length ++ (⟨#[10]⟩ ++ rowsT x.2.2.2))))))
def entsT : List En → ByteArray
  | [] => .empty
  | x :: l => entT x ++ entsT l
def headT (n : Nat) : ByteArray := ⟨#[114, 101, 112, 111, 114, 116, 32]⟩ ++ (prN n ++ ⟨#[10]⟩)
def EnOk (x : En) : Prop := x.2.2.2.length ≤ 1099511627776 ∧ ∀ r ∈ x.2.2.2, r.length ≤ 1000 ∧ ∀ v ∈ r, RtOk v
theorem append_empty (a : ByteArray) : a ++ ByteArray.empty = a := ByteArray.append_empty
abbrev M : Nat := 70368744177664

theorem write_str (b s : ByteArray) (h : (b ++ s).size ≤ M) : strings_Builder_WriteString.f b s = some (b ++ s) := by
  unfold strings_Builder_WriteString.f
  rw [ByteArray.size_append] at h
  rw [if_pos (by unfold M at h; omega)]
theorem write_l2 (xs : List En) (n i : Int) (t : List (List Rt)) (m j : Int) (R : ByteArray × Int) (row : List Rt) (hr : row.length ≤ 1099511627776) (hv : ∀ v ∈ row, RtOk v) (acc0 : ByteArray)
    (hend : Ev (fun k => report_Write.l1 k xs n i t m (wrap64 (j + 1)) acc0) R) : ∀ (b a : List Rt) (acc : ByteArray), row = a ++ b → acc ++ rowTail b = acc0 → acc0.size ≤ M →
    Ev (fun k => report_Write.l2 k xs n i t m j row (row.length : Int) (a.length : Int) acc) R := by
  intro b
  induction b with
  | nil =>
    intro a acc hx he hs
    rw [rowTail] at he
    refine Ev.step (fun k => ?_) hend
    rw [report_Write.l2, if_neg (by rw [hx]; exact nlt_at a), write_str acc _ (by rw [he]; exact hs), Option.bind_some, he]
  | cons x b ih =>
    intro a acc hx he hs
    have hg : gt (false, [], []) row (a.length : Int) = x := by rw [hx]; exact gt_at _ a x b
    have hl := lt_at a x b
    rw [← hx] at hl
    rw [rowTail] at he
    have he2 : (acc ++ ((⟨#[32]⟩ : ByteArray) ++ prT x)) ++ rowTail b = acc0 := by rw [← he]; simp only [ByteArray.append_assoc]
    have hsz : acc.size + (1 + (prT x).size) + (rowTail b).size ≤ M := by
      rw [← he2] at hs
      simp only [ByteArray.size_append] at hs
      exact hs
    refine Ev.step (f := fun k => (ratio_Print.f k x.1 x.2.1 x.2.2).bind fun v6 => (if (⟨#[32]⟩ : ByteArray).size + v6.size ≤ 9223372036854775807 then ((strings_Builder_WriteString.f acc ((⟨#[32]⟩ : ByteArray) ++ v6)).bind fun v8 => (report_Write.l2 k xs n i t m j row (row.length : Int) ((a ++ [x]).length : Int) v8)) else none)) (fun k => ?_)
      (Ev.bind (prT_ev x (hv x (by rw [hx]; exact List.mem_append_right _ List.mem_cons_self))) ?_)
    · rw [report_Write.l2, if_pos hl, if_pos (nn0 _), if_pos hl, hg, wr_at a x (by omega)]
    · have e1 : (⟨#[32]⟩ : ByteArray).size = 1 := rfl
      refine Ev.if_pos (by rw [e1]; unfold M at hsz; omega) ?_
      rw [write_str acc _ (by rw [ByteArray.size_append, ByteArray.size_append, e1]; omega)]
      refine Ev.bind (Ev.now _) ?_
      exact ih (a ++ [x]) _ (by rw [hx, snoc_at]) he2 hs
theorem write_l1 (xs : List En) (n i : Int) (t : List (List Rt)) (R : ByteArray × Int) (ht : t.length ≤ 1099511627776) (hv : ∀ r ∈ t, r.length ≤ 1000 ∧ ∀ v ∈ r, RtOk v) (acc0 : ByteArray) (hs : acc0.size ≤ M)
    (hend : Ev (fun k => report_Write.l0 k xs n (wrap64 (i + 1)) acc0) R) : ∀ (b a : List (List Rt)) (acc : ByteArray), t = a ++ b → acc ++ rowsT b = acc0 →
    Ev (fun k => report_Write.l1 k xs n i t (t.length : Int) (a.length : Int) acc) R := by
  intro b
  induction b with
  | nil =>
    intro a acc hx he
    rw [rowsT, append_empty] at he
    refine Ev.step (fun k => ?_) hend
    rw [report_Write.l1, if_neg (by rw [hx]; exact nlt_at a), he]
  | cons x b ih =>
    intro a acc hx he
    have hg : gt [] t (a.length : Int) = x := by rw [hx]; exact gt_at _ a x b
    have hl := lt_at a x b
    rw [← hx] at hl
    rw [rowsT] at he
    obtain ⟨x1, x2⟩ := hv x (by rw [hx]; exact List.mem_append_right _ List.mem_cons_self)
    have he2 : (acc ++ ((⟨#[114, 111, 119, 32]⟩ : ByteArray) ++ prN x.length)) ++ rowTail x ++ rowsT b = acc0 := by rw [← he]; simp only [ByteArray.append_assoc]
    have e1 : (⟨#[114, 111, 119, 32]⟩ : ByteArray).size = 4 := rfl
    have hsz : acc.size + (4 + (prN x.length).size) + (rowTail x).size + (rowsT b).size ≤ M := by
      rw [← he2] at hs
      simp only [ByteArray.size_append, e1] at hs
      exact hs
    have h1 := ih (a ++ [x]) _ (by rw [hx, snoc_at]) he2
    rw [← wr_at a x (by omega)] at h1
    have h2 := write_l2 xs n i t (t.length : Int) (a.length : Int) R x (by omega) x2 _ h1 x [] _ rfl rfl (by rw [ByteArray.size_append, ByteArray.size_append, ByteArray.size_append, e1]; omega)
    refine Ev.step (f := fun k => (report_digits.f k (x.length : Int)).bind fun v6 => (if (⟨#[114, 111, 119, 32]⟩ : ByteArray).size + v6.size ≤ 9223372036854775807 then ((strings_Builder_WriteString.f acc ((⟨#[114, 111, 119, 32]⟩ : ByteArray) ++ v6)).bind fun v8 => (report_Write.l2 k xs n i t (t.length : Int) (a.length : Int) x (x.length : Int) 0 v8)) else none)) (fun k => ?_) (Ev.bind (digits_ev x.length (by omega)) ?_)
    · rw [report_Write.l1, if_pos hl, if_pos (nn0 _), if_pos hl, hg]
    · refine Ev.if_pos (by rw [e1]; unfold M at hsz; omega) ?_
      rw [write_str acc _ (by rw [ByteArray.size_append, ByteArray.size_append, e1]; omega)]
      refine Ev.bind (Ev.now _) ?_
      exact h2
theorem toNat_ofNonneg {z : Int} (h : 0 ≤ z) : ((z.toNat : Nat) : Int) = z := Int.toNat_of_nonneg h
def writeR (acc : ByteArray) (i : Nat) (l : List En) : ByteArray × Int := if okL i l then (acc ++ entsT l, 0) else (.empty, 1)
theorem ent_sizes (acc : ByteArray) (x : En) (rest : ByteArray) (hs : (acc ++ (entT x ++ rest)).size ≤ M) : acc.size + (prN x.1.toNat).size + (prN x.2.1.toNat).size + 8 + rest.size ≤ M ∧
    (x.2.2.1 ≠ 0 → acc.size + (prN x.1.toNat).size + (prN x.2.1.toNat).size + 8 + (prN x.2.2.1.toNat).size + 7 + rest.size ≤ M) ∧
    (¬ x.2.2.1 ≠ 0 → acc.size + (prN x.1.toNat).size + (prN x.2.1.toNat).size + 8 + (prN x.2.2.2.length).size + 7 + (rowsT x.2.2.2).size + rest.size ≤ M) := by
  unfold entT at hs
  simp only [ByteArray.size_append, lit_size, List.size_toArray, List.length_cons, List.length_nil] at hs
  by_cases h : x.2.2.1 ≠ 0
  · rw [if_pos h] at hs
    simp only [ByteArray.size_append, lit_size, List.size_toArray, List.length_cons, List.length_nil] at hs
    exact ⟨by omega, fun _ => by omega, fun h2 => absurd h h2⟩
  · rw [if_neg h] at hs
    simp only [ByteArray.size_append, lit_size, List.size_toArray, List.length_cons, List.length_nil] at hs
    exact ⟨by omega, fun h2 => absurd h2 h, fun _ => by omega⟩
theorem write_l0 (xs : List En) (hn : xs.length ≤ 16384) (hv : ∀ x ∈ xs, EnOk x) : ∀ (b a : List En) (acc : ByteArray), xs = a ++ b → (acc ++ entsT b).size ≤ M → 0 < acc.size →
    Ev (fun k => report_Write.l0 k xs (xs.length : Int) (a.length : Int) acc) (writeR acc a.length b) := by
  intro b
  induction b with
  | nil =>
    intro a acc hx hs h0
    unfold writeR
    rw [if_pos (show okL a.length [] from trivial), entsT, append_empty]
    refine Ev.step (f := fun k => (strings_Builder_String.f acc).bind fun v1 => some (v1.1, 0)) (fun k => by rw [report_Write.l0, if_neg (by rw [hx]; exact nlt_at a)]) ?_
    unfold strings_Builder_String.f
    rw [if_pos h0]
    exact Ev.now _
  | cons x b ih =>
    intro a acc hx hs h0
    have hg : gt (0, 0, 0, []) xs (a.length : Int) = x := by rw [hx]; exact gt_at _ a x b
    have hl := lt_at a x b
    rw [← hx] at hl
    have hal : a.length < 16384 := by omega
    obtain ⟨x1, x2⟩ := hv x (by rw [hx]; exact List.mem_append_right _ List.mem_cons_self)
    have hr := right_ev a.length x (fun r hr => (x2 r hr).1) x1
    rw [entsT] at hs
    obtain ⟨s1, s2, s3⟩ := ent_sizes acc x (entsT b) hs
    refine Ev.step (fun k => by rw [report_Write.l0, if_pos hl, if_pos (nn0 _), if_pos hl, hg]) (Ev.bind hr ?_)
    unfold writeR
    by_cases hok : okE a.length x
    · have hw := wr_at a x (by omega)
      have hid := hok.1
      have t1 : ((x.1.toNat : Nat) : Int) = x.1 := by omega
      have t2 : ((x.2.1.toNat : Nat) : Int) = x.2.1 := toNat_ofNonneg hok.2.1
      have t3 : ((x.2.2.1.toNat : Nat) : Int) = x.2.2.1 := toNat_ofNonneg hok.2.2.2.1
      have d1 := digits_ev x.1.toNat (by omega)
      have d2 := digits_ev x.2.1.toNat (by have := hok.2.2.1; omega)
      have d3 := digits_ev x.2.2.1.toNat (by have := hok.2.2.2.2.1; omega)
      have d4 := digits_ev x.2.2.2.length (by omega)
      rw [t1] at d1
      rw [t2] at d2
      rw [t3] at d3
      have step : ∀ acc1 : ByteArray, acc1 = acc ++ entT x → Ev (fun k => report_Write.l0 k xs (xs.length : Int) (wrap64 ((a.length : Int) + 1)) acc1) (if okL a.length (x :: b) then (acc ++ entsT (x :: b), 0) else (.empty, 1)) := by
        intro acc1 he
        have h1 := ih (a ++ [x]) acc1 (by rw [hx, snoc_at]) (by rw [he, ByteArray.append_assoc]; exact hs) (by rw [he, ByteArray.size_append]; omega)
        rw [hw]
        refine h1.of_eq ?_
        unfold writeR
        rw [List.length_append, List.length_singleton, he, entsT, ByteArray.append_assoc]
        by_cases h2 : okL (a.length + 1) b
        · rw [if_pos h2, if_pos (show okL a.length (x :: b) from ⟨hok, h2⟩)]
        · rw [if_neg h2, if_neg (fun h3 => h2 h3.2)]
      refine Ev.if_pos (decide_eq_true hok) (Ev.bind d1 ?_)
      refine Ev.if_pos ?_ (Ev.if_pos ?_ (Ev.bind d2 (Ev.if_pos ?_ (Ev.if_pos ?_ ?_))))
      · simp only [ByteArray.size_append, lit_size, List.size_toArray, List.length_cons, List.length_nil]; unfold M at s1; omega
      · simp only [ByteArray.size_append, lit_size, List.size_toArray, List.length_cons, List.length_nil]; unfold M at s1; omega
      · simp only [ByteArray.size_append, lit_size, List.size_toArray, List.length_cons, List.length_nil]; unfold M at s1; omega
      · simp only [ByteArray.size_append, lit_size, List.size_toArray, List.length_cons, List.length_nil]; unfold M at s1; omega
      · rw [write_str acc _ (by simp only [ByteArray.size_append, lit_size, List.size_toArray, List.length_cons, List.length_nil]; omega)]
        refine Ev.bind (Ev.now _) ?_
        by_cases he : x.2.2.1 ≠ 0
        · have s := s2 he
          refine Ev.if_pos he (Ev.bind d3 (Ev.if_pos ?_ (Ev.if_pos ?_ ?_)))
          · simp only [ByteArray.size_append, lit_size, List.size_toArray, List.length_cons, List.length_nil]; unfold M at s; omega
          · simp only [ByteArray.size_append, lit_size, List.size_toArray, List.length_cons, List.length_nil]; unfold M at s; omega
          · rw [write_str _ _ (by simp only [ByteArray.size_append, lit_size, List.size_toArray, List.length_cons, List.length_nil]; omega)]
            refine Ev.bind (Ev.now _) (step _ ?_)
            unfold entT
            rw [if_pos he]
            simp only [ByteArray.append_assoc]
        · have s := s3 he
          refine Ev.if_neg he (Ev.bind d4 (Ev.if_pos ?_ (Ev.if_pos ?_ ?_)))
          · simp only [ByteArray.size_append, lit_size, List.size_toArray, List.length_cons, List.length_nil]; unfold M at s; omega
          · simp only [ByteArray.size_append, lit_size, List.size_toArray, List.length_cons, List.length_nil]; unfold M at s; omega
          · rw [write_str _ _ (by simp only [ByteArray.size_append, lit_size, List.size_toArray, List.length_cons, List.length_nil]; omega)]
            refine Ev.bind (Ev.now _) ?_
            refine write_l1 xs _ _ x.2.2.2 _ x1 x2 _ ?_ (step _ rfl) x.2.2.2 [] _ rfl ?_
            · rw [← ByteArray.append_assoc, ByteArray.size_append] at hs; omega
            · unfold entT
              rw [if_neg he]
              simp only [ByteArray.append_assoc]
    · rw [if_neg (fun h => hok h.1)]
      exact Ev.if_neg (by simp [hok]) (Ev.now _)
theorem write_ev (xs : List En) (hn : xs.length ≤ 16384) (hv : ∀ x ∈ xs, EnOk x) (hs : (headT xs.length ++ entsT xs).size ≤ M) : Ev (fun k => report_Write.f k xs) (writeR (headT xs.length) 0 xs) := by
  have hh : (headT xs.length).size = 8 + (prN xs.length).size := by
    unfold headT
    simp only [ByteArray.size_append, lit_size, List.size_toArray, List.length_cons, List.length_nil]
    omega
  have hs2 := hs
  rw [ByteArray.size_append, hh] at hs2
  have h1 := write_l0 xs hn hv xs [] (headT xs.length) rfl hs (by omega)
  refine Ev.if_neg (by omega) (Ev.bind (digits_ev xs.length (by omega)) (Ev.if_pos ?_ (Ev.if_pos ?_ ?_)))
  · simp only [ByteArray.size_append, lit_size, List.size_toArray, List.length_cons, List.length_nil]; unfold M at hs2; omega
  · simp only [ByteArray.size_append, lit_size, List.size_toArray, List.length_cons, List.length_nil]; unfold M at hs2; omega
  · rw [write_str _ _ (by simp only [ByteArray.size_append, lit_size, List.size_toArray, List.length_cons, List.length_nil, empty_size]; omega)]
    refine Ev.bind (Ev.now _) (Ev.congr (fun k => ?_) h1)
    have e : ByteArray.empty ++ ((⟨#[114, 101, 112, 111, 114, 116, 32]⟩ : ByteArray) ++ prN xs.length ++ ⟨#[10]⟩) = headT xs.length := by
      unfold headT
      rw [ByteArray.empty_append, ByteArray.append_assoc]
    rw [e]
    rfl
end Go.DI.Th
namespace Go.DI.Th
open Go Go.RowKit Go.DI

theorem U.take {l : List Int} (h : U l) (n : Nat) : U (l.take n) := fun x hx => h x (List.mem_of_mem_take hx)
theorem prN_digit (n : Nat) (h : n < 10) : prN n = ofBytes [48 + (n : Int)] := by unfold prN; rw [dec_small h]
theorem ex_prT : prT (rl 1 2) = ⟨#[49, 47, 50]⟩ := by
  unfold prT prR
  obtain ⟨e1, e2⟩ := num_rl 1 2 (by decide)
  rw [e1, e2, show rnum 1 2 = 1 by decide +kernel, show rden 1 2 = 2 by decide +kernel]
  unfold rl wv prQ prW
  rw [val_lm]
  have g : Nat.gcd (Int.natAbs 1) 2 = 1 := by decide
  rw [g, show Int.natAbs 1 / 1 = 1 from rfl, show 2 / 1 = 2 from rfl, if_neg (by decide), if_neg (by decide), if_neg (by decide), show Int.natAbs ((1 : Nat) : Int) = 1 from rfl, prN_digit 1 (by decide), prN_digit 2 (by decide)]
  decide +kernel
theorem awake29_ev : Ev (fun k => dendronlaw29_awake.f k) true := by
  have h1 := frac_ev 1 2 (by omega) (by omega)
  rw [if_neg (by decide), show over 1 2 = 1 from rfl] at h1
  have h1' : Ev (fun k => ratio_Frac.f k 1 2) (rl 1 2) := h1
  let xs : List En := [(0, 2, 0, [[rl 1 2]])]
  have hu := rl_ok 1 2
  have hl := rl_lens 1 2
  have l1 : len (Int.natAbs 1) ≤ 2 := len_small (by decide)
  have l2 : len 2 ≤ 2 := len_small (by decide)
  have hv : ∀ x ∈ xs, EnOk x := by
    intro x hx
    rw [List.mem_singleton] at hx
    subst hx
    refine ⟨by decide, fun r hr => ?_⟩
    have hr : r ∈ [[rl 1 2]] := hr
    rw [List.mem_singleton] at hr
    subst hr
    refine ⟨by simp, fun v hv => ?_⟩
    rw [List.mem_singleton] at hv
    subst hv
    exact ⟨hu.1, hu.2, by omega, by omega⟩
  have ht : headT xs.length ++ entsT xs = cst_0edf54b5 := by
    show headT 1 ++ (entT (0, 2, 0, [[rl 1 2]]) ++ ByteArray.empty) = cst_0edf54b5
    unfold headT entT rowsT rowTail rowTail rowsT
    dsimp only
    rw [ex_prT, if_neg (by decide)]
    show _ ++ (prN 1 ++ _) ++ (_ ++ (prN 0 ++ (_ ++ (prN 2 ++ (_ ++ (_ ++ (prN 1 ++ (_ ++ (_ ++ (prN 1 ++ _))))))))) ++ _) = _
    rw [prN_digit 0 (by decide), prN_digit 1 (by decide), prN_digit 2 (by decide)]
    decide +kernel
  have hok : okL 0 xs := ⟨⟨rfl, by decide, by decide, by decide, by decide, fun h => absurd rfl h, by decide⟩, trivial⟩
  have h2 := write_ev xs (by decide) hv (by rw [ht]; decide +kernel)
  unfold writeR at h2
  rw [if_pos hok, ht] at h2
  exact Ev.bind h1' (Ev.bind h2 (Ev.if_pos rfl (Ev.if_pos rfl (Ev.now _))))
end Go.DI.Th
namespace Go.DI.Th
open Go Go.RowKit Go.DI

end Go.DI.Th
namespace Go.DI.Th
open Go Go.RowKit Go.DI

end Go.DI.Th
namespace Go.DI.Th
open Go Go.RowKit Go.DI

def numE (w : ByteArray) : Int := if prE (toL w) = 0 then (if prT (cn (prV (toL w))) ≠ w then 4 else 0) else prE (toL w)
def numR (s : St) : Rt × St := ((numS s).1, FailS (wordS s).2 (numE (wordS s).1))
theorem numR_err {s : St} (h : s.err ≠ 0) : (numR s).2 = s := by
  unfold numR
  rw [word_err h]
  exact Fail_err h _
theorem numR_good {s : St} (h : s.Good) : (numR s).2.Good := FailS_good (wordS_good h) _
theorem numR_ev (s : St) (h : s.Good) : Ev (fun k => report_number.f k s.ls s.i s.j s.sz s.err s.at_) ((numR s).1.1, (numR s).1.2.1, (numR s).1.2.2, (numR s).2.t) := by
  have hok := numS_ok s
  unfold report_number.f numR
  rw [word_eq s h.ok h.l1]
  have h2 := wordS_good h
  have h3 := wordS_size h
  unfold numS at hok ⊢
  generalize wordS s = p at h2 h3 hok ⊢
  obtain ⟨v, s2⟩ := p
  have h2 : s2.Good := h2
  have h3 : v.size ≤ 1048576 := h3
  have hp := rparse_ev v (by omega)
  refine Ev.bind (Ev.now (v, s2.t)) (Ev.bind hp ?_)
  dsimp only at hok ⊢
  unfold numE
  unfold rR
  by_cases he : prE (toL v) = 0
  · rw [if_pos he] at hok
    rw [if_pos he, if_pos he, if_pos he]
    have hpr := prT_ev _ hok
    refine Ev.if_pos rfl (Ev.bind hpr ?_)
    by_cases hw : prT (cn (prV (toL v))) ≠ v
    · refine Ev.if_pos hw ?_
      rw [if_pos hw]
      exact Ev.bind (Ev.congr (fun _ => Fail_eq s2 h2 4) (Ev.now _)) (Ev.now _)
    · refine Ev.if_neg hw ?_
      rw [if_neg hw]
      exact Ev.bind (Ev.congr (fun _ => Fail_eq s2 h2 0) (Ev.now _)) (Ev.now _)
  · rw [if_neg he, if_neg he, if_neg he]
    refine Ev.if_neg he ?_
    exact Ev.bind (Ev.congr (fun _ => Fail_eq s2 h2 _) (Ev.now _)) (Ev.now _)
theorem off_ev (s : St) : Ev (fun _ => report_off.f s.ls s.i s.j s.sz s.err s.at_) ((!(s.err == 0)), s.t) := Ev.now _
def wRow : ByteArray := ⟨#[114, 111, 119]⟩
def wEntry : ByteArray := ⟨#[101, 110, 116, 114, 121]⟩
def wReport : ByteArray := ⟨#[114, 101, 112, 111, 114, 116]⟩
def wPick : List ByteArray := [⟨#[101, 114, 114, 111, 114]⟩, ⟨#[116, 97, 98, 108, 101]⟩]
def numsS : Nat → St → List Rt → List Rt × St
  | 0, s, acc => (acc, s)
  | m + 1, s, acc => numsS m (numR s).2 (acc ++ [(numR s).1])
def rc (s : St) := countS (takeS s wRow) 0 1000
def rowS (s : St) : List Rt × St := ((numsS (rc s).1.toNat (rc s).2 []).1, nextS (numsS (rc s).1.toNat (rc s).2 []).2)
def rowsS : Nat → St → List (List Rt) → List (List Rt) × St
  | 0, s, acc => (acc, s)
  | m + 1, s, acc => rowsS m (rowS s).2 (acc ++ [(rowS s).1])
def e1 (s : St) (i : Int) := countS (takeS s wEntry) i i
def e2 (s : St) (i : Int) := countS (e1 s i).2 0 9
def e3 (s : St) (i : Int) := pickS (e2 s i).2 wPick
def e4 (s : St) (i : Int) := countS (e3 s i).2 1 999
def e5 (s : St) (i : Int) := countS (e3 s i).2 0 64
def entS (s : St) (i : Int) : En × St :=
  if (e3 s i).1 = 0 then (((e1 s i).1, (e2 s i).1, (e4 s i).1, []), nextS (e4 s i).2)
  else (((e1 s i).1, (e2 s i).1, 0, (rowsS (e5 s i).1.toNat (nextS (e5 s i).2) []).1), (rowsS (e5 s i).1.toNat (nextS (e5 s i).2) []).2)
def entsS : Nat → Nat → St → List En → List En × St
  | 0, _, s, acc => (acc, s)
  | m + 1, i, s, acc => entsS m (i + 1) (entS s i).2 (acc ++ [(entS s i).1])
def rhd (x : ByteArray) := countS (takeS (readS x) wReport) 0 16384
def repE (x : ByteArray) : List En × St := entsS (rhd x).1.toNat 0 (nextS (rhd x).2) []
def repR (x : ByteArray) : List En × Int := if (endS (repE x).2).err ≠ 0 then ([], (endS (repE x).2).err) else if headT (repE x).1.length ++ entsT (repE x).1 = x then ((repE x).1, 0) else ([], 4)
theorem nums_err {s : St} (h : s.err ≠ 0) : ∀ (m : Nat) (acc : List Rt), (numsS m s acc).2 = s
  | 0, _ => rfl
  | m + 1, acc => by rw [numsS, numR_err h, nums_err h m]
theorem row_err {s : St} (h : s.err ≠ 0) : (rowS s).2 = s := by
  unfold rowS rc
  rw [take_err h, count_err h]
  show nextS (numsS 0 s []).2 = s
  exact next_err h
theorem rows_err {s : St} (h : s.err ≠ 0) : ∀ (m : Nat) (acc : List (List Rt)), (rowsS m s acc).2 = s
  | 0, _ => rfl
  | m + 1, acc => by rw [rowsS, row_err h, rows_err h m]
theorem ent_err {s : St} (h : s.err ≠ 0) (i : Int) : (entS s i).2 = s := by
  have h1 : (e1 s i).2 = s := by unfold e1; rw [take_err h, count_err h]
  have h2 : (e2 s i).2 = s := by unfold e2; rw [h1, count_err h]
  have h3 : e3 s i = (0, s) := by unfold e3; rw [h2, pick_err h]
  have h4 : (e4 s i).2 = s := by unfold e4; rw [h3]; exact congrArg Prod.snd (count_err h 1 999)
  unfold entS
  rw [h3, if_pos rfl]
  show nextS (e4 s i).2 = s
  rw [h4, next_err h]
theorem ents_err {s : St} (h : s.err ≠ 0) : ∀ (m i : Nat) (acc : List En), (entsS m i s acc).2 = s
  | 0, _, _ => rfl
  | m + 1, i, acc => by rw [entsS, ent_err h, ents_err h m]
theorem nums_good : ∀ (m : Nat) {s : St} (acc : List Rt), s.Good → (numsS m s acc).2.Good
  | 0, _, _, h => h
  | m + 1, s, acc, h => by rw [numsS]; exact nums_good m _ (numR_good h)
theorem rc_good {s : St} (h : s.Good) : (rc s).2.Good := countS_good (takeS_good h _) _ _
theorem row_good {s : St} (h : s.Good) : (rowS s).2.Good := nextS_good (nums_good _ _ (rc_good h))
theorem rows_good : ∀ (m : Nat) {s : St} (acc : List (List Rt)), s.Good → (rowsS m s acc).2.Good
  | 0, _, _, h => h
  | m + 1, s, acc, h => by rw [rowsS]; exact rows_good m _ (row_good h)
theorem e_good {s : St} (h : s.Good) (i : Int) : (e1 s i).2.Good ∧ (e2 s i).2.Good ∧ (e3 s i).2.Good ∧ (e4 s i).2.Good ∧ (e5 s i).2.Good := by
  have h1 : (e1 s i).2.Good := countS_good (takeS_good h _) _ _
  have h2 : (e2 s i).2.Good := countS_good h1 _ _
  have h3 : (e3 s i).2.Good := pickS_good h2 _
  exact ⟨h1, h2, h3, countS_good h3 _ _, countS_good h3 _ _⟩
theorem ent_good {s : St} (h : s.Good) (i : Int) : (entS s i).2.Good := by
  obtain ⟨g1, g2, g3, g4, g5⟩ := e_good h i
  unfold entS
  split
  · exact nextS_good g4
  · exact rows_good _ _ (nextS_good g5)
theorem rhd_good (x : ByteArray) : (rhd x).2.Good := countS_good (takeS_good (readS_good x) _) _ _
def flat (v : En) (T : St) : Int × Int × Int × List (List Rt) × RT := (v.1, v.2.1, v.2.2.1, v.2.2.2, T.t)
theorem ent_l1 (N : Nat) (hN : N ≤ 64) (a b : Int) (m r : Nat) (hr : r < N) (hm : r + 1 + m = N) (acc : List (List Rt)) (ha : acc.length = r)
    (ih0 : ∀ (s : St) (acc' : List (List Rt)), acc'.length = r + 1 → s.Good → ∃ v, Ev (fun k => report_entry.l0 k (N : Int) ((r + 1 : Nat) : Int) s.ls s.i s.j s.sz s.err s.at_ 0 0 0 a b 0 acc') (flat v (rowsS m s acc').2) ∧ ((rowsS m s acc').2.err = 0 → v = (a, b, 0, (rowsS m s acc').1)))
    (C : Nat) (hC : C ≤ 1000) : ∀ (q j : Nat) (s : St) (t : List Rt), j + q = C → t.length = j → s.Good →
    ∃ v, Ev (fun k => report_entry.l1 k t (N : Int) (r : Int) (C : Int) (j : Int) s.ls s.i s.j s.sz s.err s.at_ 0 0 0 a b 0 acc) (flat v (rowsS m (nextS (numsS q s t).2) (acc ++ [(numsS q s t).1])).2) ∧
      ((rowsS m (nextS (numsS q s t).2) (acc ++ [(numsS q s t).1])).2.err = 0 → v = (a, b, 0, (rowsS m (nextS (numsS q s t).2) (acc ++ [(numsS q s t).1])).1)) := by
  intro q
  induction q with
  | zero =>
    intro j s t hj ht h
    obtain ⟨v, h1, h2⟩ := ih0 (nextS s) (acc ++ [t]) (by rw [List.length_append, List.length_singleton, ha]) (nextS_good h)
    refine ⟨v, Ev.succ ?_, h2⟩
    simp only [report_entry.l1, wr_succ r (show r ≤ 1125899906842624 by omega), next_eq s h.ok h.l1]
    exact Ev.if_neg (by omega) (Ev.bind (Ev.now _) (Ev.if_pos (by omega) h1))
  | succ q ih =>
    intro j s t hj ht h
    have hn := numR_ev s h
    have hg := numR_good h
    have ho := off_ev (numR s).2
    by_cases he : (numR s).2.err = 0
    · obtain ⟨v, h1, h2⟩ := ih (j + 1) (numR s).2 (t ++ [(numR s).1]) (by omega) (by rw [List.length_append, List.length_singleton, ht]) hg
      refine ⟨v, Ev.succ ?_, h2⟩
      simp only [report_entry.l1, wr_succ j (show j ≤ 1125899906842624 by omega)]
      refine Ev.if_pos (by omega) (Ev.bind hn (Ev.bind ho ?_))
      refine Ev.if_neg (by simp [he]) (Ev.if_pos (by omega) ?_)
      exact h1
    · have e : (rowsS m (nextS (numsS (q + 1) s t).2) (acc ++ [(numsS (q + 1) s t).1])).2 = (numR s).2 := by
        rw [numsS, nums_err he, next_err he, rows_err he]
      rw [e]
      refine ⟨(0, 0, 0, []), Ev.succ ?_, fun h => absurd h he⟩
      simp only [report_entry.l1, wr_succ j (show j ≤ 1125899906842624 by omega)]
      refine Ev.if_pos (by omega) (Ev.bind hn (Ev.bind ho ?_))
      exact Ev.if_pos (by simpa using he) (Ev.now _)
theorem ent_l0 (N : Nat) (hN : N ≤ 64) (a b : Int) : ∀ (m r : Nat) (s : St) (acc : List (List Rt)), r + m = N → acc.length = r → s.Good →
    ∃ v, Ev (fun k => report_entry.l0 k (N : Int) (r : Int) s.ls s.i s.j s.sz s.err s.at_ 0 0 0 a b 0 acc) (flat v (rowsS m s acc).2) ∧ ((rowsS m s acc).2.err = 0 → v = (a, b, 0, (rowsS m s acc).1)) := by
  intro m
  induction m with
  | zero =>
    intro r s acc hr ha h
    refine ⟨(a, b, 0, acc), Ev.succ ?_, fun _ => rfl⟩
    simp only [report_entry.l0]
    exact Ev.if_neg (by omega) (Ev.now _)
  | succ m ih =>
    intro r s acc hr ha h
    have g1 := takeS_good h wRow
    have g2 := rc_good h
    have c := count_ev _ g1 0 1000
    obtain ⟨r1, r2⟩ := countS_range (takeS s wRow) 0 1000 (by decide) (by decide)
    have hl := ent_l1 N hN a b m r (by omega) (by omega) acc ha (fun s' acc' ha' h' => ih (r + 1) s' acc' (by omega) ha' h') (rc s).1.toNat (by show (countS _ _ _).1.toNat ≤ 1000; omega) (rc s).1.toNat 0 (rc s).2 [] (Nat.zero_add _) rfl g2
    rw [Int.toNat_of_nonneg (show 0 ≤ (rc s).1 from r1)] at hl
    obtain ⟨v, h1, h2⟩ := hl
    refine ⟨v, Ev.succ ?_, h2⟩
    simp only [report_entry.l0, take_eq s _ h.ok h.l1]
    exact Ev.if_pos (by omega) (Ev.bind (Ev.now _) (Ev.bind c h1))
theorem entry_ev (s : St) (h : s.Good) (i : Nat) : ∃ v, Ev (fun k => report_entry.f k s.ls s.i s.j s.sz s.err s.at_ (i : Int)) (flat v (entS s i).2) ∧ ((entS s i).2.err = 0 → v = (entS s i).1) := by
  obtain ⟨g1, g2, g3, g4, g5⟩ := e_good h (i : Int)
  have c1 := count_ev _ (takeS_good h wEntry) (i : Int) (i : Int)
  have c2 := count_ev _ g1 0 9
  have c3 := pick_ev _ g2 wPick (by decide)
  have c4 := count_ev _ g3 1 999
  have c5 := count_ev _ g3 0 64
  unfold report_entry.f entS
  rw [take_eq s _ h.ok h.l1]
  by_cases hp : (e3 s i).1 = 0
  · rw [if_pos hp]
    refine ⟨_, Ev.bind (Ev.now _) (Ev.bind c1 (Ev.bind c2 (Ev.bind c3 (Ev.if_pos hp (Ev.bind c4 ?_))))), fun _ => rfl⟩
    show Ev (fun k => (lex_Reader_Next.f (e4 s i).2.ls (e4 s i).2.i (e4 s i).2.j (e4 s i).2.sz (e4 s i).2.err (e4 s i).2.at_).bind _) _
    rw [next_eq _ g4.ok g4.l1]
    exact Ev.bind (Ev.now _) (Ev.now _)
  · rw [if_neg hp]
    obtain ⟨r1, r2⟩ := countS_range (e3 s i).2 0 64 (by decide) (by decide)
    have hl := ent_l0 (e5 s i).1.toNat (by show (countS _ _ _).1.toNat ≤ 64; omega) (e1 s i).1 (e2 s i).1 (e5 s i).1.toNat 0 (nextS (e5 s i).2) [] (Nat.zero_add _) rfl (nextS_good g5)
    rw [Int.toNat_of_nonneg (show 0 ≤ (e5 s i).1 from r1)] at hl
    obtain ⟨v, h1, h2⟩ := hl
    refine ⟨v, Ev.bind (Ev.now _) (Ev.bind c1 (Ev.bind c2 (Ev.bind c3 (Ev.if_neg hp (Ev.bind c5 ?_))))), h2⟩
    show Ev (fun k => (lex_Reader_Next.f (e5 s i).2.ls (e5 s i).2.i (e5 s i).2.j (e5 s i).2.sz (e5 s i).2.err (e5 s i).2.at_).bind _) _
    rw [next_eq _ g5.ok g5.l1]
    exact Ev.bind (Ev.now _) h1
end Go.DI.Th
namespace Go.DI.Th
open Go Go.RowKit Go.DI

def VG (v : Rt) : Prop := RtB 1048576 v ∧ (prT v).size ≤ 4000 ∧ v = cn (rv v)
theorem VG.ok {v : Rt} (h : VG v) : RtOk v := h.1
def EG (x : En) : Prop := x.2.2.2.length ≤ 64 ∧ ∀ r ∈ x.2.2.2, r.length ≤ 1000 ∧ ∀ v ∈ r, VG v
theorem EG.ok {x : En} (h : EG x) : EnOk x := ⟨Nat.le_trans h.1 (by decide), fun r hr => ⟨(h.2 r hr).1, fun v hv => ((h.2 r hr).2 v hv).ok⟩⟩
theorem numR_rem {s : St} (h : (numR s).2.err = 0) (hr : rem s ≤ 4000) : s.err = 0 ∧ VG (numR s).1 ∧ rem (numR s).2 ≤ rem s := by
  have hok : RtB 1048576 (numS s).1 := numS_ok s
  unfold numR at h ⊢
  unfold numS at hok ⊢
  dsimp only at h hok ⊢
  have hw : (wordS s).2.err = 0 := by
    by_cases he : (wordS s).2.err = 0
    · exact he
    · rw [Fail_err he] at h; exact absurd h he
  obtain ⟨a, m, i1, j1, l1, b⟩ := word_rem hw
  obtain ⟨e, e2⟩ := Fail_zero hw (by rw [i1, l1]; exact m.2.1) j1 h
  rw [e2]
  unfold numE at e
  by_cases hp : prE (toL (wordS s).1) = 0
  · rw [if_pos hp] at e hok ⊢
    by_cases hq : prT (cn (prV (toL (wordS s).1))) ≠ (wordS s).1
    · rw [if_pos hq] at e; exact absurd e (by decide)
    · have hq' : prT (cn (prV (toL (wordS s).1))) = (wordS s).1 := Decidable.not_not.1 hq
      exact ⟨a, ⟨hok, by rw [hq']; omega, by rw [rv_cn]⟩, by omega⟩
  · rw [if_neg hp] at e
    exact absurd e hp
theorem nums_rem : ∀ (m : Nat) (s : St) (acc : List Rt), (numsS m s acc).2.err = 0 → rem s ≤ 4000 → ∃ t, (numsS m s acc).1 = acc ++ t ∧ t.length = m ∧ (∀ v ∈ t, VG v) ∧ s.err = 0 ∧ rem (numsS m s acc).2 ≤ rem s
  | 0, s, acc, h, hr => ⟨[], by rw [numsS, List.append_nil], rfl, fun v hv => (by cases hv), h, Nat.le_refl _⟩
  | m + 1, s, acc, h, hr => by
    rw [numsS] at h
    have hn : (numR s).2.err = 0 := by
      by_cases he : (numR s).2.err = 0
      · exact he
      · rw [nums_err he] at h; exact absurd h he
    obtain ⟨h1, h2, h3⟩ := numR_rem hn hr
    obtain ⟨t, t1, t2, t3, t4, t5⟩ := nums_rem m (numR s).2 (acc ++ [(numR s).1]) h (by omega)
    refine ⟨(numR s).1 :: t, ?_, by rw [List.length_cons, t2], fun v hv => ?_, h1, ?_⟩
    · rw [numsS, t1, ← snoc_at]
    · rcases List.mem_cons.1 hv with e | hv
      · rw [e]; exact h2
      · exact t3 v hv
    · rw [numsS]; omega
theorem row_rem {s : St} (h : (rowS s).2.err = 0) (hr : rem s ≤ 4000) : s.err = 0 ∧ (rowS s).1.length ≤ 1000 ∧ (∀ v ∈ (rowS s).1, VG v) ∧ rem (rowS s).2 ≤ rem s := by
  obtain ⟨n1, n2⟩ := next_rem (show (nextS (numsS (rc s).1.toNat (rc s).2 []).2).err = 0 from h)
  have hc : (rc s).2.err = 0 := by
    by_cases he : (rc s).2.err = 0
    · exact he
    · rw [nums_err he] at n1; exact absurd n1 he
  obtain ⟨c1, c2, c3, c4⟩ := count_rem (show (countS (takeS s wRow) 0 1000).2.err = 0 from hc)
  obtain ⟨t1, t2⟩ := take_rem c1
  have c4' : rem (rc s).2 + 1 ≤ rem (takeS s wRow) := c4
  have c3' : (rc s).1 ≤ 1000 := c3
  have c2' : 0 ≤ (rc s).1 := c2
  obtain ⟨t, q1, q2, q3, q4, q5⟩ := nums_rem (rc s).1.toNat (rc s).2 [] n1 (by omega)
  have e : (rowS s).1 = t := by unfold rowS; dsimp only; rw [q1, List.nil_append]
  have e2 : rem (rowS s).2 ≤ rem (numsS (rc s).1.toNat (rc s).2 []).2 := n2
  rw [e]
  exact ⟨t1, by omega, q3, by omega⟩
theorem rows_rem : ∀ (m : Nat) (s : St) (acc : List (List Rt)), (rowsS m s acc).2.err = 0 → rem s ≤ 4000 → ∃ t, (rowsS m s acc).1 = acc ++ t ∧ t.length = m ∧ (∀ r ∈ t, r.length ≤ 1000 ∧ ∀ v ∈ r, VG v) ∧ s.err = 0 ∧ rem (rowsS m s acc).2 ≤ rem s
  | 0, s, acc, h, hr => ⟨[], by rw [rowsS, List.append_nil], rfl, fun v hv => (by cases hv), h, Nat.le_refl _⟩
  | m + 1, s, acc, h, hr => by
    rw [rowsS] at h
    have hn : (rowS s).2.err = 0 := by
      by_cases he : (rowS s).2.err = 0
      · exact he
      · rw [rows_err he] at h; exact absurd h he
    obtain ⟨h1, h2, h3, h4⟩ := row_rem hn hr
    obtain ⟨t, t1, t2, t3, t4, t5⟩ := rows_rem m (rowS s).2 (acc ++ [(rowS s).1]) h (by omega)
    refine ⟨(rowS s).1 :: t, ?_, by rw [List.length_cons, t2], fun v hv => ?_, h1, ?_⟩
    · rw [rowsS, t1, ← snoc_at]
    · rcases List.mem_cons.1 hv with e | hv
      · rw [e]; exact ⟨h2, h3⟩
      · exact t3 v hv
    · rw [rowsS]; omega
theorem ent_rem {s : St} {i : Nat} (h : (entS s i).2.err = 0) (hr : rem s ≤ 4000) : s.err = 0 ∧ okE i (entS s i).1 ∧ EG (entS s i).1 ∧ rem (entS s i).2 ≤ rem s := by
  have key : (e3 s i).2.err = 0 → s.err = 0 ∧ (e1 s i).1 = (i : Int) ∧ 0 ≤ (e2 s i).1 ∧ (e2 s i).1 ≤ 9 ∧ rem (e3 s i).2 ≤ rem s := fun h3 => by
    obtain ⟨p1, p2⟩ := pick_rem (show (pickS (e2 s i).2 wPick).2.err = 0 from h3)
    obtain ⟨b1, b2, b3, b4⟩ := count_rem (show (countS (e1 s i).2 0 9).2.err = 0 from p1)
    obtain ⟨a1, a2, a3, a4⟩ := count_rem (show (countS (takeS s wEntry) i i).2.err = 0 from b1)
    obtain ⟨t1, t2⟩ := take_rem a1
    have p2' : rem (e3 s i).2 + 1 ≤ rem (e2 s i).2 := p2
    have b4' : rem (e2 s i).2 + 1 ≤ rem (e1 s i).2 := b4
    have a4' : rem (e1 s i).2 + 1 ≤ rem (takeS s wEntry) := a4
    have a2' : (i : Int) ≤ (e1 s i).1 := a2
    have a3' : (e1 s i).1 ≤ (i : Int) := a3
    exact ⟨t1, by omega, b2, b3, by omega⟩
  unfold entS at h ⊢
  by_cases hp : (e3 s i).1 = 0
  · rw [if_pos hp] at h ⊢
    obtain ⟨n1, n2⟩ := next_rem (show (nextS (e4 s i).2).err = 0 from h)
    obtain ⟨d1, d2, d3, d4⟩ := count_rem (show (countS (e3 s i).2 1 999).2.err = 0 from n1)
    obtain ⟨k1, k2, k3, k4, k5⟩ := key d1
    have d2' : 1 ≤ (e4 s i).1 := d2
    have d3' : (e4 s i).1 ≤ 999 := d3
    have d4' : rem (e4 s i).2 + 1 ≤ rem (e3 s i).2 := d4
    exact ⟨k1, ⟨k2, k3, k4, show 0 ≤ (e4 s i).1 by omega, d3, fun _ => rfl, Nat.zero_le _⟩, ⟨Nat.zero_le _, fun r hr => (by cases hr)⟩, show rem (nextS (e4 s i).2) ≤ rem s by omega⟩
  · rw [if_neg hp] at h ⊢
    have hn : (nextS (e5 s i).2).err = 0 := by
      by_cases he : (nextS (e5 s i).2).err = 0
      · exact he
      · have h' : (rowsS (e5 s i).1.toNat (nextS (e5 s i).2) []).2.err = 0 := h
        rw [rows_err he] at h'; exact absurd h' he
    obtain ⟨n1, n2⟩ := next_rem hn
    obtain ⟨d1, d2, d3, d4⟩ := count_rem (show (countS (e3 s i).2 0 64).2.err = 0 from n1)
    obtain ⟨k1, k2, k3, k4, k5⟩ := key d1
    have d2' : 0 ≤ (e5 s i).1 := d2
    have d3' : (e5 s i).1 ≤ 64 := d3
    have d4' : rem (e5 s i).2 + 1 ≤ rem (e3 s i).2 := d4
    obtain ⟨t, t1, t2, t3, t4, t5⟩ := rows_rem (e5 s i).1.toNat (nextS (e5 s i).2) [] h (by omega)
    rw [List.nil_append] at t1
    rw [t1]
    exact ⟨k1, ⟨k2, k3, k4, Int.le_refl _, show (0 : Int) ≤ 999 by decide, fun h => absurd rfl h, show t.length ≤ 64 by omega⟩, ⟨show t.length ≤ 64 by omega, t3⟩, show rem (rowsS (e5 s i).1.toNat (nextS (e5 s i).2) []).2 ≤ rem s by omega⟩
theorem ents_rem : ∀ (m i : Nat) (s : St) (acc : List En), (entsS m i s acc).2.err = 0 → rem s ≤ 4000 → ∃ t, (entsS m i s acc).1 = acc ++ t ∧ t.length = m ∧ okL i t ∧ (∀ x ∈ t, EG x)
  | 0, i, s, acc, h, hr => ⟨[], by rw [entsS, List.append_nil], rfl, trivial, fun v hv => (by cases hv)⟩
  | m + 1, i, s, acc, h, hr => by
    rw [entsS] at h
    have hn : (entS s i).2.err = 0 := by
      by_cases he : (entS s i).2.err = 0
      · exact he
      · rw [ents_err he] at h; exact absurd h he
    obtain ⟨h1, h2, h3, h4⟩ := ent_rem hn hr
    obtain ⟨t, t1, t2, t3, t4⟩ := ents_rem m (i + 1) (entS s i).2 (acc ++ [(entS s i).1]) h (by omega)
    refine ⟨(entS s i).1 :: t, ?_, by rw [List.length_cons, t2], ⟨h2, t3⟩, fun v hv => ?_⟩
    · rw [entsS, t1, ← snoc_at]
    · rcases List.mem_cons.1 hv with e | hv
      · rw [e]; exact h3
      · exact t4 v hv
theorem rhd_range (x : ByteArray) : 0 ≤ (rhd x).1 ∧ (rhd x).1 ≤ 16384 := countS_range _ 0 16384 (by decide) (by decide)
theorem rep_rem (x : ByteArray) (hx : x.size ≤ 2000) (h : (endS (repE x).2).err = 0) : (repE x).1.length ≤ 16384 ∧ okL 0 (repE x).1 ∧ ∀ y ∈ (repE x).1, EG y := by
  have h1 := end_rem h
  have hn : (nextS (rhd x).2).err = 0 := by
    by_cases he : (nextS (rhd x).2).err = 0
    · exact he
    · have h' : (entsS (rhd x).1.toNat 0 (nextS (rhd x).2) []).2.err = 0 := h1
      rw [ents_err he] at h'; exact absurd h' he
  obtain ⟨n1, n2⟩ := next_rem hn
  obtain ⟨d1, d2, d3, d4⟩ := count_rem (show (countS (takeS (readS x) wReport) 0 16384).2.err = 0 from n1)
  obtain ⟨t1, t2⟩ := take_rem d1
  have d4' : rem (rhd x).2 + 1 ≤ rem (takeS (readS x) wReport) := d4
  have hrr := read_rem x
  obtain ⟨t, q1, q2, q3, q4⟩ := ents_rem (rhd x).1.toNat 0 (nextS (rhd x).2) [] h1 (by omega)
  have e : (repE x).1 = t := by unfold repE; rw [q1, List.nil_append]
  obtain ⟨r1, r2⟩ := rhd_range x
  rw [e]
  exact ⟨by omega, q3, q4⟩
theorem rowTail_sizeG : ∀ (l : List Rt), (∀ v ∈ l, VG v) → (rowTail l).size ≤ 1 + 4001 * l.length
  | [], _ => by
    rw [rowTail]
    have : (⟨#[10]⟩ : ByteArray).size = 1 := rfl
    omega
  | r :: l, h => by
    have h1 := rowTail_sizeG l fun x hx => h x (List.mem_cons_of_mem _ hx)
    have h2 := (h r List.mem_cons_self).2.1
    have e : (⟨#[32]⟩ : ByteArray).size = 1 := rfl
    rw [rowTail, ByteArray.size_append, ByteArray.size_append, e, List.length_cons]
    omega
theorem rowsT_sizeG : ∀ (l : List (List Rt)), (∀ r ∈ l, r.length ≤ 1000 ∧ ∀ v ∈ r, VG v) → (rowsT l).size ≤ 4002000 * l.length
  | [], _ => by rw [rowsT]; exact Nat.zero_le _
  | r :: l, h => by
    have h1 := rowsT_sizeG l fun x hx => h x (List.mem_cons_of_mem _ hx)
    obtain ⟨h2, h3⟩ := h r List.mem_cons_self
    have h4 := rowTail_sizeG r h3
    have h5 := prN_small (n := r.length) (by omega)
    have e : (⟨#[114, 111, 119, 32]⟩ : ByteArray).size = 4 := rfl
    rw [rowsT, ByteArray.size_append, ByteArray.size_append, ByteArray.size_append, e, List.length_cons]
    omega
theorem entT_sizeG (i : Nat) (hi : i ≤ 1000000) (x : En) (h : EG x) (ho : okE i x) : (entT x).size ≤ 300000000 := by
  obtain ⟨o1, o2, o3, o4, o5, _, _⟩ := ho
  have h1 := prN_small (n := x.1.toNat) (by omega)
  have h2 := prN_small (n := x.2.1.toNat) (by omega)
  have h3 := prN_small (n := x.2.2.1.toNat) (by omega)
  have hlen := h.1
  have h4 := prN_small (n := x.2.2.2.length) (by omega)
  have h5 := rowsT_sizeG x.2.2.2 h.2
  unfold entT
  simp only [ByteArray.size_append, lit_size, List.size_toArray, List.length_cons, List.length_nil]
  split <;> simp only [ByteArray.size_append, lit_size, List.size_toArray, List.length_cons, List.length_nil] <;> omega
theorem entsT_sizeG : ∀ (l : List En) (i : Nat), i + l.length ≤ 1000000 → (∀ x ∈ l, EG x) → okL i l → (entsT l).size ≤ 300000000 * l.length
  | [], _, _, _, _ => by rw [entsT]; exact Nat.zero_le _
  | x :: l, i, hi, h, ho => by
    rw [List.length_cons] at hi
    have h1 := entsT_sizeG l (i + 1) (by omega) (fun y hy => h y (List.mem_cons_of_mem _ hy)) ho.2
    have h2 := entT_sizeG i (by omega) x (h x List.mem_cons_self) ho.1
    rw [entsT, ByteArray.size_append, List.length_cons]
    omega
theorem rep_size {l : List En} (hl : l.length ≤ 16384) (h : ∀ x ∈ l, EG x) (ho : okL 0 l) : (headT l.length ++ entsT l).size ≤ M := by
  have h1 := entsT_sizeG l 0 (by omega) h ho
  have h2 := prN_small (n := l.length) (by omega)
  unfold headT M
  simp only [ByteArray.size_append, lit_size, List.size_toArray, List.length_cons, List.length_nil]
  omega
theorem end_ev (s : St) (h : s.Good) : Ev (fun _ => lex_Reader_End.f s.ls s.i s.j s.sz s.err s.at_) (endS s).t := Ev.congr (fun _ => end_eq s h.ok h.l1) (Ev.now _)
theorem rfin_ev (x : ByteArray) (T : List En) (s : St) (h : s.Good) (hv : (endS s).err = 0 → T.length ≤ 16384 ∧ okL 0 T ∧ ∀ y ∈ T, EG y) :
    Ev (fun k => (lex_Reader_End.f s.ls s.i s.j s.sz s.err s.at_).bind fun v2 => ((lex_Reader_Err.f v2.1 v2.2.1 v2.2.2.1 v2.2.2.2.1 v2.2.2.2.2.1 v2.2.2.2.2.2).bind fun v4 => (if v4.1 ≠ 0 then (some (([] : List En), v4.1)) else ((report_Write.f k T).bind fun v13 => ((report_same.f x v13.1 v13.2).bind fun v22 => (if v22 ≠ 0 then (some (([] : List En), v22)) else (some (T, 0))))))))
      (if (endS s).err ≠ 0 then ([], (endS s).err) else if headT T.length ++ entsT T = x then (T, 0) else ([], 4)) := by
  refine Ev.bind (end_ev s h) (Ev.bind (Ev.now _) ?_)
  by_cases he : (endS s).err ≠ 0
  · rw [if_pos he]
    exact Ev.if_pos he (Ev.now _)
  · rw [if_neg he]
    obtain ⟨h1, h2, h3⟩ := hv (Decidable.not_not.1 he)
    have hw := write_ev T h1 (fun y hy => (h3 y hy).ok) (rep_size h1 h3 h2)
    unfold writeR at hw
    rw [if_pos h2] at hw
    refine Ev.if_neg he (Ev.bind hw ?_)
    by_cases hx : headT T.length ++ entsT T = x
    · rw [if_pos hx]
      have hs : report_same.f x (headT T.length ++ entsT T) 0 = some 0 := by
        unfold report_same.f
        rw [if_pos rfl, if_neg (fun h => h hx.symm)]
      exact Ev.bind (Ev.congr (fun _ => hs) (Ev.now _)) (Ev.if_neg (fun h => h rfl) (Ev.now _))
    · rw [if_neg hx]
      have hs : report_same.f x (headT T.length ++ entsT T) 0 = some 4 := by
        unfold report_same.f
        rw [if_pos rfl, if_pos (fun h => hx h.symm)]
      exact Ev.bind (Ev.congr (fun _ => hs) (Ev.now _)) (Ev.if_pos (by decide) (Ev.now _))
def finR (x : ByteArray) (p : List En × St) : List En × Int := if (endS p.2).err ≠ 0 then ([], (endS p.2).err) else if headT p.1.length ++ entsT p.1 = x then (p.1, 0) else ([], 4)
theorem rread_l0 (x : ByteArray) (N : Nat) (hN : N ≤ 16384) : ∀ (m i : Nat) (s : St) (acc : List En), i + m = N → acc.length = i → s.Good → ((endS (entsS m i s acc).2).err = 0 → (entsS m i s acc).1.length ≤ 16384 ∧ okL 0 (entsS m i s acc).1 ∧ ∀ y ∈ (entsS m i s acc).1, EG y) →
    Ev (fun k => report_Read.l0 k x acc (N : Int) (i : Int) s.ls s.i s.j s.sz s.err s.at_) (finR x (entsS m i s acc)) := by
  intro m
  induction m with
  | zero =>
    intro i s acc hi ha h hv
    refine Ev.succ ?_
    simp only [report_Read.l0]
    exact Ev.if_neg (by omega) (rfin_ev x acc s h hv)
  | succ m ih =>
    intro i s acc hi ha h hv
    obtain ⟨v, h1, h2⟩ := entry_ev s h i
    have ho := off_ev (entS s i).2
    have hg := ent_good h (i : Int)
    by_cases he : (entS s i).2.err = 0
    · rw [entsS] at hv ⊢
      have hih := ih (i + 1) (entS s i).2 (acc ++ [(entS s i).1]) (by omega) (by rw [List.length_append, List.length_singleton, ha]) hg hv
      rw [h2 he] at h1
      refine Ev.succ ?_
      simp only [report_Read.l0, wr_succ i (show i ≤ 1125899906842624 by omega)]
      exact Ev.if_pos (by omega) (Ev.bind h1 (Ev.bind ho (Ev.if_neg (by simp [he]) (Ev.if_pos (by omega) hih))))
    · have e : (entsS (m + 1) i s acc).2 = (entS s i).2 := by rw [entsS, ents_err he]
      have e2 : finR x (entsS (m + 1) i s acc) = (if (endS (entS s i).2).err ≠ 0 then ([], (endS (entS s i).2).err) else if headT acc.length ++ entsT acc = x then (acc, 0) else ([], 4)) := by
        unfold finR
        rw [e, end_err he, if_pos he, if_pos he]
      rw [e2]
      have hf := rfin_ev x acc (entS s i).2 hg (fun h => by rw [end_err he] at h; exact absurd h he)
      refine Ev.succ ?_
      simp only [report_Read.l0, wr_succ i (show i ≤ 1125899906842624 by omega)]
      exact Ev.if_pos (by omega) (Ev.bind h1 (Ev.bind ho (Ev.if_pos (by simpa using he) hf)))
theorem rread_ev (x : ByteArray) (hx : x.size ≤ 2000) : Ev (fun k => report_Read.f k x) (repR x) := by
  have g0 := readS_good x
  have g1 := takeS_good g0 wReport
  have g2 := rhd_good x
  have c := count_ev _ g1 0 16384
  obtain ⟨r1, r2⟩ := rhd_range x
  have hl := rread_l0 x (rhd x).1.toNat (by omega) (rhd x).1.toNat 0 (nextS (rhd x).2) [] (Nat.zero_add _) rfl (nextS_good g2) (fun h => rep_rem x hx h)
  rw [Int.toNat_of_nonneg r1] at hl
  unfold report_Read.f
  refine Ev.bind (read_ev x) (Ev.bind (Ev.congr (fun _ => take_eq (readS x) _ g0.ok g0.l1) (Ev.now _)) (Ev.bind c ?_))
  exact Ev.bind (Ev.congr (fun _ => next_eq (rhd x).2 g2.ok g2.l1) (Ev.now _)) hl
theorem repR_ok (x : ByteArray) (hx : x.size ≤ 2000) : (repR x).1.length ≤ 16384 ∧ okL 0 (repR x).1 ∧ (∀ y ∈ (repR x).1, EG y) ∧ ((repR x).2 = 0 → headT (repR x).1.length ++ entsT (repR x).1 = x) ∧ ((repR x).2 ≠ 0 → (repR x).1 = []) := by
  unfold repR
  by_cases he : (endS (repE x).2).err ≠ 0
  · rw [if_pos he]
    exact ⟨Nat.zero_le _, trivial, fun y hy => (by cases hy), fun h => absurd h he, fun _ => rfl⟩
  · rw [if_neg he]
    obtain ⟨h1, h2, h3⟩ := rep_rem x hx (Decidable.not_not.1 he)
    by_cases ht : headT (repE x).1.length ++ entsT (repE x).1 = x
    · rw [if_pos ht]
      exact ⟨h1, h2, h3, fun _ => ht, fun h => absurd rfl h⟩
    · rw [if_neg ht]
      exact ⟨Nat.zero_le _, trivial, fun y hy => (by cases hy), fun h => absurd h (by decide), fun _ => rfl⟩
theorem only_body (x : ByteArray) (hx : x.size ≤ 2000) : Ev (fun k => (report_Read.f k x).bind fun v5 => (if v5.2 ≠ 0 then (if (v5.1.length : Int) = 0 then ((dendronlaw29_awake.f k).bind fun v17 => (some v17)) else (some false)) else ((report_Write.f k v5.1).bind fun v14 => (if v14.2 = 0 then (if v14.1 = x then ((dendronlaw29_awake.f k).bind fun v28 => (some v28)) else (some false)) else (some false))))) true := by
  obtain ⟨h1, h2, h3, h4, h5⟩ := repR_ok x hx
  refine Ev.bind (rread_ev x hx) ?_
  by_cases he : (repR x).2 ≠ 0
  · exact Ev.if_pos he (Ev.if_pos (by rw [h5 he]; rfl) (Ev.bind awake29_ev (Ev.now _)))
  · have hw := write_ev (repR x).1 h1 (fun y hy => (h3 y hy).ok) (rep_size h1 h3 h2)
    unfold writeR at hw
    rw [if_pos h2] at hw
    exact Ev.if_neg he (Ev.bind hw (Ev.if_pos rfl (Ev.if_pos (h4 (Decidable.not_not.1 he)) (Ev.bind awake29_ev (Ev.now _)))))
theorem reportOnly_ev (x : ByteArray) : Ev (fun k => dendronlaw29_ReportOnly.f k x) true := by
  unfold dendronlaw29_ReportOnly.f
  by_cases h : (x.size : Int) > 2000
  · exact Ev.if_pos h (Ev.if_pos (by omega) (only_body _ (by rw [ByteArray.size_extract]; omega)))
  · exact Ev.if_neg h (only_body x (by omega))
end Go.DI.Th
namespace Go.DI.Th
open Go Go.RowKit Go.DI

end Go.DI.Th
namespace Go.DI.Th
open Go Go.RowKit Go.DI

end Go.DI.Th
