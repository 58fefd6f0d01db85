/- What the told functions answer, part 2. No condition. -/
import Derived.Test.YtopjcdonffcnhaaGreatDoorTh1
import Derived.Laws.RangeAny
import Derived.Laws.RangeString
set_option linter.all false
namespace Go.DI.Th
open Go Go.RowKit Go.DI

structure St where
  ls : List (List W)
  i : Nat
  j : Nat
  sz : Int
  err : Int
  at_ : Int
abbrev RT := List (List W) × Int × Int × Int × Int × Int
def St.t (s : St) : RT := (s.ls, (s.i : Int), (s.j : Int), s.sz, s.err, s.at_)
abbrev w0 : W := (0, 0, ByteArray.empty)
def St.line (s : St) : List W := s.ls.getD s.i []
structure St.Ok (s : St) : Prop where
  ne : ∀ l ∈ s.ls, l ≠ []
  il : s.i ≤ s.ls.length
  ib : s.i ≤ 1048576
  jl : s.j ≤ s.line.length
  jb : s.j ≤ 1048576
def hereS (s : St) : Int := if s.ls.length ≤ s.i then s.sz else if s.j < s.line.length then (s.line.getD s.j w0).1 else
  wrap64 ((s.line.getD (s.line.length - 1) w0).1 + ((s.line.getD (s.line.length - 1) w0).2.2.size : Int))
def failS (s : St) (e a : Int) : St := if s.err ≠ 0 then s else { s with err := e, at_ := a }
def moreS (s : St) : Prop := s.err = 0 ∧ s.i < s.ls.length ∧ s.j < s.line.length
instance (s : St) : Decidable (moreS s) := by unfold moreS; infer_instance
def wordS (s : St) : ByteArray × St := if s.err ≠ 0 then (ByteArray.empty, s) else if moreS s then ((s.line.getD s.j w0).2.2, { s with j := s.j + 1 }) else (ByteArray.empty, failS s 9 (hereS s))
def placeS (s : St) : Int := if s.err ≠ 0 then 0 else hereS s
def takeS (s : St) (w : ByteArray) : St := if (wordS s).2.err ≠ 0 then (wordS s).2 else if (wordS s).1 ≠ w then failS (wordS s).2 7 (placeS s) else (wordS s).2
def nextS (s : St) : St := if s.err ≠ 0 then s else if moreS s then failS s 10 (hereS s) else if s.ls.length ≤ s.i then failS s 9 s.sz else { s with i := s.i + 1, j := 0 }
def endS (s : St) : St := if s.err ≠ 0 then s else if s.i < s.ls.length then failS s 10 (hereS s) else s
theorem gt_nat {α : Type} (d : α) (l : List α) (n : Nat) : gt d l (n : Int) = l.getD n d := rfl
theorem St.Ok.line_ne {s : St} (h : s.Ok) (hi : s.i < s.ls.length) : s.line.length ≠ 0 := by
  unfold St.line
  intro e
  have e2 := List.eq_nil_of_length_eq_zero e
  refine h.ne _ ?_ e2
  rw [List.getD_eq_getElem?_getD, List.getElem?_eq_getElem hi]
  exact List.getElem_mem hi
theorem here_eq (s : St) (h : s.Ok) (hl : s.line.length ≤ 1048576) : lex_Reader_here.f s.ls s.i s.j s.sz s.err s.at_ = some (hereS s, s.t) := by
  unfold lex_Reader_here.f hereS
  by_cases h1 : s.ls.length ≤ s.i
  · rw [if_pos (by omega), if_pos h1]; rfl
  · have hne := h.line_ne (by omega)
    have e1 : gt [] s.ls (s.i : Int) = s.line := rfl
    rw [if_neg (by omega), if_neg h1, if_pos (nn0 _), if_pos (by omega), e1]
    by_cases h2 : s.j < s.line.length
    · rw [if_pos (by omega), if_pos h2, if_pos (nn0 _), gt_nat]; rfl
    · have ew : wrap64 ((s.line.length : Int) - 1) = ((s.line.length - 1 : Nat) : Int) := by
        rw [wrap_id (by omega) (by omega)]; omega
      rw [if_neg (by omega), if_neg h2, ew, if_pos (nn0 _), if_pos (by omega), gt_nat]; rfl
theorem off_eq (s : St) : lex_Reader_off.f s.ls s.i s.j s.sz s.err s.at_ = some ((s.err != 0), s.t) := rfl
theorem place_eq (s : St) (h : s.Ok) (hl : s.line.length ≤ 1048576) : lex_Reader_place.f s.ls s.i s.j s.sz s.err s.at_ = some (placeS s, s.t) := by
  unfold lex_Reader_place.f placeS
  rw [off_eq]
  show (if (s.err != 0) = true then some (0, s.t) else (lex_Reader_here.f s.ls s.i s.j s.sz s.err s.at_).bind fun v4 => some v4) = _
  by_cases he : s.err ≠ 0
  · rw [if_pos (by simpa using he), if_pos he]
  · rw [if_neg (by simpa using he), if_neg he, here_eq s h hl]; rfl
theorem fail_eq (s : St) (e a : Int) : lex_Reader_fail.f s.ls s.i s.j s.sz s.err s.at_ e a = some (failS s e a).t := by
  unfold lex_Reader_fail.f failS
  rw [off_eq]
  show (if (s.err != 0) = true then some s.t else some (s.ls, (s.i : Int), (s.j : Int), s.sz, e, a)) = _
  by_cases he : s.err ≠ 0
  · rw [if_pos (by simpa using he), if_pos he]
  · rw [if_neg (by simpa using he), if_neg he]; rfl
theorem more_eq (s : St) : lex_Reader_More.f s.ls s.i s.j s.sz s.err s.at_ = some (decide (moreS s), s.t) := by
  unfold lex_Reader_More.f moreS
  rw [off_eq]
  show (if (s.err != 0) = true then some (false, s.t) else if (s.i : Int) < (s.ls.length : Int) then (if 0 ≤ (s.i : Int) then some ((decide ((s.j : Int) < (s.line.length : Int))), s.t) else none) else some (false, s.t)) = _
  by_cases he : s.err ≠ 0
  · rw [if_pos (by simpa using he)]
    have : decide (s.err = 0 ∧ s.i < s.ls.length ∧ s.j < s.line.length) = false := by
      rw [decide_eq_false_iff_not]; exact fun h => he h.1
    rw [this]
  · rw [if_neg (by simpa using he)]
    by_cases h1 : s.i < s.ls.length
    · rw [if_pos (by omega), if_pos (nn0 _)]
      have : decide (s.err = 0 ∧ s.i < s.ls.length ∧ s.j < s.line.length) = decide ((s.j : Int) < (s.line.length : Int)) := by
        rw [decide_eq_decide]
        exact ⟨fun h => by omega, fun h => ⟨by omega, h1, by omega⟩⟩
      rw [this]
    · rw [if_neg (by omega)]
      have : decide (s.err = 0 ∧ s.i < s.ls.length ∧ s.j < s.line.length) = false := by
        rw [decide_eq_false_iff_not]; exact fun h => h1 h.2.1
      rw [this]
theorem word_eq (s : St) (h : s.Ok) (hl : s.line.length ≤ 1048576) : lex_Reader_Word.f s.ls s.i s.j s.sz s.err s.at_ = some ((wordS s).1, (wordS s).2.t) := by
  unfold lex_Reader_Word.f wordS
  rw [off_eq]
  by_cases he : s.err ≠ 0
  · rw [if_pos he]
    show (if (s.err != 0) = true then some (ByteArray.empty, s.t) else _) = _
    rw [if_pos (by simpa using he)]
  · rw [if_neg he]
    show (if (s.err != 0) = true then some (ByteArray.empty, s.t) else ((lex_Reader_More.f s.ls s.i s.j s.sz s.err s.at_).bind _)) = _
    rw [if_neg (by simpa using he), more_eq]
    have hj := h.jb
    have ew1 : wrap64 ((s.j : Int) + 1) = ((s.j + 1 : Nat) : Int) := wr_succ _ (by omega)
    have ew2 : wrap64 (((s.j + 1 : Nat) : Int) - 1) = (s.j : Int) := by rw [wrap_id (by omega) (by omega)]; omega
    show (if decide (moreS s) = true then (if 0 ≤ (s.i : Int) then (if (s.i : Int) < (s.ls.length : Int) then (if 0 ≤ (wrap64 ((wrap64 ((s.j : Int) + 1)) - 1)) then (if (wrap64 ((wrap64 ((s.j : Int) + 1)) - 1)) < (s.line.length : Int) then (some ((gt (0, 0, ByteArray.empty) s.line (wrap64 ((wrap64 ((s.j : Int) + 1)) - 1))).2.2, s.ls, (s.i : Int), (wrap64 ((s.j : Int) + 1)), s.sz, s.err, s.at_)) else none) else none) else none) else none) else ((lex_Reader_here.f s.ls s.i s.j s.sz s.err s.at_).bind fun v8 => ((lex_Reader_fail.f v8.2.1 v8.2.2.1 v8.2.2.2.1 v8.2.2.2.2.1 v8.2.2.2.2.2.1 v8.2.2.2.2.2.2 9 v8.1).bind fun v9 => (some (ByteArray.empty, v9.1, v9.2.1, v9.2.2.1, v9.2.2.2.1, v9.2.2.2.2.1, v9.2.2.2.2.2))))) = _
    rw [ew1, ew2]
    by_cases hm : moreS s
    · have hm1 := hm.2.1
      have hm2 := hm.2.2
      rw [if_pos (decide_eq_true hm), if_pos hm, if_pos (nn0 _), if_pos (by omega), if_pos (nn0 _), if_pos (by omega), gt_nat]
      rfl
    · rw [if_neg (by simpa using hm), if_neg hm, here_eq s h hl]
      show ((lex_Reader_fail.f s.ls s.i s.j s.sz s.err s.at_ 9 (hereS s)).bind fun v9 => (some (ByteArray.empty, v9))) = _
      rw [fail_eq]
      rfl
theorem failS_ok {s : St} (h : s.Ok) (e a : Int) : (failS s e a).Ok := by
  unfold failS
  split
  · exact h
  · exact ⟨h.ne, h.il, h.ib, h.jl, h.jb⟩
theorem wordS_ok {s : St} (h : s.Ok) (hl : s.line.length ≤ 1048576) : (wordS s).2.Ok := by
  unfold wordS
  split
  · exact h
  · split
    · rename_i hm
      have hm2 := hm.2.2
      exact ⟨h.ne, h.il, h.ib, hm2, Nat.le_trans hm2 hl⟩
    · exact failS_ok h _ _
theorem failS_ls (s : St) (e a : Int) : (failS s e a).ls = s.ls := by unfold failS; split <;> rfl
theorem wordS_ls (s : St) : (wordS s).2.ls = s.ls := by unfold wordS; split; rfl; split; rfl; exact failS_ls _ _ _
theorem take_eq (s : St) (w : ByteArray) (h : s.Ok) (hl : s.line.length ≤ 1048576) : lex_Reader_Take.f s.ls s.i s.j s.sz s.err s.at_ w = some (takeS s w).t := by
  unfold lex_Reader_Take.f takeS
  rw [place_eq s h hl]
  show ((lex_Reader_Word.f s.ls s.i s.j s.sz s.err s.at_).bind _) = _
  rw [word_eq s h hl]
  have h2 := wordS_ok h hl
  generalize wordS s = p at h2 ⊢
  obtain ⟨v, s2⟩ := p
  show (if (s2.err != 0) = true then some s2.t else if v ≠ w then ((lex_Reader_fail.f s2.ls s2.i s2.j s2.sz s2.err s2.at_ 7 (placeS s)).bind fun v16 => some v16) else some s2.t) = some (if s2.err ≠ 0 then s2 else if v ≠ w then failS s2 7 (placeS s) else s2).t
  by_cases he : s2.err ≠ 0
  · rw [if_pos (by simpa using he), if_pos he]
  · rw [if_neg (by simpa using he), if_neg he]
    by_cases hv : v ≠ w
    · rw [if_pos hv, if_pos hv, fail_eq]; rfl
    · rw [if_neg hv, if_neg hv]
theorem next_eq (s : St) (h : s.Ok) (hl : s.line.length ≤ 1048576) : lex_Reader_Next.f s.ls s.i s.j s.sz s.err s.at_ = some (nextS s).t := by
  unfold lex_Reader_Next.f nextS
  rw [off_eq]
  show (if (s.err != 0) = true then some s.t else ((lex_Reader_More.f s.ls s.i s.j s.sz s.err s.at_).bind _)) = _
  by_cases he : s.err ≠ 0
  · rw [if_pos (by simpa using he), if_pos he]
  · rw [if_neg (by simpa using he), if_neg he, more_eq]
    show (if decide (moreS s) = true then ((lex_Reader_here.f s.ls s.i s.j s.sz s.err s.at_).bind fun v6 => ((lex_Reader_fail.f v6.2.1 v6.2.2.1 v6.2.2.2.1 v6.2.2.2.2.1 v6.2.2.2.2.2.1 v6.2.2.2.2.2.2 10 v6.1).bind fun v7 => some v7)) else (if (s.i : Int) ≥ (s.ls.length : Int) then ((lex_Reader_fail.f s.ls s.i s.j s.sz s.err s.at_ 9 s.sz).bind fun v19 => some v19) else (some (s.ls, (wrap64 ((s.i : Int) + 1)), 0, s.sz, s.err, s.at_)))) = _
    by_cases hm : moreS s
    · rw [if_pos (decide_eq_true hm), if_pos hm, here_eq s h hl]
      show ((lex_Reader_fail.f s.ls s.i s.j s.sz s.err s.at_ 10 (hereS s)).bind fun v7 => some v7) = _
      rw [fail_eq]; rfl
    · rw [if_neg (by simpa using hm), if_neg hm]
      have hib := h.ib
      by_cases hi : s.ls.length ≤ s.i
      · rw [if_pos (by omega), if_pos hi, fail_eq]; rfl
      · rw [if_neg (by omega), if_neg hi, wr_succ _ (by omega)]; rfl
theorem nextS_ok {s : St} (h : s.Ok) (hn : s.ls.length ≤ 1048576) : (nextS s).Ok := by
  unfold nextS
  split
  · exact h
  · split
    · exact failS_ok h _ _
    · split
      · exact failS_ok h _ _
      · rename_i hi
        exact ⟨h.ne, by show s.i + 1 ≤ s.ls.length; omega, by show s.i + 1 ≤ _; omega, Nat.zero_le _, Nat.zero_le _⟩
theorem end_eq (s : St) (h : s.Ok) (hl : s.line.length ≤ 1048576) : lex_Reader_End.f s.ls s.i s.j s.sz s.err s.at_ = some (endS s).t := by
  unfold lex_Reader_End.f endS
  rw [off_eq]
  show (if (s.err != 0) = true then some s.t else (if (s.i : Int) < (s.ls.length : Int) then ((lex_Reader_here.f s.ls s.i s.j s.sz s.err s.at_).bind fun v17 => ((lex_Reader_fail.f v17.2.1 v17.2.2.1 v17.2.2.2.1 v17.2.2.2.2.1 v17.2.2.2.2.2.1 v17.2.2.2.2.2.2 10 v17.1).bind fun v18 => some v18)) else some s.t)) = _
  by_cases he : s.err ≠ 0
  · rw [if_pos (by simpa using he), if_pos he]
  · rw [if_neg (by simpa using he), if_neg he]
    by_cases hi : s.i < s.ls.length
    · rw [if_pos (by omega), if_pos hi, here_eq s h hl]
      show ((lex_Reader_fail.f s.ls s.i s.j s.sz s.err s.at_ 10 (hereS s)).bind fun v7 => some v7) = _
      rw [fail_eq]; rfl
    · rw [if_neg (by omega), if_neg hi]
end Go.DI.Th
namespace Go.DI.Th
open Go Go.RowKit Go.DI

def smallL : Nat → List UInt8 → Option Nat
  | acc, [] => some acc
  | acc, c :: r => if c.toNat < 48 ∨ 57 < c.toNat then none else smallL (min (10 * acc + (c.toNat - 48)) 1000000000) r
def smallS (l : List UInt8) : Option Nat := if l = [] then none else if 1 < l.length ∧ l.head? = some 48 then none else smallL 0 l
def optB (o : Option Nat) : Int × Bool := match o with
  | some n => ((n : Int), true)
  | none => (0, false)
theorem toBytes_toL (x : ByteArray) : toBytes x = (toL x).map fun b => (b.toNat : Int) := rfl
theorem small_l0 (l : List UInt8) (hl : l.length ≤ 1125899906842624) : ∀ (b a : List UInt8) (acc : Nat), l = a ++ b → acc ≤ 1000000000 →
    Ev (fun k => lex_small.l0 k (acc : Int) (l.map fun b => (b.toNat : Int)) (l.length : Int) (a.length : Int)) (optB (smallL acc b)) := by
  intro b
  induction b with
  | nil =>
    intro a acc hr ha
    rw [List.append_nil] at hr
    refine Ev.succ ?_
    simp only [lex_small.l0]
    exact Ev.if_neg (by rw [hr]; omega) (Ev.now _)
  | cons c b ih =>
    intro a acc hr ha
    have hlen : l.length = a.length + (b.length + 1) := by rw [hr, List.length_append, List.length_cons]
    have e1 : rd (l.map fun b => (b.toNat : Int)) (a.length : Int) = (c.toNat : Int) := by
      rw [rd_nat, hr, List.map_append, List.map_cons]
      have := lgetD_at (a.map fun b => (b.toNat : Int)) (c.toNat : Int) (b.map fun b => (b.toNat : Int)) 0
      rw [List.length_map] at this
      exact this
    have ew : wrap64 ((a.length : Int) + 1) = ((a ++ [c]).length : Int) := by rw [wr_succ _ (by omega), List.length_append, List.length_singleton]
    refine Ev.succ ?_
    simp only [lex_small.l0, e1, ew]
    refine Ev.if_pos (by omega) (Ev.if_pos (nn0 _) (Ev.if_pos (by rw [List.length_map]; omega) ?_))
    rw [smallL]
    by_cases h1 : c.toNat < 48
    · rw [if_pos (Or.inl h1)]
      exact Ev.if_pos (by omega) (Ev.now _)
    · refine Ev.if_neg (by omega) ?_
      by_cases h2 : 57 < c.toNat
      · rw [if_pos (Or.inr h2)]
        exact Ev.if_pos (by omega) (Ev.now _)
      · rw [if_neg (by omega)]
        refine Ev.if_neg (by omega) ?_
        have e2 : wrap64 (wrap64 (10 * (acc : Int)) + wrap64 (IntKind.u8.wrap ((c.toNat : Int) - 48))) = ((10 * acc + (c.toNat - 48) : Nat) : Int) := by
          have e3 : IntKind.u8.wrap ((c.toNat : Int) - 48) = ((c.toNat - 48 : Nat) : Int) := by
            rw [IntKind.wrap_u8, Int.emod_eq_of_lt (by omega) (by omega)]; omega
          rw [e3, wrap_id (i := 10 * (acc : Int)) (by omega) (by omega), wrap_id (i := ((c.toNat - 48 : Nat) : Int)) (by omega) (by omega), wrap_id (by omega) (by omega)]
          omega
        rw [e2]
        by_cases h3 : 1000000000 < 10 * acc + (c.toNat - 48)
        · rw [Nat.min_eq_right (by omega)]
          exact Ev.if_pos (by omega) (ih (a ++ [c]) 1000000000 (by rw [hr]; simp) (Nat.le_refl _))
        · rw [Nat.min_eq_left (by omega)]
          exact Ev.if_neg (by omega) (ih (a ++ [c]) _ (by rw [hr]; simp) (by omega))
theorem lsmall_ev (x : ByteArray) (hx : x.size ≤ 140737488355328) : Ev (fun k => lex_small.f k x) (optB (smallS (toL x))) := by
  unfold lex_small.f smallS
  have hs := size_toL x
  by_cases h0 : x = ByteArray.empty
  · rw [if_pos (by rw [h0]; rfl)]
    exact Ev.if_pos h0 (Ev.now _)
  · have h1 : toL x ≠ [] := fun e => h0 (toL_inj e)
    rw [if_neg h1]
    refine Ev.if_neg h0 ?_
    have fin : Ev (fun k => if x.size ≤ lim then (lex_small.l0 k 0 (toBytes x) ((toBytes x).length : Int) 0) else none) (optB (smallL 0 (toL x))) := by
      have := small_l0 (toL x) (by omega) (toL x) [] 0 rfl (Nat.zero_le _)
      rw [toBytes_toL, List.length_map]
      exact Ev.if_pos hx this
    cases hl : toL x with
    | nil => exact absurd hl h1
    | cons c r =>
      have hb := bt_at (p := []) hl
      rw [hl] at fin
      rw [hl, List.length_cons] at hs
      by_cases h2 : 0 < r.length
      · refine Ev.if_pos (by omega) (Ev.if_pos (by omega) ?_)
        have hb2 : bt x 0 = (c.toNat : Int) := hb
        rw [hb2]
        by_cases h3 : c = 48
        · rw [if_pos ⟨by rw [List.length_cons]; omega, by rw [h3]; rfl⟩]
          exact Ev.if_pos (by rw [h3]; rfl) (Ev.now _)
        · rw [if_neg (fun h => h3 (by have := h.2; simpa using this))]
          exact Ev.if_neg (fun e => h3 ((u8_eq c 48 (by decide)).1 e)) fin
      · rw [if_neg (fun h => h2 (by have := h.1; rw [List.length_cons] at this; omega))]
        exact Ev.if_neg (by omega) fin
def countS (s : St) (lo hi : Int) : Int × St := if (wordS s).2.err ≠ 0 then (0, (wordS s).2) else match smallS (toL (wordS s).1) with
  | some n => if (n : Int) < lo then (0, failS (wordS s).2 16 (placeS s)) else if (n : Int) > hi then (0, failS (wordS s).2 16 (placeS s)) else ((n : Int), (wordS s).2)
  | none => (0, failS (wordS s).2 4 (placeS s))
structure St.Good (s : St) : Prop where
  ok : s.Ok
  ll : ∀ l ∈ s.ls, l.length ≤ 4096
  lss : s.ls.length ≤ 16384
  ws : ∀ l ∈ s.ls, ∀ w ∈ l, w.2.2.size ≤ 1048576
theorem St.Good.line {s : St} (h : s.Good) : s.line.length ≤ 4096 := by
  unfold St.line
  rw [List.getD_eq_getElem?_getD]
  cases e : s.ls[s.i]? with
  | none => exact Nat.zero_le _
  | some l => exact h.ll l (List.mem_of_getElem? e)
theorem St.Good.l1 {s : St} (h : s.Good) : s.line.length ≤ 1048576 := Nat.le_trans h.line (by decide)
theorem St.Good.of {s t : St} (h : s.Good) (ho : t.Ok) (e : t.ls = s.ls) : t.Good := ⟨ho, by rw [e]; exact h.ll, by rw [e]; exact h.lss, by rw [e]; exact h.ws⟩
theorem failS_good {s : St} (h : s.Good) (e a : Int) : (failS s e a).Good := h.of (failS_ok h.ok e a) (failS_ls s e a)
theorem wordS_good {s : St} (h : s.Good) : (wordS s).2.Good := h.of (wordS_ok h.ok h.l1) (wordS_ls s)
theorem takeS_good {s : St} (h : s.Good) (w : ByteArray) : (takeS s w).Good := by
  have h2 := wordS_good h
  unfold takeS
  split
  · exact h2
  · split
    · exact failS_good h2 _ _
    · exact h2
theorem countS_good {s : St} (h : s.Good) (lo hi : Int) : (countS s lo hi).2.Good := by
  have h2 := wordS_good h
  unfold countS
  split
  · exact h2
  · split
    · split
      · exact failS_good h2 _ _
      · split
        · exact failS_good h2 _ _
        · exact h2
    · exact failS_good h2 _ _
theorem nextS_ls (s : St) : (nextS s).ls = s.ls := by
  unfold nextS
  split
  · rfl
  · split
    · exact failS_ls _ _ _
    · split
      · exact failS_ls _ _ _
      · rfl
theorem nextS_good {s : St} (h : s.Good) : (nextS s).Good := h.of (nextS_ok h.ok (Nat.le_trans h.lss (by decide))) (nextS_ls s)
theorem wordS_size {s : St} (h : s.Good) : (wordS s).1.size ≤ 1048576 := by
  unfold wordS
  split
  · exact Nat.zero_le _
  · split
    · rename_i hm
      have hi := hm.2.1
      have hj := hm.2.2
      have hml : s.line ∈ s.ls := by
        unfold St.line
        rw [List.getD_eq_getElem?_getD, List.getElem?_eq_getElem hi]
        exact List.getElem_mem hi
      refine h.ws s.line hml _ ?_
      rw [List.getD_eq_getElem?_getD, List.getElem?_eq_getElem hj]
      exact List.getElem_mem hj
    · exact Nat.zero_le _
theorem count_ev (s : St) (h : s.Good) (lo hi : Int) : Ev (fun k => lex_Reader_Count.f k s.ls s.i s.j s.sz s.err s.at_ lo hi) ((countS s lo hi).1, (countS s lo hi).2.t) := by
  unfold lex_Reader_Count.f countS
  rw [place_eq s h.ok h.l1]
  show Ev (fun k => (lex_Reader_Word.f s.ls s.i s.j s.sz s.err s.at_).bind _) _
  rw [word_eq s h.ok h.l1]
  have h2 := wordS_good h
  have h3 := wordS_size h
  generalize wordS s = p at h2 h3 ⊢
  obtain ⟨v, s2⟩ := p
  have h3 : v.size ≤ 1048576 := h3
  have hsm := lsmall_ev v (by omega)
  show Ev (fun k => if (s2.err != 0) = true then some (0, s2.t) else ((lex_small.f k v).bind fun v10 => (if v10.2 = true then (if v10.1 < lo then ((lex_Reader_fail.f s2.ls s2.i s2.j s2.sz s2.err s2.at_ 16 (placeS s)).bind fun v30 => (some (0, v30))) else (if v10.1 > hi then ((lex_Reader_fail.f s2.ls s2.i s2.j s2.sz s2.err s2.at_ 16 (placeS s)).bind fun v30 => (some (0, v30))) else (some (v10.1, s2.t)))) else ((lex_Reader_fail.f s2.ls s2.i s2.j s2.sz s2.err s2.at_ 4 (placeS s)).bind fun v21 => (some (0, v21)))))) _
  simp only [fail_eq]
  by_cases he : s2.err ≠ 0
  · rw [if_pos he]
    exact Ev.if_pos (by simpa using he) (Ev.now _)
  · rw [if_neg he]
    refine Ev.if_neg (by simpa using he) (Ev.bind hsm ?_)
    cases hv : smallS (toL v) with
    | none => exact Ev.if_neg (by simp [optB]) (Ev.now _)
    | some n =>
      refine Ev.if_pos rfl ?_
      by_cases h5 : (n : Int) < lo
      · simp only [if_pos h5]
        exact Ev.if_pos h5 (Ev.now _)
      · simp only [if_neg h5]
        refine Ev.if_neg h5 ?_
        by_cases h6 : (n : Int) > hi
        · simp only [if_pos h6]
          exact Ev.if_pos h6 (Ev.now _)
        · simp only [if_neg h6]
          exact Ev.if_neg h6 (Ev.now _)
end Go.DI.Th
namespace Go.DI.Th
open Go Go.RowKit Go.DI

def WZ (B : Nat) (l : List W) : Prop := ∀ w ∈ l, w.2.2.size ≤ B
theorem wordsS_sz (B : Nat) : ∀ (n : Nat) (cs : List UInt8) (acc : List W) (pos : Nat), cs.length ≤ n → cs.length ≤ B → WZ B acc → WZ B (wordsS acc pos cs).1 := by
  intro n
  induction n with
  | zero =>
    intro cs acc pos hn _ ha
    have : cs = [] := List.eq_nil_of_length_eq_zero (by omega)
    subst this
    rw [wordsS]
    exact ha
  | succ n ih =>
    intro cs acc pos hn hB ha
    have hnil : WZ B [] := fun w hw => by cases hw
    cases cs with
    | nil => rw [wordsS]; exact ha
    | cons c r =>
      rw [List.length_cons] at hn hB
      rw [wordsS]
      split
      · exact ih r acc (pos + 1) (by omega) (by omega) ha
      · split
        · exact ha
        · split
          · split
            · exact hnil
            · have hsplit := congrArg List.length (List.takeWhile_append_dropWhile (p := inw) (l := r))
              rw [List.length_append] at hsplit
              refine ih (r.dropWhile inw) _ _ (by omega) (by omega) ?_
              intro w hw
              rcases List.mem_append.1 hw with h | h
              · exact ha w h
              · have : w = ((pos : Int), 0, ofL (c :: r.takeWhile inw)) := by simpa using h
                rw [this]
                show (ofL (c :: r.takeWhile inw)).size ≤ B
                rw [size_toL, toL_ofL, List.length_cons]
                omega
          · exact hnil
structure LsOk (ls : List (List W)) : Prop where
  ne : ∀ l ∈ ls, l ≠ []
  ll : ∀ l ∈ ls, l.length ≤ 4096
  ws : ∀ l ∈ ls, ∀ w ∈ l, w.2.2.size ≤ 1048576
theorem linesS_ok : ∀ (m : Nat) (cs : List UInt8) (acc : List (List W)) (n pos : Nat), cs.length ≤ m → cs.length ≤ 1048576 → LsOk acc → acc.length ≤ n → n ≤ 16384 → LsOk (linesS acc n pos cs).1 ∧ (linesS acc n pos cs).1.length ≤ 16384 := by
  have hnil : LsOk [] := ⟨fun l hl => (by cases hl), fun l hl => (by cases hl), fun l hl => (by cases hl)⟩
  intro m
  induction m using Nat.strongRecOn with
  | ind m ih =>
    intro cs acc n pos hm hB ha hl hn
    rw [linesS]
    split
    · exact ⟨hnil, Nat.zero_le _⟩
    · split
      · exact ⟨hnil, Nat.zero_le _⟩
      · rename_i hn2 _
        have hlen := congrArg List.length (List.takeWhile_append_dropWhile (p := nnl) (l := cs))
        rw [List.length_append] at hlen
        have h1 := wordsS_bd 1048576 (cs.takeWhile nnl).length (cs.takeWhile nnl) [] 0 (Nat.le_refl _) (fun w hw => by cases hw) (by omega) (Nat.zero_le _)
        have h2 := wordsS_sz 1048576 (cs.takeWhile nnl).length (cs.takeWhile nnl) [] 0 (Nat.le_refl _) (by omega) (fun w hw => by cases hw)
        have hA : LsOk (if (wordsS [] 0 (cs.takeWhile nnl)).1.length > 0 then acc ++ [(wordsS [] 0 (cs.takeWhile nnl)).1.map (shiftW n pos)] else acc) ∧ (if (wordsS [] 0 (cs.takeWhile nnl)).1.length > 0 then acc ++ [(wordsS [] 0 (cs.takeWhile nnl)).1.map (shiftW n pos)] else acc).length ≤ n + 1 := by
          split
          · rename_i h0
            constructor
            · refine ⟨?_, ?_, ?_⟩
              · intro l hlm
                rcases List.mem_append.1 hlm with h | h
                · exact ha.ne l h
                · have : l = (wordsS [] 0 (cs.takeWhile nnl)).1.map (shiftW n pos) := by simpa using h
                  rw [this]
                  intro e
                  have := congrArg List.length e
                  rw [List.length_map, List.length_nil] at this
                  omega
              · intro l hlm
                rcases List.mem_append.1 hlm with h | h
                · exact ha.ll l h
                · have : l = (wordsS [] 0 (cs.takeWhile nnl)).1.map (shiftW n pos) := by simpa using h
                  rw [this, List.length_map]
                  exact h1.2.1
              · intro l hlm
                rcases List.mem_append.1 hlm with h | h
                · exact ha.ws l h
                · have : l = (wordsS [] 0 (cs.takeWhile nnl)).1.map (shiftW n pos) := by simpa using h
                  rw [this]
                  intro w hw
                  obtain ⟨v, hv, rfl⟩ := List.mem_map.1 hw
                  exact h2 v hv
            · rw [List.length_append, List.length_singleton]; omega
          · exact ⟨ha, by omega⟩
        generalize (if (wordsS [] 0 (cs.takeWhile nnl)).1.length > 0 then acc ++ [(wordsS [] 0 (cs.takeWhile nnl)).1.map (shiftW n pos)] else acc) = A at hA ⊢
        split
        · exact ⟨hA.1, by show A.length ≤ 16384; omega⟩
        · rename_i c r h0
          rw [h0, List.length_cons] at hlen
          exact ih r.length (by omega) r A (n + 1) _ (Nat.le_refl _) (by omega) hA.1 hA.2 (by omega)
theorem linesT_ok (x : ByteArray) : LsOk (linesT x).1 ∧ (linesT x).1.length ≤ 16384 := by
  have hnil : LsOk [] := ⟨fun l hl => (by cases hl), fun l hl => (by cases hl), fun l hl => (by cases hl)⟩
  unfold linesT
  split
  · exact ⟨hnil, Nat.zero_le _⟩
  · exact linesS_ok _ _ _ _ _ (Nat.le_refl _) (by rw [← size_toL]; omega) hnil (Nat.le_refl _) (by decide)
def readS (x : ByteArray) : St := ⟨(linesT x).1, 0, 0, (x.size : Int), (linesT x).2.2, (linesT x).2.1⟩
theorem readS_good (x : ByteArray) : (readS x).Good := by
  have h := linesT_ok x
  exact ⟨⟨h.1.ne, Nat.zero_le _, Nat.zero_le _, Nat.zero_le _, Nat.zero_le _⟩, h.1.ll, h.2, h.1.ws⟩
theorem read_ev (x : ByteArray) : Ev (fun k => lex_Read.f k x) (readS x).t := by
  unfold lex_Read.f
  exact Ev.bind (lines_ev x) (Ev.now _)
def joinW : List (List UInt8) → List UInt8
  | [] => []
  | [w] => w
  | w :: v :: l => w ++ 32 :: joinW (v :: l)
def WdOk (w : List UInt8) : Prop := w ≠ [] ∧ ∀ c ∈ w, inw c = true
def placed : Nat → List (List UInt8) → List W
  | _, [] => []
  | pos, w :: l => ((pos : Int), 0, ofL w) :: placed (pos + w.length + 1) l
theorem placed_length : ∀ (pos : Nat) (l : List (List UInt8)), (placed pos l).length = l.length
  | _, [] => rfl
  | pos, w :: l => by rw [placed, List.length_cons, List.length_cons, placed_length]
theorem inw_props {c : UInt8} (h : inw c = true) : blank c = false ∧ c ≠ 35 ∧ plain c = true ∧ nnl c = true := by
  unfold inw at h
  rw [Bool.and_eq_true] at h
  obtain ⟨h1, h2⟩ := h
  have h3 : 32 < c.toNat ∧ c.toNat < 127 := by
    unfold plain at h1
    exact of_decide_eq_true h1
  refine ⟨?_, by simpa using h2, h1, ?_⟩
  · unfold blank
    have n1 : c ≠ 32 := fun e => by rw [e] at h3; exact absurd h3.1 (by decide)
    have n2 : c ≠ 9 := fun e => by rw [e] at h3; exact absurd h3.1 (by decide)
    have n3 : c ≠ 13 := fun e => by rw [e] at h3; exact absurd h3.1 (by decide)
    simp [n1, n2, n3]
  · unfold nnl
    have n1 : c ≠ 10 := fun e => by rw [e] at h3; exact absurd h3.1 (by decide)
    simp [n1]
theorem takeWhile_word (p : UInt8 → Bool) (w : List UInt8) (r : List UInt8) (hw : ∀ c ∈ w, p c = true) (hr : ∀ c, r.head? = some c → p c = false) : (w ++ r).takeWhile p = w ∧ (w ++ r).dropWhile p = r := by
  induction w with
  | nil =>
    cases r with
    | nil => exact ⟨rfl, rfl⟩
    | cons c r =>
      have := hr c rfl
      rw [List.nil_append, List.takeWhile_cons, List.dropWhile_cons, this]
      exact ⟨rfl, rfl⟩
  | cons c w ih =>
    have h1 := hw c List.mem_cons_self
    have h2 := ih fun d hd => hw d (List.mem_cons_of_mem _ hd)
    rw [List.cons_append, List.takeWhile_cons, List.dropWhile_cons, h1, if_pos rfl, if_pos rfl, h2.1, h2.2]
    exact ⟨rfl, rfl⟩
theorem wordsS_word (acc : List W) (pos : Nat) (w r : List UInt8) (hw : WdOk w) (hr : ∀ c, r.head? = some c → inw c = false) (ha : acc.length < 4096) : wordsS acc pos (w ++ r) = wordsS (acc ++ [((pos : Int), 0, ofL w)]) (pos + w.length) r := by
  obtain ⟨h0, h1⟩ := hw
  cases w with
  | nil => exact absurd rfl h0
  | cons c w =>
    have hc := inw_props (h1 c List.mem_cons_self)
    have ht := takeWhile_word inw w r (fun d hd => h1 d (List.mem_cons_of_mem _ hd)) hr
    rw [List.cons_append, wordsS, if_neg (by rw [hc.1]; decide), if_neg hc.2.1, if_pos hc.2.2.1, if_neg (by omega), ht.1, ht.2]
theorem wordsS_join : ∀ (ws : List (List UInt8)) (acc : List W) (pos : Nat), (∀ w ∈ ws, WdOk w) → acc.length + ws.length ≤ 4096 → wordsS acc pos (joinW ws) = (acc ++ placed pos ws, 0, 0)
  | [], acc, pos, _, _ => by rw [joinW, wordsS, placed, List.append_nil]
  | [w], acc, pos, h, hl => by
    rw [List.length_singleton] at hl
    have := wordsS_word acc pos w [] (h w List.mem_cons_self) (fun c hc => by simp at hc) (by omega)
    rw [List.append_nil] at this
    rw [joinW, this, wordsS]
    rfl
  | w :: v :: l, acc, pos, h, hl => by
    rw [List.length_cons] at hl
    have h32 : ∀ c : UInt8, (32 :: joinW (v :: l)).head? = some c → inw c = false := fun c hc => by
      have : c = 32 := by simpa using hc.symm
      rw [this]; decide
    have h1 := wordsS_word acc pos w (32 :: joinW (v :: l)) (h w List.mem_cons_self) h32 (by omega)
    rw [joinW, h1, wordsS, if_pos (by decide)]
    have h2 := wordsS_join (v :: l) (acc ++ [((pos : Int), 0, ofL w)]) (pos + w.length + 1) (fun w hw => h w (List.mem_cons_of_mem _ hw)) (by rw [List.length_append, List.length_singleton]; omega)
    rw [h2, List.append_assoc]
    rfl
theorem joinW_nnl : ∀ (ws : List (List UInt8)), (∀ w ∈ ws, WdOk w) → ∀ c ∈ joinW ws, nnl c = true
  | [], _, c, hc => by rw [joinW] at hc; cases hc
  | [w], h, c, hc => by
    rw [joinW] at hc
    exact (inw_props ((h w List.mem_cons_self).2 c hc)).2.2.2
  | w :: v :: l, h, c, hc => by
    rw [joinW] at hc
    rcases List.mem_append.1 hc with h1 | h1
    · exact (inw_props ((h w List.mem_cons_self).2 c h1)).2.2.2
    · rcases List.mem_cons.1 h1 with h2 | h2
      · rw [h2]; decide
      · exact joinW_nnl (v :: l) (fun w hw => h w (List.mem_cons_of_mem _ hw)) c h2
def textW : List (List (List UInt8)) → List UInt8
  | [] => []
  | l :: t => joinW l ++ 10 :: textW t
def placedL : Nat → Nat → List (List (List UInt8)) → List (List W)
  | _, _, [] => []
  | n, pos, l :: t => (placed 0 l).map (shiftW n pos) :: placedL (n + 1) (pos + (joinW l).length + 1) t
theorem linesS_text : ∀ (t : List (List (List UInt8))) (acc : List (List W)) (n pos : Nat), (∀ l ∈ t, l ≠ [] ∧ l.length ≤ 4096 ∧ ∀ w ∈ l, WdOk w) → n + t.length < 16384 → linesS acc n pos (textW t) = (acc ++ placedL n pos t, 0, 0)
  | [], acc, n, pos, _, hn => by
    rw [List.length_nil] at hn
    rw [textW, linesS, if_neg (by omega)]
    have e : (([] : List UInt8).takeWhile nnl) = [] := rfl
    rw [e, wordsS, if_neg (by decide)]
    simp [placedL]
  | l :: t, acc, n, pos, h, hn => by
    rw [List.length_cons] at hn
    obtain ⟨h1, h2, h3⟩ := h l List.mem_cons_self
    have ht := takeWhile_word nnl (joinW l) (10 :: textW t) (joinW_nnl l h3) (fun c hc => by
      have : c = 10 := by simpa using hc.symm
      rw [this]; decide)
    have hw := wordsS_join l [] 0 h3 (by rw [List.length_nil]; omega)
    rw [List.nil_append] at hw
    rw [textW, linesS, if_neg (by omega), ht.1, hw, if_neg (fun h => h rfl)]
    have hl : (placed 0 l).length > 0 := by
      rw [placed_length]
      exact Nat.pos_of_ne_zero fun e => h1 (List.eq_nil_of_length_eq_zero e)
    rw [if_pos hl]
    split
    · rename_i h0
      rw [ht.2] at h0
      cases h0
    · rename_i c r h0
      rw [ht.2] at h0
      injection h0 with h4 h5
      rw [← h5, linesS_text t _ (n + 1) _ (fun l hl => h l (List.mem_cons_of_mem _ hl)) (by omega), List.append_assoc]
      rfl
theorem linesT_text (t : List (List (List UInt8))) (h : ∀ l ∈ t, l ≠ [] ∧ l.length ≤ 4096 ∧ ∀ w ∈ l, WdOk w) (hn : t.length < 16384) (hs : (textW t).length ≤ 1048576) (x : ByteArray) (hx : toL x = textW t) : linesT x = (placedL 0 0 t, 0, 0) := by
  unfold linesT
  rw [if_neg (by rw [size_toL, hx]; omega), hx, linesS_text t [] 0 0 h (by omega), List.nil_append]
end Go.DI.Th
namespace Go.DI.Th
open Go Go.RowKit Go.DI

theorem dig_inw {c : UInt8} (h : Dig c) : inw c = true := by
  unfold inw plain
  obtain ⟨h1, h2⟩ := h
  have h3 : c ≠ 35 := fun e => by rw [e] at h1; exact absurd h1 (by decide)
  rw [decide_eq_true ⟨by omega, by omega⟩]
  simp [h3]
theorem prN_word (n : Nat) : WdOk (toL (prN n)) := ⟨prN_ne n, fun c hc => dig_inw (prN_dig n c hc)⟩
theorem smallL_snoc : ∀ (l : List UInt8) (acc : Nat) (c : UInt8), smallL acc (l ++ [c]) = (smallL acc l).bind fun v => if c.toNat < 48 ∨ 57 < c.toNat then none else some (min (10 * v + (c.toNat - 48)) 1000000000)
  | [], acc, c => by
    rw [List.nil_append, smallL, smallL]
    rfl
  | d :: l, acc, c => by
    rw [List.cons_append, smallL, smallL]
    split
    · rfl
    · exact smallL_snoc l _ c
theorem smallL_prN (n : Nat) (h : n ≤ 1000000000) : smallL 0 (toL (prN n)) = some n := by
  unfold prN
  rw [toL_ofBytes]
  induction n using Nat.strongRecOn with
  | ind n ih =>
    by_cases h1 : n < 10
    · have e : (UInt8.ofNat (48 + (n : Int)).toNat).toNat = 48 + n := by
        rw [UInt8.toNat_ofNat', Nat.mod_eq_of_lt (by omega)]; omega
      rw [dec_small h1, List.map_cons, List.map_nil, smallL, e, if_neg (by omega), smallL]
      congr 1
      omega
    · have hm : n % 10 < 10 := Nat.mod_lt _ (by decide)
      have e : (UInt8.ofNat (48 + ((n % 10 : Nat) : Int)).toNat).toNat = 48 + n % 10 := by
        rw [UInt8.toNat_ofNat', Nat.mod_eq_of_lt (by omega)]; omega
      rw [dec_big h1, List.map_append, List.map_cons, List.map_nil, smallL_snoc, ih (n / 10) (by omega) (by omega)]
      show (if _ then none else some _) = _
      rw [e, if_neg (by omega)]
      congr 1
      omega
theorem small_prN (n : Nat) (h : n ≤ 1000000000) : smallS (toL (prN n)) = some n := by
  unfold smallS
  rw [if_neg (prN_ne n), if_neg ?_, smallL_prN n h]
  intro ⟨h1, h2⟩
  unfold prN at h1 h2
  rw [toL_ofBytes] at h1 h2
  by_cases h0 : n = 0
  · subst h0
    rw [dec_small (by decide)] at h1
    exact absurd h1 (by decide)
  · obtain ⟨x, r, e, hx⟩ := dec_head n h0
    have hb := dec_byte n x (by rw [e]; exact List.mem_cons_self)
    rw [e, List.map_cons, List.head?_cons, Option.some.injEq] at h2
    have := congrArg UInt8.toNat h2
    rw [UInt8.toNat_ofNat', Nat.mod_eq_of_lt (by omega)] at this
    have h48 : (48 : UInt8).toNat = 48 := rfl
    omega
end Go.DI.Th
namespace Go.DI.Th
open Go Go.RowKit Go.DI

abbrev Nd := Bool × Int × Bool × List Int × List Int × Int × Int × Bool × Bool × List Int × List Int × Bool × List Int × List Int
abbrev Nd.cut (n : Nd) : Rt := (n.2.2.1, n.2.2.2.1, n.2.2.2.2.1)
abbrev Nd.val (n : Nd) : Rt := (n.2.2.2.2.2.2.2.2.1, n.2.2.2.2.2.2.2.2.2.1, n.2.2.2.2.2.2.2.2.2.2.1)
abbrev Nd.cov (n : Nd) : Rt := (n.2.2.2.2.2.2.2.2.2.2.2.1, n.2.2.2.2.2.2.2.2.2.2.2.2.1, n.2.2.2.2.2.2.2.2.2.2.2.2.2)
end Go.DI.Th
namespace Go.DI.Th
open Go Go.RowKit Go.DI

def leafW : ByteArray := ⟨#[108, 101, 97, 102]⟩
def splitW : ByteArray := ⟨#[115, 112, 108, 105, 116]⟩
def missW (b : Bool) : ByteArray := if b then ⟨#[109, 105, 115, 115, 45, 108, 101, 102, 116]⟩ else ⟨#[109, 105, 115, 115, 45, 114, 105, 103, 104, 116]⟩
def lineW (n : Nd) : List (List UInt8) := if n.1 then [toL leafW, toL (prT n.val), toL (prT n.cov)] else
  [toL splitW, toL (prN n.2.1.toNat), toL (prT n.cut), toL (prN n.2.2.2.2.2.1.toNat), toL (prN n.2.2.2.2.2.2.1.toNat), toL (missW n.2.2.2.2.2.2.2.1), toL (prT n.cov)]
end Go.DI.Th
namespace Go.DI.Th
open Go Go.RowKit Go.DI

end Go.DI.Th
namespace Go.DI.Th
open Go Go.RowKit Go.DI

end Go.DI.Th
namespace Go.DI.Th
open Go Go.RowKit Go.DI

end Go.DI.Th
namespace Go.DI.Th
open Go Go.RowKit Go.DI

end Go.DI.Th
namespace Go.DI.Th
open Go Go.RowKit Go.DI

end Go.DI.Th
namespace Go.DI.Th
open Go Go.RowKit Go.DI

theorem plus_limb (x c : Int) (hx : 0 ≤ x ∧ x < 4294967296) (hc : 0 ≤ c ∧ c < 1000000000) :
    ∃ y z : Int, (0 ≤ y ∧ y < 4294967296) ∧ (0 ≤ z ∧ z < 1000000000) ∧ y + 4294967296 * z = c + x * 1000000000 ∧ Go.bits .and .u64 (IntKind.u64.wrap (c + (IntKind.u64.wrap (x * 1000000000)))) 4294967295 = y ∧ (IntKind.u64.wrap (c + (IntKind.u64.wrap (x * 1000000000)))) / 4294967296 = z := by
  have e : IntKind.u64.wrap (c + (IntKind.u64.wrap (x * 1000000000))) = c + x * 1000000000 := by
    simp only [w64]
    omega
  rw [e, and_low (by omega) (by omega)]
  exact ⟨_, _, ⟨Int.emod_nonneg _ (by decide), Int.emod_lt_of_pos _ (by decide)⟩, by omega, by omega, rfl, rfl⟩
theorem plus_val (p vd vt x y z c : Int) (h : vd + p * c = vt) (hs : y + 4294967296 * z = c + x * 1000000000) : vd + p * y + p * 4294967296 * z = vt + p * x * 1000000000 := by grind
theorem plus_loop (a : List Int) (ha : Ok a) (v : Nat) (N : Nat) (hN : N ≤ 35184372088832) (hla : a.length + 1 = N) (hs : val a * 1000000000 + v < 4294967296 ^ N) (d : Nat) : ∀ (done : List Int) (c : Int), Ok done → done.length + d = N → (0 ≤ c ∧ c < 1000000000) →
    val done + 4294967296 ^ done.length * c = (val (a.take done.length) : Int) * 1000000000 + v →
    Ev (fun k => nat_plus.l0 k a c (done ++ List.replicate d 0) (N : Int) (done.length : Int)) (lm (val a * 1000000000 + v)) := by
  induction d with
  | zero =>
    intro done c hd hl hc hv
    have hl' : done.length = N := by omega
    rw [List.take_of_length_le (by omega)] at hv
    have hz : val done = val a * 1000000000 + v := by
      have e : (4294967296 : Int) ^ done.length = ((4294967296 ^ done.length : Nat) : Int) := by rw [Int.natCast_pow]; rfl
      have hc0 : c = 0 := by
        apply Classical.byContradiction
        intro h0
        have h1 : (4294967296 : Int) ^ done.length * 1 ≤ 4294967296 ^ done.length * c := Int.mul_le_mul_of_nonneg_left (by omega) (by rw [e]; exact Int.natCast_nonneg _)
        rw [Int.mul_one, e, hl'] at h1
        rw [hl'] at e
        rw [hl', e] at hv
        omega
      rw [hc0] at hv
      omega
    refine Ev.step (f := fun k => (nat_trim.f k done).bind fun t => some t) (fun k => ?_) (Ev.bind ?_ (Ev.now _))
    · simp only [nat_plus.l0]
      rw [if_neg (by omega)]
      simp
    · have := trim_ev done hd (by omega)
      rwa [hz] at this
  | succ d ih =>
    intro done c hd hl hc hv
    have va := val_take_rd a ha done.length
    obtain ⟨y, nd, hy, hnd, hsum, e1, e2⟩ := plus_limb (rd a (done.length : Int)) c (rd_ok ha _) hc
    refine Ev.step (fun k => ?_) (ih (done ++ [y]) nd (hd.append (Ok.cons hy Ok.nil)) (by simp; omega) hnd ?_)
    · simp only [nat_plus.l0]
      rw [if_pos (by omega), limb_eq a _ (by omega)]
      simp only [Option.bind_some]
      rw [if_pos (by omega), if_pos (by simp; omega), e1, e2, wrap_id (by omega) (by omega), show ((done.length : Int)).toNat = done.length by omega, fill]
      simp
    · rw [List.length_append, List.length_singleton, va, val_snoc_int done y hy, Int.pow_succ]
      have := plus_val (4294967296 ^ done.length) (val done) _ (rd a (done.length : Int)) y nd c hv hsum
      rw [this, Int.add_mul]
      omega
theorem nplus_ev (n v : Nat) (hv : v < 1000000000) (hl : len n ≤ 35184372088830) : Ev (fun k => nat_plus.f k (lm n) (v : Int)) (lm (n * 1000000000 + v)) := by
  have hN : val (lm n) * 1000000000 + v < 4294967296 ^ (len n + 1) := by
    rw [val_lm]
    have := lt_pow_len n
    rw [Nat.pow_succ]
    have h1 : n + 1 ≤ 4294967296 ^ len n := this
    have h2 : (n + 1) * 4294967296 ≤ 4294967296 ^ len n * 4294967296 := Nat.mul_le_mul_right _ h1
    omega
  have h := plus_loop (lm n) (lm_ok n) v (len n + 1) (by omega) (by rw [lm_length]) hN (len n + 1) [] (v : Int) Ok.nil (by simp) (by omega) (by simp [val])
  rw [val_lm] at h
  unfold nat_plus.f
  simp only [lm_length, wr_succ _ (show len n ≤ 1125899906842624 by omega), Int.toNat_natCast, List.length_replicate]
  exact Ev.if_pos (by omega) (Ev.if_pos (by omega) h)
def isD (c : UInt8) : Prop := 48 ≤ c.toNat ∧ c.toNat ≤ 57
instance (c : UInt8) : Decidable (isD c) := by unfold isD; infer_instance
def dgv (a : Nat) (l : List UInt8) : Nat := l.foldl (fun a c => 10 * a + (c.toNat - 48)) a
theorem dgv_cons (a : Nat) (c : UInt8) (l : List UInt8) : dgv a (c :: l) = dgv (10 * a + (c.toNat - 48)) l := by unfold dgv; rw [List.foldl_cons]
theorem dgv_nil (a : Nat) : dgv a [] = a := by unfold dgv; rw [List.foldl_nil]
theorem dgv_append (a : Nat) (l m : List UInt8) : dgv a (l ++ m) = dgv (dgv a l) m := List.foldl_append
theorem dgv_shift : ∀ (l : List UInt8) (a : Nat), dgv a l = a * 10 ^ l.length + dgv 0 l
  | [], a => by rw [dgv_nil, dgv_nil, List.length_nil, Nat.pow_zero]; omega
  | c :: l, a => by
    rw [dgv_cons, dgv_cons, dgv_shift l (10 * a + (c.toNat - 48)), dgv_shift l (10 * 0 + (c.toNat - 48)), List.length_cons, Nat.pow_succ, Nat.add_mul, Nat.mul_zero, Nat.zero_add, Nat.mul_comm 10 a, Nat.mul_assoc, Nat.mul_comm 10 (10 ^ l.length)]
    omega
theorem dgv_step (a d p x : Nat) (h3 : 10 * a + d + 1 ≤ (a + 1) * 10) (h : x < (10 * a + d + 1) * p) : x < (a + 1) * (10 * p) := by
  rw [← Nat.mul_assoc]
  exact Nat.lt_of_lt_of_le h (Nat.mul_le_mul_right _ h3)
theorem dgv_lt : ∀ (l : List UInt8) (a : Nat), (∀ c ∈ l, isD c) → dgv a l < (a + 1) * 10 ^ l.length
  | [], a, _ => by rw [dgv_nil, List.length_nil, Nat.pow_zero]; omega
  | c :: l, a, h => by
    have h1 := h c List.mem_cons_self
    have h2 := dgv_lt l (10 * a + (c.toNat - 48)) fun x hx => h x (List.mem_cons_of_mem _ hx)
    have h3 : 10 * a + (c.toNat - 48) + 1 ≤ (a + 1) * 10 := by unfold isD at h1; omega
    rw [dgv_cons, List.length_cons, Nat.pow_succ, Nat.mul_comm (10 ^ l.length) 10]
    exact dgv_step a (c.toNat - 48) (10 ^ l.length) _ h3 h2
def pE (w : List UInt8) : Int := if w = [] then 4 else if ∀ c ∈ w, isD c then (if w.length > 10000 then 5 else 0) else 4
def pR (w : List UInt8) : List Int × Int := if pE w = 0 then (lm (dgv 0 w), 0) else ([], pE w)
theorem pE_zero {w : List UInt8} : pE w = 0 ↔ w ≠ [] ∧ (∀ c ∈ w, isD c) ∧ w.length ≤ 10000 := by
  unfold pE
  by_cases h : w = []
  · rw [if_pos h]
    exact ⟨fun e => (by cases e), fun e => absurd h e.1⟩
  · rw [if_neg h]
    by_cases h1 : ∀ c ∈ w, isD c
    · rw [if_pos h1]
      by_cases h2 : w.length > 10000
      · rw [if_pos h2]
        exact ⟨fun e => (by cases e), fun e => by omega⟩
      · rw [if_neg h2]
        exact ⟨fun _ => ⟨h, h1, by omega⟩, fun _ => rfl⟩
    · rw [if_neg h1]
      exact ⟨fun e => (by cases e), fun e => absurd e.2.1 h1⟩
theorem ext_drop {s : ByteArray} {a b : List UInt8} (h : toL s = a ++ b) : s.extract a.length s.size = ofL b := by
  apply toL_inj
  rw [toL_extract, h, List.drop_left, toL_ofL, List.take_of_length_le]
  rw [size_toL, h, List.length_append]
  omega
theorem ext_take {s : ByteArray} {a b : List UInt8} (h : toL s = a ++ b) : s.extract 0 a.length = ofL a := by
  apply toL_inj
  rw [toL_extract, h, toL_ofL, List.drop_zero, Nat.sub_zero, List.take_left]
theorem at_byte {s : ByteArray} {a : List UInt8} {c : UInt8} {b : List UInt8} (h : toL s = a ++ c :: b) (hp : a.length < s.size) : s[a.length]'hp = c := by
  have e : (s[a.length]'hp) = (toL s)[a.length]'(by rw [← size_toL]; exact hp) := rfl
  rw [e]
  have : ∀ (l : List UInt8) (hl : a.length < l.length), l = a ++ c :: b → l[a.length]'hl = c := by
    intro l hl e
    subst e
    rw [List.getElem_append_right (Nat.le_refl _)]
    simp
  exact this _ _ h
theorem toBytes_eq (w : List UInt8) : toBytes (ofL w) = w.map fun c => (c.toNat : Int) := rfl
theorem parse_l2 (rest : ByteArray) (x0 : ByteArray) (x7 : Nat) (hx0 : x7 ≤ x0.size) (hrest : x0.extract x7 x0.size = rest) (acc : Nat) (hacc : len acc ≤ 35184372088830) (w : List UInt8) (hw : ∀ c ∈ w, isD c) (hl : w.length ≤ 9) (R : List Int × Int)
    (hend : Ev (fun k => nat_Parse.l1 k rest (lm (acc * 1000000000 + dgv 0 w))) R) : ∀ (b a : List UInt8), w = a ++ b →
    Ev (fun k => nat_Parse.l2 k x0 (lm acc) (x7 : Int) ((dgv 0 a : Nat) : Int) (w.map fun c => (c.toNat : Int)) (w.length : Int) (a.length : Int)) R := by
  intro b
  induction b with
  | nil =>
    intro a hr
    rw [List.append_nil] at hr
    subst hr
    refine Ev.succ ?_
    simp only [nat_Parse.l2]
    have hlt := dgv_lt w 0 hw
    have h9 : 10 ^ w.length ≤ 10 ^ 9 := Nat.pow_le_pow_right (by decide) hl
    refine Ev.if_neg (by omega) (Ev.bind (nplus_ev acc (dgv 0 w) (by omega) hacc) (Ev.if_pos (nn0 _) (Ev.if_pos (by omega) ?_)))
    rw [Int.toNat_natCast, hrest]
    exact hend
  | cons c b ih =>
    intro a hr
    have hc : isD c := hw c (by rw [hr]; simp)
    have hlen : w.length = a.length + (b.length + 1) := by rw [hr, List.length_append, List.length_cons]
    have ha : ∀ x ∈ a, isD x := fun x hx => hw x (by rw [hr]; exact List.mem_append_left _ hx)
    have hlt := dgv_lt a 0 ha
    have h9 : 10 ^ a.length ≤ 10 ^ 8 := Nat.pow_le_pow_right (by decide) (by omega)
    have hih := ih (a ++ [c]) (by rw [hr]; simp)
    rw [dgv_append] at hih
    have er : rd (w.map fun c => (c.toNat : Int)) (a.length : Int) = (c.toNat : Int) := by
      rw [hr, List.map_append, List.map_cons]
      have := rd_at (a.map fun c => (c.toNat : Int)) (c.toNat : Int) (b.map fun c => (c.toNat : Int))
      rwa [List.length_map] at this
    have e8 : IntKind.u8.wrap ((c.toNat : Int) - 48) = ((c.toNat - 48 : Nat) : Int) := by
      unfold isD at hc
      rw [IntKind.wrap_u8]
      omega
    have e9 : IntKind.u64.wrap ((IntKind.u64.wrap (10 * ((dgv 0 a : Nat) : Int))) + (IntKind.u64.wrap ((c.toNat - 48 : Nat) : Int))) = ((dgv (dgv 0 a) [c] : Nat) : Int) := by
      have : dgv (dgv 0 a) [c] = 10 * dgv 0 a + (c.toNat - 48) := by rw [dgv_cons, dgv_nil]
      rw [this]
      unfold isD at hc
      simp only [w64]
      omega
    refine Ev.succ ?_
    simp only [nat_Parse.l2, er, e8, e9, wr_at a c (show a.length ≤ 1125899906842624 by omega)]
    exact Ev.if_pos (by omega) (Ev.if_pos (nn0 _) (Ev.if_pos (by rw [List.length_map]; omega) hih))
theorem len_ten (n : Nat) : len (10 ^ n) ≤ n + 1 := by
  refine len_le ?_
  have : 10 ^ n ≤ 4294967296 ^ n := Nat.pow_le_pow_left (by decide) n
  rw [Nat.pow_succ]
  have := Nat.pow_pos (n := n) (show 0 < 4294967296 by decide)
  omega
theorem len_dgv (w : List UInt8) (h : ∀ c ∈ w, isD c) : len (dgv 0 w) ≤ w.length + 1 := by
  have h1 := dgv_lt w 0 h
  rw [Nat.zero_add, Nat.one_mul] at h1
  exact Nat.le_trans (len_mono (Nat.le_of_lt h1)) (len_ten _)
theorem parse_l1 : ∀ (m : Nat) (a b : List UInt8), b.length ≤ m → (∀ c ∈ a ++ b, isD c) → (a ++ b).length ≤ 10000 → (a = [] ∨ b.length % 9 = 0) →
    Ev (fun k => nat_Parse.l1 k (ofL b) (lm (dgv 0 a))) (lm (dgv 0 (a ++ b)), 0) := by
  intro m
  induction m with
  | zero =>
    intro a b hb hd hl h9
    obtain rfl : b = [] := List.length_eq_zero_iff.1 (by omega)
    refine Ev.succ ?_
    simp only [nat_Parse.l1]
    rw [List.append_nil]
    exact Ev.if_neg (by decide) (Ev.now _)
  | succ m ih =>
    intro a b hb hd hl h9
    have hsz : (ofL b).size = b.length := by rw [size_toL]; rfl
    refine Ev.succ ?_
    simp only [nat_Parse.l1]
    rw [hsz]
    by_cases h0 : b = []
    · subst h0
      rw [List.append_nil]
      exact Ev.if_neg (by decide) (Ev.now _)
    · have hp := List.length_pos_iff.2 h0
      rw [List.length_append] at hl
      have em : Int.tmod (b.length : Int) 9 = ((b.length % 9 : Nat) : Int) := rfl
      rw [em, Int.toNat_natCast]
      refine Ev.if_pos (by omega) ?_
      have step : ∀ n : Nat, 0 < n → n ≤ 9 → n ≤ b.length → (b.length - n) % 9 = 0 → (a ≠ [] → n = 9) → Ev (fun k => nat_Parse.l2 k (ofL b) (lm (dgv 0 a)) (n : Int) 0 (toBytes ((ofL b).extract 0 n)) ((toBytes ((ofL b).extract 0 n)).length : Int) 0) (lm (dgv 0 (a ++ b)), 0) := by
        intro n n0 n9 nb hm hn
        obtain ⟨u, v, rfl, hu⟩ : ∃ u v : List UInt8, b = u ++ v ∧ u.length = n := ⟨b.take n, b.drop n, (List.take_append_drop n b).symm, by rw [List.length_take]; omega⟩
        have e1 : (ofL (u ++ v)).extract 0 n = ofL u := by rw [← hu]; exact ext_take rfl
        have e2 : (ofL (u ++ v)).extract n (ofL (u ++ v)).size = ofL v := by rw [← hu]; exact ext_drop rfl
        rw [List.length_append] at hm hb hl
        have hdu : ∀ c ∈ u, isD c := fun c hc => hd c (by simp [hc])
        have hda : ∀ c ∈ a, isD c := fun c hc => hd c (by simp [hc])
        have hih := ih (a ++ u) v (by omega) (by rw [List.append_assoc]; exact hd) (by rw [List.append_assoc, List.length_append, List.length_append]; omega) (Or.inr (by
          have e : u.length + v.length - n = v.length := by omega
          rwa [e] at hm))
        have ea : dgv 0 (a ++ u) = dgv 0 a * 1000000000 + dgv 0 u := by
          rw [dgv_append, dgv_shift u (dgv 0 a)]
          by_cases h : a = []
          · rw [h]
            have : dgv 0 ([] : List UInt8) = 0 := dgv_nil 0
            rw [this, Nat.zero_mul, Nat.zero_mul]
          · rw [hu, hn h]
        rw [ea, List.append_assoc] at hih
        rw [e1, toBytes_eq, List.length_map]
        have hla := len_dgv a hda
        exact parse_l2 (ofL v) (ofL (u ++ v)) n (by rw [size_toL, toL_ofL, List.length_append]; omega) e2 (dgv 0 a) (by omega) u hdu (by omega) _ hih u [] rfl
      by_cases hm : b.length % 9 = 0
      · refine Ev.if_pos (by omega) (Ev.if_pos (by omega) (Ev.if_pos ?_ (step 9 (by decide) (by decide) (by omega) (by omega) (fun _ => rfl))))
        rw [size_toL, toL_extract, List.length_take]
        have : lim = 140737488355328 := rfl
        omega
      · refine Ev.if_neg (by omega) (Ev.if_pos (by omega) (Ev.if_pos (by omega) (Ev.if_pos ?_ (step (b.length % 9) (by omega) (by omega) (by omega) (by omega) (fun h => by
          rcases h9 with e | e
          · exact absurd e h
          · exact absurd e hm)))))
        rw [size_toL, toL_extract, List.length_take]
        have : lim = 140737488355328 := rfl
        omega
theorem parse_l0 (s : ByteArray) (w : List UInt8) (hw : toL s = w) (R : List Int × Int)
    (hend : (∀ c ∈ w, isD c) → Ev (fun k => if (s.size : Int) > 10000 then some (([] : List Int), 5) else nat_Parse.l1 k s []) R) (hbad : (¬ ∀ c ∈ w, isD c) → R = ([], 4)) : ∀ (b a : List UInt8), w = a ++ b → (∀ c ∈ a, isD c) →
    Ev (fun k => nat_Parse.l0 k s s a.length) R := by
  intro b
  induction b with
  | nil =>
    intro a hr ha
    rw [List.append_nil] at hr
    subst hr
    refine Ev.succ ?_
    simp only [nat_Parse.l0]
    exact Ev.if_neg (by rw [size_toL, hw]; omega) (hend ha)
  | cons c b ih =>
    intro a hr ha
    have hp : a.length < s.size := by rw [size_toL, hw, hr, List.length_append, List.length_cons]; omega
    have hat := at_byte (hw.trans hr) hp
    refine Ev.succ ?_
    simp only [nat_Parse.l0]
    refine Ev.if_pos hp ?_
    by_cases hc : isD c
    · have hde := decode_ascii s a.length hp (by rw [hat]; unfold isD at hc; omega)
      rw [hat] at hde
      rw [hde]
      have hih := ih (a ++ [c]) (by rw [hr]; simp) (fun x hx => by
        rcases List.mem_append.1 hx with h | h
        · exact ha x h
        · rw [List.mem_singleton.1 h]; exact hc)
      rw [List.length_append, List.length_singleton] at hih
      unfold isD at hc
      exact Ev.if_neg (by show ¬ ((c.toNat : Int) < 48); omega) (Ev.if_neg (by show ¬ ((c.toNat : Int) > 57); omega) hih)
    · have hR := hbad fun h => hc (h c (by rw [hr]; simp))
      rw [hR]
      by_cases h128 : c.toNat < 128
      · have hde := decode_ascii s a.length hp (by rw [hat]; exact h128)
        rw [hat] at hde
        rw [hde]
        unfold isD at hc
        by_cases h48 : c.toNat < 48
        · exact Ev.if_pos (by show (c.toNat : Int) < 48; omega) (Ev.now _)
        · exact Ev.if_neg (by show ¬ ((c.toNat : Int) < 48); omega) (Ev.if_pos (by show (c.toNat : Int) > 57; omega) (Ev.now _))
      · have hde := decode_high s a.length hp (by rw [hat]; omega)
        exact Ev.if_neg (by omega) (Ev.if_pos (by omega) (Ev.now _))
theorem nparse_ev (s : ByteArray) : Ev (fun k => nat_Parse.f k s) (pR (toL s)) := by
  unfold nat_Parse.f
  by_cases h0 : s = ByteArray.empty
  · have e : pR (toL s) = ([], 4) := by rw [h0]; rfl
    rw [e]
    exact Ev.if_pos h0 (Ev.now _)
  · have hne : toL s ≠ [] := fun e => h0 (toL_inj e)
    refine Ev.if_neg h0 (parse_l0 s (toL s) rfl _ (fun hd => ?_) (fun hb => ?_) (toL s) [] rfl (fun c hc => by cases hc))
    · by_cases hl : (toL s).length > 10000
      · have e : pE (toL s) = 5 := by unfold pE; rw [if_neg hne, if_pos hd, if_pos hl]
        have e2 : pR (toL s) = ([], 5) := by unfold pR; rw [e]; rfl
        rw [e2]
        exact Ev.if_pos (by rw [size_toL]; omega) (Ev.now _)
      · have e : pE (toL s) = 0 := pE_zero.2 ⟨hne, hd, by omega⟩
        have e2 : pR (toL s) = (lm (dgv 0 (toL s)), 0) := by unfold pR; rw [if_pos e]
        rw [e2]
        have h1 := parse_l1 (toL s).length [] (toL s) (Nat.le_refl _) hd (by rw [List.nil_append]; omega) (Or.inl rfl)
        have e3 : lm (dgv 0 []) = [] := by rw [dgv_nil]; exact lm_zero
        rw [e3] at h1
        exact Ev.if_neg (by rw [size_toL]; omega) h1
    · have e : pE (toL s) = 4 := by unfold pE; rw [if_neg hne, if_neg hb]
      unfold pR
      rw [e]
      rfl
end Go.DI.Th
namespace Go.DI.Th
open Go Go.RowKit Go.DI

def cutL (x : UInt8) : List UInt8 → Option (List UInt8 × List UInt8)
  | [] => none
  | c :: w => if c = x then some ([], w) else (cutL x w).map fun p => (c :: p.1, p.2)
theorem cutL_some {x : UInt8} : ∀ {w a b : List UInt8}, cutL x w = some (a, b) → w = a ++ x :: b ∧ x ∉ a
  | [], a, b, h => by cases h
  | c :: w, a, b, h => by
    rw [cutL] at h
    by_cases hc : c = x
    · rw [if_pos hc] at h
      cases h
      rw [hc]
      exact ⟨rfl, List.not_mem_nil⟩
    · rw [if_neg hc] at h
      cases hw : cutL x w with
      | none => rw [hw] at h; cases h
      | some p =>
        rw [hw] at h
        cases h
        obtain ⟨h1, h2⟩ := cutL_some (a := p.1) (b := p.2) hw
        refine ⟨by rw [List.cons_append, ← h1], fun hm => ?_⟩
        rcases List.mem_cons.1 hm with e | hm
        · exact hc e.symm
        · exact h2 hm
theorem cutL_none {x : UInt8} : ∀ {w : List UInt8}, cutL x w = none → x ∉ w
  | [], _ => List.not_mem_nil
  | c :: w, h => by
    rw [cutL] at h
    by_cases hc : c = x
    · rw [if_pos hc] at h; cases h
    · rw [if_neg hc] at h
      cases hw : cutL x w with
      | some p => rw [hw] at h; cases h
      | none =>
        intro hm
        rcases List.mem_cons.1 hm with e | hm
        · exact hc e.symm
        · exact cutL_none hw hm
theorem cutL_of {x : UInt8} : ∀ {a b : List UInt8}, x ∉ a → cutL x (a ++ x :: b) = some (a, b)
  | [], b, _ => by rw [List.nil_append, cutL, if_pos rfl]
  | c :: a, b, h => by
    rw [List.cons_append, cutL, if_neg (fun e => h (by rw [e]; exact List.mem_cons_self)), cutL_of (fun hm => h (List.mem_cons_of_mem _ hm))]
    rfl
theorem cutL_not {x : UInt8} : ∀ {w : List UInt8}, x ∉ w → cutL x w = none
  | [], _ => rfl
  | c :: w, h => by
    rw [cutL, if_neg (fun e => h (by rw [e]; exact List.mem_cons_self)), cutL_not (fun hm => h (List.mem_cons_of_mem _ hm))]
    rfl
theorem get_bang {s : ByteArray} {i : Nat} (h : i < s.size) : s[i]! = s[i]'h := getElem!_pos s i h
theorem fIdx_at {s : ByteArray} {a b : List UInt8} {x : UInt8} (h : toL s = a ++ x :: b) (hn : x ∉ a) : fIdx s x = (a.length : Int) := by
  have hsz : s.size = a.length + (b.length + 1) := by rw [size_toL, h, List.length_append, List.length_cons]
  unfold fIdx
  have hf : (List.range s.size).find? (fun i => s[i]! == x) = some a.length := by
    rw [List.find?_range_eq_some]
    refine ⟨?_, by simp; omega, fun j hj => ?_⟩
    · rw [get_bang (by omega), at_byte h (by omega)]
      simp
    · have hjs : j < s.size := by omega
      rw [get_bang hjs]
      have e : s[j]'hjs = (toL s)[j]'(by rw [← size_toL]; exact hjs) := rfl
      have e2 : s[j]'hjs ∈ a := by
        rw [e]
        have : ∀ (l : List UInt8) (hl : j < l.length), l = a ++ x :: b → l[j]'hl ∈ a := by
          intro l hl e
          subst e
          rw [List.getElem_append_left hj]
          exact List.getElem_mem hj
        exact this _ _ h
      simp only [Bool.not_eq_true', beq_eq_false_iff_ne, ne_eq]
      intro e3
      exact hn (e3 ▸ e2)
  rw [hf]
theorem fIdx_none {s : ByteArray} {x : UInt8} (hn : x ∉ toL s) : fIdx s x = -1 := by
  unfold fIdx
  have hf : (List.range s.size).find? (fun i => s[i]! == x) = none := by
    rw [List.find?_eq_none]
    intro j hj
    have hjs : j < s.size := List.mem_range.1 hj
    rw [get_bang hjs]
    have e : s[j]'hjs = (toL s)[j]'(by rw [← size_toL]; exact hjs) := rfl
    simp only [beq_iff_eq]
    intro e2
    apply hn
    rw [← e2, e]
    exact List.getElem_mem _
  rw [hf]
def cutR (s : ByteArray) (x : UInt8) : ByteArray × ByteArray × Bool := match cutL x (toL s) with
  | some (a, b) => (ofL a, ofL b, true)
  | none => (s, ByteArray.empty, false)
theorem cut_ev (s : ByteArray) (hs : s.size ≤ 1125899906842624) (x : UInt8) (sep : ByteArray) (hsep : sep = ⟨#[x]⟩) : Ev (fun k => strings_Cut.f k s sep) (cutR s x) := by
  subst hsep
  have hsz : (⟨#[x]⟩ : ByteArray).size = 1 := rfl
  have hbt : bt (⟨#[x]⟩ : ByteArray) 0 = (x.toNat : Int) := bt_at (b := ⟨#[x]⟩) (p := []) (c := x) (r := []) rfl
  have hix : Ev (fun k => stringslite_Index.f k s ⟨#[x]⟩) (fIdx s x) := by
    unfold stringslite_Index.f
    rw [hsz, hbt]
    refine Ev.if_neg (by decide) ?_
    by_cases he : (⟨#[x]⟩ : ByteArray) = s
    · refine Ev.if_pos he ((Ev.now _).of_eq ?_)
      have : toL s = [] ++ x :: [] := by rw [← he]; rfl
      rw [fIdx_at this List.not_mem_nil]
      rfl
    · refine Ev.if_neg he (Ev.if_pos (by decide) (Ev.if_pos (by decide) ((Ev.now _).of_eq ?_)))
      congr 1
      rw [Int.toNat_natCast]
      exact UInt8.ofNat_toNat
  have hc : Ev (fun k => stringslite_Cut.f k s ⟨#[x]⟩) (cutR s x) := by
    unfold stringslite_Cut.f
    rw [hsz]
    refine Ev.bind hix ?_
    unfold cutR
    cases hx : cutL x (toL s) with
    | none =>
      rw [fIdx_none (cutL_none hx)]
      exact Ev.if_neg (by decide) (Ev.now _)
    | some p =>
      obtain ⟨a, b⟩ := p
      obtain ⟨h1, h2⟩ := cutL_some hx
      have hsize : s.size = a.length + (b.length + 1) := by rw [size_toL, h1, List.length_append, List.length_cons]
      rw [fIdx_at h1 h2]
      have ew : wrap64 ((a.length : Int) + ((1 : Nat) : Int)) = ((a.length + 1 : Nat) : Int) := by rw [wrap_id (by omega) (by omega)]; omega
      have e2 : s.extract (a.length + 1) s.size = ofL b := by
        have h3 : toL s = (a ++ [x]) ++ b := by rw [h1]; simp
        have := ext_drop h3
        rwa [List.length_append, List.length_singleton] at this
      rw [ew, Int.toNat_natCast, Int.toNat_natCast, ext_take h1, e2]
      exact Ev.if_pos (nn0 _) (Ev.if_pos (by omega) (Ev.if_pos (nn0 _) (Ev.if_pos (by omega) (Ev.now _))))
  unfold strings_Cut.f
  exact Ev.bind hc (Ev.now _)
def isPre (x : UInt8) : List UInt8 → Bool
  | [] => false
  | c :: _ => c == x
theorem prefix_ev (s : ByteArray) (x : UInt8) : strings_HasPrefix.f s ⟨#[x]⟩ = some (isPre x (toL s)) := by
  unfold strings_HasPrefix.f stringslite_HasPrefix.f
  have hsz : (⟨#[x]⟩ : ByteArray).size = 1 := rfl
  rw [hsz]
  cases hw : toL s with
  | nil =>
    have h0 : s.size = 0 := by rw [size_toL, hw]; rfl
    rw [if_neg (by omega)]
    rfl
  | cons c t =>
    have h1 : s.size = t.length + 1 := by rw [size_toL, hw]; rfl
    rw [if_pos (by omega), if_pos (by decide)]
    have e1 : s.extract 0 1 = ofL [c] := ext_take (a := [c]) (b := t) hw
    simp only [Option.bind_some, Int.toNat_natCast]
    rw [e1, Option.some.injEq]
    show ((ofL [c]).toList == (⟨#[x]⟩ : ByteArray).toList) = (c == x)
    by_cases h : c = x
    · subst h
      have e : (ofL [c]) = (⟨#[c]⟩ : ByteArray) := rfl
      rw [@str_t ⟨[], 0, 0⟩ _ _ e]
      simp
    · have e : ¬ (ofL [c]) = (⟨#[x]⟩ : ByteArray) := fun e => h (by
        have := congrArg toL e
        have e2 : ([c] : List UInt8) = [x] := this
        exact (List.cons.inj e2).1)
      rw [@str_f ⟨[], 0, 0⟩ _ _ e]
      symm
      simpa using h
theorem ten_l0 (n : Nat) (hn : n ≤ 20000) : ∀ d i : Nat, i + d = n → Ev (fun k => ratio_ten.l0 k (lm (10 ^ i)) (n : Int) (i : Int)) (lm (10 ^ n)) := by
  intro d
  induction d with
  | zero =>
    intro i hi
    obtain rfl : i = n := by omega
    refine Ev.succ ?_
    simp only [ratio_ten.l0]
    exact Ev.if_neg (by omega) (Ev.now _)
  | succ d ih =>
    intro i hi
    have hih := ih (i + 1) (by omega)
    have hl := len_ten i
    have hm := mul_ev (lm (10 ^ i)) (lm 10) (lm_ok _).U (lm_ok _).U (by rw [lm_length, lm_length]; have := len_small (n := 10) (by decide); omega)
    rw [val_lm, val_lm, ← Nat.pow_succ] at hm
    refine Ev.succ ?_
    simp only [ratio_ten.l0, wr_succ i (show i ≤ 1125899906842624 by omega)]
    exact Ev.if_pos (by omega) (Ev.bind (ofN_ev 10 (by decide)) (Ev.bind hm hih))
theorem ten_ev (n : Nat) (hn : n ≤ 20000) : Ev (fun k => ratio_ten.f k (n : Int)) (lm (10 ^ n)) := by
  unfold ratio_ten.f
  exact Ev.bind (ofN_ev 1 (by decide)) (ten_l0 n hn n 0 (by omega))
def plE (w : List UInt8) : Int := match cutL 47 w with
  | some (a, b) => if pE a ≠ 0 then pE a else if pE b ≠ 0 then pE b else if dgv 0 b = 0 then 2 else 0
  | none => match cutL 46 w with
    | some (a, b) => if pE a ≠ 0 then pE a else pE b
    | none => pE w
def plV (w : List UInt8) : Rat := match cutL 47 w with
  | some (a, b) => mkRat (dgv 0 a : Int) (dgv 0 b)
  | none => match cutL 46 w with
    | some (a, b) => mkRat ((dgv 0 a * 10 ^ b.length + dgv 0 b : Nat) : Int) (10 ^ b.length)
    | none => ((dgv 0 w : Int) : Rat)
def rR (e : Int) (x : Rat) : Bool × List Int × List Int × Int := if e = 0 then ((cn x).1, (cn x).2.1, (cn x).2.2, 0) else (false, [], [], e)
theorem form_nat (n q : Nat) (hq : q ≠ 0) (h1 : len n ≤ 549755813888) (h2 : len q ≤ 549755813888) : Ev (fun k => ratio_form.f k false (lm n) (lm q)) (cn (mkRat (n : Int) q)) := by
  have := form_cn (n : Int) q hq (by rw [Int.natAbs_natCast]; exact h1) h2
  rwa [Int.natAbs_natCast, decide_eq_false (show ¬ ((n : Int) < 0) by omega)] at this
theorem pE_len {w : List UInt8} (h : pE w = 0) : len (dgv 0 w) ≤ 10001 := by
  obtain ⟨_, h2, h3⟩ := pE_zero.1 h
  have := len_dgv w h2
  omega
theorem plain_ev (s : ByteArray) (hs : s.size ≤ 1125899906842624) : Ev (fun k => ratio_plain.f k s) (rR (plE (toL s)) (plV (toL s))) := by
  unfold ratio_plain.f
  refine Ev.bind (cut_ev s hs 47 _ rfl) ?_
  unfold cutR plE plV
  cases h1 : cutL 47 (toL s) with
  | some p =>
    obtain ⟨a, b⟩ := p
    dsimp only
    refine Ev.if_pos rfl ?_
    have pa := nparse_ev (ofL a)
    have pb := nparse_ev (ofL b)
    rw [toL_ofL] at pa pb
    unfold pR at pa pb
    by_cases ha : pE a = 0
    · rw [if_pos ha] at pa
      rw [if_neg (fun h => h ha)]
      refine Ev.bind pa (Ev.if_neg (fun h => h rfl) ?_)
      by_cases hb : pE b = 0
      · rw [if_pos hb] at pb
        rw [if_neg (fun h => h hb)]
        refine Ev.bind pb (Ev.if_neg (fun h => h rfl) ?_)
        by_cases h0 : dgv 0 b = 0
        · rw [if_pos h0]
          exact Ev.if_pos (by show ((lm (dgv 0 b)).length : Int) = 0; rw [h0, lm_zero]; rfl) (Ev.now _)
        · rw [if_neg h0]
          have hp := len_eq_zero (n := dgv 0 b)
          have la := pE_len ha
          have lb := pE_len hb
          refine Ev.if_neg (by show ¬ ((lm (dgv 0 b)).length : Int) = 0; rw [lm_length]; omega) ?_
          exact Ev.bind (form_nat (dgv 0 a) (dgv 0 b) h0 (by omega) (by omega)) (Ev.now _)
      · rw [if_neg hb] at pb
        rw [if_pos hb]
        unfold rR
        rw [if_neg hb]
        exact Ev.bind pb (Ev.if_pos hb (Ev.now _))
    · rw [if_neg ha] at pa
      rw [if_pos ha]
      unfold rR
      rw [if_neg ha]
      exact Ev.bind pa (Ev.if_pos ha (Ev.now _))
  | none =>
    dsimp only
    refine Ev.if_neg (by decide) (Ev.bind (cut_ev s hs 46 _ rfl) ?_)
    unfold cutR
    cases h2 : cutL 46 (toL s) with
    | some p =>
      obtain ⟨a, b⟩ := p
      dsimp only
      refine Ev.if_pos rfl ?_
      have pa := nparse_ev (ofL a)
      have pb := nparse_ev (ofL b)
      rw [toL_ofL] at pa pb
      unfold pR at pa pb
      by_cases ha : pE a = 0
      · rw [if_pos ha] at pa
        rw [if_neg (fun h => h ha)]
        refine Ev.bind pa (Ev.if_neg (fun h => h rfl) ?_)
        by_cases hb : pE b = 0
        · rw [if_pos hb] at pb
          refine Ev.bind pb (Ev.if_neg (fun h => h rfl) ?_)
          have hbl := (pE_zero.1 hb).2.2
          have la := pE_len ha
          have lb := pE_len hb
          have lt := len_ten b.length
          have hsz : (ofL b).size = b.length := by rw [size_toL]; rfl
          rw [hsz]
          have hm := mul_ev (lm (dgv 0 a)) (lm (10 ^ b.length)) (lm_ok _).U (lm_ok _).U (by rw [lm_length, lm_length]; omega)
          rw [val_lm, val_lm] at hm
          have lm1 := len_mul (dgv 0 a) (10 ^ b.length)
          have hadd := nadd_ev (lm (dgv 0 a * 10 ^ b.length)) (lm (dgv 0 b)) (lm_ok _).U (lm_ok _).U (by rw [lm_length]; omega) (by rw [lm_length]; omega)
          rw [val_lm, val_lm] at hadd
          have la2 := len_add (dgv 0 a * 10 ^ b.length) (dgv 0 b)
          rw [hb]
          have hf := form_nat (dgv 0 a * 10 ^ b.length + dgv 0 b) (10 ^ b.length) (Nat.pos_iff_ne_zero.1 (Nat.pow_pos (by decide))) (by omega) (by omega)
          exact Ev.bind (ten_ev b.length (by omega)) (Ev.bind hm (Ev.bind hadd (Ev.bind hf (Ev.now _))))
        · rw [if_neg hb] at pb
          unfold rR
          rw [if_neg hb]
          exact Ev.bind pb (Ev.if_pos hb (Ev.now _))
      · rw [if_neg ha] at pa
        rw [if_pos ha]
        unfold rR
        rw [if_neg ha]
        exact Ev.bind pa (Ev.if_pos ha (Ev.now _))
    | none =>
      dsimp only
      refine Ev.if_neg (by decide) ?_
      have pa := nparse_ev s
      unfold pR at pa
      unfold rR
      by_cases ha : pE (toL s) = 0
      · rw [if_pos ha] at pa
        rw [if_pos ha]
        have la := pE_len ha
        have hf := form_nat (dgv 0 (toL s)) 1 (by decide) (by omega) (by rw [len_one]; decide)
        have e : mkRat (dgv 0 (toL s) : Int) 1 = ((dgv 0 (toL s) : Int) : Rat) := Rat.mkRat_self ((dgv 0 (toL s) : Int) : Rat)
        rw [e] at hf
        exact Ev.bind pa (Ev.if_neg (fun h => h rfl) (Ev.bind (ofN_ev 1 (by decide)) (Ev.bind hf (Ev.now _))))
      · rw [if_neg ha] at pa
        rw [if_neg ha]
        exact Ev.bind pa (Ev.if_pos ha (Ev.now _))
end Go.DI.Th
namespace Go.DI.Th
open Go Go.RowKit Go.DI

def sgQ (neg : Bool) (x : Rat) : Rat := if neg = true then -x else x
theorem Sz_sgQ (neg : Bool) (x : Rat) : Sz (sgQ neg x) = Sz x := by
  unfold sgQ
  split
  · exact Sz_neg x
  · rfl
def unm (w : List UInt8) : Bool × List UInt8 := if isPre 45 w = true then (true, w.drop 1) else (false, w)
def prE (w : List UInt8) : Int := plE (unm w).2
def prV (w : List UInt8) : Rat := sgQ (unm w).1 (plV (unm w).2)
theorem plV_sz {w : List UInt8} (h : plE w = 0) : Sz (plV w) ≤ 20100 := by
  unfold plE at h
  unfold plV
  cases h1 : cutL 47 w with
  | some p =>
    obtain ⟨a, b⟩ := p
    rw [h1] at h
    dsimp only at h ⊢
    by_cases ha : pE a = 0
    · rw [if_neg (fun e => e ha)] at h
      by_cases hb : pE b = 0
      · rw [if_neg (fun e => e hb)] at h
        by_cases h0 : dgv 0 b = 0
        · rw [if_pos h0] at h; cases h
        · have := Sz_mk (dgv 0 a : Int) (dgv 0 b) h0
          rw [Int.natAbs_natCast] at this
          have la := pE_len ha
          have lb := pE_len hb
          omega
      · rw [if_pos hb] at h; exact absurd h hb
    · rw [if_pos ha] at h; exact absurd h ha
  | none =>
    rw [h1] at h
    dsimp only at h ⊢
    cases h2 : cutL 46 w with
    | some p =>
      obtain ⟨a, b⟩ := p
      rw [h2] at h
      dsimp only at h ⊢
      by_cases ha : pE a = 0
      · rw [if_neg (fun e => e ha)] at h
        have := Sz_mk ((dgv 0 a * 10 ^ b.length + dgv 0 b : Nat) : Int) (10 ^ b.length) (Nat.pos_iff_ne_zero.1 (Nat.pow_pos (by decide)))
        rw [Int.natAbs_natCast] at this
        have la := pE_len ha
        have lb := pE_len h
        have hbl := (pE_zero.1 h).2.2
        have lt := len_ten b.length
        have lm1 := len_mul (dgv 0 a) (10 ^ b.length)
        have la2 := len_add (dgv 0 a * 10 ^ b.length) (dgv 0 b)
        omega
      · rw [if_pos ha] at h; exact absurd h ha
    | none =>
      rw [h2] at h
      dsimp only at h ⊢
      rw [Sz_int, Int.natAbs_natCast]
      have la := pE_len h
      omega
theorem prV_sz {w : List UInt8} (h : prE w = 0) : Sz (prV w) ≤ 20100 := by
  unfold prV
  rw [Sz_sgQ]
  exact plV_sz h
theorem unm_drop {s : ByteArray} (h : isPre 45 (toL s) = true) : s.extract 1 s.size = ofL ((toL s).drop 1) ∧ 1 ≤ s.size := by
  cases hw : toL s with
  | nil => rw [hw] at h; cases h
  | cons c t =>
    have e : s.extract ([c] : List UInt8).length s.size = ofL t := ext_drop (a := [c]) (b := t) hw
    refine ⟨e, ?_⟩
    have := size_toL s
    rw [hw, List.length_cons] at this
    omega
theorem rparse_ev (s : ByteArray) (hs : s.size ≤ 1125899906842624) : Ev (fun k => ratio_Parse.f k s) (rR (prE (toL s)) (prV (toL s))) := by
  unfold ratio_Parse.f
  rw [prefix_ev]
  unfold prE prV unm
  by_cases hp : isPre 45 (toL s) = true
  · rw [if_pos hp, hp]
    obtain ⟨e1, e2⟩ := unm_drop hp
    rw [e1]
    have hsz : (ofL ((toL s).drop 1)).size ≤ 1125899906842624 := by
      rw [size_toL, toL_ofL, List.length_drop, ← size_toL]
      omega
    have h1 := plain_ev (ofL ((toL s).drop 1)) hsz
    rw [toL_ofL] at h1
    refine Ev.bind (Ev.now true) (Ev.if_pos rfl (Ev.if_pos (by omega) (Ev.bind h1 ?_)))
    dsimp only
    have hsz := plV_sz (w := (toL s).drop 1)
    generalize plE ((toL s).drop 1) = e at hsz ⊢
    generalize plV ((toL s).drop 1) = x at hsz ⊢
    unfold rR
    by_cases h0 : e = 0
    · rw [if_pos h0, if_pos h0]
      have hn := neg_cn (cn x) (cnB x (hsz h0)) (by decide)
      rw [rv_cn] at hn
      exact Ev.if_neg (fun h => h rfl) (Ev.bind hn (Ev.now _))
    · rw [if_neg h0, if_neg h0]
      exact Ev.if_pos h0 (Ev.now _)
  · rw [if_neg hp]
    have hp' : isPre 45 (toL s) = false := by simpa using hp
    rw [hp']
    refine Ev.bind (Ev.now false) (Ev.if_neg (by decide) (Ev.bind (plain_ev s hs) ?_))
    dsimp only
    generalize plE (toL s) = e
    generalize plV (toL s) = x
    unfold rR
    by_cases h0 : e = 0
    · rw [if_pos h0, if_pos h0]
      exact Ev.if_neg (fun h => h rfl) (Ev.now _)
    · rw [if_neg h0, if_neg h0]
      exact Ev.if_pos h0 (Ev.now _)
end Go.DI.Th
namespace Go.DI.Th
open Go Go.RowKit Go.DI

def pickL (s : St) (place : Int) (w : ByteArray) : List ByteArray → Nat → Int × St
  | [], _ => (0, failS s 7 place)
  | x :: l, i => if w = x then ((i : Int), s) else pickL s place w l (i + 1)
def pickS (s : St) (l : List ByteArray) : Int × St := if (wordS s).2.err ≠ 0 then (0, (wordS s).2) else pickL (wordS s).2 (placeS s) (wordS s).1 l 0
theorem pick_l0 (s : St) (place : Int) (w : ByteArray) (ws : List ByteArray) (hw : ws.length ≤ 1000) : ∀ (b a : List ByteArray), ws = a ++ b → Ev (fun k => lex_Reader_Pick.l0 k place w ws (ws.length : Int) (a.length : Int) s.ls s.i s.j s.sz s.err s.at_) ((pickL s place w b a.length).1, (pickL s place w b a.length).2.t) := by
  intro b
  induction b with
  | nil =>
    intro a hr
    rw [List.append_nil] at hr
    refine Ev.succ ?_
    simp only [lex_Reader_Pick.l0, fail_eq]
    exact Ev.if_neg (by rw [hr]; omega) (Ev.now _)
  | cons x b ih =>
    intro a hr
    have e1 := gt_at ByteArray.empty a x b
    have l1 := lt_at a x b
    rw [← hr] at e1 l1
    have hl : ws.length = a.length + (b.length + 1) := by rw [hr, List.length_append, List.length_cons]
    have hih := ih (a ++ [x]) (by rw [hr]; simp)
    refine Ev.succ ?_
    simp only [lex_Reader_Pick.l0, e1, wr_at a x (show a.length ≤ 1125899906842624 by omega)]
    refine Ev.if_pos l1 (Ev.if_pos (nn0 _) (Ev.if_pos l1 ?_))
    rw [pickL]
    by_cases h : w = x
    · rw [if_pos h]
      exact Ev.if_pos h (Ev.now _)
    · rw [if_neg h]
      rw [List.length_append, List.length_singleton] at hih ⊢
      exact Ev.if_neg h hih
theorem pick_ev (s : St) (h : s.Good) (ws : List ByteArray) (hw : ws.length ≤ 1000) : Ev (fun k => lex_Reader_Pick.f k s.ls s.i s.j s.sz s.err s.at_ ws) ((pickS s ws).1, (pickS s ws).2.t) := by
  unfold lex_Reader_Pick.f pickS
  rw [place_eq s h.ok h.l1]
  show Ev (fun k => (lex_Reader_Word.f s.ls s.i s.j s.sz s.err s.at_).bind _) _
  rw [word_eq s h.ok h.l1]
  generalize wordS s = p
  obtain ⟨v, s2⟩ := p
  show Ev (fun k => if (s2.err != 0) = true then some (0, s2.t) else lex_Reader_Pick.l0 k (placeS s) v ws (ws.length : Int) 0 s2.ls s2.i s2.j s2.sz s2.err s2.at_) _
  by_cases he : s2.err ≠ 0
  · rw [if_pos he]
    exact Ev.if_pos (by simpa using he) (Ev.now _)
  · rw [if_neg he]
    exact Ev.if_neg (by simpa using he) (pick_l0 s2 (placeS s) v ws hw ws [] rfl)
theorem pickL_good {s : St} (h : s.Good) (place : Int) (w : ByteArray) : ∀ (l : List ByteArray) (i : Nat), (pickL s place w l i).2.Good
  | [], _ => failS_good h _ _
  | x :: l, i => by
    rw [pickL]
    split
    · exact h
    · exact pickL_good h place w l (i + 1)
theorem pickS_good {s : St} (h : s.Good) (l : List ByteArray) : (pickS s l).2.Good := by
  unfold pickS
  split
  · exact wordS_good h
  · exact pickL_good (wordS_good h) _ _ _ _
def FailS (s : St) (e : Int) : St := if s.err ≠ 0 then s else if e = 0 then s else if s.ls.length ≤ s.i then s else if s.j = 0 then s else failS s e (s.line.getD (s.j - 1) w0).1
theorem Fail_eq (s : St) (h : s.Good) (e : Int) : lex_Reader_Fail.f s.ls s.i s.j s.sz s.err s.at_ e = some (FailS s e).t := by
  unfold lex_Reader_Fail.f FailS
  rw [off_eq]
  show (if (s.err != 0) = true then some s.t else if e = 0 then some s.t else if (s.i : Int) ≥ (s.ls.length : Int) then some s.t else if (s.j : Int) = 0 then some s.t else (if 0 ≤ (s.i : Int) then (if (s.i : Int) < (s.ls.length : Int) then (if 0 ≤ (wrap64 ((s.j : Int) - 1)) then (if (wrap64 ((s.j : Int) - 1)) < (s.line.length : Int) then ((lex_Reader_fail.f s.ls s.i s.j s.sz s.err s.at_ e ((gt (0, 0, ByteArray.empty) s.line (wrap64 ((s.j : Int) - 1))).1)).bind fun v45 => some v45) else none) else none) else none) else none)) = _
  by_cases he : s.err ≠ 0
  · rw [if_pos (by simpa using he), if_pos he]
  · rw [if_neg (by simpa using he), if_neg he]
    by_cases h0 : e = 0
    · rw [if_pos h0, if_pos h0]
    · rw [if_neg h0, if_neg h0]
      by_cases hi : s.ls.length ≤ s.i
      · rw [if_pos (by omega), if_pos hi]
      · rw [if_neg (by omega), if_neg hi]
        by_cases hj : s.j = 0
        · rw [if_pos (by omega), if_pos hj]
        · have hjl := h.ok.jl
          have hjb := h.ok.jb
          have q1 : (s.i : Int) < (s.ls.length : Int) := by omega
          have q2 : ((s.j - 1 : Nat) : Int) < (s.line.length : Int) := by omega
          have ew : wrap64 ((s.j : Int) - 1) = ((s.j - 1 : Nat) : Int) := by rw [wrap_id (by omega) (by omega)]; omega
          have q3 : ¬ (s.j : Int) = 0 := by clear ew; omega
          rw [if_neg q3, if_neg hj, ew, if_pos (nn0 _), if_pos q1, if_pos (nn0 _), if_pos q2, gt_nat, fail_eq]
          rfl
theorem FailS_good {s : St} (h : s.Good) (e : Int) : (FailS s e).Good := by
  unfold FailS
  split
  · exact h
  · split
    · exact h
    · split
      · exact h
      · split
        · exact h
        · exact failS_good h _ _
theorem word_err {s : St} (h : s.err ≠ 0) : wordS s = (ByteArray.empty, s) := by unfold wordS; rw [if_pos h]
theorem take_err {s : St} (h : s.err ≠ 0) (w : ByteArray) : takeS s w = s := by unfold takeS; rw [word_err h]; exact if_pos h
theorem next_err {s : St} (h : s.err ≠ 0) : nextS s = s := by unfold nextS; rw [if_pos h]
theorem end_err {s : St} (h : s.err ≠ 0) : endS s = s := by unfold endS; rw [if_pos h]
theorem count_err {s : St} (h : s.err ≠ 0) (lo hi : Int) : countS s lo hi = (0, s) := by unfold countS; rw [word_err h]; exact if_pos h
theorem pick_err {s : St} (h : s.err ≠ 0) (l : List ByteArray) : pickS s l = (0, s) := by unfold pickS; rw [word_err h]; exact if_pos h
theorem Fail_err {s : St} (h : s.err ≠ 0) (e : Int) : FailS s e = s := by unfold FailS; rw [if_pos h]
def numS (s : St) : Rt × St := (if prE (toL (wordS s).1) = 0 then cn (prV (toL (wordS s).1)) else (false, [], []), FailS (wordS s).2 (prE (toL (wordS s).1)))
theorem numS_ok (s : St) : RtOk (numS s).1 := by
  unfold numS
  dsimp only
  by_cases h : prE (toL (wordS s).1) = 0
  · rw [if_pos h]
    exact cnB (b := 1048576) _ (Nat.le_trans (prV_sz h) (by decide))
  · rw [if_neg h]
    exact ⟨fun x hx => (by cases hx), fun x hx => (by cases hx), by decide, by decide⟩
theorem countS_range (s : St) (lo hi : Int) (h0 : 0 ≤ lo) (h1 : 0 ≤ hi) : 0 ≤ (countS s lo hi).1 ∧ (countS s lo hi).1 ≤ hi := by
  unfold countS
  split
  · exact ⟨Int.le_refl _, h1⟩
  · split
    · split
      · exact ⟨Int.le_refl _, h1⟩
      · split
        · exact ⟨Int.le_refl _, h1⟩
        · constructor <;> (show _ ≤ _; omega)
    · exact ⟨Int.le_refl _, h1⟩
end Go.DI.Th
namespace Go.DI.Th
open Go Go.RowKit Go.DI

end Go.DI.Th
namespace Go.DI.Th
open Go Go.RowKit Go.DI

theorem vb_dgv (l : List UInt8) : vb l = dgv 0 l := rfl
theorem dgv_prN (n : Nat) : dgv 0 (toL (prN n)) = n := by rw [← vb_dgv, vb_prN]
theorem pE_prN (n : Nat) (h : (prN n).size ≤ 10000) : pE (toL (prN n)) = 0 := by
  refine pE_zero.2 ⟨prN_ne n, fun c hc => prN_dig n c hc, ?_⟩
  rw [← size_toL]
  exact h
def qT (q : Nat) : List UInt8 := if q = 1 then [] else 47 :: toL (prN q)
def prX (x : Rat) : ByteArray := prQ x.num x.den
theorem prT_rv (r : Rt) : prT r = prX (rv r) := by
  rw [prT_eq]
  unfold prX rv
  rw [num_mk _ _ (den_pos _), den_mk _ _ (den_pos _)]
theorem prX_toL (x : Rat) : toL (prX x) = (if x.num < 0 then [45] else []) ++ (toL (prN x.num.natAbs) ++ qT x.den) := by
  unfold prX prQ qT prW
  by_cases h1 : x.den = 1
  · rw [if_pos h1, if_pos h1, List.append_nil]
    split
    · rw [toL_append, toL_minus]
    · rw [List.nil_append]
  · rw [if_neg h1, if_neg h1, toL_append, toL_append, toL_slash]
    split
    · rw [toL_append, toL_minus]; simp
    · rw [List.nil_append]; simp
theorem plE_nat (n q : Nat) (hn : (prN n).size ≤ 10000) (hq : (prN q).size ≤ 10000) (h0 : q ≠ 0) : plE (toL (prN n) ++ qT q) = 0 ∧ plV (toL (prN n) ++ qT q) = mkRat (n : Int) q := by
  have n47 : (47 : UInt8) ∉ toL (prN n) := fun h => (prN_dig n _ h).n47 rfl
  have n46 : (46 : UInt8) ∉ toL (prN n) := fun h => by
    have := (prN_dig n _ h).1
    exact absurd this (by decide)
  unfold qT
  by_cases h1 : q = 1
  · subst h1
    rw [if_pos rfl, List.append_nil]
    unfold plE plV
    rw [cutL_not n47, cutL_not n46]
    refine ⟨pE_prN n hn, ?_⟩
    show ((dgv 0 (toL (prN n)) : Int) : Rat) = _
    rw [dgv_prN]
    exact (Rat.mkRat_self ((n : Int) : Rat)).symm
  · rw [if_neg h1]
    unfold plE plV
    rw [cutL_of n47]
    dsimp only
    rw [pE_prN n hn, pE_prN q hq, dgv_prN, dgv_prN, if_neg (fun h => h rfl), if_neg (fun h => h rfl), if_neg h0]
    exact ⟨rfl, rfl⟩
def Rd (x : Rat) : Prop := prE (toL (prX x)) = 0 ∧ prV (toL (prX x)) = x
theorem rd_prX (x : Rat) (h1 : (prN x.num.natAbs).size ≤ 10000) (h2 : (prN x.den).size ≤ 10000) : Rd x := by
  obtain ⟨h1, h2⟩ := plE_nat x.num.natAbs x.den h1 h2 x.den_nz
  have e := prX_toL x
  unfold Rd prE prV unm
  rw [e]
  by_cases hz : x.num < 0
  · rw [if_pos hz]
    have hp : isPre 45 ([45] ++ (toL (prN x.num.natAbs) ++ qT x.den)) = true := rfl
    rw [if_pos hp]
    show plE (toL (prN x.num.natAbs) ++ qT x.den) = 0 ∧ sgQ true (plV (toL (prN x.num.natAbs) ++ qT x.den)) = x
    rw [h1, h2]
    refine ⟨rfl, ?_⟩
    show -(mkRat (x.num.natAbs : Int) x.den) = x
    rw [Rat.neg_mkRat, show -((x.num.natAbs : Nat) : Int) = x.num by omega, Rat.mkRat_self]
  · rw [if_neg hz, List.nil_append]
    have hp : ¬ isPre 45 (toL (prN x.num.natAbs) ++ qT x.den) = true := by
      have hne := prN_ne x.num.natAbs
      have hd := prN_dig x.num.natAbs
      cases hw : toL (prN x.num.natAbs) with
      | nil => exact absurd hw hne
      | cons c t =>
        rw [hw] at hd
        show ¬ (c == 45) = true
        have := (hd c List.mem_cons_self).n45
        simpa using this
    rw [if_neg hp]
    show plE (toL (prN x.num.natAbs) ++ qT x.den) = 0 ∧ sgQ false (plV (toL (prN x.num.natAbs) ++ qT x.den)) = x
    rw [h1, h2]
    refine ⟨rfl, ?_⟩
    show mkRat (x.num.natAbs : Int) x.den = x
    rw [show ((x.num.natAbs : Nat) : Int) = x.num by omega, Rat.mkRat_self]
theorem prX_word (x : Rat) : WdOk (toL (prX x)) := by
  rw [prX_toL]
  have hd : ∀ n : Nat, ∀ c ∈ toL (prN n), inw c = true := fun n c hc => dig_inw (prN_dig n c hc)
  constructor
  · intro e
    have h1 := List.append_eq_nil_iff.1 e
    have h2 := List.append_eq_nil_iff.1 h1.2
    exact prN_ne _ h2.1
  · intro c hc
    rcases List.mem_append.1 hc with h | h
    · have : c = 45 := by
        split at h
        · simpa using h
        · cases h
      rw [this]; decide
    · rcases List.mem_append.1 h with h | h
      · exact hd _ c h
      · unfold qT at h
        split at h
        · cases h
        · rcases List.mem_cons.1 h with h | h
          · rw [h]; decide
          · exact hd _ c h
end Go.DI.Th
namespace Go.DI.Th
open Go Go.RowKit Go.DI

def wds (l : List W) : List (List UInt8) := l.map fun w => toL w.2.2
structure Cur (s : St) (ws : List (List UInt8)) (rest : List (List (List UInt8))) : Prop where
  good : s.Good
  err : s.err = 0
  il : s.i < s.ls.length
  cur : wds (s.line.drop s.j) = ws
  nxt : (s.ls.drop (s.i + 1)).map wds = rest
theorem Cur.word {s : St} {w : List UInt8} {ws : List (List UInt8)} {rest : List (List (List UInt8))} (h : Cur s (w :: ws) rest) : ∃ s', wordS s = (ofL w, s') ∧ Cur s' ws rest := by
  have hne : ¬ s.err ≠ 0 := fun e => e h.err
  have hlen := congrArg List.length h.cur
  unfold wds at hlen
  rw [List.length_map, List.length_drop, List.length_cons] at hlen
  have hj : s.j < s.line.length := by omega
  have hm : moreS s := ⟨h.err, h.il, hj⟩
  have hd : s.line.drop s.j = s.line.getD s.j w0 :: s.line.drop (s.j + 1) := by
    rw [List.drop_eq_getElem_cons hj, List.getD_eq_getElem?_getD, List.getElem?_eq_getElem hj]
    rfl
  have hc := h.cur
  rw [hd] at hc
  have h1 : toL (s.line.getD s.j w0).2.2 = w := (List.cons.inj hc).1
  have h2 : wds (s.line.drop (s.j + 1)) = ws := (List.cons.inj hc).2
  have hg := wordS_good h.good
  refine ⟨{ s with j := s.j + 1 }, ?_, ?_⟩
  · unfold wordS
    rw [if_neg hne, if_pos hm]
    rw [← h1, ofL_toL]
  · have e : (wordS s).2 = { s with j := s.j + 1 } := by unfold wordS; rw [if_neg hne, if_pos hm]
    rw [e] at hg
    exact ⟨hg, h.err, h.il, h2, h.nxt⟩
theorem Cur.take {s : St} {w : ByteArray} {ws : List (List UInt8)} {rest : List (List (List UInt8))} (h : Cur s (toL w :: ws) rest) : Cur (takeS s w) ws rest := by
  obtain ⟨s', e, c⟩ := h.word
  unfold takeS
  rw [e]
  dsimp only
  rw [if_neg (fun h => h c.err), ofL_toL, if_neg (fun h => h rfl)]
  exact c
theorem Cur.count {s : St} {n : Nat} {lo hi : Int} {ws : List (List UInt8)} {rest : List (List (List UInt8))} (h : Cur s (toL (prN n) :: ws) rest) (h1 : lo ≤ (n : Int)) (h2 : (n : Int) ≤ hi) (h3 : n ≤ 1000000000) : (countS s lo hi).1 = (n : Int) ∧ Cur (countS s lo hi).2 ws rest := by
  obtain ⟨s', e, c⟩ := h.word
  unfold countS
  rw [e]
  dsimp only
  rw [if_neg (fun h => h c.err), ofL_toL, small_prN n h3]
  dsimp only
  rw [if_neg (by omega), if_neg (by omega)]
  exact ⟨rfl, c⟩
theorem Cur.pick0 {s : St} {a b : ByteArray} {ws : List (List UInt8)} {rest : List (List (List UInt8))} (h : Cur s (toL a :: ws) rest) : (pickS s [a, b]).1 = 0 ∧ Cur (pickS s [a, b]).2 ws rest := by
  obtain ⟨s', e, c⟩ := h.word
  unfold pickS
  rw [e]
  dsimp only
  rw [if_neg (fun h => h c.err), ofL_toL, pickL, if_pos rfl]
  exact ⟨rfl, c⟩
theorem Cur.pick1 {s : St} {a b : ByteArray} {ws : List (List UInt8)} {rest : List (List (List UInt8))} (h : Cur s (toL b :: ws) rest) (hab : b ≠ a) : (pickS s [a, b]).1 = 1 ∧ Cur (pickS s [a, b]).2 ws rest := by
  obtain ⟨s', e, c⟩ := h.word
  unfold pickS
  rw [e]
  dsimp only
  rw [if_neg (fun h => h c.err), ofL_toL, pickL, if_neg hab, pickL, if_pos rfl]
  exact ⟨rfl, c⟩
theorem Cur.num {s : St} {x : Rat} {ws : List (List UInt8)} {rest : List (List (List UInt8))} (h : Cur s (toL (prX x) :: ws) rest) (hx : Rd x) : (numS s).1 = cn x ∧ Cur (numS s).2 ws rest := by
  obtain ⟨s', e, c⟩ := h.word
  unfold numS
  rw [e]
  dsimp only
  rw [toL_ofL, hx.1, hx.2, if_pos rfl]
  refine ⟨rfl, ?_⟩
  unfold FailS
  rw [if_neg (fun h => h c.err), if_pos rfl]
  exact c
theorem Cur.more {s : St} {rest : List (List (List UInt8))} (h : Cur s [] rest) : ¬ moreS s := fun hm => by
  have hlen := congrArg List.length h.cur
  unfold wds at hlen
  rw [List.length_map, List.length_drop, List.length_nil] at hlen
  have := hm.2.2
  omega
theorem Cur.next {s : St} {l : List (List UInt8)} {rest : List (List (List UInt8))} (h : Cur s [] (l :: rest)) : Cur (nextS s) l rest := by
  have hne : ¬ s.err ≠ 0 := fun e => e h.err
  have hlen := congrArg List.length h.nxt
  rw [List.length_map, List.length_drop, List.length_cons] at hlen
  have hi : s.i + 1 < s.ls.length := by omega
  have hd : s.ls.drop (s.i + 1) = s.ls.getD (s.i + 1) [] :: s.ls.drop (s.i + 1 + 1) := by
    rw [List.drop_eq_getElem_cons hi, List.getD_eq_getElem?_getD, List.getElem?_eq_getElem hi]
    rfl
  have hc := h.nxt
  rw [hd] at hc
  have h1 : wds (s.ls.getD (s.i + 1) []) = l := (List.cons.inj hc).1
  have h2 : (s.ls.drop (s.i + 1 + 1)).map wds = rest := (List.cons.inj hc).2
  have hg := nextS_good h.good
  have e : nextS s = { s with i := s.i + 1, j := 0 } := by
    unfold nextS
    rw [if_neg hne, if_neg h.more, if_neg (by have := h.il; omega)]
  rw [e] at hg ⊢
  exact ⟨hg, h.err, hi, h1, h2⟩
structure CurE (s : St) : Prop where
  good : s.Good
  err : s.err = 0
  il : s.i = s.ls.length
theorem Cur.last {s : St} (h : Cur s [] []) : CurE (nextS s) := by
  have hne : ¬ s.err ≠ 0 := fun e => e h.err
  have hlen := congrArg List.length h.nxt
  rw [List.length_map, List.length_drop, List.length_nil] at hlen
  have hil := h.il
  have hg := nextS_good h.good
  have e : nextS s = { s with i := s.i + 1, j := 0 } := by
    unfold nextS
    rw [if_neg hne, if_neg h.more, if_neg (by omega)]
  rw [e] at hg ⊢
  exact ⟨hg, h.err, by show s.i + 1 = s.ls.length; omega⟩
theorem CurE.done {s : St} (h : CurE s) : endS s = s := by
  unfold endS
  rw [if_neg (fun e => e h.err), if_neg (by have := h.il; omega)]
def CurL (s : St) (L : List (List (List UInt8))) : Prop := ∃ l rest, L = l :: rest ∧ Cur s l rest
theorem CurL.of {s : St} {l : List (List UInt8)} {rest : List (List (List UInt8))} (h : Cur s l rest) : CurL s (l :: rest) := ⟨l, rest, rfl, h⟩
theorem CurL.get {s : St} {l : List (List UInt8)} {rest : List (List (List UInt8))} (h : CurL s (l :: rest)) : Cur s l rest := by
  obtain ⟨l', r', e, c⟩ := h
  cases e
  exact c
theorem CurL.err {s : St} {L : List (List (List UInt8))} (h : CurL s L) : s.err = 0 := by
  obtain ⟨_, _, _, c⟩ := h
  exact c.err
theorem textW_append : ∀ (a b : List (List (List UInt8))), textW (a ++ b) = textW a ++ textW b
  | [], _ => rfl
  | l :: a, b => by rw [List.cons_append, textW, textW, textW_append a b]; simp
theorem wds_placed : ∀ (l : List (List UInt8)) (pos : Nat), wds (placed pos l) = l
  | [], _ => rfl
  | w :: l, pos => by
    rw [placed]
    show toL (ofL w) :: wds (placed _ l) = _
    rw [toL_ofL, wds_placed l]
theorem wds_shift (n pos : Nat) (l : List W) : wds (l.map (shiftW n pos)) = wds l := by
  unfold wds
  rw [List.map_map]
  rfl
theorem wds_placedL : ∀ (t : List (List (List UInt8))) (n pos : Nat), (placedL n pos t).map wds = t
  | [], _, _ => rfl
  | l :: t, n, pos => by
    rw [placedL, List.map_cons, wds_shift, wds_placed, wds_placedL t]
theorem start_cur {t : List (List (List UInt8))} {x : ByteArray} (hx : toL x = textW t) (h : ∀ l ∈ t, l ≠ [] ∧ l.length ≤ 4096 ∧ ∀ w ∈ l, WdOk w) (hn : t.length < 16384) (hs : (textW t).length ≤ 1048576) (h0 : t ≠ []) : CurL (readS x) t := by
  have hl := linesT_text t h hn hs x hx
  have hg := readS_good x
  cases t with
  | nil => exact absurd rfl h0
  | cons l rest =>
    have hw := wds_placedL (l :: rest) 0 0
    have e : readS x = ⟨placedL 0 0 (l :: rest), 0, 0, (x.size : Int), 0, 0⟩ := by unfold readS; rw [hl]
    rw [e] at hg ⊢
    refine CurL.of ⟨hg, rfl, ?_, ?_, ?_⟩
    · show 0 < (placedL 0 0 (l :: rest)).length
      rw [placedL, List.length_cons]
      omega
    · show wds (((placedL 0 0 (l :: rest)).getD 0 []).drop 0) = l
      rw [placedL] at hw ⊢
      exact (List.cons.inj hw).1
    · show ((placedL 0 0 (l :: rest)).drop 1).map wds = rest
      rw [placedL] at hw ⊢
      exact (List.cons.inj hw).2
theorem two_ok {a b : List UInt8} (ha : WdOk a) (hb : WdOk b) : [a, b] ≠ [] ∧ [a, b].length ≤ 4096 ∧ ∀ w ∈ [a, b], WdOk w := by
  refine ⟨by simp, by simp, fun w hw => ?_⟩
  simp only [List.mem_cons, List.not_mem_nil, or_false] at hw
  rcases hw with rfl | rfl
  · exact ha
  · exact hb
end Go.DI.Th
namespace Go.DI.Th
open Go Go.RowKit Go.DI

theorem rd_small (r : Rt) {b : Nat} (h : RtB b r) (hb : b ≤ 300) : Rd (rv r) := by
  have hz := h.sz
  have n1 : len (rv r).num.natAbs ≤ b + 1 := by unfold Sz at hz; omega
  have n2 : len (rv r).den ≤ b + 1 := by unfold Sz at hz; omega
  have p1 := prN_size (rv r).num.natAbs
  have p2 := prN_size (rv r).den
  exact rd_prX _ (by omega) (by omega)
end Go.DI.Th
namespace Go.DI.Th
open Go Go.RowKit Go.DI

theorem dec_len (k : Nat) : ∀ (n : Nat), 1 ≤ k → n < 10 ^ k → (dec n).length ≤ k := by
  induction k with
  | zero => intro n h; omega
  | succ k ih =>
    intro n _ h
    by_cases h1 : n < 10
    · rw [dec_small h1, List.length_singleton]; omega
    · rw [dec_big h1, List.length_append, List.length_singleton]
      have e : 10 ^ (k + 1) = 10 * 10 ^ k := by rw [Nat.pow_succ]; omega
      rw [e] at h
      have hk : 1 ≤ k := by
        rcases Nat.eq_zero_or_pos k with rfl | t
        · rw [Nat.pow_zero] at h; omega
        · exact t
      generalize he : 10 ^ k = p at h
      have := ih (n / 10) hk (by rw [he]; omega)
      omega
theorem prN_dec {n k : Nat} (hk : 1 ≤ k) (h : n < 10 ^ k) : (prN n).size ≤ k := by
  unfold prN
  rw [obs_size]
  exact dec_len k n hk h
theorem mk_bounds (z : Int) (q : Nat) (h : q ≠ 0) : (mkRat z q).num.natAbs ≤ z.natAbs ∧ (mkRat z q).den ≤ q := by
  rw [num_mk z q h, den_mk z q h, rnum_abs]
  exact ⟨Nat.div_le_self _ _, Nat.div_le_self _ _⟩
theorem prX_size (x : Rat) {k : Nat} (h1 : (prN x.num.natAbs).size ≤ k) (h2 : (prN x.den).size ≤ k) : (toL (prX x)).length ≤ 2 * k + 2 := by
  rw [prX_toL, List.length_append, List.length_append]
  have e1 : (toL (prN x.num.natAbs)).length ≤ k := by rw [← size_toL]; exact h1
  have e2 : (qT x.den).length ≤ k + 1 := by
    unfold qT
    split
    · exact Nat.zero_le _
    · rw [List.length_cons, ← size_toL]; omega
  split
  · rw [List.length_singleton]; omega
  · rw [List.length_nil]; omega
end Go.DI.Th
namespace Go.DI.Th
open Go Go.RowKit Go.DI

def ll (t : List Nd) : Nat := (textW (t.map lineW)).length
end Go.DI.Th
namespace Go.DI.Th
open Go Go.RowKit Go.DI

abbrev En := Int × Int × Int × List (List Rt)

def num3 (r : Rt) : Rt := (r.1, r.2.1.take 3, r.2.2.take 3)
theorem number_eq (b : Bool) (n d : List Int) : dendronlaw09_number.f b n d = some (num3 (b, n, d)) := by
  unfold dendronlaw09_number.f num3
  have t : ∀ l : List Int, ¬ (l.length : Int) > 3 → l.take 3 = l := fun l h => List.take_of_length_le (by omega)
  by_cases h1 : (n.length : Int) > 3
  · rw [if_pos h1, if_pos (by omega)]
    by_cases h2 : (d.length : Int) > 3
    · rw [if_pos h2, if_pos (by omega)]
    · rw [if_neg h2]; dsimp only; rw [t d h2]
  · rw [if_neg h1]
    by_cases h2 : (d.length : Int) > 3
    · rw [if_pos h2, if_pos (by omega)]; dsimp only; rw [t n h1]
    · rw [if_neg h2]; dsimp only; rw [t n h1, t d h2]
def cell3 (c : Bool × Rt) : Bool × Rt := (c.1, num3 c.2)
theorem few09_loop (xs : List (Bool × Rt)) (n : Nat) (hn : n ≤ 1099511627776) : ∀ (b a acc : List (Bool × Rt)), xs = a ++ b → a.length ≤ n → acc.length = a.length →
    Ev (fun k => dendronlaw09_Few.l0 k xs (n : Int) acc (a.length : Int)) (acc ++ (b.take (n - a.length)).map cell3) := by
  intro b
  induction b with
  | nil =>
    intro a acc hx _ _
    rw [List.take_nil, List.map_nil, List.append_nil]
    exact Ev.step (fun k => by rw [dendronlaw09_Few.l0, if_neg (by rw [hx]; exact nlt_at a)]) (Ev.now _)
  | cons x b ih =>
    intro a acc hx hl ha
    by_cases h : a.length < n
    · have hg : gt (false, false, [], []) xs (a.length : Int) = x := by rw [hx]; exact gt_at _ a x b
      refine Ev.step (fun k => ?_) ((ih (a ++ [x]) (acc ++ [cell3 x]) (by rw [hx, snoc_at]) (by rw [List.length_append, List.length_singleton]; omega) (by rw [List.length_append, List.length_append, ha]; rfl)).of_eq ?_)
      · rw [dendronlaw09_Few.l0, if_pos (by rw [hx]; exact lt_at a x b), if_pos (by omega), if_pos (nn0 _), hg, number_eq, Option.bind_some, if_pos (by omega), wr_at a x (by omega)]
        rfl
      · obtain ⟨m, hm⟩ : ∃ m, n - a.length = m + 1 := ⟨n - a.length - 1, by omega⟩
        rw [hm, List.take_succ_cons, List.map_cons, List.length_append, List.length_singleton, show n - (a.length + 1) = m by omega, List.append_assoc]
        rfl
    · rw [show n - a.length = 0 by omega, List.take_zero, List.map_nil, List.append_nil]
      exact Ev.step (fun k => by rw [dendronlaw09_Few.l0, if_pos (by rw [hx]; exact lt_at a x b), if_neg (by omega)]) (Ev.now _)
theorem few09_ev (xs : List (Bool × Rt)) (n : Nat) (hn : n ≤ 1099511627776) : Ev (fun k => dendronlaw09_Few.f k xs (n : Int)) ((xs.take n).map cell3) := by
  have := few09_loop xs n hn xs [] [] rfl (Nat.zero_le _) rfl
  rwa [List.nil_append] at this
def row3 (r : List Rt) : List Rt := (r.take 12).map num3
def ent3 (x : En) : En := (x.1, x.2.1, x.2.2.1, (x.2.2.2.take 70).map row3)
def few29 (l : List En) : List En := (l.take 8).map ent3
theorem few_l2 (xs out : List En) (i : Int) (t : List (List Rt)) (ht : t.length ≤ 1000) (b0 b1 b2 : Int) (b3 ta : List (List Rt)) (row : List Rt) (tb : List (List Rt)) (hb : b3 = ta ++ row :: tb) (x16 x31 : Int) (x17 x32 : Bool) (R : List En)
    (hend : Ev (fun k => dendronlaw29_Few.l1 k xs out i (t ++ [row3 row]) ((ta ++ [row]).length : Int) x16 x17 b0 b1 b2 b3) R) (hta : ta.length ≤ 1000) : ∀ (b a acc : List Rt), row = a ++ b → a.length ≤ 12 → acc.length = a.length → acc ++ (b.take (12 - a.length)).map num3 = row3 row →
    Ev (fun k => dendronlaw29_Few.l2 k xs out i t (ta.length : Int) acc (a.length : Int) x16 x17 x31 x32 b0 b1 b2 b3) R := by
  have g0 : gt [] b3 (ta.length : Int) = row := by rw [hb]; exact gt_at _ ta row tb
  have g1 : (ta.length : Int) < (b3.length : Int) := by rw [hb]; exact lt_at ta row tb
  have g2 := wr_at ta row (by omega)
  intro b
  induction b with
  | nil =>
    intro a acc hr _ _ hacc
    rw [List.take_nil, List.map_nil, List.append_nil] at hacc
    refine Ev.step (fun k => ?_) hend
    rw [dendronlaw29_Few.l2, if_pos (nn0 _), if_pos g1, g0, if_neg (by rw [hr]; exact nlt_at a), if_pos (by omega), g2, hacc]
  | cons x b ih =>
    intro a acc hr hl ha hacc
    by_cases h : a.length < 12
    · have hg : gt (false, [], []) row (a.length : Int) = x := by rw [hr]; exact gt_at _ a x b
      obtain ⟨m, hm⟩ : ∃ m, 12 - a.length = m + 1 := ⟨12 - a.length - 1, by omega⟩
      have e9 := few09_ev [(false, x.1, x.2.1, x.2.2)] 1 (by decide)
      refine Ev.step (f := fun k => (dendronlaw09_Few.f k [(false, x.1, x.2.1, x.2.2)] ((1 : Nat) : Int)).bind fun v22 => (if 0 < (v22.length : Int) then (if acc.length < 2513169434916 then (dendronlaw29_Few.l2 k xs out i t (ta.length : Int) (acc ++ [((gt (false, false, [], []) v22 0).2.1, (gt (false, false, [], []) v22 0).2.2.1, (gt (false, false, [], []) v22 0).2.2.2)]) ((a ++ [x]).length : Int) x16 x17 x31 x32 b0 b1 b2 b3) else none) else none)) (fun k => ?_) (Ev.bind e9 ?_)
      · rw [dendronlaw29_Few.l2, if_pos (nn0 _), if_pos g1, g0, if_pos (by rw [hr]; exact lt_at a x b), if_pos (by omega), if_pos (nn0 _), hg, wr_at a x (by omega)]
        rfl
      · refine Ev.if_pos (by simp) (Ev.if_pos (by omega) ?_)
        refine ih (a ++ [x]) (acc ++ [num3 x]) (by rw [hr, snoc_at]) (by rw [List.length_append, List.length_singleton]; omega) (by rw [List.length_append, List.length_append, ha]; rfl) ?_
        rw [hm, List.take_succ_cons, List.map_cons] at hacc
        rw [List.length_append, List.length_singleton, show 12 - (a.length + 1) = m by omega, List.append_assoc]
        exact hacc
    · rw [show 12 - a.length = 0 by omega, List.take_zero, List.map_nil, List.append_nil] at hacc
      refine Ev.step (fun k => ?_) hend
      rw [dendronlaw29_Few.l2, if_pos (nn0 _), if_pos g1, g0, if_pos (by rw [hr]; exact lt_at a x b), if_neg (by omega), if_pos (by omega), g2, hacc]
theorem few_l1 (xs out : List En) (ho : out.length ≤ 1000) (i : Nat) (hi : i ≤ 1000) (b0 b1 b2 : Int) (b3 : List (List Rt)) (x16 : Int) (x17 : Bool) (R : List En)
    (hend : Ev (fun k => dendronlaw29_Few.l0 k xs (out ++ [(b0, b1, b2, (b3.take 70).map row3)]) ((i + 1 : Nat) : Int)) R) : ∀ (tb ta t : List (List Rt)), b3 = ta ++ tb → ta.length ≤ 70 → t.length = ta.length → t ++ (tb.take (70 - ta.length)).map row3 = (b3.take 70).map row3 →
    Ev (fun k => dendronlaw29_Few.l1 k xs out (i : Int) t (ta.length : Int) x16 x17 b0 b1 b2 b3) R := by
  have gi := wr_succ i (by omega)
  intro tb
  induction tb with
  | nil =>
    intro ta t hb _ _ ht
    rw [List.take_nil, List.map_nil, List.append_nil] at ht
    refine Ev.step (fun k => ?_) hend
    rw [dendronlaw29_Few.l1, if_neg (by rw [hb]; exact nlt_at ta), if_pos (by omega), gi, ht]
  | cons row tb ih =>
    intro ta t hb hl htl ht
    by_cases h : ta.length < 70
    · obtain ⟨m, hm⟩ : ∃ m, 70 - ta.length = m + 1 := ⟨70 - ta.length - 1, by omega⟩
      have h1 := ih (ta ++ [row]) (t ++ [row3 row]) (by rw [hb, snoc_at]) (by rw [List.length_append, List.length_singleton]; omega) (by rw [List.length_append, List.length_append, htl]; rfl) (by
        rw [hm, List.take_succ_cons, List.map_cons] at ht
        rw [List.length_append, List.length_singleton, show 70 - (ta.length + 1) = m by omega, List.append_assoc]
        exact ht)
      have h2 := few_l2 xs out (i : Int) t (by omega) b0 b1 b2 b3 ta row tb hb x16 (ta.length : Int) x17 true R h1 (by omega) row [] [] rfl (by decide) rfl rfl
      refine Ev.step (fun k => ?_) h2
      rw [dendronlaw29_Few.l1, if_pos (by rw [hb]; exact lt_at ta row tb), if_pos (by omega)]
      rfl
    · rw [show 70 - ta.length = 0 by omega, List.take_zero, List.map_nil, List.append_nil] at ht
      refine Ev.step (fun k => ?_) hend
      rw [dendronlaw29_Few.l1, if_pos (by rw [hb]; exact lt_at ta row tb), if_neg (by omega), if_pos (by omega), gi, ht]
theorem few_l0 (xs : List En) : ∀ (b a acc : List En), xs = a ++ b → a.length ≤ 8 → acc.length = a.length → Ev (fun k => dendronlaw29_Few.l0 k xs acc (a.length : Int)) (acc ++ (b.take (8 - a.length)).map ent3) := by
  intro b
  induction b with
  | nil =>
    intro a acc hx _ _
    rw [List.take_nil, List.map_nil, List.append_nil]
    exact Ev.step (fun k => by rw [dendronlaw29_Few.l0, if_neg (by rw [hx]; exact nlt_at a)]) (Ev.now _)
  | cons x b ih =>
    intro a acc hx hl ha
    by_cases h : a.length < 8
    · obtain ⟨m, hm⟩ : ∃ m, 8 - a.length = m + 1 := ⟨8 - a.length - 1, by omega⟩
      have hg : gt (0, 0, 0, []) xs (a.length : Int) = x := by rw [hx]; exact gt_at _ a x b
      have h1 := ih (a ++ [x]) (acc ++ [ent3 x]) (by rw [hx, snoc_at]) (by rw [List.length_append, List.length_singleton]; omega) (by rw [List.length_append, List.length_append, ha]; rfl)
      rw [List.length_append, List.length_singleton, show 8 - (a.length + 1) = m by omega, List.append_assoc] at h1
      have h2 := few_l1 xs acc (by omega) a.length (by omega) x.1 x.2.1 x.2.2.1 x.2.2.2 (a.length : Int) true _ h1 x.2.2.2 [] [] rfl (by decide) rfl rfl
      rw [hm, List.take_succ_cons, List.map_cons]
      refine Ev.step (fun k => ?_) h2
      rw [dendronlaw29_Few.l0, if_pos (by rw [hx]; exact lt_at a x b), if_pos (by omega), if_pos (nn0 _), hg]
      rfl
    · rw [show 8 - a.length = 0 by omega, List.take_zero, List.map_nil, List.append_nil]
      exact Ev.step (fun k => by rw [dendronlaw29_Few.l0, if_pos (by rw [hx]; exact lt_at a x b), if_neg (by omega)]) (Ev.now _)
theorem few29_ev (xs : List En) : Ev (fun k => dendronlaw29_Few.f k xs) (few29 xs) := by
  have := few_l0 xs xs [] [] rfl (Nat.zero_le _) rfl
  rwa [List.nil_append] at this
end Go.DI.Th
namespace Go.DI.Th
open Go Go.RowKit Go.DI

theorem digits_ev (n : Nat) (h : n ≤ 9223372036854775807) : Ev (fun k => report_digits.f k (n : Int)) (prN n) := ofprint_ev n h
def okE (i : Nat) (x : En) : Prop := x.1 = (i : Int) ∧ 0 ≤ x.2.1 ∧ x.2.1 ≤ 9 ∧ 0 ≤ x.2.2.1 ∧ x.2.2.1 ≤ 999 ∧ (x.2.2.1 ≠ 0 → x.2.2.2.length = 0) ∧ x.2.2.2.length ≤ 64
instance (i : Nat) (x : En) : Decidable (okE i x) := by unfold okE; infer_instance
def okL : Nat → List En → Prop
  | _, [] => True
  | i, x :: l => okE i x ∧ okL (i + 1) l
instance okL.dec : ∀ (i : Nat) (l : List En), Decidable (okL i l)
  | _, [] => .isTrue trivial
  | i, x :: l => by
    unfold okL
    have := okL.dec (i + 1) l
    infer_instance
theorem right_loop (t : List (List Rt)) (hrows : ∀ r ∈ t, r.length ≤ 1000) (ht : t.length ≤ 1099511627776) : ∀ (b a : List (List Rt)), t = a ++ b → Ev (fun k => report_right.l0 k t (t.length : Int) (a.length : Int)) true := by
  intro b
  induction b with
  | nil =>
    intro a hx
    exact Ev.step (fun k => by rw [report_right.l0, if_neg (by rw [hx]; exact nlt_at a)]) (Ev.now _)
  | cons x b ih =>
    intro a hx
    have hg : gt [] t (a.length : Int) = x := by rw [hx]; exact gt_at _ a x b
    have hl := lt_at a x b
    rw [← hx] at hl
    have hm := hrows x (by rw [hx]; exact List.mem_append_right _ List.mem_cons_self)
    refine Ev.step (fun k => ?_) (ih (a ++ [x]) (by rw [hx, snoc_at]))
    rw [report_right.l0, if_pos hl, if_pos (nn0 _), if_pos hl, hg, if_neg (by omega), wr_at a x (by omega)]
theorem right_ev (i : Nat) (x : En) (hrows : ∀ r ∈ x.2.2.2, r.length ≤ 1000) (ht : x.2.2.2.length ≤ 1099511627776) : Ev (fun k => report_right.f k x.1 x.2.1 x.2.2.1 x.2.2.2 (i : Int)) (decide (okE i x)) := by
  unfold report_right.f
  refine Ev.guard (P := okE i x) (fun h e => h e.1) fun h1 => ?_
  refine Ev.guard (P := okE i x) (fun h e => by have := e.2.1; omega) fun h2 => ?_
  refine Ev.guard (P := okE i x) (fun h e => by have := e.2.2.1; omega) fun h3 => ?_
  refine Ev.guard (P := okE i x) (fun h e => by have := e.2.2.2.1; omega) fun h4 => ?_
  refine Ev.guard (P := okE i x) (fun h e => by have := e.2.2.2.2.1; omega) fun h5 => ?_
  have fin : (x.2.2.1 ≠ 0 → x.2.2.2.length = 0) → Ev (fun k => if (x.2.2.2.length : Int) > 64 then some false else report_right.l0 k x.2.2.2 (x.2.2.2.length : Int) 0) (decide (okE i x)) := by
    intro h6
    refine Ev.guard (P := okE i x) (fun h e => by have := e.2.2.2.2.2.2; omega) fun h7 => ?_
    rw [decide_eq_true (show okE i x from ⟨Decidable.not_not.1 h1, by omega, by omega, by omega, by omega, h6, by omega⟩)]
    exact right_loop x.2.2.2 hrows ht x.2.2.2 [] rfl
  by_cases h6 : x.2.2.1 ≠ 0
  · refine Ev.if_pos h6 (Ev.guard (P := okE i x) (fun h e => by have := e.2.2.2.2.2.1 h6; omega) fun h7 => ?_)
    exact fin fun _ => by omega
  · exact Ev.if_neg h6 (fin fun h => absurd h h6)
def rowTail : List Rt → ByteArray
  | [] => ⟨#[10]⟩
  | r :: l => ⟨#[32]⟩ ++ (prT r ++ rowTail l)
def rowsT : List (List Rt) → ByteArray
  | [] => .empty
  | r :: l => ⟨#[114, 111, 119, 32]⟩ ++ (prN r.length ++ (rowTail r ++ rowsT l))
def entT (x : En) : ByteArray := ⟨#[101, 110, 116, 114, 121, 32]⟩ ++ (prN x.1.toNat ++ (⟨#[32]⟩ ++ (prN x.2.1.toNat ++ (⟨#[32]⟩ ++
  if x.2.2.1 ≠ 0 then ⟨#[101, 114, 114, 111, 114, 32]⟩ ++ (prN x.2.2.1.toNat ++ ⟨#[10]⟩) else ⟨#[116, 97, 98, 108, 101, 32]⟩ ++ (prN x.2.2.2.length ++ (⟨#[10]⟩ ++ rowsT x.2.2.2))))))
def entsT : List En → ByteArray
  | [] => .empty
  | x :: l => entT x ++ entsT l
def headT (n : Nat) : ByteArray := ⟨#[114, 101, 112, 111, 114, 116, 32]⟩ ++ (prN n ++ ⟨#[10]⟩)
def EnOk (x : En) : Prop := x.2.2.2.length ≤ 1099511627776 ∧ ∀ r ∈ x.2.2.2, r.length ≤ 1000 ∧ ∀ v ∈ r, RtOk v
theorem append_empty (a : ByteArray) : a ++ ByteArray.empty = a := ByteArray.append_empty
abbrev M : Nat := 70368744177664

theorem write_str (b s : ByteArray) (h : (b ++ s).size ≤ M) : strings_Builder_WriteString.f b s = some (b ++ s) := by
  unfold strings_Builder_WriteString.f
  rw [ByteArray.size_append] at h
  rw [if_pos (by unfold M at h; omega)]
theorem write_l2 (xs : List En) (n i : Int) (t : List (List Rt)) (m j : Int) (R : ByteArray × Int) (row : List Rt) (hr : row.length ≤ 1099511627776) (hv : ∀ v ∈ row, RtOk v) (acc0 : ByteArray)
    (hend : Ev (fun k => report_Write.l1 k xs n i t m (wrap64 (j + 1)) acc0) R) : ∀ (b a : List Rt) (acc : ByteArray), row = a ++ b → acc ++ rowTail b = acc0 → acc0.size ≤ M →
    Ev (fun k => report_Write.l2 k xs n i t m j row (row.length : Int) (a.length : Int) acc) R := by
  intro b
  induction b with
  | nil =>
    intro a acc hx he hs
    rw [rowTail] at he
    refine Ev.step (fun k => ?_) hend
    rw [report_Write.l2, if_neg (by rw [hx]; exact nlt_at a), write_str acc _ (by rw [he]; exact hs), Option.bind_some, he]
  | cons x b ih =>
    intro a acc hx he hs
    have hg : gt (false, [], []) row (a.length : Int) = x := by rw [hx]; exact gt_at _ a x b
    have hl := lt_at a x b
    rw [← hx] at hl
    rw [rowTail] at he
    have he2 : (acc ++ ((⟨#[32]⟩ : ByteArray) ++ prT x)) ++ rowTail b = acc0 := by rw [← he]; simp only [ByteArray.append_assoc]
    have hsz : acc.size + (1 + (prT x).size) + (rowTail b).size ≤ M := by
      rw [← he2] at hs
      simp only [ByteArray.size_append] at hs
      exact hs
    refine Ev.step (f := fun k => (ratio_Print.f k x.1 x.2.1 x.2.2).bind fun v6 => (if (⟨#[32]⟩ : ByteArray).size + v6.size ≤ 9223372036854775807 then ((strings_Builder_WriteString.f acc ((⟨#[32]⟩ : ByteArray) ++ v6)).bind fun v8 => (report_Write.l2 k xs n i t m j row (row.length : Int) ((a ++ [x]).length : Int) v8)) else none)) (fun k => ?_)
      (Ev.bind (prT_ev x (hv x (by rw [hx]; exact List.mem_append_right _ List.mem_cons_self))) ?_)
    · rw [report_Write.l2, if_pos hl, if_pos (nn0 _), if_pos hl, hg, wr_at a x (by omega)]
    · have e1 : (⟨#[32]⟩ : ByteArray).size = 1 := rfl
      refine Ev.if_pos (by rw [e1]; unfold M at hsz; omega) ?_
      rw [write_str acc _ (by rw [ByteArray.size_append, ByteArray.size_append, e1]; omega)]
      refine Ev.bind (Ev.now _) ?_
      exact ih (a ++ [x]) _ (by rw [hx, snoc_at]) he2 hs
theorem write_l1 (xs : List En) (n i : Int) (t : List (List Rt)) (R : ByteArray × Int) (ht : t.length ≤ 1099511627776) (hv : ∀ r ∈ t, r.length ≤ 1000 ∧ ∀ v ∈ r, RtOk v) (acc0 : ByteArray) (hs : acc0.size ≤ M)
    (hend : Ev (fun k => report_Write.l0 k xs n (wrap64 (i + 1)) acc0) R) : ∀ (b a : List (List Rt)) (acc : ByteArray), t = a ++ b → acc ++ rowsT b = acc0 →
    Ev (fun k => report_Write.l1 k xs n i t (t.length : Int) (a.length : Int) acc) R := by
  intro b
  induction b with
  | nil =>
    intro a acc hx he
    rw [rowsT, append_empty] at he
    refine Ev.step (fun k => ?_) hend
    rw [report_Write.l1, if_neg (by rw [hx]; exact nlt_at a), he]
  | cons x b ih =>
    intro a acc hx he
    have hg : gt [] t (a.length : Int) = x := by rw [hx]; exact gt_at _ a x b
    have hl := lt_at a x b
    rw [← hx] at hl
    rw [rowsT] at he
    obtain ⟨x1, x2⟩ := hv x (by rw [hx]; exact List.mem_append_right _ List.mem_cons_self)
    have he2 : (acc ++ ((⟨#[114, 111, 119, 32]⟩ : ByteArray) ++ prN x.length)) ++ rowTail x ++ rowsT b = acc0 := by rw [← he]; simp only [ByteArray.append_assoc]
    have e1 : (⟨#[114, 111, 119, 32]⟩ : ByteArray).size = 4 := rfl
    have hsz : acc.size + (4 + (prN x.length).size) + (rowTail x).size + (rowsT b).size ≤ M := by
      rw [← he2] at hs
      simp only [ByteArray.size_append, e1] at hs
      exact hs
    have h1 := ih (a ++ [x]) _ (by rw [hx, snoc_at]) he2
    rw [← wr_at a x (by omega)] at h1
    have h2 := write_l2 xs n i t (t.length : Int) (a.length : Int) R x (by omega) x2 _ h1 x [] _ rfl rfl (by rw [ByteArray.size_append, ByteArray.size_append, ByteArray.size_append, e1]; omega)
    refine Ev.step (f := fun k => (report_digits.f k (x.length : Int)).bind fun v6 => (if (⟨#[114, 111, 119, 32]⟩ : ByteArray).size + v6.size ≤ 9223372036854775807 then ((strings_Builder_WriteString.f acc ((⟨#[114, 111, 119, 32]⟩ : ByteArray) ++ v6)).bind fun v8 => (report_Write.l2 k xs n i t (t.length : Int) (a.length : Int) x (x.length : Int) 0 v8)) else none)) (fun k => ?_) (Ev.bind (digits_ev x.length (by omega)) ?_)
    · rw [report_Write.l1, if_pos hl, if_pos (nn0 _), if_pos hl, hg]
    · refine Ev.if_pos (by rw [e1]; unfold M at hsz; omega) ?_
      rw [write_str acc _ (by rw [ByteArray.size_append, ByteArray.size_append, e1]; omega)]
      refine Ev.bind (Ev.now _) ?_
      exact h2
theorem toNat_ofNonneg {z : Int} (h : 0 ≤ z) : ((z.toNat : Nat) : Int) = z := Int.toNat_of_nonneg h
def writeR (acc : ByteArray) (i : Nat) (l : List En) : ByteArray × Int := if okL i l then (acc ++ entsT l, 0) else (.empty, 1)
theorem ent_sizes (acc : ByteArray) (x : En) (rest : ByteArray) (hs : (acc ++ (entT x ++ rest)).size ≤ M) : acc.size + (prN x.1.toNat).size + (prN x.2.1.toNat).size + 8 + rest.size ≤ M ∧
    (x.2.2.1 ≠ 0 → acc.size + (prN x.1.toNat).size + (prN x.2.1.toNat).size + 8 + (prN x.2.2.1.toNat).size + 7 + rest.size ≤ M) ∧
    (¬ x.2.2.1 ≠ 0 → acc.size + (prN x.1.toNat).size + (prN x.2.1.toNat).size + 8 + (prN x.2.2.2.length).size + 7 + (rowsT x.2.2.2).size + rest.size ≤ M) := by
  unfold entT at hs
  simp only [ByteArray.size_append, lit_size, List.size_toArray, List.length_cons, List.length_nil] at hs
  by_cases h : x.2.2.1 ≠ 0
  · rw [if_pos h] at hs
    simp only [ByteArray.size_append, lit_size, List.size_toArray, List.length_cons, List.length_nil] at hs
    exact ⟨by omega, fun _ => by omega, fun h2 => absurd h h2⟩
  · rw [if_neg h] at hs
    simp only [ByteArray.size_append, lit_size, List.size_toArray, List.length_cons, List.length_nil] at hs
    exact ⟨by omega, fun h2 => absurd h2 h, fun _ => by omega⟩
theorem write_l0 (xs : List En) (hn : xs.length ≤ 16384) (hv : ∀ x ∈ xs, EnOk x) : ∀ (b a : List En) (acc : ByteArray), xs = a ++ b → (acc ++ entsT b).size ≤ M → 0 < acc.size →
    Ev (fun k => report_Write.l0 k xs (xs.length : Int) (a.length : Int) acc) (writeR acc a.length b) := by
  intro b
  induction b with
  | nil =>
    intro a acc hx hs h0
    unfold writeR
    rw [if_pos (show okL a.length [] from trivial), entsT, append_empty]
    refine Ev.step (f := fun k => (strings_Builder_String.f acc).bind fun v1 => some (v1.1, 0)) (fun k => by rw [report_Write.l0, if_neg (by rw [hx]; exact nlt_at a)]) ?_
    unfold strings_Builder_String.f
    rw [if_pos h0]
    exact Ev.now _
  | cons x b ih =>
    intro a acc hx hs h0
    have hg : gt (0, 0, 0, []) xs (a.length : Int) = x := by rw [hx]; exact gt_at _ a x b
    have hl := lt_at a x b
    rw [← hx] at hl
    have hal : a.length < 16384 := by omega
    obtain ⟨x1, x2⟩ := hv x (by rw [hx]; exact List.mem_append_right _ List.mem_cons_self)
    have hr := right_ev a.length x (fun r hr => (x2 r hr).1) x1
    rw [entsT] at hs
    obtain ⟨s1, s2, s3⟩ := ent_sizes acc x (entsT b) hs
    refine Ev.step (fun k => by rw [report_Write.l0, if_pos hl, if_pos (nn0 _), if_pos hl, hg]) (Ev.bind hr ?_)
    unfold writeR
    by_cases hok : okE a.length x
    · have hw := wr_at a x (by omega)
      have hid := hok.1
      have t1 : ((x.1.toNat : Nat) : Int) = x.1 := by omega
      have t2 : ((x.2.1.toNat : Nat) : Int) = x.2.1 := toNat_ofNonneg hok.2.1
      have t3 : ((x.2.2.1.toNat : Nat) : Int) = x.2.2.1 := toNat_ofNonneg hok.2.2.2.1
      have d1 := digits_ev x.1.toNat (by omega)
      have d2 := digits_ev x.2.1.toNat (by have := hok.2.2.1; omega)
      have d3 := digits_ev x.2.2.1.toNat (by have := hok.2.2.2.2.1; omega)
      have d4 := digits_ev x.2.2.2.length (by omega)
      rw [t1] at d1
      rw [t2] at d2
      rw [t3] at d3
      have step : ∀ acc1 : ByteArray, acc1 = acc ++ entT x → Ev (fun k => report_Write.l0 k xs (xs.length : Int) (wrap64 ((a.length : Int) + 1)) acc1) (if okL a.length (x :: b) then (acc ++ entsT (x :: b), 0) else (.empty, 1)) := by
        intro acc1 he
        have h1 := ih (a ++ [x]) acc1 (by rw [hx, snoc_at]) (by rw [he, ByteArray.append_assoc]; exact hs) (by rw [he, ByteArray.size_append]; omega)
        rw [hw]
        refine h1.of_eq ?_
        unfold writeR
        rw [List.length_append, List.length_singleton, he, entsT, ByteArray.append_assoc]
        by_cases h2 : okL (a.length + 1) b
        · rw [if_pos h2, if_pos (show okL a.length (x :: b) from ⟨hok, h2⟩)]
        · rw [if_neg h2, if_neg (fun h3 => h2 h3.2)]
      refine Ev.if_pos (decide_eq_true hok) (Ev.bind d1 ?_)
      refine Ev.if_pos ?_ (Ev.if_pos ?_ (Ev.bind d2 (Ev.if_pos ?_ (Ev.if_pos ?_ ?_))))
      · simp only [ByteArray.size_append, lit_size, List.size_toArray, List.length_cons, List.length_nil]; unfold M at s1; omega
      · simp only [ByteArray.size_append, lit_size, List.size_toArray, List.length_cons, List.length_nil]; unfold M at s1; omega
      · simp only [ByteArray.size_append, lit_size, List.size_toArray, List.length_cons, List.length_nil]; unfold M at s1; omega
      · simp only [ByteArray.size_append, lit_size, List.size_toArray, List.length_cons, List.length_nil]; unfold M at s1; omega
      · rw [write_str acc _ (by simp only [ByteArray.size_append, lit_size, List.size_toArray, List.length_cons, List.length_nil]; omega)]
        refine Ev.bind (Ev.now _) ?_
        by_cases he : x.2.2.1 ≠ 0
        · have s := s2 he
          refine Ev.if_pos he (Ev.bind d3 (Ev.if_pos ?_ (Ev.if_pos ?_ ?_)))
          · simp only [ByteArray.size_append, lit_size, List.size_toArray, List.length_cons, List.length_nil]; unfold M at s; omega
          · simp only [ByteArray.size_append, lit_size, List.size_toArray, List.length_cons, List.length_nil]; unfold M at s; omega
          · rw [write_str _ _ (by simp only [ByteArray.size_append, lit_size, List.size_toArray, List.length_cons, List.length_nil]; omega)]
            refine Ev.bind (Ev.now _) (step _ ?_)
            unfold entT
            rw [if_pos he]
            simp only [ByteArray.append_assoc]
        · have s := s3 he
          refine Ev.if_neg he (Ev.bind d4 (Ev.if_pos ?_ (Ev.if_pos ?_ ?_)))
          · simp only [ByteArray.size_append, lit_size, List.size_toArray, List.length_cons, List.length_nil]; unfold M at s; omega
          · simp only [ByteArray.size_append, lit_size, List.size_toArray, List.length_cons, List.length_nil]; unfold M at s; omega
          · rw [write_str _ _ (by simp only [ByteArray.size_append, lit_size, List.size_toArray, List.length_cons, List.length_nil]; omega)]
            refine Ev.bind (Ev.now _) ?_
            refine write_l1 xs _ _ x.2.2.2 _ x1 x2 _ ?_ (step _ rfl) x.2.2.2 [] _ rfl ?_
            · rw [← ByteArray.append_assoc, ByteArray.size_append] at hs; omega
            · unfold entT
              rw [if_neg he]
              simp only [ByteArray.append_assoc]
    · rw [if_neg (fun h => hok h.1)]
      exact Ev.if_neg (by simp [hok]) (Ev.now _)
theorem write_ev (xs : List En) (hn : xs.length ≤ 16384) (hv : ∀ x ∈ xs, EnOk x) (hs : (headT xs.length ++ entsT xs).size ≤ M) : Ev (fun k => report_Write.f k xs) (writeR (headT xs.length) 0 xs) := by
  have hh : (headT xs.length).size = 8 + (prN xs.length).size := by
    unfold headT
    simp only [ByteArray.size_append, lit_size, List.size_toArray, List.length_cons, List.length_nil]
    omega
  have hs2 := hs
  rw [ByteArray.size_append, hh] at hs2
  have h1 := write_l0 xs hn hv xs [] (headT xs.length) rfl hs (by omega)
  refine Ev.if_neg (by omega) (Ev.bind (digits_ev xs.length (by omega)) (Ev.if_pos ?_ (Ev.if_pos ?_ ?_)))
  · simp only [ByteArray.size_append, lit_size, List.size_toArray, List.length_cons, List.length_nil]; unfold M at hs2; omega
  · simp only [ByteArray.size_append, lit_size, List.size_toArray, List.length_cons, List.length_nil]; unfold M at hs2; omega
  · rw [write_str _ _ (by simp only [ByteArray.size_append, lit_size, List.size_toArray, List.length_cons, List.length_nil, empty_size]; omega)]
    refine Ev.bind (Ev.now _) (Ev.congr (fun k => ?_) h1)
    have e : ByteArray.empty ++ ((⟨#[114, 101, 112, 111, 114, 116, 32]⟩ : ByteArray) ++ prN xs.length ++ ⟨#[10]⟩) = headT xs.length := by
      unfold headT
      rw [ByteArray.empty_append, ByteArray.append_assoc]
    rw [e]
    rfl
end Go.DI.Th
namespace Go.DI.Th
open Go Go.RowKit Go.DI

theorem rowTail_size : ∀ (l : List Rt), (∀ r ∈ l, r.2.1.length ≤ 3 ∧ r.2.2.length ≤ 3) → (rowTail l).size ≤ 1 + 230 * l.length
  | [], _ => by
    rw [rowTail]
    have : (⟨#[10]⟩ : ByteArray).size = 1 := rfl
    omega
  | r :: l, h => by
    have h1 := rowTail_size l fun x hx => h x (List.mem_cons_of_mem _ hx)
    obtain ⟨h2, h3⟩ := h r List.mem_cons_self
    have h4 := prR_size r.1 r.2.1 r.2.2
    have e : (⟨#[32]⟩ : ByteArray).size = 1 := rfl
    rw [rowTail, ByteArray.size_append, ByteArray.size_append, e, List.length_cons]
    unfold prT
    omega
theorem rowsT_size : ∀ (l : List (List Rt)), (∀ r ∈ l, r.length ≤ 12 ∧ ∀ x ∈ r, x.2.1.length ≤ 3 ∧ x.2.2.length ≤ 3) → (rowsT l).size ≤ 3000 * l.length
  | [], _ => by rw [rowsT]; exact Nat.zero_le _
  | r :: l, h => by
    have h1 := rowsT_size l fun x hx => h x (List.mem_cons_of_mem _ hx)
    obtain ⟨h2, h3⟩ := h r List.mem_cons_self
    have h4 := rowTail_size r h3
    have h5 := prN_small (n := r.length) (by omega)
    have e : (⟨#[114, 111, 119, 32]⟩ : ByteArray).size = 4 := rfl
    rw [rowsT, ByteArray.size_append, ByteArray.size_append, ByteArray.size_append, e, List.length_cons]
    omega
def few3 (x : En) : Prop := x.2.2.2.length ≤ 70 ∧ ∀ r ∈ x.2.2.2, r.length ≤ 12 ∧ ∀ v ∈ r, v.2.1.length ≤ 3 ∧ v.2.2.length ≤ 3
theorem entT_size (x : En) (h : few3 x) (hi : -9223372036854775808 ≤ x.1 ∧ x.1 ≤ 9223372036854775807) (hk : -9223372036854775808 ≤ x.2.1 ∧ x.2.1 ≤ 9223372036854775807) (he : -9223372036854775808 ≤ x.2.2.1 ∧ x.2.2.1 ≤ 9223372036854775807) : (entT x).size ≤ 300000 := by
  have h1 := prN_small (n := x.1.toNat) (by omega)
  have h2 := prN_small (n := x.2.1.toNat) (by omega)
  have h3 := prN_small (n := x.2.2.1.toNat) (by omega)
  have hlen := h.1
  have h4 := prN_small (n := x.2.2.2.length) (by omega)
  have h5 := rowsT_size x.2.2.2 h.2
  unfold entT
  simp only [ByteArray.size_append, lit_size, List.size_toArray, List.length_cons, List.length_nil]
  split <;> simp only [ByteArray.size_append, lit_size, List.size_toArray, List.length_cons, List.length_nil] <;> omega
theorem entsT_size : ∀ (l : List En), (∀ x ∈ l, (entT x).size ≤ 300000) → (entsT l).size ≤ 300000 * l.length
  | [], _ => by rw [entsT]; exact Nat.zero_le _
  | x :: l, h => by
    have h1 := entsT_size l fun y hy => h y (List.mem_cons_of_mem _ hy)
    have h2 := h x List.mem_cons_self
    rw [entsT, ByteArray.size_append, List.length_cons]
    omega
def I64 (z : Int) : Prop := -9223372036854775808 ≤ z ∧ z ≤ 9223372036854775807
def EnW (x : En) : Prop := I64 x.1 ∧ I64 x.2.1 ∧ I64 x.2.2.1 ∧ ∀ r ∈ x.2.2.2, ∀ v ∈ r, U v.2.1 ∧ U v.2.2
theorem U.take {l : List Int} (h : U l) (n : Nat) : U (l.take n) := fun x hx => h x (List.mem_of_mem_take hx)
theorem ent3_ok (x : En) (h : EnW x) : few3 (ent3 x) ∧ EnOk (ent3 x) ∧ (entT (ent3 x)).size ≤ 300000 := by
  have hr : ∀ r ∈ (ent3 x).2.2.2, r.length ≤ 12 ∧ ∀ v ∈ r, RtOk v ∧ v.2.1.length ≤ 3 ∧ v.2.2.length ≤ 3 := by
    intro r hr
    obtain ⟨r0, h0, rfl⟩ := List.mem_map.1 hr
    have h0' := List.mem_of_mem_take h0
    refine ⟨by unfold row3; rw [List.length_map, List.length_take]; omega, fun v hv => ?_⟩
    obtain ⟨v0, h1, rfl⟩ := List.mem_map.1 hv
    obtain ⟨u1, u2⟩ := h.2.2.2 r0 h0' v0 (List.mem_of_mem_take h1)
    have l1 : (v0.2.1.take 3).length ≤ 3 := by rw [List.length_take]; omega
    have l2 : (v0.2.2.take 3).length ≤ 3 := by rw [List.length_take]; omega
    exact ⟨⟨u1.take 3, u2.take 3, Nat.le_trans l1 (by decide), Nat.le_trans l2 (by decide)⟩, l1, l2⟩
  have hl : (ent3 x).2.2.2.length ≤ 70 := by
    show ((x.2.2.2.take 70).map row3).length ≤ 70
    rw [List.length_map, List.length_take]; omega
  have hf : few3 (ent3 x) := ⟨hl, fun r h1 => ⟨(hr r h1).1, fun v hv => ((hr r h1).2 v hv).2⟩⟩
  exact ⟨hf, ⟨Nat.le_trans hl (by decide), fun r h1 => ⟨Nat.le_trans (hr r h1).1 (by decide), fun v hv => ((hr r h1).2 v hv).1⟩⟩, entT_size _ hf h.1 h.2.1 h.2.2.1⟩
theorem few29_ok (l : List En) (h : ∀ x ∈ l, EnW x) : (few29 l).length ≤ 8 ∧ (∀ x ∈ few29 l, EnOk x) ∧ (headT (few29 l).length ++ entsT (few29 l)).size ≤ M := by
  have hl : (few29 l).length ≤ 8 := by unfold few29; rw [List.length_map, List.length_take]; omega
  have hx : ∀ x ∈ few29 l, EnOk x ∧ (entT x).size ≤ 300000 := by
    intro x hx
    obtain ⟨x0, h0, rfl⟩ := List.mem_map.1 hx
    exact (ent3_ok x0 (h x0 (List.mem_of_mem_take h0))).2
  refine ⟨hl, fun x hm => (hx x hm).1, ?_⟩
  have h1 := entsT_size (few29 l) fun x hm => (hx x hm).2
  have h2 := prN_small (n := (few29 l).length) (by omega)
  unfold headT M
  simp only [ByteArray.size_append, lit_size, List.size_toArray, List.length_cons, List.length_nil]
  omega
theorem prN_digit (n : Nat) (h : n < 10) : prN n = ofBytes [48 + (n : Int)] := by unfold prN; rw [dec_small h]
theorem ex_prT : prT (rl 1 2) = ⟨#[49, 47, 50]⟩ := by
  unfold prT prR
  obtain ⟨e1, e2⟩ := num_rl 1 2 (by decide)
  rw [e1, e2, show rnum 1 2 = 1 by decide +kernel, show rden 1 2 = 2 by decide +kernel]
  unfold rl wv prQ prW
  rw [val_lm]
  have g : Nat.gcd (Int.natAbs 1) 2 = 1 := by decide
  rw [g, show Int.natAbs 1 / 1 = 1 from rfl, show 2 / 1 = 2 from rfl, if_neg (by decide), if_neg (by decide), if_neg (by decide), show Int.natAbs ((1 : Nat) : Int) = 1 from rfl, prN_digit 1 (by decide), prN_digit 2 (by decide)]
  decide +kernel
theorem awake29_ev : Ev (fun k => dendronlaw29_awake.f k) true := by
  have h1 := frac_ev 1 2 (by omega) (by omega)
  rw [if_neg (by decide), show over 1 2 = 1 from rfl] at h1
  have h1' : Ev (fun k => ratio_Frac.f k 1 2) (rl 1 2) := h1
  let xs : List En := [(0, 2, 0, [[rl 1 2]])]
  have hu := rl_ok 1 2
  have hl := rl_lens 1 2
  have l1 : len (Int.natAbs 1) ≤ 2 := len_small (by decide)
  have l2 : len 2 ≤ 2 := len_small (by decide)
  have hv : ∀ x ∈ xs, EnOk x := by
    intro x hx
    rw [List.mem_singleton] at hx
    subst hx
    refine ⟨by decide, fun r hr => ?_⟩
    have hr : r ∈ [[rl 1 2]] := hr
    rw [List.mem_singleton] at hr
    subst hr
    refine ⟨by simp, fun v hv => ?_⟩
    rw [List.mem_singleton] at hv
    subst hv
    exact ⟨hu.1, hu.2, by omega, by omega⟩
  have ht : headT xs.length ++ entsT xs = cst_0edf54b5 := by
    show headT 1 ++ (entT (0, 2, 0, [[rl 1 2]]) ++ ByteArray.empty) = cst_0edf54b5
    unfold headT entT rowsT rowTail rowTail rowsT
    dsimp only
    rw [ex_prT, if_neg (by decide)]
    show _ ++ (prN 1 ++ _) ++ (_ ++ (prN 0 ++ (_ ++ (prN 2 ++ (_ ++ (_ ++ (prN 1 ++ (_ ++ (_ ++ (prN 1 ++ _))))))))) ++ _) = _
    rw [prN_digit 0 (by decide), prN_digit 1 (by decide), prN_digit 2 (by decide)]
    decide +kernel
  have hok : okL 0 xs := ⟨⟨rfl, by decide, by decide, by decide, by decide, fun h => absurd rfl h, by decide⟩, trivial⟩
  have h2 := write_ev xs (by decide) hv (by rw [ht]; decide +kernel)
  unfold writeR at h2
  rw [if_pos hok, ht] at h2
  exact Ev.bind h1' (Ev.bind h2 (Ev.if_pos rfl (Ev.if_pos rfl (Ev.now _))))
end Go.DI.Th
namespace Go.DI.Th
open Go Go.RowKit Go.DI

def viewR (t : List (List Rt)) : List (List ByteArray) := t.map fun r => r.map prT
theorem rowTail_congr : ∀ (l l' : List Rt), l.map prT = l'.map prT → rowTail l = rowTail l'
  | [], [], _ => rfl
  | [], r :: l, h => by simp at h
  | r :: l, [], h => by simp at h
  | r :: l, s :: l', h => by
    rw [List.map_cons, List.map_cons] at h
    injection h with h1 h2
    unfold rowTail
    rw [h1, rowTail_congr l l' h2]
theorem rowsT_congr : ∀ (t t' : List (List Rt)), viewR t = viewR t' → rowsT t = rowsT t'
  | [], [], _ => rfl
  | [], r :: l, h => by simp [viewR] at h
  | r :: l, [], h => by simp [viewR] at h
  | r :: t, s :: t', h => by
    have h0 : r.map prT :: viewR t = s.map prT :: viewR t' := h
    injection h0 with h1 h2
    unfold rowsT
    have hl : r.length = s.length := by have := congrArg List.length h1; simpa using this
    rw [hl, rowTail_congr r s h1, rowsT_congr t t' h2]
theorem viewR_len {t t' : List (List Rt)} (h : viewR t = viewR t') : t.length = t'.length := by have := congrArg List.length h; simpa [viewR] using this
def viewE (x : En) : Int × Int × Int × List (List ByteArray) := (x.1, x.2.1, x.2.2.1, viewR x.2.2.2)
theorem viewE_iff (x y : En) : viewE x = viewE y ↔ x.1 = y.1 ∧ x.2.1 = y.2.1 ∧ x.2.2.1 = y.2.2.1 ∧ viewR x.2.2.2 = viewR y.2.2.2 := by
  unfold viewE
  simp only [Prod.mk.injEq]
theorem entT_congr (x y : En) (h : viewE x = viewE y) : entT x = entT y := by
  obtain ⟨h1, h2, h3, h4⟩ := (viewE_iff x y).1 h
  unfold entT
  rw [h1, h2, h3, rowsT_congr _ _ h4, viewR_len h4]
theorem entsT_congr : ∀ (l l' : List En), l.map viewE = l'.map viewE → entsT l = entsT l'
  | [], [], _ => rfl
  | [], r :: l, h => by simp at h
  | r :: l, [], h => by simp at h
  | x :: l, y :: l', h => by
    rw [List.map_cons, List.map_cons] at h
    injection h with h1 h2
    unfold entsT
    rw [entT_congr x y h1, entsT_congr l l' h2]
end Go.DI.Th
namespace Go.DI.Th
open Go Go.RowKit Go.DI

theorem dlen_num (b : Bool) (n d : List Int) : D.L (num b n d) ≤ 3 * n.length := by
  have h1 := D.len_of_len (val n)
  have h2 := val_len n
  have h3 := D.len_mono (num_abs b n d)
  unfold D.L
  omega
theorem dlen_den (d : List Int) : D.len (den d) ≤ 3 * d.length + 1 := by
  unfold den
  split
  · exact Nat.le_trans (D.len_le (k := 1) (by decide)) (by omega)
  · have h1 := D.len_of_len (val d)
    have h2 := val_len d
    omega
def numT (r : Rt) : Int := num r.1 r.2.1 r.2.2
def denT (r : Rt) : Nat := den r.2.2
theorem from_rt (r : Rt) (h : RtOk r) : Ev (fun k => dendronref03_From.f k r.1 r.2.1 r.2.2) (D.fl (numT r) (denT r)) :=
  D.ffrom_ev r.1 r.2.1 r.2.2 h.1 h.2.1 (Nat.le_trans h.2.2.1 (by decide)) (Nat.le_trans h.2.2.2 (by decide))
theorem order_rt (r s : Rt) (h : RtOk r) (h' : RtOk s) : Ev (fun k => dendronref03_Order.f k (D.fl (numT r) (denT r)).1 (D.fl (numT r) (denT r)).2.1 (D.fl (numT r) (denT r)).2.2 (D.fl (numT s) (denT s)).1 (D.fl (numT s) (denT s)).2.1 (D.fl (numT s) (denT s)).2.2) (D.cmpI (numT r * denT s) (numT s * denT r)) := by
  have a1 := dlen_num r.1 r.2.1 r.2.2
  have a2 := dlen_num s.1 s.2.1 s.2.2
  have a3 := dlen_den r.2.2
  have a4 := dlen_den s.2.2
  obtain ⟨_, _, b1, b2⟩ := h
  obtain ⟨_, _, b3, b4⟩ := h'
  exact D.forder_ev _ _ _ _ (by unfold numT denT; omega) (by unfold numT denT; omega)
theorem cmp_ne (r s : Rt) : D.cmpI (numT r * denT s) (numT s * denT r) ≠ 0 ↔ prT r ≠ prT s := by
  rw [Ne, Ne, prT_iff]
  unfold D.cmpI numT denT
  generalize num r.1 r.2.1 r.2.2 * (den s.2.2 : Int) = x
  generalize num s.1 s.2.1 s.2.2 * (den r.2.2 : Int) = y
  by_cases h1 : x < y
  · rw [if_pos h1]; exact ⟨fun _ => by omega, fun _ => by decide⟩
  · rw [if_neg h1]
    by_cases h2 : y < x
    · rw [if_pos h2]; exact ⟨fun _ => by omega, fun _ => by decide⟩
    · rw [if_neg h2]; exact ⟨fun h => absurd rfl h, fun h => absurd (by omega) h⟩
theorem same_l1_step (k : Nat) (a0 a1 a2 : Int) (ta : List (List Rt)) (row : List Rt) (tb : List (List Rt)) (c0 c1 c2 : Int) (sa : List (List Rt)) (row' : List Rt) (sb : List (List Rt)) (hsa : sa.length = ta.length)
    (r s : Rt) (a b a' b' : List Rt) (hr : row = a ++ r :: b) (hs : row' = a' ++ s :: b') (hl : a.length = a'.length) (hn : a.length ≤ 1099511627776) :
    dendronref29_Same.l1 (k + 1) (ta.length : Int) (a.length : Int) a0 a1 a2 (ta ++ row :: tb) c0 c1 c2 (sa ++ row' :: sb) = (dendronref03_From.f k r.1 r.2.1 r.2.2).bind fun v16 => ((dendronref03_From.f k s.1 s.2.1 s.2.2).bind fun v25 => ((dendronref03_Order.f k v16.1 v16.2.1 v16.2.2 v25.1 v25.2.1 v25.2.2).bind fun v26 => (if v26 ≠ 0 then (some false) else (dendronref29_Same.l1 k (ta.length : Int) ((a ++ [r]).length : Int) a0 a1 a2 (ta ++ row :: tb) c0 c1 c2 (sa ++ row' :: sb))))) := by
  have e1 := gt_at [] ta row tb
  have e2 := gt_at [] sa row' sb
  rw [hsa] at e2
  have e3 := gt_at (false, [], []) a r b
  rw [← hr] at e3
  have e4 := gt_at (false, [], []) a' s b'
  rw [← hs, ← hl] at e4
  have e5 := wr_at a r (Nat.le_trans hn (by decide))
  have l1 := lt_at ta row tb
  have l2 := lt_at sa row' sb
  rw [hsa] at l2
  have l3 := lt_at a r b
  rw [← hr] at l3
  have l4 := lt_at a' s b'
  rw [← hs, ← hl] at l4
  rw [dendronref29_Same.l1, e1, e2, e3, e4, e5, if_pos (nn0 _), if_pos l1, if_pos l3, if_pos (nn0 _)]
  congr 1
  funext v16
  rw [if_pos l2, if_pos l4]
theorem same_l1 (a0 a1 a2 : Int) (ta : List (List Rt)) (row : List Rt) (tb : List (List Rt)) (c0 c1 c2 : Int) (sa : List (List Rt)) (row' : List Rt) (sb : List (List Rt)) (hsa : sa.length = ta.length) (hta : ta.length ≤ 1099511627776)
    (hrow : row.length ≤ 1099511627776) (hv : ∀ v ∈ row, RtOk v) (hv' : ∀ v ∈ row', RtOk v) (Q : Prop) [Decidable Q]
    (hend : Ev (fun k => dendronref29_Same.l0 k ((ta ++ [row]).length : Int) a0 a1 a2 (ta ++ row :: tb) c0 c1 c2 (sa ++ row' :: sb)) (decide Q)) :
    ∀ (b a b' a' : List Rt), row = a ++ b → row' = a' ++ b' → a.length = a'.length → b.length = b'.length →
    Ev (fun k => dendronref29_Same.l1 k (ta.length : Int) (a.length : Int) a0 a1 a2 (ta ++ row :: tb) c0 c1 c2 (sa ++ row' :: sb)) (decide (b.map prT = b'.map prT ∧ Q)) := by
  intro b
  induction b with
  | nil =>
    intro a b' a' hr hs hl hbl
    have hb' := List.eq_nil_of_length_eq_zero hbl.symm
    subst hb'
    refine Ev.step (f := fun k => dendronref29_Same.l0 k ((ta ++ [row]).length : Int) a0 a1 a2 (ta ++ row :: tb) c0 c1 c2 (sa ++ row' :: sb)) (fun k => ?_) (hend.of_eq ?_)
    · have e1 := gt_at [] ta row tb
      have e3 : ¬ (a.length : Int) < (row.length : Int) := by rw [hr]; exact nlt_at a
      rw [dendronref29_Same.l1, e1, if_pos (nn0 _), if_pos (lt_at ta row tb), if_neg e3, wr_at ta row (Nat.le_trans hta (by decide))]
    · simp
  | cons r b ih =>
    intro a b' a' hr hs hl hbl
    cases b' with
    | nil => simp at hbl
    | cons s b' =>
      have hn : a.length ≤ 1099511627776 := by
        have : row.length = a.length + (b.length + 1) := by rw [hr, List.length_append, List.length_cons]
        omega
      have hrk := hv r (by rw [hr]; simp)
      have hsk := hv' s (by rw [hs]; simp)
      refine Ev.step (fun k => same_l1_step k a0 a1 a2 ta row tb c0 c1 c2 sa row' sb hsa r s a b a' b' hr hs hl hn) (Ev.bind (from_rt r hrk) (Ev.bind (from_rt s hsk) (Ev.bind (order_rt r s hrk hsk) ?_)))
      have hc := cmp_ne r s
      by_cases hp : prT r = prT s
      · refine Ev.if_neg (fun h => hc.1 h hp) ((ih (a ++ [r]) b' (a' ++ [s]) (by rw [hr]; simp) (by rw [hs]; simp) (by simp [hl]) (by simpa using hbl)).of_eq ?_)
        simp [hp]
      · refine Ev.if_pos (hc.2 hp) ((Ev.now false).of_eq ?_)
        symm
        rw [decide_eq_false_iff_not]
        intro h
        have h1 := h.1
        rw [List.map_cons, List.map_cons] at h1
        injection h1 with h2 h3
        exact hp h2
theorem same_l0 (a0 a1 a2 : Int) (t t' : List (List Rt)) (c0 c1 c2 : Int) (ht : t.length ≤ 1099511627776) (hv : ∀ r ∈ t, r.length ≤ 1000 ∧ ∀ v ∈ r, RtOk v) (hv' : ∀ r ∈ t', r.length ≤ 1000 ∧ ∀ v ∈ r, RtOk v) :
    ∀ (b a b' a' : List (List Rt)), t = a ++ b → t' = a' ++ b' → a.length = a'.length → b.length = b'.length →
    Ev (fun k => dendronref29_Same.l0 k (a.length : Int) a0 a1 a2 t c0 c1 c2 t') (decide (viewR b = viewR b')) := by
  intro b
  induction b with
  | nil =>
    intro a b' a' hr hs hl hbl
    have hb' := List.eq_nil_of_length_eq_zero hbl.symm
    subst hb'
    refine Ev.step (f := fun _ => some true) (fun k => ?_) ((Ev.now true).of_eq (by simp))
    rw [dendronref29_Same.l0, if_neg (by rw [hr]; exact nlt_at a)]
  | cons r b ih =>
    intro a b' a' hr hs hl hbl
    cases b' with
    | nil => simp at hbl
    | cons s b' =>
      have hn : a.length ≤ 1099511627776 := by
        have : t.length = a.length + (b.length + 1) := by rw [hr, List.length_append, List.length_cons]
        omega
      have hrk := hv r (by rw [hr]; simp)
      have hsk := hv' s (by rw [hs]; simp)
      have hih := ih (a ++ [r]) b' (a' ++ [s]) (by rw [hr]; simp) (by rw [hs]; simp) (by simp [hl]) (by simpa using hbl)
      subst hr
      subst hs
      have e1 := gt_at [] a r b
      have e2 := gt_at [] a' s b'
      have l2 := lt_at a' s b'
      rw [← hl] at e2 l2
      refine Ev.step (f := fun k => if (r.length : Int) ≠ (s.length : Int) then (some false) else (dendronref29_Same.l1 k (a.length : Int) 0 a0 a1 a2 (a ++ r :: b) c0 c1 c2 (a' ++ s :: b'))) (fun k => ?_) ?_
      · rw [dendronref29_Same.l0, e1, e2, if_pos (lt_at a r b), if_pos (nn0 _), if_pos l2]
      · by_cases hrs : r.length = s.length
        · refine Ev.if_neg (fun h => h (by omega)) ?_
          have h1 := same_l1 a0 a1 a2 a r b c0 c1 c2 a' s b' hl.symm hn (Nat.le_trans hrk.1 (by decide)) hrk.2 hsk.2 _ hih r [] s [] rfl rfl rfl hrs
          refine h1.of_eq ?_
          have e : viewR (r :: b) = viewR (s :: b') ↔ (r.map prT = s.map prT ∧ viewR b = viewR b') := by
            show (r.map prT :: viewR b = s.map prT :: viewR b') ↔ _
            rw [List.cons.injEq]
          exact decide_eq_decide.2 e.symm
        · refine Ev.if_pos (fun h => hrs (by omega)) ((Ev.now false).of_eq ?_)
          symm
          rw [decide_eq_false_iff_not]
          intro h
          have h0 : r.map prT :: viewR b = s.map prT :: viewR b' := h
          injection h0 with h1 h2
          have := congrArg List.length h1
          simp at this
          exact hrs this
theorem rsame_ev (x y : En) (hx : EnOk x) (hy : EnOk y) : Ev (fun k => dendronref29_Same.f k x.1 x.2.1 x.2.2.1 x.2.2.2 y.1 y.2.1 y.2.2.1 y.2.2.2) (decide (viewE x = viewE y)) := by
  unfold dendronref29_Same.f
  refine Ev.guard (fun h e => h ((viewE_iff x y).1 e).1) fun h1 => ?_
  refine Ev.guard (fun h e => h ((viewE_iff x y).1 e).2.1) fun h2 => ?_
  refine Ev.guard (fun h e => h ((viewE_iff x y).1 e).2.2.1) fun h3 => ?_
  refine Ev.guard (fun h e => h (by rw [viewR_len ((viewE_iff x y).1 e).2.2.2])) fun h4 => ?_
  have h := same_l0 x.1 x.2.1 x.2.2.1 x.2.2.2 y.2.2.2 y.1 y.2.1 y.2.2.1 hx.1 hx.2 hy.2 x.2.2.2 [] y.2.2.2 [] rfl rfl rfl (by omega)
  refine h.of_eq ?_
  rw [decide_eq_decide, viewE_iff]
  exact ⟨fun h => ⟨by omega, by omega, by omega, h⟩, fun h => h.2.2.2⟩
theorem all_l0 (xs ys : List En) (hn : xs.length ≤ 16384) (hx : ∀ x ∈ xs, EnOk x) (hy : ∀ x ∈ ys, EnOk x) : ∀ (b a b' a' : List En), xs = a ++ b → ys = a' ++ b' → a.length = a'.length → b.length = b'.length →
    Ev (fun k => dendronref29_All.l0 k xs ys (a.length : Int)) (decide (b.map viewE = b'.map viewE)) := by
  intro b
  induction b with
  | nil =>
    intro a b' a' hr hs hl hbl
    have hb' := List.eq_nil_of_length_eq_zero hbl.symm
    subst hb'
    refine Ev.step (f := fun _ => some true) (fun k => ?_) ((Ev.now true).of_eq (by simp))
    rw [dendronref29_All.l0, if_neg (by rw [hr]; exact nlt_at a)]
  | cons x b ih =>
    intro a b' a' hr hs hl hbl
    cases b' with
    | nil => simp at hbl
    | cons y b' =>
      have hna : a.length ≤ 16384 := by
        have : xs.length = a.length + (b.length + 1) := by rw [hr, List.length_append, List.length_cons]
        omega
      have hxk := hx x (by rw [hr]; simp)
      have hyk := hy y (by rw [hs]; simp)
      have hih := ih (a ++ [x]) b' (a' ++ [y]) (by rw [hr]; simp) (by rw [hs]; simp) (by simp [hl]) (by simpa using hbl)
      subst hr
      subst hs
      have e1 := gt_at ((0, 0, 0, []) : En) a x b
      have e2 := gt_at ((0, 0, 0, []) : En) a' y b'
      have l2 := lt_at a' y b'
      rw [← hl] at e2 l2
      refine Ev.step (f := fun k => (dendronref29_Same.f k x.1 x.2.1 x.2.2.1 x.2.2.2 y.1 y.2.1 y.2.2.1 y.2.2.2).bind fun v12 => (if v12 = true then (dendronref29_All.l0 k (a ++ x :: b) (a' ++ y :: b') ((a ++ [x]).length : Int)) else (some false))) (fun k => ?_) (Ev.bind (rsame_ev x y hxk hyk) ?_)
      · rw [dendronref29_All.l0, e1, e2, if_pos (lt_at a x b), if_pos (nn0 _), if_pos l2, wr_at a x (Nat.le_trans hna (by decide))]
      · by_cases hv : viewE x = viewE y
        · refine Ev.if_pos (decide_eq_true hv) (hih.of_eq ?_)
          rw [decide_eq_decide, List.map_cons, List.map_cons, List.cons.injEq]
          exact ⟨fun h => ⟨hv, h⟩, fun h => h.2⟩
        · refine Ev.if_neg (by simp [hv]) ((Ev.now false).of_eq ?_)
          symm
          rw [decide_eq_false_iff_not, List.map_cons, List.map_cons, List.cons.injEq]
          exact fun h => hv h.1
theorem all_ev (xs ys : List En) (hn : xs.length ≤ 16384) (hx : ∀ x ∈ xs, EnOk x) (hy : ∀ x ∈ ys, EnOk x) : Ev (fun k => dendronref29_All.f k xs ys) (decide (xs.map viewE = ys.map viewE)) := by
  unfold dendronref29_All.f
  refine Ev.guard (fun h e => h (by have := congrArg List.length e; simp at this; omega)) fun h1 => ?_
  exact all_l0 xs ys hn hx hy xs [] ys [] rfl rfl rfl (by omega)
end Go.DI.Th
namespace Go.DI.Th
open Go Go.RowKit Go.DI

def numE (w : ByteArray) : Int := if prE (toL w) = 0 then (if prT (cn (prV (toL w))) ≠ w then 4 else 0) else prE (toL w)
def numR (s : St) : Rt × St := ((numS s).1, FailS (wordS s).2 (numE (wordS s).1))
theorem numR_err {s : St} (h : s.err ≠ 0) : (numR s).2 = s := by
  unfold numR
  rw [word_err h]
  exact Fail_err h _
theorem numR_good {s : St} (h : s.Good) : (numR s).2.Good := FailS_good (wordS_good h) _
theorem numR_ev (s : St) (h : s.Good) : Ev (fun k => report_number.f k s.ls s.i s.j s.sz s.err s.at_) ((numR s).1.1, (numR s).1.2.1, (numR s).1.2.2, (numR s).2.t) := by
  have hok := numS_ok s
  unfold report_number.f numR
  rw [word_eq s h.ok h.l1]
  have h2 := wordS_good h
  have h3 := wordS_size h
  unfold numS at hok ⊢
  generalize wordS s = p at h2 h3 hok ⊢
  obtain ⟨v, s2⟩ := p
  have h2 : s2.Good := h2
  have h3 : v.size ≤ 1048576 := h3
  have hp := rparse_ev v (by omega)
  refine Ev.bind (Ev.now (v, s2.t)) (Ev.bind hp ?_)
  dsimp only at hok ⊢
  unfold numE
  unfold rR
  by_cases he : prE (toL v) = 0
  · rw [if_pos he] at hok
    rw [if_pos he, if_pos he, if_pos he]
    have hpr := prT_ev _ hok
    refine Ev.if_pos rfl (Ev.bind hpr ?_)
    by_cases hw : prT (cn (prV (toL v))) ≠ v
    · refine Ev.if_pos hw ?_
      rw [if_pos hw]
      exact Ev.bind (Ev.congr (fun _ => Fail_eq s2 h2 4) (Ev.now _)) (Ev.now _)
    · refine Ev.if_neg hw ?_
      rw [if_neg hw]
      exact Ev.bind (Ev.congr (fun _ => Fail_eq s2 h2 0) (Ev.now _)) (Ev.now _)
  · rw [if_neg he, if_neg he, if_neg he]
    refine Ev.if_neg he ?_
    exact Ev.bind (Ev.congr (fun _ => Fail_eq s2 h2 _) (Ev.now _)) (Ev.now _)
theorem off_ev (s : St) : Ev (fun _ => report_off.f s.ls s.i s.j s.sz s.err s.at_) ((!(s.err == 0)), s.t) := Ev.now _
def wRow : ByteArray := ⟨#[114, 111, 119]⟩
def wEntry : ByteArray := ⟨#[101, 110, 116, 114, 121]⟩
def wReport : ByteArray := ⟨#[114, 101, 112, 111, 114, 116]⟩
def wPick : List ByteArray := [⟨#[101, 114, 114, 111, 114]⟩, ⟨#[116, 97, 98, 108, 101]⟩]
def numsS : Nat → St → List Rt → List Rt × St
  | 0, s, acc => (acc, s)
  | m + 1, s, acc => numsS m (numR s).2 (acc ++ [(numR s).1])
def rc (s : St) := countS (takeS s wRow) 0 1000
def rowS (s : St) : List Rt × St := ((numsS (rc s).1.toNat (rc s).2 []).1, nextS (numsS (rc s).1.toNat (rc s).2 []).2)
def rowsS : Nat → St → List (List Rt) → List (List Rt) × St
  | 0, s, acc => (acc, s)
  | m + 1, s, acc => rowsS m (rowS s).2 (acc ++ [(rowS s).1])
def e1 (s : St) (i : Int) := countS (takeS s wEntry) i i
def e2 (s : St) (i : Int) := countS (e1 s i).2 0 9
def e3 (s : St) (i : Int) := pickS (e2 s i).2 wPick
def e4 (s : St) (i : Int) := countS (e3 s i).2 1 999
def e5 (s : St) (i : Int) := countS (e3 s i).2 0 64
def entS (s : St) (i : Int) : En × St :=
  if (e3 s i).1 = 0 then (((e1 s i).1, (e2 s i).1, (e4 s i).1, []), nextS (e4 s i).2)
  else (((e1 s i).1, (e2 s i).1, 0, (rowsS (e5 s i).1.toNat (nextS (e5 s i).2) []).1), (rowsS (e5 s i).1.toNat (nextS (e5 s i).2) []).2)
def entsS : Nat → Nat → St → List En → List En × St
  | 0, _, s, acc => (acc, s)
  | m + 1, i, s, acc => entsS m (i + 1) (entS s i).2 (acc ++ [(entS s i).1])
def rhd (x : ByteArray) := countS (takeS (readS x) wReport) 0 16384
theorem nums_err {s : St} (h : s.err ≠ 0) : ∀ (m : Nat) (acc : List Rt), (numsS m s acc).2 = s
  | 0, _ => rfl
  | m + 1, acc => by rw [numsS, numR_err h, nums_err h m]
theorem row_err {s : St} (h : s.err ≠ 0) : (rowS s).2 = s := by
  unfold rowS rc
  rw [take_err h, count_err h]
  show nextS (numsS 0 s []).2 = s
  exact next_err h
theorem rows_err {s : St} (h : s.err ≠ 0) : ∀ (m : Nat) (acc : List (List Rt)), (rowsS m s acc).2 = s
  | 0, _ => rfl
  | m + 1, acc => by rw [rowsS, row_err h, rows_err h m]
theorem ent_err {s : St} (h : s.err ≠ 0) (i : Int) : (entS s i).2 = s := by
  have h1 : (e1 s i).2 = s := by unfold e1; rw [take_err h, count_err h]
  have h2 : (e2 s i).2 = s := by unfold e2; rw [h1, count_err h]
  have h3 : e3 s i = (0, s) := by unfold e3; rw [h2, pick_err h]
  have h4 : (e4 s i).2 = s := by unfold e4; rw [h3]; exact congrArg Prod.snd (count_err h 1 999)
  unfold entS
  rw [h3, if_pos rfl]
  show nextS (e4 s i).2 = s
  rw [h4, next_err h]
theorem ents_err {s : St} (h : s.err ≠ 0) : ∀ (m i : Nat) (acc : List En), (entsS m i s acc).2 = s
  | 0, _, _ => rfl
  | m + 1, i, acc => by rw [entsS, ent_err h, ents_err h m]
theorem nums_good : ∀ (m : Nat) {s : St} (acc : List Rt), s.Good → (numsS m s acc).2.Good
  | 0, _, _, h => h
  | m + 1, s, acc, h => by rw [numsS]; exact nums_good m _ (numR_good h)
theorem rc_good {s : St} (h : s.Good) : (rc s).2.Good := countS_good (takeS_good h _) _ _
theorem row_good {s : St} (h : s.Good) : (rowS s).2.Good := nextS_good (nums_good _ _ (rc_good h))
theorem rows_good : ∀ (m : Nat) {s : St} (acc : List (List Rt)), s.Good → (rowsS m s acc).2.Good
  | 0, _, _, h => h
  | m + 1, s, acc, h => by rw [rowsS]; exact rows_good m _ (row_good h)
theorem e_good {s : St} (h : s.Good) (i : Int) : (e1 s i).2.Good ∧ (e2 s i).2.Good ∧ (e3 s i).2.Good ∧ (e4 s i).2.Good ∧ (e5 s i).2.Good := by
  have h1 : (e1 s i).2.Good := countS_good (takeS_good h _) _ _
  have h2 : (e2 s i).2.Good := countS_good h1 _ _
  have h3 : (e3 s i).2.Good := pickS_good h2 _
  exact ⟨h1, h2, h3, countS_good h3 _ _, countS_good h3 _ _⟩
theorem ent_good {s : St} (h : s.Good) (i : Int) : (entS s i).2.Good := by
  obtain ⟨g1, g2, g3, g4, g5⟩ := e_good h i
  unfold entS
  split
  · exact nextS_good g4
  · exact rows_good _ _ (nextS_good g5)
theorem rhd_good (x : ByteArray) : (rhd x).2.Good := countS_good (takeS_good (readS_good x) _) _ _
def flat (v : En) (T : St) : Int × Int × Int × List (List Rt) × RT := (v.1, v.2.1, v.2.2.1, v.2.2.2, T.t)
theorem ent_l1 (N : Nat) (hN : N ≤ 64) (a b : Int) (m r : Nat) (hr : r < N) (hm : r + 1 + m = N) (acc : List (List Rt)) (ha : acc.length = r)
    (ih0 : ∀ (s : St) (acc' : List (List Rt)), acc'.length = r + 1 → s.Good → ∃ v, Ev (fun k => report_entry.l0 k (N : Int) ((r + 1 : Nat) : Int) s.ls s.i s.j s.sz s.err s.at_ 0 0 0 a b 0 acc') (flat v (rowsS m s acc').2) ∧ ((rowsS m s acc').2.err = 0 → v = (a, b, 0, (rowsS m s acc').1)))
    (C : Nat) (hC : C ≤ 1000) : ∀ (q j : Nat) (s : St) (t : List Rt), j + q = C → t.length = j → s.Good →
    ∃ v, Ev (fun k => report_entry.l1 k t (N : Int) (r : Int) (C : Int) (j : Int) s.ls s.i s.j s.sz s.err s.at_ 0 0 0 a b 0 acc) (flat v (rowsS m (nextS (numsS q s t).2) (acc ++ [(numsS q s t).1])).2) ∧
      ((rowsS m (nextS (numsS q s t).2) (acc ++ [(numsS q s t).1])).2.err = 0 → v = (a, b, 0, (rowsS m (nextS (numsS q s t).2) (acc ++ [(numsS q s t).1])).1)) := by
  intro q
  induction q with
  | zero =>
    intro j s t hj ht h
    obtain ⟨v, h1, h2⟩ := ih0 (nextS s) (acc ++ [t]) (by rw [List.length_append, List.length_singleton, ha]) (nextS_good h)
    refine ⟨v, Ev.succ ?_, h2⟩
    simp only [report_entry.l1, wr_succ r (show r ≤ 1125899906842624 by omega), next_eq s h.ok h.l1]
    exact Ev.if_neg (by omega) (Ev.bind (Ev.now _) (Ev.if_pos (by omega) h1))
  | succ q ih =>
    intro j s t hj ht h
    have hn := numR_ev s h
    have hg := numR_good h
    have ho := off_ev (numR s).2
    by_cases he : (numR s).2.err = 0
    · obtain ⟨v, h1, h2⟩ := ih (j + 1) (numR s).2 (t ++ [(numR s).1]) (by omega) (by rw [List.length_append, List.length_singleton, ht]) hg
      refine ⟨v, Ev.succ ?_, h2⟩
      simp only [report_entry.l1, wr_succ j (show j ≤ 1125899906842624 by omega)]
      refine Ev.if_pos (by omega) (Ev.bind hn (Ev.bind ho ?_))
      refine Ev.if_neg (by simp [he]) (Ev.if_pos (by omega) ?_)
      exact h1
    · have e : (rowsS m (nextS (numsS (q + 1) s t).2) (acc ++ [(numsS (q + 1) s t).1])).2 = (numR s).2 := by
        rw [numsS, nums_err he, next_err he, rows_err he]
      rw [e]
      refine ⟨(0, 0, 0, []), Ev.succ ?_, fun h => absurd h he⟩
      simp only [report_entry.l1, wr_succ j (show j ≤ 1125899906842624 by omega)]
      refine Ev.if_pos (by omega) (Ev.bind hn (Ev.bind ho ?_))
      exact Ev.if_pos (by simpa using he) (Ev.now _)
theorem ent_l0 (N : Nat) (hN : N ≤ 64) (a b : Int) : ∀ (m r : Nat) (s : St) (acc : List (List Rt)), r + m = N → acc.length = r → s.Good →
    ∃ v, Ev (fun k => report_entry.l0 k (N : Int) (r : Int) s.ls s.i s.j s.sz s.err s.at_ 0 0 0 a b 0 acc) (flat v (rowsS m s acc).2) ∧ ((rowsS m s acc).2.err = 0 → v = (a, b, 0, (rowsS m s acc).1)) := by
  intro m
  induction m with
  | zero =>
    intro r s acc hr ha h
    refine ⟨(a, b, 0, acc), Ev.succ ?_, fun _ => rfl⟩
    simp only [report_entry.l0]
    exact Ev.if_neg (by omega) (Ev.now _)
  | succ m ih =>
    intro r s acc hr ha h
    have g1 := takeS_good h wRow
    have g2 := rc_good h
    have c := count_ev _ g1 0 1000
    obtain ⟨r1, r2⟩ := countS_range (takeS s wRow) 0 1000 (by decide) (by decide)
    have hl := ent_l1 N hN a b m r (by omega) (by omega) acc ha (fun s' acc' ha' h' => ih (r + 1) s' acc' (by omega) ha' h') (rc s).1.toNat (by show (countS _ _ _).1.toNat ≤ 1000; omega) (rc s).1.toNat 0 (rc s).2 [] (Nat.zero_add _) rfl g2
    rw [Int.toNat_of_nonneg (show 0 ≤ (rc s).1 from r1)] at hl
    obtain ⟨v, h1, h2⟩ := hl
    refine ⟨v, Ev.succ ?_, h2⟩
    simp only [report_entry.l0, take_eq s _ h.ok h.l1]
    exact Ev.if_pos (by omega) (Ev.bind (Ev.now _) (Ev.bind c h1))
theorem entry_ev (s : St) (h : s.Good) (i : Nat) : ∃ v, Ev (fun k => report_entry.f k s.ls s.i s.j s.sz s.err s.at_ (i : Int)) (flat v (entS s i).2) ∧ ((entS s i).2.err = 0 → v = (entS s i).1) := by
  obtain ⟨g1, g2, g3, g4, g5⟩ := e_good h (i : Int)
  have c1 := count_ev _ (takeS_good h wEntry) (i : Int) (i : Int)
  have c2 := count_ev _ g1 0 9
  have c3 := pick_ev _ g2 wPick (by decide)
  have c4 := count_ev _ g3 1 999
  have c5 := count_ev _ g3 0 64
  unfold report_entry.f entS
  rw [take_eq s _ h.ok h.l1]
  by_cases hp : (e3 s i).1 = 0
  · rw [if_pos hp]
    refine ⟨_, Ev.bind (Ev.now _) (Ev.bind c1 (Ev.bind c2 (Ev.bind c3 (Ev.if_pos hp (Ev.bind c4 ?_))))), fun _ => rfl⟩
    show Ev (fun k => (lex_Reader_Next.f (e4 s i).2.ls (e4 s i).2.i (e4 s i).2.j (e4 s i).2.sz (e4 s i).2.err (e4 s i).2.at_).bind _) _
    rw [next_eq _ g4.ok g4.l1]
    exact Ev.bind (Ev.now _) (Ev.now _)
  · rw [if_neg hp]
    obtain ⟨r1, r2⟩ := countS_range (e3 s i).2 0 64 (by decide) (by decide)
    have hl := ent_l0 (e5 s i).1.toNat (by show (countS _ _ _).1.toNat ≤ 64; omega) (e1 s i).1 (e2 s i).1 (e5 s i).1.toNat 0 (nextS (e5 s i).2) [] (Nat.zero_add _) rfl (nextS_good g5)
    rw [Int.toNat_of_nonneg (show 0 ≤ (e5 s i).1 from r1)] at hl
    obtain ⟨v, h1, h2⟩ := hl
    refine ⟨v, Ev.bind (Ev.now _) (Ev.bind c1 (Ev.bind c2 (Ev.bind c3 (Ev.if_neg hp (Ev.bind c5 ?_))))), h2⟩
    show Ev (fun k => (lex_Reader_Next.f (e5 s i).2.ls (e5 s i).2.i (e5 s i).2.j (e5 s i).2.sz (e5 s i).2.err (e5 s i).2.at_).bind _) _
    rw [next_eq _ g5.ok g5.l1]
    exact Ev.bind (Ev.now _) h1
end Go.DI.Th
namespace Go.DI.Th
open Go Go.RowKit Go.DI

def VG (v : Rt) : Prop := RtB 1048576 v ∧ (prT v).size ≤ 4000 ∧ v = cn (rv v)
theorem VG.ok {v : Rt} (h : VG v) : RtOk v := h.1
def EG (x : En) : Prop := x.2.2.2.length ≤ 64 ∧ ∀ r ∈ x.2.2.2, r.length ≤ 1000 ∧ ∀ v ∈ r, VG v
theorem EG.ok {x : En} (h : EG x) : EnOk x := ⟨Nat.le_trans h.1 (by decide), fun r hr => ⟨(h.2 r hr).1, fun v hv => ((h.2 r hr).2 v hv).ok⟩⟩
theorem rowTail_sizeG : ∀ (l : List Rt), (∀ v ∈ l, VG v) → (rowTail l).size ≤ 1 + 4001 * l.length
  | [], _ => by
    rw [rowTail]
    have : (⟨#[10]⟩ : ByteArray).size = 1 := rfl
    omega
  | r :: l, h => by
    have h1 := rowTail_sizeG l fun x hx => h x (List.mem_cons_of_mem _ hx)
    have h2 := (h r List.mem_cons_self).2.1
    have e : (⟨#[32]⟩ : ByteArray).size = 1 := rfl
    rw [rowTail, ByteArray.size_append, ByteArray.size_append, e, List.length_cons]
    omega
theorem rowsT_sizeG : ∀ (l : List (List Rt)), (∀ r ∈ l, r.length ≤ 1000 ∧ ∀ v ∈ r, VG v) → (rowsT l).size ≤ 4002000 * l.length
  | [], _ => by rw [rowsT]; exact Nat.zero_le _
  | r :: l, h => by
    have h1 := rowsT_sizeG l fun x hx => h x (List.mem_cons_of_mem _ hx)
    obtain ⟨h2, h3⟩ := h r List.mem_cons_self
    have h4 := rowTail_sizeG r h3
    have h5 := prN_small (n := r.length) (by omega)
    have e : (⟨#[114, 111, 119, 32]⟩ : ByteArray).size = 4 := rfl
    rw [rowsT, ByteArray.size_append, ByteArray.size_append, ByteArray.size_append, e, List.length_cons]
    omega
theorem entT_sizeG (i : Nat) (hi : i ≤ 1000000) (x : En) (h : EG x) (ho : okE i x) : (entT x).size ≤ 300000000 := by
  obtain ⟨o1, o2, o3, o4, o5, _, _⟩ := ho
  have h1 := prN_small (n := x.1.toNat) (by omega)
  have h2 := prN_small (n := x.2.1.toNat) (by omega)
  have h3 := prN_small (n := x.2.2.1.toNat) (by omega)
  have hlen := h.1
  have h4 := prN_small (n := x.2.2.2.length) (by omega)
  have h5 := rowsT_sizeG x.2.2.2 h.2
  unfold entT
  simp only [ByteArray.size_append, lit_size, List.size_toArray, List.length_cons, List.length_nil]
  split <;> simp only [ByteArray.size_append, lit_size, List.size_toArray, List.length_cons, List.length_nil] <;> omega
theorem entsT_sizeG : ∀ (l : List En) (i : Nat), i + l.length ≤ 1000000 → (∀ x ∈ l, EG x) → okL i l → (entsT l).size ≤ 300000000 * l.length
  | [], _, _, _, _ => by rw [entsT]; exact Nat.zero_le _
  | x :: l, i, hi, h, ho => by
    rw [List.length_cons] at hi
    have h1 := entsT_sizeG l (i + 1) (by omega) (fun y hy => h y (List.mem_cons_of_mem _ hy)) ho.2
    have h2 := entT_sizeG i (by omega) x (h x List.mem_cons_self) ho.1
    rw [entsT, ByteArray.size_append, List.length_cons]
    omega
theorem rep_size {l : List En} (hl : l.length ≤ 16384) (h : ∀ x ∈ l, EG x) (ho : okL 0 l) : (headT l.length ++ entsT l).size ≤ M := by
  have h1 := entsT_sizeG l 0 (by omega) h ho
  have h2 := prN_small (n := l.length) (by omega)
  unfold headT M
  simp only [ByteArray.size_append, lit_size, List.size_toArray, List.length_cons, List.length_nil]
  omega
theorem end_ev (s : St) (h : s.Good) : Ev (fun _ => lex_Reader_End.f s.ls s.i s.j s.sz s.err s.at_) (endS s).t := Ev.congr (fun _ => end_eq s h.ok h.l1) (Ev.now _)
theorem rfin_ev (x : ByteArray) (T : List En) (s : St) (h : s.Good) (hv : (endS s).err = 0 → T.length ≤ 16384 ∧ okL 0 T ∧ ∀ y ∈ T, EG y) :
    Ev (fun k => (lex_Reader_End.f s.ls s.i s.j s.sz s.err s.at_).bind fun v2 => ((lex_Reader_Err.f v2.1 v2.2.1 v2.2.2.1 v2.2.2.2.1 v2.2.2.2.2.1 v2.2.2.2.2.2).bind fun v4 => (if v4.1 ≠ 0 then (some (([] : List En), v4.1)) else ((report_Write.f k T).bind fun v13 => ((report_same.f x v13.1 v13.2).bind fun v22 => (if v22 ≠ 0 then (some (([] : List En), v22)) else (some (T, 0))))))))
      (if (endS s).err ≠ 0 then ([], (endS s).err) else if headT T.length ++ entsT T = x then (T, 0) else ([], 4)) := by
  refine Ev.bind (end_ev s h) (Ev.bind (Ev.now _) ?_)
  by_cases he : (endS s).err ≠ 0
  · rw [if_pos he]
    exact Ev.if_pos he (Ev.now _)
  · rw [if_neg he]
    obtain ⟨h1, h2, h3⟩ := hv (Decidable.not_not.1 he)
    have hw := write_ev T h1 (fun y hy => (h3 y hy).ok) (rep_size h1 h3 h2)
    unfold writeR at hw
    rw [if_pos h2] at hw
    refine Ev.if_neg he (Ev.bind hw ?_)
    by_cases hx : headT T.length ++ entsT T = x
    · rw [if_pos hx]
      have hs : report_same.f x (headT T.length ++ entsT T) 0 = some 0 := by
        unfold report_same.f
        rw [if_pos rfl, if_neg (fun h => h hx.symm)]
      exact Ev.bind (Ev.congr (fun _ => hs) (Ev.now _)) (Ev.if_neg (fun h => h rfl) (Ev.now _))
    · rw [if_neg hx]
      have hs : report_same.f x (headT T.length ++ entsT T) 0 = some 4 := by
        unfold report_same.f
        rw [if_pos rfl, if_pos (fun h => hx h.symm)]
      exact Ev.bind (Ev.congr (fun _ => hs) (Ev.now _)) (Ev.if_pos (by decide) (Ev.now _))
def finR (x : ByteArray) (p : List En × St) : List En × Int := if (endS p.2).err ≠ 0 then ([], (endS p.2).err) else if headT p.1.length ++ entsT p.1 = x then (p.1, 0) else ([], 4)
theorem rread_l0 (x : ByteArray) (N : Nat) (hN : N ≤ 16384) : ∀ (m i : Nat) (s : St) (acc : List En), i + m = N → acc.length = i → s.Good → ((endS (entsS m i s acc).2).err = 0 → (entsS m i s acc).1.length ≤ 16384 ∧ okL 0 (entsS m i s acc).1 ∧ ∀ y ∈ (entsS m i s acc).1, EG y) →
    Ev (fun k => report_Read.l0 k x acc (N : Int) (i : Int) s.ls s.i s.j s.sz s.err s.at_) (finR x (entsS m i s acc)) := by
  intro m
  induction m with
  | zero =>
    intro i s acc hi ha h hv
    refine Ev.succ ?_
    simp only [report_Read.l0]
    exact Ev.if_neg (by omega) (rfin_ev x acc s h hv)
  | succ m ih =>
    intro i s acc hi ha h hv
    obtain ⟨v, h1, h2⟩ := entry_ev s h i
    have ho := off_ev (entS s i).2
    have hg := ent_good h (i : Int)
    by_cases he : (entS s i).2.err = 0
    · rw [entsS] at hv ⊢
      have hih := ih (i + 1) (entS s i).2 (acc ++ [(entS s i).1]) (by omega) (by rw [List.length_append, List.length_singleton, ha]) hg hv
      rw [h2 he] at h1
      refine Ev.succ ?_
      simp only [report_Read.l0, wr_succ i (show i ≤ 1125899906842624 by omega)]
      exact Ev.if_pos (by omega) (Ev.bind h1 (Ev.bind ho (Ev.if_neg (by simp [he]) (Ev.if_pos (by omega) hih))))
    · have e : (entsS (m + 1) i s acc).2 = (entS s i).2 := by rw [entsS, ents_err he]
      have e2 : finR x (entsS (m + 1) i s acc) = (if (endS (entS s i).2).err ≠ 0 then ([], (endS (entS s i).2).err) else if headT acc.length ++ entsT acc = x then (acc, 0) else ([], 4)) := by
        unfold finR
        rw [e, end_err he, if_pos he, if_pos he]
      rw [e2]
      have hf := rfin_ev x acc (entS s i).2 hg (fun h => by rw [end_err he] at h; exact absurd h he)
      refine Ev.succ ?_
      simp only [report_Read.l0, wr_succ i (show i ≤ 1125899906842624 by omega)]
      exact Ev.if_pos (by omega) (Ev.bind h1 (Ev.bind ho (Ev.if_pos (by simpa using he) hf)))
end Go.DI.Th
namespace Go.DI.Th
open Go Go.RowKit Go.DI

def vc (v : Rt) : Rt := cn (rv v)
theorem prT_vc (v : Rt) : prT (vc v) = prT v := by
  unfold vc
  rw [prT_rv, prT_rv, rv_cn]
def pw (v : Rt) : List UInt8 := toL (prT v)
theorem numR_cur {s : St} {v : Rt} {ws : List (List UInt8)} {rest : List (List (List UInt8))} (h : Cur s (pw v :: ws) rest) (hv : Rd (rv v)) : (numR s).1 = vc v ∧ Cur (numR s).2 ws rest := by
  have e0 : pw v = toL (prX (rv v)) := by unfold pw; rw [prT_rv]
  rw [e0] at h
  obtain ⟨s', e, c⟩ := h.word
  have h1 : (numS s).1 = vc v := (h.num hv).1
  unfold numR
  rw [h1]
  refine ⟨rfl, ?_⟩
  rw [e]
  dsimp only
  have hz : numE (ofL (toL (prX (rv v)))) = 0 := by
    unfold numE
    rw [toL_ofL, if_pos hv.1, hv.2, ofL_toL, prT_rv, rv_cn, if_neg (fun h => h rfl)]
  rw [hz]
  unfold FailS
  rw [if_neg (fun h => h c.err), if_pos rfl]
  exact c
theorem nums_cur : ∀ (t : List Rt) (s : St) (acc : List Rt) (ws : List (List UInt8)) (rest : List (List (List UInt8))), Cur s (t.map pw ++ ws) rest → (∀ v ∈ t, Rd (rv v)) → (numsS t.length s acc).1 = acc ++ t.map vc ∧ Cur (numsS t.length s acc).2 ws rest
  | [], s, acc, ws, rest, h, _ => ⟨(List.append_nil _).symm, h⟩
  | v :: t, s, acc, ws, rest, h, hv => by
    obtain ⟨e1, c1⟩ := numR_cur (h : Cur s (pw v :: (t.map pw ++ ws)) rest) (hv v List.mem_cons_self)
    have hi := nums_cur t (numR s).2 (acc ++ [(numR s).1]) ws rest c1 fun x hx => hv x (List.mem_cons_of_mem _ hx)
    rw [List.length_cons, numsS]
    refine ⟨?_, hi.2⟩
    rw [hi.1, e1]
    simp
def CurX (s : St) (L : List (List (List UInt8))) : Prop := (L = [] ∧ CurE s) ∨ (L ≠ [] ∧ CurL s L)
theorem Cur.nextX {s : St} {L : List (List (List UInt8))} (h : Cur s [] L) : CurX (nextS s) L := by
  cases L with
  | nil => exact .inl ⟨rfl, h.last⟩
  | cons l rest => exact .inr ⟨by simp, CurL.of h.next⟩
theorem CurX.get {s : St} {l : List (List UInt8)} {L : List (List (List UInt8))} (h : CurX s (l :: L)) : Cur s l L := by
  rcases h with ⟨e, _⟩ | ⟨_, h⟩
  · cases e
  · exact h.get
def rowW (r : List Rt) : List (List UInt8) := toL wRow :: toL (prN r.length) :: r.map pw
theorem row_cur {s : St} {r : List Rt} {L : List (List (List UInt8))} (h : CurX s (rowW r :: L)) (hl : r.length ≤ 1000) (hv : ∀ v ∈ r, Rd (rv v)) : (rowS s).1 = r.map vc ∧ CurX (rowS s).2 L := by
  have h1 : Cur (takeS s wRow) (toL (prN r.length) :: r.map pw) L := (h.get).take
  obtain ⟨a1, a2⟩ := h1.count (lo := 0) (hi := 1000) (by omega) (by omega) (by omega)
  have a1' : (rc s).1 = (r.length : Int) := a1
  have a2' : Cur (rc s).2 (r.map pw ++ []) L := by rw [List.append_nil]; exact a2
  obtain ⟨n1, n2⟩ := nums_cur r (rc s).2 [] [] L a2' hv
  unfold rowS
  rw [a1', Int.toNat_natCast]
  exact ⟨by rw [n1, List.nil_append], n2.nextX⟩
theorem rows_cur : ∀ (t : List (List Rt)) (s : St) (acc : List (List Rt)) (L : List (List (List UInt8))), CurX s (t.map rowW ++ L) → (∀ r ∈ t, r.length ≤ 1000 ∧ ∀ v ∈ r, Rd (rv v)) → (rowsS t.length s acc).1 = acc ++ t.map (·.map vc) ∧ CurX (rowsS t.length s acc).2 L
  | [], s, acc, L, h, _ => ⟨(List.append_nil _).symm, h⟩
  | r :: t, s, acc, L, h, hv => by
    obtain ⟨h1, h2⟩ := hv r List.mem_cons_self
    obtain ⟨e1, c1⟩ := row_cur (h : CurX s (rowW r :: (t.map rowW ++ L))) h1 h2
    have hi := rows_cur t (rowS s).2 (acc ++ [(rowS s).1]) L c1 fun x hx => hv x (List.mem_cons_of_mem _ hx)
    rw [List.length_cons, rowsS]
    refine ⟨?_, hi.2⟩
    rw [hi.1, e1]
    simp
def wError : ByteArray := ⟨#[101, 114, 114, 111, 114]⟩
def wTable : ByteArray := ⟨#[116, 97, 98, 108, 101]⟩
def entW (x : En) : List (List (List UInt8)) :=
  if x.2.2.1 ≠ 0 then [[toL wEntry, toL (prN x.1.toNat), toL (prN x.2.1.toNat), toL wError, toL (prN x.2.2.1.toNat)]]
  else [toL wEntry, toL (prN x.1.toNat), toL (prN x.2.1.toNat), toL wTable, toL (prN x.2.2.2.length)] :: x.2.2.2.map rowW
def ec (x : En) : En := (x.1, x.2.1, x.2.2.1, x.2.2.2.map (·.map vc))
def ERd (x : En) : Prop := ∀ r ∈ x.2.2.2, r.length ≤ 1000 ∧ ∀ v ∈ r, Rd (rv v)
theorem ent_cur {s : St} {i : Nat} {x : En} {L : List (List (List UInt8))} (hi : i ≤ 1000000) (h : CurX s (entW x ++ L)) (ho : okE i x) (hr : ERd x) : (entS s i).1 = ec x ∧ CurX (entS s i).2 L := by
  obtain ⟨o1, o2, o3, o4, o5, o6, o7⟩ := ho
  have en : x.1.toNat = i := by omega
  have key : ∀ (w1 w2 : List UInt8) (L' : List (List (List UInt8))), Cur s [toL wEntry, toL (prN x.1.toNat), toL (prN x.2.1.toNat), w1, w2] L' → (e1 s i).1 = x.1 ∧ (e2 s i).1 = x.2.1 ∧ Cur (e2 s i).2 [w1, w2] L' := fun w1 w2 L' hc => by
    have c1 := hc.take
    obtain ⟨a1, a2⟩ := c1.count (lo := (i : Int)) (hi := (i : Int)) (by omega) (by omega) (by omega)
    have a1' : (e1 s i).1 = (x.1.toNat : Int) := a1
    have a2' : Cur (e1 s i).2 (toL (prN x.2.1.toNat) :: [w1, w2]) L' := a2
    obtain ⟨b1, b2⟩ := a2'.count (lo := 0) (hi := 9) (by omega) (by omega) (by omega)
    have b1' : (e2 s i).1 = (x.2.1.toNat : Int) := b1
    exact ⟨by omega, by omega, b2⟩
  unfold entW at h
  by_cases he : x.2.2.1 ≠ 0
  · rw [if_pos he] at h
    obtain ⟨k1, k2, k3⟩ := key _ _ _ (CurX.get h)
    obtain ⟨p1, p2⟩ := Cur.pick0 (a := wError) (b := wTable) k3
    have p1' : (e3 s i).1 = 0 := p1
    have p2' : Cur (e3 s i).2 [toL (prN x.2.2.1.toNat)] L := p2
    obtain ⟨d1, d2⟩ := p2'.count (lo := 1) (hi := 999) (by omega) (by omega) (by omega)
    have d1' : (e4 s i).1 = (x.2.2.1.toNat : Int) := d1
    have d2' : Cur (e4 s i).2 [] L := d2
    unfold entS
    rw [if_pos p1']
    have ht : x.2.2.2 = [] := List.eq_nil_of_length_eq_zero (o6 he)
    refine ⟨?_, d2'.nextX⟩
    unfold ec
    rw [k1, k2, d1', ht, Int.toNat_of_nonneg o4]
    rfl
  · rw [if_neg he] at h
    obtain ⟨k1, k2, k3⟩ := key _ _ _ (CurX.get (h : CurX s (_ :: (x.2.2.2.map rowW ++ L))))
    obtain ⟨p1, p2⟩ := Cur.pick1 (a := wError) (b := wTable) k3 (by decide)
    have p1' : (e3 s i).1 = 1 := p1
    have p2' : Cur (e3 s i).2 [toL (prN x.2.2.2.length)] (x.2.2.2.map rowW ++ L) := p2
    obtain ⟨d1, d2⟩ := p2'.count (lo := 0) (hi := 64) (by omega) (by omega) (by omega)
    have d1' : (e5 s i).1 = (x.2.2.2.length : Int) := d1
    have d2' : Cur (e5 s i).2 [] (x.2.2.2.map rowW ++ L) := d2
    obtain ⟨r1, r2⟩ := rows_cur x.2.2.2 _ [] L d2'.nextX hr
    unfold entS
    rw [if_neg (by rw [p1']; decide), d1', Int.toNat_natCast]
    refine ⟨?_, r2⟩
    unfold ec
    rw [k1, k2, r1, List.nil_append]
    have : x.2.2.1 = 0 := Decidable.not_not.1 he
    rw [this]
theorem ents_cur : ∀ (l : List En) (i : Nat) (s : St) (acc : List En), i + l.length ≤ 1000000 → CurX s (l.flatMap entW) → okL i l → (∀ x ∈ l, ERd x) → (entsS l.length i s acc).1 = acc ++ l.map ec ∧ CurX (entsS l.length i s acc).2 []
  | [], i, s, acc, _, h, _, _ => ⟨(List.append_nil _).symm, h⟩
  | x :: l, i, s, acc, hi, h, ho, hr => by
    rw [List.length_cons] at hi
    rw [List.flatMap_cons] at h
    obtain ⟨e1, c1⟩ := ent_cur (by omega) h ho.1 (hr x List.mem_cons_self)
    have hi := ents_cur l (i + 1) (entS s i).2 (acc ++ [(entS s i).1]) (by omega) c1 ho.2 fun y hy => hr y (List.mem_cons_of_mem _ hy)
    rw [List.length_cons, entsS]
    refine ⟨?_, hi.2⟩
    rw [hi.1, e1]
    simp
def repW (l : List En) : List (List (List UInt8)) := [toL wReport, toL (prN l.length)] :: l.flatMap entW
theorem joinW_cons : ∀ (l : List (List UInt8)) (w : List UInt8), joinW (w :: l) = w ++ l.flatMap (fun x => 32 :: x)
  | [], w => by simp [joinW]
  | v :: l, w => by rw [joinW, joinW_cons l v]; simp
theorem tail_text : ∀ (l : List Rt), toL (rowTail l) = (l.map pw).flatMap (fun x => 32 :: x) ++ [10]
  | [] => rfl
  | r :: l => by
    rw [rowTail, toL_append, toL_append, tail_text l]
    have e : toL (⟨#[32]⟩ : ByteArray) = [32] := rfl
    rw [e, List.map_cons, List.flatMap_cons]
    show [32] ++ (pw r ++ _) = _
    simp
theorem rows_text : ∀ (t : List (List Rt)), toL (rowsT t) = textW (t.map rowW)
  | [] => rfl
  | r :: t => by
    rw [rowsT, toL_append, toL_append, toL_append, tail_text, rows_text t, List.map_cons, textW]
    have e : toL (⟨#[114, 111, 119, 32]⟩ : ByteArray) = toL wRow ++ [32] := rfl
    have e2 : joinW (rowW r) = toL wRow ++ (32 :: (toL (prN r.length) ++ (r.map pw).flatMap (fun x => 32 :: x))) := by
      unfold rowW
      rw [joinW_cons, List.flatMap_cons]
      simp
    rw [e, e2]
    simp
theorem ent_text (x : En) : toL (entT x) = textW (entW x) := by
  have l1 : toL (⟨#[101, 110, 116, 114, 121, 32]⟩ : ByteArray) = toL wEntry ++ [32] := rfl
  have l2 : toL (⟨#[32]⟩ : ByteArray) = [32] := rfl
  have l3 : toL (⟨#[101, 114, 114, 111, 114, 32]⟩ : ByteArray) = toL wError ++ [32] := rfl
  have l4 : toL (⟨#[116, 97, 98, 108, 101, 32]⟩ : ByteArray) = toL wTable ++ [32] := rfl
  have l5 : toL (⟨#[10]⟩ : ByteArray) = [10] := rfl
  unfold entT entW
  by_cases he : x.2.2.1 ≠ 0
  · rw [if_pos he, if_pos he]
    simp only [toL_append, l1, l2, l3, l5, textW, joinW_cons, List.flatMap_cons, List.flatMap_nil, List.append_assoc, List.append_nil, List.cons_append, List.nil_append]
  · rw [if_neg he, if_neg he]
    simp only [toL_append, l1, l2, l4, l5, rows_text, textW, joinW_cons, List.flatMap_cons, List.flatMap_nil, List.append_assoc, List.append_nil, List.cons_append, List.nil_append]
theorem ents_text : ∀ (l : List En), toL (entsT l) = textW (l.flatMap entW)
  | [] => rfl
  | x :: l => by rw [entsT, toL_append, ents_text l, ent_text, List.flatMap_cons, textW_append]
theorem rep_text (l : List En) : toL (headT l.length ++ entsT l) = textW (repW l) := by
  have l1 : toL (⟨#[114, 101, 112, 111, 114, 116, 32]⟩ : ByteArray) = toL wReport ++ [32] := rfl
  have l5 : toL (⟨#[10]⟩ : ByteArray) = [10] := rfl
  unfold headT repW
  simp only [toL_append, l1, l5, ents_text, textW, joinW_cons, List.flatMap_cons, List.flatMap_nil, List.append_assoc, List.append_nil, List.cons_append, List.nil_append]
theorem pw_word (v : Rt) : WdOk (pw v) := by unfold pw; rw [prT_rv]; exact prX_word _
def LnOk (l : List (List UInt8)) : Prop := l ≠ [] ∧ l.length ≤ 4096 ∧ ∀ w ∈ l, WdOk w
theorem rowW_ok (r : List Rt) (h : r.length ≤ 1000) : LnOk (rowW r) := by
  refine ⟨by unfold rowW; simp, by unfold rowW; simp; omega, fun w hw => ?_⟩
  unfold rowW at hw
  simp only [List.mem_cons, List.mem_map] at hw
  rcases hw with rfl | rfl | ⟨v, _, rfl⟩
  · exact ⟨by decide, by decide⟩
  · exact prN_word _
  · exact pw_word v
theorem entW_ok (x : En) (h : ∀ r ∈ x.2.2.2, r.length ≤ 1000) : ∀ l ∈ entW x, LnOk l := by
  have k : ∀ (n1 n2 n3 : Nat) (w : List UInt8), WdOk w → LnOk [toL wEntry, toL (prN n1), toL (prN n2), w, toL (prN n3)] := fun n1 n2 n3 w hw => by
    refine ⟨by simp, by simp, fun u hu => ?_⟩
    simp only [List.mem_cons, List.not_mem_nil, or_false] at hu
    rcases hu with rfl | rfl | rfl | rfl | rfl
    · exact ⟨by decide, by decide⟩
    · exact prN_word _
    · exact prN_word _
    · exact hw
    · exact prN_word _
  intro l hl
  unfold entW at hl
  by_cases he : x.2.2.1 ≠ 0
  · rw [if_pos he, List.mem_singleton] at hl
    rw [hl]
    exact k _ _ _ _ ⟨by decide, by decide⟩
  · rw [if_neg he] at hl
    rcases List.mem_cons.1 hl with rfl | hl
    · exact k _ _ _ _ ⟨by decide, by decide⟩
    · obtain ⟨r, hr, rfl⟩ := List.mem_map.1 hl
      exact rowW_ok r (h r hr)
theorem repW_ok (L : List En) (h : ∀ x ∈ L, ∀ r ∈ x.2.2.2, r.length ≤ 1000) : ∀ l ∈ repW L, LnOk l := by
  intro l hl
  unfold repW at hl
  rcases List.mem_cons.1 hl with rfl | hl
  · exact two_ok ⟨by decide, by decide⟩ (prN_word _)
  · obtain ⟨x, hx, hl⟩ := List.mem_flatMap.1 hl
    exact entW_ok x (h x hx) l hl
theorem entW_len (x : En) : (entW x).length ≤ 1 + x.2.2.2.length := by
  unfold entW
  split
  · simp
  · rw [List.length_cons, List.length_map]; omega
theorem repW_len : ∀ (l : List En), (∀ x ∈ l, x.2.2.2.length ≤ 70) → (l.flatMap entW).length ≤ 71 * l.length
  | [], _ => Nat.zero_le _
  | x :: l, h => by
    have h1 := repW_len l fun y hy => h y (List.mem_cons_of_mem _ hy)
    have h2 := entW_len x
    have h3 := h x List.mem_cons_self
    rw [List.flatMap_cons, List.length_append, List.length_cons]
    omega
theorem den3 (d : List Int) (h : d.length ≤ 3) : den d < 79228162514264337593543950336 + 1 := by
  have := val_lt d
  have h2 : 4294967296 ^ d.length ≤ 4294967296 ^ 3 := Nat.pow_le_pow_right (by decide) h
  have e3 : 4294967296 ^ 3 = 79228162514264337593543950336 := by decide
  rw [e3] at h2
  unfold den
  split
  · decide
  · omega
theorem num3' (b : Bool) (n d : List Int) (h : n.length ≤ 3) : (num b n d).natAbs < 79228162514264337593543950336 := by
  have := val_lt n
  have h2 : 4294967296 ^ n.length ≤ 4294967296 ^ 3 := Nat.pow_le_pow_right (by decide) h
  have e3 : 4294967296 ^ 3 = 79228162514264337593543950336 := by decide
  rw [e3] at h2
  unfold num
  split
  · decide
  · rw [wv_abs]; omega
theorem prT3 (v : Rt) (h1 : v.2.1.length ≤ 3) (h2 : v.2.2.length ≤ 3) : (prT v).size ≤ 62 := by
  obtain ⟨m1, m2⟩ := mk_bounds (num v.1 v.2.1 v.2.2) (den v.2.2) (den_pos _)
  have n1 := num3' v.1 v.2.1 v.2.2 h1
  have n2 := den3 v.2.2 h2
  have hp : 79228162514264337593543950336 + 1 ≤ 10 ^ 29 := by decide
  have s1 := prN_dec (n := (rv v).num.natAbs) (k := 29) (by decide) (Nat.lt_of_lt_of_le (Nat.lt_of_le_of_lt m1 n1) (Nat.le_trans (Nat.le_succ _) hp))
  have s2 := prN_dec (n := (rv v).den) (k := 29) (by decide) (Nat.lt_of_lt_of_le (Nat.lt_of_le_of_lt m2 n2) hp)
  have := prX_size (rv v) (k := 29) s1 s2
  rw [prT_rv, size_toL]
  omega
theorem rowTail3 : ∀ (l : List Rt), (∀ v ∈ l, v.2.1.length ≤ 3 ∧ v.2.2.length ≤ 3) → (rowTail l).size ≤ 1 + 63 * l.length
  | [], _ => by
    rw [rowTail]
    have : (⟨#[10]⟩ : ByteArray).size = 1 := rfl
    omega
  | r :: l, h => by
    have h1 := rowTail3 l fun x hx => h x (List.mem_cons_of_mem _ hx)
    obtain ⟨a, b⟩ := h r List.mem_cons_self
    have h2 := prT3 r a b
    have e : (⟨#[32]⟩ : ByteArray).size = 1 := rfl
    rw [rowTail, ByteArray.size_append, ByteArray.size_append, e, List.length_cons]
    omega
theorem rowsT3 : ∀ (l : List (List Rt)), (∀ r ∈ l, r.length ≤ 12 ∧ ∀ v ∈ r, v.2.1.length ≤ 3 ∧ v.2.2.length ≤ 3) → (rowsT l).size ≤ 830 * l.length
  | [], _ => by rw [rowsT]; exact Nat.zero_le _
  | r :: l, h => by
    have h1 := rowsT3 l fun x hx => h x (List.mem_cons_of_mem _ hx)
    obtain ⟨h2, h3⟩ := h r List.mem_cons_self
    have h4 := rowTail3 r h3
    have h5 := prN_small (n := r.length) (by omega)
    have e : (⟨#[114, 111, 119, 32]⟩ : ByteArray).size = 4 := rfl
    rw [rowsT, ByteArray.size_append, ByteArray.size_append, ByteArray.size_append, e, List.length_cons]
    omega
theorem entT3 (i : Nat) (hi : i ≤ 1000) (x : En) (h : few3 x) (ho : okE i x) : (entT x).size ≤ 60000 := by
  obtain ⟨o1, o2, o3, o4, o5, _, _⟩ := ho
  have h1 := prN_small (n := x.1.toNat) (by omega)
  have h2 := prN_small (n := x.2.1.toNat) (by omega)
  have h3 := prN_small (n := x.2.2.1.toNat) (by omega)
  have hlen := h.1
  have h4 := prN_small (n := x.2.2.2.length) (by omega)
  have h5 := rowsT3 x.2.2.2 h.2
  unfold entT
  simp only [ByteArray.size_append, lit_size, List.size_toArray, List.length_cons, List.length_nil]
  split <;> simp only [ByteArray.size_append, lit_size, List.size_toArray, List.length_cons, List.length_nil] <;> omega
theorem entsT3 : ∀ (l : List En) (i : Nat), i + l.length ≤ 1000 → (∀ x ∈ l, few3 x) → okL i l → (entsT l).size ≤ 60000 * l.length
  | [], _, _, _, _ => by rw [entsT]; exact Nat.zero_le _
  | x :: l, i, hi, h, ho => by
    rw [List.length_cons] at hi
    have h1 := entsT3 l (i + 1) (by omega) (fun y hy => h y (List.mem_cons_of_mem _ hy)) ho.2
    have h2 := entT3 i (by omega) x (h x List.mem_cons_self) ho.1
    rw [entsT, ByteArray.size_append, List.length_cons]
    omega
theorem viewE_ec (x : En) : viewE (ec x) = viewE x := by
  have hr : ∀ r : List Rt, (r.map vc).map prT = r.map prT := fun r => by
    rw [List.map_map]
    exact List.map_congr_left fun v _ => prT_vc v
  have ht : viewR (x.2.2.2.map (·.map vc)) = viewR x.2.2.2 := by
    unfold viewR
    rw [List.map_map]
    exact List.map_congr_left fun r _ => hr r
  unfold viewE
  show (x.1, x.2.1, x.2.2.1, viewR (x.2.2.2.map (·.map vc))) = _
  rw [ht]
theorem views_ec (l : List En) : (l.map ec).map viewE = l.map viewE := by
  rw [List.map_map]
  exact List.map_congr_left fun x _ => viewE_ec x
theorem okE_ec {i : Nat} {x : En} (h : okE i x) : okE i (ec x) := by
  obtain ⟨o1, o2, o3, o4, o5, o6, o7⟩ := h
  exact ⟨o1, o2, o3, o4, o5, fun h => by show (x.2.2.2.map _).length = 0; rw [List.length_map]; exact o6 h, by show (x.2.2.2.map _).length ≤ 64; rw [List.length_map]; exact o7⟩
theorem okL_ec : ∀ {l : List En} {i : Nat}, okL i l → okL i (l.map ec)
  | [], _, _ => trivial
  | _ :: _, _, h => ⟨okE_ec h.1, okL_ec h.2⟩
theorem ec_G {x : En} {i : Nat} (h : few3 x) (hk : EnOk x) (ho : okE i x) : EG (ec x) := by
  refine ⟨by show (x.2.2.2.map _).length ≤ 64; rw [List.length_map]; exact ho.2.2.2.2.2.2, fun r hr => ?_⟩
  obtain ⟨r', hr', rfl⟩ := List.mem_map.1 hr
  obtain ⟨h1, h2⟩ := h.2 r' hr'
  refine ⟨by rw [List.length_map]; omega, fun v hv => ?_⟩
  obtain ⟨v', hv', rfl⟩ := List.mem_map.1 hv
  obtain ⟨a, b⟩ := h2 v' hv'
  have hB : RtB 3 v' := ⟨((hk.2 r' hr').2 v' hv').1, ((hk.2 r' hr').2 v' hv').2.1, a, b⟩
  refine ⟨cnB _ (Nat.le_trans hB.sz (by decide)), by rw [prT_vc]; have := prT3 v' a b; omega, ?_⟩
  unfold vc
  rw [rv_cn]
theorem back_read (l : List En) (hl : l.length ≤ 8) (h3 : ∀ x ∈ l, few3 x) (hk : ∀ x ∈ l, EnOk x) (ho : okL 0 l) : Ev (fun k => report_Read.f k (headT l.length ++ entsT l)) (l.map ec, 0) := by
  have hx := rep_text l
  have hsz : (textW (repW l)).length ≤ 1048576 := by
    rw [← hx, ← size_toL]
    have h1 := entsT3 l 0 (by omega) h3 ho
    have h2 := prN_small (n := l.length) (by omega)
    unfold headT
    simp only [ByteArray.size_append, lit_size, List.size_toArray, List.length_cons, List.length_nil]
    omega
  have hlen : (repW l).length < 16384 := by
    have := repW_len l fun x hx => (h3 x hx).1
    unfold repW
    rw [List.length_cons]
    omega
  have hrow : ∀ x ∈ l, ∀ r ∈ x.2.2.2, r.length ≤ 1000 := fun x hx r hr => by have := ((h3 x hx).2 r hr).1; omega
  have hrd : ∀ x ∈ l, ERd x := fun x hx r hr => ⟨hrow x hx r hr, fun v hv => by
    obtain ⟨a, b⟩ := ((h3 x hx).2 r hr).2 v hv
    exact rd_small v (b := 3) ⟨(((hk x hx).2 r hr).2 v hv).1, (((hk x hx).2 r hr).2 v hv).2.1, a, b⟩ (by decide)⟩
  generalize hX : headT l.length ++ entsT l = X at *
  have c0 := start_cur hx (repW_ok l hrow) hlen hsz (by unfold repW; simp)
  unfold repW at c0
  have c1 : Cur (takeS (readS X) wReport) [toL (prN l.length)] (l.flatMap entW) := (CurL.get c0).take
  obtain ⟨a1, a2⟩ := c1.count (lo := 0) (hi := 16384) (by omega) (by omega) (by omega)
  have a1' : (rhd X).1 = (l.length : Int) := a1
  have a2' : Cur (rhd X).2 [] (l.flatMap entW) := a2
  obtain ⟨q1, q2⟩ := ents_cur l 0 (nextS (rhd X).2) [] (by omega) a2'.nextX ho hrd
  rw [List.nil_append] at q1
  have qE : CurE (entsS l.length 0 (nextS (rhd X).2) []).2 := by
    rcases q2 with ⟨_, h⟩ | ⟨h, _⟩
    · exact h
    · exact absurd rfl h
  have g0 := readS_good X
  have g1 := takeS_good g0 wReport
  have g2 := rhd_good X
  have c := count_ev _ g1 0 16384
  have hL := rread_l0 X l.length (by omega) l.length 0 (nextS (rhd X).2) [] (Nat.zero_add _) rfl (nextS_good g2) (fun _ => by
    rw [q1]
    refine ⟨by rw [List.length_map]; omega, okL_ec ho, fun y hy => ?_⟩
    obtain ⟨x, hx, rfl⟩ := List.mem_map.1 hy
    obtain ⟨i, hi⟩ : ∃ i, okE i x := by
      clear hX hsz hlen hrd c0 c1 a1 a2 a1' a2' q1 q2 qE g0 g1 g2 c hrow
      have : ∀ (m : List En) (j : Nat), okL j m → ∀ y ∈ m, ∃ i, okE i y := fun m => by
        induction m with
        | nil => intro j _ y hy; cases hy
        | cons z m ih =>
          intro j h y hy
          rcases List.mem_cons.1 hy with rfl | hy
          · exact ⟨j, h.1⟩
          · exact ih (j + 1) h.2 y hy
      exact this l 0 ho x hx
    exact ec_G (h3 x hx) (hk x hx) hi)
  have hfin : finR X (entsS l.length 0 (nextS (rhd X).2) []) = (l.map ec, 0) := by
    unfold finR
    rw [qE.done, if_neg (fun h => h qE.err), q1, List.length_map, entsT_congr (l.map ec) l (views_ec l), hX, if_pos rfl]
  rw [hfin, ← a1'] at hL
  unfold report_Read.f
  refine Ev.bind (read_ev X) (Ev.bind (Ev.congr (fun _ => take_eq (readS X) _ g0.ok g0.l1) (Ev.now _)) (Ev.bind c ?_))
  exact Ev.bind (Ev.congr (fun _ => next_eq (rhd X).2 g2.ok g2.l1) (Ev.now _)) hL
end Go.DI.Th
namespace Go.DI.Th
open Go Go.RowKit Go.DI

theorem right_vg (v : Rt) (h : VG v) : Ev (fun k => ratio_Right.f k v.1 v.2.1 v.2.2) true := by
  have := rright_ev v h.1 (by decide)
  rwa [decide_eq_true h.2.2] at this
theorem back_l2 (xs : List En) (i j : Nat) (hi : i < xs.length) (x : En) (hx : gt (0, 0, 0, []) xs (i : Int) = x) (row : List Rt) (hj : j < x.2.2.2.length) (hr : gt [] x.2.2.2 (j : Int) = row) (hl : row.length ≤ 100000) (hjb : j ≤ 100000) (hg : ∀ v ∈ row, VG v)
    (next : Ev (fun k => dendronlaw29_ReportBack.l1 k xs (i : Int) ((j + 1 : Nat) : Int)) true) : ∀ (b a : List Rt), row = a ++ b → Ev (fun k => dendronlaw29_ReportBack.l2 k xs (i : Int) (j : Int) (a.length : Int)) true := by
  intro b
  induction b with
  | nil =>
    intro a h1
    rw [List.append_nil] at h1
    refine Ev.succ ?_
    simp only [dendronlaw29_ReportBack.l2, hx, hr, wr_succ j (show j ≤ 1125899906842624 by omega)]
    exact Ev.if_pos (nn0 _) (Ev.if_pos (by omega) (Ev.if_pos (nn0 _) (Ev.if_pos (by omega) (Ev.if_neg (by rw [h1]; omega) next))))
  | cons v b ih =>
    intro a h1
    have g : gt (false, [], []) row (a.length : Int) = v := by rw [h1]; exact gt_at _ a v b
    have hlen : row.length = a.length + (b.length + 1) := by rw [h1, List.length_append, List.length_cons]
    have hv := right_vg v (hg v (by rw [h1]; simp))
    have hih := ih (a ++ [v]) (by rw [h1]; simp)
    rw [List.length_append, List.length_singleton] at hih
    refine Ev.succ ?_
    simp only [dendronlaw29_ReportBack.l2, hx, hr, g, wr_succ a.length (show a.length ≤ 1125899906842624 by omega)]
    exact Ev.if_pos (nn0 _) (Ev.if_pos (by omega) (Ev.if_pos (nn0 _) (Ev.if_pos (by omega) (Ev.if_pos (by omega) (Ev.if_pos (nn0 _) (Ev.bind hv (Ev.if_pos rfl hih)))))))
theorem back_l1 (xs : List En) (i : Nat) (hi : i < xs.length) (hib : i ≤ 100000) (x : En) (hx : gt (0, 0, 0, []) xs (i : Int) = x) (hg : EG x)
    (next : Ev (fun k => dendronlaw29_ReportBack.l0 k xs ((i + 1 : Nat) : Int)) true) : ∀ (b a : List (List Rt)), x.2.2.2 = a ++ b → Ev (fun k => dendronlaw29_ReportBack.l1 k xs (i : Int) (a.length : Int)) true := by
  intro b
  induction b with
  | nil =>
    intro a h1
    rw [List.append_nil] at h1
    refine Ev.succ ?_
    simp only [dendronlaw29_ReportBack.l1, hx, wr_succ i (show i ≤ 1125899906842624 by omega)]
    exact Ev.if_pos (nn0 _) (Ev.if_pos (by omega) (Ev.if_neg (by rw [h1]; omega) next))
  | cons r b ih =>
    intro a h1
    have g : gt [] x.2.2.2 (a.length : Int) = r := by rw [h1]; exact gt_at _ a r b
    have hlen : x.2.2.2.length = a.length + (b.length + 1) := by rw [h1, List.length_append, List.length_cons]
    have hl := hg.1
    obtain ⟨q1, q2⟩ := hg.2 r (by rw [h1]; simp)
    have hih := ih (a ++ [r]) (by rw [h1]; simp)
    rw [List.length_append, List.length_singleton] at hih
    have h2 := back_l2 xs i a.length hi x hx r (by omega) g (by omega) (by omega) q2 hih r [] rfl
    refine Ev.succ ?_
    simp only [dendronlaw29_ReportBack.l1, hx]
    exact Ev.if_pos (nn0 _) (Ev.if_pos (by omega) (Ev.if_pos (by omega) h2))
theorem back_l0 (xs : List En) (hl : xs.length ≤ 100000) (hg : ∀ x ∈ xs, EG x) : ∀ (b a : List En), xs = a ++ b → Ev (fun k => dendronlaw29_ReportBack.l0 k xs (a.length : Int)) true := by
  intro b
  induction b with
  | nil =>
    intro a h1
    rw [List.append_nil] at h1
    refine Ev.succ ?_
    simp only [dendronlaw29_ReportBack.l0]
    exact Ev.if_neg (by rw [h1]; omega) (Ev.bind awake29_ev (Ev.now _))
  | cons x b ih =>
    intro a h1
    have g : gt (0, 0, 0, []) xs (a.length : Int) = x := by rw [h1]; exact gt_at _ a x b
    have hlen : xs.length = a.length + (b.length + 1) := by rw [h1, List.length_append, List.length_cons]
    have hih := ih (a ++ [x]) (by rw [h1]; simp)
    rw [List.length_append, List.length_singleton] at hih
    have h2 := back_l1 xs a.length (by omega) (by omega) x g (hg x (by rw [h1]; simp)) hih x.2.2.2 [] rfl
    refine Ev.succ ?_
    simp only [dendronlaw29_ReportBack.l0]
    exact Ev.if_pos (by omega) h2
theorem okL_mem : ∀ (m : List En) (j : Nat), okL j m → ∀ y ∈ m, ∃ i, okE i y
  | [], _, _, y, hy => by cases hy
  | z :: m, j, h, y, hy => by
    rcases List.mem_cons.1 hy with rfl | hy
    · exact ⟨j, h.1⟩
    · exact okL_mem m (j + 1) h.2 y hy
theorem reportBack_ev (l : List En) (h : ∀ x ∈ l, EnW x) : Ev (fun k => dendronlaw29_ReportBack.f k l) true := by
  obtain ⟨f1, f2, f3⟩ := few29_ok l h
  have h3 : ∀ x ∈ few29 l, few3 x := fun x hx => by
    obtain ⟨x0, h0, rfl⟩ := List.mem_map.1 hx
    exact (ent3_ok x0 (h x0 (List.mem_of_mem_take h0))).1
  have hw := write_ev (few29 l) (by omega) f2 f3
  unfold dendronlaw29_ReportBack.f
  refine Ev.bind (few29_ev l) (Ev.bind hw ?_)
  generalize few29 l = xs at *
  unfold writeR
  by_cases ho : okL 0 xs
  · rw [if_pos ho]
    have hr := back_read xs f1 h3 f2 ho
    have hG : ∀ y ∈ xs.map ec, EG y := fun y hy => by
      obtain ⟨x, hx, rfl⟩ := List.mem_map.1 hy
      obtain ⟨i, hi⟩ := okL_mem xs 0 ho x hx
      exact ec_G (h3 x hx) (f2 x hx) hi
    have ha := all_ev (xs.map ec) xs (by rw [List.length_map]; omega) (fun y hy => (hG y hy).ok) f2
    rw [decide_eq_true (views_ec xs)] at ha
    exact Ev.if_neg (fun e => e rfl) (Ev.bind hr (Ev.if_neg (fun e => e rfl) (Ev.bind ha (Ev.if_pos rfl (back_l0 (xs.map ec) (by rw [List.length_map]; omega) hG (xs.map ec) [] rfl)))))
  · rw [if_neg ho]
    exact Ev.if_pos (by decide) (Ev.bind awake29_ev (Ev.now _))
end Go.DI.Th
