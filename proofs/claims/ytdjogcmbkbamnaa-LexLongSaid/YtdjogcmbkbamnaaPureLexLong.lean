/- A text of one byte more than may be, of one line more, or a line of one word more, has none; one of just as many has. No condition. -/
import Derived.Test.YtdjogcmbkbamnaaPLexLongx4
namespace Go.Proofs.Ytdjogcmbkbamnaa.Pure
open Go.RowKit Go.Proofs.Ytdjogcmbkbamnaa.PLexLong Go.Proofs.YtdjogcmbkbamnaaW.PrintWords Go.Proofs.YtdjogcmbkbamnaaW.PrintLast

namespace Long
theorem wrap_id {i : Int} (h0 : -9223372036854775808 ≤ i) (h : i ≤ 9223372036854775807) : wrap64 i = i := by
  unfold wrap64; omega

theorem blank_97 : lex_blank.f 97 = some false := by decide
theorem blank_32 : lex_blank.f 32 = some true := by decide
theorem plain_97 : lex_plain.f 97 = some true := by decide
theorem plain_32 : lex_plain.f 32 = some false := by decide

theorem bt_nums (l : List Int) (h : ∀ x ∈ l, 0 ≤ x ∧ x ≤ 255) (i : Int) (hi : i.toNat < l.length) : bt (strOfNums l) i = rd l i := by
  have hs : i.toNat < (strOfNums l).size := by rw [strOfNums_size]; exact hi
  unfold bt rd
  rw [dif_pos hs]
  have hm : l[i.toNat] ∈ l := List.getElem_mem hi
  have hx := h _ hm
  rw [List.getD_eq_getElem?_getD, List.getElem?_eq_getElem hi, Option.getD_some]
  have e : (strOfNums l)[i.toNat]'hs = UInt8.ofNat (l[i.toNat]).toNat := by
    show (strOfNums l).data[i.toNat]'hs = _
    simp [strOfNums]
  rw [e]
  simp only [UInt8.toNat_ofNat']
  omega

abbrev Res := List S30 × Int × Int
abbrev ResL := List (List S30) × Int × Int

theorem Words_none (s : ByteArray) (hs : s.size = 0) : Ev (fun k => lex_Words.f k s) ([], 0, 0) := by
  refine Ev.step (g := fun k => lex_Words.l0 k s [] 0) (fun k => ?_) (Ev.now _)
  simp only [lex_Words.l0]
  rw [if_neg (by omega)]

/-- A text of letters a alone: one word. -/
theorem Words_as (s : ByteArray) (hs : s.size ≤ 1048576) (hp : 0 < s.size) (ha : ∀ i : Int, 0 ≤ i → i < s.size → bt s i = 97) :
    ∃ m : List S30, m.length = 1 ∧ Ev (fun k => lex_Words.f k s) (m, 0, 0) := by
  have hl1 : ∀ d : Nat, ∀ i : Int, 0 ≤ i → i ≤ s.size → (s.size : Int) - i = d → Ev (fun k => lex_Words.l1 k s [] 0 i) ([⟨0, 0, s.extract (0 : Int).toNat ((s.size : Int)).toNat⟩], 0, 0) := by
    intro d
    induction d with
    | zero =>
      intro i h0 h1 hd
      obtain rfl : i = (s.size : Int) := by omega
      refine Ev.step (f := fun k => lex_Words.l0 k s [⟨0, 0, s.extract (0 : Int).toNat ((s.size : Int)).toNat⟩] s.size) (fun k => ?_) (Ev.step (fun k => ?_) (Ev.now _))
      · simp only [lex_Words.l1]
        rw [if_neg (by omega), if_pos (by omega), if_pos (by omega), if_pos (by omega), if_pos (by simp)]
        rfl
      · simp only [lex_Words.l0]
        rw [if_neg (by omega)]
    | succ d ih =>
      intro i h0 h1 hd
      refine Ev.step (fun k => ?_) (ih (i + 1) (by omega) (by omega) (by omega))
      simp only [lex_Words.l1]
      rw [if_pos (by omega), if_pos h0, ha i h0 (by omega), plain_97]
      simp only [Option.bind_some, if_true]
      rw [if_neg (by decide), wrap_id (by omega) (by omega)]
  refine ⟨_, rfl, Ev.step (g := fun k => lex_Words.l0 k s [] 0) (fun k => ?_) (hl1 s.size 0 (by omega) (by omega) (by omega))⟩
  simp only [lex_Words.l0]
  rw [if_pos (by omega), if_pos (by omega), ha 0 (by omega) (by omega), blank_97]
  simp only [Option.bind_some]
  rw [if_neg (by simp), if_neg (by decide), plain_97]
  simp only [Option.bind_some, if_true]
  rw [if_neg (by simp)]

theorem Lines_long (s : ByteArray) (hs : 1048576 < s.size) : Ev (fun k => lex_Lines.f k s) ([], 0, 6) := by
  refine Ev.congr (fun k => ?_) (Ev.now _)
  unfold lex_Lines.f
  rw [if_pos (by omega)]

theorem extract_all (s : ByteArray) : s.extract 0 s.size = s := by simp

/-- The words of one line, of which there is one. -/
theorem l2_one (s : ByteArray) (m : List S30) (hm : m.length = 1) (i : Int) (hi : i = s.size) (hs : s.size ≤ 1048576) :
    ∃ m', Ev (fun k => lex_Lines.l2 k s [] 0 0 i m 1 0) ([m'], 0, 0) := by
  have key : ∀ m2 : List S30, m2.length = 1 → Ev (fun k => lex_Lines.l2 k s [] 0 0 i m2 1 1) ([m2], 0, 0) := by
    intro m2 h2
    refine Ev.step (f := fun k => lex_Lines.l0 k s ([] ++ [m2]) (wrap64 (0 + 1)) (wrap64 (i + 1))) (fun k => ?_) (Ev.step (fun k => ?_) (Ev.now _))
    · simp only [lex_Lines.l2]
      rw [if_neg (by omega), if_pos (by omega), if_pos (by simp)]
    · simp only [lex_Lines.l0]
      rw [if_neg (by rw [wrap_id (by omega) (by omega)]; omega)]
      rfl
  refine ⟨_, Ev.step (fun k => ?_) (key ((m.set (0 : Int).toNat ⟨wrap64 ((rd_T30 m 0).f0 + 0), (rd_T30 m 0).f1, (rd_T30 m 0).f2⟩).set (0 : Int).toNat ⟨(rd_T30 (m.set (0 : Int).toNat ⟨wrap64 ((rd_T30 m 0).f0 + 0), (rd_T30 m 0).f1, (rd_T30 m 0).f2⟩) 0).f0, 0, (rd_T30 (m.set (0 : Int).toNat ⟨wrap64 ((rd_T30 m 0).f0 + 0), (rd_T30 m 0).f1, (rd_T30 m 0).f2⟩) 0).f2⟩) (by simp [hm]))⟩
  have e : wrap64 (0 + 1) = 1 := wrap_id (by omega) (by omega)
  simp only [lex_Lines.l2]
  rw [if_pos (by omega), if_pos (by omega), if_pos (by omega), e]
  rfl

theorem Lines_as (s : ByteArray) (hs : s.size ≤ 1048576) (hp : 0 < s.size) (ha : ∀ i : Int, 0 ≤ i → i < s.size → bt s i = 97) :
    ∃ m : List S30, Ev (fun k => lex_Lines.f k s) ([m], 0, 0) := by
  obtain ⟨m, hm, hw⟩ := Words_as s hs hp ha
  obtain ⟨m', hm'⟩ := l2_one s m hm s.size rfl hs
  refine ⟨m', Ev.congr (f := fun k => lex_Lines.l0 k s [] 0 0) (fun k => by unfold lex_Lines.f; rw [if_neg (by omega)]) ?_⟩
  refine Ev.step (f := fun k => lex_Lines.l1 k s [] 0 0 0) (fun k => by simp only [lex_Lines.l0]; rw [if_pos (by omega), if_neg (by omega)]) ?_
  have hl1 : ∀ d : Nat, ∀ i : Int, 0 ≤ i → i ≤ s.size → (s.size : Int) - i = d → Ev (fun k => lex_Lines.l1 k s [] 0 0 i) ([m'], 0, 0) := by
    intro d
    induction d with
    | zero =>
      intro i h0 h1 hd
      obtain rfl : i = (s.size : Int) := by omega
      refine Ev.step (f := fun k => lex_Lines.j2 k s [] 0 0 s.size) (fun k => by simp only [lex_Lines.l1]; rw [if_neg (by omega)]) ?_
      refine Ev.step (f := fun k => (lex_Words.f k s).bind fun b => if b.2.2 = 0 then lex_Lines.l2 k s [] 0 0 s.size b.1 (b.1.length : Int) 0 else some ([], wrap64 (0 + b.2.1), b.2.2)) (fun k => ?_) (Ev.bind hw (Ev.congr (fun k => ?_) hm'))
      · simp only [lex_Lines.j2]
        rw [if_pos (by omega), if_pos (by omega), if_pos (by omega)]
        have e : s.extract (0 : Int).toNat ((s.size : Int)).toNat = s := by
          show s.extract 0 s.size = s
          exact extract_all s
        rw [e]
      · show (if (0 : Int) = 0 then _ else _) = _
        rw [if_pos rfl, hm]
        rfl
    | succ d ih =>
      intro i h0 h1 hd
      refine Ev.step (fun k => ?_) (ih (i + 1) (by omega) (by omega) (by omega))
      simp only [lex_Lines.l1]
      rw [if_pos (by omega), if_pos h0, ha i h0 (by omega), if_neg (by decide), wrap_id (by omega) (by omega)]
  exact hl1 s.size 0 (by omega) (by omega) (by omega)

/-- A text of newlines alone. -/
theorem Lines_nl (s : ByteArray) (hs : s.size ≤ 16384) (ha : ∀ i : Int, 0 ≤ i → i < s.size → bt s i = 10) :
    Ev (fun k => lex_Lines.f k s) (if s.size = 16384 then ([], 16384, 16) else ([], 0, 0)) := by
  refine Ev.congr (f := fun k => lex_Lines.l0 k s [] 0 0) (fun k => by unfold lex_Lines.f; rw [if_neg (by omega)]) ?_
  have h : ∀ d : Nat, ∀ i : Int, 0 ≤ i → i ≤ s.size + 1 → i ≤ 16384 → (s.size : Int) + 1 - i = d → Ev (fun k => lex_Lines.l0 k s [] i i) (if s.size = 16384 then ([], 16384, 16) else ([], 0, 0)) := by
    intro d
    induction d with
    | zero =>
      intro i h0 h1 h2 hd
      refine Ev.step (fun k => ?_) (Ev.now _)
      simp only [lex_Lines.l0]
      rw [if_neg (by omega), if_neg (by omega)]
    | succ d ih =>
      intro i h0 h1 h2 hd
      by_cases h16 : i = 16384
      · refine Ev.step (fun k => ?_) (Ev.now _)
        simp only [lex_Lines.l0]
        rw [if_pos (by omega), if_pos (by omega), if_pos (by omega), h16]
      · refine Ev.step (f := fun k => lex_Lines.l1 k s [] i i i) (fun k => by simp only [lex_Lines.l0]; rw [if_pos (by omega), if_neg (by omega)]) ?_
        refine Ev.step (f := fun k => lex_Lines.j2 k s [] i i i) (fun k => ?_) ?_
        · simp only [lex_Lines.l1]
          by_cases hlt : i < (s.size : Int)
          · rw [if_pos hlt, if_pos h0, ha i h0 hlt, if_pos rfl]
          · rw [if_neg hlt]
        · refine Ev.step (f := fun k => (lex_Words.f k (s.extract i.toNat i.toNat)).bind fun b => if b.2.2 = 0 then lex_Lines.l2 k s [] i i i b.1 (b.1.length : Int) 0 else some ([], wrap64 (i + b.2.1), b.2.2)) (fun k => ?_) (Ev.bind (Words_none _ (by simp)) ?_)
          · simp only [lex_Lines.j2]
            rw [if_pos h0, if_pos (by omega), if_pos (by omega)]
          · refine Ev.congr (f := fun k => lex_Lines.l2 k s [] i i i [] 0 0) (fun k => ?_) (Ev.step (fun k => ?_) (ih (i + 1) (by omega) (by omega) (by omega) (by omega)))
            · show (if (0 : Int) = 0 then _ else _) = _
              rw [if_pos rfl]
              rfl
            · simp only [lex_Lines.l2]
              rw [if_neg (by omega), if_neg (by simp), wrap_id (by omega) (by omega)]
  exact h (s.size + 1) 0 (by omega) (by omega) (by omega) (by omega)

/-- A line of letters a with blanks between. -/
theorem Words_many (s : ByteArray) (p : Nat) (hp : p = 4096 ∨ p = 4097) (hs : s.size = 2 * p)
    (ha : ∀ i : Int, 0 ≤ i → i < s.size → i % 2 = 0 → bt s i = 97) (hb : ∀ i : Int, 0 ≤ i → i < s.size → i % 2 = 1 → bt s i = 32) :
    ∃ m : List S30, Ev (fun k => lex_Words.f k s) (if p = 4097 then ([], 8192, 16) else (m, 0, 0)) ∧ m.length = 4096 := by
  have h : ∀ d : Nat, ∀ (q : Nat) (out : List S30), out.length = q → q ≤ p → q ≤ 4096 → p - q = d →
      ∃ m : List S30, Ev (fun k => lex_Words.l0 k s out (2 * q : Int)) (if p = 4097 then ([], 8192, 16) else (m, 0, 0)) ∧ m.length = 4096 := by
    intro d
    induction d with
    | zero =>
      intro q out ho h1 h2 hd
      refine ⟨out, Ev.step (fun k => ?_) (Ev.now _), by omega⟩
      simp only [lex_Words.l0]
      rw [if_neg (by omega), if_neg (by omega)]
    | succ d ih =>
      intro q out ho h1 h2 hd
      by_cases h4 : q = 4096
      · refine ⟨List.replicate 4096 z30, Ev.step (fun k => ?_) (Ev.now _), List.length_replicate⟩
        simp only [lex_Words.l0]
        rw [if_pos (by omega), if_pos (by omega), ha _ (by omega) (by omega) (by omega), blank_97]
        simp only [Option.bind_some]
        rw [if_neg (by simp), if_neg (by decide), plain_97]
        simp only [Option.bind_some, if_true]
        rw [if_pos (by omega), if_pos (by omega), h4]
        rfl
      · obtain ⟨m, hm, hl⟩ := ih (q + 1) (out ++ [⟨2 * q, 0, s.extract (2 * q : Int).toNat (2 * q + 1 : Int).toNat⟩]) (by simp; omega) (by omega) (by omega) (by omega)
        refine ⟨m, ?_, hl⟩
        refine Ev.step (f := fun k => lex_Words.l1 k s out (2 * q) (2 * q)) (fun k => ?_) (Ev.step (f := fun k => lex_Words.l1 k s out (2 * q) (2 * q + 1)) (fun k => ?_) (Ev.step (f := fun k => lex_Words.l0 k s (out ++ [⟨2 * q, 0, s.extract (2 * q : Int).toNat (2 * q + 1 : Int).toNat⟩]) (2 * q + 1)) (fun k => ?_) (Ev.step (fun k => ?_) hm)))
        · simp only [lex_Words.l0]
          rw [if_pos (by omega), if_pos (by omega), ha _ (by omega) (by omega) (by omega), blank_97]
          simp only [Option.bind_some]
          rw [if_neg (by simp), if_neg (by decide), plain_97]
          simp only [Option.bind_some, if_true]
          rw [if_neg (by omega)]
        · simp only [lex_Words.l1]
          rw [if_pos (by omega), if_pos (by omega), ha _ (by omega) (by omega) (by omega), plain_97]
          simp only [Option.bind_some, if_true]
          rw [if_neg (by decide), wrap_id (by omega) (by omega)]
        · simp only [lex_Words.l1]
          rw [if_pos (by omega), if_pos (by omega), hb _ (by omega) (by omega) (by omega), plain_32]
          simp only [Option.bind_some]
          rw [if_neg (by simp), if_pos (by omega), if_pos (by omega), if_pos (by omega), if_pos (by omega)]
        · simp only [lex_Words.l0]
          rw [if_pos (by omega), if_pos (by omega), hb _ (by omega) (by omega) (by omega), blank_32]
          simp only [Option.bind_some, if_true]
          rw [wrap_id (by omega) (by omega)]
          congr 1
  obtain ⟨m, h1, h2⟩ := h p 0 [] rfl (by omega) (by omega) (by omega)
  exact ⟨m, h1, h2⟩

theorem awake_ev : Ev (fun k => dendronlaw06_awake.f k) true := Ev.of (fun k => dendronlaw06_awake.mono k) (k := 20) (by kernel_rfl)

theorem set_rep (j d : Nat) (v : Int) : (List.replicate j v ++ List.replicate (d + 1) (0 : Int)).set j v = List.replicate (j + 1) v ++ List.replicate d 0 := by
  rw [List.set_append_right _ _ (by simp)]
  rw [List.length_replicate, Nat.sub_self, List.replicate_succ (n := d), List.replicate_succ' (n := j), List.append_assoc]
  rfl

theorem fill0 (x0 : Int) (n : Nat) (hn : n ≤ 1048577) (r : Bool) (h : Ev (fun k => dendronlaw06_LexLong.l0 k x0 (List.replicate n 97) n) r) (d : Nat) : ∀ j : Nat, j + d = n → Ev (fun k => dendronlaw06_LexLong.l0 k x0 (List.replicate j 97 ++ List.replicate d 0) j) r := by
  induction d with
  | zero =>
    intro j hj
    obtain rfl : j = n := by omega
    simpa using h
  | succ d ih =>
    intro j hj
    refine Ev.step (fun k => ?_) (ih (j + 1) (by omega))
    simp only [dendronlaw06_LexLong.l0]
    rw [if_pos (by simp; omega), if_pos (by omega), wrap_id (by omega) (by omega)]
    have e : ((j : Int)).toNat = j := by omega
    rw [e, set_rep]
    rfl

theorem fill1 (x0 x6 x7 : Int) (x5 : List (List S30)) (n : Nat) (hn : n ≤ 1048577) (r : Bool) (h : Ev (fun k => dendronlaw06_LexLong.l1 k x0 x5 x6 x7 (List.replicate n 10) n) r) (d : Nat) : ∀ j : Nat, j + d = n → Ev (fun k => dendronlaw06_LexLong.l1 k x0 x5 x6 x7 (List.replicate j 10 ++ List.replicate d 0) j) r := by
  induction d with
  | zero =>
    intro j hj
    obtain rfl : j = n := by omega
    simpa using h
  | succ d ih =>
    intro j hj
    refine Ev.step (fun k => ?_) (ih (j + 1) (by omega))
    simp only [dendronlaw06_LexLong.l1]
    rw [if_pos (by simp; omega), if_pos (by omega), wrap_id (by omega) (by omega)]
    have e : ((j : Int)).toNat = j := by omega
    rw [e, set_rep]
    rfl

/-- Letters a and blanks in turn. -/
def turn (j : Nat) : List Int := (List.range j).map fun i => if i % 2 = 0 then 97 else 32
theorem turn_len (j : Nat) : (turn j).length = j := by simp [turn]
theorem turn_succ (j : Nat) : turn (j + 1) = turn j ++ [if j % 2 = 0 then 97 else 32] := by simp [turn, List.range_succ]
theorem turn_set (j d : Nat) (v : Int) : (turn j ++ List.replicate (d + 1) (0 : Int)).set j v = turn j ++ [v] ++ List.replicate d 0 := by
  rw [List.set_append_right _ _ (by simp [turn_len])]
  simp [turn_len, List.replicate_succ]
theorem turn_set2 (j d : Nat) (u v : Int) : (turn j ++ [u] ++ List.replicate d (0 : Int)).set j v = turn j ++ [v] ++ List.replicate d 0 := by
  rw [List.append_assoc, List.set_append_right _ _ (by simp [turn_len])]
  simp [turn_len]

theorem fill2 (x0 x6 x7 x11 x12 : Int) (x5 : List (List S30)) (n : Nat) (hn : n ≤ 1048577) (r : Bool) (h : Ev (fun k => dendronlaw06_LexLong.l2 k x0 x5 x6 x7 x11 x12 (turn n) n) r) (d : Nat) : ∀ j : Nat, j + d = n → Ev (fun k => dendronlaw06_LexLong.l2 k x0 x5 x6 x7 x11 x12 (turn j ++ List.replicate d 0) j) r := by
  induction d with
  | zero =>
    intro j hj
    obtain rfl : j = n := by omega
    simpa using h
  | succ d ih =>
    intro j hj
    refine Ev.step (fun k => ?_) (ih (j + 1) (by omega))
    simp only [dendronlaw06_LexLong.l2]
    rw [if_pos (by simp [turn_len]; omega), if_pos (by omega), wrap_id (by omega) (by omega)]
    have e : ((j : Int)).toNat = j := by omega
    simp only [Option.bind_some, e]
    rw [turn_set, turn_set2, turn_succ]
    have ht : Int.tmod (j : Int) 2 = ((j % 2 : Nat) : Int) := rfl
    rw [ht]
    by_cases hj2 : j % 2 = 0
    · rw [if_pos (by omega), if_pos hj2]
      rfl
    · rw [if_neg (by omega), if_neg hj2]
      rfl
end Long

open Long in
theorem LexLong : dendronlaw06_LexLong.Pure := by
  intro a0 _
  apply Ev.rounds
  by_cases hout : a0 < 0 ∨ a0 > 1
  · refine Ev.congr (f := fun k => dendronlaw06_LexLong.j0 k a0 true) (fun k => ?_) (Ev.step (f := fun k => (dendronlaw06_awake.f k).bind fun t => some t) (fun k => ?_) (Ev.bind awake_ev (Ev.now _)))
    · unfold dendronlaw06_LexLong.f
      rcases hout with h | h
      · rw [if_pos h]
      · rw [if_neg (by omega)]
        simp [h]
    · simp only [dendronlaw06_LexLong.j0]
      rw [if_pos trivial]
  · obtain ⟨x, hx, rfl⟩ : ∃ x : Nat, x ≤ 1 ∧ a0 = (x : Int) := ⟨a0.toNat, by omega, by omega⟩
    have w1 : wrap64 (1048576 + (x : Int)) = ((1048576 + x : Nat) : Int) := by rw [wrap_id (by omega) (by omega)]; omega
    have w2 : wrap64 (16383 + (x : Int)) = ((16383 + x : Nat) : Int) := by rw [wrap_id (by omega) (by omega)]; omega
    have w3 : wrap64 (8192 + wrap64 (2 * (x : Int))) = ((8192 + 2 * x : Nat) : Int) := by rw [wrap_id (i := 2 * (x : Int)) (by omega) (by omega), wrap_id (by omega) (by omega)]; omega
    refine Ev.congr (f := fun k => dendronlaw06_LexLong.j0 k x false) (fun k => ?_) (Ev.step (f := fun k => dendronlaw06_LexLong.l0 k x (List.replicate (1048576 + x) 0) 0) (fun k => ?_) ?_)
    · unfold dendronlaw06_LexLong.f
      rw [if_neg (by omega)]
      congr 1
      simp; omega
    · simp only [dendronlaw06_LexLong.j0]
      rw [if_neg (by simp), w1, if_pos (by omega), if_pos (by omega)]
      rfl
    -- the last line
    have hlast : ∀ (x5 : List (List S30)) (x6 x7 x11 x12 : Int), (x = 1 → x5.length = 0 ∧ x6 = 0 ∧ x7 = 6 ∧ x11 = 16384 ∧ x12 = 16) → (x = 0 → x5.length = 1 ∧ x7 = 0 ∧ x12 = 0) →
        Ev (fun k => dendronlaw06_LexLong.l2 k x x5 x6 x7 x11 x12 (List.replicate (8192 + 2 * x) 0) 0) true := by
      intro x5 x6 x7 x11 x12 hy1 hy0
      refine fill2 x x6 x7 x11 x12 x5 (8192 + 2 * x) (by omega) true ?_ (8192 + 2 * x) 0 (by omega)
      have hb : ∀ y ∈ turn (8192 + 2 * x), 0 ≤ y ∧ y ≤ 255 := by
        intro y hy
        simp only [turn, List.mem_map] at hy
        obtain ⟨i, _, rfl⟩ := hy
        split <;> omega
      have hbt : ∀ i : Int, 0 ≤ i → i < (strOfNums (turn (8192 + 2 * x))).size → bt (strOfNums (turn (8192 + 2 * x))) i = if i % 2 = 0 then 97 else 32 := by
        intro i h0 h1
        rw [strOfNums_size, turn_len] at h1
        rw [bt_nums _ hb i (by rw [turn_len]; omega)]
        have hi : i.toNat < 8192 + 2 * x := by omega
        simp only [rd, turn, List.getD_eq_getElem?_getD, List.getElem?_map, List.getElem?_range hi, Option.map_some, Option.getD_some]
        by_cases h2 : i % 2 = 0
        · rw [if_pos (by omega), if_pos h2]
        · rw [if_neg (by omega), if_neg h2]
      obtain ⟨m, hm, hml⟩ := Words_many (strOfNums (turn (8192 + 2 * x))) (4096 + x) (by omega) (by rw [strOfNums_size, turn_len]; omega)
        (fun i h0 h1 h2 => by rw [hbt i h0 h1, if_pos h2]) (fun i h0 h1 h2 => by rw [hbt i h0 h1, if_neg (by omega)])
      refine Ev.step (f := fun k => (lex_Words.f k (strOfNums (turn (8192 + 2 * x)))).bind _) (fun k => by simp only [dendronlaw06_LexLong.l2]; rw [if_neg (by simp [turn_len])]) (Ev.bind hm ?_)
      by_cases h1 : x = 1
      · subst h1
        obtain ⟨e1, e2, e3, e4, e5⟩ := hy1 rfl
        refine Ev.congr (f := fun k => (dendronlaw06_awake.f k).bind fun t => some t) (fun k => ?_) (Ev.bind awake_ev (Ev.now _))
        rw [if_pos (by omega)]
        simp [e1, e2, e3, e4, e5]
      · obtain rfl : x = 0 := by omega
        obtain ⟨e1, e2, e3⟩ := hy0 rfl
        refine Ev.congr (f := fun k => (dendronlaw06_awake.f k).bind fun t => some t) (fun k => ?_) (Ev.bind awake_ev (Ev.now _))
        rw [if_neg (by omega)]
        simp [e1, e2, e3, hml]
    have hmid : ∀ (x5 : List (List S30)) (x6 x7 : Int), (x = 1 → x5.length = 0 ∧ x6 = 0 ∧ x7 = 6) → (x = 0 → x5.length = 1 ∧ x7 = 0) →
        Ev (fun k => dendronlaw06_LexLong.l1 k x x5 x6 x7 (List.replicate (16383 + x) 0) 0) true := by
      intro x5 x6 x7 hy1 hy0
      refine fill1 x x6 x7 x5 (16383 + x) (by omega) true ?_ (16383 + x) 0 (by omega)
      have hb : ∀ y ∈ List.replicate (16383 + x) (10 : Int), 0 ≤ y ∧ y ≤ 255 := by
        intro y hy
        rw [(List.mem_replicate.1 hy).2]; omega
      have hl := Lines_nl (strOfNums (List.replicate (16383 + x) 10)) (by rw [strOfNums_size]; simp; omega) (by
        intro i h0 h1
        rw [strOfNums_size, List.length_replicate] at h1
        rw [bt_nums _ hb i (by simp; omega)]
        simp only [rd, List.getD_eq_getElem?_getD]
        rw [List.getElem?_replicate_of_lt (by omega)]
        rfl)
      refine Ev.step (f := fun k => (lex_Lines.f k (strOfNums (List.replicate (16383 + x) 10))).bind _) (fun k => by simp only [dendronlaw06_LexLong.l1]; rw [if_neg (by simp)]) (Ev.bind hl ?_)
      refine Ev.congr (f := fun k => dendronlaw06_LexLong.l2 k x x5 x6 x7 (if x = 1 then 16384 else 0) (if x = 1 then 16 else 0) (List.replicate (8192 + 2 * x) 0) 0) (fun k => ?_) (hlast x5 x6 x7 _ _ (fun h => ⟨(hy1 h).1, (hy1 h).2.1, (hy1 h).2.2, if_pos h, if_pos h⟩) (fun h => ⟨(hy0 h).1, (hy0 h).2, if_neg (by omega)⟩))
      rw [w3, if_pos (by omega), if_pos (by omega), strOfNums_size, List.length_replicate]
      by_cases h1 : x = 1
      · subst h1; rfl
      · obtain rfl : x = 0 := by omega
        rfl
    refine fill0 x (1048576 + x) (by omega) true ?_ (1048576 + x) 0 (by omega)
    have hb : ∀ y ∈ List.replicate (1048576 + x) (97 : Int), 0 ≤ y ∧ y ≤ 255 := by
      intro y hy
      rw [(List.mem_replicate.1 hy).2]; omega
    by_cases h1 : x = 1
    · have hl := Lines_long (strOfNums (List.replicate (1048576 + x) 97)) (by rw [strOfNums_size, List.length_replicate]; omega)
      refine Ev.step (f := fun k => (lex_Lines.f k (strOfNums (List.replicate (1048576 + x) 97))).bind _) (fun k => by simp only [dendronlaw06_LexLong.l0]; rw [if_neg (by rw [List.length_replicate]; omega)]) (Ev.bind hl ?_)
      refine Ev.congr (fun k => ?_) (hmid [] 0 6 (fun _ => ⟨rfl, rfl, rfl⟩) (fun h => absurd h (by omega)))
      rw [w2, if_pos (by omega), if_pos (by omega)]
      rfl
    · obtain ⟨m, hl⟩ := Lines_as (strOfNums (List.replicate (1048576 + x) 97)) (by rw [strOfNums_size, List.length_replicate]; omega) (by rw [strOfNums_size, List.length_replicate]; omega) (by
        intro i h0 hi
        rw [strOfNums_size, List.length_replicate] at hi
        rw [bt_nums _ hb i (by rw [List.length_replicate]; omega)]
        simp only [rd, List.getD_eq_getElem?_getD]
        rw [List.getElem?_replicate_of_lt (by omega)]
        rfl)
      refine Ev.step (f := fun k => (lex_Lines.f k (strOfNums (List.replicate (1048576 + x) 97))).bind _) (fun k => by simp only [dendronlaw06_LexLong.l0]; rw [if_neg (by rw [List.length_replicate]; omega)]) (Ev.bind hl ?_)
      refine Ev.congr (fun k => ?_) (hmid [m] 0 0 (fun h => absurd h h1) (fun _ => ⟨rfl, rfl⟩))
      rw [w2, if_pos (by omega), if_pos (by omega)]
      rfl

end Go.Proofs.Ytdjogcmbkbamnaa.Pure
