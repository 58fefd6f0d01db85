/- The lines of any text of up to 3000 bytes are those that the document's byte-by-byte reader tells, or it and the program say the same place and reason why there are none. No condition. -/
import Derived.Test.YtdjogcmbkbamnaaPLexLinesx6
namespace Go.Proofs.Ytdjogcmbkbamnaa.Pure
open Go.RowKit Go.Proofs.Ytdjogcmbkbamnaa.PLexLines Go.Proofs.YtdjogcmbkbamnaaW.PrintWords Go.Proofs.YtdjogcmbkbamnaaW.PrintLast

theorem wrap_id {i : Int} (h0 : -9223372036854775808 ≤ i) (h : i ≤ 9223372036854775807) : wrap64 i = i := by
  unfold wrap64; omega

theorem bt_lo (s : ByteArray) (i : Int) : 0 ≤ bt s i := (bt_range s i).1
theorem bt_hi (s : ByteArray) (i : Int) : bt s i ≤ 255 := (bt_range s i).2

/-- May a byte stand in a word? -/
def inw (c : Int) : Bool := decide (c > 32) && decide (c < 127) && !(c == 35)
def blk (c : Int) : Bool := c == 32 || c == 9 || c == 13

theorem blank_eq (c : Int) : lex_blank.f c = some (blk c) := by
  unfold lex_blank.f blk
  by_cases h1 : c = 32
  · simp [h1]
  · by_cases h2 : c = 9
    · simp [h2]
    · simp [h1, h2]
theorem plain_eq (c : Int) : lex_plain.f c = some (decide (c > 32) && decide (c < 127)) := by
  unfold lex_plain.f
  by_cases h1 : c > 32
  · simp [h1]
  · simp [h1]
theorem inWord_eq (c : Int) : dendronlaw06_inWord.f c = some (inw c) := by
  unfold dendronlaw06_inWord.f inw
  by_cases h1 : c > 32
  · by_cases h2 : c < 127
    · simp [h1, h2, bne]
    · simp [h1, h2]
  · simp [h1]

/-- The token that a text's part is. -/
def tok (s : ByteArray) (a i : Int) : S30 := ⟨a, 0, s.extract a.toNat i.toNat⟩

theorem tok_snoc (s : ByteArray) (a i : Int) (h0 : 0 ≤ a) (h1 : a ≤ i) :
    s.extract a.toNat i.toNat ++ s.extract i.toNat (i + 1).toNat = s.extract a.toNat (i + 1).toNat := by
  rw [ByteArray.extract_append_extract]
  congr 1 <;> omega

theorem tok_none (s : ByteArray) (i : Int) : (⟨#[]⟩ : ByteArray) ++ s.extract i.toNat (i + 1).toNat = s.extract i.toNat (i + 1).toNat := by
  apply ByteArray.ext
  simp

theorem rd_last (l : List S30) (x : S30) : rd_T30 (l ++ [x]) (l.length : Int) = x := by
  simp [rd_T30, List.getD_eq_getElem?_getD]

theorem set_last (l : List S30) (x y : S30) : (l ++ [x]).set ((l.length : Int)).toNat y = l ++ [y] := by
  simp

abbrev Res := List S30 × Int × Int

/-- From a place on both readers of a line tell the same: between words, and inside one. -/
theorem words_same (s : ByteArray) (hs : s.size ≤ 140737488351232) (d : Nat) : ∀ i : Int, 0 ≤ i → i ≤ s.size → (s.size : Int) - i = d →
    (∀ out : List S30, out.length ≤ 4096 → ∃ r : Res, Ev (fun k => lex_Words.l0 k s out i) r ∧ Ev (fun k => dendronlaw06_words.l0 k s out false i) r ∧ r.1.length ≤ 4096) ∧
    (∀ (out : List S30) (a : Int), out.length < 4096 → 0 ≤ a → a ≤ i → ∃ r : Res, Ev (fun k => lex_Words.l1 k s out a i) r ∧ Ev (fun k => dendronlaw06_words.l0 k s (out ++ [tok s a i]) true i) r ∧ r.1.length ≤ 4096) := by
  induction d with
  | zero =>
    intro i h0 h1 hd
    have hn : ¬ i < (s.size : Int) := by omega
    constructor
    · intro out ho
      refine ⟨(out, 0, 0), ?_, ?_, ho⟩
      · exact Ev.step (fun k => by simp only [lex_Words.l0]; rw [if_neg hn]) (Ev.now _)
      · exact Ev.step (fun k => by simp only [dendronlaw06_words.l0]; rw [if_neg hn]) (Ev.now _)
    · intro out a ho ha0 ha
      refine ⟨(out ++ [tok s a i], 0, 0), ?_, ?_, by simp; omega⟩
      · refine Ev.step (f := fun k => lex_Words.l0 k s (out ++ [tok s a i]) i) (fun k => ?_) ?_
        · simp only [lex_Words.l1]
          rw [if_neg hn, if_pos ha0, if_pos ha, if_pos h1, if_pos (by omega)]
          rfl
        · exact Ev.step (fun k => by simp only [lex_Words.l0]; rw [if_neg hn]) (Ev.now _)
      · exact Ev.step (fun k => by simp only [dendronlaw06_words.l0]; rw [if_neg hn]) (Ev.now _)
  | succ d ih =>
    intro i h0 h1 hd
    have hlt : i < (s.size : Int) := by omega
    have hw : wrap64 (i + 1) = i + 1 := wrap_id (by omega) (by omega)
    obtain ⟨ihc, iho⟩ := ih (i + 1) (by omega) (by omega) (by omega)
    -- between words
    have hclosed : ∀ out : List S30, out.length ≤ 4096 → ∃ r : Res, Ev (fun k => lex_Words.l0 k s out i) r ∧ Ev (fun k => dendronlaw06_words.l0 k s out false i) r ∧ r.1.length ≤ 4096 := by
      intro out ho
      by_cases h35 : bt s i = 35
      · refine ⟨(out, 0, 0), ?_, ?_, ho⟩
        · exact Ev.step (fun k => by simp only [lex_Words.l0]; rw [if_pos hlt, if_pos h0, blank_eq, h35]; simp [blk]) (Ev.now _)
        · exact Ev.step (fun k => by simp only [dendronlaw06_words.l0]; rw [if_pos hlt, if_pos h0, if_pos h35]) (Ev.now _)
      · by_cases hb : blk (bt s i) = true
        · obtain ⟨r, hr1, hr2, hr3⟩ := ihc out ho
          refine ⟨r, ?_, ?_, hr3⟩
          · exact Ev.step (fun k => by simp only [lex_Words.l0]; rw [if_pos hlt, if_pos h0, blank_eq, hb]; simp only [Option.bind_some, if_true, hw]) hr1
          · refine Ev.step (fun k => ?_) hr2
            simp only [dendronlaw06_words.l0]
            rw [if_pos hlt, if_pos h0, if_neg h35, inWord_eq]
            have hi : inw (bt s i) = false := by
              simp only [blk, inw, Bool.or_eq_true, beq_iff_eq] at hb ⊢
              rcases hb with (hb | hb) | hb <;> rw [hb] <;> rfl
            rw [hi]
            simp only [Option.bind_some, hw]
            rw [if_neg (by simp)]
            simp only [blk, Bool.or_eq_true, beq_iff_eq] at hb
            rcases hb with (hb | hb) | hb
            · rw [if_pos hb]
            · rw [if_neg (by omega), if_pos hb]
            · rw [if_neg (by omega), if_neg (by omega), if_pos hb]
        · have hb' : blk (bt s i) = false := by simpa using hb
          have hb3 : bt s i ≠ 32 ∧ bt s i ≠ 9 ∧ bt s i ≠ 13 := by
            simp only [blk, Bool.or_eq_false_iff, beq_eq_false_iff_ne] at hb'
            exact ⟨hb'.1.1, hb'.1.2, hb'.2⟩
          by_cases hi : inw (bt s i) = true
          · have hp : (decide (bt s i > 32) && decide (bt s i < 127)) = true := by
              simp only [inw, Bool.and_eq_true] at hi
              simpa using hi.1
            by_cases hl : out.length < 4096
            · obtain ⟨r, hr1, hr2, hr3⟩ := iho out i hl h0 (by omega)
              refine ⟨r, ?_, ?_, hr3⟩
              · refine Ev.step (f := fun k => lex_Words.l1 k s out i i) (fun k => ?_) ?_
                · simp only [lex_Words.l0]
                  rw [if_pos hlt, if_pos h0, blank_eq, hb']
                  simp only [Option.bind_some]
                  rw [if_neg (by simp), if_neg h35, plain_eq, hp]
                  simp only [Option.bind_some, if_true]
                  rw [if_neg (by omega)]
                · refine Ev.step (fun k => ?_) hr1
                  simp only [lex_Words.l1]
                  rw [if_pos hlt, if_pos h0, plain_eq, hp]
                  simp only [Option.bind_some, if_true]
                  rw [if_neg h35, hw]
              · refine Ev.step (fun k => ?_) hr2
                simp only [dendronlaw06_words.l0]
                rw [if_pos hlt, if_pos h0, if_neg h35, inWord_eq, hi]
                simp only [Option.bind_some, if_true]
                rw [if_neg (by simp), if_neg (by omega), if_pos (by omega)]
                have hL : wrap64 (((out ++ [(⟨i, 0, (⟨#[]⟩ : ByteArray)⟩ : S30)]).length : Int) - 1) = (out.length : Int) := by
                  rw [List.length_append]; simp only [List.length_singleton]; rw [wrap_id (by omega) (by omega)]; omega
                simp only [hL, hw]
                have hz : (⟨#[]⟩ : ByteArray).size = 0 := rfl
                rw [if_pos (by omega), if_pos (by simp; omega), if_pos (by omega), if_pos (by omega), rd_last, set_last]
                simp only [tok_none, hz]
                rw [if_pos (by simp [ByteArray.size_extract]; omega)]
                rfl
            · refine ⟨([], i, 16), ?_, ?_, by simp⟩
              · refine Ev.step (fun k => ?_) (Ev.now _)
                simp only [lex_Words.l0]
                rw [if_pos hlt, if_pos h0, blank_eq, hb']
                simp only [Option.bind_some]
                rw [if_neg (by simp), if_neg h35, plain_eq, hp]
                simp only [Option.bind_some, if_true]
                rw [if_pos (by omega)]
              · refine Ev.step (fun k => ?_) (Ev.now _)
                simp only [dendronlaw06_words.l0]
                rw [if_pos hlt, if_pos h0, if_neg h35, inWord_eq, hi]
                simp only [Option.bind_some, if_true]
                rw [if_neg (by simp), if_pos (by omega)]
          · have hi' : inw (bt s i) = false := by simpa using hi
            have hp : (decide (bt s i > 32) && decide (bt s i < 127)) = false := by
              have : (bt s i == 35) = false := by simpa using h35
              simp only [inw, this, Bool.not_false, Bool.and_true] at hi'
              exact hi'
            refine ⟨([], i, 4), ?_, ?_, by simp⟩
            · refine Ev.step (fun k => ?_) (Ev.now _)
              simp only [lex_Words.l0]
              rw [if_pos hlt, if_pos h0, blank_eq, hb']
              simp only [Option.bind_some]
              rw [if_neg (by simp), if_neg h35, plain_eq, hp]
              simp only [Option.bind_some]
              rw [if_neg (by simp)]
            · refine Ev.step (fun k => ?_) (Ev.now _)
              simp only [dendronlaw06_words.l0]
              rw [if_pos hlt, if_pos h0, if_neg h35, inWord_eq, hi']
              simp only [Option.bind_some]
              rw [if_neg (by simp), if_neg hb3.1, if_neg hb3.2.1, if_neg hb3.2.2]
    refine ⟨hclosed, ?_⟩
    -- inside a word
    intro out a ho ha0 ha
    by_cases hi : inw (bt s i) = true
    · have hp : (decide (bt s i > 32) && decide (bt s i < 127)) = true := by
        simp only [inw, Bool.and_eq_true] at hi
        simpa using hi.1
      have h35 : bt s i ≠ 35 := by
        intro e; rw [e] at hi; exact absurd hi (by decide)
      obtain ⟨r, hr1, hr2, hr3⟩ := iho out a ho ha0 (by omega)
      refine ⟨r, ?_, ?_, hr3⟩
      · refine Ev.step (fun k => ?_) hr1
        simp only [lex_Words.l1]
        rw [if_pos hlt, if_pos h0, plain_eq, hp]
        simp only [Option.bind_some, if_true]
        rw [if_neg h35, hw]
      · refine Ev.step (fun k => ?_) hr2
        simp only [dendronlaw06_words.l0]
        rw [if_pos hlt, if_pos h0, if_neg h35, inWord_eq, hi]
        have hL : wrap64 (((out ++ [tok s a i]).length : Int) - 1) = (out.length : Int) := by
          rw [List.length_append]; simp only [List.length_singleton]; rw [wrap_id (by omega) (by omega)]; omega
        simp only [Option.bind_some, if_true, hL, hw]
        rw [if_pos (by omega), if_pos (by simp; omega), if_pos (by omega), if_pos (by omega), rd_last, set_last]
        simp only [tok, tok_snoc s a i ha0 ha]
        rw [if_pos (by simp [ByteArray.size_extract]; omega)]
    · have hi' : inw (bt s i) = false := by simpa using hi
      -- the word ends here: both go on as between words
      obtain ⟨r, hr1, hr2, hr3⟩ := hclosed (out ++ [tok s a i]) (by simp; omega)
      have hend : ∀ k, lex_Words.l1 (k + 1) s out a i = lex_Words.l0 k s (out ++ [tok s a i]) i := by
        intro k
        simp only [lex_Words.l1]
        rw [if_pos hlt, if_pos h0, plain_eq]
        simp only [Option.bind_some]
        by_cases hp : (decide (bt s i > 32) && decide (bt s i < 127)) = true
        · have h35 : bt s i = 35 := by
            by_cases h : bt s i = 35
            · exact h
            · have h' : (bt s i == 35) = false := by simpa using h
              simp only [inw, h', Bool.not_false, Bool.and_true] at hi'
              rw [hi'] at hp; exact absurd hp (by decide)
          rw [if_pos hp, if_pos h35, if_pos ha0, if_pos ha, if_pos h1, if_pos (by omega)]
          rfl
        · rw [if_neg hp, if_pos ha0, if_pos ha, if_pos h1, if_pos (by omega)]
          rfl
      refine ⟨r, Ev.step hend hr1, ?_, hr3⟩
      obtain ⟨K, hK⟩ := hr2
      refine ⟨K + 1, fun k hk => ?_⟩
      obtain ⟨k, rfl⟩ : ∃ m, k = m + 1 := ⟨k - 1, by omega⟩
      have h2 := hK (k + 1) (by omega)
      simp only [dendronlaw06_words.l0] at h2 ⊢
      rw [if_pos hlt, if_pos h0] at h2 ⊢
      by_cases h35 : bt s i = 35
      · rw [if_pos h35] at h2 ⊢; exact h2
      · rw [if_neg h35, inWord_eq, hi'] at h2 ⊢
        simp only [Option.bind_some] at h2 ⊢
        rw [if_neg (by simp)] at h2 ⊢
        exact h2

theorem Words_same (s : ByteArray) (hs : s.size ≤ 140737488351232) : ∃ r : Res, Ev (fun k => lex_Words.f k s) r ∧ Ev (fun k => dendronlaw06_words.f k s) r ∧ r.1.length ≤ 4096 :=
  (words_same s hs s.size 0 (by omega) (by omega) (by omega)).1 [] (by simp)


abbrev ResL := List (List S30) × Int × Int
def Few (l : List (List S30)) : Prop := l.length ≤ 16384 ∧ ∀ m ∈ l, m.length ≤ 4096

/-- The places of a line's words in the text: both loops do the same to any list. -/
theorem shift_same (s : ByteArray) (out : List (List S30)) (line at_ i : Int)
    (cont : ∀ m : List S30, m.length ≤ 4096 → ∃ r : ResL, Ev (fun k => if (m.length : Int) > 0 then (if out.length < 5864062014805 then lex_Lines.l0 k s (out ++ [m]) (wrap64 (line + 1)) (wrap64 (i + 1)) else none) else lex_Lines.l0 k s out (wrap64 (line + 1)) (wrap64 (i + 1))) r ∧
      Ev (fun k => if (m.length : Int) > 0 then (if out.length < 5864062014805 then dendronlaw06_lines.l0 k s (out ++ [m]) (wrap64 (i + 1)) (wrap64 (line + 1)) (wrap64 (i + 1)) else none) else dendronlaw06_lines.l0 k s out (wrap64 (i + 1)) (wrap64 (line + 1)) (wrap64 (i + 1))) r ∧ Few r.1)
    (d : Nat) : ∀ (m : List S30) (j n : Int), m.length ≤ 4096 → (m.length : Int) = n → 0 ≤ j → n - j = d →
    ∃ r : ResL, Ev (fun k => lex_Lines.l2 k s out line at_ i m n j) r ∧ Ev (fun k => dendronlaw06_lines.l1 k s out at_ line i m j) r ∧ Few r.1 := by
  induction d with
  | zero =>
    intro m j n hm hn h0 hd
    obtain ⟨r, h1, h2, h3⟩ := cont m hm
    refine ⟨r, Ev.step (fun k => ?_) h1, Ev.step (fun k => ?_) h2, h3⟩
    · simp only [lex_Lines.l2]
      rw [if_neg (by omega)]
    · simp only [dendronlaw06_lines.l1]
      rw [if_neg (by omega)]
  | succ d ih =>
    intro m j n hm hn h0 hd
    have hw : wrap64 (j + 1) = j + 1 := wrap_id (by omega) (by omega)
    obtain ⟨r, h1, h2, h3⟩ := ih ((m.set j.toNat ⟨wrap64 ((rd_T30 m j).f0 + at_), (rd_T30 m j).f1, (rd_T30 m j).f2⟩).set j.toNat ⟨(rd_T30 (m.set j.toNat ⟨wrap64 ((rd_T30 m j).f0 + at_), (rd_T30 m j).f1, (rd_T30 m j).f2⟩) j).f0, line, (rd_T30 (m.set j.toNat ⟨wrap64 ((rd_T30 m j).f0 + at_), (rd_T30 m j).f1, (rd_T30 m j).f2⟩) j).f2⟩) (j + 1) n (by simpa using hm) (by simpa using hn) (by omega) (by omega)
    refine ⟨r, Ev.step (fun k => ?_) h1, Ev.step (fun k => ?_) h2, h3⟩
    · simp only [lex_Lines.l2]
      rw [if_pos (by omega), if_pos h0, if_pos (by omega), hw]
      rfl
    · simp only [dendronlaw06_lines.l1]
      rw [if_pos (by omega), if_pos h0, hw]
      rfl

theorem long_line (s : ByteArray) (hs : s.size ≤ 140737488351232) (out : List (List S30)) (at_ line : Int) (hl : 16384 ≤ line) (d : Nat) : ∀ i : Int, 0 ≤ i → i ≤ s.size → (s.size : Int) - i = d →
    Ev (fun k => dendronlaw06_lines.l0 k s out at_ line i) ([], at_, 16) := by
  induction d with
  | zero =>
    intro i h0 h1 hd
    refine Ev.step (f := fun k => dendronlaw06_lines.j1 k s out at_ line i false) (fun k => ?_) (Ev.step (fun k => ?_) (Ev.now _))
    · simp only [dendronlaw06_lines.l0]
      rw [if_pos (by omega), if_neg (by omega)]
    · simp only [dendronlaw06_lines.j1]
      rw [if_neg (by simp), if_pos (by omega)]
  | succ d ih =>
    intro i h0 h1 hd
    have hw : wrap64 (i + 1) = i + 1 := wrap_id (by omega) (by omega)
    refine Ev.step (f := fun k => dendronlaw06_lines.j1 k s out at_ line i ((bt s i) != 10)) (fun k => ?_) ?_
    · simp only [dendronlaw06_lines.l0]
      rw [if_pos (by omega), if_pos (by omega), if_pos h0]
    · by_cases hb : bt s i = 10
      · refine Ev.step (fun k => ?_) (Ev.now _)
        simp only [dendronlaw06_lines.j1]
        rw [if_neg (by simp [hb]), if_pos (by omega)]
      · refine Ev.step (fun k => ?_) (ih (i + 1) (by omega) (by omega) (by omega))
        simp only [dendronlaw06_lines.j1]
        rw [if_pos (by simpa using hb), hw]

/-- From a place within a line on, and from a line's begin on, both tell the same. -/
theorem lines_same (s : ByteArray) (hs : s.size ≤ 1048576) (d : Nat) :
    (∀ (out : List (List S30)) (line at_ : Int), 0 ≤ line → line ≤ 16384 → out.length ≤ line → (∀ m ∈ out, m.length ≤ 4096) → 0 ≤ at_ → (s.size : Int) + 1 - at_ = d → at_ ≤ s.size + 1 →
      ∃ r : ResL, Ev (fun k => lex_Lines.l0 k s out line at_) r ∧ Ev (fun k => dendronlaw06_lines.l0 k s out at_ line at_) r ∧ Few r.1) ∧
    (∀ (out : List (List S30)) (line at_ i : Int), 0 ≤ line → line < 16384 → out.length ≤ line → (∀ m ∈ out, m.length ≤ 4096) → 0 ≤ at_ → at_ ≤ i → i ≤ s.size → (s.size : Int) + 1 - i = d →
      ∃ r : ResL, Ev (fun k => lex_Lines.l1 k s out line at_ i) r ∧ Ev (fun k => dendronlaw06_lines.l0 k s out at_ line i) r ∧ Few r.1) := by
  induction d with
  | zero =>
    constructor
    · intro out line at_ h0 h1 h2 h2' h3 hd h4
      refine ⟨(out, 0, 0), Ev.step (fun k => ?_) (Ev.now _), Ev.step (fun k => ?_) (Ev.now _), (by show out.length ≤ 16384; omega), h2'⟩
      · simp only [lex_Lines.l0]
        rw [if_neg (by omega)]
      · simp only [dendronlaw06_lines.l0]
        rw [if_neg (by omega)]
    · intro out line at_ i h0 h1 h2 h2' h3 h4 h5 hd
      omega
  | succ d ih =>
    obtain ⟨ihs, ihi⟩ := ih
    have inner : ∀ (out : List (List S30)) (line at_ i : Int), 0 ≤ line → line < 16384 → out.length ≤ line → (∀ m ∈ out, m.length ≤ 4096) → 0 ≤ at_ → at_ ≤ i → i ≤ s.size → (s.size : Int) + 1 - i = (d + 1 : Nat) →
      ∃ r : ResL, Ev (fun k => lex_Lines.l1 k s out line at_ i) r ∧ Ev (fun k => dendronlaw06_lines.l0 k s out at_ line i) r ∧ Few r.1 := by
      intro out line at_ i h0 h1 h2 h2' h3 h4 h5 hd
      have hw : wrap64 (i + 1) = i + 1 := wrap_id (by omega) (by omega)
      have hwl : wrap64 (line + 1) = line + 1 := wrap_id (by omega) (by omega)
      -- the line's end
      have hend : ∃ r : ResL, Ev (fun k => lex_Lines.j2 k s out line at_ i) r ∧ Ev (fun k => dendronlaw06_lines.j1 k s out at_ line i false) r ∧ Few r.1 := by
        obtain ⟨q, hq1, hq2, hq3⟩ := Words_same (s.extract at_.toNat i.toNat) (by simp [ByteArray.size_extract]; omega)
        by_cases he : q.2.2 = 0
        · obtain ⟨r, hr1, hr2, hr3⟩ := shift_same s out line at_ i (fun m hm4 => by
            by_cases hm : (m.length : Int) > 0
            · obtain ⟨r, hr1, hr2, hr3⟩ := ihs (out ++ [m]) (line + 1) (i + 1) (by omega) (by omega) (by simp; omega) (by intro x hx; rcases List.mem_append.1 hx with hx | hx; exact h2' x hx; rw [List.mem_singleton.1 hx]; exact hm4) (by omega) (by omega) (by omega)
              refine ⟨r, Ev.congr (fun k => ?_) hr1, Ev.congr (fun k => ?_) hr2, hr3⟩
              · rw [if_pos hm, if_pos (by omega), hw, hwl]
              · rw [if_pos hm, if_pos (by omega), hw, hwl]
            · obtain ⟨r, hr1, hr2, hr3⟩ := ihs out (line + 1) (i + 1) (by omega) (by omega) (by omega) h2' (by omega) (by omega) (by omega)
              refine ⟨r, Ev.congr (fun k => ?_) hr1, Ev.congr (fun k => ?_) hr2, hr3⟩
              · rw [if_neg hm, hw, hwl]
              · rw [if_neg hm, hw, hwl]) q.1.length q.1 0 q.1.length hq3 rfl (by omega) (by omega)
          refine ⟨r, Ev.step (f := fun k => (lex_Words.f k (s.extract at_.toNat i.toNat)).bind fun b => if b.2.2 = 0 then lex_Lines.l2 k s out line at_ i b.1 (b.1.length : Int) 0 else some ([], wrap64 (at_ + b.2.1), b.2.2)) (fun k => ?_) (Ev.bind hq1 ?_), Ev.step (f := fun k => (dendronlaw06_words.f k (s.extract at_.toNat i.toNat)).bind fun b => if b.2.2 = 0 then dendronlaw06_lines.l1 k s out at_ line i b.1 0 else some ([], wrap64 (at_ + b.2.1), b.2.2)) (fun k => ?_) (Ev.bind hq2 ?_), hr3⟩
          · simp only [lex_Lines.j2]
            rw [if_pos h3, if_pos h4, if_pos h5]
          · exact Ev.congr (fun k => by rw [if_pos he]) hr1
          · simp only [dendronlaw06_lines.j1]
            rw [if_neg (by simp), if_neg (by omega), if_pos h3, if_pos h4, if_pos h5]
          · exact Ev.congr (fun k => by rw [if_pos he]) hr2
        · refine ⟨([], wrap64 (at_ + q.2.1), q.2.2), Ev.step (f := fun k => (lex_Words.f k (s.extract at_.toNat i.toNat)).bind fun b => if b.2.2 = 0 then lex_Lines.l2 k s out line at_ i b.1 (b.1.length : Int) 0 else some ([], wrap64 (at_ + b.2.1), b.2.2)) (fun k => ?_) (Ev.bind hq1 ?_), Ev.step (f := fun k => (dendronlaw06_words.f k (s.extract at_.toNat i.toNat)).bind fun b => if b.2.2 = 0 then dendronlaw06_lines.l1 k s out at_ line i b.1 0 else some ([], wrap64 (at_ + b.2.1), b.2.2)) (fun k => ?_) (Ev.bind hq2 ?_), (by simp [Few])⟩
          · simp only [lex_Lines.j2]
            rw [if_pos h3, if_pos h4, if_pos h5]
          · exact Ev.congr (fun k => by rw [if_neg he]) (Ev.now _)
          · simp only [dendronlaw06_lines.j1]
            rw [if_neg (by simp), if_neg (by omega), if_pos h3, if_pos h4, if_pos h5]
          · exact Ev.congr (fun k => by rw [if_neg he]) (Ev.now _)
      by_cases hlt : i < (s.size : Int)
      · by_cases hb : bt s i = 10
        · obtain ⟨r, hr1, hr2, hr3⟩ := hend
          refine ⟨r, Ev.step (fun k => ?_) hr1, Ev.step (fun k => ?_) hr2, hr3⟩
          · simp only [lex_Lines.l1]
            rw [if_pos hlt, if_pos (by omega), if_pos hb]
          · simp only [dendronlaw06_lines.l0]
            rw [if_pos h5, if_pos hlt, if_pos (by omega), hb]
            rfl
        · obtain ⟨r, hr1, hr2, hr3⟩ := ihi out line at_ (i + 1) h0 h1 h2 h2' h3 (by omega) (by omega) (by omega)
          refine ⟨r, Ev.step (fun k => ?_) hr1, Ev.step (f := fun k => dendronlaw06_lines.j1 k s out at_ line i ((bt s i) != 10)) (fun k => ?_) (Ev.step (fun k => ?_) hr2), hr3⟩
          · simp only [lex_Lines.l1]
            rw [if_pos hlt, if_pos (by omega), if_neg hb, hw]
          · simp only [dendronlaw06_lines.l0]
            rw [if_pos h5, if_pos hlt, if_pos (by omega)]
          · simp only [dendronlaw06_lines.j1]
            rw [if_pos (by simpa using hb), hw]
      · obtain ⟨r, hr1, hr2, hr3⟩ := hend
        refine ⟨r, Ev.step (fun k => ?_) hr1, Ev.step (fun k => ?_) hr2, hr3⟩
        · simp only [lex_Lines.l1]
          rw [if_neg hlt]
        · simp only [dendronlaw06_lines.l0]
          rw [if_pos h5, if_neg hlt]
    refine ⟨?_, inner⟩
    intro out line at_ h0 h1 h2 h2' h3 hd h4
    have hle : at_ ≤ (s.size : Int) := by omega
    by_cases hl : line < 16384
    · obtain ⟨r, hr1, hr2, hr3⟩ := inner out line at_ at_ h0 hl h2 h2' h3 (by omega) hle hd
      refine ⟨r, Ev.step (fun k => ?_) hr1, hr2, hr3⟩
      simp only [lex_Lines.l0]
      rw [if_pos hle, if_neg (by omega)]
    · refine ⟨([], at_, 16), Ev.step (fun k => ?_) (Ev.now _), long_line s (by omega) out at_ line (by omega) d at_ h3 hle (by omega), (by simp [Few])⟩
      simp only [lex_Lines.l0]
      rw [if_pos hle, if_pos (by omega)]

theorem Lines_same (s : ByteArray) (hs : s.size ≤ 1048576) : ∃ r : ResL, Ev (fun k => lex_Lines.f k s) r ∧ Ev (fun k => dendronlaw06_lines.f k s) r ∧ Few r.1 := by
  obtain ⟨r, h1, h2, h3⟩ := (lines_same s hs (s.size + 1)).1 [] 0 0 (by omega) (by omega) (by simp) (by simp) (by omega) (by omega) (by omega)
  refine ⟨r, Ev.congr (fun k => ?_) h1, h2, h3⟩
  unfold lex_Lines.f
  rw [if_neg (by omega)]

theorem same_self (l : List S30) (hl : (l.length : Int) ≤ 9223372036854775806) (d : Nat) : ∀ j : Int, 0 ≤ j → j ≤ l.length → (l.length : Int) - j = d → Ev (fun k => dendronlaw06_same.l0 k l l j) true := by
  induction d with
  | zero =>
    intro j h0 h1 hd
    refine Ev.step (fun k => ?_) (Ev.now _)
    simp only [dendronlaw06_same.l0]
    rw [if_neg (by omega)]
  | succ d ih =>
    intro j h0 h1 hd
    refine Ev.step (fun k => ?_) (ih (j + 1) (by omega) (by omega) (by omega))
    simp only [dendronlaw06_same.l0]
    rw [if_pos (by omega), if_pos h0, if_pos (by omega), if_neg (by simp), wrap_id (by omega) (by omega)]

theorem awake_ev : Ev (fun k => dendronlaw06_awake.f k) true := Ev.of (fun k => dendronlaw06_awake.mono k) (k := 20) (by kernel_rfl)

theorem all_self (l : List (List S30)) (hl : Few l) (d : Nat) : ∀ j : Int, 0 ≤ j → j ≤ l.length → (l.length : Int) - j = d → Ev (fun k => dendronlaw06_LexLines.l0 k l l j) true := by
  induction d with
  | zero =>
    intro j h0 h1 hd
    refine Ev.step (f := fun k => (dendronlaw06_awake.f k).bind fun t => some t) (fun k => ?_) (Ev.bind awake_ev (Ev.now _))
    simp only [dendronlaw06_LexLines.l0]
    rw [if_neg (by omega)]
  | succ d ih =>
    intro j h0 h1 hd
    have hj : j.toNat < l.length := by omega
    have hm : rd_L3 l j ∈ l := by
      simp only [rd_L3, List.getD_eq_getElem?_getD, List.getElem?_eq_getElem hj, Option.getD_some]
      exact List.getElem_mem hj
    have h4 := hl.2 _ hm
    have hn := hl.1
    refine Ev.step (f := fun k => (dendronlaw06_same.f k (rd_L3 l j) (rd_L3 l j)).bind fun t => if t = true then dendronlaw06_LexLines.l0 k l l (wrap64 (j + 1)) else some false) (fun k => ?_) (Ev.bind (a := true) ?_ ?_)
    · simp only [dendronlaw06_LexLines.l0]
      rw [if_pos (by omega), if_pos h0, if_pos (by omega)]
    · refine Ev.congr (fun k => ?_) (same_self (rd_L3 l j) (by omega) (rd_L3 l j).length 0 (by omega) (by omega) (by omega))
      unfold dendronlaw06_same.f
      rw [if_pos rfl]
    · refine Ev.congr (fun k => ?_) (ih (j + 1) (by omega) (by omega) (by omega))
      rw [if_pos rfl, wrap_id (by omega) (by omega)]

theorem cut_ev (s : ByteArray) : ∃ t, dendronlaw06_cut.f s = some t ∧ t.size ≤ 3000 := by
  unfold dendronlaw06_cut.f
  by_cases h : (s.size : Int) > 3000
  · refine ⟨_, by rw [if_pos h, if_pos (by omega), if_pos (by omega)], ?_⟩
    simp [ByteArray.size_extract]; omega
  · exact ⟨_, by rw [if_neg h], by omega⟩

theorem LexLines : dendronlaw06_LexLines.Pure := by
  intro s _
  apply Ev.rounds
  obtain ⟨t, ht, h3⟩ := cut_ev s
  obtain ⟨r, h1, h2, hf⟩ := Lines_same t (by omega)
  refine Ev.congr (f := fun k => (lex_Lines.f k t).bind fun a => ((dendronlaw06_lines.f k t).bind fun b => (if a.2.1 = b.2.1 then (if a.2.2 = b.2.2 then (dendronlaw06_LexLines.j0 k a.1 b.1 ((a.1.length : Int) != (b.1.length : Int))) else (dendronlaw06_LexLines.j0 k a.1 b.1 true)) else (dendronlaw06_LexLines.j0 k a.1 b.1 true)))) (fun k => ?_) (Ev.bind h1 (Ev.bind h2 ?_))
  · unfold dendronlaw06_LexLines.f
    rw [ht]
    rfl
  · refine Ev.congr (f := fun k => dendronlaw06_LexLines.j0 k r.1 r.1 false) (fun k => ?_) (Ev.step (fun k => ?_) (all_self r.1 hf r.1.length 0 (by omega) (by omega) (by omega)))
    · rw [if_pos rfl, if_pos rfl]
      simp
    · simp only [dendronlaw06_LexLines.j0]
      rw [if_neg (by simp)]

end Go.Proofs.Ytdjogcmbkbamnaa.Pure
