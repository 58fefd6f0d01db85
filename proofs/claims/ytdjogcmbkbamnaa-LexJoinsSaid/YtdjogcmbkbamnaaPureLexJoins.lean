/- Words that are set together with blanks between them are read as just these words. No condition. -/
import Derived.Test.YtdjogcmbkbamnaaPLexJoinsx3
namespace Go.Proofs.Ytdjogcmbkbamnaa.Pure
open Go.RowKit Go.Proofs.Ytdjogcmbkbamnaa.PLexJoins Go.Proofs.YtdjogcmbkbamnaaW.PrintWords Go.Proofs.YtdjogcmbkbamnaaW.PrintLast

namespace Joins
theorem wrap_id {i : Int} (h0 : -9223372036854775808 ≤ i) (h : i ≤ 9223372036854775807) : wrap64 i = i := by
  unfold wrap64; omega

theorem bt_left (a b : ByteArray) (i : Int) (h : i.toNat < a.size) : bt (a ++ b) i = bt a i := by
  unfold bt
  rw [dif_pos h, dif_pos (by rw [ByteArray.size_append]; omega)]
  congr 2
  exact ByteArray.getElem_append_left h
theorem bt_right (a b : ByteArray) (i : Int) (h0 : 0 ≤ i) : bt (a ++ b) (a.size + i) = bt b i := by
  have e : ((a.size : Int) + i).toNat = a.size + i.toNat := by omega
  unfold bt
  by_cases h : i.toNat < b.size
  · rw [dif_pos h, dif_pos (by rw [ByteArray.size_append, e]; omega)]
    congr 2
    simp only [e]
    rw [ByteArray.getElem_append_right (by omega)]
    congr 1
    omega
  · rw [dif_neg h, dif_neg (by rw [ByteArray.size_append, e]; omega)]
theorem ext_left (a b : ByteArray) (i j : Nat) (h : j ≤ a.size) : (a ++ b).extract i j = a.extract i j := by
  apply ByteArray.ext
  simp [Array.extract_append]
  omega
theorem ext_right (a b : ByteArray) : (a ++ b).extract a.size (a.size + b.size) = b := by
  apply ByteArray.ext
  simp [Array.extract_append]
  rw [show a.size = a.data.size from rfl, Array.extract_empty_of_size_le_start (Nat.le_refl _), show b.data.extract 0 b.size = b.data from Array.extract_size, Array.empty_append]

def inw (c : Int) : Bool := decide (c > 32) && decide (c < 127) && !(c == 35)
theorem inWord_eq (c : Int) : dendronlaw06_inWord.f c = some (inw c) := by
  unfold dendronlaw06_inWord.f inw
  by_cases h1 : c > 32 <;> by_cases h2 : c < 127 <;> by_cases h3 : c = 35 <;> simp [h1, h2, h3, bne]
theorem plain_eq (c : Int) : lex_plain.f c = some (decide (c > 32) && decide (c < 127)) := by
  unfold lex_plain.f
  by_cases h1 : c > 32 <;> simp [h1]
theorem blank_of {c : Int} (h : c = 32 ∨ c = 9 ∨ c = 13) : lex_blank.f c = some true := by
  rcases h with rfl | rfl | rfl <;> decide
theorem blank_in {c : Int} (h : inw c = true) : lex_blank.f c = some false ∧ lex_plain.f c = some true ∧ c ≠ 35 := by
  simp only [inw, Bool.and_eq_true, decide_eq_true_eq, Bool.not_eq_true', beq_eq_false_iff_ne] at h
  obtain ⟨⟨h1, h2⟩, h3⟩ := h
  refine ⟨?_, ?_, h3⟩
  · unfold lex_blank.f
    rw [if_neg (by omega), if_neg (by omega), beq_eq_false_iff_ne.mpr (by omega)]
  · rw [plain_eq, decide_eq_true h1, decide_eq_true h2]; rfl

/-- A blank: some bytes, each blank. -/
def IsB (b : ByteArray) : Prop := 0 < b.size ∧ b.size ≤ 3 ∧ ∀ i : Int, 0 ≤ i → i < b.size → bt b i = 32 ∨ bt b i = 9 ∨ bt b i = 13
/-- A word. -/
def IsW (b : ByteArray) : Prop := 0 < b.size ∧ b.size ≤ 40 ∧ ∀ i : Int, 0 ≤ i → i < b.size → inw (bt b i) = true

/-- A text of words, the words, and where they stand. -/
inductive Js : ByteArray → List ByteArray → List S30 → Prop
  | nil : Js ⟨#[]⟩ [] []
  | snoc {s : ByteArray} {all : List ByteArray} {m : List S30} (b w : ByteArray) : Js s all m → IsB b → IsW w → Js ((s ++ b) ++ w) (all ++ [w]) (m ++ [⟨((s ++ b).size : Nat), 0, w⟩])

theorem Js.len {s all m} (h : Js s all m) : m.length = all.length ∧ s.size ≤ 43 * all.length := by
  induction h with
  | nil => exact ⟨rfl, Nat.le_refl _⟩
  | snoc b w _ hb hw ih =>
    simp only [List.length_append, ByteArray.size_append, List.length_cons, List.length_nil]
    have := hb.2.1
    have := hw.2.1
    omega

theorem Js.at {s all m} (h : Js s all m) : ∀ j : Nat, j < m.length → (m.getD j ⟨0, 0, ⟨#[]⟩⟩).f2 = all.getD j ByteArray.empty ∧
    ∃ a : Nat, (m.getD j ⟨0, 0, ⟨#[]⟩⟩).f0 = a ∧ a + (all.getD j ByteArray.empty).size ≤ s.size ∧ s.extract a (a + (all.getD j ByteArray.empty).size) = all.getD j ByteArray.empty := by
  induction h with
  | nil => intro j hj; simp at hj
  | @snoc s all m b w hJ hb hw ih =>
    intro j hj
    have hl := hJ.len.1
    by_cases hlt : j < m.length
    · obtain ⟨h1, a, h2, h3, h4⟩ := ih j hlt
      rw [List.getD_eq_getElem?_getD, List.getElem?_append_left hlt, ← List.getD_eq_getElem?_getD, List.getD_eq_getElem?_getD (l := all ++ [w]), List.getElem?_append_left (by omega), ← List.getD_eq_getElem?_getD]
      refine ⟨h1, a, h2, ?_, ?_⟩
      · simp only [ByteArray.size_append]; omega
      · rw [ext_left _ _ _ _ (by simp only [ByteArray.size_append]; omega), ext_left _ _ _ _ h3, h4]
    · obtain rfl : j = m.length := by simp at hj; omega
      have e1 : (m ++ [(⟨((s ++ b).size : Nat), 0, w⟩ : S30)]).getD m.length ⟨0, 0, ⟨#[]⟩⟩ = ⟨((s ++ b).size : Nat), 0, w⟩ := by simp
      have e2 : (all ++ [w]).getD m.length ByteArray.empty = w := by rw [hl]; simp
      rw [e1, e2]
      exact ⟨rfl, _, rfl, by rw [ByteArray.size_append (a := s ++ b)]; exact Nat.le_refl _, ext_right _ _⟩

abbrev Res := List S30 × Int × Int

/-- Over a blank. -/
theorem over_blank (X s b T : ByteArray) (m : List S30) (r : Res) (hX : X = s ++ (b ++ T)) (hs : X.size ≤ 1000000) (hb : IsB b)
    (h : Ev (fun k => lex_Words.l0 k X m ((s.size : Int) + b.size)) r) (d : Nat) : ∀ i : Int, 0 ≤ i → i + d = b.size → Ev (fun k => lex_Words.l0 k X m ((s.size : Int) + i)) r := by
  have hz : X.size = s.size + (b.size + T.size) := by rw [hX, ByteArray.size_append, ByteArray.size_append]
  induction d with
  | zero =>
    intro i h0 hi
    obtain rfl : i = b.size := by omega
    exact h
  | succ d ih =>
    intro i h0 hi
    refine Ev.step (fun k => ?_) (ih (i + 1) (by omega) (by omega))
    have hb' : bt X ((s.size : Int) + i) = bt b i := by
      rw [hX, bt_right _ _ _ h0, bt_left _ _ _ (by omega)]
    simp only [lex_Words.l0]
    rw [if_pos (by omega), if_pos (by omega), hb', blank_of (hb.2.2 i h0 (by omega))]
    simp only [Option.bind_some, if_true]
    rw [wrap_id (by omega) (by omega), Int.add_assoc]

/-- Over a word. -/
theorem over_word (X s w T : ByteArray) (m : List S30) (r : Res) (hX : X = s ++ (w ++ T)) (hs : X.size ≤ 1000000) (hw : IsW w) (hm : m.length < 4096) (hT : 0 < T.size) (hT0 : inw (bt T 0) = false)
    (h : Ev (fun k => lex_Words.l0 k X (m ++ [⟨(s.size : Nat), 0, w⟩]) ((s.size : Int) + w.size)) r) : Ev (fun k => lex_Words.l0 k X m (s.size : Int)) r := by
  have hz : X.size = s.size + (w.size + T.size) := by rw [hX, ByteArray.size_append, ByteArray.size_append]
  have hb : ∀ i : Int, 0 ≤ i → i < w.size → inw (bt X ((s.size : Int) + i)) = true := by
    intro i h0 hi
    rw [hX, bt_right _ _ _ h0, bt_left _ _ _ (by omega)]
    exact hw.2.2 i h0 hi
  have he : inw (bt X ((s.size : Int) + w.size)) = false := by
    rw [hX, bt_right _ _ _ (by omega), show (w.size : Int) = (w.size : Int) + 0 by omega, bt_right _ _ _ (by omega)]
    exact hT0
  have hx : X.extract ((s.size : Int)).toNat ((s.size : Int) + w.size).toNat = w := by
    rw [hX, show ((s.size : Int)).toNat = s.size by omega, show ((s.size : Int) + w.size).toNat = s.size + w.size by omega, ← ByteArray.append_assoc, ext_left _ _ _ _ (by rw [ByteArray.size_append]; omega), ext_right]
  have hl1 : ∀ d : Nat, ∀ i : Int, 0 ≤ i → i + d = w.size → Ev (fun k => lex_Words.l1 k X m (s.size : Int) ((s.size : Int) + i)) r := by
    intro d
    induction d with
    | zero =>
      intro i h0 hi
      obtain rfl : i = w.size := by omega
      refine Ev.step (fun k => ?_) h
      simp only [lex_Words.l1]
      rw [if_pos (by omega), if_pos (by omega), plain_eq, hx]
      simp only [Option.bind_some]
      by_cases hp : (decide (bt X ((s.size : Int) + w.size) > 32) && decide (bt X ((s.size : Int) + w.size) < 127)) = true
      · rw [if_pos hp, if_pos (by
          unfold inw at he
          rw [hp] at he
          simpa using he), if_pos (by omega), if_pos (by omega), if_pos (by omega), if_pos (by omega)]
      · rw [if_neg hp, if_pos (by omega), if_pos (by omega), if_pos (by omega), if_pos (by omega)]
    | succ d ih =>
      intro i h0 hi
      refine Ev.step (fun k => ?_) (ih (i + 1) (by omega) (by omega))
      obtain ⟨_, h2, h3⟩ := blank_in (hb i h0 (by omega))
      simp only [lex_Words.l1]
      rw [if_pos (by omega), if_pos (by omega), h2]
      simp only [Option.bind_some, if_true]
      rw [if_neg h3, wrap_id (by omega) (by omega), Int.add_assoc]
  have hb0 := hb 0 (by omega) (by have := hw.1; omega)
  rw [Int.add_zero] at hb0
  obtain ⟨h1, h2, h3⟩ := blank_in hb0
  have hw0 := hw.1
  refine Ev.step (fun k => ?_) (by simpa using hl1 w.size 0 (by omega) (by omega))
  simp only [lex_Words.l0]
  rw [if_pos (by omega), if_pos (by omega), h1]
  simp only [Option.bind_some]
  rw [if_neg (by simp), if_neg h3, h2]
  simp only [Option.bind_some, if_true]
  rw [if_neg (by omega)]

theorem scan {s all m} (h : Js s all m) : ∀ (T : ByteArray) (r : Res), 0 < T.size → inw (bt T 0) = false → (s ++ T).size ≤ 1000000 → all.length ≤ 4096 →
    Ev (fun k => lex_Words.l0 k (s ++ T) m (s.size : Int)) r → Ev (fun k => lex_Words.l0 k (s ++ T) [] 0) r := by
  induction h with
  | nil => intro T r _ _ _ _ h; exact h
  | @snoc s all m b w hJ hb hw ih =>
    intro T r hT hT0 hz hn h
    have hl := hJ.len.1
    have e : (s ++ b) ++ w ++ T = s ++ (b ++ (w ++ T)) := by simp only [ByteArray.append_assoc]
    have e2 : (s ++ b) ++ w ++ T = (s ++ b) ++ (w ++ T) := by simp only [ByteArray.append_assoc]
    simp only [List.length_append, List.length_cons, List.length_nil] at hn
    have hb0 : inw (bt (b ++ (w ++ T)) 0) = false := by
      rw [bt_left _ _ _ (by have := hb.1; omega)]
      rcases hb.2.2 0 (by omega) (by have := hb.1; omega) with h | h | h <;> rw [h] <;> decide
    rw [e]
    refine ih (b ++ (w ++ T)) r (by rw [ByteArray.size_append]; have := hb.1; omega) hb0 (by rw [← e]; exact hz) (by omega) ?_
    rw [← e]
    have hbl := over_blank ((s ++ b) ++ w ++ T) s b (w ++ T) m r e hz hb ?_ b.size 0 (by omega) (by omega)
    · simpa using hbl
    · have := over_word ((s ++ b) ++ w ++ T) (s ++ b) w T m r e2 hz hw (by omega) hT hT0 (by
        have hh : ((s ++ b) ++ w).size = (s ++ b).size + w.size := ByteArray.size_append
        rw [hh, Int.natCast_add] at h
        exact h)
      rw [ByteArray.size_append, Int.natCast_add] at this
      exact this

theorem words_of {s all m} (h : Js s all m) (hn : all.length ≤ 60) : Ev (fun k => lex_Words.f k (s ++ ⟨#[35, 32, 109, 111, 114, 101]⟩)) (m, 0, 0) := by
  have hz := h.len.2
  have hx : (s ++ (⟨#[35, 32, 109, 111, 114, 101]⟩ : ByteArray)).size = s.size + 6 := by rw [ByteArray.size_append]; rfl
  refine scan h _ _ (by decide) (by decide) (by omega) (by omega) ?_
  refine Ev.step (fun k => ?_) (Ev.now _)
  have hb : bt (s ++ (⟨#[35, 32, 109, 111, 114, 101]⟩ : ByteArray)) (s.size : Int) = 35 := by
    have := bt_right s ⟨#[35, 32, 109, 111, 114, 101]⟩ 0 (by omega)
    rw [Int.add_zero] at this
    rw [this]; decide
  simp only [lex_Words.l0]
  rw [if_pos (by omega), if_pos (by omega), hb, show lex_blank.f 35 = some false by decide]
  rfl

theorem awake_ev : Ev (fun k => dendronlaw06_awake.f k) true := Ev.of (fun k => dendronlaw06_awake.mono k) (k := 20) (by kernel_rfl)

theorem same_all {s all m} (h : Js s all m) (hn : all.length ≤ 60) (d : Nat) : ∀ j : Int, 0 ≤ j → j + d = m.length → Ev (fun k => dendronlaw06_LexJoins.l2 k s all m j) true := by
  have hl := h.len
  induction d with
  | zero =>
    intro j h0 hj
    refine Ev.step (fun k => ?_) (Ev.bind (f := fun _ t => some t) awake_ev (Ev.now _))
    simp only [dendronlaw06_LexJoins.l2]
    rw [if_neg (by omega)]
  | succ d ih =>
    intro j h0 hj
    refine Ev.step (fun k => ?_) (ih (j + 1) (by omega) (by omega))
    obtain ⟨h1, a, h2, h3, h4⟩ := h.at j.toNat (by omega)
    have e1 : rd_T30 m j = m.getD j.toNat ⟨0, 0, ⟨#[]⟩⟩ := rfl
    have e2 : rdOf ByteArray.empty all j = all.getD j.toNat ByteArray.empty := rfl
    have e3 : wrap64 ((a : Int) + ((all.getD j.toNat ByteArray.empty).size : Int)) = ((a + (all.getD j.toNat ByteArray.empty).size : Nat) : Int) := by
      rw [wrap_id (by omega) (by omega)]; omega
    simp only [dendronlaw06_LexJoins.l2]
    rw [if_pos (by omega), if_pos h0, if_pos (by omega), e1, e2, h1, if_pos rfl, h2, e3, if_pos (by omega), if_pos (by omega), if_pos (by omega), Int.toNat_natCast, Int.toNat_natCast, h4, if_pos rfl, wrap_id (by omega) (by omega)]

/-- What stands behind the last word. -/
theorem tail_ev {s all m} (h : Js s all m) (hn : all.length ≤ 60) (l : List ByteArray) (bs : List Int) (j : Int) (hj : ¬ (j < (l.length : Int) ∧ j < 60)) :
    Ev (fun k => dendronlaw06_LexJoins.l0 k l bs s all j) true := by
  have hl := h.len
  have key : Ev (fun k => dendronlaw06_LexJoins.j1 k l bs s all j false) true := by
    refine Ev.step (fun k => ?_) (Ev.bind (words_of h hn) (f := fun k bt158 => if bt158.2.2 = 0 then (dendronlaw06_LexJoins.j6 k s all bt158.1 ((bt158.1.length : Int) != (all.length : Int))) else (dendronlaw06_LexJoins.j6 k s all bt158.1 true)) ?_)
    · simp only [dendronlaw06_LexJoins.j1]
      rw [if_neg (by simp), if_pos (by omega)]
    · refine Ev.step (fun k => ?_) (same_all h hn m.length 0 (by omega) (by omega))
      simp only [if_true]
      rw [show ((m.length : Int) != (all.length : Int)) = false by rw [hl.1]; simp]
      simp only [dendronlaw06_LexJoins.j6]
      rw [if_neg (by simp)]
  refine Ev.step (fun k => ?_) key
  simp only [dendronlaw06_LexJoins.l0]
  by_cases hc : j < (l.length : Int)
  · rw [if_pos hc, decide_eq_false (by omega)]
  · rw [if_neg hc]

/-- A word joins. -/
theorem join_ev (l : List ByteArray) (bs : List Int) (s : ByteArray) (all : List ByteArray) (j : Int) (h0 : 0 ≤ j) (hj : j < (l.length : Int)) (hj6 : j < 60) (hs : s.size ≤ 43 * 60) (ha : all.length ≤ 60)
    (hz : (rdOf ByteArray.empty l j).size ≤ 40) (r : Bool)
    (h : ∀ b, IsB b → Ev (fun k => dendronlaw06_LexJoins.l0 k l bs ((s ++ b) ++ rdOf ByteArray.empty l j) (all ++ [rdOf ByteArray.empty l j]) (j + 1)) r) :
    Ev (fun k => dendronlaw06_LexJoins.j4 k l bs s all j true) r := by
  have hb1 : IsB ⟨#[32]⟩ := ⟨by decide, by decide, fun i h0 h1 => by
    obtain rfl : i = 0 := by simp [ByteArray.size] at h1; omega
    decide⟩
  have hb2 : IsB ⟨#[9]⟩ := ⟨by decide, by decide, fun i h0 h1 => by
    obtain rfl : i = 0 := by simp [ByteArray.size] at h1; omega
    decide⟩
  have hb3 : IsB ⟨#[32, 13, 32]⟩ := ⟨by decide, by decide, fun i h0 h1 => by
    have : i = 0 ∨ i = 1 ∨ i = 2 := by simp [ByteArray.size] at h1; omega
    rcases this with rfl | rfl | rfl <;> decide⟩
  have z1 : (⟨#[32]⟩ : ByteArray).size = 1 := rfl
  have z2 : (⟨#[9]⟩ : ByteArray).size = 1 := rfl
  have z3 : (⟨#[32, 13, 32]⟩ : ByteArray).size = 3 := rfl
  have hwr : wrap64 (j + 1) = j + 1 := wrap_id (by omega) (by omega)
  have e1 : Ev (fun k => dendronlaw06_LexJoins.j5 k l bs s all j ⟨#[32]⟩ true) r ∧ Ev (fun k => dendronlaw06_LexJoins.j5 k l bs s all j ⟨#[32]⟩ false) r := by
    constructor
    · by_cases c1 : j < (bs.length : Int)
      · by_cases c2 : Int.tmod (rd bs j) 3 = 2
        · refine Ev.step (fun k => ?_) (h _ hb3)
          simp only [dendronlaw06_LexJoins.j5]
          rw [if_pos trivial, if_pos c1, if_pos h0, if_pos c2, if_pos (by omega), if_pos hj, if_pos (by simp only [ByteArray.size_append]; omega), if_pos (by omega), hwr]
        · refine Ev.step (fun k => ?_) (h _ hb2)
          simp only [dendronlaw06_LexJoins.j5]
          rw [if_pos trivial, if_pos c1, if_pos h0, if_neg c2, if_pos (by omega), if_pos hj, if_pos (by simp only [ByteArray.size_append]; omega), if_pos (by omega), hwr]
      · refine Ev.step (fun k => ?_) (h _ hb2)
        simp only [dendronlaw06_LexJoins.j5]
        rw [if_pos trivial, if_neg c1, if_pos (by omega), if_pos h0, if_pos hj, if_pos (by simp only [ByteArray.size_append]; omega), if_pos (by omega), hwr]
    · by_cases c1 : j < (bs.length : Int)
      · by_cases c2 : Int.tmod (rd bs j) 3 = 2
        · refine Ev.step (fun k => ?_) (h _ hb3)
          simp only [dendronlaw06_LexJoins.j5]
          rw [if_neg (by simp), if_pos c1, if_pos h0, if_pos c2, if_pos (by omega), if_pos hj, if_pos (by simp only [ByteArray.size_append]; omega), if_pos (by omega), hwr]
        · refine Ev.step (fun k => ?_) (h _ hb1)
          simp only [dendronlaw06_LexJoins.j5]
          rw [if_neg (by simp), if_pos c1, if_pos h0, if_neg c2, if_pos (by omega), if_pos hj, if_pos (by simp only [ByteArray.size_append]; omega), if_pos (by omega), hwr]
      · refine Ev.step (fun k => ?_) (h _ hb1)
        simp only [dendronlaw06_LexJoins.j5]
        rw [if_neg (by simp), if_neg c1, if_pos (by omega), if_pos h0, if_pos hj, if_pos (by simp only [ByteArray.size_append]; omega), if_pos (by omega), hwr]
  by_cases c1 : j < (bs.length : Int)
  · cases hb : (Int.tmod (rd bs j) 3 == 1) with
    | true =>
      refine Ev.step (fun k => ?_) e1.1
      simp only [dendronlaw06_LexJoins.j4]
      rw [if_pos trivial, if_pos c1, if_pos h0, hb]
    | false =>
      refine Ev.step (fun k => ?_) e1.2
      simp only [dendronlaw06_LexJoins.j4]
      rw [if_pos trivial, if_pos c1, if_pos h0, hb]
  · refine Ev.step (fun k => ?_) e1.2
    simp only [dendronlaw06_LexJoins.j4]
    rw [if_pos trivial, if_neg c1]

theorem main (l : List ByteArray) (bs : List Int) (d : Nat) : ∀ (j : Int) (s : ByteArray) (all : List ByteArray) (m : List S30), Js s all m → 0 ≤ j → (all.length : Int) ≤ j → j + d = 60 →
    Ev (fun k => dendronlaw06_LexJoins.l0 k l bs s all j) true := by
  induction d with
  | zero =>
    intro j s all m h h0 ha hd
    exact tail_ev h (by omega) l bs j (by omega)
  | succ d ih =>
    intro j s all m h h0 ha hd
    by_cases hj : j < (l.length : Int)
    · have hs := h.len.2
      have hwr : wrap64 (j + 1) = j + 1 := wrap_id (by omega) (by omega)
      -- a word that is none is left out
      have hout : Ev (fun k => dendronlaw06_LexJoins.j4 k l bs s all j false) true := by
        refine Ev.step (fun k => ?_) (ih (j + 1) s all m h (by omega) (by omega) (by omega))
        simp only [dendronlaw06_LexJoins.j4]
        rw [if_neg (by simp), hwr]
      have hstop : ∀ i : Int, 0 ≤ i → Ev (fun k => dendronlaw06_LexJoins.l1 k l bs s all j false i) true := by
        intro i hi
        refine Ev.step (f := fun k => dendronlaw06_LexJoins.j4 k l bs s all j false) (fun k => ?_) hout
        simp only [dendronlaw06_LexJoins.l1]
        rw [if_pos h0, if_pos hj]
        by_cases c : i < ((rdOf ByteArray.empty l j).size : Int)
        · rw [if_pos c, if_neg (by simp)]
        · rw [if_neg c]
      have hscan : 0 < (rdOf ByteArray.empty l j).size → (rdOf ByteArray.empty l j).size ≤ 40 → ∀ e : Nat, ∀ i : Int, 0 ≤ i → i + e = ((rdOf ByteArray.empty l j).size : Int) → (∀ q : Int, 0 ≤ q → q < i → inw (bt (rdOf ByteArray.empty l j) q) = true) →
          Ev (fun k => dendronlaw06_LexJoins.l1 k l bs s all j true i) true := by
        intro hp hq e
        induction e with
        | zero =>
          intro i hi he hall
          have hW : IsW (rdOf ByteArray.empty l j) := ⟨hp, hq, fun q h1 h2 => hall q h1 (by omega)⟩
          refine Ev.step (f := fun k => dendronlaw06_LexJoins.j4 k l bs s all j true) (fun k => ?_) (join_ev l bs s all j h0 hj (by omega) (by omega) (by omega) hq true fun b hb => ?_)
          · simp only [dendronlaw06_LexJoins.l1]
            rw [if_pos h0, if_pos hj, if_neg (by omega)]
          · exact ih (j + 1) _ _ _ (Js.snoc b _ h hb hW) (by omega) (by simp only [List.length_append, List.length_cons, List.length_nil]; omega) (by omega)
        | succ e ihe =>
          intro i hi he hall
          have hwi : wrap64 (i + 1) = i + 1 := wrap_id (by omega) (by omega)
          cases hb : inw (bt (rdOf ByteArray.empty l j) i) with
          | true =>
            refine Ev.step (fun k => ?_) (ihe (i + 1) (by omega) (by omega) (fun q h1 h2 => by
              by_cases hqi : q < i
              · exact hall q h1 hqi
              · obtain rfl : q = i := by omega
                exact hb))
            simp only [dendronlaw06_LexJoins.l1]
            rw [if_pos h0, if_pos hj, if_pos (by omega), if_pos trivial, if_pos hi, inWord_eq, hb, hwi]
            rfl
          | false =>
            refine Ev.step (fun k => ?_) (hstop (i + 1) (by omega))
            simp only [dendronlaw06_LexJoins.l1]
            rw [if_pos h0, if_pos hj, if_pos (by omega), if_pos trivial, if_pos hi, inWord_eq, hb, hwi]
            rfl
      have hj2 : ∀ b, (b = true → 0 < (rdOf ByteArray.empty l j).size ∧ (rdOf ByteArray.empty l j).size ≤ 40) → Ev (fun k => dendronlaw06_LexJoins.j2 k l bs s all j b) true := by
        intro b hb
        refine Ev.step (f := fun k => dendronlaw06_LexJoins.l1 k l bs s all j b 0) (fun k => by simp only [dendronlaw06_LexJoins.j2]) ?_
        cases b with
        | false => exact hstop 0 (by omega)
        | true => exact hscan (hb rfl).1 (hb rfl).2 (rdOf ByteArray.empty l j).size 0 (by omega) (by omega) (fun q h1 h2 => by omega)
      refine Ev.step (f := fun k => dendronlaw06_LexJoins.j1 k l bs s all j true) (fun k => ?_) ?_
      · simp only [dendronlaw06_LexJoins.l0]
        rw [if_pos hj, decide_eq_true (by omega)]
      · by_cases he : (rdOf ByteArray.empty l j).toList = ([] : List UInt8)
        · refine Ev.step (fun k => ?_) (hj2 false (by simp))
          simp only [dendronlaw06_LexJoins.j1]
          rw [if_pos trivial, if_pos h0, if_pos hj, if_pos he]
        · refine Ev.step (fun k => ?_) (hj2 (decide (((rdOf ByteArray.empty l j).size : Int) ≤ 40)) (fun hb => ⟨?_, by have := of_decide_eq_true hb; omega⟩))
          · simp only [dendronlaw06_LexJoins.j1]
            rw [if_pos trivial, if_pos h0, if_pos hj, if_neg he]
          · apply Nat.pos_of_ne_zero
            intro hz
            apply he
            have : rdOf ByteArray.empty l j = ByteArray.empty := ByteArray.ext (Array.eq_empty_of_size_eq_zero hz)
            rw [this]
            unfold ByteArray.toList ByteArray.toList.loop
            rfl
    · exact tail_ev h (by omega) l bs j (by omega)

end Joins
/-- What the law computes is true. -/
theorem LexJoins (l : List ByteArray) (bs : List Int) : ∃ k, dendronlaw06_LexJoins.f k l bs = some true :=
  (Joins.main l bs 60 0 _ _ _ Joins.Js.nil (by omega) (by simp) (by omega)).rounds

end Go.Proofs.Ytdjogcmbkbamnaa.Pure
