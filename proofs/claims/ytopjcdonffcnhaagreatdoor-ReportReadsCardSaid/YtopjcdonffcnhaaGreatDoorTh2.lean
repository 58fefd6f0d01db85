/- What the told functions answer, part 2. No condition. -/
import Derived.Test.YtopjcdonffcnhaaGreatDoorTh1
import Derived.Laws.RangeAny
import Derived.Laws.RangeString
set_option linter.all false
namespace Go.DI.Th
open Go Go.RowKit Go.DI

def smallL : Nat → List UInt8 → Option Nat
  | acc, [] => some acc
  | acc, c :: r => if c.toNat < 48 ∨ 57 < c.toNat then none else smallL (min (10 * acc + (c.toNat - 48)) 1000000000) r
def smallS (l : List UInt8) : Option Nat := if l = [] then none else if 1 < l.length ∧ l.head? = some 48 then none else smallL 0 l
def optB (o : Option Nat) : Int × Bool := match o with
  | some n => ((n : Int), true)
  | none => (0, false)
theorem toBytes_toL (x : ByteArray) : toBytes x = (toL x).map fun b => (b.toNat : Int) := rfl
theorem small_l0 (l : List UInt8) (hl : l.length ≤ 1125899906842624) : ∀ (b a : List UInt8) (acc : Nat), l = a ++ b → acc ≤ 1000000000 →
    Ev (fun k => lex_small.l0 k (acc : Int) (l.map fun b => (b.toNat : Int)) (l.length : Int) (a.length : Int)) (optB (smallL acc b)) := by
  intro b
  induction b with
  | nil =>
    intro a acc hr ha
    rw [List.append_nil] at hr
    refine Ev.succ ?_
    simp only [lex_small.l0]
    exact Ev.if_neg (by rw [hr]; omega) (Ev.now _)
  | cons c b ih =>
    intro a acc hr ha
    have hlen : l.length = a.length + (b.length + 1) := by rw [hr, List.length_append, List.length_cons]
    have e1 : rd (l.map fun b => (b.toNat : Int)) (a.length : Int) = (c.toNat : Int) := by
      rw [rd_nat, hr, List.map_append, List.map_cons]
      have := lgetD_at (a.map fun b => (b.toNat : Int)) (c.toNat : Int) (b.map fun b => (b.toNat : Int)) 0
      rw [List.length_map] at this
      exact this
    have ew : wrap64 ((a.length : Int) + 1) = ((a ++ [c]).length : Int) := by rw [wr_succ _ (by omega), List.length_append, List.length_singleton]
    refine Ev.succ ?_
    simp only [lex_small.l0, e1, ew]
    refine Ev.if_pos (by omega) (Ev.if_pos (nn0 _) (Ev.if_pos (by rw [List.length_map]; omega) ?_))
    rw [smallL]
    by_cases h1 : c.toNat < 48
    · rw [if_pos (Or.inl h1)]
      exact Ev.if_pos (by omega) (Ev.now _)
    · refine Ev.if_neg (by omega) ?_
      by_cases h2 : 57 < c.toNat
      · rw [if_pos (Or.inr h2)]
        exact Ev.if_pos (by omega) (Ev.now _)
      · rw [if_neg (by omega)]
        refine Ev.if_neg (by omega) ?_
        have e2 : wrap64 (wrap64 (10 * (acc : Int)) + wrap64 (IntKind.u8.wrap ((c.toNat : Int) - 48))) = ((10 * acc + (c.toNat - 48) : Nat) : Int) := by
          have e3 : IntKind.u8.wrap ((c.toNat : Int) - 48) = ((c.toNat - 48 : Nat) : Int) := by
            rw [IntKind.wrap_u8, Int.emod_eq_of_lt (by omega) (by omega)]; omega
          rw [e3, wrap_id (i := 10 * (acc : Int)) (by omega) (by omega), wrap_id (i := ((c.toNat - 48 : Nat) : Int)) (by omega) (by omega), wrap_id (by omega) (by omega)]
          omega
        rw [e2]
        by_cases h3 : 1000000000 < 10 * acc + (c.toNat - 48)
        · rw [Nat.min_eq_right (by omega)]
          exact Ev.if_pos (by omega) (ih (a ++ [c]) 1000000000 (by rw [hr]; simp) (Nat.le_refl _))
        · rw [Nat.min_eq_left (by omega)]
          exact Ev.if_neg (by omega) (ih (a ++ [c]) _ (by rw [hr]; simp) (by omega))
theorem lsmall_ev (x : ByteArray) (hx : x.size ≤ 140737488355328) : Ev (fun k => lex_small.f k x) (optB (smallS (toL x))) := by
  unfold lex_small.f smallS
  have hs := size_toL x
  by_cases h0 : x = ByteArray.empty
  · rw [if_pos (by rw [h0]; rfl)]
    exact Ev.if_pos h0 (Ev.now _)
  · have h1 : toL x ≠ [] := fun e => h0 (toL_inj e)
    rw [if_neg h1]
    refine Ev.if_neg h0 ?_
    have fin : Ev (fun k => if x.size ≤ lim then (lex_small.l0 k 0 (toBytes x) ((toBytes x).length : Int) 0) else none) (optB (smallL 0 (toL x))) := by
      have := small_l0 (toL x) (by omega) (toL x) [] 0 rfl (Nat.zero_le _)
      rw [toBytes_toL, List.length_map]
      exact Ev.if_pos hx this
    cases hl : toL x with
    | nil => exact absurd hl h1
    | cons c r =>
      have hb := bt_at (p := []) hl
      rw [hl] at fin
      rw [hl, List.length_cons] at hs
      by_cases h2 : 0 < r.length
      · refine Ev.if_pos (by omega) (Ev.if_pos (by omega) ?_)
        have hb2 : bt x 0 = (c.toNat : Int) := hb
        rw [hb2]
        by_cases h3 : c = 48
        · rw [if_pos ⟨by rw [List.length_cons]; omega, by rw [h3]; rfl⟩]
          exact Ev.if_pos (by rw [h3]; rfl) (Ev.now _)
        · rw [if_neg (fun h => h3 (by have := h.2; simpa using this))]
          exact Ev.if_neg (fun e => h3 ((u8_eq c 48 (by decide)).1 e)) fin
      · rw [if_neg (fun h => h2 (by have := h.1; rw [List.length_cons] at this; omega))]
        exact Ev.if_neg (by omega) fin
def countS (s : St) (lo hi : Int) : Int × St := if (wordS s).2.err ≠ 0 then (0, (wordS s).2) else match smallS (toL (wordS s).1) with
  | some n => if (n : Int) < lo then (0, failS (wordS s).2 16 (placeS s)) else if (n : Int) > hi then (0, failS (wordS s).2 16 (placeS s)) else ((n : Int), (wordS s).2)
  | none => (0, failS (wordS s).2 4 (placeS s))
structure St.Good (s : St) : Prop where
  ok : s.Ok
  ll : ∀ l ∈ s.ls, l.length ≤ 4096
  lss : s.ls.length ≤ 16384
  ws : ∀ l ∈ s.ls, ∀ w ∈ l, w.2.2.size ≤ 1048576
theorem St.Good.line {s : St} (h : s.Good) : s.line.length ≤ 4096 := by
  unfold St.line
  rw [List.getD_eq_getElem?_getD]
  cases e : s.ls[s.i]? with
  | none => exact Nat.zero_le _
  | some l => exact h.ll l (List.mem_of_getElem? e)
theorem St.Good.l1 {s : St} (h : s.Good) : s.line.length ≤ 1048576 := Nat.le_trans h.line (by decide)
theorem St.Good.of {s t : St} (h : s.Good) (ho : t.Ok) (e : t.ls = s.ls) : t.Good := ⟨ho, by rw [e]; exact h.ll, by rw [e]; exact h.lss, by rw [e]; exact h.ws⟩
theorem failS_good {s : St} (h : s.Good) (e a : Int) : (failS s e a).Good := h.of (failS_ok h.ok e a) (failS_ls s e a)
theorem wordS_good {s : St} (h : s.Good) : (wordS s).2.Good := h.of (wordS_ok h.ok h.l1) (wordS_ls s)
theorem takeS_good {s : St} (h : s.Good) (w : ByteArray) : (takeS s w).Good := by
  have h2 := wordS_good h
  unfold takeS
  split
  · exact h2
  · split
    · exact failS_good h2 _ _
    · exact h2
theorem countS_good {s : St} (h : s.Good) (lo hi : Int) : (countS s lo hi).2.Good := by
  have h2 := wordS_good h
  unfold countS
  split
  · exact h2
  · split
    · split
      · exact failS_good h2 _ _
      · split
        · exact failS_good h2 _ _
        · exact h2
    · exact failS_good h2 _ _
theorem nextS_ls (s : St) : (nextS s).ls = s.ls := by
  unfold nextS
  split
  · rfl
  · split
    · exact failS_ls _ _ _
    · split
      · exact failS_ls _ _ _
      · rfl
theorem nextS_good {s : St} (h : s.Good) : (nextS s).Good := h.of (nextS_ok h.ok (Nat.le_trans h.lss (by decide))) (nextS_ls s)
theorem wordS_size {s : St} (h : s.Good) : (wordS s).1.size ≤ 1048576 := by
  unfold wordS
  split
  · exact Nat.zero_le _
  · split
    · rename_i hm
      have hi := hm.2.1
      have hj := hm.2.2
      have hml : s.line ∈ s.ls := by
        unfold St.line
        rw [List.getD_eq_getElem?_getD, List.getElem?_eq_getElem hi]
        exact List.getElem_mem hi
      refine h.ws s.line hml _ ?_
      rw [List.getD_eq_getElem?_getD, List.getElem?_eq_getElem hj]
      exact List.getElem_mem hj
    · exact Nat.zero_le _
theorem count_ev (s : St) (h : s.Good) (lo hi : Int) : Ev (fun k => lex_Reader_Count.f k s.ls s.i s.j s.sz s.err s.at_ lo hi) ((countS s lo hi).1, (countS s lo hi).2.t) := by
  unfold lex_Reader_Count.f countS
  rw [place_eq s h.ok h.l1]
  show Ev (fun k => (lex_Reader_Word.f s.ls s.i s.j s.sz s.err s.at_).bind _) _
  rw [word_eq s h.ok h.l1]
  have h2 := wordS_good h
  have h3 := wordS_size h
  generalize wordS s = p at h2 h3 ⊢
  obtain ⟨v, s2⟩ := p
  have h3 : v.size ≤ 1048576 := h3
  have hsm := lsmall_ev v (by omega)
  show Ev (fun k => if (s2.err != 0) = true then some (0, s2.t) else ((lex_small.f k v).bind fun v10 => (if v10.2 = true then (if v10.1 < lo then ((lex_Reader_fail.f s2.ls s2.i s2.j s2.sz s2.err s2.at_ 16 (placeS s)).bind fun v30 => (some (0, v30))) else (if v10.1 > hi then ((lex_Reader_fail.f s2.ls s2.i s2.j s2.sz s2.err s2.at_ 16 (placeS s)).bind fun v30 => (some (0, v30))) else (some (v10.1, s2.t)))) else ((lex_Reader_fail.f s2.ls s2.i s2.j s2.sz s2.err s2.at_ 4 (placeS s)).bind fun v21 => (some (0, v21)))))) _
  simp only [fail_eq]
  by_cases he : s2.err ≠ 0
  · rw [if_pos he]
    exact Ev.if_pos (by simpa using he) (Ev.now _)
  · rw [if_neg he]
    refine Ev.if_neg (by simpa using he) (Ev.bind hsm ?_)
    cases hv : smallS (toL v) with
    | none => exact Ev.if_neg (by simp [optB]) (Ev.now _)
    | some n =>
      refine Ev.if_pos rfl ?_
      by_cases h5 : (n : Int) < lo
      · simp only [if_pos h5]
        exact Ev.if_pos h5 (Ev.now _)
      · simp only [if_neg h5]
        refine Ev.if_neg h5 ?_
        by_cases h6 : (n : Int) > hi
        · simp only [if_pos h6]
          exact Ev.if_pos h6 (Ev.now _)
        · simp only [if_neg h6]
          exact Ev.if_neg h6 (Ev.now _)
end Go.DI.Th
namespace Go.DI.Th
open Go Go.RowKit Go.DI

def WZ (B : Nat) (l : List W) : Prop := ∀ w ∈ l, w.2.2.size ≤ B
theorem wordsS_sz (B : Nat) : ∀ (n : Nat) (cs : List UInt8) (acc : List W) (pos : Nat), cs.length ≤ n → cs.length ≤ B → WZ B acc → WZ B (wordsS acc pos cs).1 := by
  intro n
  induction n with
  | zero =>
    intro cs acc pos hn _ ha
    have : cs = [] := List.eq_nil_of_length_eq_zero (by omega)
    subst this
    rw [wordsS]
    exact ha
  | succ n ih =>
    intro cs acc pos hn hB ha
    have hnil : WZ B [] := fun w hw => by cases hw
    cases cs with
    | nil => rw [wordsS]; exact ha
    | cons c r =>
      rw [List.length_cons] at hn hB
      rw [wordsS]
      split
      · exact ih r acc (pos + 1) (by omega) (by omega) ha
      · split
        · exact ha
        · split
          · split
            · exact hnil
            · have hsplit := congrArg List.length (List.takeWhile_append_dropWhile (p := inw) (l := r))
              rw [List.length_append] at hsplit
              refine ih (r.dropWhile inw) _ _ (by omega) (by omega) ?_
              intro w hw
              rcases List.mem_append.1 hw with h | h
              · exact ha w h
              · have : w = ((pos : Int), 0, ofL (c :: r.takeWhile inw)) := by simpa using h
                rw [this]
                show (ofL (c :: r.takeWhile inw)).size ≤ B
                rw [size_toL, toL_ofL, List.length_cons]
                omega
          · exact hnil
structure LsOk (ls : List (List W)) : Prop where
  ne : ∀ l ∈ ls, l ≠ []
  ll : ∀ l ∈ ls, l.length ≤ 4096
  ws : ∀ l ∈ ls, ∀ w ∈ l, w.2.2.size ≤ 1048576
theorem linesS_ok : ∀ (m : Nat) (cs : List UInt8) (acc : List (List W)) (n pos : Nat), cs.length ≤ m → cs.length ≤ 1048576 → LsOk acc → acc.length ≤ n → n ≤ 16384 → LsOk (linesS acc n pos cs).1 ∧ (linesS acc n pos cs).1.length ≤ 16384 := by
  have hnil : LsOk [] := ⟨fun l hl => (by cases hl), fun l hl => (by cases hl), fun l hl => (by cases hl)⟩
  intro m
  induction m using Nat.strongRecOn with
  | ind m ih =>
    intro cs acc n pos hm hB ha hl hn
    rw [linesS]
    split
    · exact ⟨hnil, Nat.zero_le _⟩
    · split
      · exact ⟨hnil, Nat.zero_le _⟩
      · rename_i hn2 _
        have hlen := congrArg List.length (List.takeWhile_append_dropWhile (p := nnl) (l := cs))
        rw [List.length_append] at hlen
        have h1 := wordsS_bd 1048576 (cs.takeWhile nnl).length (cs.takeWhile nnl) [] 0 (Nat.le_refl _) (fun w hw => by cases hw) (by omega) (Nat.zero_le _)
        have h2 := wordsS_sz 1048576 (cs.takeWhile nnl).length (cs.takeWhile nnl) [] 0 (Nat.le_refl _) (by omega) (fun w hw => by cases hw)
        have hA : LsOk (if (wordsS [] 0 (cs.takeWhile nnl)).1.length > 0 then acc ++ [(wordsS [] 0 (cs.takeWhile nnl)).1.map (shiftW n pos)] else acc) ∧ (if (wordsS [] 0 (cs.takeWhile nnl)).1.length > 0 then acc ++ [(wordsS [] 0 (cs.takeWhile nnl)).1.map (shiftW n pos)] else acc).length ≤ n + 1 := by
          split
          · rename_i h0
            constructor
            · refine ⟨?_, ?_, ?_⟩
              · intro l hlm
                rcases List.mem_append.1 hlm with h | h
                · exact ha.ne l h
                · have : l = (wordsS [] 0 (cs.takeWhile nnl)).1.map (shiftW n pos) := by simpa using h
                  rw [this]
                  intro e
                  have := congrArg List.length e
                  rw [List.length_map, List.length_nil] at this
                  omega
              · intro l hlm
                rcases List.mem_append.1 hlm with h | h
                · exact ha.ll l h
                · have : l = (wordsS [] 0 (cs.takeWhile nnl)).1.map (shiftW n pos) := by simpa using h
                  rw [this, List.length_map]
                  exact h1.2.1
              · intro l hlm
                rcases List.mem_append.1 hlm with h | h
                · exact ha.ws l h
                · have : l = (wordsS [] 0 (cs.takeWhile nnl)).1.map (shiftW n pos) := by simpa using h
                  rw [this]
                  intro w hw
                  obtain ⟨v, hv, rfl⟩ := List.mem_map.1 hw
                  exact h2 v hv
            · rw [List.length_append, List.length_singleton]; omega
          · exact ⟨ha, by omega⟩
        generalize (if (wordsS [] 0 (cs.takeWhile nnl)).1.length > 0 then acc ++ [(wordsS [] 0 (cs.takeWhile nnl)).1.map (shiftW n pos)] else acc) = A at hA ⊢
        split
        · exact ⟨hA.1, by show A.length ≤ 16384; omega⟩
        · rename_i c r h0
          rw [h0, List.length_cons] at hlen
          exact ih r.length (by omega) r A (n + 1) _ (Nat.le_refl _) (by omega) hA.1 hA.2 (by omega)
theorem linesT_ok (x : ByteArray) : LsOk (linesT x).1 ∧ (linesT x).1.length ≤ 16384 := by
  have hnil : LsOk [] := ⟨fun l hl => (by cases hl), fun l hl => (by cases hl), fun l hl => (by cases hl)⟩
  unfold linesT
  split
  · exact ⟨hnil, Nat.zero_le _⟩
  · exact linesS_ok _ _ _ _ _ (Nat.le_refl _) (by rw [← size_toL]; omega) hnil (Nat.le_refl _) (by decide)
def readS (x : ByteArray) : St := ⟨(linesT x).1, 0, 0, (x.size : Int), (linesT x).2.2, (linesT x).2.1⟩
theorem readS_good (x : ByteArray) : (readS x).Good := by
  have h := linesT_ok x
  exact ⟨⟨h.1.ne, Nat.zero_le _, Nat.zero_le _, Nat.zero_le _, Nat.zero_le _⟩, h.1.ll, h.2, h.1.ws⟩
theorem read_ev (x : ByteArray) : Ev (fun k => lex_Read.f k x) (readS x).t := by
  unfold lex_Read.f
  exact Ev.bind (lines_ev x) (Ev.now _)
def joinW : List (List UInt8) → List UInt8
  | [] => []
  | [w] => w
  | w :: v :: l => w ++ 32 :: joinW (v :: l)
def textW : List (List (List UInt8)) → List UInt8
  | [] => []
  | l :: t => joinW l ++ 10 :: textW t
end Go.DI.Th
namespace Go.DI.Th
open Go Go.RowKit Go.DI

end Go.DI.Th
namespace Go.DI.Th
open Go Go.RowKit Go.DI

abbrev Nd := Bool × Int × Bool × List Int × List Int × Int × Int × Bool × Bool × List Int × List Int × Bool × List Int × List Int
abbrev Nd.cut (n : Nd) : Rt := (n.2.2.1, n.2.2.2.1, n.2.2.2.2.1)
abbrev Nd.val (n : Nd) : Rt := (n.2.2.2.2.2.2.2.2.1, n.2.2.2.2.2.2.2.2.2.1, n.2.2.2.2.2.2.2.2.2.2.1)
abbrev Nd.cov (n : Nd) : Rt := (n.2.2.2.2.2.2.2.2.2.2.2.1, n.2.2.2.2.2.2.2.2.2.2.2.2.1, n.2.2.2.2.2.2.2.2.2.2.2.2.2)
end Go.DI.Th
namespace Go.DI.Th
open Go Go.RowKit Go.DI

def leafW : ByteArray := ⟨#[108, 101, 97, 102]⟩
def splitW : ByteArray := ⟨#[115, 112, 108, 105, 116]⟩
def missW (b : Bool) : ByteArray := if b then ⟨#[109, 105, 115, 115, 45, 108, 101, 102, 116]⟩ else ⟨#[109, 105, 115, 115, 45, 114, 105, 103, 104, 116]⟩
def lineW (n : Nd) : List (List UInt8) := if n.1 then [toL leafW, toL (prT n.val), toL (prT n.cov)] else
  [toL splitW, toL (prN n.2.1.toNat), toL (prT n.cut), toL (prN n.2.2.2.2.2.1.toNat), toL (prN n.2.2.2.2.2.2.1.toNat), toL (missW n.2.2.2.2.2.2.2.1), toL (prT n.cov)]
end Go.DI.Th
namespace Go.DI.Th
open Go Go.RowKit Go.DI

end Go.DI.Th
namespace Go.DI.Th
open Go Go.RowKit Go.DI

end Go.DI.Th
namespace Go.DI.Th
open Go Go.RowKit Go.DI

end Go.DI.Th
namespace Go.DI.Th
open Go Go.RowKit Go.DI

end Go.DI.Th
namespace Go.DI.Th
open Go Go.RowKit Go.DI

end Go.DI.Th
namespace Go.DI.Th
open Go Go.RowKit Go.DI

theorem plus_limb (x c : Int) (hx : 0 ≤ x ∧ x < 4294967296) (hc : 0 ≤ c ∧ c < 1000000000) :
    ∃ y z : Int, (0 ≤ y ∧ y < 4294967296) ∧ (0 ≤ z ∧ z < 1000000000) ∧ y + 4294967296 * z = c + x * 1000000000 ∧ Go.bits .and .u64 (IntKind.u64.wrap (c + (IntKind.u64.wrap (x * 1000000000)))) 4294967295 = y ∧ (IntKind.u64.wrap (c + (IntKind.u64.wrap (x * 1000000000)))) / 4294967296 = z := by
  have e : IntKind.u64.wrap (c + (IntKind.u64.wrap (x * 1000000000))) = c + x * 1000000000 := by
    simp only [w64]
    omega
  rw [e, and_low (by omega) (by omega)]
  exact ⟨_, _, ⟨Int.emod_nonneg _ (by decide), Int.emod_lt_of_pos _ (by decide)⟩, by omega, by omega, rfl, rfl⟩
theorem plus_val (p vd vt x y z c : Int) (h : vd + p * c = vt) (hs : y + 4294967296 * z = c + x * 1000000000) : vd + p * y + p * 4294967296 * z = vt + p * x * 1000000000 := by grind
theorem plus_loop (a : List Int) (ha : Ok a) (v : Nat) (N : Nat) (hN : N ≤ 35184372088832) (hla : a.length + 1 = N) (hs : val a * 1000000000 + v < 4294967296 ^ N) (d : Nat) : ∀ (done : List Int) (c : Int), Ok done → done.length + d = N → (0 ≤ c ∧ c < 1000000000) →
    val done + 4294967296 ^ done.length * c = (val (a.take done.length) : Int) * 1000000000 + v →
    Ev (fun k => nat_plus.l0 k a c (done ++ List.replicate d 0) (N : Int) (done.length : Int)) (lm (val a * 1000000000 + v)) := by
  induction d with
  | zero =>
    intro done c hd hl hc hv
    have hl' : done.length = N := by omega
    rw [List.take_of_length_le (by omega)] at hv
    have hz : val done = val a * 1000000000 + v := by
      have e : (4294967296 : Int) ^ done.length = ((4294967296 ^ done.length : Nat) : Int) := by rw [Int.natCast_pow]; rfl
      have hc0 : c = 0 := by
        apply Classical.byContradiction
        intro h0
        have h1 : (4294967296 : Int) ^ done.length * 1 ≤ 4294967296 ^ done.length * c := Int.mul_le_mul_of_nonneg_left (by omega) (by rw [e]; exact Int.natCast_nonneg _)
        rw [Int.mul_one, e, hl'] at h1
        rw [hl'] at e
        rw [hl', e] at hv
        omega
      rw [hc0] at hv
      omega
    refine Ev.step (f := fun k => (nat_trim.f k done).bind fun t => some t) (fun k => ?_) (Ev.bind ?_ (Ev.now _))
    · simp only [nat_plus.l0]
      rw [if_neg (by omega)]
      simp
    · have := trim_ev done hd (by omega)
      rwa [hz] at this
  | succ d ih =>
    intro done c hd hl hc hv
    have va := val_take_rd a ha done.length
    obtain ⟨y, nd, hy, hnd, hsum, e1, e2⟩ := plus_limb (rd a (done.length : Int)) c (rd_ok ha _) hc
    refine Ev.step (fun k => ?_) (ih (done ++ [y]) nd (hd.append (Ok.cons hy Ok.nil)) (by simp; omega) hnd ?_)
    · simp only [nat_plus.l0]
      rw [if_pos (by omega), limb_eq a _ (by omega)]
      simp only [Option.bind_some]
      rw [if_pos (by omega), if_pos (by simp; omega), e1, e2, wrap_id (by omega) (by omega), show ((done.length : Int)).toNat = done.length by omega, fill]
      simp
    · rw [List.length_append, List.length_singleton, va, val_snoc_int done y hy, Int.pow_succ]
      have := plus_val (4294967296 ^ done.length) (val done) _ (rd a (done.length : Int)) y nd c hv hsum
      rw [this, Int.add_mul]
      omega
theorem nplus_ev (n v : Nat) (hv : v < 1000000000) (hl : len n ≤ 35184372088830) : Ev (fun k => nat_plus.f k (lm n) (v : Int)) (lm (n * 1000000000 + v)) := by
  have hN : val (lm n) * 1000000000 + v < 4294967296 ^ (len n + 1) := by
    rw [val_lm]
    have := lt_pow_len n
    rw [Nat.pow_succ]
    have h1 : n + 1 ≤ 4294967296 ^ len n := this
    have h2 : (n + 1) * 4294967296 ≤ 4294967296 ^ len n * 4294967296 := Nat.mul_le_mul_right _ h1
    omega
  have h := plus_loop (lm n) (lm_ok n) v (len n + 1) (by omega) (by rw [lm_length]) hN (len n + 1) [] (v : Int) Ok.nil (by simp) (by omega) (by simp [val])
  rw [val_lm] at h
  unfold nat_plus.f
  simp only [lm_length, wr_succ _ (show len n ≤ 1125899906842624 by omega), Int.toNat_natCast, List.length_replicate]
  exact Ev.if_pos (by omega) (Ev.if_pos (by omega) h)
def isD (c : UInt8) : Prop := 48 ≤ c.toNat ∧ c.toNat ≤ 57
instance (c : UInt8) : Decidable (isD c) := by unfold isD; infer_instance
def dgv (a : Nat) (l : List UInt8) : Nat := l.foldl (fun a c => 10 * a + (c.toNat - 48)) a
theorem dgv_cons (a : Nat) (c : UInt8) (l : List UInt8) : dgv a (c :: l) = dgv (10 * a + (c.toNat - 48)) l := by unfold dgv; rw [List.foldl_cons]
theorem dgv_nil (a : Nat) : dgv a [] = a := by unfold dgv; rw [List.foldl_nil]
theorem dgv_append (a : Nat) (l m : List UInt8) : dgv a (l ++ m) = dgv (dgv a l) m := List.foldl_append
theorem dgv_shift : ∀ (l : List UInt8) (a : Nat), dgv a l = a * 10 ^ l.length + dgv 0 l
  | [], a => by rw [dgv_nil, dgv_nil, List.length_nil, Nat.pow_zero]; omega
  | c :: l, a => by
    rw [dgv_cons, dgv_cons, dgv_shift l (10 * a + (c.toNat - 48)), dgv_shift l (10 * 0 + (c.toNat - 48)), List.length_cons, Nat.pow_succ, Nat.add_mul, Nat.mul_zero, Nat.zero_add, Nat.mul_comm 10 a, Nat.mul_assoc, Nat.mul_comm 10 (10 ^ l.length)]
    omega
theorem dgv_step (a d p x : Nat) (h3 : 10 * a + d + 1 ≤ (a + 1) * 10) (h : x < (10 * a + d + 1) * p) : x < (a + 1) * (10 * p) := by
  rw [← Nat.mul_assoc]
  exact Nat.lt_of_lt_of_le h (Nat.mul_le_mul_right _ h3)
theorem dgv_lt : ∀ (l : List UInt8) (a : Nat), (∀ c ∈ l, isD c) → dgv a l < (a + 1) * 10 ^ l.length
  | [], a, _ => by rw [dgv_nil, List.length_nil, Nat.pow_zero]; omega
  | c :: l, a, h => by
    have h1 := h c List.mem_cons_self
    have h2 := dgv_lt l (10 * a + (c.toNat - 48)) fun x hx => h x (List.mem_cons_of_mem _ hx)
    have h3 : 10 * a + (c.toNat - 48) + 1 ≤ (a + 1) * 10 := by unfold isD at h1; omega
    rw [dgv_cons, List.length_cons, Nat.pow_succ, Nat.mul_comm (10 ^ l.length) 10]
    exact dgv_step a (c.toNat - 48) (10 ^ l.length) _ h3 h2
def pE (w : List UInt8) : Int := if w = [] then 4 else if ∀ c ∈ w, isD c then (if w.length > 10000 then 5 else 0) else 4
def pR (w : List UInt8) : List Int × Int := if pE w = 0 then (lm (dgv 0 w), 0) else ([], pE w)
theorem pE_zero {w : List UInt8} : pE w = 0 ↔ w ≠ [] ∧ (∀ c ∈ w, isD c) ∧ w.length ≤ 10000 := by
  unfold pE
  by_cases h : w = []
  · rw [if_pos h]
    exact ⟨fun e => (by cases e), fun e => absurd h e.1⟩
  · rw [if_neg h]
    by_cases h1 : ∀ c ∈ w, isD c
    · rw [if_pos h1]
      by_cases h2 : w.length > 10000
      · rw [if_pos h2]
        exact ⟨fun e => (by cases e), fun e => by omega⟩
      · rw [if_neg h2]
        exact ⟨fun _ => ⟨h, h1, by omega⟩, fun _ => rfl⟩
    · rw [if_neg h1]
      exact ⟨fun e => (by cases e), fun e => absurd e.2.1 h1⟩
theorem ext_drop {s : ByteArray} {a b : List UInt8} (h : toL s = a ++ b) : s.extract a.length s.size = ofL b := by
  apply toL_inj
  rw [toL_extract, h, List.drop_left, toL_ofL, List.take_of_length_le]
  rw [size_toL, h, List.length_append]
  omega
theorem ext_take {s : ByteArray} {a b : List UInt8} (h : toL s = a ++ b) : s.extract 0 a.length = ofL a := by
  apply toL_inj
  rw [toL_extract, h, toL_ofL, List.drop_zero, Nat.sub_zero, List.take_left]
theorem at_byte {s : ByteArray} {a : List UInt8} {c : UInt8} {b : List UInt8} (h : toL s = a ++ c :: b) (hp : a.length < s.size) : s[a.length]'hp = c := by
  have e : (s[a.length]'hp) = (toL s)[a.length]'(by rw [← size_toL]; exact hp) := rfl
  rw [e]
  have : ∀ (l : List UInt8) (hl : a.length < l.length), l = a ++ c :: b → l[a.length]'hl = c := by
    intro l hl e
    subst e
    rw [List.getElem_append_right (Nat.le_refl _)]
    simp
  exact this _ _ h
theorem toBytes_eq (w : List UInt8) : toBytes (ofL w) = w.map fun c => (c.toNat : Int) := rfl
theorem parse_l2 (rest : ByteArray) (x0 : ByteArray) (x7 : Nat) (hx0 : x7 ≤ x0.size) (hrest : x0.extract x7 x0.size = rest) (acc : Nat) (hacc : len acc ≤ 35184372088830) (w : List UInt8) (hw : ∀ c ∈ w, isD c) (hl : w.length ≤ 9) (R : List Int × Int)
    (hend : Ev (fun k => nat_Parse.l1 k rest (lm (acc * 1000000000 + dgv 0 w))) R) : ∀ (b a : List UInt8), w = a ++ b →
    Ev (fun k => nat_Parse.l2 k x0 (lm acc) (x7 : Int) ((dgv 0 a : Nat) : Int) (w.map fun c => (c.toNat : Int)) (w.length : Int) (a.length : Int)) R := by
  intro b
  induction b with
  | nil =>
    intro a hr
    rw [List.append_nil] at hr
    subst hr
    refine Ev.succ ?_
    simp only [nat_Parse.l2]
    have hlt := dgv_lt w 0 hw
    have h9 : 10 ^ w.length ≤ 10 ^ 9 := Nat.pow_le_pow_right (by decide) hl
    refine Ev.if_neg (by omega) (Ev.bind (nplus_ev acc (dgv 0 w) (by omega) hacc) (Ev.if_pos (nn0 _) (Ev.if_pos (by omega) ?_)))
    rw [Int.toNat_natCast, hrest]
    exact hend
  | cons c b ih =>
    intro a hr
    have hc : isD c := hw c (by rw [hr]; simp)
    have hlen : w.length = a.length + (b.length + 1) := by rw [hr, List.length_append, List.length_cons]
    have ha : ∀ x ∈ a, isD x := fun x hx => hw x (by rw [hr]; exact List.mem_append_left _ hx)
    have hlt := dgv_lt a 0 ha
    have h9 : 10 ^ a.length ≤ 10 ^ 8 := Nat.pow_le_pow_right (by decide) (by omega)
    have hih := ih (a ++ [c]) (by rw [hr]; simp)
    rw [dgv_append] at hih
    have er : rd (w.map fun c => (c.toNat : Int)) (a.length : Int) = (c.toNat : Int) := by
      rw [hr, List.map_append, List.map_cons]
      have := rd_at (a.map fun c => (c.toNat : Int)) (c.toNat : Int) (b.map fun c => (c.toNat : Int))
      rwa [List.length_map] at this
    have e8 : IntKind.u8.wrap ((c.toNat : Int) - 48) = ((c.toNat - 48 : Nat) : Int) := by
      unfold isD at hc
      rw [IntKind.wrap_u8]
      omega
    have e9 : IntKind.u64.wrap ((IntKind.u64.wrap (10 * ((dgv 0 a : Nat) : Int))) + (IntKind.u64.wrap ((c.toNat - 48 : Nat) : Int))) = ((dgv (dgv 0 a) [c] : Nat) : Int) := by
      have : dgv (dgv 0 a) [c] = 10 * dgv 0 a + (c.toNat - 48) := by rw [dgv_cons, dgv_nil]
      rw [this]
      unfold isD at hc
      simp only [w64]
      omega
    refine Ev.succ ?_
    simp only [nat_Parse.l2, er, e8, e9, wr_at a c (show a.length ≤ 1125899906842624 by omega)]
    exact Ev.if_pos (by omega) (Ev.if_pos (nn0 _) (Ev.if_pos (by rw [List.length_map]; omega) hih))
theorem len_ten (n : Nat) : len (10 ^ n) ≤ n + 1 := by
  refine len_le ?_
  have : 10 ^ n ≤ 4294967296 ^ n := Nat.pow_le_pow_left (by decide) n
  rw [Nat.pow_succ]
  have := Nat.pow_pos (n := n) (show 0 < 4294967296 by decide)
  omega
theorem len_dgv (w : List UInt8) (h : ∀ c ∈ w, isD c) : len (dgv 0 w) ≤ w.length + 1 := by
  have h1 := dgv_lt w 0 h
  rw [Nat.zero_add, Nat.one_mul] at h1
  exact Nat.le_trans (len_mono (Nat.le_of_lt h1)) (len_ten _)
theorem parse_l1 : ∀ (m : Nat) (a b : List UInt8), b.length ≤ m → (∀ c ∈ a ++ b, isD c) → (a ++ b).length ≤ 10000 → (a = [] ∨ b.length % 9 = 0) →
    Ev (fun k => nat_Parse.l1 k (ofL b) (lm (dgv 0 a))) (lm (dgv 0 (a ++ b)), 0) := by
  intro m
  induction m with
  | zero =>
    intro a b hb hd hl h9
    obtain rfl : b = [] := List.length_eq_zero_iff.1 (by omega)
    refine Ev.succ ?_
    simp only [nat_Parse.l1]
    rw [List.append_nil]
    exact Ev.if_neg (by decide) (Ev.now _)
  | succ m ih =>
    intro a b hb hd hl h9
    have hsz : (ofL b).size = b.length := by rw [size_toL]; rfl
    refine Ev.succ ?_
    simp only [nat_Parse.l1]
    rw [hsz]
    by_cases h0 : b = []
    · subst h0
      rw [List.append_nil]
      exact Ev.if_neg (by decide) (Ev.now _)
    · have hp := List.length_pos_iff.2 h0
      rw [List.length_append] at hl
      have em : Int.tmod (b.length : Int) 9 = ((b.length % 9 : Nat) : Int) := rfl
      rw [em, Int.toNat_natCast]
      refine Ev.if_pos (by omega) ?_
      have step : ∀ n : Nat, 0 < n → n ≤ 9 → n ≤ b.length → (b.length - n) % 9 = 0 → (a ≠ [] → n = 9) → Ev (fun k => nat_Parse.l2 k (ofL b) (lm (dgv 0 a)) (n : Int) 0 (toBytes ((ofL b).extract 0 n)) ((toBytes ((ofL b).extract 0 n)).length : Int) 0) (lm (dgv 0 (a ++ b)), 0) := by
        intro n n0 n9 nb hm hn
        obtain ⟨u, v, rfl, hu⟩ : ∃ u v : List UInt8, b = u ++ v ∧ u.length = n := ⟨b.take n, b.drop n, (List.take_append_drop n b).symm, by rw [List.length_take]; omega⟩
        have e1 : (ofL (u ++ v)).extract 0 n = ofL u := by rw [← hu]; exact ext_take rfl
        have e2 : (ofL (u ++ v)).extract n (ofL (u ++ v)).size = ofL v := by rw [← hu]; exact ext_drop rfl
        rw [List.length_append] at hm hb hl
        have hdu : ∀ c ∈ u, isD c := fun c hc => hd c (by simp [hc])
        have hda : ∀ c ∈ a, isD c := fun c hc => hd c (by simp [hc])
        have hih := ih (a ++ u) v (by omega) (by rw [List.append_assoc]; exact hd) (by rw [List.append_assoc, List.length_append, List.length_append]; omega) (Or.inr (by
          have e : u.length + v.length - n = v.length := by omega
          rwa [e] at hm))
        have ea : dgv 0 (a ++ u) = dgv 0 a * 1000000000 + dgv 0 u := by
          rw [dgv_append, dgv_shift u (dgv 0 a)]
          by_cases h : a = []
          · rw [h]
            have : dgv 0 ([] : List UInt8) = 0 := dgv_nil 0
            rw [this, Nat.zero_mul, Nat.zero_mul]
          · rw [hu, hn h]
        rw [ea, List.append_assoc] at hih
        rw [e1, toBytes_eq, List.length_map]
        have hla := len_dgv a hda
        exact parse_l2 (ofL v) (ofL (u ++ v)) n (by rw [size_toL, toL_ofL, List.length_append]; omega) e2 (dgv 0 a) (by omega) u hdu (by omega) _ hih u [] rfl
      by_cases hm : b.length % 9 = 0
      · refine Ev.if_pos (by omega) (Ev.if_pos (by omega) (Ev.if_pos ?_ (step 9 (by decide) (by decide) (by omega) (by omega) (fun _ => rfl))))
        rw [size_toL, toL_extract, List.length_take]
        have : lim = 140737488355328 := rfl
        omega
      · refine Ev.if_neg (by omega) (Ev.if_pos (by omega) (Ev.if_pos (by omega) (Ev.if_pos ?_ (step (b.length % 9) (by omega) (by omega) (by omega) (by omega) (fun h => by
          rcases h9 with e | e
          · exact absurd e h
          · exact absurd e hm)))))
        rw [size_toL, toL_extract, List.length_take]
        have : lim = 140737488355328 := rfl
        omega
theorem parse_l0 (s : ByteArray) (w : List UInt8) (hw : toL s = w) (R : List Int × Int)
    (hend : (∀ c ∈ w, isD c) → Ev (fun k => if (s.size : Int) > 10000 then some (([] : List Int), 5) else nat_Parse.l1 k s []) R) (hbad : (¬ ∀ c ∈ w, isD c) → R = ([], 4)) : ∀ (b a : List UInt8), w = a ++ b → (∀ c ∈ a, isD c) →
    Ev (fun k => nat_Parse.l0 k s s a.length) R := by
  intro b
  induction b with
  | nil =>
    intro a hr ha
    rw [List.append_nil] at hr
    subst hr
    refine Ev.succ ?_
    simp only [nat_Parse.l0]
    exact Ev.if_neg (by rw [size_toL, hw]; omega) (hend ha)
  | cons c b ih =>
    intro a hr ha
    have hp : a.length < s.size := by rw [size_toL, hw, hr, List.length_append, List.length_cons]; omega
    have hat := at_byte (hw.trans hr) hp
    refine Ev.succ ?_
    simp only [nat_Parse.l0]
    refine Ev.if_pos hp ?_
    by_cases hc : isD c
    · have hde := decode_ascii s a.length hp (by rw [hat]; unfold isD at hc; omega)
      rw [hat] at hde
      rw [hde]
      have hih := ih (a ++ [c]) (by rw [hr]; simp) (fun x hx => by
        rcases List.mem_append.1 hx with h | h
        · exact ha x h
        · rw [List.mem_singleton.1 h]; exact hc)
      rw [List.length_append, List.length_singleton] at hih
      unfold isD at hc
      exact Ev.if_neg (by show ¬ ((c.toNat : Int) < 48); omega) (Ev.if_neg (by show ¬ ((c.toNat : Int) > 57); omega) hih)
    · have hR := hbad fun h => hc (h c (by rw [hr]; simp))
      rw [hR]
      by_cases h128 : c.toNat < 128
      · have hde := decode_ascii s a.length hp (by rw [hat]; exact h128)
        rw [hat] at hde
        rw [hde]
        unfold isD at hc
        by_cases h48 : c.toNat < 48
        · exact Ev.if_pos (by show (c.toNat : Int) < 48; omega) (Ev.now _)
        · exact Ev.if_neg (by show ¬ ((c.toNat : Int) < 48); omega) (Ev.if_pos (by show (c.toNat : Int) > 57; omega) (Ev.now _))
      · have hde := decode_high s a.length hp (by rw [hat]; omega)
        exact Ev.if_neg (by omega) (Ev.if_pos (by omega) (Ev.now _))
theorem nparse_ev (s : ByteArray) : Ev (fun k => nat_Parse.f k s) (pR (toL s)) := by
  unfold nat_Parse.f
  by_cases h0 : s = ByteArray.empty
  · have e : pR (toL s) = ([], 4) := by rw [h0]; rfl
    rw [e]
    exact Ev.if_pos h0 (Ev.now _)
  · have hne : toL s ≠ [] := fun e => h0 (toL_inj e)
    refine Ev.if_neg h0 (parse_l0 s (toL s) rfl _ (fun hd => ?_) (fun hb => ?_) (toL s) [] rfl (fun c hc => by cases hc))
    · by_cases hl : (toL s).length > 10000
      · have e : pE (toL s) = 5 := by unfold pE; rw [if_neg hne, if_pos hd, if_pos hl]
        have e2 : pR (toL s) = ([], 5) := by unfold pR; rw [e]; rfl
        rw [e2]
        exact Ev.if_pos (by rw [size_toL]; omega) (Ev.now _)
      · have e : pE (toL s) = 0 := pE_zero.2 ⟨hne, hd, by omega⟩
        have e2 : pR (toL s) = (lm (dgv 0 (toL s)), 0) := by unfold pR; rw [if_pos e]
        rw [e2]
        have h1 := parse_l1 (toL s).length [] (toL s) (Nat.le_refl _) hd (by rw [List.nil_append]; omega) (Or.inl rfl)
        have e3 : lm (dgv 0 []) = [] := by rw [dgv_nil]; exact lm_zero
        rw [e3] at h1
        exact Ev.if_neg (by rw [size_toL]; omega) h1
    · have e : pE (toL s) = 4 := by unfold pE; rw [if_neg hne, if_neg hb]
      unfold pR
      rw [e]
      rfl
end Go.DI.Th
namespace Go.DI.Th
open Go Go.RowKit Go.DI

def cutL (x : UInt8) : List UInt8 → Option (List UInt8 × List UInt8)
  | [] => none
  | c :: w => if c = x then some ([], w) else (cutL x w).map fun p => (c :: p.1, p.2)
theorem cutL_some {x : UInt8} : ∀ {w a b : List UInt8}, cutL x w = some (a, b) → w = a ++ x :: b ∧ x ∉ a
  | [], a, b, h => by cases h
  | c :: w, a, b, h => by
    rw [cutL] at h
    by_cases hc : c = x
    · rw [if_pos hc] at h
      cases h
      rw [hc]
      exact ⟨rfl, List.not_mem_nil⟩
    · rw [if_neg hc] at h
      cases hw : cutL x w with
      | none => rw [hw] at h; cases h
      | some p =>
        rw [hw] at h
        cases h
        obtain ⟨h1, h2⟩ := cutL_some (a := p.1) (b := p.2) hw
        refine ⟨by rw [List.cons_append, ← h1], fun hm => ?_⟩
        rcases List.mem_cons.1 hm with e | hm
        · exact hc e.symm
        · exact h2 hm
theorem cutL_none {x : UInt8} : ∀ {w : List UInt8}, cutL x w = none → x ∉ w
  | [], _ => List.not_mem_nil
  | c :: w, h => by
    rw [cutL] at h
    by_cases hc : c = x
    · rw [if_pos hc] at h; cases h
    · rw [if_neg hc] at h
      cases hw : cutL x w with
      | some p => rw [hw] at h; cases h
      | none =>
        intro hm
        rcases List.mem_cons.1 hm with e | hm
        · exact hc e.symm
        · exact cutL_none hw hm
theorem get_bang {s : ByteArray} {i : Nat} (h : i < s.size) : s[i]! = s[i]'h := getElem!_pos s i h
theorem fIdx_at {s : ByteArray} {a b : List UInt8} {x : UInt8} (h : toL s = a ++ x :: b) (hn : x ∉ a) : fIdx s x = (a.length : Int) := by
  have hsz : s.size = a.length + (b.length + 1) := by rw [size_toL, h, List.length_append, List.length_cons]
  unfold fIdx
  have hf : (List.range s.size).find? (fun i => s[i]! == x) = some a.length := by
    rw [List.find?_range_eq_some]
    refine ⟨?_, by simp; omega, fun j hj => ?_⟩
    · rw [get_bang (by omega), at_byte h (by omega)]
      simp
    · have hjs : j < s.size := by omega
      rw [get_bang hjs]
      have e : s[j]'hjs = (toL s)[j]'(by rw [← size_toL]; exact hjs) := rfl
      have e2 : s[j]'hjs ∈ a := by
        rw [e]
        have : ∀ (l : List UInt8) (hl : j < l.length), l = a ++ x :: b → l[j]'hl ∈ a := by
          intro l hl e
          subst e
          rw [List.getElem_append_left hj]
          exact List.getElem_mem hj
        exact this _ _ h
      simp only [Bool.not_eq_true', beq_eq_false_iff_ne, ne_eq]
      intro e3
      exact hn (e3 ▸ e2)
  rw [hf]
theorem fIdx_none {s : ByteArray} {x : UInt8} (hn : x ∉ toL s) : fIdx s x = -1 := by
  unfold fIdx
  have hf : (List.range s.size).find? (fun i => s[i]! == x) = none := by
    rw [List.find?_eq_none]
    intro j hj
    have hjs : j < s.size := List.mem_range.1 hj
    rw [get_bang hjs]
    have e : s[j]'hjs = (toL s)[j]'(by rw [← size_toL]; exact hjs) := rfl
    simp only [beq_iff_eq]
    intro e2
    apply hn
    rw [← e2, e]
    exact List.getElem_mem _
  rw [hf]
def cutR (s : ByteArray) (x : UInt8) : ByteArray × ByteArray × Bool := match cutL x (toL s) with
  | some (a, b) => (ofL a, ofL b, true)
  | none => (s, ByteArray.empty, false)
theorem cut_ev (s : ByteArray) (hs : s.size ≤ 1125899906842624) (x : UInt8) (sep : ByteArray) (hsep : sep = ⟨#[x]⟩) : Ev (fun k => strings_Cut.f k s sep) (cutR s x) := by
  subst hsep
  have hsz : (⟨#[x]⟩ : ByteArray).size = 1 := rfl
  have hbt : bt (⟨#[x]⟩ : ByteArray) 0 = (x.toNat : Int) := bt_at (b := ⟨#[x]⟩) (p := []) (c := x) (r := []) rfl
  have hix : Ev (fun k => stringslite_Index.f k s ⟨#[x]⟩) (fIdx s x) := by
    unfold stringslite_Index.f
    rw [hsz, hbt]
    refine Ev.if_neg (by decide) ?_
    by_cases he : (⟨#[x]⟩ : ByteArray) = s
    · refine Ev.if_pos he ((Ev.now _).of_eq ?_)
      have : toL s = [] ++ x :: [] := by rw [← he]; rfl
      rw [fIdx_at this List.not_mem_nil]
      rfl
    · refine Ev.if_neg he (Ev.if_pos (by decide) (Ev.if_pos (by decide) ((Ev.now _).of_eq ?_)))
      congr 1
      rw [Int.toNat_natCast]
      exact UInt8.ofNat_toNat
  have hc : Ev (fun k => stringslite_Cut.f k s ⟨#[x]⟩) (cutR s x) := by
    unfold stringslite_Cut.f
    rw [hsz]
    refine Ev.bind hix ?_
    unfold cutR
    cases hx : cutL x (toL s) with
    | none =>
      rw [fIdx_none (cutL_none hx)]
      exact Ev.if_neg (by decide) (Ev.now _)
    | some p =>
      obtain ⟨a, b⟩ := p
      obtain ⟨h1, h2⟩ := cutL_some hx
      have hsize : s.size = a.length + (b.length + 1) := by rw [size_toL, h1, List.length_append, List.length_cons]
      rw [fIdx_at h1 h2]
      have ew : wrap64 ((a.length : Int) + ((1 : Nat) : Int)) = ((a.length + 1 : Nat) : Int) := by rw [wrap_id (by omega) (by omega)]; omega
      have e2 : s.extract (a.length + 1) s.size = ofL b := by
        have h3 : toL s = (a ++ [x]) ++ b := by rw [h1]; simp
        have := ext_drop h3
        rwa [List.length_append, List.length_singleton] at this
      rw [ew, Int.toNat_natCast, Int.toNat_natCast, ext_take h1, e2]
      exact Ev.if_pos (nn0 _) (Ev.if_pos (by omega) (Ev.if_pos (nn0 _) (Ev.if_pos (by omega) (Ev.now _))))
  unfold strings_Cut.f
  exact Ev.bind hc (Ev.now _)
def isPre (x : UInt8) : List UInt8 → Bool
  | [] => false
  | c :: _ => c == x
theorem prefix_ev (s : ByteArray) (x : UInt8) : strings_HasPrefix.f s ⟨#[x]⟩ = some (isPre x (toL s)) := by
  unfold strings_HasPrefix.f stringslite_HasPrefix.f
  have hsz : (⟨#[x]⟩ : ByteArray).size = 1 := rfl
  rw [hsz]
  cases hw : toL s with
  | nil =>
    have h0 : s.size = 0 := by rw [size_toL, hw]; rfl
    rw [if_neg (by omega)]
    rfl
  | cons c t =>
    have h1 : s.size = t.length + 1 := by rw [size_toL, hw]; rfl
    rw [if_pos (by omega), if_pos (by decide)]
    have e1 : s.extract 0 1 = ofL [c] := ext_take (a := [c]) (b := t) hw
    simp only [Option.bind_some, Int.toNat_natCast]
    rw [e1, Option.some.injEq]
    show ((ofL [c]).toList == (⟨#[x]⟩ : ByteArray).toList) = (c == x)
    by_cases h : c = x
    · subst h
      have e : (ofL [c]) = (⟨#[c]⟩ : ByteArray) := rfl
      rw [@str_t ⟨[], 0, 0⟩ _ _ e]
      simp
    · have e : ¬ (ofL [c]) = (⟨#[x]⟩ : ByteArray) := fun e => h (by
        have := congrArg toL e
        have e2 : ([c] : List UInt8) = [x] := this
        exact (List.cons.inj e2).1)
      rw [@str_f ⟨[], 0, 0⟩ _ _ e]
      symm
      simpa using h
theorem ten_l0 (n : Nat) (hn : n ≤ 20000) : ∀ d i : Nat, i + d = n → Ev (fun k => ratio_ten.l0 k (lm (10 ^ i)) (n : Int) (i : Int)) (lm (10 ^ n)) := by
  intro d
  induction d with
  | zero =>
    intro i hi
    obtain rfl : i = n := by omega
    refine Ev.succ ?_
    simp only [ratio_ten.l0]
    exact Ev.if_neg (by omega) (Ev.now _)
  | succ d ih =>
    intro i hi
    have hih := ih (i + 1) (by omega)
    have hl := len_ten i
    have hm := mul_ev (lm (10 ^ i)) (lm 10) (lm_ok _).U (lm_ok _).U (by rw [lm_length, lm_length]; have := len_small (n := 10) (by decide); omega)
    rw [val_lm, val_lm, ← Nat.pow_succ] at hm
    refine Ev.succ ?_
    simp only [ratio_ten.l0, wr_succ i (show i ≤ 1125899906842624 by omega)]
    exact Ev.if_pos (by omega) (Ev.bind (ofN_ev 10 (by decide)) (Ev.bind hm hih))
theorem ten_ev (n : Nat) (hn : n ≤ 20000) : Ev (fun k => ratio_ten.f k (n : Int)) (lm (10 ^ n)) := by
  unfold ratio_ten.f
  exact Ev.bind (ofN_ev 1 (by decide)) (ten_l0 n hn n 0 (by omega))
def plE (w : List UInt8) : Int := match cutL 47 w with
  | some (a, b) => if pE a ≠ 0 then pE a else if pE b ≠ 0 then pE b else if dgv 0 b = 0 then 2 else 0
  | none => match cutL 46 w with
    | some (a, b) => if pE a ≠ 0 then pE a else pE b
    | none => pE w
def plV (w : List UInt8) : Rat := match cutL 47 w with
  | some (a, b) => mkRat (dgv 0 a : Int) (dgv 0 b)
  | none => match cutL 46 w with
    | some (a, b) => mkRat ((dgv 0 a * 10 ^ b.length + dgv 0 b : Nat) : Int) (10 ^ b.length)
    | none => ((dgv 0 w : Int) : Rat)
def rR (e : Int) (x : Rat) : Bool × List Int × List Int × Int := if e = 0 then ((cn x).1, (cn x).2.1, (cn x).2.2, 0) else (false, [], [], e)
theorem form_nat (n q : Nat) (hq : q ≠ 0) (h1 : len n ≤ 549755813888) (h2 : len q ≤ 549755813888) : Ev (fun k => ratio_form.f k false (lm n) (lm q)) (cn (mkRat (n : Int) q)) := by
  have := form_cn (n : Int) q hq (by rw [Int.natAbs_natCast]; exact h1) h2
  rwa [Int.natAbs_natCast, decide_eq_false (show ¬ ((n : Int) < 0) by omega)] at this
theorem pE_len {w : List UInt8} (h : pE w = 0) : len (dgv 0 w) ≤ 10001 := by
  obtain ⟨_, h2, h3⟩ := pE_zero.1 h
  have := len_dgv w h2
  omega
theorem plain_ev (s : ByteArray) (hs : s.size ≤ 1125899906842624) : Ev (fun k => ratio_plain.f k s) (rR (plE (toL s)) (plV (toL s))) := by
  unfold ratio_plain.f
  refine Ev.bind (cut_ev s hs 47 _ rfl) ?_
  unfold cutR plE plV
  cases h1 : cutL 47 (toL s) with
  | some p =>
    obtain ⟨a, b⟩ := p
    dsimp only
    refine Ev.if_pos rfl ?_
    have pa := nparse_ev (ofL a)
    have pb := nparse_ev (ofL b)
    rw [toL_ofL] at pa pb
    unfold pR at pa pb
    by_cases ha : pE a = 0
    · rw [if_pos ha] at pa
      rw [if_neg (fun h => h ha)]
      refine Ev.bind pa (Ev.if_neg (fun h => h rfl) ?_)
      by_cases hb : pE b = 0
      · rw [if_pos hb] at pb
        rw [if_neg (fun h => h hb)]
        refine Ev.bind pb (Ev.if_neg (fun h => h rfl) ?_)
        by_cases h0 : dgv 0 b = 0
        · rw [if_pos h0]
          exact Ev.if_pos (by show ((lm (dgv 0 b)).length : Int) = 0; rw [h0, lm_zero]; rfl) (Ev.now _)
        · rw [if_neg h0]
          have hp := len_eq_zero (n := dgv 0 b)
          have la := pE_len ha
          have lb := pE_len hb
          refine Ev.if_neg (by show ¬ ((lm (dgv 0 b)).length : Int) = 0; rw [lm_length]; omega) ?_
          exact Ev.bind (form_nat (dgv 0 a) (dgv 0 b) h0 (by omega) (by omega)) (Ev.now _)
      · rw [if_neg hb] at pb
        rw [if_pos hb]
        unfold rR
        rw [if_neg hb]
        exact Ev.bind pb (Ev.if_pos hb (Ev.now _))
    · rw [if_neg ha] at pa
      rw [if_pos ha]
      unfold rR
      rw [if_neg ha]
      exact Ev.bind pa (Ev.if_pos ha (Ev.now _))
  | none =>
    dsimp only
    refine Ev.if_neg (by decide) (Ev.bind (cut_ev s hs 46 _ rfl) ?_)
    unfold cutR
    cases h2 : cutL 46 (toL s) with
    | some p =>
      obtain ⟨a, b⟩ := p
      dsimp only
      refine Ev.if_pos rfl ?_
      have pa := nparse_ev (ofL a)
      have pb := nparse_ev (ofL b)
      rw [toL_ofL] at pa pb
      unfold pR at pa pb
      by_cases ha : pE a = 0
      · rw [if_pos ha] at pa
        rw [if_neg (fun h => h ha)]
        refine Ev.bind pa (Ev.if_neg (fun h => h rfl) ?_)
        by_cases hb : pE b = 0
        · rw [if_pos hb] at pb
          refine Ev.bind pb (Ev.if_neg (fun h => h rfl) ?_)
          have hbl := (pE_zero.1 hb).2.2
          have la := pE_len ha
          have lb := pE_len hb
          have lt := len_ten b.length
          have hsz : (ofL b).size = b.length := by rw [size_toL]; rfl
          rw [hsz]
          have hm := mul_ev (lm (dgv 0 a)) (lm (10 ^ b.length)) (lm_ok _).U (lm_ok _).U (by rw [lm_length, lm_length]; omega)
          rw [val_lm, val_lm] at hm
          have lm1 := len_mul (dgv 0 a) (10 ^ b.length)
          have hadd := nadd_ev (lm (dgv 0 a * 10 ^ b.length)) (lm (dgv 0 b)) (lm_ok _).U (lm_ok _).U (by rw [lm_length]; omega) (by rw [lm_length]; omega)
          rw [val_lm, val_lm] at hadd
          have la2 := len_add (dgv 0 a * 10 ^ b.length) (dgv 0 b)
          rw [hb]
          have hf := form_nat (dgv 0 a * 10 ^ b.length + dgv 0 b) (10 ^ b.length) (Nat.pos_iff_ne_zero.1 (Nat.pow_pos (by decide))) (by omega) (by omega)
          exact Ev.bind (ten_ev b.length (by omega)) (Ev.bind hm (Ev.bind hadd (Ev.bind hf (Ev.now _))))
        · rw [if_neg hb] at pb
          unfold rR
          rw [if_neg hb]
          exact Ev.bind pb (Ev.if_pos hb (Ev.now _))
      · rw [if_neg ha] at pa
        rw [if_pos ha]
        unfold rR
        rw [if_neg ha]
        exact Ev.bind pa (Ev.if_pos ha (Ev.now _))
    | none =>
      dsimp only
      refine Ev.if_neg (by decide) ?_
      have pa := nparse_ev s
      unfold pR at pa
      unfold rR
      by_cases ha : pE (toL s) = 0
      · rw [if_pos ha] at pa
        rw [if_pos ha]
        have la := pE_len ha
        have hf := form_nat (dgv 0 (toL s)) 1 (by decide) (by omega) (by rw [len_one]; decide)
        have e : mkRat (dgv 0 (toL s) : Int) 1 = ((dgv 0 (toL s) : Int) : Rat) := Rat.mkRat_self ((dgv 0 (toL s) : Int) : Rat)
        rw [e] at hf
        exact Ev.bind pa (Ev.if_neg (fun h => h rfl) (Ev.bind (ofN_ev 1 (by decide)) (Ev.bind hf (Ev.now _))))
      · rw [if_neg ha] at pa
        rw [if_neg ha]
        exact Ev.bind pa (Ev.if_pos ha (Ev.now _))
end Go.DI.Th
namespace Go.DI.Th
open Go Go.RowKit Go.DI

def sgQ (neg : Bool) (x : Rat) : Rat := if neg = true then -x else x
theorem Sz_sgQ (neg : Bool) (x : Rat) : Sz (sgQ neg x) = Sz x := by
  unfold sgQ
  split
  · exact Sz_neg x
  · rfl
def unm (w : List UInt8) : Bool × List UInt8 := if isPre 45 w = true then (true, w.drop 1) else (false, w)
def prE (w : List UInt8) : Int := plE (unm w).2
def prV (w : List UInt8) : Rat := sgQ (unm w).1 (plV (unm w).2)
theorem plV_sz {w : List UInt8} (h : plE w = 0) : Sz (plV w) ≤ 20100 := by
  unfold plE at h
  unfold plV
  cases h1 : cutL 47 w with
  | some p =>
    obtain ⟨a, b⟩ := p
    rw [h1] at h
    dsimp only at h ⊢
    by_cases ha : pE a = 0
    · rw [if_neg (fun e => e ha)] at h
      by_cases hb : pE b = 0
      · rw [if_neg (fun e => e hb)] at h
        by_cases h0 : dgv 0 b = 0
        · rw [if_pos h0] at h; cases h
        · have := Sz_mk (dgv 0 a : Int) (dgv 0 b) h0
          rw [Int.natAbs_natCast] at this
          have la := pE_len ha
          have lb := pE_len hb
          omega
      · rw [if_pos hb] at h; exact absurd h hb
    · rw [if_pos ha] at h; exact absurd h ha
  | none =>
    rw [h1] at h
    dsimp only at h ⊢
    cases h2 : cutL 46 w with
    | some p =>
      obtain ⟨a, b⟩ := p
      rw [h2] at h
      dsimp only at h ⊢
      by_cases ha : pE a = 0
      · rw [if_neg (fun e => e ha)] at h
        have := Sz_mk ((dgv 0 a * 10 ^ b.length + dgv 0 b : Nat) : Int) (10 ^ b.length) (Nat.pos_iff_ne_zero.1 (Nat.pow_pos (by decide)))
        rw [Int.natAbs_natCast] at this
        have la := pE_len ha
        have lb := pE_len h
        have hbl := (pE_zero.1 h).2.2
        have lt := len_ten b.length
        have lm1 := len_mul (dgv 0 a) (10 ^ b.length)
        have la2 := len_add (dgv 0 a * 10 ^ b.length) (dgv 0 b)
        omega
      · rw [if_pos ha] at h; exact absurd h ha
    | none =>
      rw [h2] at h
      dsimp only at h ⊢
      rw [Sz_int, Int.natAbs_natCast]
      have la := pE_len h
      omega
theorem prV_sz {w : List UInt8} (h : prE w = 0) : Sz (prV w) ≤ 20100 := by
  unfold prV
  rw [Sz_sgQ]
  exact plV_sz h
theorem unm_drop {s : ByteArray} (h : isPre 45 (toL s) = true) : s.extract 1 s.size = ofL ((toL s).drop 1) ∧ 1 ≤ s.size := by
  cases hw : toL s with
  | nil => rw [hw] at h; cases h
  | cons c t =>
    have e : s.extract ([c] : List UInt8).length s.size = ofL t := ext_drop (a := [c]) (b := t) hw
    refine ⟨e, ?_⟩
    have := size_toL s
    rw [hw, List.length_cons] at this
    omega
theorem rparse_ev (s : ByteArray) (hs : s.size ≤ 1125899906842624) : Ev (fun k => ratio_Parse.f k s) (rR (prE (toL s)) (prV (toL s))) := by
  unfold ratio_Parse.f
  rw [prefix_ev]
  unfold prE prV unm
  by_cases hp : isPre 45 (toL s) = true
  · rw [if_pos hp, hp]
    obtain ⟨e1, e2⟩ := unm_drop hp
    rw [e1]
    have hsz : (ofL ((toL s).drop 1)).size ≤ 1125899906842624 := by
      rw [size_toL, toL_ofL, List.length_drop, ← size_toL]
      omega
    have h1 := plain_ev (ofL ((toL s).drop 1)) hsz
    rw [toL_ofL] at h1
    refine Ev.bind (Ev.now true) (Ev.if_pos rfl (Ev.if_pos (by omega) (Ev.bind h1 ?_)))
    dsimp only
    have hsz := plV_sz (w := (toL s).drop 1)
    generalize plE ((toL s).drop 1) = e at hsz ⊢
    generalize plV ((toL s).drop 1) = x at hsz ⊢
    unfold rR
    by_cases h0 : e = 0
    · rw [if_pos h0, if_pos h0]
      have hn := neg_cn (cn x) (cnB x (hsz h0)) (by decide)
      rw [rv_cn] at hn
      exact Ev.if_neg (fun h => h rfl) (Ev.bind hn (Ev.now _))
    · rw [if_neg h0, if_neg h0]
      exact Ev.if_pos h0 (Ev.now _)
  · rw [if_neg hp]
    have hp' : isPre 45 (toL s) = false := by simpa using hp
    rw [hp']
    refine Ev.bind (Ev.now false) (Ev.if_neg (by decide) (Ev.bind (plain_ev s hs) ?_))
    dsimp only
    generalize plE (toL s) = e
    generalize plV (toL s) = x
    unfold rR
    by_cases h0 : e = 0
    · rw [if_pos h0, if_pos h0]
      exact Ev.if_neg (fun h => h rfl) (Ev.now _)
    · rw [if_neg h0, if_neg h0]
      exact Ev.if_pos h0 (Ev.now _)
end Go.DI.Th
namespace Go.DI.Th
open Go Go.RowKit Go.DI

def pickL (s : St) (place : Int) (w : ByteArray) : List ByteArray → Nat → Int × St
  | [], _ => (0, failS s 7 place)
  | x :: l, i => if w = x then ((i : Int), s) else pickL s place w l (i + 1)
def pickS (s : St) (l : List ByteArray) : Int × St := if (wordS s).2.err ≠ 0 then (0, (wordS s).2) else pickL (wordS s).2 (placeS s) (wordS s).1 l 0
theorem pick_l0 (s : St) (place : Int) (w : ByteArray) (ws : List ByteArray) (hw : ws.length ≤ 1000) : ∀ (b a : List ByteArray), ws = a ++ b → Ev (fun k => lex_Reader_Pick.l0 k place w ws (ws.length : Int) (a.length : Int) s.ls s.i s.j s.sz s.err s.at_) ((pickL s place w b a.length).1, (pickL s place w b a.length).2.t) := by
  intro b
  induction b with
  | nil =>
    intro a hr
    rw [List.append_nil] at hr
    refine Ev.succ ?_
    simp only [lex_Reader_Pick.l0, fail_eq]
    exact Ev.if_neg (by rw [hr]; omega) (Ev.now _)
  | cons x b ih =>
    intro a hr
    have e1 := gt_at ByteArray.empty a x b
    have l1 := lt_at a x b
    rw [← hr] at e1 l1
    have hl : ws.length = a.length + (b.length + 1) := by rw [hr, List.length_append, List.length_cons]
    have hih := ih (a ++ [x]) (by rw [hr]; simp)
    refine Ev.succ ?_
    simp only [lex_Reader_Pick.l0, e1, wr_at a x (show a.length ≤ 1125899906842624 by omega)]
    refine Ev.if_pos l1 (Ev.if_pos (nn0 _) (Ev.if_pos l1 ?_))
    rw [pickL]
    by_cases h : w = x
    · rw [if_pos h]
      exact Ev.if_pos h (Ev.now _)
    · rw [if_neg h]
      rw [List.length_append, List.length_singleton] at hih ⊢
      exact Ev.if_neg h hih
theorem pick_ev (s : St) (h : s.Good) (ws : List ByteArray) (hw : ws.length ≤ 1000) : Ev (fun k => lex_Reader_Pick.f k s.ls s.i s.j s.sz s.err s.at_ ws) ((pickS s ws).1, (pickS s ws).2.t) := by
  unfold lex_Reader_Pick.f pickS
  rw [place_eq s h.ok h.l1]
  show Ev (fun k => (lex_Reader_Word.f s.ls s.i s.j s.sz s.err s.at_).bind _) _
  rw [word_eq s h.ok h.l1]
  generalize wordS s = p
  obtain ⟨v, s2⟩ := p
  show Ev (fun k => if (s2.err != 0) = true then some (0, s2.t) else lex_Reader_Pick.l0 k (placeS s) v ws (ws.length : Int) 0 s2.ls s2.i s2.j s2.sz s2.err s2.at_) _
  by_cases he : s2.err ≠ 0
  · rw [if_pos he]
    exact Ev.if_pos (by simpa using he) (Ev.now _)
  · rw [if_neg he]
    exact Ev.if_neg (by simpa using he) (pick_l0 s2 (placeS s) v ws hw ws [] rfl)
theorem pickL_good {s : St} (h : s.Good) (place : Int) (w : ByteArray) : ∀ (l : List ByteArray) (i : Nat), (pickL s place w l i).2.Good
  | [], _ => failS_good h _ _
  | x :: l, i => by
    rw [pickL]
    split
    · exact h
    · exact pickL_good h place w l (i + 1)
theorem pickS_good {s : St} (h : s.Good) (l : List ByteArray) : (pickS s l).2.Good := by
  unfold pickS
  split
  · exact wordS_good h
  · exact pickL_good (wordS_good h) _ _ _ _
def FailS (s : St) (e : Int) : St := if s.err ≠ 0 then s else if e = 0 then s else if s.ls.length ≤ s.i then s else if s.j = 0 then s else failS s e (s.line.getD (s.j - 1) w0).1
theorem Fail_eq (s : St) (h : s.Good) (e : Int) : lex_Reader_Fail.f s.ls s.i s.j s.sz s.err s.at_ e = some (FailS s e).t := by
  unfold lex_Reader_Fail.f FailS
  rw [off_eq]
  show (if (s.err != 0) = true then some s.t else if e = 0 then some s.t else if (s.i : Int) ≥ (s.ls.length : Int) then some s.t else if (s.j : Int) = 0 then some s.t else (if 0 ≤ (s.i : Int) then (if (s.i : Int) < (s.ls.length : Int) then (if 0 ≤ (wrap64 ((s.j : Int) - 1)) then (if (wrap64 ((s.j : Int) - 1)) < (s.line.length : Int) then ((lex_Reader_fail.f s.ls s.i s.j s.sz s.err s.at_ e ((gt (0, 0, ByteArray.empty) s.line (wrap64 ((s.j : Int) - 1))).1)).bind fun v45 => some v45) else none) else none) else none) else none)) = _
  by_cases he : s.err ≠ 0
  · rw [if_pos (by simpa using he), if_pos he]
  · rw [if_neg (by simpa using he), if_neg he]
    by_cases h0 : e = 0
    · rw [if_pos h0, if_pos h0]
    · rw [if_neg h0, if_neg h0]
      by_cases hi : s.ls.length ≤ s.i
      · rw [if_pos (by omega), if_pos hi]
      · rw [if_neg (by omega), if_neg hi]
        by_cases hj : s.j = 0
        · rw [if_pos (by omega), if_pos hj]
        · have hjl := h.ok.jl
          have hjb := h.ok.jb
          have q1 : (s.i : Int) < (s.ls.length : Int) := by omega
          have q2 : ((s.j - 1 : Nat) : Int) < (s.line.length : Int) := by omega
          have ew : wrap64 ((s.j : Int) - 1) = ((s.j - 1 : Nat) : Int) := by rw [wrap_id (by omega) (by omega)]; omega
          have q3 : ¬ (s.j : Int) = 0 := by clear ew; omega
          rw [if_neg q3, if_neg hj, ew, if_pos (nn0 _), if_pos q1, if_pos (nn0 _), if_pos q2, gt_nat, fail_eq]
          rfl
theorem FailS_good {s : St} (h : s.Good) (e : Int) : (FailS s e).Good := by
  unfold FailS
  split
  · exact h
  · split
    · exact h
    · split
      · exact h
      · split
        · exact h
        · exact failS_good h _ _
theorem word_err {s : St} (h : s.err ≠ 0) : wordS s = (ByteArray.empty, s) := by unfold wordS; rw [if_pos h]
theorem take_err {s : St} (h : s.err ≠ 0) (w : ByteArray) : takeS s w = s := by unfold takeS; rw [word_err h]; exact if_pos h
theorem next_err {s : St} (h : s.err ≠ 0) : nextS s = s := by unfold nextS; rw [if_pos h]
theorem end_err {s : St} (h : s.err ≠ 0) : endS s = s := by unfold endS; rw [if_pos h]
theorem count_err {s : St} (h : s.err ≠ 0) (lo hi : Int) : countS s lo hi = (0, s) := by unfold countS; rw [word_err h]; exact if_pos h
theorem pick_err {s : St} (h : s.err ≠ 0) (l : List ByteArray) : pickS s l = (0, s) := by unfold pickS; rw [word_err h]; exact if_pos h
theorem Fail_err {s : St} (h : s.err ≠ 0) (e : Int) : FailS s e = s := by unfold FailS; rw [if_pos h]
def numS (s : St) : Rt × St := (if prE (toL (wordS s).1) = 0 then cn (prV (toL (wordS s).1)) else (false, [], []), FailS (wordS s).2 (prE (toL (wordS s).1)))
theorem numS_ok (s : St) : RtOk (numS s).1 := by
  unfold numS
  dsimp only
  by_cases h : prE (toL (wordS s).1) = 0
  · rw [if_pos h]
    exact cnB (b := 1048576) _ (Nat.le_trans (prV_sz h) (by decide))
  · rw [if_neg h]
    exact ⟨fun x hx => (by cases hx), fun x hx => (by cases hx), by decide, by decide⟩
theorem countS_range (s : St) (lo hi : Int) (h0 : 0 ≤ lo) (h1 : 0 ≤ hi) : 0 ≤ (countS s lo hi).1 ∧ (countS s lo hi).1 ≤ hi := by
  unfold countS
  split
  · exact ⟨Int.le_refl _, h1⟩
  · split
    · split
      · exact ⟨Int.le_refl _, h1⟩
      · split
        · exact ⟨Int.le_refl _, h1⟩
        · constructor <;> (show _ ≤ _; omega)
    · exact ⟨Int.le_refl _, h1⟩
end Go.DI.Th
namespace Go.DI.Th
open Go Go.RowKit Go.DI

end Go.DI.Th
namespace Go.DI.Th
open Go Go.RowKit Go.DI

def prX (x : Rat) : ByteArray := prQ x.num x.den
def Rd (x : Rat) : Prop := prE (toL (prX x)) = 0 ∧ prV (toL (prX x)) = x
end Go.DI.Th
namespace Go.DI.Th
open Go Go.RowKit Go.DI

def wds (l : List W) : List (List UInt8) := l.map fun w => toL w.2.2
structure Cur (s : St) (ws : List (List UInt8)) (rest : List (List (List UInt8))) : Prop where
  good : s.Good
  err : s.err = 0
  il : s.i < s.ls.length
  cur : wds (s.line.drop s.j) = ws
  nxt : (s.ls.drop (s.i + 1)).map wds = rest
theorem Cur.word {s : St} {w : List UInt8} {ws : List (List UInt8)} {rest : List (List (List UInt8))} (h : Cur s (w :: ws) rest) : ∃ s', wordS s = (ofL w, s') ∧ Cur s' ws rest := by
  have hne : ¬ s.err ≠ 0 := fun e => e h.err
  have hlen := congrArg List.length h.cur
  unfold wds at hlen
  rw [List.length_map, List.length_drop, List.length_cons] at hlen
  have hj : s.j < s.line.length := by omega
  have hm : moreS s := ⟨h.err, h.il, hj⟩
  have hd : s.line.drop s.j = s.line.getD s.j w0 :: s.line.drop (s.j + 1) := by
    rw [List.drop_eq_getElem_cons hj, List.getD_eq_getElem?_getD, List.getElem?_eq_getElem hj]
    rfl
  have hc := h.cur
  rw [hd] at hc
  have h1 : toL (s.line.getD s.j w0).2.2 = w := (List.cons.inj hc).1
  have h2 : wds (s.line.drop (s.j + 1)) = ws := (List.cons.inj hc).2
  have hg := wordS_good h.good
  refine ⟨{ s with j := s.j + 1 }, ?_, ?_⟩
  · unfold wordS
    rw [if_neg hne, if_pos hm]
    rw [← h1, ofL_toL]
  · have e : (wordS s).2 = { s with j := s.j + 1 } := by unfold wordS; rw [if_neg hne, if_pos hm]
    rw [e] at hg
    exact ⟨hg, h.err, h.il, h2, h.nxt⟩
theorem Cur.take {s : St} {w : ByteArray} {ws : List (List UInt8)} {rest : List (List (List UInt8))} (h : Cur s (toL w :: ws) rest) : Cur (takeS s w) ws rest := by
  obtain ⟨s', e, c⟩ := h.word
  unfold takeS
  rw [e]
  dsimp only
  rw [if_neg (fun h => h c.err), ofL_toL, if_neg (fun h => h rfl)]
  exact c
theorem Cur.num {s : St} {x : Rat} {ws : List (List UInt8)} {rest : List (List (List UInt8))} (h : Cur s (toL (prX x) :: ws) rest) (hx : Rd x) : (numS s).1 = cn x ∧ Cur (numS s).2 ws rest := by
  obtain ⟨s', e, c⟩ := h.word
  unfold numS
  rw [e]
  dsimp only
  rw [toL_ofL, hx.1, hx.2, if_pos rfl]
  refine ⟨rfl, ?_⟩
  unfold FailS
  rw [if_neg (fun h => h c.err), if_pos rfl]
  exact c
theorem Cur.more {s : St} {rest : List (List (List UInt8))} (h : Cur s [] rest) : ¬ moreS s := fun hm => by
  have hlen := congrArg List.length h.cur
  unfold wds at hlen
  rw [List.length_map, List.length_drop, List.length_nil] at hlen
  have := hm.2.2
  omega
theorem Cur.next {s : St} {l : List (List UInt8)} {rest : List (List (List UInt8))} (h : Cur s [] (l :: rest)) : Cur (nextS s) l rest := by
  have hne : ¬ s.err ≠ 0 := fun e => e h.err
  have hlen := congrArg List.length h.nxt
  rw [List.length_map, List.length_drop, List.length_cons] at hlen
  have hi : s.i + 1 < s.ls.length := by omega
  have hd : s.ls.drop (s.i + 1) = s.ls.getD (s.i + 1) [] :: s.ls.drop (s.i + 1 + 1) := by
    rw [List.drop_eq_getElem_cons hi, List.getD_eq_getElem?_getD, List.getElem?_eq_getElem hi]
    rfl
  have hc := h.nxt
  rw [hd] at hc
  have h1 : wds (s.ls.getD (s.i + 1) []) = l := (List.cons.inj hc).1
  have h2 : (s.ls.drop (s.i + 1 + 1)).map wds = rest := (List.cons.inj hc).2
  have hg := nextS_good h.good
  have e : nextS s = { s with i := s.i + 1, j := 0 } := by
    unfold nextS
    rw [if_neg hne, if_neg h.more, if_neg (by have := h.il; omega)]
  rw [e] at hg ⊢
  exact ⟨hg, h.err, hi, h1, h2⟩
structure CurE (s : St) : Prop where
  good : s.Good
  err : s.err = 0
  il : s.i = s.ls.length
theorem CurE.done {s : St} (h : CurE s) : endS s = s := by
  unfold endS
  rw [if_neg (fun e => e h.err), if_neg (by have := h.il; omega)]
def CurL (s : St) (L : List (List (List UInt8))) : Prop := ∃ l rest, L = l :: rest ∧ Cur s l rest
theorem CurL.of {s : St} {l : List (List UInt8)} {rest : List (List (List UInt8))} (h : Cur s l rest) : CurL s (l :: rest) := ⟨l, rest, rfl, h⟩
theorem CurL.err {s : St} {L : List (List (List UInt8))} (h : CurL s L) : s.err = 0 := by
  obtain ⟨_, _, _, c⟩ := h
  exact c.err
end Go.DI.Th
namespace Go.DI.Th
open Go Go.RowKit Go.DI

end Go.DI.Th
namespace Go.DI.Th
open Go Go.RowKit Go.DI

def wz : List W → Nat
  | [] => 0
  | w :: l => w.2.2.size + 1 + wz l
theorem wz_append : ∀ a b : List W, wz (a ++ b) = wz a + wz b
  | [], b => by rw [List.nil_append, wz]; omega
  | w :: a, b => by rw [List.cons_append, wz, wz, wz_append a b]; omega
theorem wz_shift (n pos : Nat) : ∀ l : List W, wz (l.map (shiftW n pos)) = wz l
  | [] => rfl
  | w :: l => by rw [List.map_cons, wz, wz, wz_shift n pos l]; rfl
def lz : List (List W) → Nat
  | [] => 0
  | l :: r => wz l + lz r
theorem lz_append : ∀ a b : List (List W), lz (a ++ b) = lz a + lz b
  | [], b => by rw [List.nil_append, lz]; omega
  | w :: a, b => by rw [List.cons_append, lz, lz, lz_append a b]; omega
def rem (s : St) : Nat := wz (s.line.drop s.j) + lz (s.ls.drop (s.i + 1))
theorem failS_err {s : St} {e a : Int} (he : e ≠ 0) : (failS s e a).err ≠ 0 := by
  unfold failS
  by_cases h : s.err ≠ 0
  · rw [if_pos h]; exact h
  · rw [if_neg h]; exact he
theorem word_rem {s : St} (h : (wordS s).2.err = 0) : s.err = 0 ∧ moreS s ∧ (wordS s).2.i = s.i ∧ 1 ≤ (wordS s).2.j ∧ (wordS s).2.ls = s.ls ∧ rem (wordS s).2 + (wordS s).1.size + 1 = rem s := by
  unfold wordS at h ⊢
  by_cases he : s.err ≠ 0
  · rw [if_pos he] at h; exact absurd h he
  · rw [if_neg he] at h ⊢
    by_cases hm : moreS s
    · rw [if_pos hm]
      refine ⟨hm.1, hm, rfl, by show 1 ≤ s.j + 1; omega, rfl, ?_⟩
      have hj := hm.2.2
      have e : s.line.drop s.j = s.line.getD s.j w0 :: s.line.drop (s.j + 1) := by
        rw [List.getD_eq_getElem?_getD, List.getElem?_eq_getElem hj]
        exact List.drop_eq_getElem_cons hj
      show wz (s.line.drop (s.j + 1)) + lz (s.ls.drop (s.i + 1)) + (s.line.getD s.j w0).2.2.size + 1 = wz (s.line.drop s.j) + lz (s.ls.drop (s.i + 1))
      rw [e, wz]
      omega
    · rw [if_neg hm] at h
      exact absurd h (failS_err (by decide))
theorem take_rem {s : St} {w : ByteArray} (h : (takeS s w).err = 0) : s.err = 0 ∧ rem (takeS s w) + 1 ≤ rem s := by
  unfold takeS at h ⊢
  by_cases he : (wordS s).2.err ≠ 0
  · rw [if_pos he] at h; exact absurd h he
  · rw [if_neg he] at h ⊢
    by_cases hw : (wordS s).1 ≠ w
    · rw [if_pos hw] at h; exact absurd h (failS_err (by decide))
    · rw [if_neg hw] at h ⊢
      obtain ⟨a, _, _, _, _, b⟩ := word_rem h
      exact ⟨a, by omega⟩
theorem next_rem {s : St} (h : (nextS s).err = 0) : s.err = 0 ∧ rem (nextS s) ≤ rem s := by
  unfold nextS at h ⊢
  by_cases he : s.err ≠ 0
  · rw [if_pos he] at h; exact absurd h he
  · rw [if_neg he] at h ⊢
    by_cases hm : moreS s
    · rw [if_pos hm] at h; exact absurd h (failS_err (by decide))
    · rw [if_neg hm] at h ⊢
      by_cases hl : s.ls.length ≤ s.i
      · rw [if_pos hl] at h; exact absurd h (failS_err (by decide))
      · rw [if_neg hl]
        refine ⟨by omega, ?_⟩
        show wz ((s.ls.getD (s.i + 1) []).drop 0) + lz (s.ls.drop (s.i + 1 + 1)) ≤ wz (s.line.drop s.j) + lz (s.ls.drop (s.i + 1))
        by_cases h2 : s.i + 1 < s.ls.length
        · rw [List.drop_eq_getElem_cons h2, lz, List.getD_eq_getElem?_getD, List.getElem?_eq_getElem h2]
          show wz (s.ls[s.i + 1].drop 0) + _ ≤ _
          rw [List.drop_zero]
          omega
        · rw [List.getD_eq_getElem?_getD, List.getElem?_eq_none (by omega), List.drop_of_length_le (show s.ls.length ≤ s.i + 1 + 1 by omega)]
          exact Nat.zero_le _
theorem end_rem {s : St} (h : (endS s).err = 0) : s.err = 0 := by
  unfold endS at h
  by_cases he : s.err ≠ 0
  · rw [if_pos he] at h; exact absurd h he
  · omega
theorem count_rem {s : St} {lo hi : Int} (h : (countS s lo hi).2.err = 0) : s.err = 0 ∧ lo ≤ (countS s lo hi).1 ∧ (countS s lo hi).1 ≤ hi ∧ rem (countS s lo hi).2 + 1 ≤ rem s := by
  unfold countS at h ⊢
  by_cases he : (wordS s).2.err ≠ 0
  · rw [if_pos he] at h; exact absurd h he
  · rw [if_neg he] at h ⊢
    cases hs : smallS (toL (wordS s).1) with
    | none =>
      rw [hs] at h
      exact absurd h (failS_err (by decide))
    | some n =>
      rw [hs] at h
      dsimp only at h ⊢
      by_cases c1 : (n : Int) < lo
      · rw [if_pos c1] at h; exact absurd h (failS_err (by decide))
      · rw [if_neg c1] at h ⊢
        by_cases c2 : (n : Int) > hi
        · rw [if_pos c2] at h; exact absurd h (failS_err (by decide))
        · rw [if_neg c2] at h ⊢
          obtain ⟨a, _, _, _, _, b⟩ := word_rem h
          refine ⟨a, by show lo ≤ (n : Int); omega, by show (n : Int) ≤ hi; omega, ?_⟩
          show rem (wordS s).2 + 1 ≤ rem s
          omega
theorem pickL_rem {s : St} {p : Int} {w : ByteArray} : ∀ {l : List ByteArray} {i : Nat}, (pickL s p w l i).2.err = 0 → (pickL s p w l i).2 = s
  | [], _, h => absurd h (failS_err (by decide))
  | x :: l, i, h => by
    rw [pickL] at h ⊢
    by_cases e : w = x
    · rw [if_pos e]
    · rw [if_neg e] at h ⊢
      exact pickL_rem h
theorem pick_rem {s : St} {l : List ByteArray} (h : (pickS s l).2.err = 0) : s.err = 0 ∧ rem (pickS s l).2 + 1 ≤ rem s := by
  unfold pickS at h ⊢
  by_cases he : (wordS s).2.err ≠ 0
  · rw [if_pos he] at h; exact absurd h he
  · rw [if_neg he] at h ⊢
    have e := pickL_rem h
    rw [e] at h ⊢
    obtain ⟨a, _, _, _, _, b⟩ := word_rem h
    exact ⟨a, by omega⟩
theorem Fail_zero {s : St} {e : Int} (hs : s.err = 0) (hi : s.i < s.ls.length) (hj : 1 ≤ s.j) (h : (FailS s e).err = 0) : e = 0 ∧ FailS s e = s := by
  unfold FailS at h ⊢
  rw [if_neg (by omega)] at h ⊢
  by_cases e0 : e = 0
  · rw [if_pos e0]; exact ⟨e0, rfl⟩
  · rw [if_neg e0, if_neg (by omega), if_neg (by omega)] at h
    exact absurd h (failS_err e0)
end Go.DI.Th
namespace Go.DI.Th
open Go Go.RowKit Go.DI

def ll (t : List Nd) : Nat := (textW (t.map lineW)).length
theorem wordsS_wz : ∀ (n : Nat) (cs : List UInt8) (acc : List W) (pos : Nat), cs.length ≤ n → wz (wordsS acc pos cs).1 ≤ wz acc + 2 * cs.length := by
  intro n
  induction n with
  | zero =>
    intro cs acc pos hn
    have : cs = [] := List.eq_nil_of_length_eq_zero (by omega)
    subst this
    rw [wordsS]
    exact Nat.le_refl _
  | succ n ih =>
    intro cs acc pos hn
    cases cs with
    | nil => rw [wordsS]; exact Nat.le_refl _
    | cons c r =>
      rw [List.length_cons] at hn ⊢
      rw [wordsS]
      split
      · have := ih r acc (pos + 1) (by omega)
        omega
      · split
        · show wz acc ≤ _; omega
        · split
          · split
            · exact Nat.zero_le _
            · have hsplit := congrArg List.length (List.takeWhile_append_dropWhile (p := inw) (l := r))
              rw [List.length_append] at hsplit
              have := ih (r.dropWhile inw) (acc ++ [((pos : Int), 0, ofL (c :: r.takeWhile inw))]) (pos + (c :: r.takeWhile inw).length) (by omega)
              rw [wz_append, wz, wz] at this
              have e : (ofL (c :: r.takeWhile inw)).size = (r.takeWhile inw).length + 1 := by rw [size_toL, toL_ofL, List.length_cons]
              have e2 : (((pos : Int), (0 : Int), ofL (c :: r.takeWhile inw)) : W).2.2.size = (r.takeWhile inw).length + 1 := e
              rw [e2] at this
              omega
          · exact Nat.zero_le _
theorem linesS_lz : ∀ (m : Nat) (cs : List UInt8) (acc : List (List W)) (n pos : Nat), cs.length ≤ m → lz (linesS acc n pos cs).1 ≤ lz acc + 2 * cs.length := by
  intro m
  induction m using Nat.strongRecOn with
  | ind m ih =>
    intro cs acc n pos hm
    have hlen := congrArg List.length (List.takeWhile_append_dropWhile (p := nnl) (l := cs))
    rw [List.length_append] at hlen
    have hw := wordsS_wz _ (cs.takeWhile nnl) [] 0 (Nat.le_refl _)
    have hz : wz ([] : List W) = 0 := rfl
    rw [hz] at hw
    have hacc : lz (if (wordsS [] 0 (cs.takeWhile nnl)).1.length > 0 then acc ++ [(wordsS [] 0 (cs.takeWhile nnl)).1.map (shiftW n pos)] else acc) ≤ lz acc + 2 * (cs.takeWhile nnl).length := by
      split
      · rw [lz_append, lz, lz, wz_shift]; omega
      · omega
    rw [linesS]
    split
    · exact Nat.zero_le _
    · split
      · exact Nat.zero_le _
      · split
        · show lz (if _ then _ else _) ≤ _
          omega
        · rename_i c r hd
          rw [hd, List.length_cons] at hlen
          have := ih r.length (by omega) r (if (wordsS [] 0 (cs.takeWhile nnl)).1.length > 0 then acc ++ [(wordsS [] 0 (cs.takeWhile nnl)).1.map (shiftW n pos)] else acc) (n + 1) (pos + (cs.takeWhile nnl).length + 1) (Nat.le_refl _)
          omega
theorem read_rem (x : ByteArray) : rem (readS x) ≤ 2 * x.size := by
  have h : lz (linesT x).1 ≤ 2 * x.size := by
    unfold linesT
    split
    · exact Nat.zero_le _
    · have := linesS_lz _ (toL x) [] 0 0 (Nat.le_refl _)
      rw [size_toL]
      have e : lz ([] : List (List W)) = 0 := rfl
      omega
  refine Nat.le_trans ?_ h
  show wz (((linesT x).1.getD 0 []).drop 0) + lz ((linesT x).1.drop (0 + 1)) ≤ lz (linesT x).1
  cases (linesT x).1 with
  | nil => exact Nat.le_refl _
  | cons l r => exact Nat.le_refl _
end Go.DI.Th
namespace Go.DI.Th
open Go Go.RowKit Go.DI

abbrev En := Int × Int × Int × List (List Rt)

end Go.DI.Th
namespace Go.DI.Th
open Go Go.RowKit Go.DI

theorem digits_ev (n : Nat) (h : n ≤ 9223372036854775807) : Ev (fun k => report_digits.f k (n : Int)) (prN n) := ofprint_ev n h
theorem ldigits_ev (n : Nat) (h : n ≤ 9223372036854775807) : Ev (fun k => dendronlaw29_digits.f k (n : Int)) (prN n) := digits_ev n h

def okE (i : Nat) (x : En) : Prop := x.1 = (i : Int) ∧ 0 ≤ x.2.1 ∧ x.2.1 ≤ 9 ∧ 0 ≤ x.2.2.1 ∧ x.2.2.1 ≤ 999 ∧ (x.2.2.1 ≠ 0 → x.2.2.2.length = 0) ∧ x.2.2.2.length ≤ 64
instance (i : Nat) (x : En) : Decidable (okE i x) := by unfold okE; infer_instance
def okL : Nat → List En → Prop
  | _, [] => True
  | i, x :: l => okE i x ∧ okL (i + 1) l
instance okL.dec : ∀ (i : Nat) (l : List En), Decidable (okL i l)
  | _, [] => .isTrue trivial
  | i, x :: l => by
    unfold okL
    have := okL.dec (i + 1) l
    infer_instance
theorem right_loop (t : List (List Rt)) (hrows : ∀ r ∈ t, r.length ≤ 1000) (ht : t.length ≤ 1099511627776) : ∀ (b a : List (List Rt)), t = a ++ b → Ev (fun k => report_right.l0 k t (t.length : Int) (a.length : Int)) true := by
  intro b
  induction b with
  | nil =>
    intro a hx
    exact Ev.step (fun k => by rw [report_right.l0, if_neg (by rw [hx]; exact nlt_at a)]) (Ev.now _)
  | cons x b ih =>
    intro a hx
    have hg : gt [] t (a.length : Int) = x := by rw [hx]; exact gt_at _ a x b
    have hl := lt_at a x b
    rw [← hx] at hl
    have hm := hrows x (by rw [hx]; exact List.mem_append_right _ List.mem_cons_self)
    refine Ev.step (fun k => ?_) (ih (a ++ [x]) (by rw [hx, snoc_at]))
    rw [report_right.l0, if_pos hl, if_pos (nn0 _), if_pos hl, hg, if_neg (by omega), wr_at a x (by omega)]
theorem right_ev (i : Nat) (x : En) (hrows : ∀ r ∈ x.2.2.2, r.length ≤ 1000) (ht : x.2.2.2.length ≤ 1099511627776) : Ev (fun k => report_right.f k x.1 x.2.1 x.2.2.1 x.2.2.2 (i : Int)) (decide (okE i x)) := by
  unfold report_right.f
  refine Ev.guard (P := okE i x) (fun h e => h e.1) fun h1 => ?_
  refine Ev.guard (P := okE i x) (fun h e => by have := e.2.1; omega) fun h2 => ?_
  refine Ev.guard (P := okE i x) (fun h e => by have := e.2.2.1; omega) fun h3 => ?_
  refine Ev.guard (P := okE i x) (fun h e => by have := e.2.2.2.1; omega) fun h4 => ?_
  refine Ev.guard (P := okE i x) (fun h e => by have := e.2.2.2.2.1; omega) fun h5 => ?_
  have fin : (x.2.2.1 ≠ 0 → x.2.2.2.length = 0) → Ev (fun k => if (x.2.2.2.length : Int) > 64 then some false else report_right.l0 k x.2.2.2 (x.2.2.2.length : Int) 0) (decide (okE i x)) := by
    intro h6
    refine Ev.guard (P := okE i x) (fun h e => by have := e.2.2.2.2.2.2; omega) fun h7 => ?_
    rw [decide_eq_true (show okE i x from ⟨Decidable.not_not.1 h1, by omega, by omega, by omega, by omega, h6, by omega⟩)]
    exact right_loop x.2.2.2 hrows ht x.2.2.2 [] rfl
  by_cases h6 : x.2.2.1 ≠ 0
  · refine Ev.if_pos h6 (Ev.guard (P := okE i x) (fun h e => by have := e.2.2.2.2.2.1 h6; omega) fun h7 => ?_)
    exact fin fun _ => by omega
  · exact Ev.if_neg h6 (fin fun h => absurd h h6)
theorem lright_loop (xs : List En) (hl : xs.length ≤ 1099511627776) : ∀ (b a : List En), xs = a ++ b → Ev (fun k => dendronlaw29_right.l0 k xs (a.length : Int)) (decide (okL a.length b)) := by
  intro b
  induction b with
  | nil =>
    intro a hx
    rw [decide_eq_true (show okL a.length [] from trivial)]
    exact Ev.step (fun k => by rw [dendronlaw29_right.l0, if_neg (by rw [hx]; exact nlt_at a)]) (Ev.now _)
  | cons x b ih =>
    intro a hx
    have hg : gt (0, 0, 0, []) xs (a.length : Int) = x := by rw [hx]; exact gt_at _ a x b
    have hlt := lt_at a x b
    rw [← hx] at hlt
    have hw := wr_at a x (by omega)
    have hih := ih (a ++ [x]) (by rw [hx, snoc_at])
    rw [List.length_append, List.length_singleton] at hih
    rw [List.length_append, List.length_singleton] at hw
    have go : okE a.length x → Ev (fun k => dendronlaw29_right.l0 k xs ((a.length + 1 : Nat) : Int)) (decide (okL a.length (x :: b))) := fun h => by
      have e : decide (okL a.length (x :: b)) = decide (okL (a.length + 1) b) := by
        apply decide_eq_decide.2
        exact ⟨fun h => h.2, fun h2 => ⟨h, h2⟩⟩
      rw [e]
      exact hih
    refine Ev.step (f := fun k => (if x.1 ≠ (a.length : Int) then (some false) else (if x.2.1 < 0 then (some false) else (if x.2.1 > 9 then (some false) else (if x.2.2.1 < 0 then (some false) else (if x.2.2.1 > 999 then (some false) else (if ((x.2.2.2).length : Int) > 64 then (some false) else (if x.2.2.1 ≠ 0 then (if ((x.2.2.2).length : Int) > 0 then (some false) else (dendronlaw29_right.l0 k xs ((a.length + 1 : Nat) : Int))) else (dendronlaw29_right.l0 k xs ((a.length + 1 : Nat) : Int)))))))))) (fun k => ?_) ?_
    · rw [dendronlaw29_right.l0, if_pos hlt, if_pos (nn0 _), hg, hw]
    · refine Ev.guard (P := okL a.length (x :: b)) (fun h e => h e.1.1) fun h1 => ?_
      refine Ev.guard (P := okL a.length (x :: b)) (fun h e => by have := e.1.2.1; omega) fun h2 => ?_
      refine Ev.guard (P := okL a.length (x :: b)) (fun h e => by have := e.1.2.2.1; omega) fun h3 => ?_
      refine Ev.guard (P := okL a.length (x :: b)) (fun h e => by have := e.1.2.2.2.1; omega) fun h4 => ?_
      refine Ev.guard (P := okL a.length (x :: b)) (fun h e => by have := e.1.2.2.2.2.1; omega) fun h5 => ?_
      refine Ev.guard (P := okL a.length (x :: b)) (fun h e => by have := e.1.2.2.2.2.2.2; omega) fun h7 => ?_
      by_cases h6 : x.2.2.1 ≠ 0
      · refine Ev.if_pos h6 (Ev.guard (P := okL a.length (x :: b)) (fun h e => by have := e.1.2.2.2.2.2.1 h6; omega) fun h8 => ?_)
        exact go ⟨Decidable.not_not.1 h1, by omega, by omega, by omega, by omega, fun _ => by omega, by omega⟩
      · exact Ev.if_neg h6 (go ⟨Decidable.not_not.1 h1, by omega, by omega, by omega, by omega, fun h => absurd h h6, by omega⟩)

def rowTail : List Rt → ByteArray
  | [] => ⟨#[10]⟩
  | r :: l => ⟨#[32]⟩ ++ (prT r ++ rowTail l)
def rowsT : List (List Rt) → ByteArray
  | [] => .empty
  | r :: l => ⟨#[114, 111, 119, 32]⟩ ++ (prN r.length ++ (rowTail r ++ rowsT l))
def entT (x : En) : ByteArray := ⟨#[101, 110, 116, 114, 121, 32]⟩ ++ (prN x.1.toNat ++ (⟨#[32]⟩ ++ (prN x.2.1.toNat ++ (⟨#[32]⟩ ++
  if x.2.2.1 ≠ 0 then ⟨#[101, 114, 114, 111, 114, 32]⟩ ++ (prN x.2.2.1.toNat ++ ⟨#[10]⟩) else ⟨#[116, 97, 98, 108, 101, 32]⟩ ++ (prN x.2.2.2.length ++ (⟨#[10]⟩ ++ rowsT x.2.2.2))))))
def entsT : List En → ByteArray
  | [] => .empty
  | x :: l => entT x ++ entsT l
def headT (n : Nat) : ByteArray := ⟨#[114, 101, 112, 111, 114, 116, 32]⟩ ++ (prN n ++ ⟨#[10]⟩)
def EnOk (x : En) : Prop := x.2.2.2.length ≤ 1099511627776 ∧ ∀ r ∈ x.2.2.2, r.length ≤ 1000 ∧ ∀ v ∈ r, RtOk v
theorem append_empty (a : ByteArray) : a ++ ByteArray.empty = a := ByteArray.append_empty
abbrev M : Nat := 70368744177664

theorem write_str (b s : ByteArray) (h : (b ++ s).size ≤ M) : strings_Builder_WriteString.f b s = some (b ++ s) := by
  unfold strings_Builder_WriteString.f
  rw [ByteArray.size_append] at h
  rw [if_pos (by unfold M at h; omega)]
theorem write_l2 (xs : List En) (n i : Int) (t : List (List Rt)) (m j : Int) (R : ByteArray × Int) (row : List Rt) (hr : row.length ≤ 1099511627776) (hv : ∀ v ∈ row, RtOk v) (acc0 : ByteArray)
    (hend : Ev (fun k => report_Write.l1 k xs n i t m (wrap64 (j + 1)) acc0) R) : ∀ (b a : List Rt) (acc : ByteArray), row = a ++ b → acc ++ rowTail b = acc0 → acc0.size ≤ M →
    Ev (fun k => report_Write.l2 k xs n i t m j row (row.length : Int) (a.length : Int) acc) R := by
  intro b
  induction b with
  | nil =>
    intro a acc hx he hs
    rw [rowTail] at he
    refine Ev.step (fun k => ?_) hend
    rw [report_Write.l2, if_neg (by rw [hx]; exact nlt_at a), write_str acc _ (by rw [he]; exact hs), Option.bind_some, he]
  | cons x b ih =>
    intro a acc hx he hs
    have hg : gt (false, [], []) row (a.length : Int) = x := by rw [hx]; exact gt_at _ a x b
    have hl := lt_at a x b
    rw [← hx] at hl
    rw [rowTail] at he
    have he2 : (acc ++ ((⟨#[32]⟩ : ByteArray) ++ prT x)) ++ rowTail b = acc0 := by rw [← he]; simp only [ByteArray.append_assoc]
    have hsz : acc.size + (1 + (prT x).size) + (rowTail b).size ≤ M := by
      rw [← he2] at hs
      simp only [ByteArray.size_append] at hs
      exact hs
    refine Ev.step (f := fun k => (ratio_Print.f k x.1 x.2.1 x.2.2).bind fun v6 => (if (⟨#[32]⟩ : ByteArray).size + v6.size ≤ 9223372036854775807 then ((strings_Builder_WriteString.f acc ((⟨#[32]⟩ : ByteArray) ++ v6)).bind fun v8 => (report_Write.l2 k xs n i t m j row (row.length : Int) ((a ++ [x]).length : Int) v8)) else none)) (fun k => ?_)
      (Ev.bind (prT_ev x (hv x (by rw [hx]; exact List.mem_append_right _ List.mem_cons_self))) ?_)
    · rw [report_Write.l2, if_pos hl, if_pos (nn0 _), if_pos hl, hg, wr_at a x (by omega)]
    · have e1 : (⟨#[32]⟩ : ByteArray).size = 1 := rfl
      refine Ev.if_pos (by rw [e1]; unfold M at hsz; omega) ?_
      rw [write_str acc _ (by rw [ByteArray.size_append, ByteArray.size_append, e1]; omega)]
      refine Ev.bind (Ev.now _) ?_
      exact ih (a ++ [x]) _ (by rw [hx, snoc_at]) he2 hs
theorem write_l1 (xs : List En) (n i : Int) (t : List (List Rt)) (R : ByteArray × Int) (ht : t.length ≤ 1099511627776) (hv : ∀ r ∈ t, r.length ≤ 1000 ∧ ∀ v ∈ r, RtOk v) (acc0 : ByteArray) (hs : acc0.size ≤ M)
    (hend : Ev (fun k => report_Write.l0 k xs n (wrap64 (i + 1)) acc0) R) : ∀ (b a : List (List Rt)) (acc : ByteArray), t = a ++ b → acc ++ rowsT b = acc0 →
    Ev (fun k => report_Write.l1 k xs n i t (t.length : Int) (a.length : Int) acc) R := by
  intro b
  induction b with
  | nil =>
    intro a acc hx he
    rw [rowsT, append_empty] at he
    refine Ev.step (fun k => ?_) hend
    rw [report_Write.l1, if_neg (by rw [hx]; exact nlt_at a), he]
  | cons x b ih =>
    intro a acc hx he
    have hg : gt [] t (a.length : Int) = x := by rw [hx]; exact gt_at _ a x b
    have hl := lt_at a x b
    rw [← hx] at hl
    rw [rowsT] at he
    obtain ⟨x1, x2⟩ := hv x (by rw [hx]; exact List.mem_append_right _ List.mem_cons_self)
    have he2 : (acc ++ ((⟨#[114, 111, 119, 32]⟩ : ByteArray) ++ prN x.length)) ++ rowTail x ++ rowsT b = acc0 := by rw [← he]; simp only [ByteArray.append_assoc]
    have e1 : (⟨#[114, 111, 119, 32]⟩ : ByteArray).size = 4 := rfl
    have hsz : acc.size + (4 + (prN x.length).size) + (rowTail x).size + (rowsT b).size ≤ M := by
      rw [← he2] at hs
      simp only [ByteArray.size_append, e1] at hs
      exact hs
    have h1 := ih (a ++ [x]) _ (by rw [hx, snoc_at]) he2
    rw [← wr_at a x (by omega)] at h1
    have h2 := write_l2 xs n i t (t.length : Int) (a.length : Int) R x (by omega) x2 _ h1 x [] _ rfl rfl (by rw [ByteArray.size_append, ByteArray.size_append, ByteArray.size_append, e1]; omega)
    refine Ev.step (f := fun k => (report_digits.f k (x.length : Int)).bind fun v6 => (if (⟨#[114, 111, 119, 32]⟩ : ByteArray).size + v6.size ≤ 9223372036854775807 then ((strings_Builder_WriteString.f acc ((⟨#[114, 111, 119, 32]⟩ : ByteArray) ++ v6)).bind fun v8 => (report_Write.l2 k xs n i t (t.length : Int) (a.length : Int) x (x.length : Int) 0 v8)) else none)) (fun k => ?_) (Ev.bind (digits_ev x.length (by omega)) ?_)
    · rw [report_Write.l1, if_pos hl, if_pos (nn0 _), if_pos hl, hg]
    · refine Ev.if_pos (by rw [e1]; unfold M at hsz; omega) ?_
      rw [write_str acc _ (by rw [ByteArray.size_append, ByteArray.size_append, e1]; omega)]
      refine Ev.bind (Ev.now _) ?_
      exact h2
theorem toNat_ofNonneg {z : Int} (h : 0 ≤ z) : ((z.toNat : Nat) : Int) = z := Int.toNat_of_nonneg h
def writeR (acc : ByteArray) (i : Nat) (l : List En) : ByteArray × Int := if okL i l then (acc ++ entsT l, 0) else (.empty, 1)
theorem ent_sizes (acc : ByteArray) (x : En) (rest : ByteArray) (hs : (acc ++ (entT x ++ rest)).size ≤ M) : acc.size + (prN x.1.toNat).size + (prN x.2.1.toNat).size + 8 + rest.size ≤ M ∧
    (x.2.2.1 ≠ 0 → acc.size + (prN x.1.toNat).size + (prN x.2.1.toNat).size + 8 + (prN x.2.2.1.toNat).size + 7 + rest.size ≤ M) ∧
    (¬ x.2.2.1 ≠ 0 → acc.size + (prN x.1.toNat).size + (prN x.2.1.toNat).size + 8 + (prN x.2.2.2.length).size + 7 + (rowsT x.2.2.2).size + rest.size ≤ M) := by
  unfold entT at hs
  simp only [ByteArray.size_append, lit_size, List.size_toArray, List.length_cons, List.length_nil] at hs
  by_cases h : x.2.2.1 ≠ 0
  · rw [if_pos h] at hs
    simp only [ByteArray.size_append, lit_size, List.size_toArray, List.length_cons, List.length_nil] at hs
    exact ⟨by omega, fun _ => by omega, fun h2 => absurd h h2⟩
  · rw [if_neg h] at hs
    simp only [ByteArray.size_append, lit_size, List.size_toArray, List.length_cons, List.length_nil] at hs
    exact ⟨by omega, fun h2 => absurd h2 h, fun _ => by omega⟩
theorem write_l0 (xs : List En) (hn : xs.length ≤ 16384) (hv : ∀ x ∈ xs, EnOk x) : ∀ (b a : List En) (acc : ByteArray), xs = a ++ b → (acc ++ entsT b).size ≤ M → 0 < acc.size →
    Ev (fun k => report_Write.l0 k xs (xs.length : Int) (a.length : Int) acc) (writeR acc a.length b) := by
  intro b
  induction b with
  | nil =>
    intro a acc hx hs h0
    unfold writeR
    rw [if_pos (show okL a.length [] from trivial), entsT, append_empty]
    refine Ev.step (f := fun k => (strings_Builder_String.f acc).bind fun v1 => some (v1.1, 0)) (fun k => by rw [report_Write.l0, if_neg (by rw [hx]; exact nlt_at a)]) ?_
    unfold strings_Builder_String.f
    rw [if_pos h0]
    exact Ev.now _
  | cons x b ih =>
    intro a acc hx hs h0
    have hg : gt (0, 0, 0, []) xs (a.length : Int) = x := by rw [hx]; exact gt_at _ a x b
    have hl := lt_at a x b
    rw [← hx] at hl
    have hal : a.length < 16384 := by omega
    obtain ⟨x1, x2⟩ := hv x (by rw [hx]; exact List.mem_append_right _ List.mem_cons_self)
    have hr := right_ev a.length x (fun r hr => (x2 r hr).1) x1
    rw [entsT] at hs
    obtain ⟨s1, s2, s3⟩ := ent_sizes acc x (entsT b) hs
    refine Ev.step (fun k => by rw [report_Write.l0, if_pos hl, if_pos (nn0 _), if_pos hl, hg]) (Ev.bind hr ?_)
    unfold writeR
    by_cases hok : okE a.length x
    · have hw := wr_at a x (by omega)
      have hid := hok.1
      have t1 : ((x.1.toNat : Nat) : Int) = x.1 := by omega
      have t2 : ((x.2.1.toNat : Nat) : Int) = x.2.1 := toNat_ofNonneg hok.2.1
      have t3 : ((x.2.2.1.toNat : Nat) : Int) = x.2.2.1 := toNat_ofNonneg hok.2.2.2.1
      have d1 := digits_ev x.1.toNat (by omega)
      have d2 := digits_ev x.2.1.toNat (by have := hok.2.2.1; omega)
      have d3 := digits_ev x.2.2.1.toNat (by have := hok.2.2.2.2.1; omega)
      have d4 := digits_ev x.2.2.2.length (by omega)
      rw [t1] at d1
      rw [t2] at d2
      rw [t3] at d3
      have step : ∀ acc1 : ByteArray, acc1 = acc ++ entT x → Ev (fun k => report_Write.l0 k xs (xs.length : Int) (wrap64 ((a.length : Int) + 1)) acc1) (if okL a.length (x :: b) then (acc ++ entsT (x :: b), 0) else (.empty, 1)) := by
        intro acc1 he
        have h1 := ih (a ++ [x]) acc1 (by rw [hx, snoc_at]) (by rw [he, ByteArray.append_assoc]; exact hs) (by rw [he, ByteArray.size_append]; omega)
        rw [hw]
        refine h1.of_eq ?_
        unfold writeR
        rw [List.length_append, List.length_singleton, he, entsT, ByteArray.append_assoc]
        by_cases h2 : okL (a.length + 1) b
        · rw [if_pos h2, if_pos (show okL a.length (x :: b) from ⟨hok, h2⟩)]
        · rw [if_neg h2, if_neg (fun h3 => h2 h3.2)]
      refine Ev.if_pos (decide_eq_true hok) (Ev.bind d1 ?_)
      refine Ev.if_pos ?_ (Ev.if_pos ?_ (Ev.bind d2 (Ev.if_pos ?_ (Ev.if_pos ?_ ?_))))
      · simp only [ByteArray.size_append, lit_size, List.size_toArray, List.length_cons, List.length_nil]; unfold M at s1; omega
      · simp only [ByteArray.size_append, lit_size, List.size_toArray, List.length_cons, List.length_nil]; unfold M at s1; omega
      · simp only [ByteArray.size_append, lit_size, List.size_toArray, List.length_cons, List.length_nil]; unfold M at s1; omega
      · simp only [ByteArray.size_append, lit_size, List.size_toArray, List.length_cons, List.length_nil]; unfold M at s1; omega
      · rw [write_str acc _ (by simp only [ByteArray.size_append, lit_size, List.size_toArray, List.length_cons, List.length_nil]; omega)]
        refine Ev.bind (Ev.now _) ?_
        by_cases he : x.2.2.1 ≠ 0
        · have s := s2 he
          refine Ev.if_pos he (Ev.bind d3 (Ev.if_pos ?_ (Ev.if_pos ?_ ?_)))
          · simp only [ByteArray.size_append, lit_size, List.size_toArray, List.length_cons, List.length_nil]; unfold M at s; omega
          · simp only [ByteArray.size_append, lit_size, List.size_toArray, List.length_cons, List.length_nil]; unfold M at s; omega
          · rw [write_str _ _ (by simp only [ByteArray.size_append, lit_size, List.size_toArray, List.length_cons, List.length_nil]; omega)]
            refine Ev.bind (Ev.now _) (step _ ?_)
            unfold entT
            rw [if_pos he]
            simp only [ByteArray.append_assoc]
        · have s := s3 he
          refine Ev.if_neg he (Ev.bind d4 (Ev.if_pos ?_ (Ev.if_pos ?_ ?_)))
          · simp only [ByteArray.size_append, lit_size, List.size_toArray, List.length_cons, List.length_nil]; unfold M at s; omega
          · simp only [ByteArray.size_append, lit_size, List.size_toArray, List.length_cons, List.length_nil]; unfold M at s; omega
          · rw [write_str _ _ (by simp only [ByteArray.size_append, lit_size, List.size_toArray, List.length_cons, List.length_nil]; omega)]
            refine Ev.bind (Ev.now _) ?_
            refine write_l1 xs _ _ x.2.2.2 _ x1 x2 _ ?_ (step _ rfl) x.2.2.2 [] _ rfl ?_
            · rw [← ByteArray.append_assoc, ByteArray.size_append] at hs; omega
            · unfold entT
              rw [if_neg he]
              simp only [ByteArray.append_assoc]
    · rw [if_neg (fun h => hok h.1)]
      exact Ev.if_neg (by simp [hok]) (Ev.now _)
theorem write_ev (xs : List En) (hn : xs.length ≤ 16384) (hv : ∀ x ∈ xs, EnOk x) (hs : (headT xs.length ++ entsT xs).size ≤ M) : Ev (fun k => report_Write.f k xs) (writeR (headT xs.length) 0 xs) := by
  have hh : (headT xs.length).size = 8 + (prN xs.length).size := by
    unfold headT
    simp only [ByteArray.size_append, lit_size, List.size_toArray, List.length_cons, List.length_nil]
    omega
  have hs2 := hs
  rw [ByteArray.size_append, hh] at hs2
  have h1 := write_l0 xs hn hv xs [] (headT xs.length) rfl hs (by omega)
  refine Ev.if_neg (by omega) (Ev.bind (digits_ev xs.length (by omega)) (Ev.if_pos ?_ (Ev.if_pos ?_ ?_)))
  · simp only [ByteArray.size_append, lit_size, List.size_toArray, List.length_cons, List.length_nil]; unfold M at hs2; omega
  · simp only [ByteArray.size_append, lit_size, List.size_toArray, List.length_cons, List.length_nil]; unfold M at hs2; omega
  · rw [write_str _ _ (by simp only [ByteArray.size_append, lit_size, List.size_toArray, List.length_cons, List.length_nil, empty_size]; omega)]
    refine Ev.bind (Ev.now _) (Ev.congr (fun k => ?_) h1)
    have e : ByteArray.empty ++ ((⟨#[114, 101, 112, 111, 114, 116, 32]⟩ : ByteArray) ++ prN xs.length ++ ⟨#[10]⟩) = headT xs.length := by
      unfold headT
      rw [ByteArray.empty_append, ByteArray.append_assoc]
    rw [e]
    rfl
end Go.DI.Th
namespace Go.DI.Th
open Go Go.RowKit Go.DI

theorem text_l2 (xs : List En) (i : Int) (b0 b1 b2 : Int) (t : List (List Rt)) (ta : List (List Rt)) (row : List Rt) (tb : List (List Rt)) (htb : t = ta ++ row :: tb) (hta : ta.length ≤ 1099511627776) (R acc0 : ByteArray) (hr : row.length ≤ 1099511627776) (hv : ∀ v ∈ row, RtOk v) (hs : acc0.size ≤ M)
    (hend : Ev (fun k => dendronlaw29_text.l1 k xs acc0 i ((ta ++ [row]).length : Int) b0 b1 b2 t) R) : ∀ (b a : List Rt) (acc : ByteArray), row = a ++ b → acc ++ rowTail b = acc0 →
    Ev (fun k => dendronlaw29_text.l2 k xs acc i (ta.length : Int) (a.length : Int) b0 b1 b2 t) R := by
  have g0 : gt [] t (ta.length : Int) = row := by rw [htb]; exact gt_at _ ta row tb
  have g1 : (ta.length : Int) < (t.length : Int) := by rw [htb]; exact lt_at ta row tb
  have g2 := wr_at ta row (by omega)
  intro b
  induction b with
  | nil =>
    intro a acc hx he
    rw [rowTail] at he
    have hsz : acc.size + 1 ≤ M := by
      rw [← he, ByteArray.size_append] at hs
      exact hs
    refine Ev.step (fun k => ?_) hend
    rw [dendronlaw29_text.l2, if_pos (nn0 _), if_pos g1, g0, if_neg (by rw [hx]; exact nlt_at a), if_pos (by have e1 : (⟨#[10]⟩ : ByteArray).size = 1 := rfl; rw [e1]; unfold M at hsz; omega), he, g2]
  | cons x b ih =>
    intro a acc hx he
    have hg : gt (false, [], []) row (a.length : Int) = x := by rw [hx]; exact gt_at _ a x b
    have hl := lt_at a x b
    rw [← hx] at hl
    rw [rowTail] at he
    have he2 : ((acc ++ (⟨#[32]⟩ : ByteArray)) ++ prT x) ++ rowTail b = acc0 := by rw [← he]; simp only [ByteArray.append_assoc]
    have hsz : acc.size + 1 + (prT x).size + (rowTail b).size ≤ M := by
      rw [← he2] at hs
      simp only [ByteArray.size_append] at hs
      exact hs
    refine Ev.step (f := fun k => (if acc.size + (⟨#[32]⟩ : ByteArray).size ≤ 9223372036854775807 then (if 0 ≤ (a.length : Int) then ((ratio_Print.f k x.1 x.2.1 x.2.2).bind fun v18 => (if (acc ++ (⟨#[32]⟩ : ByteArray)).size + v18.size ≤ 9223372036854775807 then (dendronlaw29_text.l2 k xs ((acc ++ (⟨#[32]⟩ : ByteArray)) ++ v18) i (ta.length : Int) ((a ++ [x]).length : Int) b0 b1 b2 t) else none)) else none) else none)) (fun k => ?_) ?_
    · rw [dendronlaw29_text.l2, if_pos (nn0 _), if_pos g1, g0, if_pos hl, hg, wr_at a x (by omega)]
    · refine Ev.if_pos ?_ (Ev.if_pos (nn0 _) (Ev.bind (prT_ev x (hv x (by rw [hx]; exact List.mem_append_right _ List.mem_cons_self))) (Ev.if_pos ?_ ?_)))
      · simp only [ByteArray.size_append, lit_size, List.size_toArray, List.length_cons, List.length_nil]; unfold M at hsz; omega
      · simp only [ByteArray.size_append, lit_size, List.size_toArray, List.length_cons, List.length_nil]; unfold M at hsz; omega
      · exact ih (a ++ [x]) _ (by rw [hx, snoc_at]) he2
theorem text_l1 (xs : List En) (i : Int) (b0 b1 b2 : Int) (t : List (List Rt)) (R : ByteArray) (ht : t.length ≤ 1099511627776) (hv : ∀ r ∈ t, r.length ≤ 1000 ∧ ∀ v ∈ r, RtOk v) (acc0 : ByteArray) (hs : acc0.size ≤ M)
    (hend : Ev (fun k => dendronlaw29_text.l0 k xs acc0 (wrap64 (i + 1))) R) : ∀ (b a : List (List Rt)) (acc : ByteArray), t = a ++ b → acc ++ rowsT b = acc0 →
    Ev (fun k => dendronlaw29_text.l1 k xs acc i (a.length : Int) b0 b1 b2 t) R := by
  intro b
  induction b with
  | nil =>
    intro a acc hx he
    rw [rowsT, append_empty] at he
    refine Ev.step (fun k => ?_) hend
    rw [dendronlaw29_text.l1, if_neg (by rw [hx]; exact nlt_at a), he]
  | cons x b ih =>
    intro a acc hx he
    have hg : gt [] t (a.length : Int) = x := by rw [hx]; exact gt_at _ a x b
    have hl := lt_at a x b
    rw [← hx] at hl
    rw [rowsT] at he
    obtain ⟨x1, x2⟩ := hv x (by rw [hx]; exact List.mem_append_right _ List.mem_cons_self)
    have he2 : ((acc ++ (⟨#[114, 111, 119, 32]⟩ : ByteArray)) ++ prN x.length) ++ rowTail x ++ rowsT b = acc0 := by rw [← he]; simp only [ByteArray.append_assoc]
    have hsz : acc.size + 4 + (prN x.length).size + (rowTail x).size + (rowsT b).size ≤ M := by
      rw [← he2] at hs
      simp only [ByteArray.size_append] at hs
      exact hs
    have h1 := ih (a ++ [x]) _ (by rw [hx, snoc_at]) he2
    have h2 := text_l2 xs i b0 b1 b2 t a x b hx (by omega) R _ (by omega) x2 (by simp only [ByteArray.size_append, lit_size, List.size_toArray, List.length_cons, List.length_nil]; omega) h1 x [] _ rfl rfl
    refine Ev.step (f := fun k => (if acc.size + (⟨#[114, 111, 119, 32]⟩ : ByteArray).size ≤ 9223372036854775807 then (if 0 ≤ (a.length : Int) then ((dendronlaw29_digits.f k (x.length : Int)).bind fun v13 => (if (acc ++ (⟨#[114, 111, 119, 32]⟩ : ByteArray)).size + v13.size ≤ 9223372036854775807 then (dendronlaw29_text.l2 k xs ((acc ++ (⟨#[114, 111, 119, 32]⟩ : ByteArray)) ++ v13) i (a.length : Int) 0 b0 b1 b2 t) else none)) else none) else none)) (fun k => ?_) ?_
    · rw [dendronlaw29_text.l1, if_pos hl, hg]
    · refine Ev.if_pos ?_ (Ev.if_pos (nn0 _) (Ev.bind (ldigits_ev x.length (by omega)) (Ev.if_pos ?_ h2)))
      · simp only [ByteArray.size_append, lit_size, List.size_toArray, List.length_cons, List.length_nil]; unfold M at hsz; omega
      · simp only [ByteArray.size_append, lit_size, List.size_toArray, List.length_cons, List.length_nil]; unfold M at hsz; omega
theorem lit_error : (⟨#[32, 101, 114, 114, 111, 114, 32]⟩ : ByteArray) = ⟨#[32]⟩ ++ ⟨#[101, 114, 114, 111, 114, 32]⟩ := by decide +kernel
theorem lit_table : (⟨#[32, 116, 97, 98, 108, 101, 32]⟩ : ByteArray) = ⟨#[32]⟩ ++ ⟨#[116, 97, 98, 108, 101, 32]⟩ := by decide +kernel
theorem text_l0 (xs : List En) (hn : xs.length ≤ 16384) (hv : ∀ x ∈ xs, EnOk x) : ∀ (b a : List En) (acc : ByteArray), xs = a ++ b → okL a.length b → (acc ++ entsT b).size ≤ M →
    Ev (fun k => dendronlaw29_text.l0 k xs acc (a.length : Int)) (acc ++ entsT b) := by
  intro b
  induction b with
  | nil =>
    intro a acc hx _ hs
    rw [entsT, append_empty]
    exact Ev.step (fun k => by rw [dendronlaw29_text.l0, if_neg (by rw [hx]; exact nlt_at a)]) (Ev.now _)
  | cons x b ih =>
    intro a acc hx hok hs
    have hg : gt (0, 0, 0, []) xs (a.length : Int) = x := by rw [hx]; exact gt_at _ a x b
    have hl := lt_at a x b
    rw [← hx] at hl
    have hal : a.length < 16384 := by omega
    obtain ⟨x1, x2⟩ := hv x (by rw [hx]; exact List.mem_append_right _ List.mem_cons_self)
    rw [entsT] at hs
    obtain ⟨s1, s2, s3⟩ := ent_sizes acc x (entsT b) hs
    obtain ⟨hok, hokb⟩ := hok
    have hw := wr_at a x (by omega)
    have hid := hok.1
    have t1 : ((x.1.toNat : Nat) : Int) = x.1 := by omega
    have t2 : ((x.2.1.toNat : Nat) : Int) = x.2.1 := toNat_ofNonneg hok.2.1
    have t3 : ((x.2.2.1.toNat : Nat) : Int) = x.2.2.1 := toNat_ofNonneg hok.2.2.2.1
    have d1 := ldigits_ev x.1.toNat (by omega)
    have d2 := ldigits_ev x.2.1.toNat (by have := hok.2.2.1; omega)
    have d3 := ldigits_ev x.2.2.1.toNat (by have := hok.2.2.2.2.1; omega)
    have d4 := ldigits_ev x.2.2.2.length (by omega)
    rw [t1] at d1
    rw [t2] at d2
    rw [t3] at d3
    have step : ∀ acc1 : ByteArray, acc1 = acc ++ entT x → Ev (fun k => dendronlaw29_text.l0 k xs acc1 (wrap64 ((a.length : Int) + 1))) (acc ++ entsT (x :: b)) := by
      intro acc1 he
      have h1 := ih (a ++ [x]) acc1 (by rw [hx, snoc_at]) (by rw [List.length_append, List.length_singleton]; exact hokb) (by rw [he, ByteArray.append_assoc]; exact hs)
      rw [hw]
      refine h1.of_eq ?_
      rw [he, entsT, ByteArray.append_assoc]
    refine Ev.step (fun k => by rw [dendronlaw29_text.l0, if_pos hl, if_pos (nn0 _), hg]) ?_
    refine Ev.if_pos ?_ (Ev.bind d1 (Ev.if_pos ?_ (Ev.if_pos ?_ (Ev.bind d2 (Ev.if_pos ?_ ?_)))))
    · simp only [ByteArray.size_append, lit_size, List.size_toArray, List.length_cons, List.length_nil]; unfold M at s1; omega
    · simp only [ByteArray.size_append, lit_size, List.size_toArray, List.length_cons, List.length_nil]; unfold M at s1; omega
    · simp only [ByteArray.size_append, lit_size, List.size_toArray, List.length_cons, List.length_nil]; unfold M at s1; omega
    · simp only [ByteArray.size_append, lit_size, List.size_toArray, List.length_cons, List.length_nil]; unfold M at s1; omega
    · by_cases he : x.2.2.1 ≠ 0
      · have s := s2 he
        refine Ev.if_pos he (Ev.if_pos ?_ (Ev.bind d3 (Ev.if_pos ?_ (Ev.if_pos ?_ (step _ ?_)))))
        · simp only [ByteArray.size_append, lit_size, List.size_toArray, List.length_cons, List.length_nil]; unfold M at s; omega
        · simp only [ByteArray.size_append, lit_size, List.size_toArray, List.length_cons, List.length_nil]; unfold M at s; omega
        · simp only [ByteArray.size_append, lit_size, List.size_toArray, List.length_cons, List.length_nil]; unfold M at s; omega
        · unfold entT
          rw [if_pos he, lit_error]
          simp only [ByteArray.append_assoc]
      · have s := s3 he
        refine Ev.if_neg he (Ev.if_pos ?_ (Ev.bind d4 (Ev.if_pos ?_ (Ev.if_pos ?_ ?_))))
        · simp only [ByteArray.size_append, lit_size, List.size_toArray, List.length_cons, List.length_nil]; unfold M at s; omega
        · simp only [ByteArray.size_append, lit_size, List.size_toArray, List.length_cons, List.length_nil]; unfold M at s; omega
        · simp only [ByteArray.size_append, lit_size, List.size_toArray, List.length_cons, List.length_nil]; unfold M at s; omega
        · refine text_l1 xs _ _ _ _ x.2.2.2 _ x1 x2 _ ?_ (step _ rfl) x.2.2.2 [] _ rfl ?_
          · rw [← ByteArray.append_assoc, ByteArray.size_append] at hs; omega
          · unfold entT
            rw [if_neg he, lit_table]
            simp only [ByteArray.append_assoc]
theorem text_ev (xs : List En) (hn : xs.length ≤ 16384) (hv : ∀ x ∈ xs, EnOk x) (hok : okL 0 xs) (hs : (headT xs.length ++ entsT xs).size ≤ M) : Ev (fun k => dendronlaw29_text.f k xs) (headT xs.length ++ entsT xs) := by
  have hh : (headT xs.length).size = 8 + (prN xs.length).size := by
    unfold headT
    simp only [ByteArray.size_append, lit_size, List.size_toArray, List.length_cons, List.length_nil]
    omega
  have hs2 := hs
  rw [ByteArray.size_append, hh] at hs2
  have h1 := text_l0 xs hn hv xs [] (headT xs.length) rfl hok hs
  refine Ev.bind (ldigits_ev xs.length (by omega)) (Ev.if_pos ?_ (Ev.if_pos ?_ ?_))
  · simp only [ByteArray.size_append, lit_size, List.size_toArray, List.length_cons, List.length_nil]; unfold M at hs2; omega
  · simp only [ByteArray.size_append, lit_size, List.size_toArray, List.length_cons, List.length_nil]; unfold M at hs2; omega
  · refine Ev.congr (fun k => ?_) h1
    have e : (⟨#[114, 101, 112, 111, 114, 116, 32]⟩ : ByteArray) ++ prN xs.length ++ ⟨#[10]⟩ = headT xs.length := by
      unfold headT
      rw [ByteArray.append_assoc]
    rw [e]
    rfl

theorem U.take {l : List Int} (h : U l) (n : Nat) : U (l.take n) := fun x hx => h x (List.mem_of_mem_take hx)
theorem prN_digit (n : Nat) (h : n < 10) : prN n = ofBytes [48 + (n : Int)] := by unfold prN; rw [dec_small h]
theorem ex_prT : prT (rl 1 2) = ⟨#[49, 47, 50]⟩ := by
  unfold prT prR
  obtain ⟨e1, e2⟩ := num_rl 1 2 (by decide)
  rw [e1, e2, show rnum 1 2 = 1 by decide +kernel, show rden 1 2 = 2 by decide +kernel]
  unfold rl wv prQ prW
  rw [val_lm]
  have g : Nat.gcd (Int.natAbs 1) 2 = 1 := by decide
  rw [g, show Int.natAbs 1 / 1 = 1 from rfl, show 2 / 1 = 2 from rfl, if_neg (by decide), if_neg (by decide), if_neg (by decide), show Int.natAbs ((1 : Nat) : Int) = 1 from rfl, prN_digit 1 (by decide), prN_digit 2 (by decide)]
  decide +kernel
theorem awake29_ev : Ev (fun k => dendronlaw29_awake.f k) true := by
  have h1 := frac_ev 1 2 (by omega) (by omega)
  rw [if_neg (by decide), show over 1 2 = 1 from rfl] at h1
  have h1' : Ev (fun k => ratio_Frac.f k 1 2) (rl 1 2) := h1
  let xs : List En := [(0, 2, 0, [[rl 1 2]])]
  have hu := rl_ok 1 2
  have hl := rl_lens 1 2
  have l1 : len (Int.natAbs 1) ≤ 2 := len_small (by decide)
  have l2 : len 2 ≤ 2 := len_small (by decide)
  have hv : ∀ x ∈ xs, EnOk x := by
    intro x hx
    rw [List.mem_singleton] at hx
    subst hx
    refine ⟨by decide, fun r hr => ?_⟩
    have hr : r ∈ [[rl 1 2]] := hr
    rw [List.mem_singleton] at hr
    subst hr
    refine ⟨by simp, fun v hv => ?_⟩
    rw [List.mem_singleton] at hv
    subst hv
    exact ⟨hu.1, hu.2, by omega, by omega⟩
  have ht : headT xs.length ++ entsT xs = cst_0edf54b5 := by
    show headT 1 ++ (entT (0, 2, 0, [[rl 1 2]]) ++ ByteArray.empty) = cst_0edf54b5
    unfold headT entT rowsT rowTail rowTail rowsT
    dsimp only
    rw [ex_prT, if_neg (by decide)]
    show _ ++ (prN 1 ++ _) ++ (_ ++ (prN 0 ++ (_ ++ (prN 2 ++ (_ ++ (_ ++ (prN 1 ++ (_ ++ (_ ++ (prN 1 ++ _))))))))) ++ _) = _
    rw [prN_digit 0 (by decide), prN_digit 1 (by decide), prN_digit 2 (by decide)]
    decide +kernel
  have hok : okL 0 xs := ⟨⟨rfl, by decide, by decide, by decide, by decide, fun h => absurd rfl h, by decide⟩, trivial⟩
  have h2 := write_ev xs (by decide) hv (by rw [ht]; decide +kernel)
  unfold writeR at h2
  rw [if_pos hok, ht] at h2
  exact Ev.bind h1' (Ev.bind h2 (Ev.if_pos rfl (Ev.if_pos rfl (Ev.now _))))
end Go.DI.Th
namespace Go.DI.Th
open Go Go.RowKit Go.DI

def viewR (t : List (List Rt)) : List (List ByteArray) := t.map fun r => r.map prT
theorem viewR_len {t t' : List (List Rt)} (h : viewR t = viewR t') : t.length = t'.length := by have := congrArg List.length h; simpa [viewR] using this
def viewE (x : En) : Int × Int × Int × List (List ByteArray) := (x.1, x.2.1, x.2.2.1, viewR x.2.2.2)
theorem viewE_iff (x y : En) : viewE x = viewE y ↔ x.1 = y.1 ∧ x.2.1 = y.2.1 ∧ x.2.2.1 = y.2.2.1 ∧ viewR x.2.2.2 = viewR y.2.2.2 := by
  unfold viewE
  simp only [Prod.mk.injEq]
end Go.DI.Th
namespace Go.DI.Th
open Go Go.RowKit Go.DI

theorem dlen_num (b : Bool) (n d : List Int) : D.L (num b n d) ≤ 3 * n.length := by
  have h1 := D.len_of_len (val n)
  have h2 := val_len n
  have h3 := D.len_mono (num_abs b n d)
  unfold D.L
  omega
theorem dlen_den (d : List Int) : D.len (den d) ≤ 3 * d.length + 1 := by
  unfold den
  split
  · exact Nat.le_trans (D.len_le (k := 1) (by decide)) (by omega)
  · have h1 := D.len_of_len (val d)
    have h2 := val_len d
    omega
def numT (r : Rt) : Int := num r.1 r.2.1 r.2.2
def denT (r : Rt) : Nat := den r.2.2
theorem from_rt (r : Rt) (h : RtOk r) : Ev (fun k => dendronref03_From.f k r.1 r.2.1 r.2.2) (D.fl (numT r) (denT r)) :=
  D.ffrom_ev r.1 r.2.1 r.2.2 h.1 h.2.1 (Nat.le_trans h.2.2.1 (by decide)) (Nat.le_trans h.2.2.2 (by decide))
theorem order_rt (r s : Rt) (h : RtOk r) (h' : RtOk s) : Ev (fun k => dendronref03_Order.f k (D.fl (numT r) (denT r)).1 (D.fl (numT r) (denT r)).2.1 (D.fl (numT r) (denT r)).2.2 (D.fl (numT s) (denT s)).1 (D.fl (numT s) (denT s)).2.1 (D.fl (numT s) (denT s)).2.2) (D.cmpI (numT r * denT s) (numT s * denT r)) := by
  have a1 := dlen_num r.1 r.2.1 r.2.2
  have a2 := dlen_num s.1 s.2.1 s.2.2
  have a3 := dlen_den r.2.2
  have a4 := dlen_den s.2.2
  obtain ⟨_, _, b1, b2⟩ := h
  obtain ⟨_, _, b3, b4⟩ := h'
  exact D.forder_ev _ _ _ _ (by unfold numT denT; omega) (by unfold numT denT; omega)
theorem cmp_ne (r s : Rt) : D.cmpI (numT r * denT s) (numT s * denT r) ≠ 0 ↔ prT r ≠ prT s := by
  rw [Ne, Ne, prT_iff]
  unfold D.cmpI numT denT
  generalize num r.1 r.2.1 r.2.2 * (den s.2.2 : Int) = x
  generalize num s.1 s.2.1 s.2.2 * (den r.2.2 : Int) = y
  by_cases h1 : x < y
  · rw [if_pos h1]; exact ⟨fun _ => by omega, fun _ => by decide⟩
  · rw [if_neg h1]
    by_cases h2 : y < x
    · rw [if_pos h2]; exact ⟨fun _ => by omega, fun _ => by decide⟩
    · rw [if_neg h2]; exact ⟨fun h => absurd rfl h, fun h => absurd (by omega) h⟩
theorem same_l1_step (k : Nat) (a0 a1 a2 : Int) (ta : List (List Rt)) (row : List Rt) (tb : List (List Rt)) (c0 c1 c2 : Int) (sa : List (List Rt)) (row' : List Rt) (sb : List (List Rt)) (hsa : sa.length = ta.length)
    (r s : Rt) (a b a' b' : List Rt) (hr : row = a ++ r :: b) (hs : row' = a' ++ s :: b') (hl : a.length = a'.length) (hn : a.length ≤ 1099511627776) :
    dendronref29_Same.l1 (k + 1) (ta.length : Int) (a.length : Int) a0 a1 a2 (ta ++ row :: tb) c0 c1 c2 (sa ++ row' :: sb) = (dendronref03_From.f k r.1 r.2.1 r.2.2).bind fun v16 => ((dendronref03_From.f k s.1 s.2.1 s.2.2).bind fun v25 => ((dendronref03_Order.f k v16.1 v16.2.1 v16.2.2 v25.1 v25.2.1 v25.2.2).bind fun v26 => (if v26 ≠ 0 then (some false) else (dendronref29_Same.l1 k (ta.length : Int) ((a ++ [r]).length : Int) a0 a1 a2 (ta ++ row :: tb) c0 c1 c2 (sa ++ row' :: sb))))) := by
  have e1 := gt_at [] ta row tb
  have e2 := gt_at [] sa row' sb
  rw [hsa] at e2
  have e3 := gt_at (false, [], []) a r b
  rw [← hr] at e3
  have e4 := gt_at (false, [], []) a' s b'
  rw [← hs, ← hl] at e4
  have e5 := wr_at a r (Nat.le_trans hn (by decide))
  have l1 := lt_at ta row tb
  have l2 := lt_at sa row' sb
  rw [hsa] at l2
  have l3 := lt_at a r b
  rw [← hr] at l3
  have l4 := lt_at a' s b'
  rw [← hs, ← hl] at l4
  rw [dendronref29_Same.l1, e1, e2, e3, e4, e5, if_pos (nn0 _), if_pos l1, if_pos l3, if_pos (nn0 _)]
  congr 1
  funext v16
  rw [if_pos l2, if_pos l4]
theorem same_l1 (a0 a1 a2 : Int) (ta : List (List Rt)) (row : List Rt) (tb : List (List Rt)) (c0 c1 c2 : Int) (sa : List (List Rt)) (row' : List Rt) (sb : List (List Rt)) (hsa : sa.length = ta.length) (hta : ta.length ≤ 1099511627776)
    (hrow : row.length ≤ 1099511627776) (hv : ∀ v ∈ row, RtOk v) (hv' : ∀ v ∈ row', RtOk v) (Q : Prop) [Decidable Q]
    (hend : Ev (fun k => dendronref29_Same.l0 k ((ta ++ [row]).length : Int) a0 a1 a2 (ta ++ row :: tb) c0 c1 c2 (sa ++ row' :: sb)) (decide Q)) :
    ∀ (b a b' a' : List Rt), row = a ++ b → row' = a' ++ b' → a.length = a'.length → b.length = b'.length →
    Ev (fun k => dendronref29_Same.l1 k (ta.length : Int) (a.length : Int) a0 a1 a2 (ta ++ row :: tb) c0 c1 c2 (sa ++ row' :: sb)) (decide (b.map prT = b'.map prT ∧ Q)) := by
  intro b
  induction b with
  | nil =>
    intro a b' a' hr hs hl hbl
    have hb' := List.eq_nil_of_length_eq_zero hbl.symm
    subst hb'
    refine Ev.step (f := fun k => dendronref29_Same.l0 k ((ta ++ [row]).length : Int) a0 a1 a2 (ta ++ row :: tb) c0 c1 c2 (sa ++ row' :: sb)) (fun k => ?_) (hend.of_eq ?_)
    · have e1 := gt_at [] ta row tb
      have e3 : ¬ (a.length : Int) < (row.length : Int) := by rw [hr]; exact nlt_at a
      rw [dendronref29_Same.l1, e1, if_pos (nn0 _), if_pos (lt_at ta row tb), if_neg e3, wr_at ta row (Nat.le_trans hta (by decide))]
    · simp
  | cons r b ih =>
    intro a b' a' hr hs hl hbl
    cases b' with
    | nil => simp at hbl
    | cons s b' =>
      have hn : a.length ≤ 1099511627776 := by
        have : row.length = a.length + (b.length + 1) := by rw [hr, List.length_append, List.length_cons]
        omega
      have hrk := hv r (by rw [hr]; simp)
      have hsk := hv' s (by rw [hs]; simp)
      refine Ev.step (fun k => same_l1_step k a0 a1 a2 ta row tb c0 c1 c2 sa row' sb hsa r s a b a' b' hr hs hl hn) (Ev.bind (from_rt r hrk) (Ev.bind (from_rt s hsk) (Ev.bind (order_rt r s hrk hsk) ?_)))
      have hc := cmp_ne r s
      by_cases hp : prT r = prT s
      · refine Ev.if_neg (fun h => hc.1 h hp) ((ih (a ++ [r]) b' (a' ++ [s]) (by rw [hr]; simp) (by rw [hs]; simp) (by simp [hl]) (by simpa using hbl)).of_eq ?_)
        simp [hp]
      · refine Ev.if_pos (hc.2 hp) ((Ev.now false).of_eq ?_)
        symm
        rw [decide_eq_false_iff_not]
        intro h
        have h1 := h.1
        rw [List.map_cons, List.map_cons] at h1
        injection h1 with h2 h3
        exact hp h2
theorem same_l0 (a0 a1 a2 : Int) (t t' : List (List Rt)) (c0 c1 c2 : Int) (ht : t.length ≤ 1099511627776) (hv : ∀ r ∈ t, r.length ≤ 1000 ∧ ∀ v ∈ r, RtOk v) (hv' : ∀ r ∈ t', r.length ≤ 1000 ∧ ∀ v ∈ r, RtOk v) :
    ∀ (b a b' a' : List (List Rt)), t = a ++ b → t' = a' ++ b' → a.length = a'.length → b.length = b'.length →
    Ev (fun k => dendronref29_Same.l0 k (a.length : Int) a0 a1 a2 t c0 c1 c2 t') (decide (viewR b = viewR b')) := by
  intro b
  induction b with
  | nil =>
    intro a b' a' hr hs hl hbl
    have hb' := List.eq_nil_of_length_eq_zero hbl.symm
    subst hb'
    refine Ev.step (f := fun _ => some true) (fun k => ?_) ((Ev.now true).of_eq (by simp))
    rw [dendronref29_Same.l0, if_neg (by rw [hr]; exact nlt_at a)]
  | cons r b ih =>
    intro a b' a' hr hs hl hbl
    cases b' with
    | nil => simp at hbl
    | cons s b' =>
      have hn : a.length ≤ 1099511627776 := by
        have : t.length = a.length + (b.length + 1) := by rw [hr, List.length_append, List.length_cons]
        omega
      have hrk := hv r (by rw [hr]; simp)
      have hsk := hv' s (by rw [hs]; simp)
      have hih := ih (a ++ [r]) b' (a' ++ [s]) (by rw [hr]; simp) (by rw [hs]; simp) (by simp [hl]) (by simpa using hbl)
      subst hr
      subst hs
      have e1 := gt_at [] a r b
      have e2 := gt_at [] a' s b'
      have l2 := lt_at a' s b'
      rw [← hl] at e2 l2
      refine Ev.step (f := fun k => if (r.length : Int) ≠ (s.length : Int) then (some false) else (dendronref29_Same.l1 k (a.length : Int) 0 a0 a1 a2 (a ++ r :: b) c0 c1 c2 (a' ++ s :: b'))) (fun k => ?_) ?_
      · rw [dendronref29_Same.l0, e1, e2, if_pos (lt_at a r b), if_pos (nn0 _), if_pos l2]
      · by_cases hrs : r.length = s.length
        · refine Ev.if_neg (fun h => h (by omega)) ?_
          have h1 := same_l1 a0 a1 a2 a r b c0 c1 c2 a' s b' hl.symm hn (Nat.le_trans hrk.1 (by decide)) hrk.2 hsk.2 _ hih r [] s [] rfl rfl rfl hrs
          refine h1.of_eq ?_
          have e : viewR (r :: b) = viewR (s :: b') ↔ (r.map prT = s.map prT ∧ viewR b = viewR b') := by
            show (r.map prT :: viewR b = s.map prT :: viewR b') ↔ _
            rw [List.cons.injEq]
          exact decide_eq_decide.2 e.symm
        · refine Ev.if_pos (fun h => hrs (by omega)) ((Ev.now false).of_eq ?_)
          symm
          rw [decide_eq_false_iff_not]
          intro h
          have h0 : r.map prT :: viewR b = s.map prT :: viewR b' := h
          injection h0 with h1 h2
          have := congrArg List.length h1
          simp at this
          exact hrs this
theorem rsame_ev (x y : En) (hx : EnOk x) (hy : EnOk y) : Ev (fun k => dendronref29_Same.f k x.1 x.2.1 x.2.2.1 x.2.2.2 y.1 y.2.1 y.2.2.1 y.2.2.2) (decide (viewE x = viewE y)) := by
  unfold dendronref29_Same.f
  refine Ev.guard (fun h e => h ((viewE_iff x y).1 e).1) fun h1 => ?_
  refine Ev.guard (fun h e => h ((viewE_iff x y).1 e).2.1) fun h2 => ?_
  refine Ev.guard (fun h e => h ((viewE_iff x y).1 e).2.2.1) fun h3 => ?_
  refine Ev.guard (fun h e => h (by rw [viewR_len ((viewE_iff x y).1 e).2.2.2])) fun h4 => ?_
  have h := same_l0 x.1 x.2.1 x.2.2.1 x.2.2.2 y.2.2.2 y.1 y.2.1 y.2.2.1 hx.1 hx.2 hy.2 x.2.2.2 [] y.2.2.2 [] rfl rfl rfl (by omega)
  refine h.of_eq ?_
  rw [decide_eq_decide, viewE_iff]
  exact ⟨fun h => ⟨by omega, by omega, by omega, h⟩, fun h => h.2.2.2⟩
theorem all_l0 (xs ys : List En) (hn : xs.length ≤ 16384) (hx : ∀ x ∈ xs, EnOk x) (hy : ∀ x ∈ ys, EnOk x) : ∀ (b a b' a' : List En), xs = a ++ b → ys = a' ++ b' → a.length = a'.length → b.length = b'.length →
    Ev (fun k => dendronref29_All.l0 k xs ys (a.length : Int)) (decide (b.map viewE = b'.map viewE)) := by
  intro b
  induction b with
  | nil =>
    intro a b' a' hr hs hl hbl
    have hb' := List.eq_nil_of_length_eq_zero hbl.symm
    subst hb'
    refine Ev.step (f := fun _ => some true) (fun k => ?_) ((Ev.now true).of_eq (by simp))
    rw [dendronref29_All.l0, if_neg (by rw [hr]; exact nlt_at a)]
  | cons x b ih =>
    intro a b' a' hr hs hl hbl
    cases b' with
    | nil => simp at hbl
    | cons y b' =>
      have hna : a.length ≤ 16384 := by
        have : xs.length = a.length + (b.length + 1) := by rw [hr, List.length_append, List.length_cons]
        omega
      have hxk := hx x (by rw [hr]; simp)
      have hyk := hy y (by rw [hs]; simp)
      have hih := ih (a ++ [x]) b' (a' ++ [y]) (by rw [hr]; simp) (by rw [hs]; simp) (by simp [hl]) (by simpa using hbl)
      subst hr
      subst hs
      have e1 := gt_at ((0, 0, 0, []) : En) a x b
      have e2 := gt_at ((0, 0, 0, []) : En) a' y b'
      have l2 := lt_at a' y b'
      rw [← hl] at e2 l2
      refine Ev.step (f := fun k => (dendronref29_Same.f k x.1 x.2.1 x.2.2.1 x.2.2.2 y.1 y.2.1 y.2.2.1 y.2.2.2).bind fun v12 => (if v12 = true then (dendronref29_All.l0 k (a ++ x :: b) (a' ++ y :: b') ((a ++ [x]).length : Int)) else (some false))) (fun k => ?_) (Ev.bind (rsame_ev x y hxk hyk) ?_)
      · rw [dendronref29_All.l0, e1, e2, if_pos (lt_at a x b), if_pos (nn0 _), if_pos l2, wr_at a x (Nat.le_trans hna (by decide))]
      · by_cases hv : viewE x = viewE y
        · refine Ev.if_pos (decide_eq_true hv) (hih.of_eq ?_)
          rw [decide_eq_decide, List.map_cons, List.map_cons, List.cons.injEq]
          exact ⟨fun h => ⟨hv, h⟩, fun h => h.2⟩
        · refine Ev.if_neg (by simp [hv]) ((Ev.now false).of_eq ?_)
          symm
          rw [decide_eq_false_iff_not, List.map_cons, List.map_cons, List.cons.injEq]
          exact fun h => hv h.1
theorem all_ev (xs ys : List En) (hn : xs.length ≤ 16384) (hx : ∀ x ∈ xs, EnOk x) (hy : ∀ x ∈ ys, EnOk x) : Ev (fun k => dendronref29_All.f k xs ys) (decide (xs.map viewE = ys.map viewE)) := by
  unfold dendronref29_All.f
  refine Ev.guard (fun h e => h (by have := congrArg List.length e; simp at this; omega)) fun h1 => ?_
  exact all_l0 xs ys hn hx hy xs [] ys [] rfl rfl rfl (by omega)
end Go.DI.Th
namespace Go.DI.Th
open Go Go.RowKit Go.DI

def numE (w : ByteArray) : Int := if prE (toL w) = 0 then (if prT (cn (prV (toL w))) ≠ w then 4 else 0) else prE (toL w)
def numR (s : St) : Rt × St := ((numS s).1, FailS (wordS s).2 (numE (wordS s).1))
theorem numR_err {s : St} (h : s.err ≠ 0) : (numR s).2 = s := by
  unfold numR
  rw [word_err h]
  exact Fail_err h _
theorem numR_good {s : St} (h : s.Good) : (numR s).2.Good := FailS_good (wordS_good h) _
theorem numR_ev (s : St) (h : s.Good) : Ev (fun k => report_number.f k s.ls s.i s.j s.sz s.err s.at_) ((numR s).1.1, (numR s).1.2.1, (numR s).1.2.2, (numR s).2.t) := by
  have hok := numS_ok s
  unfold report_number.f numR
  rw [word_eq s h.ok h.l1]
  have h2 := wordS_good h
  have h3 := wordS_size h
  unfold numS at hok ⊢
  generalize wordS s = p at h2 h3 hok ⊢
  obtain ⟨v, s2⟩ := p
  have h2 : s2.Good := h2
  have h3 : v.size ≤ 1048576 := h3
  have hp := rparse_ev v (by omega)
  refine Ev.bind (Ev.now (v, s2.t)) (Ev.bind hp ?_)
  dsimp only at hok ⊢
  unfold numE
  unfold rR
  by_cases he : prE (toL v) = 0
  · rw [if_pos he] at hok
    rw [if_pos he, if_pos he, if_pos he]
    have hpr := prT_ev _ hok
    refine Ev.if_pos rfl (Ev.bind hpr ?_)
    by_cases hw : prT (cn (prV (toL v))) ≠ v
    · refine Ev.if_pos hw ?_
      rw [if_pos hw]
      exact Ev.bind (Ev.congr (fun _ => Fail_eq s2 h2 4) (Ev.now _)) (Ev.now _)
    · refine Ev.if_neg hw ?_
      rw [if_neg hw]
      exact Ev.bind (Ev.congr (fun _ => Fail_eq s2 h2 0) (Ev.now _)) (Ev.now _)
  · rw [if_neg he, if_neg he, if_neg he]
    refine Ev.if_neg he ?_
    exact Ev.bind (Ev.congr (fun _ => Fail_eq s2 h2 _) (Ev.now _)) (Ev.now _)
theorem lnumR_ev (s : St) (h : s.Good) : Ev (fun k => dendronlaw29_number.f k s.ls s.i s.j s.sz s.err s.at_) ((numR s).1.1, (numR s).1.2.1, (numR s).1.2.2, (numR s).2.t) := numR_ev s h
theorem off_ev (s : St) : Ev (fun _ => report_off.f s.ls s.i s.j s.sz s.err s.at_) ((!(s.err == 0)), s.t) := Ev.now _
theorem rok_ev (s : St) : Ev (fun _ => dendronlaw29_ok.f s.ls s.i s.j s.sz s.err s.at_) ((s.err == 0), s.t) := Ev.now _
def wRow : ByteArray := ⟨#[114, 111, 119]⟩
def wEntry : ByteArray := ⟨#[101, 110, 116, 114, 121]⟩
def wReport : ByteArray := ⟨#[114, 101, 112, 111, 114, 116]⟩
def wPick : List ByteArray := [⟨#[101, 114, 114, 111, 114]⟩, ⟨#[116, 97, 98, 108, 101]⟩]
def numsS : Nat → St → List Rt → List Rt × St
  | 0, s, acc => (acc, s)
  | m + 1, s, acc => numsS m (numR s).2 (acc ++ [(numR s).1])
def rc (s : St) := countS (takeS s wRow) 0 1000
def rowS (s : St) : List Rt × St := ((numsS (rc s).1.toNat (rc s).2 []).1, nextS (numsS (rc s).1.toNat (rc s).2 []).2)
def rowsS : Nat → St → List (List Rt) → List (List Rt) × St
  | 0, s, acc => (acc, s)
  | m + 1, s, acc => rowsS m (rowS s).2 (acc ++ [(rowS s).1])
def e1 (s : St) (i : Int) := countS (takeS s wEntry) i i
def e2 (s : St) (i : Int) := countS (e1 s i).2 0 9
def e3 (s : St) (i : Int) := pickS (e2 s i).2 wPick
def e4 (s : St) (i : Int) := countS (e3 s i).2 1 999
def e5 (s : St) (i : Int) := countS (e3 s i).2 0 64
def entS (s : St) (i : Int) : En × St :=
  if (e3 s i).1 = 0 then (((e1 s i).1, (e2 s i).1, (e4 s i).1, []), nextS (e4 s i).2)
  else (((e1 s i).1, (e2 s i).1, 0, (rowsS (e5 s i).1.toNat (nextS (e5 s i).2) []).1), (rowsS (e5 s i).1.toNat (nextS (e5 s i).2) []).2)
def entsS : Nat → Nat → St → List En → List En × St
  | 0, _, s, acc => (acc, s)
  | m + 1, i, s, acc => entsS m (i + 1) (entS s i).2 (acc ++ [(entS s i).1])
def rhd (x : ByteArray) := countS (takeS (readS x) wReport) 0 16384
def repE (x : ByteArray) : List En × St := entsS (rhd x).1.toNat 0 (nextS (rhd x).2) []
def repR (x : ByteArray) : List En × Int := if (endS (repE x).2).err ≠ 0 then ([], (endS (repE x).2).err) else if headT (repE x).1.length ++ entsT (repE x).1 = x then ((repE x).1, 0) else ([], 4)
theorem nums_err {s : St} (h : s.err ≠ 0) : ∀ (m : Nat) (acc : List Rt), (numsS m s acc).2 = s
  | 0, _ => rfl
  | m + 1, acc => by rw [numsS, numR_err h, nums_err h m]
theorem row_err {s : St} (h : s.err ≠ 0) : (rowS s).2 = s := by
  unfold rowS rc
  rw [take_err h, count_err h]
  show nextS (numsS 0 s []).2 = s
  exact next_err h
theorem rows_err {s : St} (h : s.err ≠ 0) : ∀ (m : Nat) (acc : List (List Rt)), (rowsS m s acc).2 = s
  | 0, _ => rfl
  | m + 1, acc => by rw [rowsS, row_err h, rows_err h m]
theorem ent_err {s : St} (h : s.err ≠ 0) (i : Int) : (entS s i).2 = s := by
  have h1 : (e1 s i).2 = s := by unfold e1; rw [take_err h, count_err h]
  have h2 : (e2 s i).2 = s := by unfold e2; rw [h1, count_err h]
  have h3 : e3 s i = (0, s) := by unfold e3; rw [h2, pick_err h]
  have h4 : (e4 s i).2 = s := by unfold e4; rw [h3]; exact congrArg Prod.snd (count_err h 1 999)
  unfold entS
  rw [h3, if_pos rfl]
  show nextS (e4 s i).2 = s
  rw [h4, next_err h]
theorem ents_err {s : St} (h : s.err ≠ 0) : ∀ (m i : Nat) (acc : List En), (entsS m i s acc).2 = s
  | 0, _, _ => rfl
  | m + 1, i, acc => by rw [entsS, ent_err h, ents_err h m]
theorem nums_good : ∀ (m : Nat) {s : St} (acc : List Rt), s.Good → (numsS m s acc).2.Good
  | 0, _, _, h => h
  | m + 1, s, acc, h => by rw [numsS]; exact nums_good m _ (numR_good h)
theorem rc_good {s : St} (h : s.Good) : (rc s).2.Good := countS_good (takeS_good h _) _ _
theorem row_good {s : St} (h : s.Good) : (rowS s).2.Good := nextS_good (nums_good _ _ (rc_good h))
theorem rows_good : ∀ (m : Nat) {s : St} (acc : List (List Rt)), s.Good → (rowsS m s acc).2.Good
  | 0, _, _, h => h
  | m + 1, s, acc, h => by rw [rowsS]; exact rows_good m _ (row_good h)
theorem e_good {s : St} (h : s.Good) (i : Int) : (e1 s i).2.Good ∧ (e2 s i).2.Good ∧ (e3 s i).2.Good ∧ (e4 s i).2.Good ∧ (e5 s i).2.Good := by
  have h1 : (e1 s i).2.Good := countS_good (takeS_good h _) _ _
  have h2 : (e2 s i).2.Good := countS_good h1 _ _
  have h3 : (e3 s i).2.Good := pickS_good h2 _
  exact ⟨h1, h2, h3, countS_good h3 _ _, countS_good h3 _ _⟩
theorem ent_good {s : St} (h : s.Good) (i : Int) : (entS s i).2.Good := by
  obtain ⟨g1, g2, g3, g4, g5⟩ := e_good h i
  unfold entS
  split
  · exact nextS_good g4
  · exact rows_good _ _ (nextS_good g5)
theorem rhd_good (x : ByteArray) : (rhd x).2.Good := countS_good (takeS_good (readS_good x) _) _ _
def flat (v : En) (T : St) : Int × Int × Int × List (List Rt) × RT := (v.1, v.2.1, v.2.2.1, v.2.2.2, T.t)
theorem ent_l1 (N : Nat) (hN : N ≤ 64) (a b : Int) (m r : Nat) (hr : r < N) (hm : r + 1 + m = N) (acc : List (List Rt)) (ha : acc.length = r)
    (ih0 : ∀ (s : St) (acc' : List (List Rt)), acc'.length = r + 1 → s.Good → ∃ v, Ev (fun k => report_entry.l0 k (N : Int) ((r + 1 : Nat) : Int) s.ls s.i s.j s.sz s.err s.at_ 0 0 0 a b 0 acc') (flat v (rowsS m s acc').2) ∧ ((rowsS m s acc').2.err = 0 → v = (a, b, 0, (rowsS m s acc').1)))
    (C : Nat) (hC : C ≤ 1000) : ∀ (q j : Nat) (s : St) (t : List Rt), j + q = C → t.length = j → s.Good →
    ∃ v, Ev (fun k => report_entry.l1 k t (N : Int) (r : Int) (C : Int) (j : Int) s.ls s.i s.j s.sz s.err s.at_ 0 0 0 a b 0 acc) (flat v (rowsS m (nextS (numsS q s t).2) (acc ++ [(numsS q s t).1])).2) ∧
      ((rowsS m (nextS (numsS q s t).2) (acc ++ [(numsS q s t).1])).2.err = 0 → v = (a, b, 0, (rowsS m (nextS (numsS q s t).2) (acc ++ [(numsS q s t).1])).1)) := by
  intro q
  induction q with
  | zero =>
    intro j s t hj ht h
    obtain ⟨v, h1, h2⟩ := ih0 (nextS s) (acc ++ [t]) (by rw [List.length_append, List.length_singleton, ha]) (nextS_good h)
    refine ⟨v, Ev.succ ?_, h2⟩
    simp only [report_entry.l1, wr_succ r (show r ≤ 1125899906842624 by omega), next_eq s h.ok h.l1]
    exact Ev.if_neg (by omega) (Ev.bind (Ev.now _) (Ev.if_pos (by omega) h1))
  | succ q ih =>
    intro j s t hj ht h
    have hn := numR_ev s h
    have hg := numR_good h
    have ho := off_ev (numR s).2
    by_cases he : (numR s).2.err = 0
    · obtain ⟨v, h1, h2⟩ := ih (j + 1) (numR s).2 (t ++ [(numR s).1]) (by omega) (by rw [List.length_append, List.length_singleton, ht]) hg
      refine ⟨v, Ev.succ ?_, h2⟩
      simp only [report_entry.l1, wr_succ j (show j ≤ 1125899906842624 by omega)]
      refine Ev.if_pos (by omega) (Ev.bind hn (Ev.bind ho ?_))
      refine Ev.if_neg (by simp [he]) (Ev.if_pos (by omega) ?_)
      exact h1
    · have e : (rowsS m (nextS (numsS (q + 1) s t).2) (acc ++ [(numsS (q + 1) s t).1])).2 = (numR s).2 := by
        rw [numsS, nums_err he, next_err he, rows_err he]
      rw [e]
      refine ⟨(0, 0, 0, []), Ev.succ ?_, fun h => absurd h he⟩
      simp only [report_entry.l1, wr_succ j (show j ≤ 1125899906842624 by omega)]
      refine Ev.if_pos (by omega) (Ev.bind hn (Ev.bind ho ?_))
      exact Ev.if_pos (by simpa using he) (Ev.now _)
theorem ent_l0 (N : Nat) (hN : N ≤ 64) (a b : Int) : ∀ (m r : Nat) (s : St) (acc : List (List Rt)), r + m = N → acc.length = r → s.Good →
    ∃ v, Ev (fun k => report_entry.l0 k (N : Int) (r : Int) s.ls s.i s.j s.sz s.err s.at_ 0 0 0 a b 0 acc) (flat v (rowsS m s acc).2) ∧ ((rowsS m s acc).2.err = 0 → v = (a, b, 0, (rowsS m s acc).1)) := by
  intro m
  induction m with
  | zero =>
    intro r s acc hr ha h
    refine ⟨(a, b, 0, acc), Ev.succ ?_, fun _ => rfl⟩
    simp only [report_entry.l0]
    exact Ev.if_neg (by omega) (Ev.now _)
  | succ m ih =>
    intro r s acc hr ha h
    have g1 := takeS_good h wRow
    have g2 := rc_good h
    have c := count_ev _ g1 0 1000
    obtain ⟨r1, r2⟩ := countS_range (takeS s wRow) 0 1000 (by decide) (by decide)
    have hl := ent_l1 N hN a b m r (by omega) (by omega) acc ha (fun s' acc' ha' h' => ih (r + 1) s' acc' (by omega) ha' h') (rc s).1.toNat (by show (countS _ _ _).1.toNat ≤ 1000; omega) (rc s).1.toNat 0 (rc s).2 [] (Nat.zero_add _) rfl g2
    rw [Int.toNat_of_nonneg (show 0 ≤ (rc s).1 from r1)] at hl
    obtain ⟨v, h1, h2⟩ := hl
    refine ⟨v, Ev.succ ?_, h2⟩
    simp only [report_entry.l0, take_eq s _ h.ok h.l1]
    exact Ev.if_pos (by omega) (Ev.bind (Ev.now _) (Ev.bind c h1))
theorem entry_ev (s : St) (h : s.Good) (i : Nat) : ∃ v, Ev (fun k => report_entry.f k s.ls s.i s.j s.sz s.err s.at_ (i : Int)) (flat v (entS s i).2) ∧ ((entS s i).2.err = 0 → v = (entS s i).1) := by
  obtain ⟨g1, g2, g3, g4, g5⟩ := e_good h (i : Int)
  have c1 := count_ev _ (takeS_good h wEntry) (i : Int) (i : Int)
  have c2 := count_ev _ g1 0 9
  have c3 := pick_ev _ g2 wPick (by decide)
  have c4 := count_ev _ g3 1 999
  have c5 := count_ev _ g3 0 64
  unfold report_entry.f entS
  rw [take_eq s _ h.ok h.l1]
  by_cases hp : (e3 s i).1 = 0
  · rw [if_pos hp]
    refine ⟨_, Ev.bind (Ev.now _) (Ev.bind c1 (Ev.bind c2 (Ev.bind c3 (Ev.if_pos hp (Ev.bind c4 ?_))))), fun _ => rfl⟩
    show Ev (fun k => (lex_Reader_Next.f (e4 s i).2.ls (e4 s i).2.i (e4 s i).2.j (e4 s i).2.sz (e4 s i).2.err (e4 s i).2.at_).bind _) _
    rw [next_eq _ g4.ok g4.l1]
    exact Ev.bind (Ev.now _) (Ev.now _)
  · rw [if_neg hp]
    obtain ⟨r1, r2⟩ := countS_range (e3 s i).2 0 64 (by decide) (by decide)
    have hl := ent_l0 (e5 s i).1.toNat (by show (countS _ _ _).1.toNat ≤ 64; omega) (e1 s i).1 (e2 s i).1 (e5 s i).1.toNat 0 (nextS (e5 s i).2) [] (Nat.zero_add _) rfl (nextS_good g5)
    rw [Int.toNat_of_nonneg (show 0 ≤ (e5 s i).1 from r1)] at hl
    obtain ⟨v, h1, h2⟩ := hl
    refine ⟨v, Ev.bind (Ev.now _) (Ev.bind c1 (Ev.bind c2 (Ev.bind c3 (Ev.if_neg hp (Ev.bind c5 ?_))))), h2⟩
    show Ev (fun k => (lex_Reader_Next.f (e5 s i).2.ls (e5 s i).2.i (e5 s i).2.j (e5 s i).2.sz (e5 s i).2.err (e5 s i).2.at_).bind _) _
    rw [next_eq _ g5.ok g5.l1]
    exact Ev.bind (Ev.now _) h1
theorem lent_l1 (N : Nat) (hN : N ≤ 64) (a b : Int) (x41 : Bool) (m r : Nat) (hr : r < N) (hm : r + 1 + m = N) (acc : List (List Rt)) (ha : acc.length = r)
    (ih0 : ∀ (s : St) (acc' : List (List Rt)), acc'.length = r + 1 → s.Good → ∃ v, Ev (fun k => dendronlaw29_entry.l0 k (N : Int) ((r + 1 : Nat) : Int) s.ls s.i s.j s.sz s.err s.at_ 0 0 0 a b 0 acc') (flat v (rowsS m s acc').2) ∧ ((rowsS m s acc').2.err = 0 → v = (a, b, 0, (rowsS m s acc').1)))
    (C : Nat) (hC : C ≤ 1000) : ∀ (q j : Nat) (s : St) (t : List Rt), j + q = C → t.length = j → s.Good →
    ∃ v, Ev (fun k => dendronlaw29_entry.l1 k (N : Int) (r : Int) (C : Int) t (j : Int) x41 s.ls s.i s.j s.sz s.err s.at_ 0 0 0 a b 0 acc) (flat v (rowsS m (nextS (numsS q s t).2) (acc ++ [(numsS q s t).1])).2) ∧
      ((rowsS m (nextS (numsS q s t).2) (acc ++ [(numsS q s t).1])).2.err = 0 → v = (a, b, 0, (rowsS m (nextS (numsS q s t).2) (acc ++ [(numsS q s t).1])).1)) := by
  intro q
  induction q with
  | zero =>
    intro j s t hj ht h
    obtain ⟨v, h1, h2⟩ := ih0 (nextS s) (acc ++ [t]) (by rw [List.length_append, List.length_singleton, ha]) (nextS_good h)
    refine ⟨v, Ev.succ ?_, h2⟩
    simp only [dendronlaw29_entry.l1, wr_succ r (show r ≤ 1125899906842624 by omega), next_eq s h.ok h.l1]
    exact Ev.if_neg (by omega) (Ev.bind (Ev.now _) (Ev.if_pos (by omega) h1))
  | succ q ih =>
    intro j s t hj ht h
    have ho := rok_ev s
    by_cases he : s.err = 0
    · have hn := lnumR_ev s h
      have hg := numR_good h
      obtain ⟨v, h1, h2⟩ := ih (j + 1) (numR s).2 (t ++ [(numR s).1]) (by omega) (by rw [List.length_append, List.length_singleton, ht]) hg
      refine ⟨v, Ev.succ ?_, h2⟩
      simp only [dendronlaw29_entry.l1, wr_succ j (show j ≤ 1125899906842624 by omega)]
      refine Ev.if_pos (by omega) (Ev.bind ho ?_)
      refine Ev.if_pos (by simpa using he) (Ev.bind hn (Ev.if_pos (by omega) ?_))
      exact h1
    · have e : (rowsS m (nextS (numsS (q + 1) s t).2) (acc ++ [(numsS (q + 1) s t).1])).2 = s := by
        rw [nums_err he, next_err he, rows_err he]
      obtain ⟨v, h1, h2⟩ := ih0 (nextS s) (acc ++ [t]) (by rw [List.length_append, List.length_singleton, ha]) (nextS_good h)
      rw [e]
      rw [next_err he, rows_err he] at h1
      refine ⟨v, Ev.succ ?_, fun h => absurd h he⟩
      simp only [dendronlaw29_entry.l1, wr_succ r (show r ≤ 1125899906842624 by omega), next_eq s h.ok h.l1, wr_succ j (show j ≤ 1125899906842624 by omega)]
      refine Ev.if_pos (by omega) (Ev.bind ho ?_)
      refine Ev.if_neg (by simpa using he) ?_
      refine Ev.bind (Ev.congr (fun _ => next_eq s h.ok h.l1) (Ev.now _)) (Ev.if_pos (by omega) ?_)
      rw [next_err he]
      exact h1
theorem lent_l0 (N : Nat) (hN : N ≤ 64) (a b : Int) : ∀ (m r : Nat) (s : St) (acc : List (List Rt)), r + m = N → acc.length = r → s.Good →
    ∃ v, Ev (fun k => dendronlaw29_entry.l0 k (N : Int) (r : Int) s.ls s.i s.j s.sz s.err s.at_ 0 0 0 a b 0 acc) (flat v (rowsS m s acc).2) ∧ ((rowsS m s acc).2.err = 0 → v = (a, b, 0, (rowsS m s acc).1)) := by
  intro m
  induction m with
  | zero =>
    intro r s acc hr ha h
    refine ⟨(a, b, 0, acc), Ev.succ ?_, fun _ => rfl⟩
    simp only [dendronlaw29_entry.l0]
    exact Ev.if_neg (by omega) (Ev.now _)
  | succ m ih =>
    intro r s acc hr ha h
    have ho := rok_ev s
    by_cases he : s.err = 0
    · have g1 := takeS_good h wRow
      have g2 := rc_good h
      have c := count_ev _ g1 0 1000
      obtain ⟨r1, r2⟩ := countS_range (takeS s wRow) 0 1000 (by decide) (by decide)
      have hl := lent_l1 N hN a b true m r (by omega) (by omega) acc ha (fun s' acc' ha' h' => ih (r + 1) s' acc' (by omega) ha' h') (rc s).1.toNat (by show (countS _ _ _).1.toNat ≤ 1000; omega) (rc s).1.toNat 0 (rc s).2 [] (Nat.zero_add _) rfl g2
      rw [Int.toNat_of_nonneg (show 0 ≤ (rc s).1 from r1)] at hl
      obtain ⟨v, h1, h2⟩ := hl
      refine ⟨v, Ev.succ ?_, h2⟩
      simp only [dendronlaw29_entry.l0]
      refine Ev.if_pos (by omega) (Ev.bind ho (Ev.if_pos (by simpa using he) ?_))
      exact Ev.bind (Ev.congr (fun _ => take_eq s _ h.ok h.l1) (Ev.now _)) (Ev.bind c h1)
    · rw [rows_err he]
      refine ⟨(a, b, 0, acc), Ev.succ ?_, fun h => absurd h he⟩
      simp only [dendronlaw29_entry.l0]
      exact Ev.if_pos (by omega) (Ev.bind ho (Ev.if_neg (by simpa using he) (Ev.now _)))
theorem lentry_ev (s : St) (h : s.Good) (i : Nat) : ∃ v, Ev (fun k => dendronlaw29_entry.f k s.ls s.i s.j s.sz s.err s.at_ (i : Int)) (flat v (entS s i).2) ∧ ((entS s i).2.err = 0 → v = (entS s i).1) := by
  obtain ⟨g1, g2, g3, g4, g5⟩ := e_good h (i : Int)
  have c1 := count_ev _ (takeS_good h wEntry) (i : Int) (i : Int)
  have c2 := count_ev _ g1 0 9
  have c3 := pick_ev _ g2 wPick (by decide)
  have c4 := count_ev _ g3 1 999
  have c5 := count_ev _ g3 0 64
  unfold dendronlaw29_entry.f entS
  rw [take_eq s _ h.ok h.l1]
  by_cases hp : (e3 s i).1 = 0
  · rw [if_pos hp]
    refine ⟨_, Ev.bind (Ev.now _) (Ev.bind c1 (Ev.bind c2 (Ev.bind c3 (Ev.if_pos hp (Ev.bind c4 ?_))))), fun _ => rfl⟩
    show Ev (fun k => (lex_Reader_Next.f (e4 s i).2.ls (e4 s i).2.i (e4 s i).2.j (e4 s i).2.sz (e4 s i).2.err (e4 s i).2.at_).bind _) _
    rw [next_eq _ g4.ok g4.l1]
    exact Ev.bind (Ev.now _) (Ev.now _)
  · rw [if_neg hp]
    obtain ⟨r1, r2⟩ := countS_range (e3 s i).2 0 64 (by decide) (by decide)
    have hl := lent_l0 (e5 s i).1.toNat (by show (countS _ _ _).1.toNat ≤ 64; omega) (e1 s i).1 (e2 s i).1 (e5 s i).1.toNat 0 (nextS (e5 s i).2) [] (Nat.zero_add _) rfl (nextS_good g5)
    rw [Int.toNat_of_nonneg (show 0 ≤ (e5 s i).1 from r1)] at hl
    obtain ⟨v, h1, h2⟩ := hl
    refine ⟨v, Ev.bind (Ev.now _) (Ev.bind c1 (Ev.bind c2 (Ev.bind c3 (Ev.if_neg hp (Ev.bind c5 ?_))))), h2⟩
    show Ev (fun k => (lex_Reader_Next.f (e5 s i).2.ls (e5 s i).2.i (e5 s i).2.j (e5 s i).2.sz (e5 s i).2.err (e5 s i).2.at_).bind _) _
    rw [next_eq _ g5.ok g5.l1]
    exact Ev.bind (Ev.now _) h1
end Go.DI.Th
namespace Go.DI.Th
open Go Go.RowKit Go.DI

def VG (v : Rt) : Prop := RtB 1048576 v ∧ (prT v).size ≤ 4000 ∧ v = cn (rv v)
theorem VG.ok {v : Rt} (h : VG v) : RtOk v := h.1
def EG (x : En) : Prop := x.2.2.2.length ≤ 64 ∧ ∀ r ∈ x.2.2.2, r.length ≤ 1000 ∧ ∀ v ∈ r, VG v
theorem EG.ok {x : En} (h : EG x) : EnOk x := ⟨Nat.le_trans h.1 (by decide), fun r hr => ⟨(h.2 r hr).1, fun v hv => ((h.2 r hr).2 v hv).ok⟩⟩
theorem numR_rem {s : St} (h : (numR s).2.err = 0) (hr : rem s ≤ 4000) : s.err = 0 ∧ VG (numR s).1 ∧ rem (numR s).2 ≤ rem s := by
  have hok : RtB 1048576 (numS s).1 := numS_ok s
  unfold numR at h ⊢
  unfold numS at hok ⊢
  dsimp only at h hok ⊢
  have hw : (wordS s).2.err = 0 := by
    by_cases he : (wordS s).2.err = 0
    · exact he
    · rw [Fail_err he] at h; exact absurd h he
  obtain ⟨a, m, i1, j1, l1, b⟩ := word_rem hw
  obtain ⟨e, e2⟩ := Fail_zero hw (by rw [i1, l1]; exact m.2.1) j1 h
  rw [e2]
  unfold numE at e
  by_cases hp : prE (toL (wordS s).1) = 0
  · rw [if_pos hp] at e hok ⊢
    by_cases hq : prT (cn (prV (toL (wordS s).1))) ≠ (wordS s).1
    · rw [if_pos hq] at e; exact absurd e (by decide)
    · have hq' : prT (cn (prV (toL (wordS s).1))) = (wordS s).1 := Decidable.not_not.1 hq
      exact ⟨a, ⟨hok, by rw [hq']; omega, by rw [rv_cn]⟩, by omega⟩
  · rw [if_neg hp] at e
    exact absurd e hp
theorem nums_rem : ∀ (m : Nat) (s : St) (acc : List Rt), (numsS m s acc).2.err = 0 → rem s ≤ 4000 → ∃ t, (numsS m s acc).1 = acc ++ t ∧ t.length = m ∧ (∀ v ∈ t, VG v) ∧ s.err = 0 ∧ rem (numsS m s acc).2 ≤ rem s
  | 0, s, acc, h, hr => ⟨[], by rw [numsS, List.append_nil], rfl, fun v hv => (by cases hv), h, Nat.le_refl _⟩
  | m + 1, s, acc, h, hr => by
    rw [numsS] at h
    have hn : (numR s).2.err = 0 := by
      by_cases he : (numR s).2.err = 0
      · exact he
      · rw [nums_err he] at h; exact absurd h he
    obtain ⟨h1, h2, h3⟩ := numR_rem hn hr
    obtain ⟨t, t1, t2, t3, t4, t5⟩ := nums_rem m (numR s).2 (acc ++ [(numR s).1]) h (by omega)
    refine ⟨(numR s).1 :: t, ?_, by rw [List.length_cons, t2], fun v hv => ?_, h1, ?_⟩
    · rw [numsS, t1, ← snoc_at]
    · rcases List.mem_cons.1 hv with e | hv
      · rw [e]; exact h2
      · exact t3 v hv
    · rw [numsS]; omega
theorem row_rem {s : St} (h : (rowS s).2.err = 0) (hr : rem s ≤ 4000) : s.err = 0 ∧ (rowS s).1.length ≤ 1000 ∧ (∀ v ∈ (rowS s).1, VG v) ∧ rem (rowS s).2 ≤ rem s := by
  obtain ⟨n1, n2⟩ := next_rem (show (nextS (numsS (rc s).1.toNat (rc s).2 []).2).err = 0 from h)
  have hc : (rc s).2.err = 0 := by
    by_cases he : (rc s).2.err = 0
    · exact he
    · rw [nums_err he] at n1; exact absurd n1 he
  obtain ⟨c1, c2, c3, c4⟩ := count_rem (show (countS (takeS s wRow) 0 1000).2.err = 0 from hc)
  obtain ⟨t1, t2⟩ := take_rem c1
  have c4' : rem (rc s).2 + 1 ≤ rem (takeS s wRow) := c4
  have c3' : (rc s).1 ≤ 1000 := c3
  have c2' : 0 ≤ (rc s).1 := c2
  obtain ⟨t, q1, q2, q3, q4, q5⟩ := nums_rem (rc s).1.toNat (rc s).2 [] n1 (by omega)
  have e : (rowS s).1 = t := by unfold rowS; dsimp only; rw [q1, List.nil_append]
  have e2 : rem (rowS s).2 ≤ rem (numsS (rc s).1.toNat (rc s).2 []).2 := n2
  rw [e]
  exact ⟨t1, by omega, q3, by omega⟩
theorem rows_rem : ∀ (m : Nat) (s : St) (acc : List (List Rt)), (rowsS m s acc).2.err = 0 → rem s ≤ 4000 → ∃ t, (rowsS m s acc).1 = acc ++ t ∧ t.length = m ∧ (∀ r ∈ t, r.length ≤ 1000 ∧ ∀ v ∈ r, VG v) ∧ s.err = 0 ∧ rem (rowsS m s acc).2 ≤ rem s
  | 0, s, acc, h, hr => ⟨[], by rw [rowsS, List.append_nil], rfl, fun v hv => (by cases hv), h, Nat.le_refl _⟩
  | m + 1, s, acc, h, hr => by
    rw [rowsS] at h
    have hn : (rowS s).2.err = 0 := by
      by_cases he : (rowS s).2.err = 0
      · exact he
      · rw [rows_err he] at h; exact absurd h he
    obtain ⟨h1, h2, h3, h4⟩ := row_rem hn hr
    obtain ⟨t, t1, t2, t3, t4, t5⟩ := rows_rem m (rowS s).2 (acc ++ [(rowS s).1]) h (by omega)
    refine ⟨(rowS s).1 :: t, ?_, by rw [List.length_cons, t2], fun v hv => ?_, h1, ?_⟩
    · rw [rowsS, t1, ← snoc_at]
    · rcases List.mem_cons.1 hv with e | hv
      · rw [e]; exact ⟨h2, h3⟩
      · exact t3 v hv
    · rw [rowsS]; omega
theorem ent_rem {s : St} {i : Nat} (h : (entS s i).2.err = 0) (hr : rem s ≤ 4000) : s.err = 0 ∧ okE i (entS s i).1 ∧ EG (entS s i).1 ∧ rem (entS s i).2 ≤ rem s := by
  have key : (e3 s i).2.err = 0 → s.err = 0 ∧ (e1 s i).1 = (i : Int) ∧ 0 ≤ (e2 s i).1 ∧ (e2 s i).1 ≤ 9 ∧ rem (e3 s i).2 ≤ rem s := fun h3 => by
    obtain ⟨p1, p2⟩ := pick_rem (show (pickS (e2 s i).2 wPick).2.err = 0 from h3)
    obtain ⟨b1, b2, b3, b4⟩ := count_rem (show (countS (e1 s i).2 0 9).2.err = 0 from p1)
    obtain ⟨a1, a2, a3, a4⟩ := count_rem (show (countS (takeS s wEntry) i i).2.err = 0 from b1)
    obtain ⟨t1, t2⟩ := take_rem a1
    have p2' : rem (e3 s i).2 + 1 ≤ rem (e2 s i).2 := p2
    have b4' : rem (e2 s i).2 + 1 ≤ rem (e1 s i).2 := b4
    have a4' : rem (e1 s i).2 + 1 ≤ rem (takeS s wEntry) := a4
    have a2' : (i : Int) ≤ (e1 s i).1 := a2
    have a3' : (e1 s i).1 ≤ (i : Int) := a3
    exact ⟨t1, by omega, b2, b3, by omega⟩
  unfold entS at h ⊢
  by_cases hp : (e3 s i).1 = 0
  · rw [if_pos hp] at h ⊢
    obtain ⟨n1, n2⟩ := next_rem (show (nextS (e4 s i).2).err = 0 from h)
    obtain ⟨d1, d2, d3, d4⟩ := count_rem (show (countS (e3 s i).2 1 999).2.err = 0 from n1)
    obtain ⟨k1, k2, k3, k4, k5⟩ := key d1
    have d2' : 1 ≤ (e4 s i).1 := d2
    have d3' : (e4 s i).1 ≤ 999 := d3
    have d4' : rem (e4 s i).2 + 1 ≤ rem (e3 s i).2 := d4
    exact ⟨k1, ⟨k2, k3, k4, show 0 ≤ (e4 s i).1 by omega, d3, fun _ => rfl, Nat.zero_le _⟩, ⟨Nat.zero_le _, fun r hr => (by cases hr)⟩, show rem (nextS (e4 s i).2) ≤ rem s by omega⟩
  · rw [if_neg hp] at h ⊢
    have hn : (nextS (e5 s i).2).err = 0 := by
      by_cases he : (nextS (e5 s i).2).err = 0
      · exact he
      · have h' : (rowsS (e5 s i).1.toNat (nextS (e5 s i).2) []).2.err = 0 := h
        rw [rows_err he] at h'; exact absurd h' he
    obtain ⟨n1, n2⟩ := next_rem hn
    obtain ⟨d1, d2, d3, d4⟩ := count_rem (show (countS (e3 s i).2 0 64).2.err = 0 from n1)
    obtain ⟨k1, k2, k3, k4, k5⟩ := key d1
    have d2' : 0 ≤ (e5 s i).1 := d2
    have d3' : (e5 s i).1 ≤ 64 := d3
    have d4' : rem (e5 s i).2 + 1 ≤ rem (e3 s i).2 := d4
    obtain ⟨t, t1, t2, t3, t4, t5⟩ := rows_rem (e5 s i).1.toNat (nextS (e5 s i).2) [] h (by omega)
    rw [List.nil_append] at t1
    rw [t1]
    exact ⟨k1, ⟨k2, k3, k4, Int.le_refl _, show (0 : Int) ≤ 999 by decide, fun h => absurd rfl h, show t.length ≤ 64 by omega⟩, ⟨show t.length ≤ 64 by omega, t3⟩, show rem (rowsS (e5 s i).1.toNat (nextS (e5 s i).2) []).2 ≤ rem s by omega⟩
theorem ents_rem : ∀ (m i : Nat) (s : St) (acc : List En), (entsS m i s acc).2.err = 0 → rem s ≤ 4000 → ∃ t, (entsS m i s acc).1 = acc ++ t ∧ t.length = m ∧ okL i t ∧ (∀ x ∈ t, EG x)
  | 0, i, s, acc, h, hr => ⟨[], by rw [entsS, List.append_nil], rfl, trivial, fun v hv => (by cases hv)⟩
  | m + 1, i, s, acc, h, hr => by
    rw [entsS] at h
    have hn : (entS s i).2.err = 0 := by
      by_cases he : (entS s i).2.err = 0
      · exact he
      · rw [ents_err he] at h; exact absurd h he
    obtain ⟨h1, h2, h3, h4⟩ := ent_rem hn hr
    obtain ⟨t, t1, t2, t3, t4⟩ := ents_rem m (i + 1) (entS s i).2 (acc ++ [(entS s i).1]) h (by omega)
    refine ⟨(entS s i).1 :: t, ?_, by rw [List.length_cons, t2], ⟨h2, t3⟩, fun v hv => ?_⟩
    · rw [entsS, t1, ← snoc_at]
    · rcases List.mem_cons.1 hv with e | hv
      · rw [e]; exact h3
      · exact t4 v hv
theorem rhd_range (x : ByteArray) : 0 ≤ (rhd x).1 ∧ (rhd x).1 ≤ 16384 := countS_range _ 0 16384 (by decide) (by decide)
theorem rep_rem (x : ByteArray) (hx : x.size ≤ 2000) (h : (endS (repE x).2).err = 0) : (repE x).1.length ≤ 16384 ∧ okL 0 (repE x).1 ∧ ∀ y ∈ (repE x).1, EG y := by
  have h1 := end_rem h
  have hn : (nextS (rhd x).2).err = 0 := by
    by_cases he : (nextS (rhd x).2).err = 0
    · exact he
    · have h' : (entsS (rhd x).1.toNat 0 (nextS (rhd x).2) []).2.err = 0 := h1
      rw [ents_err he] at h'; exact absurd h' he
  obtain ⟨n1, n2⟩ := next_rem hn
  obtain ⟨d1, d2, d3, d4⟩ := count_rem (show (countS (takeS (readS x) wReport) 0 16384).2.err = 0 from n1)
  obtain ⟨t1, t2⟩ := take_rem d1
  have d4' : rem (rhd x).2 + 1 ≤ rem (takeS (readS x) wReport) := d4
  have hrr := read_rem x
  obtain ⟨t, q1, q2, q3, q4⟩ := ents_rem (rhd x).1.toNat 0 (nextS (rhd x).2) [] h1 (by omega)
  have e : (repE x).1 = t := by unfold repE; rw [q1, List.nil_append]
  obtain ⟨r1, r2⟩ := rhd_range x
  rw [e]
  exact ⟨by omega, q3, q4⟩
theorem rowTail_sizeG : ∀ (l : List Rt), (∀ v ∈ l, VG v) → (rowTail l).size ≤ 1 + 4001 * l.length
  | [], _ => by
    rw [rowTail]
    have : (⟨#[10]⟩ : ByteArray).size = 1 := rfl
    omega
  | r :: l, h => by
    have h1 := rowTail_sizeG l fun x hx => h x (List.mem_cons_of_mem _ hx)
    have h2 := (h r List.mem_cons_self).2.1
    have e : (⟨#[32]⟩ : ByteArray).size = 1 := rfl
    rw [rowTail, ByteArray.size_append, ByteArray.size_append, e, List.length_cons]
    omega
theorem rowsT_sizeG : ∀ (l : List (List Rt)), (∀ r ∈ l, r.length ≤ 1000 ∧ ∀ v ∈ r, VG v) → (rowsT l).size ≤ 4002000 * l.length
  | [], _ => by rw [rowsT]; exact Nat.zero_le _
  | r :: l, h => by
    have h1 := rowsT_sizeG l fun x hx => h x (List.mem_cons_of_mem _ hx)
    obtain ⟨h2, h3⟩ := h r List.mem_cons_self
    have h4 := rowTail_sizeG r h3
    have h5 := prN_small (n := r.length) (by omega)
    have e : (⟨#[114, 111, 119, 32]⟩ : ByteArray).size = 4 := rfl
    rw [rowsT, ByteArray.size_append, ByteArray.size_append, ByteArray.size_append, e, List.length_cons]
    omega
theorem entT_sizeG (i : Nat) (hi : i ≤ 1000000) (x : En) (h : EG x) (ho : okE i x) : (entT x).size ≤ 300000000 := by
  obtain ⟨o1, o2, o3, o4, o5, _, _⟩ := ho
  have h1 := prN_small (n := x.1.toNat) (by omega)
  have h2 := prN_small (n := x.2.1.toNat) (by omega)
  have h3 := prN_small (n := x.2.2.1.toNat) (by omega)
  have hlen := h.1
  have h4 := prN_small (n := x.2.2.2.length) (by omega)
  have h5 := rowsT_sizeG x.2.2.2 h.2
  unfold entT
  simp only [ByteArray.size_append, lit_size, List.size_toArray, List.length_cons, List.length_nil]
  split <;> simp only [ByteArray.size_append, lit_size, List.size_toArray, List.length_cons, List.length_nil] <;> omega
theorem entsT_sizeG : ∀ (l : List En) (i : Nat), i + l.length ≤ 1000000 → (∀ x ∈ l, EG x) → okL i l → (entsT l).size ≤ 300000000 * l.length
  | [], _, _, _, _ => by rw [entsT]; exact Nat.zero_le _
  | x :: l, i, hi, h, ho => by
    rw [List.length_cons] at hi
    have h1 := entsT_sizeG l (i + 1) (by omega) (fun y hy => h y (List.mem_cons_of_mem _ hy)) ho.2
    have h2 := entT_sizeG i (by omega) x (h x List.mem_cons_self) ho.1
    rw [entsT, ByteArray.size_append, List.length_cons]
    omega
theorem rep_size {l : List En} (hl : l.length ≤ 16384) (h : ∀ x ∈ l, EG x) (ho : okL 0 l) : (headT l.length ++ entsT l).size ≤ M := by
  have h1 := entsT_sizeG l 0 (by omega) h ho
  have h2 := prN_small (n := l.length) (by omega)
  unfold headT M
  simp only [ByteArray.size_append, lit_size, List.size_toArray, List.length_cons, List.length_nil]
  omega
theorem end_ev (s : St) (h : s.Good) : Ev (fun _ => lex_Reader_End.f s.ls s.i s.j s.sz s.err s.at_) (endS s).t := Ev.congr (fun _ => end_eq s h.ok h.l1) (Ev.now _)
theorem rfin_ev (x : ByteArray) (T : List En) (s : St) (h : s.Good) (hv : (endS s).err = 0 → T.length ≤ 16384 ∧ okL 0 T ∧ ∀ y ∈ T, EG y) :
    Ev (fun k => (lex_Reader_End.f s.ls s.i s.j s.sz s.err s.at_).bind fun v2 => ((lex_Reader_Err.f v2.1 v2.2.1 v2.2.2.1 v2.2.2.2.1 v2.2.2.2.2.1 v2.2.2.2.2.2).bind fun v4 => (if v4.1 ≠ 0 then (some (([] : List En), v4.1)) else ((report_Write.f k T).bind fun v13 => ((report_same.f x v13.1 v13.2).bind fun v22 => (if v22 ≠ 0 then (some (([] : List En), v22)) else (some (T, 0))))))))
      (if (endS s).err ≠ 0 then ([], (endS s).err) else if headT T.length ++ entsT T = x then (T, 0) else ([], 4)) := by
  refine Ev.bind (end_ev s h) (Ev.bind (Ev.now _) ?_)
  by_cases he : (endS s).err ≠ 0
  · rw [if_pos he]
    exact Ev.if_pos he (Ev.now _)
  · rw [if_neg he]
    obtain ⟨h1, h2, h3⟩ := hv (Decidable.not_not.1 he)
    have hw := write_ev T h1 (fun y hy => (h3 y hy).ok) (rep_size h1 h3 h2)
    unfold writeR at hw
    rw [if_pos h2] at hw
    refine Ev.if_neg he (Ev.bind hw ?_)
    by_cases hx : headT T.length ++ entsT T = x
    · rw [if_pos hx]
      have hs : report_same.f x (headT T.length ++ entsT T) 0 = some 0 := by
        unfold report_same.f
        rw [if_pos rfl, if_neg (fun h => h hx.symm)]
      exact Ev.bind (Ev.congr (fun _ => hs) (Ev.now _)) (Ev.if_neg (fun h => h rfl) (Ev.now _))
    · rw [if_neg hx]
      have hs : report_same.f x (headT T.length ++ entsT T) 0 = some 4 := by
        unfold report_same.f
        rw [if_pos rfl, if_pos (fun h => hx h.symm)]
      exact Ev.bind (Ev.congr (fun _ => hs) (Ev.now _)) (Ev.if_pos (by decide) (Ev.now _))
def finR (x : ByteArray) (p : List En × St) : List En × Int := if (endS p.2).err ≠ 0 then ([], (endS p.2).err) else if headT p.1.length ++ entsT p.1 = x then (p.1, 0) else ([], 4)
theorem rread_l0 (x : ByteArray) (N : Nat) (hN : N ≤ 16384) : ∀ (m i : Nat) (s : St) (acc : List En), i + m = N → acc.length = i → s.Good → ((endS (entsS m i s acc).2).err = 0 → (entsS m i s acc).1.length ≤ 16384 ∧ okL 0 (entsS m i s acc).1 ∧ ∀ y ∈ (entsS m i s acc).1, EG y) →
    Ev (fun k => report_Read.l0 k x acc (N : Int) (i : Int) s.ls s.i s.j s.sz s.err s.at_) (finR x (entsS m i s acc)) := by
  intro m
  induction m with
  | zero =>
    intro i s acc hi ha h hv
    refine Ev.succ ?_
    simp only [report_Read.l0]
    exact Ev.if_neg (by omega) (rfin_ev x acc s h hv)
  | succ m ih =>
    intro i s acc hi ha h hv
    obtain ⟨v, h1, h2⟩ := entry_ev s h i
    have ho := off_ev (entS s i).2
    have hg := ent_good h (i : Int)
    by_cases he : (entS s i).2.err = 0
    · rw [entsS] at hv ⊢
      have hih := ih (i + 1) (entS s i).2 (acc ++ [(entS s i).1]) (by omega) (by rw [List.length_append, List.length_singleton, ha]) hg hv
      rw [h2 he] at h1
      refine Ev.succ ?_
      simp only [report_Read.l0, wr_succ i (show i ≤ 1125899906842624 by omega)]
      exact Ev.if_pos (by omega) (Ev.bind h1 (Ev.bind ho (Ev.if_neg (by simp [he]) (Ev.if_pos (by omega) hih))))
    · have e : (entsS (m + 1) i s acc).2 = (entS s i).2 := by rw [entsS, ents_err he]
      have e2 : finR x (entsS (m + 1) i s acc) = (if (endS (entS s i).2).err ≠ 0 then ([], (endS (entS s i).2).err) else if headT acc.length ++ entsT acc = x then (acc, 0) else ([], 4)) := by
        unfold finR
        rw [e, end_err he, if_pos he, if_pos he]
      rw [e2]
      have hf := rfin_ev x acc (entS s i).2 hg (fun h => by rw [end_err he] at h; exact absurd h he)
      refine Ev.succ ?_
      simp only [report_Read.l0, wr_succ i (show i ≤ 1125899906842624 by omega)]
      exact Ev.if_pos (by omega) (Ev.bind h1 (Ev.bind ho (Ev.if_pos (by simpa using he) hf)))
theorem rread_ev (x : ByteArray) (hx : x.size ≤ 2000) : Ev (fun k => report_Read.f k x) (repR x) := by
  have g0 := readS_good x
  have g1 := takeS_good g0 wReport
  have g2 := rhd_good x
  have c := count_ev _ g1 0 16384
  obtain ⟨r1, r2⟩ := rhd_range x
  have hl := rread_l0 x (rhd x).1.toNat (by omega) (rhd x).1.toNat 0 (nextS (rhd x).2) [] (Nat.zero_add _) rfl (nextS_good g2) (fun h => rep_rem x hx h)
  rw [Int.toNat_of_nonneg r1] at hl
  unfold report_Read.f
  refine Ev.bind (read_ev x) (Ev.bind (Ev.congr (fun _ => take_eq (readS x) _ g0.ok g0.l1) (Ev.now _)) (Ev.bind c ?_))
  exact Ev.bind (Ev.congr (fun _ => next_eq (rhd x).2 g2.ok g2.l1) (Ev.now _)) hl
theorem lfin_ev (x : ByteArray) (T : List En) (s : St) (h : s.Good) (hv : (endS s).err = 0 → T.length ≤ 16384 ∧ okL 0 T ∧ ∀ y ∈ T, EG y) :
    Ev (fun k => (lex_Reader_End.f s.ls s.i s.j s.sz s.err s.at_).bind fun v8 => ((lex_Reader_Err.f v8.1 v8.2.1 v8.2.2.1 v8.2.2.2.1 v8.2.2.2.2.1 v8.2.2.2.2.2).bind fun v10 => (if v10.1 ≠ 0 then (some (([] : List En), v10.1)) else ((dendronlaw29_right.f k T).bind fun v19 => (if v19 = true then ((dendronlaw29_text.f k T).bind fun v23 => (if v23 ≠ x then (some (([] : List En), 4)) else (some (T, 0)))) else (some (([] : List En), 4)))))))
      (finR x (T, s)) := by
  unfold finR
  dsimp only
  refine Ev.bind (end_ev s h) (Ev.bind (Ev.now _) ?_)
  by_cases he : (endS s).err ≠ 0
  · rw [if_pos he]
    exact Ev.if_pos he (Ev.now _)
  · rw [if_neg he]
    obtain ⟨h1, h2, h3⟩ := hv (Decidable.not_not.1 he)
    have hr := lright_loop T (by omega) T [] rfl
    have ht := text_ev T h1 (fun y hy => (h3 y hy).ok) h2 (rep_size h1 h3 h2)
    refine Ev.if_neg he (Ev.bind (a := decide (okL 0 T)) hr (Ev.if_pos (decide_eq_true h2) (Ev.bind ht ?_)))
    by_cases hx : headT T.length ++ entsT T = x
    · rw [if_pos hx]
      exact Ev.if_neg (fun h => h hx) (Ev.now _)
    · rw [if_neg hx]
      exact Ev.if_pos hx (Ev.now _)
theorem lread_l0 (x : ByteArray) (N : Nat) (hN : N ≤ 16384) : ∀ (m i : Nat) (s : St) (acc : List En), i + m = N → acc.length = i → s.Good → ((endS (entsS m i s acc).2).err = 0 → (entsS m i s acc).1.length ≤ 16384 ∧ okL 0 (entsS m i s acc).1 ∧ ∀ y ∈ (entsS m i s acc).1, EG y) →
    Ev (fun k => dendronlaw29_read.l0 k x (N : Int) acc (i : Int) s.ls s.i s.j s.sz s.err s.at_) (finR x (entsS m i s acc)) := by
  intro m
  induction m with
  | zero =>
    intro i s acc hi ha h hv
    refine Ev.succ ?_
    simp only [dendronlaw29_read.l0]
    exact Ev.if_neg (by omega) (lfin_ev x acc s h hv)
  | succ m ih =>
    intro i s acc hi ha h hv
    have ho := rok_ev s
    by_cases he : s.err = 0
    · obtain ⟨v, h1, h2⟩ := lentry_ev s h i
      have hg := ent_good h (i : Int)
      rw [entsS] at hv ⊢
      refine Ev.succ ?_
      simp only [dendronlaw29_read.l0, wr_succ i (show i ≤ 1125899906842624 by omega)]
      refine Ev.if_pos (by omega) (Ev.bind ho (Ev.if_pos (by simpa using he) (Ev.bind h1 (Ev.if_pos (by omega) ?_))))
      by_cases hn : (entS s i).2.err = 0
      · rw [h2 hn]
        exact ih (i + 1) (entS s i).2 (acc ++ [(entS s i).1]) (by omega) (by rw [List.length_append, List.length_singleton, ha]) hg hv
      · have hih := ih (i + 1) (entS s i).2 (acc ++ [v]) (by omega) (by rw [List.length_append, List.length_singleton, ha]) hg (fun h => by rw [ents_err hn, end_err hn] at h; exact absurd h hn)
        refine hih.of_eq ?_
        unfold finR
        rw [ents_err hn, ents_err hn, end_err hn, if_pos hn, if_pos hn]
    · have e : finR x (entsS (m + 1) i s acc) = finR x (acc, s) := by
        unfold finR
        rw [ents_err he, end_err he, if_pos he, if_pos he]
      rw [e]
      have hf := lfin_ev x acc s h (fun h => by rw [end_err he] at h; exact absurd h he)
      refine Ev.succ ?_
      simp only [dendronlaw29_read.l0, wr_succ i (show i ≤ 1125899906842624 by omega)]
      exact Ev.if_pos (by omega) (Ev.bind ho (Ev.if_neg (by simpa using he) hf))
theorem lread_ev (x : ByteArray) (hx : x.size ≤ 2000) : Ev (fun k => dendronlaw29_read.f k x) (repR x) := by
  have g0 := readS_good x
  have g1 := takeS_good g0 wReport
  have g2 := rhd_good x
  have c := count_ev _ g1 0 16384
  obtain ⟨r1, r2⟩ := rhd_range x
  have hl := lread_l0 x (rhd x).1.toNat (by omega) (rhd x).1.toNat 0 (nextS (rhd x).2) [] (Nat.zero_add _) rfl (nextS_good g2) (fun h => rep_rem x hx h)
  rw [Int.toNat_of_nonneg r1] at hl
  unfold dendronlaw29_read.f
  refine Ev.bind (read_ev x) (Ev.bind (Ev.congr (fun _ => take_eq (readS x) _ g0.ok g0.l1) (Ev.now _)) (Ev.bind c ?_))
  exact Ev.bind (Ev.congr (fun _ => next_eq (rhd x).2 g2.ok g2.l1) (Ev.now _)) hl
theorem repR_ok (x : ByteArray) (hx : x.size ≤ 2000) : (repR x).1.length ≤ 16384 ∧ okL 0 (repR x).1 ∧ (∀ y ∈ (repR x).1, EG y) ∧ ((repR x).2 = 0 → headT (repR x).1.length ++ entsT (repR x).1 = x) ∧ ((repR x).2 ≠ 0 → (repR x).1 = []) := by
  unfold repR
  by_cases he : (endS (repE x).2).err ≠ 0
  · rw [if_pos he]
    exact ⟨Nat.zero_le _, trivial, fun y hy => (by cases hy), fun h => absurd h he, fun _ => rfl⟩
  · rw [if_neg he]
    obtain ⟨h1, h2, h3⟩ := rep_rem x hx (Decidable.not_not.1 he)
    by_cases ht : headT (repE x).1.length ++ entsT (repE x).1 = x
    · rw [if_pos ht]
      exact ⟨h1, h2, h3, fun _ => ht, fun h => absurd rfl h⟩
    · rw [if_neg ht]
      exact ⟨Nat.zero_le _, trivial, fun y hy => (by cases hy), fun h => absurd h (by decide), fun _ => rfl⟩
theorem reads_body (x : ByteArray) (hx : x.size ≤ 2000) : Ev (fun k => (report_Read.f k x).bind fun v5 => ((dendronlaw29_read.f k x).bind fun v12 => ((dendronref29_All.f k v5.1 v12.1).bind fun v20 => (if v20 = true then (if v5.2 = v12.2 then ((dendronlaw29_awake.f k).bind fun v27 => (some v27)) else (some false)) else (some false))))) true := by
  obtain ⟨h1, h2, h3, _, _⟩ := repR_ok x hx
  have ha := all_ev (repR x).1 (repR x).1 h1 (fun y hy => (h3 y hy).ok) (fun y hy => (h3 y hy).ok)
  rw [decide_eq_true rfl] at ha
  exact Ev.bind (rread_ev x hx) (Ev.bind (lread_ev x hx) (Ev.bind ha (Ev.if_pos rfl (Ev.if_pos rfl (Ev.bind awake29_ev (Ev.now _))))))
theorem reportReads_ev (x : ByteArray) : Ev (fun k => dendronlaw29_ReportReads.f k x) true := by
  unfold dendronlaw29_ReportReads.f
  by_cases h : (x.size : Int) > 2000
  · exact Ev.if_pos h (Ev.if_pos (by omega) (reads_body _ (by rw [ByteArray.size_extract]; omega)))
  · exact Ev.if_neg h (reads_body x (by omega))
end Go.DI.Th
namespace Go.DI.Th
open Go Go.RowKit Go.DI

end Go.DI.Th
namespace Go.DI.Th
open Go Go.RowKit Go.DI

end Go.DI.Th
