/- What methods of the library do, told. No condition. -/
import Derived.Test.YtnmpjinieiopaaaDoorDIc
import Derived.Test.YtnmpjinieiopaaaDoorFn
import Derived.Test.YtnmpjinieiopaaaDoorProg
import Derived.ProofKit
import Derived.Laws.Externs
import Derived.Laws.Entries
set_option linter.all false
namespace Go.DI
open Go.Lib
open Go Go.RowKit Go.Proofs
set_option linter.unusedVariables false
instance : Tabs := ⟨[(1, tab_deBruijn64tab.map fun x => .int .u8 x)], 999999, 5⟩
set_option maxHeartbeats 1000000 in
set_option maxRecDepth 100000 in
theorem idx_Byte (s : ByteArray) (c : Int) (w : World) :
    Calls Tryd.prog 92 #[.string s, .int .u8 c] w fun e w' => e = .returned (.int .i64 (fIdx s c.toNat.toUInt8)) ∧ Rests w w' := by
  go_enter Tryd.func92, Tryd.ntmps92
  go_wp2
  rw [run_callFunc_extern Tryd.func99 (by kernel_rfl) (by kernel_rfl) (by kernel_rfl) (e := Extern.BytealgIndexByte.indexByte) (by kernel_rfl)]
  rw [run_indexByte_string]
  simp only [Result.andThen]
  rw [Oper.upon_value]
  go_wp2
  go_ret
  exact ⟨rfl, Rests.rfl⟩
theorem stringslite_IndexByte.does {a0 : ByteArray} {a1 : Int} {r : Int} (h : stringslite_IndexByte.f a0 a1 = some r) :
    Does Tryd.prog 92 [.c (.d (.str a0)), .c (.d (.int .u8 a1))] [] (.c (.d (.int .i64 r))) none [] := by
  unfold stringslite_IndexByte.f at h
  obtain rfl := Option.some.inj h
  obtain ⟨c, hc⟩ := Option.isSome_iff_exists.1 (show Tryd.f92.body.isSome = true from rfl)
  refine does_data ⟨Tryd.f92, c, Tryd.func92, by kernel_rfl, hc⟩ (by simp) fun w F args hr => ?_
  obtain ⟨v, u, rfl, h1, h2⟩ := tsrel_two hr
  rw [TRel] at h1 h2
  cases h1
  cases h2
  refine (idx_Byte a0 a1 w).mono ?_
  rintro e w' ⟨rfl, h1⟩
  refine ⟨_, rfl, h1, fun _ _ _ _ => ?_⟩
  rw [TRel]
  exact .int _ _

abbrev Tok := Int × Int × ByteArray
def ctok (x : Tok) : List Value := [.int .i64 x.1, .int .i64 x.2.1, .string x.2.2]
def dtok (x : Tok) : List Dat := [.int .i64 x.1, .int .i64 x.2.1, .str x.2.2]
set_option maxHeartbeats 8000000 in
set_option maxRecDepth 100000 in
theorem split_walk (l : List Tok) (w : World) (hl : l.length ≤ 1099511627776) (b o cap : Nat) (hcap : l.length ≤ cap) (hb : b < w.heap.size) (h0 : 0 < l.length)
    (hc : ∀ (j : Nat) (x : Tok), l[j]? = some x → w.cell? ⟨b, o + j * 3, none⟩ = some (.int .i64 x.1) ∧ w.cell? ⟨b, o + j * 3 + 1, none⟩ = some (.int .i64 x.2.1) ∧ w.cell? ⟨b, o + j * 3 + 2, none⟩ = some (.string x.2.2)) :
    Calls Tryd.prog 14 #[.slice (some ⟨b, o, none⟩) l.length cap] w fun e w' => ∃ v, e = .returned v ∧ Rests w w' ∧ Parts ctok w' w.heap.size 29 36 3 v (splitG [] [] l) := by
  obtain ⟨B, hB, hB2⟩ : ∃ B, B ≤ w.heap.size ∧ w.heap.size ≤ B := ⟨_, Nat.le_refl _, Nat.le_refl _⟩
  have hne : ((l.length : Int) == 0) = false := by simp; intro e; subst e; simp at h0
  go_enter Tryd.func14, Tryd.ntmps14
  go_wp2
  go_loopw [3, 13] (fun vo i wr => ∃ (k : Nat) (O : List (List Tok)) (C : List Tok), k ≤ l.length ∧ i = .int .i64 k ∧ O.length ≤ k ∧ C.length ≤ k ∧ Rests w wr ∧ Parts ctok wr B 29 36 3 vo (O ++ [C]) ∧ splitG [] [] l = splitG O C (l.drop k))
    (fun _ i _ => l.length - (Go.RowKit.intOf i).toNat)
  case atStart =>
    refine ⟨0, [], [], Nat.zero_le _, rfl, Nat.le_refl _, Nat.le_refl _, ⟨rfl, rfl, rfl, by simp, fun k hk => Below.heap_alloc w _ _ hk⟩, ?_, rfl⟩
    have hB : B = w.heap.size := by omega
    subst hB
    refine Parts.one (cap := 1) ⟨rfl, .inr ⟨w.heap.size, 1, _, rfl, Nat.le_refl _, heap_alloc_new w _, Nat.le_refl _, by unfold maxLen; omega, rfl, rfl⟩⟩
  case round =>
    obtain ⟨k, O, C, hk, rfl, hO, hC, hR, hP, hS⟩ := hrel
    obtain ⟨i1, hi1, hz10, hz11, hz12⟩ := info_parts (show (Tryd.prog.info? 29).map (fun i => (i.zero, i.size, i.bytes)) = some (some (.slice none 0 0), 1, 24) by kernel_rfl)
    obtain ⟨i2, hi2, hz20, hz21, hz22⟩ := info_parts (show (Tryd.prog.info? 36).map (fun i => (i.zero, i.size, i.bytes)) = some (some (.agg #[.int .i64 0, .int .i64 0, .string ByteArray.empty]), 3, 32) by kernel_rfl)
    by_cases hkl : k < l.length
    · obtain ⟨x, hx⟩ : ∃ x, l[k]? = some x := ⟨_, List.getElem?_eq_getElem hkl⟩
      obtain ⟨c1, c2, c3⟩ := hc k x hx
      have hbb : wr.heap[b]? = w.heap[b]? := hR.2.2.2.2 b hb
      have d1 : wr.cell? ⟨b, o + k * 3, none⟩ = some (.int .i64 x.1) := (World.cell?_of_block hbb).trans c1
      have d2 : wr.cell? ⟨b, o + k * 3 + 1, none⟩ = some (.int .i64 x.2.1) := (World.cell?_of_block hbb).trans c2
      have d3 : wr.cell? ⟨b, o + k * 3 + 2, none⟩ = some (.string x.2.2) := (World.cell?_of_block hbb).trans c3
      have hbw : w.heap.size ≤ wr.heap.size := hR.2.2.2.1
      by_cases hbar : x.2.2.toList = [124]
      · obtain ⟨vs, p1, p2, p3, p4⟩ := (hP.kept (World.grownBy_alloc wr (.cells #[.int .i64 x.1, .int .i64 x.2.1, .string x.2.2] 36) none)).kept (World.grownBy_alloc _ (.cells #[.slice none 0 0] 29) none)
        have hlen : (O ++ [C]).length = O.length + 1 := by simp
        rw [hlen] at p1
        have hn : ∀ (j : Nat) u, [Value.slice none 0 0][j]? = some u → ((wr.alloc (.cells #[.int .i64 x.1, .int .i64 x.2.1, .string x.2.2] 36)).alloc (.cells #[.slice none 0 0] 29)).cell? ((⟨wr.heap.size + 1, 0, none⟩ : Addr).add j) = some u := by
          intro j u hj
          match j, hj with
          | 0, hj => simp at hj; subst hj; simp [Addr.add]
        go_wp2_with (at_builtin; refine wpList_append_id rfl (.tmp 20) (.tmp 21) 38 rfl B 29 i1 (.slice none 0 0) 1 24 Tryd.underlying38 hi1 hz10 hz11 hz12 rfl (by decide) u3 (O.length + 1) vs rfl p1 ⟨wr.heap.size + 1, 0, none⟩ 1 1 [.slice none 0 0] rfl rfl hn (by intro u hu; simp at hu; subst hu; rfl) (by unfold maxLen; omega) (by omega) (by simp; omega) ?_)
        intro v' w' hown hgrow hid
        go_wp2
        go_roundw
        case rel =>
          refine ⟨k + 1, O ++ [C], [], by omega, by simp, by simp; omega, by simp, ?_, ?_, ?_⟩
          · refine rests_grown (W := (wr.alloc (.cells #[.int .i64 x.1, .int .i64 x.2.1, .string x.2.2] 36)).alloc (.cells #[.slice none 0 0] 29)) hR (by simp; omega) (fun j hj => (Below.heap_alloc _ _ _ (by simp; omega)).trans (Below.heap_alloc _ _ _ hj)) rfl rfl rfl hgrow (fun b hb => by have := p1.lt b hb; omega)
          · have := Parts.more (cv := ctok) (by rw [hlen]; exact p1) p2 p3 p4 (by rw [hlen]; exact hown) hgrow (by simpa using hid)
            exact this
          · rw [hS, List.drop_eq_getElem_cons hkl, splitG, if_pos (by rw [List.getElem?_eq_getElem hkl] at hx; cases hx; exact hbar)]
        case measure => simp [Go.RowKit.intOf]; omega
      · obtain ⟨g, cp, vs, v, rfl, q1, q2, q3, q4, q5, q6, q7, q8, q9, q10, q11, q12⟩ := (hP.kept (World.grownBy_alloc wr (.cells #[.int .i64 x.1, .int .i64 x.2.1, .string x.2.2] 36) none)).at
        clear hc
        have hlen : (O ++ [C]).length = O.length + 1 := by simp
        have hbar2 : (x.2.2.toList == [124]) = false := by simpa using hbar
        go_wp2_with fail
        have q11a : (wr.alloc (.cells #[.int .i64 x.1, .int .i64 x.2.1, .string x.2.2] 36)).drew.cell? ⟨g, O.length, none⟩ = some v := q11
        have q11b : ((wr.alloc (.cells #[.int .i64 x.1, .int .i64 x.2.1, .string x.2.2] 36)).drew.alloc (.cells #[.int .i64 x.1, .int .i64 x.2.1, .string x.2.2] 36)).cell? ⟨g, O.length, none⟩ = some v := by
          rw [World.cell?_of_block (Below.heap_alloc _ _ _ q10)]; exact q11
        have q12b : Hid (((wr.alloc (.cells #[.int .i64 x.1, .int .i64 x.2.1, .string x.2.2] 36)).drew.alloc (.cells #[.int .i64 x.1, .int .i64 x.2.1, .string x.2.2] 36)).frozen? ⟨g, O.length, none⟩ = false) := by
          show World.frozen? _ _ = _
          rw [World.frozen?_of_block (Below.heap_alloc _ _ _ q10)]; exact q12
        have q6b : Hid (((wr.alloc (.cells #[.int .i64 x.1, .int .i64 x.2.1, .string x.2.2] 36)).drew.alloc (.cells #[.int .i64 x.1, .int .i64 x.2.1, .string x.2.2] 36)).ownsRow B 36 3 v C.length (C.flatMap ctok)) := (World.ownsRow.drew q5).alloc _
        have hn : Hid (∀ (j : Nat) u, (ctok x)[j]? = some u → ((wr.alloc (.cells #[.int .i64 x.1, .int .i64 x.2.1, .string x.2.2] 36)).drew.alloc (.cells #[.int .i64 x.1, .int .i64 x.2.1, .string x.2.2] 36)).cell? ((⟨wr.heap.size + 1, 0, none⟩ : Addr).add j) = some u) := by
          intro j u hj
          have hs : (wr.alloc (.cells #[.int .i64 x.1, .int .i64 x.2.1, .string x.2.2] 36)).drew.heap.size = wr.heap.size + 1 := by simp
          have hh := Go.heap_alloc_new (wr.alloc (.cells #[.int .i64 x.1, .int .i64 x.2.1, .string x.2.2] 36)).drew (.cells #[.int .i64 x.1, .int .i64 x.2.1, .string x.2.2] 36)
          rw [hs] at hh
          rw [Addr.add_lit, cell_of_row _ _ _ _ _ _ hh, Nat.zero_add]
          unfold ctok at hj
          rw [← List.getElem?_toArray] at hj
          exact hj
        have hn1 : Hid (∀ u ∈ ctok x, u.oneCell' = true) := by intro u hu; simp [ctok] at hu; rcases hu with rfl | rfl | rfl <;> rfl
        have hb1 : Hid (C.length + 1 ≤ maxLen) := by show _ ≤ _; unfold maxLen; omega
        have hb2 : Hid ((C.length + 1) * 32 ≤ 140737488355328) := by show _ ≤ _; omega
        have hb3 : Hid (B ≤ ((wr.alloc (.cells #[.int .i64 x.1, .int .i64 x.2.1, .string x.2.2] 36)).drew.alloc (.cells #[.int .i64 x.1, .int .i64 x.2.1, .string x.2.2] 36)).heap.size) := by show _ ≤ _; simp; omega
        have q7b : Hid (v.ownBlock ≠ some g) := q6
        have q10b : Hid (g < ((wr.alloc (.cells #[.int .i64 x.1, .int .i64 x.2.1, .string x.2.2] 36)).drew.alloc (.cells #[.int .i64 x.1, .int .i64 x.2.1, .string x.2.2] 36)).heap.size) := by show _ < _; simp at q10 ⊢; omega
        have q11c : ((wr.alloc (.cells #[.int .i64 x.1, .int .i64 x.2.1, .string x.2.2] 36)).alloc (.cells #[.int .i64 x.1, .int .i64 x.2.1, .string x.2.2] 36)).cell? ⟨g, O.length, none⟩ = some v := q11b
        have hix : (O.length : Int) < (O.length : Int) + 1 := by omega
        go_region_law (refine step_append_id rfl (.tmp 31) (.tmp 33) 29 rfl B 36 i2 (.agg #[.int .i64 0, .int .i64 0, .string ByteArray.empty]) 3 32 Tryd.underlying29 hi2 hz20 hz21 hz22 rfl (by decide) v C.length (C.flatMap ctok) (by simp [Act.eval]) q6b.out ⟨wr.heap.size + 1, 0, none⟩ 1 1 (ctok x) (by simp [Act.eval]) rfl hn.out hn1.out hb1.out hb2.out hb3.out ?_; intro v' w' hown hgrow hid; obtain ⟨g2, c2, rfl, f1, f2⟩ := grow_facts hgrow q7b.out q10b.out q11b q12b.out hown)
        all_goals
          have hG := Parts.grow (cv := ctok) (w := ((wr.alloc (.cells #[.int .i64 x.1, .int .i64 x.2.1, .string x.2.2] 36)).alloc (.cells #[.int .i64 x.1, .int .i64 x.2.1, .string x.2.2] 36)).drew) (ps := O) (p := C) (t := x) (World.ownsRow.drew (q1.alloc _)) (fun j q u h1 h2 => World.ownsRow.drew ((q2 j q u h1 h2).alloc _)) q3 q4 hown hgrow hid rfl
          have hRR := rests_set hR (wr := wr) (W := ((wr.alloc (.cells #[.int .i64 x.1, .int .i64 x.2.1, .string x.2.2] 36)).alloc (.cells #[.int .i64 x.1, .int .i64 x.2.1, .string x.2.2] 36)).drew) (by simp; omega) (fun j hj => (Below.heap_alloc _ _ _ (by simp; omega)).trans (Below.heap_alloc _ _ _ hj)) rfl rfl rfl hgrow (fun b hb => by have := q5.lt b hb; omega) ⟨g, O.length, none⟩ (.slice (some ⟨g2, 0, none⟩) (C.length + 1) c2) (by show w.heap.size ≤ g; omega)
          clear hgrow hown hid q11a q11b q11c f1 f2 q12b q6b hn hb3 q10b q7b
          go_wp2
          go_roundw
          case rel =>
            refine ⟨k + 1, O, C ++ [x], by omega, by simp, by omega, by simp; omega, hRR, hG, ?_⟩
            rw [hS, List.drop_eq_getElem_cons hkl, splitG, if_neg (by rw [List.getElem?_eq_getElem hkl] at hx; cases hx; exact hbar)]
            rw [List.getElem?_eq_getElem hkl] at hx
            cases hx
            rfl
          case measure => simp [Go.RowKit.intOf]; omega
    · go_wp2
      go_ret
      have : k = l.length := by omega
      subst this
      rw [List.drop_length] at hS
      rw [hS]
      have hB : B = w.heap.size := by omega
      subst hB
      exact ⟨_, rfl, hR, hP⟩
theorem split_empty (a : Option Addr) (cap : Nat) (w : World) : Calls Tryd.prog 14 #[.slice a 0 cap] w fun e w' => e = .returned (.slice none 0 0) ∧ w' = w := by
  go_enter Tryd.func14, Tryd.ntmps14
  go_wp2
  go_ret
  exact ⟨rfl, rfl⟩
theorem rows_Split.does {l0 : List Tok} {r : List (List Tok)} (h : rows_Split.f l0 = some r) :
    Does Tryd.prog 14 [.c (.d (fr 3 dtok (0, 0, ByteArray.empty) l0))] [] (.c (.d (fr 1 (fun p => [fr 3 dtok (0, 0, ByteArray.empty) p]) [] r))) none [] := by
  unfold rows_Split.f at h
  obtain ⟨hl, h⟩ := ifp h
  obtain ⟨c, hc⟩ := Option.isSome_iff_exists.1 (show Tryd.f14.body.isSome = true from rfl)
  refine does_fresh ⟨Tryd.f14, c, Tryd.func14, by kernel_rfl, hc⟩ (by simp) fun w F args hr => ?_
  obtain ⟨v, rfl, h2⟩ := tsrel_one hr
  rw [TRel] at h2
  have h3 : DRel w F (.fro 3 l0.length (enc dtok (0, 0, ByteArray.empty) l0)) v := h2
  rcases drel_cells (by decide) h3 with ⟨h0, a, cap, rfl⟩ | ⟨h0, b, o, cap, cell, rfl, hcap, hb, _, hcell⟩
  · have : l0 = [] := List.eq_nil_of_length_eq_zero h0
    subst this
    rw [if_pos rfl] at h
    obtain rfl := Option.some.inj h
    refine (split_empty a cap w).mono ?_
    rintro e w' ⟨rfl, rfl⟩
    refine ⟨_, rfl, Rests.rfl, fun _ _ _ => ?_⟩
    rw [TRel]
    exact .fro0 _ _ _ _
  · rw [if_neg (by intro e; subst e; simp at h0)] at h
    obtain rfl := Option.some.inj h
    refine (split_walk l0 w hl b o cap hcap hb h0 fun j x hx => ?_).mono ?_
    · have hj := (List.getElem?_eq_some_iff.1 hx).1
      have he : enc dtok (0, 0, ByteArray.empty) l0 j = dtok x := by unfold enc; rw [List.getD_eq_getElem?_getD, hx]; rfl
      have e0 := hcell j 0 (.int .i64 x.1) hj (by rw [he]; rfl)
      have e1 := hcell j 1 (.int .i64 x.2.1) hj (by rw [he]; rfl)
      have e2 := hcell j 2 (.str x.2.2) hj (by rw [he]; rfl)
      refine ⟨?_, ?_, ?_⟩
      · have := e0.2; revert e0; generalize cell j 0 = u at *; cases this; exact fun e => e.1
      · have := e1.2; revert e1; generalize cell j 1 = u at *; cases this; exact fun e => e.1
      · have := e2.2; revert e2; generalize cell j 2 = u at *; cases this; exact fun e => e.1
    · rintro e w' ⟨v, rfl, hR, hP⟩
      refine ⟨v, rfl, hR, fun _ _ _ => ?_⟩
      rw [TRel]
      refine Parts.drel (c := dtok) (d := (0, 0, ByteArray.empty)) (C := fun p => [fr 3 dtok (0, 0, ByteArray.empty) p]) (fun _ => rfl) (fun b h1 h2 => .inr ⟨h1, h2⟩) (fun _ => rfl) (fun _ => rfl) (fun x i dd u h1 h2 => ?_) hP
      match i, h1, h2 with
      | 0, h1, h2 => simp [dtok, ctok] at h1 h2; subst h1 h2; exact .int _ _
      | 1, h1, h2 => simp [dtok, ctok] at h1 h2; subst h1 h2; exact .int _ _
      | 2, h1, h2 => simp [dtok, ctok] at h1 h2; subst h1 h2; exact .str _

abbrev CellT := Bool × Bool × List Int × List Int
def cu64 (x : Int) : List Dat := [.int .u64 x]
def dcell (x : CellT) : List Dat := [.bool x.1, .bool x.2.1, fr 1 cu64 0 x.2.2.1, fr 1 cu64 0 x.2.2.2]
set_option maxHeartbeats 4000000 in
set_option maxRecDepth 100000 in
theorem with_walk (w : World) (b o cap n i : Nat) (cs : List Value) (hn : cs.length = n * 4) (hb : b < w.heap.size) (hc : ∀ j u, cs[j]? = some u → w.cell? ⟨b, o + j, none⟩ = some u) (h1 : ∀ u ∈ cs, u.oneCell' = true) (hi : i < n) (hbd : n ≤ 4398046511104)
    (m0 m1 : Bool) (p2 p3 : Option Addr) (l2 c2 l3 c3 : Nat) :
    Calls Tryd.prog 17 #[.slice (some ⟨b, o, none⟩) n cap, .int .i64 i, .agg #[.bool m0, .bool m1, .slice p2 l2 c2, .slice p3 l3 c3]] w fun e w' => ∃ v, e = .returned (.tuple #[v, .int .i64 0]) ∧ Rests w w' ∧
      w'.ownsRow w.heap.size 48 4 v n ((((cs.set (i * 4) (.bool m0)).set (i * 4 + 1) (.bool m1)).set (i * 4 + 2) (.slice p2 l2 c2)).set (i * 4 + 3) (.slice p3 l3 c3)) := by
  obtain ⟨i1, hi1, hz10, hz11, hz12⟩ := info_parts (show (Tryd.prog.info? 48).map (fun i => (i.zero, i.size, i.bytes)) = some (some (.agg #[.bool false, .bool false, .slice none 0 0, .slice none 0 0]), 4, 64) by kernel_rfl)
  obtain ⟨B, hB, hB2⟩ : ∃ B, B ≤ w.heap.size ∧ w.heap.size ≤ B := ⟨_, Nat.le_refl _, Nat.le_refl _⟩
  have q1 : ¬ ((i : Int) < 0) := by omega
  have q2 : ¬ ((i : Int) ≥ (n : Int)) := by omega
  have hB3 : B ≤ (w.alloc (.cells #[.bool m0, .bool m1, .slice p2 l2 c2, .slice p3 l3 c3] 48)).heap.size := by simp; omega
  have hmk : i1.bytes * n ≤ 281474976710656 := by rw [hz12]; omega
  have hml : n ≤ maxLen := by unfold maxLen; omega
  go_enter Tryd.func17, Tryd.ntmps17
  go_wp2_with (refine wpList_make_full _ rfl (.tmp 18) (.tmp 18) 22 rfl B 48 i1 _ 4 Tryd.underlying22 hi1 hz10 hz11 .i64 .i64 (n : Int) (n : Int) n rfl rfl rfl rfl hmk hml hB3 ?_)
  intro w1 hown hg1
  have hs1 : (w.alloc (.cells #[.bool m0, .bool m1, .slice p2 l2 c2, .slice p3 l3 c3] 48)).heap.size = w.heap.size + 1 := by simp
  have hold1 : ∀ k, k < w.heap.size → w1.heap[k]? = w.heap[k]? := fun k hk => (hg1.block k (by omega) (by simp)).trans (Below.heap_alloc _ _ _ hk)
  have hc1 : ∀ j u, cs[j]? = some u → w1.cell? ((⟨b, o, none⟩ : Addr).add j) = some u := fun j u hu => by
    rw [Addr.add_lit, World.cell?_of_block (hold1 b hb)]; exact hc j u hu
  have hbox : w1.heap[w.heap.size]? = some (.cells #[.bool m0, .bool m1, .slice p2 l2 c2, .slice p3 l3 c3] 48 (0, 0)) := (hg1.block _ (by omega) (by simp)).trans (Go.heap_alloc_new w _)
  have hf1 : w1.os = w.os ∧ w1.tape = w.tape ∧ w1.output = w.output ∧ w.heap.size + 1 ≤ w1.heap.size := ⟨hg1.os, hg1.tape, hg1.output, by have := hg1.size; omega⟩
  clear hg1
  obtain ⟨G, hG, hG1, hG2⟩ : ∃ G, w.heap.size + 1 = G ∧ w.heap.size < G ∧ B ≤ G := ⟨_, rfl, by omega, by omega⟩
  rw [hG] at hown ⊢
  clear hG hB3
  have hX : ∀ (ops : Array Oper) (rest : List Oper) (o' : Oper) (a : Act) (Q : Exit → Act → World → Prop), o'.guard = none → o'.op = .call { callee := .builtin .copy, args := #[.tmp 20, .tmp 21], argTypes := #[22, 22] } → a.eval (.tmp 20) = .slice (some ⟨G, 0, none⟩) n n → a.eval (.tmp 21) = .slice (some ⟨b, o, none⟩) n cap → (∀ w', w'.ownsRow B 48 4 (.slice (some ⟨G, 0, none⟩) n n) n cs → w1.grownBy w' (some G) → wpList Tryd.prog ops Q rest (a.put o'.dst (.int .i64 n)) w') → wpList Tryd.prog ops Q (o' :: rest) a w1 := fun ops rest o' a Q g1 g2 g3 g4 g5 => wpList_copy_whole g1 (.tmp 20) (.tmp 21) 22 g2 B 48 4 G n i1 _ cs Tryd.underlying22 hi1 hz11 g3 hown ⟨b, o, none⟩ cap g4 hn hc1 h1 g5
  go_wp2_with (refine hX _ _ _ _ _ rfl rfl rfl rfl ?_)
  intro w2 hown2 hg2
  have hold2 : ∀ k, k < w.heap.size → w2.heap[k]? = w.heap[k]? := fun k hk => (hg2.block k (by omega) (by simp; omega)).trans (hold1 k hk)
  have hbox2 : w2.heap[w.heap.size]? = some (.cells #[.bool m0, .bool m1, .slice p2 l2 c2, .slice p3 l3 c3] 48 (0, 0)) := (hg2.block _ (by omega) (by simp; omega)).trans hbox
  have hf2 : w2.os = w.os ∧ w2.tape = w.tape ∧ w2.output = w.output ∧ w.heap.size + 1 ≤ w2.heap.size := ⟨hg2.os.trans hf1.1, hg2.tape.trans hf1.2.1, hg2.output.trans hf1.2.2.1, by have := hg2.size; omega⟩
  have b0 : w2.cell? ⟨w.heap.size, 0, none⟩ = some (.bool m0) := by rw [cell_of_row _ _ _ _ _ _ hbox2]; rfl
  have b1 : w2.cell? ⟨w.heap.size, 1, none⟩ = some (.bool m1) := by rw [cell_of_row _ _ _ _ _ _ hbox2]; rfl
  have b2 : w2.cell? ⟨w.heap.size, 2, none⟩ = some (.slice p2 l2 c2) := by rw [cell_of_row _ _ _ _ _ _ hbox2]; rfl
  have b3 : w2.cell? ⟨w.heap.size, 3, none⟩ = some (.slice p3 l3 c3) := by rw [cell_of_row _ _ _ _ _ _ hbox2]; rfl
  obtain ⟨u0, e0, f0⟩ := own_cell hown2 (k := i * 4) (by omega)
  obtain ⟨u1, e1, f1⟩ := own_cell hown2 (k := i * 4 + 1) (by omega)
  obtain ⟨u2, e2, f2⟩ := own_cell hown2 (k := i * 4 + 2) (by omega)
  obtain ⟨u3, e3, f3⟩ := own_cell hown2 (k := i * 4 + 3) (by omega)
  have hR := own_set (.slice p3 l3 c3) (own_set (.slice p2 l2 c2) (own_set (.bool m1) (own_set (.bool m0) hown2 (k := i * 4) (by omega)) (k := i * 4 + 1) (by simp; omega)) (k := i * 4 + 2) (by simp; omega)) (k := i * 4 + 3) (by simp; omega)
  have hold3 : ∀ k, k < w.heap.size → ((((w2.setCell ⟨G, i * 4, none⟩ (.bool m0)).setCell ⟨G, i * 4 + 1, none⟩ (.bool m1)).setCell ⟨G, i * 4 + 2, none⟩ (.slice p2 l2 c2)).setCell ⟨G, i * 4 + 3, none⟩ (.slice p3 l3 c3)).heap[k]? = w.heap[k]? := fun k hk => by
    rw [Below.heap_setCell _ _ _ _ (by show k ≠ G; omega), Below.heap_setCell _ _ _ _ (by show k ≠ G; omega), Below.heap_setCell _ _ _ _ (by show k ≠ G; omega), Below.heap_setCell _ _ _ _ (by show k ≠ G; omega)]
    exact hold2 k hk
  have hsz3 : ((((w2.setCell ⟨G, i * 4, none⟩ (.bool m0)).setCell ⟨G, i * 4 + 1, none⟩ (.bool m1)).setCell ⟨G, i * 4 + 2, none⟩ (.slice p2 l2 c2)).setCell ⟨G, i * 4 + 3, none⟩ (.slice p3 l3 c3)).heap.size = w2.heap.size := by simp [World.setCell]
  clear hX hown2 hown hg2 hold1 hc1 hold2 hbox hbox2
  go_wp2
  go_ret2
  have hB4 : B = w.heap.size := by omega
  subst hB4
  exact ⟨_, rfl, ⟨hf2.1, hf2.2.1, hf2.2.2.1, by rw [hsz3]; omega, hold3⟩, hR⟩
set_option maxRecDepth 100000 in
theorem with_out (w : World) (a : Option Addr) (n cap : Nat) (i : Int) (h : i < 0 ∨ (n : Int) ≤ i) (m0 m1 : Bool) (p2 p3 : Option Addr) (l2 c2 l3 c3 : Nat) :
    Calls Tryd.prog 17 #[.slice a n cap, .int .i64 i, .agg #[.bool m0, .bool m1, .slice p2 l2 c2, .slice p3 l3 c3]] w fun e w' => e = .returned (.tuple #[.slice none 0 0, .int .i64 8]) ∧ Rests w w' := by
  have hR : Rests w (w.alloc (.cells #[.bool m0, .bool m1, .slice p2 l2 c2, .slice p3 l3 c3] 48)) := ⟨rfl, rfl, rfl, by simp, fun k hk => Below.heap_alloc w _ _ hk⟩
  by_cases h0 : i < 0
  · go_enter Tryd.func17, Tryd.ntmps17
    go_wp2
    go_ret2
    exact ⟨rfl, hR⟩
  · have h1 : (n : Int) ≤ i := h.elim (fun h => absurd h h0) id
    go_enter Tryd.func17, Tryd.ntmps17
    go_wp2
    go_ret2
    exact ⟨rfl, hR⟩
theorem with_data {w w' : World} {F F' : Nat → Prop} {l : List CellT} {i : Nat} {x : CellT} {cs : List Value} {v0 v1 v2 v3 : Value} {v : Value} {base eT : Nat} (hF : ∀ b, F b → F' b ∧ w'.heap[b]? = w.heap[b]?) (hF2 : ∀ b, base ≤ b → b < w'.heap.size → F' b)
    (hs : ∀ j, j < l.length → (enc dcell (false, false, [], []) l j).length = 4 ∧ ∀ k d, (enc dcell (false, false, [], []) l j)[k]? = some d → ∃ u, cs[j * 4 + k]? = some u ∧ DRel w F d u) (hl : cs.length = l.length * 4)
    (r0 : DRel w F (.bool x.1) v0) (r1 : DRel w F (.bool x.2.1) v1) (r2 : DRel w F (fr 1 cu64 0 x.2.2.1) v2) (r3 : DRel w F (fr 1 cu64 0 x.2.2.2) v3) (hi : i < l.length) (hne : v ≠ .slice none 0 0)
    (h : w'.ownsRow base eT 4 v l.length ((((cs.set (i * 4) v0).set (i * 4 + 1) v1).set (i * 4 + 2) v2).set (i * 4 + 3) v3)) : DRel w' F' (fr 4 dcell (false, false, [], []) (l.set i x)) v := by
  rcases h.2 with ⟨h0, _⟩ | ⟨g, cap, cur, rfl, hbg, hg, hnc, hcm, hcs, htake⟩
  · exact absurd h0 hne
  have hat := h.cells (g := g) rfl
  obtain ⟨ys, hy⟩ : ∃ ys, ys = (((cs.set (i * 4) v0).set (i * 4 + 1) v1).set (i * 4 + 2) v2).set (i * 4 + 3) v3 := ⟨_, rfl⟩
  rw [← hy] at hat
  have hyl : ys.length = l.length * 4 := by rw [hy]; simpa using hl
  have hyo : ∀ j k, j ≠ i → k < 4 → ys[j * 4 + k]? = cs[j * 4 + k]? := fun j k hj hk => by
    rw [hy, List.getElem?_set_ne (by omega), List.getElem?_set_ne (by omega), List.getElem?_set_ne (by omega), List.getElem?_set_ne (by omega)]
  have y0 : ys[i * 4]? = some v0 := by
    rw [hy, List.getElem?_set_ne (by omega), List.getElem?_set_ne (by omega), List.getElem?_set_ne (by omega), List.getElem?_set_self (by omega)]
  have y1 : ys[i * 4 + 1]? = some v1 := by
    rw [hy, List.getElem?_set_ne (by omega), List.getElem?_set_ne (by omega), List.getElem?_set_self (by simp; omega)]
  have y2 : ys[i * 4 + 2]? = some v2 := by
    rw [hy, List.getElem?_set_ne (by omega), List.getElem?_set_self (by simp; omega)]
  have y3 : ys[i * 4 + 3]? = some v3 := by
    rw [hy, List.getElem?_set_self (by simp; omega)]
  have hall : ∀ j k d, j < l.length → (enc dcell (false, false, [], []) (l.set i x) j)[k]? = some d → ∃ u, ys[j * 4 + k]? = some u ∧ DRel w F d u := fun j k d hj hd => by
    by_cases e : j = i
    · subst e
      have he : enc dcell (false, false, [], []) (l.set j x) j = dcell x := by unfold enc; rw [List.getD_eq_getElem?_getD, List.getElem?_set_self hj]; rfl
      rw [he] at hd
      match k, hd with
      | 0, hd => simp [dcell] at hd; subst hd; exact ⟨v0, y0, r0⟩
      | 1, hd => simp [dcell] at hd; subst hd; exact ⟨v1, y1, r1⟩
      | 2, hd => simp [dcell] at hd; subst hd; exact ⟨v2, y2, r2⟩
      | 3, hd => simp [dcell] at hd; subst hd; exact ⟨v3, y3, r3⟩
    · have he : enc dcell (false, false, [], []) (l.set i x) j = enc dcell (false, false, [], []) l j := by unfold enc; rw [List.getD_eq_getElem?_getD, List.getD_eq_getElem?_getD, List.getElem?_set_ne (Ne.symm e)]
      rw [he] at hd
      have hk : k < 4 := by
        have := (List.getElem?_eq_some_iff.1 hd).1
        rw [(hs j hj).1] at this
        exact this
      obtain ⟨u, hu, hr⟩ := (hs j hj).2 k d hd
      exact ⟨u, by rw [hyo j k e hk]; exact hu, hr⟩
  unfold fr
  rw [List.length_set]
  refine .fro 4 l.length _ ⟨g, 0, none⟩ cap (fun j k => ys.getD (j * 4 + k) undef) (hF2 g hbg (Array.getElem?_eq_some_iff.1 hg).1) hnc (fun j hj => rfl) (fun j k hj hk => ?_) fun j k d hj hd => ?_
  · have hlt : j * 4 + k < ys.length := by rw [hyl]; omega
    rw [hat _ _ (List.getElem?_eq_getElem hlt), List.getD_eq_getElem?_getD, List.getElem?_eq_getElem hlt]
    rfl
  · obtain ⟨u, hu, hr⟩ := hall j k d hj hd
    rw [List.getD_eq_getElem?_getD, hu]
    exact hr.mono hF
set_option maxRecDepth 100000 in
theorem rows_With.does {l0 : List CellT} {a1 : Int} {a2_0 a2_1 : Bool} {l2_2 l2_3 : List Int} {r : List CellT × Int} (h : rows_With.f l0 a1 a2_0 a2_1 l2_2 l2_3 = some r) :
    Does Tryd.prog 17 [.c (.d (fr 4 dcell (false, false, [], []) l0)), .c (.d (.int .i64 a1)), .agg [.d (.bool a2_0), .d (.bool a2_1), .d (fr 1 cu64 0 l2_2), .d (fr 1 cu64 0 l2_3)]] [] (.tup [.c (.d (fr 4 dcell (false, false, [], []) r.1)), .c (.d (.int .i64 r.2))]) none [] := by
  unfold rows_With.f at h
  obtain ⟨c, hc⟩ := Option.isSome_iff_exists.1 (show Tryd.f17.body.isSome = true from rfl)
  refine does_fresh2 ⟨Tryd.f17, c, Tryd.func17, by kernel_rfl, hc⟩ (fun x hx => ?_) fun w F args hr => ?_
  · simp only [List.mem_cons, List.not_mem_nil, or_false] at hx
    rcases hx with rfl | rfl | rfl
    · trivial
    · trivial
    · intro c hc
      simp only [List.mem_cons, List.not_mem_nil, or_false] at hc
      rcases hc with rfl | rfl | rfl | rfl
      · exact ⟨_, rfl⟩
      · exact ⟨_, rfl⟩
      · exact ⟨_, rfl⟩
      · exact ⟨_, rfl⟩
  obtain ⟨v, u, t, rfl, t1, t2, t3⟩ := tsrel_three hr
  rw [TRel] at t1
  rw [TRel] at t2
  rw [TRel.eq_def] at t3
  obtain ⟨vs, rfl, t4, _⟩ := t3
  have t2' : DRel w F (.int .i64 a1) u := t2
  cases t2'
  have t1' : DRel w F (.fro 4 l0.length (enc dcell (false, false, [], []) l0)) v := t1
  obtain ⟨ws, rfl⟩ : ∃ ws : List Value, vs = ws.toArray := ⟨vs.toList, by simp⟩
  match ws, t4 with
  | [v0, v1, v2, v3], t4 =>
    obtain ⟨r0, r1, r2, r3, _⟩ := t4
    have r0' : DRel w F (.bool a2_0) v0 := r0
    have r1' : DRel w F (.bool a2_1) v1 := r1
    have r2' : DRel w F (.fro 1 l2_2.length (enc cu64 0 l2_2)) v2 := r2
    have r3' : DRel w F (.fro 1 l2_3.length (enc cu64 0 l2_3)) v3 := r3
    obtain ⟨p2, n2, k2, rfl⟩ := fro_slc r2'
    obtain ⟨p3, n3, k3, rfl⟩ := fro_slc r3'
    cases r0'
    cases r1'
    by_cases h0 : a1 < 0 ∨ (l0.length : Int) ≤ a1
    · rw [if_pos h0] at h
      obtain rfl := Option.some.inj h
      obtain ⟨a, cap, rfl⟩ : ∃ a cap, v = .slice a l0.length cap := by
        generalize hn : l0.length = n at t1'
        cases t1'
        · exact ⟨_, _, rfl⟩
        · exact ⟨_, _, rfl⟩
      refine (with_out w a l0.length cap a1 h0 a2_0 a2_1 p2 p3 n2 k2 n3 k3).mono ?_
      rintro e w' ⟨rfl, hR⟩
      refine ⟨_, rfl, hR, fun β' ob' _ => ?_⟩
      rw [TRel]
      refine ⟨_, rfl, tsrel_cons_mk ?_ (tsrel_cons_mk ?_ tsrel_nil_mk)⟩
      · rw [TRel]; exact .fro0 _ _ _ _
      · rw [TRel]; exact .int _ _
    · rw [if_neg h0] at h
      obtain ⟨hbd, h⟩ := ifp h
      obtain rfl := Option.some.inj h
      obtain ⟨i, rfl⟩ : ∃ i : Nat, a1 = (i : Int) := ⟨a1.toNat, by omega⟩
      have hi : i < l0.length := by omega
      obtain ⟨news, S⟩ := src_fro (by decide) t1'
      rcases S.at_ with ⟨A, cap, rfl, hat⟩ | ⟨e, _⟩
      · obtain ⟨u0, g0, _⟩ := (S.get 0 (by omega)).2 0 _ rfl
        have hs := cell_spot (hat 0 u0 (by simpa using g0))
        obtain ⟨b, o, sp⟩ := A
        have hsp : sp = none := by
          have e : (Addr.add ⟨b, o, sp⟩ 0) = ⟨b, o, sp⟩ := by simp [Addr.add]
          rw [e] at hs
          exact hs.1
        subst hsp
        rw [Addr.add_lit] at hs
        refine (with_walk w b o cap l0.length i news S.len hs.2 (fun j u hu => by have := hat j u hu; rwa [Addr.add_lit] at this) S.one hi hbd a2_0 a2_1 p2 p3 n2 k2 n3 k3).mono ?_
        rintro e w' ⟨v, rfl, hR, hown⟩
        refine ⟨_, rfl, hR, fun β' ob' hF => ?_⟩
        rw [TRel]
        refine ⟨_, rfl, tsrel_cons_mk ?_ (tsrel_cons_mk ?_ tsrel_nil_mk)⟩
        · rw [TRel]
          exact with_data (x := (a2_0, a2_1, l2_2, l2_3)) (fun b hb => ⟨.inl hb, hF b hb⟩) (fun b h1 h2 => .inr ⟨h1, h2⟩) S.get S.len (.bool _) (.bool _) r2 r3 hi (fun e => by
            rw [e] at hown
            rcases hown.2 with ⟨_, h⟩ | ⟨_, _, _, h, _⟩
            · omega
            · cases h) hown
        · rw [TRel]; exact .int _ _
      · omega

end Go.DI
