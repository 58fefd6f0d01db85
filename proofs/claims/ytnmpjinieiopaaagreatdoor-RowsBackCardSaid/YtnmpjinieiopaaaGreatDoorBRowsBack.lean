/- What methods of the library do, told. No condition. -/
import Derived.Test.YtnmpjinieiopaaaGreatDoorDIc
import Derived.Test.YtnmpjinieiopaaaGreatDoorFn
import Derived.Test.YtnmpjinieiopaaaGreatDoorProg
import Derived.Test.YtnmpjinieiopaaaGreatDoorShfRowsBack
import Derived.ProofKit
import Derived.Laws.Externs
import Derived.Laws.Entries
set_option linter.all false
namespace Go.DI
open Go.Lib
open Go Go.RowKit Go.Proofs
set_option linter.unusedVariables false
instance : Tabs := ⟨[(1, tab_deBruijn64tab.map fun x => .int .u8 x)], 64, 5⟩
set_option maxHeartbeats 1000000 in
set_option maxRecDepth 100000 in
theorem idx_Byte (s : ByteArray) (c : Int) (w : World) :
    Calls Tryz.prog 95 #[.string s, .int .u8 c] w fun e w' => e = .returned (.int .i64 (fIdx s c.toNat.toUInt8)) ∧ Rests w w' := by
  go_enter Tryz.func95, Tryz.ntmps95
  go_wp2
  rw [run_callFunc_extern Tryz.func102 (by kernel_rfl) (by kernel_rfl) (by kernel_rfl) (e := Extern.BytealgIndexByte.indexByte) (by kernel_rfl)]
  rw [run_indexByte_string]
  simp only [Result.andThen]
  rw [Oper.upon_value]
  go_wp2
  go_ret
  exact ⟨rfl, Rests.rfl⟩
theorem stringslite_IndexByte.does {a0 : ByteArray} {a1 : Int} {r : Int} (h : stringslite_IndexByte.f a0 a1 = some r) :
    Does Tryz.prog 95 [.c (.d (.str a0)), .c (.d (.int .u8 a1))] [] (.c (.d (.int .i64 r))) none [] := by
  unfold stringslite_IndexByte.f at h
  obtain rfl := Option.some.inj h
  obtain ⟨c, hc⟩ := Option.isSome_iff_exists.1 (show Tryz.f95.body.isSome = true from rfl)
  refine does_data ⟨Tryz.f95, c, Tryz.func95, by kernel_rfl, hc⟩ (by simp) fun w F args hr => ?_
  obtain ⟨v, u, rfl, h1, h2⟩ := tsrel_two hr
  rw [TRel] at h1 h2
  cases h1
  cases h2
  refine (idx_Byte a0 a1 w).mono ?_
  rintro e w' ⟨rfl, h1⟩
  refine ⟨_, rfl, h1, fun _ _ _ _ => ?_⟩
  rw [TRel]
  exact .int _ _

theorem strings_Join.does {l0 : List ByteArray} {a1 : ByteArray} {r : ByteArray} (h : strings_Join.f l0 a1 = some r) :
    Does Tryz.prog 17 [.c (.d (fr 1 (fun x => [.str x]) ByteArray.empty l0)), .c (.d (.str a1))] [] (.c (.d (.str r))) none [] := by
  unfold strings_Join.f at h
  obtain ⟨h1, h⟩ := ifp h
  obtain rfl := Option.some.inj h
  obtain ⟨c, hc⟩ := Option.isSome_iff_exists.1 (show Tryz.f17.body.isSome = true from rfl)
  refine does_data ⟨Tryz.f17, c, Tryz.func17, by kernel_rfl, hc⟩ (by simp) fun w F args hr => ?_
  obtain ⟨v, u, rfl, h2, h3⟩ := tsrel_two hr
  rw [TRel] at h2 h3
  simp only [CRel] at h2
  cases h3
  rcases drel_strs (fun j => rfl) h2 with ⟨rfl, a, cap, rfl⟩ | ⟨b, o, cap, rfl, hcap, hb, hcells⟩
  · refine (Any.strings_Join_none Tryz.lays156 Tryz.Builder_Extra_156 a cap a1 w).mono ?_
    rintro e w' ⟨rfl, rfl⟩
    refine ⟨_, rfl, Rests.rfl, fun _ _ _ _ => ?_⟩
    rw [TRel]
    exact .str _
  · refine (Any.strings_Join Tryz.lays156 Tryz.Builder_Extra_156 b o cap l0 a1 w hcells hb h1.1 hcap h1.2).mono ?_
    rintro e w' ⟨rfl, hb⟩
    refine ⟨_, rfl, .of_below hb, fun _ _ _ _ => ?_⟩
    rw [TRel]
    exact .str _

abbrev Tok := Int × Int × ByteArray
def ctok (x : Tok) : List Value := [.int .i64 x.1, .int .i64 x.2.1, .string x.2.2]
def dtok (x : Tok) : List Dat := [.int .i64 x.1, .int .i64 x.2.1, .str x.2.2]
set_option maxHeartbeats 8000000 in
set_option maxRecDepth 100000 in
theorem split_walk (l : List Tok) (w : World) (hl : l.length ≤ 1099511627776) (b o cap : Nat) (hcap : l.length ≤ cap) (hb : b < w.heap.size) (h0 : 0 < l.length)
    (hc : ∀ (j : Nat) (x : Tok), l[j]? = some x → w.cell? ⟨b, o + j * 3, none⟩ = some (.int .i64 x.1) ∧ w.cell? ⟨b, o + j * 3 + 1, none⟩ = some (.int .i64 x.2.1) ∧ w.cell? ⟨b, o + j * 3 + 2, none⟩ = some (.string x.2.2)) :
    Calls Tryz.prog 18 #[.slice (some ⟨b, o, none⟩) l.length cap] w fun e w' => ∃ v, e = .returned v ∧ Rests w w' ∧ Parts ctok w' w.heap.size 45 57 3 v (splitG [] [] l) := by
  obtain ⟨B, hB, hB2⟩ : ∃ B, B ≤ w.heap.size ∧ w.heap.size ≤ B := ⟨_, Nat.le_refl _, Nat.le_refl _⟩
  have hne : ((l.length : Int) == 0) = false := by simp; intro e; subst e; simp at h0
  go_enter Tryz.func18, Tryz.ntmps18
  go_wp2
  go_loopw [3, 13] (fun vo i wr => ∃ (k : Nat) (O : List (List Tok)) (C : List Tok), k ≤ l.length ∧ i = .int .i64 k ∧ O.length ≤ k ∧ C.length ≤ k ∧ Rests w wr ∧ Parts ctok wr B 45 57 3 vo (O ++ [C]) ∧ splitG [] [] l = splitG O C (l.drop k))
    (fun _ i _ => l.length - (Go.RowKit.intOf i).toNat)
  case atStart =>
    refine ⟨0, [], [], Nat.zero_le _, rfl, Nat.le_refl _, Nat.le_refl _, ⟨rfl, rfl, rfl, by simp, fun k hk => Below.heap_alloc w _ _ hk⟩, ?_, rfl⟩
    have hB : B = w.heap.size := by omega
    subst hB
    refine Parts.one (cap := 1) ⟨rfl, .inr ⟨w.heap.size, 1, _, rfl, Nat.le_refl _, heap_alloc_new w _, Nat.le_refl _, by unfold maxLen; omega, rfl, rfl⟩⟩
  case round =>
    obtain ⟨k, O, C, hk, rfl, hO, hC, hR, hP, hS⟩ := hrel
    obtain ⟨i1, hi1, hz10, hz11, hz12⟩ := info_parts (show (Tryz.prog.info? 45).map (fun i => (i.zero, i.size, i.bytes)) = some (some (.slice none 0 0), 1, 24) by kernel_rfl)
    obtain ⟨i2, hi2, hz20, hz21, hz22⟩ := info_parts (show (Tryz.prog.info? 57).map (fun i => (i.zero, i.size, i.bytes)) = some (some (.agg #[.int .i64 0, .int .i64 0, .string ByteArray.empty]), 3, 32) by kernel_rfl)
    by_cases hkl : k < l.length
    · obtain ⟨x, hx⟩ : ∃ x, l[k]? = some x := ⟨_, List.getElem?_eq_getElem hkl⟩
      obtain ⟨c1, c2, c3⟩ := hc k x hx
      have hbb : wr.heap[b]? = w.heap[b]? := hR.2.2.2.2 b hb
      have d1 : wr.cell? ⟨b, o + k * 3, none⟩ = some (.int .i64 x.1) := (World.cell?_of_block hbb).trans c1
      have d2 : wr.cell? ⟨b, o + k * 3 + 1, none⟩ = some (.int .i64 x.2.1) := (World.cell?_of_block hbb).trans c2
      have d3 : wr.cell? ⟨b, o + k * 3 + 2, none⟩ = some (.string x.2.2) := (World.cell?_of_block hbb).trans c3
      have hbw : w.heap.size ≤ wr.heap.size := hR.2.2.2.1
      by_cases hbar : x.2.2.toList = [124]
      · obtain ⟨vs, p1, p2, p3, p4⟩ := (hP.kept (World.grownBy_alloc wr (.cells #[.int .i64 x.1, .int .i64 x.2.1, .string x.2.2] 57) none)).kept (World.grownBy_alloc _ (.cells #[.slice none 0 0] 45) none)
        have hlen : (O ++ [C]).length = O.length + 1 := by simp
        rw [hlen] at p1
        have hn : ∀ (j : Nat) u, [Value.slice none 0 0][j]? = some u → ((wr.alloc (.cells #[.int .i64 x.1, .int .i64 x.2.1, .string x.2.2] 57)).alloc (.cells #[.slice none 0 0] 45)).cell? ((⟨wr.heap.size + 1, 0, none⟩ : Addr).add j) = some u := by
          intro j u hj
          match j, hj with
          | 0, hj => simp at hj; subst hj; simp [Addr.add]
        go_wp2_with (at_builtin; refine wpList_append_id rfl (.tmp 20) (.tmp 21) 52 rfl B 45 i1 (.slice none 0 0) 1 24 Tryz.underlying52 hi1 hz10 hz11 hz12 rfl (by decide) u3 (O.length + 1) vs rfl p1 ⟨wr.heap.size + 1, 0, none⟩ 1 1 [.slice none 0 0] rfl rfl hn (by intro u hu; simp at hu; subst hu; rfl) (by unfold maxLen; omega) (by omega) (by simp; omega) ?_)
        intro v' w' hown hgrow hid
        go_wp2
        go_roundw
        case rel =>
          refine ⟨k + 1, O ++ [C], [], by omega, by simp, by simp; omega, by simp, ?_, ?_, ?_⟩
          · refine rests_grown (W := (wr.alloc (.cells #[.int .i64 x.1, .int .i64 x.2.1, .string x.2.2] 57)).alloc (.cells #[.slice none 0 0] 45)) hR (by simp; omega) (fun j hj => (Below.heap_alloc _ _ _ (by simp; omega)).trans (Below.heap_alloc _ _ _ hj)) rfl rfl rfl hgrow (fun b hb => by have := p1.lt b hb; omega)
          · have := Parts.more (cv := ctok) (by rw [hlen]; exact p1) p2 p3 p4 (by rw [hlen]; exact hown) hgrow (by simpa using hid)
            exact this
          · rw [hS, List.drop_eq_getElem_cons hkl, splitG, if_pos (by rw [List.getElem?_eq_getElem hkl] at hx; cases hx; exact hbar)]
        case measure => simp [Go.RowKit.intOf]; omega
      · obtain ⟨g, cp, vs, v, rfl, q1, q2, q3, q4, q5, q6, q7, q8, q9, q10, q11, q12⟩ := (hP.kept (World.grownBy_alloc wr (.cells #[.int .i64 x.1, .int .i64 x.2.1, .string x.2.2] 57) none)).at
        clear hc
        have hlen : (O ++ [C]).length = O.length + 1 := by simp
        have hbar2 : (x.2.2.toList == [124]) = false := by simpa using hbar
        go_wp2_with fail
        have q11a : (wr.alloc (.cells #[.int .i64 x.1, .int .i64 x.2.1, .string x.2.2] 57)).drew.cell? ⟨g, O.length, none⟩ = some v := q11
        have q11b : ((wr.alloc (.cells #[.int .i64 x.1, .int .i64 x.2.1, .string x.2.2] 57)).drew.alloc (.cells #[.int .i64 x.1, .int .i64 x.2.1, .string x.2.2] 57)).cell? ⟨g, O.length, none⟩ = some v := by
          rw [World.cell?_of_block (Below.heap_alloc _ _ _ q10)]; exact q11
        have q12b : Hid (((wr.alloc (.cells #[.int .i64 x.1, .int .i64 x.2.1, .string x.2.2] 57)).drew.alloc (.cells #[.int .i64 x.1, .int .i64 x.2.1, .string x.2.2] 57)).frozen? ⟨g, O.length, none⟩ = false) := by
          show World.frozen? _ _ = _
          rw [World.frozen?_of_block (Below.heap_alloc _ _ _ q10)]; exact q12
        have q6b : Hid (((wr.alloc (.cells #[.int .i64 x.1, .int .i64 x.2.1, .string x.2.2] 57)).drew.alloc (.cells #[.int .i64 x.1, .int .i64 x.2.1, .string x.2.2] 57)).ownsRow B 57 3 v C.length (C.flatMap ctok)) := (World.ownsRow.drew q5).alloc _
        have hn : Hid (∀ (j : Nat) u, (ctok x)[j]? = some u → ((wr.alloc (.cells #[.int .i64 x.1, .int .i64 x.2.1, .string x.2.2] 57)).drew.alloc (.cells #[.int .i64 x.1, .int .i64 x.2.1, .string x.2.2] 57)).cell? ((⟨wr.heap.size + 1, 0, none⟩ : Addr).add j) = some u) := by
          intro j u hj
          have hs : (wr.alloc (.cells #[.int .i64 x.1, .int .i64 x.2.1, .string x.2.2] 57)).drew.heap.size = wr.heap.size + 1 := by simp
          have hh := Go.heap_alloc_new (wr.alloc (.cells #[.int .i64 x.1, .int .i64 x.2.1, .string x.2.2] 57)).drew (.cells #[.int .i64 x.1, .int .i64 x.2.1, .string x.2.2] 57)
          rw [hs] at hh
          rw [Addr.add_lit, cell_of_row _ _ _ _ _ _ hh, Nat.zero_add]
          unfold ctok at hj
          rw [← List.getElem?_toArray] at hj
          exact hj
        have hn1 : Hid (∀ u ∈ ctok x, u.oneCell' = true) := by intro u hu; simp [ctok] at hu; rcases hu with rfl | rfl | rfl <;> rfl
        have hb1 : Hid (C.length + 1 ≤ maxLen) := by show _ ≤ _; unfold maxLen; omega
        have hb2 : Hid ((C.length + 1) * 32 ≤ 140737488355328) := by show _ ≤ _; omega
        have hb3 : Hid (B ≤ ((wr.alloc (.cells #[.int .i64 x.1, .int .i64 x.2.1, .string x.2.2] 57)).drew.alloc (.cells #[.int .i64 x.1, .int .i64 x.2.1, .string x.2.2] 57)).heap.size) := by show _ ≤ _; simp; omega
        have q7b : Hid (v.ownBlock ≠ some g) := q6
        have q10b : Hid (g < ((wr.alloc (.cells #[.int .i64 x.1, .int .i64 x.2.1, .string x.2.2] 57)).drew.alloc (.cells #[.int .i64 x.1, .int .i64 x.2.1, .string x.2.2] 57)).heap.size) := by show _ < _; simp at q10 ⊢; omega
        have q11c : ((wr.alloc (.cells #[.int .i64 x.1, .int .i64 x.2.1, .string x.2.2] 57)).alloc (.cells #[.int .i64 x.1, .int .i64 x.2.1, .string x.2.2] 57)).cell? ⟨g, O.length, none⟩ = some v := q11b
        have hix : (O.length : Int) < (O.length : Int) + 1 := by omega
        go_region_law (refine step_append_id rfl (.tmp 31) (.tmp 33) 45 rfl B 57 i2 (.agg #[.int .i64 0, .int .i64 0, .string ByteArray.empty]) 3 32 Tryz.underlying45 hi2 hz20 hz21 hz22 rfl (by decide) v C.length (C.flatMap ctok) (by simp [Act.eval]) q6b.out ⟨wr.heap.size + 1, 0, none⟩ 1 1 (ctok x) (by simp [Act.eval]) rfl hn.out hn1.out hb1.out hb2.out hb3.out ?_; intro v' w' hown hgrow hid; obtain ⟨g2, c2, rfl, f1, f2⟩ := grow_facts hgrow q7b.out q10b.out q11b q12b.out hown)
        all_goals
          have hG := Parts.grow (cv := ctok) (w := ((wr.alloc (.cells #[.int .i64 x.1, .int .i64 x.2.1, .string x.2.2] 57)).alloc (.cells #[.int .i64 x.1, .int .i64 x.2.1, .string x.2.2] 57)).drew) (ps := O) (p := C) (t := x) (World.ownsRow.drew (q1.alloc _)) (fun j q u h1 h2 => World.ownsRow.drew ((q2 j q u h1 h2).alloc _)) q3 q4 hown hgrow hid rfl
          have hRR := rests_set hR (wr := wr) (W := ((wr.alloc (.cells #[.int .i64 x.1, .int .i64 x.2.1, .string x.2.2] 57)).alloc (.cells #[.int .i64 x.1, .int .i64 x.2.1, .string x.2.2] 57)).drew) (by simp; omega) (fun j hj => (Below.heap_alloc _ _ _ (by simp; omega)).trans (Below.heap_alloc _ _ _ hj)) rfl rfl rfl hgrow (fun b hb => by have := q5.lt b hb; omega) ⟨g, O.length, none⟩ (.slice (some ⟨g2, 0, none⟩) (C.length + 1) c2) (by show w.heap.size ≤ g; omega)
          clear hgrow hown hid q11a q11b q11c f1 f2 q12b q6b hn hb3 q10b q7b
          go_wp2
          go_roundw
          case rel =>
            refine ⟨k + 1, O, C ++ [x], by omega, by simp, by omega, by simp; omega, hRR, hG, ?_⟩
            rw [hS, List.drop_eq_getElem_cons hkl, splitG, if_neg (by rw [List.getElem?_eq_getElem hkl] at hx; cases hx; exact hbar)]
            rw [List.getElem?_eq_getElem hkl] at hx
            cases hx
            rfl
          case measure => simp [Go.RowKit.intOf]; omega
    · go_wp2
      go_ret
      have : k = l.length := by omega
      subst this
      rw [List.drop_length] at hS
      rw [hS]
      have hB : B = w.heap.size := by omega
      subst hB
      exact ⟨_, rfl, hR, hP⟩
theorem split_empty (a : Option Addr) (cap : Nat) (w : World) : Calls Tryz.prog 18 #[.slice a 0 cap] w fun e w' => e = .returned (.slice none 0 0) ∧ w' = w := by
  go_enter Tryz.func18, Tryz.ntmps18
  go_wp2
  go_ret
  exact ⟨rfl, rfl⟩
theorem rows_Split.does {l0 : List Tok} {r : List (List Tok)} (h : rows_Split.f l0 = some r) :
    Does Tryz.prog 18 [.c (.d (fr 3 dtok (0, 0, ByteArray.empty) l0))] [] (.c (.d (fr 1 (fun p => [fr 3 dtok (0, 0, ByteArray.empty) p]) [] r))) none [] := by
  unfold rows_Split.f at h
  obtain ⟨hl, h⟩ := ifp h
  obtain ⟨c, hc⟩ := Option.isSome_iff_exists.1 (show Tryz.f18.body.isSome = true from rfl)
  refine does_fresh ⟨Tryz.f18, c, Tryz.func18, by kernel_rfl, hc⟩ (by simp) fun w F args hr => ?_
  obtain ⟨v, rfl, h2⟩ := tsrel_one hr
  rw [TRel] at h2
  have h3 : DRel w F (.fro 3 l0.length (enc dtok (0, 0, ByteArray.empty) l0)) v := h2
  rcases drel_cells (by decide) h3 with ⟨h0, a, cap, rfl⟩ | ⟨h0, b, o, cap, cell, rfl, hcap, hb, _, hcell⟩
  · have : l0 = [] := List.eq_nil_of_length_eq_zero h0
    subst this
    rw [if_pos rfl] at h
    obtain rfl := Option.some.inj h
    refine (split_empty a cap w).mono ?_
    rintro e w' ⟨rfl, rfl⟩
    refine ⟨_, rfl, Rests.rfl, fun _ _ _ => ?_⟩
    rw [TRel]
    exact .fro0 _ _ _ _
  · rw [if_neg (by intro e; subst e; simp at h0)] at h
    obtain rfl := Option.some.inj h
    refine (split_walk l0 w hl b o cap hcap hb h0 fun j x hx => ?_).mono ?_
    · have hj := (List.getElem?_eq_some_iff.1 hx).1
      have he : enc dtok (0, 0, ByteArray.empty) l0 j = dtok x := by unfold enc; rw [List.getD_eq_getElem?_getD, hx]; rfl
      have e0 := hcell j 0 (.int .i64 x.1) hj (by rw [he]; rfl)
      have e1 := hcell j 1 (.int .i64 x.2.1) hj (by rw [he]; rfl)
      have e2 := hcell j 2 (.str x.2.2) hj (by rw [he]; rfl)
      refine ⟨?_, ?_, ?_⟩
      · have := e0.2; revert e0; generalize cell j 0 = u at *; cases this; exact fun e => e.1
      · have := e1.2; revert e1; generalize cell j 1 = u at *; cases this; exact fun e => e.1
      · have := e2.2; revert e2; generalize cell j 2 = u at *; cases this; exact fun e => e.1
    · rintro e w' ⟨v, rfl, hR, hP⟩
      refine ⟨v, rfl, hR, fun _ _ _ => ?_⟩
      rw [TRel]
      refine Parts.drel (c := dtok) (d := (0, 0, ByteArray.empty)) (C := fun p => [fr 3 dtok (0, 0, ByteArray.empty) p]) (fun _ => rfl) (fun b h1 h2 => .inr ⟨h1, h2⟩) (fun _ => rfl) (fun _ => rfl) (fun x i dd u h1 h2 => ?_) hP
      match i, h1, h2 with
      | 0, h1, h2 => simp [dtok, ctok] at h1 h2; subst h1 h2; exact .int _ _
      | 1, h1, h2 => simp [dtok, ctok] at h1 h2; subst h1 h2; exact .int _ _
      | 2, h1, h2 => simp [dtok, ctok] at h1 h2; subst h1 h2; exact .str _

end Go.DI
