/- What methods of the library do, told. No condition. -/
import Derived.Test.YtmnjjphdkjohpaaGreatDoorDIc
import Derived.Test.YtmnjjphdkjohpaaGreatDoorFn
import Derived.Test.YtmnjjphdkjohpaaGreatDoorProg
import Derived.Test.YtmnjjphdkjohpaaGreatDoorShfAskAgain
import Derived.ProofKit
import Derived.Laws.Externs
import Derived.Laws.Entries
set_option linter.all false
namespace Go.DI
open Go.Lib
open Go Go.RowKit Go.Proofs
set_option linter.unusedVariables false
instance : Tabs := ⟨[(1, tab_deBruijn64tab.map fun x => .int .u8 x)], 74, 5⟩
theorem strings_Join.does {l0 : List ByteArray} {a1 : ByteArray} {r : ByteArray} (h : strings_Join.f l0 a1 = some r) :
    Does Tryz.prog 19 [.c (.d (fr 1 (fun x => [.str x]) ByteArray.empty l0)), .c (.d (.str a1))] [] (.c (.d (.str r))) none [] := by
  unfold strings_Join.f at h
  obtain ⟨h1, h⟩ := ifp h
  obtain rfl := Option.some.inj h
  obtain ⟨c, hc⟩ := Option.isSome_iff_exists.1 (show Tryz.f19.body.isSome = true from rfl)
  refine does_data ⟨Tryz.f19, c, Tryz.func19, by kernel_rfl, hc⟩ (by simp) fun w F args hr => ?_
  obtain ⟨v, u, rfl, h2, h3⟩ := tsrel_two hr
  rw [TRel] at h2 h3
  simp only [CRel] at h2
  cases h3
  rcases drel_strs (fun j => rfl) h2 with ⟨rfl, a, cap, rfl⟩ | ⟨b, o, cap, rfl, hcap, hb, hcells⟩
  · refine (Any.strings_Join_none Tryz.lays156 Tryz.Builder_Extra_156 a cap a1 w).mono ?_
    rintro e w' ⟨rfl, rfl⟩
    refine ⟨_, rfl, Rests.rfl, fun _ _ _ _ => ?_⟩
    rw [TRel]
    exact .str _
  · refine (Any.strings_Join Tryz.lays156 Tryz.Builder_Extra_156 b o cap l0 a1 w hcells hb h1.1 hcap h1.2).mono ?_
    rintro e w' ⟨rfl, hb⟩
    refine ⟨_, rfl, .of_below hb, fun _ _ _ _ => ?_⟩
    rw [TRel]
    exact .str _

set_option maxHeartbeats 4000000 in
set_option maxRecDepth 100000 in
theorem wcl_some (d : Dat) (s : ByteArray) (D : Does Tryz.prog 18 [.c (.d d)] [] (.c (.d (.str s))) none []) (w : World) (htab : TabOk w (Fz w)) (p : Option Addr) (n cap : Nat) (hn : 0 < n) (hl : DRel w (Fz w) d (.slice p n cap)) (B U : Nat) (L : List ByteArray) (v : Value)
    (O : OutIn w B U 40 9 L v) (hB : B ≤ w.heap.size) (hbd : L.length + 1 ≤ 1000000) :
    Calls Tryz.prog 17 #[.slice p n cap, .pointer (some ⟨U, 0, none⟩)] w fun e w' => e = .returned (.tuple #[]) ∧ ∃ v', OutIn w' B U 40 9 (L ++ [s]) v' ∧ Left w w' U v := by
  obtain ⟨i1, hi1, hz10, hz11, hz12⟩ := info_parts (show (Tryz.prog.info? 9).map (fun i => (i.zero, i.size, i.bytes)) = some (some (.string ByteArray.empty), 1, 16) by kernel_rfl)
  have hd0 : ∀ b, b < w.heap.size → w.drew.heap[b]? = w.heap[b]? := fun b _ => rfl
  have C := str_calls D w.drew (htab.rests fun b hb => ⟨hb, rfl⟩) #[.slice p n cap] (by
    refine tsrel_cons_mk ?_ tsrel_nil_mk
    rw [TRel]
    refine DRel.mono (fun b hb => ?_) hl
    exact ⟨hb, rfl⟩)
  have c0 : w.drew.cell? ⟨U, 0, none⟩ = some v := cell_of_one O.blk
  obtain ⟨p1, k1, rfl⟩ := O.slice
  go_enter Tryz.func17, Tryz.ntmps17
  have O0 : OutIn w.drew B U 40 9 L (.slice p1 L.length k1) := O.blocks fun b _ => rfl
  go_wp2_with fail
  go_region_law (first
    | (refine step_append_id rfl (.tmp 6) (.tmp 9) 40 rfl B 9 i1 (.string ByteArray.empty) 1 16 Tryz.underlying40 hi1 hz10 hz11 hz12 rfl (by decide) (.slice p1 L.length k1) L.length (L.map Value.string) (by simp [Act.eval]) (by assumption) ⟨w1.heap.size, 0, none⟩ 1 1 [.string s] (by simp [Act.eval]) rfl (by assumption) (by intro u hu; simp at hu; subst hu; rfl) (by unfold maxLen; omega) (by omega) (by assumption) ?_
       intro v' w' hown hgrow hid
       obtain ⟨f1, f2, g2, c2, rfl⟩ := OutIn.push_facts (by assumption) hown hgrow)
    | (refine step_call rfl 18 #[.tmp 7] #[22] rfl D.1 #[.slice p n cap] (by simp [Act.eval, Act.put]) C ?_
       rintro e w1 ⟨rfl, hR1⟩
       refine ⟨_, rfl, ?_⟩
       have O1 : OutIn w1 B U 40 9 L (.slice p1 L.length k1) := O0.blocks hR1.2.2.2.2
       have O2 : OutIn (w1.alloc (.cells #[.string s] 9)) B U 40 9 L (.slice p1 L.length k1) := O1.blocks fun b hb => Below.heap_alloc _ _ _ hb
       have o2 := O2.own
       have c1 := cell_of_one O1.blk
       have c2 := cell_of_one O2.blk
       have hn : ∀ (j : Nat) u, [Value.string s][j]? = some u → (w1.alloc (.cells #[.string s] 9)).cell? ((⟨w1.heap.size, 0, none⟩ : Addr).add j) = some u := by
         intro j u hj
         match j, hj with
         | 0, hj => simp at hj; subst hj; simp [Addr.add]
       have hB2 : B ≤ (w1.alloc (.cells #[.string s] 9)).heap.size := by have := hR1.2.2.2.1; simp at this ⊢; omega))
  all_goals
    have hs0 := hR1.2.2.2.1
    have hb0 := hR1.2.2.2.2
    have e1 : w1.os = w.os := hR1.1
    have e2 : w1.tape = w.tape := hR1.2.1
    have e3 : w1.output = w.output := hR1.2.2.1
    have P1 := OutIn.push O2 hown hgrow hid
    have P2 := Left.of_push (w := w) (U := U) (v' := .slice (some ⟨g2, 0, none⟩) (L.length + 1) c2) (by simp at hs0 ⊢; omega) (fun b hb => (Below.heap_alloc _ _ _ (by simp at hs0; omega)).trans (hb0 b hb)) e1 e2 e3 hgrow
  all_goals go_end0
  all_goals exact ⟨rfl, _, P1, P2⟩
theorem wcl_none (w : World) (p : Option Addr) (cap : Nat) (U : Nat) : Calls Tryz.prog 17 #[.slice p 0 cap, .pointer (some ⟨U, 0, none⟩)] w fun e w' => e = .returned (.tuple #[]) ∧ w' = w := by
  go_enter Tryz.func17, Tryz.ntmps17
  go_wp2
  go_end0
  exact ⟨rfl, rfl⟩
theorem Left.rfl' {w : World} {U : Nat} {v : Value} : Left w w U v := ⟨rfl, rfl, rfl, Nat.le_refl _, fun _ _ _ _ => rfl⟩
/-- The entries of a row, written behind what is written. -/
def outAdd (L : List ByteArray) (n : Nat) (s : ByteArray) : List ByteArray := if n = 0 then L else L ++ [s]
theorem wcl {d : Dat} {s : ByteArray} (w : World) {w0 : World} {F : Nat → Prop} (hR : Rests w0 w) (hF : ∀ b, F b → b < w0.heap.size) (htab : TabOk w0 F) (p : Option Addr) (n cap : Nat) (D : n ≠ 0 → Does Tryz.prog 18 [.c (.d d)] [] (.c (.d (.str s))) none []) (hl : DRel w0 F d (.slice p n cap)) (B U : Nat) (L : List ByteArray) (v : Value)
    (O : OutIn w B U 40 9 L v) (hB : B = w0.heap.size) (hU : B ≤ U) (hbd : L.length + 1 ≤ 1000000) (A : Nat) (cs : Array Value) (hA : w.heap[A]? = some (.cells cs 25 (0, 0))) (hAU : A ≠ U) :
    Calls Tryz.prog 17 #[.slice p n cap, .pointer (some ⟨U, 0, none⟩)] w fun e w' => e = .returned (.tuple #[]) ∧ ∃ v', OutIn w' B U 40 9 (outAdd L n s) v' ∧ Rests w0 w' ∧ w'.heap[A]? = some (.cells cs 25 (0, 0)) := by
  by_cases hn : n = 0
  · subst hn
    refine (wcl_none w p cap U).mono ?_
    rintro e w' ⟨rfl, rfl⟩
    exact ⟨rfl, v, O, hR, hA⟩
  · have hz := hR.fz hF
    refine (wcl_some d s (D hn) w (htab.rests hz) p n cap (by omega) (hl.mono hz) B U L v O (by have := hR.2.2.2.1; omega) hbd).mono ?_
    rintro e w' ⟨rfl, v', O', hL⟩
    refine ⟨rfl, v', by unfold outAdd; rw [if_neg hn]; exact O', hL.rests hR hB O hU, ?_⟩
    rw [hL.block A (lt_of_block hA) hAU (O.apart hA (by decide))]
    exact hA
theorem map_flat : ∀ L : List ByteArray, L.map Value.string = L.flatMap fun s => [Value.string s]
  | [] => rfl
  | a :: l => by rw [List.map_cons, List.flatMap_cons, ← map_flat l]; rfl
theorem out_drel {w : World} {B U tT eT : Nat} {L : List ByteArray} {v : Value} (h : OutIn w B U tT eT L v) : DRel w (Fz w) (fr 1 (fun x => [.str x]) ByteArray.empty L) v := by
  have e := map_flat L
  have ho := h.own
  rw [e] at ho
  refine own_drel (cv := fun s => [Value.string s]) (c := fun x => [Dat.str x]) (fun b _ hb => hb) (fun _ => rfl) (fun _ => rfl) (fun x i dd u h1 h2 => ?_) ho
  match i, h1, h2 with
  | 0, h1, h2 => simp at h1 h2; subst h1 h2; exact .str _
theorem box5 {w : World} {A : Nat} {v0 v1 v2 v3 v4 : Value} (h : w.heap[A]? = some (.cells #[v0, v1, v2, v3, v4] 25 (0, 0))) : w.cell? ⟨A, 0, none⟩ = some v0 ∧ w.cell? ⟨A, 1, none⟩ = some v1 ∧ w.cell? ⟨A, 2, none⟩ = some v2 ∧ w.cell? ⟨A, 3, none⟩ = some v3 ∧ w.cell? ⟨A, 4, none⟩ = some v4 := by
  refine ⟨?_, ?_, ?_, ?_, ?_⟩ <;> rw [cell_of_row _ _ _ _ _ _ h] <;> rfl
set_option maxHeartbeats 16000000 in
set_option maxRecDepth 100000 in
theorem write_base (kd ft f : Int) (wo : ByteArray) (hform : Does Tryz.prog 13 [.c (.d (.int .i64 kd))] [] (.c (.d (.int .i64 f))) none []) (hword : Does Tryz.prog 14 [.c (.d (.int .i64 kd))] [] (.c (.d (.str wo))) none [])
    (w : World) (F : Nat → Prop) (hF : ∀ b, F b → b < w.heap.size) (htab : TabOk w F) (pr ps pg : Option Addr) (nr cr ns cs ng cg : Nat) (dr dg : Dat) (hdr : DRel w F dr (.slice pr nr cr)) (hdg : DRel w F dg (.slice pg ng cg)) (sr sg sf : ByteArray)
    (out : ByteArray) (hwo : wo.toList.isEmpty = false) 
    (hJ : Does Tryz.prog 19 [.c (.d (fr 1 (fun x => [.str x]) ByteArray.empty [wo])), .c (.d (.str ⟨#[32]⟩))] [] (.c (.d (.str out))) none []) (hb1 : (Go.bits .and .i64 f 1 != 0) = false) (hb2 : (Go.bits .and .i64 f 2 != 0) = false) (hb4 : (Go.bits .and .i64 f 4 != 0) = false) (hb8 : (Go.bits .and .i64 f 8 != 0) = false) :
    Calls Tryz.prog 6 #[.agg #[.int .i64 kd, .int .i64 ft, .slice pr nr cr, .slice ps ns cs, .slice pg ng cg]] w fun e w' => e = .returned (.tuple #[.string out, .int .i64 0]) ∧ Rests w w' := by
  have hR0 : Rests w (w.alloc (.cells #[.int .i64 kd, .int .i64 ft, .slice pr nr cr, .slice ps ns cs, .slice pg ng cg] 25)) := ⟨rfl, rfl, rfl, by simp, fun k hk => Below.heap_alloc w _ _ hk⟩
  have hA0 := heap_alloc_new w (.cells #[.int .i64 kd, .int .i64 ft, .slice pr nr cr, .slice ps ns cs, .slice pg ng cg] 25)
  have hf : ∀ W, Rests w W → Calls Tryz.prog 13 #[.int .i64 kd] W fun e W' => e = .returned (.int .i64 f) ∧ Rests w W' ∧ ∀ b, b < W.heap.size → W'.heap[b]? = W.heap[b]? := fun W hW => (int_calls hform W (htab.rests (hW.fz hF)) #[.int .i64 kd] (tsrel_cons_mk (by rw [TRel]; exact .int _ _) tsrel_nil_mk)).mono fun e W' h => ⟨h.1, hW.trans h.2, h.2.2.2.2.2⟩
  have hw : ∀ W, Rests w W → Calls Tryz.prog 14 #[.int .i64 kd] W fun e W' => e = .returned (.string wo) ∧ Rests w W' ∧ ∀ b, b < W.heap.size → W'.heap[b]? = W.heap[b]? := fun W hW => (str_calls hword W (htab.rests (hW.fz hF)) #[.int .i64 kd] (tsrel_cons_mk (by rw [TRel]; exact .int _ _) tsrel_nil_mk)).mono fun e W' h => ⟨h.1, hW.trans h.2, h.2.2.2.2.2⟩
  obtain ⟨A, hA⟩ : ∃ A, w.heap.size = A := ⟨_, rfl⟩
  go_enter Tryz.func6, Tryz.ntmps6
  go_wp2_with fail
  refine (hf _ hR0).mono ?_
  rintro e w1 ⟨rfl, hR1, hB1⟩
  have hA1 := (hB1 _ (by simp)).trans hA0
  clear hB1 hf
  rw [hA] at hA1
  obtain ⟨a10, a11, a12, a13, a14⟩ := box5 hA1
  go_wp2_with fail
  refine (hw _ hR1).mono ?_
  rintro e w2 ⟨rfl, hR2, hB2⟩
  have hA2 := (hB2 _ (lt_of_block hA1)).trans hA1
  clear hB2 a10 a11 a12 a13 a14 hA1 hR1 hR0 hA0
  obtain ⟨a20, a21, a22, a23, a24⟩ := box5 hA2
  go_wp2_with fail
  refine (hw _ hR2).mono ?_
  rintro e w3 ⟨rfl, hR3, hB3⟩
  have hA3 := (hB3 _ (lt_of_block hA2)).trans hA2
  clear hB3 a20 a21 a22 a23 a24 hA2 hR2
  have hA4 : ((w3.alloc (.cells #[.string wo] 9)).alloc (.cells #[.slice (some ⟨w3.heap.size, 0, none⟩) 1 1] 40)).heap[A]? = some (.cells #[.int .i64 kd, .int .i64 ft, .slice pr nr cr, .slice ps ns cs, .slice pg ng cg] 25 (0, 0)) := by
    have := lt_of_block hA3
    rw [Below.heap_alloc _ _ _ (by simp; omega), Below.heap_alloc _ _ _ this]
    exact hA3
  have hR4 : Rests w ((w3.alloc (.cells #[.string wo] 9)).alloc (.cells #[.slice (some ⟨w3.heap.size, 0, none⟩) 1 1] 40)) := hR3.trans ⟨rfl, rfl, rfl, by simp; omega, fun k hk => (Below.heap_alloc _ _ _ (by simp; omega)).trans (Below.heap_alloc _ _ _ hk)⟩
  have O4 : OutIn ((w3.alloc (.cells #[.string wo] 9)).alloc (.cells #[.slice (some ⟨w3.heap.size, 0, none⟩) 1 1] 40)) A (w3.heap.size + 1) 40 9 [wo] (.slice (some ⟨w3.heap.size, 0, none⟩) 1 1) := by
    refine ⟨?_, ⟨rfl, .inr ⟨w3.heap.size, 1, #[.string wo], rfl, by have := hR3.2.2.2.1; omega, ?_, Nat.le_refl _, by unfold maxLen; omega, rfl, rfl⟩⟩, by decide⟩
    · have := heap_alloc_new (w3.alloc (.cells #[.string wo] 9)) (.cells #[.slice (some ⟨w3.heap.size, 0, none⟩) 1 1] 40)
      simpa using this
    · rw [Below.heap_alloc _ _ _ (by simp)]
      exact heap_alloc_new w3 _
  have hU : A ≤ w3.heap.size + 1 := by have := hR3.2.2.2.1; omega
  have hAU : A ≠ w3.heap.size + 1 := by have := lt_of_block hA3; omega
  clear hA3 hR3 hw
  obtain ⟨a40, a41, a42, a43, a44⟩ := box5 hA4
  have c4 := cell_of_one O4.blk
  go_wp2_with fail
  revert O4 hA4 hR4 hU hAU a40 a41 a42 a43 a44 c4
  generalize ((w3.alloc (.cells #[.string wo] 9)).alloc (.cells #[.slice (some ⟨w3.heap.size, 0, none⟩) 1 1] 40)) = W4
  generalize w3.heap.size + 1 = U
  generalize w3.heap.size = G
  intro hA4 hR4 O4 hU hAU a40 a41 a42 a43 a44 c4
  refine (str_calls hJ W4 (htab.rests (hR4.fz hF)) #[_, _] (tsrel_cons_mk (by rw [TRel]; exact out_drel O4) (tsrel_cons_mk (by rw [TRel]; exact .str _) tsrel_nil_mk))).mono ?_
  rintro e w9 ⟨rfl, hR9⟩
  have hRR := hR4.trans hR9
  clear O4 hA4 a40 a41 a42 a43 a44 c4
  go_wp2
  go_ret2
  exact ⟨rfl, hRR⟩
set_option maxHeartbeats 16000000 in
set_option maxRecDepth 100000 in
theorem write_row (kd ft f : Int) (wo : ByteArray) (hform : Does Tryz.prog 13 [.c (.d (.int .i64 kd))] [] (.c (.d (.int .i64 f))) none []) (hword : Does Tryz.prog 14 [.c (.d (.int .i64 kd))] [] (.c (.d (.str wo))) none [])
    (w : World) (F : Nat → Prop) (hF : ∀ b, F b → b < w.heap.size) (htab : TabOk w F) (pr ps pg : Option Addr) (nr cr ns cs ng cg : Nat) (dr dg : Dat) (hdr : DRel w F dr (.slice pr nr cr)) (hdg : DRel w F dg (.slice pg ng cg)) (sr sg sf : ByteArray)
    (out : ByteArray) (hwo : wo.toList.isEmpty = false) (Dr : nr ≠ 0 → Does Tryz.prog 18 [.c (.d dr)] [] (.c (.d (.str sr))) none []) 
    (hJ : Does Tryz.prog 19 [.c (.d (fr 1 (fun x => [.str x]) ByteArray.empty (outAdd [wo] nr sr))), .c (.d (.str ⟨#[32]⟩))] [] (.c (.d (.str out))) none []) (hb1 : (Go.bits .and .i64 f 1 != 0) = false) (hb2 : (Go.bits .and .i64 f 2 != 0) = true) (hb4 : (Go.bits .and .i64 f 4 != 0) = false) (hb8 : (Go.bits .and .i64 f 8 != 0) = false) :
    Calls Tryz.prog 6 #[.agg #[.int .i64 kd, .int .i64 ft, .slice pr nr cr, .slice ps ns cs, .slice pg ng cg]] w fun e w' => e = .returned (.tuple #[.string out, .int .i64 0]) ∧ Rests w w' := by
  have hR0 : Rests w (w.alloc (.cells #[.int .i64 kd, .int .i64 ft, .slice pr nr cr, .slice ps ns cs, .slice pg ng cg] 25)) := ⟨rfl, rfl, rfl, by simp, fun k hk => Below.heap_alloc w _ _ hk⟩
  have hA0 := heap_alloc_new w (.cells #[.int .i64 kd, .int .i64 ft, .slice pr nr cr, .slice ps ns cs, .slice pg ng cg] 25)
  have hf : ∀ W, Rests w W → Calls Tryz.prog 13 #[.int .i64 kd] W fun e W' => e = .returned (.int .i64 f) ∧ Rests w W' ∧ ∀ b, b < W.heap.size → W'.heap[b]? = W.heap[b]? := fun W hW => (int_calls hform W (htab.rests (hW.fz hF)) #[.int .i64 kd] (tsrel_cons_mk (by rw [TRel]; exact .int _ _) tsrel_nil_mk)).mono fun e W' h => ⟨h.1, hW.trans h.2, h.2.2.2.2.2⟩
  have hw : ∀ W, Rests w W → Calls Tryz.prog 14 #[.int .i64 kd] W fun e W' => e = .returned (.string wo) ∧ Rests w W' ∧ ∀ b, b < W.heap.size → W'.heap[b]? = W.heap[b]? := fun W hW => (str_calls hword W (htab.rests (hW.fz hF)) #[.int .i64 kd] (tsrel_cons_mk (by rw [TRel]; exact .int _ _) tsrel_nil_mk)).mono fun e W' h => ⟨h.1, hW.trans h.2, h.2.2.2.2.2⟩
  obtain ⟨A, hA⟩ : ∃ A, w.heap.size = A := ⟨_, rfl⟩
  go_enter Tryz.func6, Tryz.ntmps6
  go_wp2_with fail
  refine (hf _ hR0).mono ?_
  rintro e w1 ⟨rfl, hR1, hB1⟩
  have hA1 := (hB1 _ (by simp)).trans hA0
  clear hB1 hf
  rw [hA] at hA1
  obtain ⟨a10, a11, a12, a13, a14⟩ := box5 hA1
  go_wp2_with fail
  refine (hw _ hR1).mono ?_
  rintro e w2 ⟨rfl, hR2, hB2⟩
  have hA2 := (hB2 _ (lt_of_block hA1)).trans hA1
  clear hB2 a10 a11 a12 a13 a14 hA1 hR1 hR0 hA0
  obtain ⟨a20, a21, a22, a23, a24⟩ := box5 hA2
  go_wp2_with fail
  refine (hw _ hR2).mono ?_
  rintro e w3 ⟨rfl, hR3, hB3⟩
  have hA3 := (hB3 _ (lt_of_block hA2)).trans hA2
  clear hB3 a20 a21 a22 a23 a24 hA2 hR2
  have hA4 : ((w3.alloc (.cells #[.string wo] 9)).alloc (.cells #[.slice (some ⟨w3.heap.size, 0, none⟩) 1 1] 40)).heap[A]? = some (.cells #[.int .i64 kd, .int .i64 ft, .slice pr nr cr, .slice ps ns cs, .slice pg ng cg] 25 (0, 0)) := by
    have := lt_of_block hA3
    rw [Below.heap_alloc _ _ _ (by simp; omega), Below.heap_alloc _ _ _ this]
    exact hA3
  have hR4 : Rests w ((w3.alloc (.cells #[.string wo] 9)).alloc (.cells #[.slice (some ⟨w3.heap.size, 0, none⟩) 1 1] 40)) := hR3.trans ⟨rfl, rfl, rfl, by simp; omega, fun k hk => (Below.heap_alloc _ _ _ (by simp; omega)).trans (Below.heap_alloc _ _ _ hk)⟩
  have O4 : OutIn ((w3.alloc (.cells #[.string wo] 9)).alloc (.cells #[.slice (some ⟨w3.heap.size, 0, none⟩) 1 1] 40)) A (w3.heap.size + 1) 40 9 [wo] (.slice (some ⟨w3.heap.size, 0, none⟩) 1 1) := by
    refine ⟨?_, ⟨rfl, .inr ⟨w3.heap.size, 1, #[.string wo], rfl, by have := hR3.2.2.2.1; omega, ?_, Nat.le_refl _, by unfold maxLen; omega, rfl, rfl⟩⟩, by decide⟩
    · have := heap_alloc_new (w3.alloc (.cells #[.string wo] 9)) (.cells #[.slice (some ⟨w3.heap.size, 0, none⟩) 1 1] 40)
      simpa using this
    · rw [Below.heap_alloc _ _ _ (by simp)]
      exact heap_alloc_new w3 _
  have hU : A ≤ w3.heap.size + 1 := by have := hR3.2.2.2.1; omega
  have hAU : A ≠ w3.heap.size + 1 := by have := lt_of_block hA3; omega
  clear hA3 hR3 hw
  obtain ⟨a40, a41, a42, a43, a44⟩ := box5 hA4
  have c4 := cell_of_one O4.blk
  go_wp2_with fail
  revert O4 hA4 hR4 hU hAU a40 a41 a42 a43 a44 c4
  generalize ((w3.alloc (.cells #[.string wo] 9)).alloc (.cells #[.slice (some ⟨w3.heap.size, 0, none⟩) 1 1] 40)) = W4
  generalize w3.heap.size + 1 = U
  generalize w3.heap.size = G
  intro hA4 hR4 O4 hU hAU a40 a41 a42 a43 a44 c4
  refine (wcl (d := dr) (s := sr) _ hR4 hF htab pr nr cr Dr hdr A U [wo] _ O4 hA.symm hU (by simp) A _ hA4 hAU).mono ?_
  rintro e w5 ⟨rfl, v5, O5, hR5, hA5⟩
  clear O4 hA4 hR4 a40 a41 a42 a43 a44 c4
  obtain ⟨a50, a51, a52, a53, a54⟩ := box5 hA5
  have c5 := cell_of_one O5.blk
  obtain ⟨p5, k5, rfl⟩ := O5.slice
  go_wp2_with fail
  refine (str_calls hJ w5 (htab.rests (hR5.fz hF)) #[_, _] (tsrel_cons_mk (by rw [TRel]; exact out_drel O5) (tsrel_cons_mk (by rw [TRel]; exact .str _) tsrel_nil_mk))).mono ?_
  rintro e w9 ⟨rfl, hR9⟩
  have hRR := hR5.trans hR9
  clear O5 hA5 a50 a51 a52 a53 a54 c5
  go_wp2
  go_ret2
  exact ⟨rfl, hRR⟩
set_option maxHeartbeats 16000000 in
set_option maxRecDepth 100000 in
theorem write_rm (ft f : Int) (wo : ByteArray) (hform : Does Tryz.prog 13 [.c (.d (.int .i64 4))] [] (.c (.d (.int .i64 f))) none []) (hword : Does Tryz.prog 14 [.c (.d (.int .i64 4))] [] (.c (.d (.str wo))) none [])
    (w : World) (F : Nat → Prop) (hF : ∀ b, F b → b < w.heap.size) (htab : TabOk w F) (pr ps pg : Option Addr) (nr cr ns cs ng cg : Nat) (dr dg : Dat) (hdr : DRel w F dr (.slice pr nr cr)) (hdg : DRel w F dg (.slice pg ng cg)) (sr sg sf : ByteArray)
    (out : ByteArray) (hwo : wo.toList.isEmpty = false) (Dr : nr ≠ 0 → Does Tryz.prog 18 [.c (.d dr)] [] (.c (.d (.str sr))) none []) (nn : Nat → Nat) (pp : Nat → Option Addr) (cc : Nat → Nat) (dd : Nat → Dat) (ss : Nat → ByteArray) (LL : Nat → List ByteArray) (hns : ns ≤ 1000000)
    (hrows : ∀ j, j < ns → ∃ b o, ps = some ⟨b, o, none⟩ ∧ b < w.heap.size ∧ w.cell? ⟨b, o + j, none⟩ = some (.slice (pp j) (nn j) (cc j)) ∧ DRel w F (dd j) (.slice (pp j) (nn j) (cc j)) ∧ (nn j ≠ 0 → Does Tryz.prog 18 [.c (.d (dd j))] [] (.c (.d (.str (ss j)))) none []))
    (hbd : ∀ j, j ≤ ns → (LL j).length + 2 ≤ 1000000) (hLL : ∀ j, j < ns → LL (j + 1) = outAdd (if 0 < j ∨ (4 : Int) ≠ 9 then LL j ++ [⟨#[124]⟩] else LL j) (nn j) (ss j)) (hLL0 : LL 0 = outAdd [wo] nr sr)
    (hJ : Does Tryz.prog 19 [.c (.d (fr 1 (fun x => [.str x]) ByteArray.empty (LL ns))), .c (.d (.str ⟨#[32]⟩))] [] (.c (.d (.str out))) none []) (hb1 : (Go.bits .and .i64 f 1 != 0) = false) (hb2 : (Go.bits .and .i64 f 2 != 0) = true) (hb4 : (Go.bits .and .i64 f 4 != 0) = false) (hb8 : (Go.bits .and .i64 f 8 != 0) = true) :
    Calls Tryz.prog 6 #[.agg #[.int .i64 4, .int .i64 ft, .slice pr nr cr, .slice ps ns cs, .slice pg ng cg]] w fun e w' => e = .returned (.tuple #[.string out, .int .i64 0]) ∧ Rests w w' := by
  have hR0 : Rests w (w.alloc (.cells #[.int .i64 4, .int .i64 ft, .slice pr nr cr, .slice ps ns cs, .slice pg ng cg] 25)) := ⟨rfl, rfl, rfl, by simp, fun k hk => Below.heap_alloc w _ _ hk⟩
  have hA0 := heap_alloc_new w (.cells #[.int .i64 4, .int .i64 ft, .slice pr nr cr, .slice ps ns cs, .slice pg ng cg] 25)
  have hf : ∀ W, Rests w W → Calls Tryz.prog 13 #[.int .i64 4] W fun e W' => e = .returned (.int .i64 f) ∧ Rests w W' ∧ ∀ b, b < W.heap.size → W'.heap[b]? = W.heap[b]? := fun W hW => (int_calls hform W (htab.rests (hW.fz hF)) #[.int .i64 4] (tsrel_cons_mk (by rw [TRel]; exact .int _ _) tsrel_nil_mk)).mono fun e W' h => ⟨h.1, hW.trans h.2, h.2.2.2.2.2⟩
  have hw : ∀ W, Rests w W → Calls Tryz.prog 14 #[.int .i64 4] W fun e W' => e = .returned (.string wo) ∧ Rests w W' ∧ ∀ b, b < W.heap.size → W'.heap[b]? = W.heap[b]? := fun W hW => (str_calls hword W (htab.rests (hW.fz hF)) #[.int .i64 4] (tsrel_cons_mk (by rw [TRel]; exact .int _ _) tsrel_nil_mk)).mono fun e W' h => ⟨h.1, hW.trans h.2, h.2.2.2.2.2⟩
  obtain ⟨A, hA⟩ : ∃ A, w.heap.size = A := ⟨_, rfl⟩
  go_enter Tryz.func6, Tryz.ntmps6
  go_wp2_with fail
  refine (hf _ hR0).mono ?_
  rintro e w1 ⟨rfl, hR1, hB1⟩
  have hA1 := (hB1 _ (by simp)).trans hA0
  clear hB1 hf
  rw [hA] at hA1
  obtain ⟨a10, a11, a12, a13, a14⟩ := box5 hA1
  go_wp2_with fail
  refine (hw _ hR1).mono ?_
  rintro e w2 ⟨rfl, hR2, hB2⟩
  have hA2 := (hB2 _ (lt_of_block hA1)).trans hA1
  clear hB2 a10 a11 a12 a13 a14 hA1 hR1 hR0 hA0
  obtain ⟨a20, a21, a22, a23, a24⟩ := box5 hA2
  go_wp2_with fail
  refine (hw _ hR2).mono ?_
  rintro e w3 ⟨rfl, hR3, hB3⟩
  have hA3 := (hB3 _ (lt_of_block hA2)).trans hA2
  clear hB3 a20 a21 a22 a23 a24 hA2 hR2
  have hA4 : ((w3.alloc (.cells #[.string wo] 9)).alloc (.cells #[.slice (some ⟨w3.heap.size, 0, none⟩) 1 1] 40)).heap[A]? = some (.cells #[.int .i64 4, .int .i64 ft, .slice pr nr cr, .slice ps ns cs, .slice pg ng cg] 25 (0, 0)) := by
    have := lt_of_block hA3
    rw [Below.heap_alloc _ _ _ (by simp; omega), Below.heap_alloc _ _ _ this]
    exact hA3
  have hR4 : Rests w ((w3.alloc (.cells #[.string wo] 9)).alloc (.cells #[.slice (some ⟨w3.heap.size, 0, none⟩) 1 1] 40)) := hR3.trans ⟨rfl, rfl, rfl, by simp; omega, fun k hk => (Below.heap_alloc _ _ _ (by simp; omega)).trans (Below.heap_alloc _ _ _ hk)⟩
  have O4 : OutIn ((w3.alloc (.cells #[.string wo] 9)).alloc (.cells #[.slice (some ⟨w3.heap.size, 0, none⟩) 1 1] 40)) A (w3.heap.size + 1) 40 9 [wo] (.slice (some ⟨w3.heap.size, 0, none⟩) 1 1) := by
    refine ⟨?_, ⟨rfl, .inr ⟨w3.heap.size, 1, #[.string wo], rfl, by have := hR3.2.2.2.1; omega, ?_, Nat.le_refl _, by unfold maxLen; omega, rfl, rfl⟩⟩, by decide⟩
    · have := heap_alloc_new (w3.alloc (.cells #[.string wo] 9)) (.cells #[.slice (some ⟨w3.heap.size, 0, none⟩) 1 1] 40)
      simpa using this
    · rw [Below.heap_alloc _ _ _ (by simp)]
      exact heap_alloc_new w3 _
  have hU : A ≤ w3.heap.size + 1 := by have := hR3.2.2.2.1; omega
  have hAU : A ≠ w3.heap.size + 1 := by have := lt_of_block hA3; omega
  clear hA3 hR3 hw
  obtain ⟨a40, a41, a42, a43, a44⟩ := box5 hA4
  have c4 := cell_of_one O4.blk
  go_wp2_with fail
  revert O4 hA4 hR4 hU hAU a40 a41 a42 a43 a44 c4
  generalize ((w3.alloc (.cells #[.string wo] 9)).alloc (.cells #[.slice (some ⟨w3.heap.size, 0, none⟩) 1 1] 40)) = W4
  generalize w3.heap.size + 1 = U
  generalize w3.heap.size = G
  intro hA4 hR4 O4 hU hAU a40 a41 a42 a43 a44 c4
  refine (wcl (d := dr) (s := sr) _ hR4 hF htab pr nr cr Dr hdr A U [wo] _ O4 hA.symm hU (by simp) A _ hA4 hAU).mono ?_
  rintro e w5 ⟨rfl, v5, O5, hR5, hA5⟩
  clear O4 hA4 hR4 a40 a41 a42 a43 a44 c4
  obtain ⟨a50, a51, a52, a53, a54⟩ := box5 hA5
  have c5 := cell_of_one O5.blk
  obtain ⟨p5, k5, rfl⟩ := O5.slice
  go_wp2
  go_loopw [83] (fun i wr => ∃ k : Nat, k ≤ ns ∧ i = .int .i64 k ∧ Rests w wr ∧ wr.heap[A]? = some (.cells #[.int .i64 4, .int .i64 ft, .slice pr nr cr, .slice ps ns cs, .slice pg ng cg] 25 (0, 0)) ∧ ∃ v, OutIn wr A U 40 9 (LL k) v)
    (fun i _ => ns - (Go.RowKit.intOf i).toNat)
  case atStart => exact ⟨0, Nat.zero_le _, rfl, hR5, hA5, _, by rw [hLL0]; exact O5⟩
  case round =>
    obtain ⟨k, hk, rfl, hRr, hAr, v, Or⟩ := hrel
    clear O5 hA5 hR5 a50 a51 a52 a53 a54 c5 hLL0
    obtain ⟨p0, k0, rfl⟩ := Or.slice
    obtain ⟨a0, a1, a2, a3, a4⟩ := box5 hAr
    have cU := cell_of_one Or.blk
    have hlen := hbd k hk
    obtain ⟨i1, hi1, hz10, hz11, hz12⟩ := info_parts (show (Tryz.prog.info? 9).map (fun i => (i.zero, i.size, i.bytes)) = some (some (.string ByteArray.empty), 1, 16) by kernel_rfl)
    by_cases hkn : k < ns
    · obtain ⟨b, o, rfl, hbw, d0, hdk, Dk⟩ := hrows k hkn
      have d1 : wr.cell? ⟨b, o + k, none⟩ = some (.slice (pp k) (nn k) (cc k)) := (World.cell?_of_block (hRr.2.2.2.2 b hbw)).trans d0
      clear d0
      by_cases hk0 : 0 < k
      · have hbar : 0 < k ∨ (4 : Int) ≠ 9 := .inl hk0
        have Ob : OutIn (wr.alloc (.cells #[.string ⟨#[124]⟩] 9)) A U 40 9 (LL k) (.slice p0 (LL k).length k0) := Or.blocks fun b hb => Below.heap_alloc _ _ _ hb
        have hn : ∀ (j : Nat) u, [Value.string ⟨#[124]⟩][j]? = some u → (wr.alloc (.cells #[.string ⟨#[124]⟩] 9)).cell? ((⟨wr.heap.size, 0, none⟩ : Addr).add j) = some u := by
          intro j u hj
          match j, hj with
          | 0, hj => simp at hj; subst hj; simp [Addr.add]
        have hBa : A ≤ (wr.alloc (.cells #[.string ⟨#[124]⟩] 9)).heap.size := by have := hRr.2.2.2.1; simp; omega
        go_wp2_with (at_builtin; refine wpList_append_id rfl (.tmp 95) (.tmp 96) 40 rfl A 9 i1 (.string ByteArray.empty) 1 16 Tryz.underlying40 hi1 hz10 hz11 hz12 rfl (by decide) (.slice p0 (LL k).length k0) (LL k).length ((LL k).map Value.string) rfl Ob.own ⟨wr.heap.size, 0, none⟩ 1 1 [.string ⟨#[124]⟩] rfl rfl hn (by intro u hu; simp at hu; subst hu; rfl) (by unfold maxLen; omega) (by omega) hBa ?_)
        intro v' w' hown hgrow hid
        obtain ⟨f1, f2, g2, c2, rfl⟩ := OutIn.push_facts Ob hown hgrow
        have O6 := OutIn.push Ob hown hgrow (by simpa using hid)
        have hL6 := Left.of_push (w := wr) (U := U) (v' := .slice (some ⟨g2, 0, none⟩) ((LL k).length + 1) c2) (by simp) (fun b hb => Below.heap_alloc _ _ _ hb) rfl rfl rfl hgrow
        have hR6 := hL6.rests hRr hA.symm Or hU
        have hA6 := (hL6.block A (lt_of_block hAr) hAU (Or.apart hAr (by decide))).trans hAr
        clear hL6 hown hgrow hid hn hBa Ob
        go_wp2_with fail
        refine (wcl (d := dd k) (s := ss k) _ hR6 hF htab (pp k) (nn k) (cc k) Dk hdk A U (LL k ++ [⟨#[124]⟩]) _ O6 hA.symm hU (by simp; omega) A _ hA6 hAU).mono ?_
        rintro e w8 ⟨rfl, v8, O8, hR8, hA8⟩
        have hq := hLL k hkn
        rw [if_pos hbar] at hq
        clear O6 hR6 hA6 f1 f2 a0 a1 a2 a3 a4 cU d1 Or hAr hRr hLL hrows hJ hbd Dk hdk
        go_wp2
        go_roundw
        case rel => exact ⟨k + 1, by omega, by simp, hR8, hA8, v8, by rw [hq]; exact O8⟩
        case measure => simp [Go.RowKit.intOf]; omega

      · have hk1 : k = 0 := by omega
        subst hk1
        rw [Nat.add_zero] at d1
        have hbar : 0 < 0 ∨ (4 : Int) ≠ 9 := .inr (by decide)
        have Ob : OutIn (wr.alloc (.cells #[.string ⟨#[124]⟩] 9)) A U 40 9 (LL 0) (.slice p0 (LL 0).length k0) := Or.blocks fun b hb => Below.heap_alloc _ _ _ hb
        have hn : ∀ (j : Nat) u, [Value.string ⟨#[124]⟩][j]? = some u → (wr.alloc (.cells #[.string ⟨#[124]⟩] 9)).cell? ((⟨wr.heap.size, 0, none⟩ : Addr).add j) = some u := by
          intro j u hj
          match j, hj with
          | 0, hj => simp at hj; subst hj; simp [Addr.add]
        have hBa : A ≤ (wr.alloc (.cells #[.string ⟨#[124]⟩] 9)).heap.size := by have := hRr.2.2.2.1; simp; omega
        go_wp2_with (at_builtin; refine wpList_append_id rfl (.tmp 95) (.tmp 96) 40 rfl A 9 i1 (.string ByteArray.empty) 1 16 Tryz.underlying40 hi1 hz10 hz11 hz12 rfl (by decide) (.slice p0 (LL 0).length k0) (LL 0).length ((LL 0).map Value.string) rfl Ob.own ⟨wr.heap.size, 0, none⟩ 1 1 [.string ⟨#[124]⟩] rfl rfl hn (by intro u hu; simp at hu; subst hu; rfl) (by unfold maxLen; omega) (by omega) hBa ?_)
        intro v' w' hown hgrow hid
        obtain ⟨f1, f2, g2, c2, rfl⟩ := OutIn.push_facts Ob hown hgrow
        have O6 := OutIn.push Ob hown hgrow (by simpa using hid)
        have hL6 := Left.of_push (w := wr) (U := U) (v' := .slice (some ⟨g2, 0, none⟩) ((LL 0).length + 1) c2) (by simp) (fun b hb => Below.heap_alloc _ _ _ hb) rfl rfl rfl hgrow
        have hR6 := hL6.rests hRr hA.symm Or hU
        have hA6 := (hL6.block A (lt_of_block hAr) hAU (Or.apart hAr (by decide))).trans hAr
        clear hL6 hown hgrow hid hn hBa Ob
        go_wp2_with fail
        refine (wcl (d := dd 0) (s := ss 0) _ hR6 hF htab (pp 0) (nn 0) (cc 0) Dk hdk A U (LL 0 ++ [⟨#[124]⟩]) _ O6 hA.symm hU (by simp; omega) A _ hA6 hAU).mono ?_
        rintro e w8 ⟨rfl, v8, O8, hR8, hA8⟩
        have hq := hLL 0 hkn
        rw [if_pos hbar] at hq
        clear O6 hR6 hA6 f1 f2 a0 a1 a2 a3 a4 cU d1 Or hAr hRr hLL hrows hJ hbd Dk hdk
        go_wp2
        go_roundw
        case rel => exact ⟨0 + 1, by omega, by simp, hR8, hA8, v8, by rw [hq]; exact O8⟩
        case measure => simp [Go.RowKit.intOf]; omega

    · have hk2 : k = ns := by omega
      subst hk2
      go_wp2_with fail
      refine (str_calls hJ wr (htab.rests (hRr.fz hF)) #[_, _] (tsrel_cons_mk (by rw [TRel]; exact out_drel Or) (tsrel_cons_mk (by rw [TRel]; exact .str _) tsrel_nil_mk))).mono ?_
      rintro e w9 ⟨rfl, hR9⟩
      have hRR := hRr.trans hR9
      clear Or hAr a0 a1 a2 a3 a4 cU
      go_wp2
      go_ret2
      exact ⟨rfl, hRR⟩

set_option maxHeartbeats 16000000 in
set_option maxRecDepth 100000 in
theorem write_m (ft f : Int) (wo : ByteArray) (hform : Does Tryz.prog 13 [.c (.d (.int .i64 9))] [] (.c (.d (.int .i64 f))) none []) (hword : Does Tryz.prog 14 [.c (.d (.int .i64 9))] [] (.c (.d (.str wo))) none [])
    (w : World) (F : Nat → Prop) (hF : ∀ b, F b → b < w.heap.size) (htab : TabOk w F) (pr ps pg : Option Addr) (nr cr ns cs ng cg : Nat) (dr dg : Dat) (hdr : DRel w F dr (.slice pr nr cr)) (hdg : DRel w F dg (.slice pg ng cg)) (sr sg sf : ByteArray)
    (out : ByteArray) (hwo : wo.toList.isEmpty = false) (nn : Nat → Nat) (pp : Nat → Option Addr) (cc : Nat → Nat) (dd : Nat → Dat) (ss : Nat → ByteArray) (LL : Nat → List ByteArray) (hns : ns ≤ 1000000)
    (hrows : ∀ j, j < ns → ∃ b o, ps = some ⟨b, o, none⟩ ∧ b < w.heap.size ∧ w.cell? ⟨b, o + j, none⟩ = some (.slice (pp j) (nn j) (cc j)) ∧ DRel w F (dd j) (.slice (pp j) (nn j) (cc j)) ∧ (nn j ≠ 0 → Does Tryz.prog 18 [.c (.d (dd j))] [] (.c (.d (.str (ss j)))) none []))
    (hbd : ∀ j, j ≤ ns → (LL j).length + 2 ≤ 1000000) (hLL : ∀ j, j < ns → LL (j + 1) = outAdd (if 0 < j ∨ (9 : Int) ≠ 9 then LL j ++ [⟨#[124]⟩] else LL j) (nn j) (ss j)) (hLL0 : LL 0 = [wo]) (hs1 : ns ≠ 1)
    (hJ : Does Tryz.prog 19 [.c (.d (fr 1 (fun x => [.str x]) ByteArray.empty (LL ns))), .c (.d (.str ⟨#[32]⟩))] [] (.c (.d (.str out))) none []) (hb1 : (Go.bits .and .i64 f 1 != 0) = false) (hb2 : (Go.bits .and .i64 f 2 != 0) = false) (hb4 : (Go.bits .and .i64 f 4 != 0) = false) (hb8 : (Go.bits .and .i64 f 8 != 0) = true) :
    Calls Tryz.prog 6 #[.agg #[.int .i64 9, .int .i64 ft, .slice pr nr cr, .slice ps ns cs, .slice pg ng cg]] w fun e w' => e = .returned (.tuple #[.string out, .int .i64 0]) ∧ Rests w w' := by
  have hR0 : Rests w (w.alloc (.cells #[.int .i64 9, .int .i64 ft, .slice pr nr cr, .slice ps ns cs, .slice pg ng cg] 25)) := ⟨rfl, rfl, rfl, by simp, fun k hk => Below.heap_alloc w _ _ hk⟩
  have hA0 := heap_alloc_new w (.cells #[.int .i64 9, .int .i64 ft, .slice pr nr cr, .slice ps ns cs, .slice pg ng cg] 25)
  have hf : ∀ W, Rests w W → Calls Tryz.prog 13 #[.int .i64 9] W fun e W' => e = .returned (.int .i64 f) ∧ Rests w W' ∧ ∀ b, b < W.heap.size → W'.heap[b]? = W.heap[b]? := fun W hW => (int_calls hform W (htab.rests (hW.fz hF)) #[.int .i64 9] (tsrel_cons_mk (by rw [TRel]; exact .int _ _) tsrel_nil_mk)).mono fun e W' h => ⟨h.1, hW.trans h.2, h.2.2.2.2.2⟩
  have hw : ∀ W, Rests w W → Calls Tryz.prog 14 #[.int .i64 9] W fun e W' => e = .returned (.string wo) ∧ Rests w W' ∧ ∀ b, b < W.heap.size → W'.heap[b]? = W.heap[b]? := fun W hW => (str_calls hword W (htab.rests (hW.fz hF)) #[.int .i64 9] (tsrel_cons_mk (by rw [TRel]; exact .int _ _) tsrel_nil_mk)).mono fun e W' h => ⟨h.1, hW.trans h.2, h.2.2.2.2.2⟩
  obtain ⟨A, hA⟩ : ∃ A, w.heap.size = A := ⟨_, rfl⟩
  go_enter Tryz.func6, Tryz.ntmps6
  go_wp2_with fail
  refine (hf _ hR0).mono ?_
  rintro e w1 ⟨rfl, hR1, hB1⟩
  have hA1 := (hB1 _ (by simp)).trans hA0
  clear hB1 hf
  rw [hA] at hA1
  obtain ⟨a10, a11, a12, a13, a14⟩ := box5 hA1
  go_wp2_with fail
  refine (hw _ hR1).mono ?_
  rintro e w2 ⟨rfl, hR2, hB2⟩
  have hA2 := (hB2 _ (lt_of_block hA1)).trans hA1
  clear hB2 a10 a11 a12 a13 a14 hA1 hR1 hR0 hA0
  obtain ⟨a20, a21, a22, a23, a24⟩ := box5 hA2
  go_wp2_with fail
  refine (hw _ hR2).mono ?_
  rintro e w3 ⟨rfl, hR3, hB3⟩
  have hA3 := (hB3 _ (lt_of_block hA2)).trans hA2
  clear hB3 a20 a21 a22 a23 a24 hA2 hR2
  have hA4 : ((w3.alloc (.cells #[.string wo] 9)).alloc (.cells #[.slice (some ⟨w3.heap.size, 0, none⟩) 1 1] 40)).heap[A]? = some (.cells #[.int .i64 9, .int .i64 ft, .slice pr nr cr, .slice ps ns cs, .slice pg ng cg] 25 (0, 0)) := by
    have := lt_of_block hA3
    rw [Below.heap_alloc _ _ _ (by simp; omega), Below.heap_alloc _ _ _ this]
    exact hA3
  have hR4 : Rests w ((w3.alloc (.cells #[.string wo] 9)).alloc (.cells #[.slice (some ⟨w3.heap.size, 0, none⟩) 1 1] 40)) := hR3.trans ⟨rfl, rfl, rfl, by simp; omega, fun k hk => (Below.heap_alloc _ _ _ (by simp; omega)).trans (Below.heap_alloc _ _ _ hk)⟩
  have O4 : OutIn ((w3.alloc (.cells #[.string wo] 9)).alloc (.cells #[.slice (some ⟨w3.heap.size, 0, none⟩) 1 1] 40)) A (w3.heap.size + 1) 40 9 [wo] (.slice (some ⟨w3.heap.size, 0, none⟩) 1 1) := by
    refine ⟨?_, ⟨rfl, .inr ⟨w3.heap.size, 1, #[.string wo], rfl, by have := hR3.2.2.2.1; omega, ?_, Nat.le_refl _, by unfold maxLen; omega, rfl, rfl⟩⟩, by decide⟩
    · have := heap_alloc_new (w3.alloc (.cells #[.string wo] 9)) (.cells #[.slice (some ⟨w3.heap.size, 0, none⟩) 1 1] 40)
      simpa using this
    · rw [Below.heap_alloc _ _ _ (by simp)]
      exact heap_alloc_new w3 _
  have hU : A ≤ w3.heap.size + 1 := by have := hR3.2.2.2.1; omega
  have hAU : A ≠ w3.heap.size + 1 := by have := lt_of_block hA3; omega
  clear hA3 hR3 hw
  obtain ⟨a40, a41, a42, a43, a44⟩ := box5 hA4
  have c4 := cell_of_one O4.blk
  have hs2 : (((ns : Nat) : Int) == 1) = false := by simp; omega
  go_wp2_with fail
  revert O4 hA4 hR4 hU hAU a40 a41 a42 a43 a44 c4
  generalize ((w3.alloc (.cells #[.string wo] 9)).alloc (.cells #[.slice (some ⟨w3.heap.size, 0, none⟩) 1 1] 40)) = W4
  generalize w3.heap.size + 1 = U
  generalize w3.heap.size = G
  intro hA4 hR4 O4 hU hAU a40 a41 a42 a43 a44 c4
  go_wp2
  go_loopw [83] (fun i wr => ∃ k : Nat, k ≤ ns ∧ i = .int .i64 k ∧ Rests w wr ∧ wr.heap[A]? = some (.cells #[.int .i64 9, .int .i64 ft, .slice pr nr cr, .slice ps ns cs, .slice pg ng cg] 25 (0, 0)) ∧ ∃ v, OutIn wr A U 40 9 (LL k) v)
    (fun i _ => ns - (Go.RowKit.intOf i).toNat)
  case atStart => exact ⟨0, Nat.zero_le _, rfl, hR4, hA4, _, by rw [hLL0]; exact O4⟩
  case round =>
    obtain ⟨k, hk, rfl, hRr, hAr, v, Or⟩ := hrel
    clear O4 hA4 hR4 a40 a41 a42 a43 a44 c4 hLL0
    obtain ⟨p0, k0, rfl⟩ := Or.slice
    obtain ⟨a0, a1, a2, a3, a4⟩ := box5 hAr
    have cU := cell_of_one Or.blk
    have hlen := hbd k hk
    obtain ⟨i1, hi1, hz10, hz11, hz12⟩ := info_parts (show (Tryz.prog.info? 9).map (fun i => (i.zero, i.size, i.bytes)) = some (some (.string ByteArray.empty), 1, 16) by kernel_rfl)
    by_cases hkn : k < ns
    · obtain ⟨b, o, rfl, hbw, d0, hdk, Dk⟩ := hrows k hkn
      have d1 : wr.cell? ⟨b, o + k, none⟩ = some (.slice (pp k) (nn k) (cc k)) := (World.cell?_of_block (hRr.2.2.2.2 b hbw)).trans d0
      clear d0
      by_cases hk0 : 0 < k
      · have hbar : 0 < k ∨ (9 : Int) ≠ 9 := .inl hk0
        have Ob : OutIn (wr.alloc (.cells #[.string ⟨#[124]⟩] 9)) A U 40 9 (LL k) (.slice p0 (LL k).length k0) := Or.blocks fun b hb => Below.heap_alloc _ _ _ hb
        have hn : ∀ (j : Nat) u, [Value.string ⟨#[124]⟩][j]? = some u → (wr.alloc (.cells #[.string ⟨#[124]⟩] 9)).cell? ((⟨wr.heap.size, 0, none⟩ : Addr).add j) = some u := by
          intro j u hj
          match j, hj with
          | 0, hj => simp at hj; subst hj; simp [Addr.add]
        have hBa : A ≤ (wr.alloc (.cells #[.string ⟨#[124]⟩] 9)).heap.size := by have := hRr.2.2.2.1; simp; omega
        go_wp2_with (at_builtin; refine wpList_append_id rfl (.tmp 95) (.tmp 96) 40 rfl A 9 i1 (.string ByteArray.empty) 1 16 Tryz.underlying40 hi1 hz10 hz11 hz12 rfl (by decide) (.slice p0 (LL k).length k0) (LL k).length ((LL k).map Value.string) rfl Ob.own ⟨wr.heap.size, 0, none⟩ 1 1 [.string ⟨#[124]⟩] rfl rfl hn (by intro u hu; simp at hu; subst hu; rfl) (by unfold maxLen; omega) (by omega) hBa ?_)
        intro v' w' hown hgrow hid
        obtain ⟨f1, f2, g2, c2, rfl⟩ := OutIn.push_facts Ob hown hgrow
        have O6 := OutIn.push Ob hown hgrow (by simpa using hid)
        have hL6 := Left.of_push (w := wr) (U := U) (v' := .slice (some ⟨g2, 0, none⟩) ((LL k).length + 1) c2) (by simp) (fun b hb => Below.heap_alloc _ _ _ hb) rfl rfl rfl hgrow
        have hR6 := hL6.rests hRr hA.symm Or hU
        have hA6 := (hL6.block A (lt_of_block hAr) hAU (Or.apart hAr (by decide))).trans hAr
        clear hL6 hown hgrow hid hn hBa Ob
        go_wp2_with fail
        refine (wcl (d := dd k) (s := ss k) _ hR6 hF htab (pp k) (nn k) (cc k) Dk hdk A U (LL k ++ [⟨#[124]⟩]) _ O6 hA.symm hU (by simp; omega) A _ hA6 hAU).mono ?_
        rintro e w8 ⟨rfl, v8, O8, hR8, hA8⟩
        have hq := hLL k hkn
        rw [if_pos hbar] at hq
        clear O6 hR6 hA6 f1 f2 a0 a1 a2 a3 a4 cU d1 Or hAr hRr hLL hrows hJ hbd Dk hdk
        go_wp2
        go_roundw
        case rel => exact ⟨k + 1, by omega, by simp, hR8, hA8, v8, by rw [hq]; exact O8⟩
        case measure => simp [Go.RowKit.intOf]; omega

      · have hk1 : k = 0 := by omega
        subst hk1
        rw [Nat.add_zero] at d1
        go_wp2_with fail
        refine (wcl (d := dd 0) (s := ss 0) _ hRr hF htab (pp 0) (nn 0) (cc 0) Dk hdk A U (LL 0) _ Or hA.symm hU (by omega) A _ hAr hAU).mono ?_
        rintro e w8 ⟨rfl, v8, O8, hR8, hA8⟩
        have hq := hLL 0 hkn
        rw [if_neg (by decide)] at hq
        clear a0 a1 a2 a3 a4 cU d1 Or hAr hRr hLL hrows hJ hbd Dk hdk
        go_wp2
        go_roundw
        case rel => exact ⟨1, by omega, by simp, hR8, hA8, v8, by rw [show (1 : Nat) = 0 + 1 from rfl, hq]; exact O8⟩
        case measure => simp [Go.RowKit.intOf]; omega

    · have hk2 : k = ns := by omega
      subst hk2
      go_wp2_with fail
      refine (str_calls hJ wr (htab.rests (hRr.fz hF)) #[_, _] (tsrel_cons_mk (by rw [TRel]; exact out_drel Or) (tsrel_cons_mk (by rw [TRel]; exact .str _) tsrel_nil_mk))).mono ?_
      rintro e w9 ⟨rfl, hR9⟩
      have hRR := hRr.trans hR9
      clear Or hAr a0 a1 a2 a3 a4 cU
      go_wp2
      go_ret2
      exact ⟨rfl, hRR⟩

set_option maxHeartbeats 16000000 in
set_option maxRecDepth 100000 in
theorem write_m1 (ft f : Int) (wo : ByteArray) (hform : Does Tryz.prog 13 [.c (.d (.int .i64 9))] [] (.c (.d (.int .i64 f))) none []) (hword : Does Tryz.prog 14 [.c (.d (.int .i64 9))] [] (.c (.d (.str wo))) none [])
    (w : World) (F : Nat → Prop) (hF : ∀ b, F b → b < w.heap.size) (htab : TabOk w F) (pr pg : Option Addr) (b o : Nat) (nr cr ns cs ng cg : Nat) (dr dg : Dat) (hdr : DRel w F dr (.slice pr nr cr)) (hdg : DRel w F dg (.slice pg ng cg)) (sr sg sf : ByteArray)
    (out : ByteArray) (hwo : wo.toList.isEmpty = false) (nn : Nat → Nat) (pp : Nat → Option Addr) (cc : Nat → Nat) (dd : Nat → Dat) (ss : Nat → ByteArray) (LL : Nat → List ByteArray) (hns : ns ≤ 1000000)
    (hrows : ∀ j, j < ns → b < w.heap.size ∧ w.cell? ⟨b, o + j, none⟩ = some (.slice (pp j) (nn j) (cc j)) ∧ DRel w F (dd j) (.slice (pp j) (nn j) (cc j)) ∧ (nn j ≠ 0 → Does Tryz.prog 18 [.c (.d (dd j))] [] (.c (.d (.str (ss j)))) none []))
    (hbd : ∀ j, j ≤ ns → (LL j).length + 2 ≤ 1000000) (hLL : ∀ j, j < ns → LL (j + 1) = outAdd (if 0 < j ∨ (9 : Int) ≠ 9 then LL j ++ [⟨#[124]⟩] else LL j) (nn j) (ss j)) (hLL0 : LL 0 = [wo]) (hs1 : 0 < ns ∧ ns < 2) (hone : nn 0 ≠ 0)
    (hJ : Does Tryz.prog 19 [.c (.d (fr 1 (fun x => [.str x]) ByteArray.empty (LL ns))), .c (.d (.str ⟨#[32]⟩))] [] (.c (.d (.str out))) none []) (hb1 : (Go.bits .and .i64 f 1 != 0) = false) (hb2 : (Go.bits .and .i64 f 2 != 0) = false) (hb4 : (Go.bits .and .i64 f 4 != 0) = false) (hb8 : (Go.bits .and .i64 f 8 != 0) = true) :
    Calls Tryz.prog 6 #[.agg #[.int .i64 9, .int .i64 ft, .slice pr nr cr, .slice (some ⟨b, o, none⟩) ns cs, .slice pg ng cg]] w fun e w' => e = .returned (.tuple #[.string out, .int .i64 0]) ∧ Rests w w' := by
  have hR0 : Rests w (w.alloc (.cells #[.int .i64 9, .int .i64 ft, .slice pr nr cr, .slice (some ⟨b, o, none⟩) ns cs, .slice pg ng cg] 25)) := ⟨rfl, rfl, rfl, by simp, fun k hk => Below.heap_alloc w _ _ hk⟩
  have hA0 := heap_alloc_new w (.cells #[.int .i64 9, .int .i64 ft, .slice pr nr cr, .slice (some ⟨b, o, none⟩) ns cs, .slice pg ng cg] 25)
  have hf : ∀ W, Rests w W → Calls Tryz.prog 13 #[.int .i64 9] W fun e W' => e = .returned (.int .i64 f) ∧ Rests w W' ∧ ∀ b, b < W.heap.size → W'.heap[b]? = W.heap[b]? := fun W hW => (int_calls hform W (htab.rests (hW.fz hF)) #[.int .i64 9] (tsrel_cons_mk (by rw [TRel]; exact .int _ _) tsrel_nil_mk)).mono fun e W' h => ⟨h.1, hW.trans h.2, h.2.2.2.2.2⟩
  have hw : ∀ W, Rests w W → Calls Tryz.prog 14 #[.int .i64 9] W fun e W' => e = .returned (.string wo) ∧ Rests w W' ∧ ∀ b, b < W.heap.size → W'.heap[b]? = W.heap[b]? := fun W hW => (str_calls hword W (htab.rests (hW.fz hF)) #[.int .i64 9] (tsrel_cons_mk (by rw [TRel]; exact .int _ _) tsrel_nil_mk)).mono fun e W' h => ⟨h.1, hW.trans h.2, h.2.2.2.2.2⟩
  obtain ⟨A, hA⟩ : ∃ A, w.heap.size = A := ⟨_, rfl⟩
  go_enter Tryz.func6, Tryz.ntmps6
  go_wp2_with fail
  refine (hf _ hR0).mono ?_
  rintro e w1 ⟨rfl, hR1, hB1⟩
  have hA1 := (hB1 _ (by simp)).trans hA0
  clear hB1 hf
  rw [hA] at hA1
  obtain ⟨a10, a11, a12, a13, a14⟩ := box5 hA1
  go_wp2_with fail
  refine (hw _ hR1).mono ?_
  rintro e w2 ⟨rfl, hR2, hB2⟩
  have hA2 := (hB2 _ (lt_of_block hA1)).trans hA1
  clear hB2 a10 a11 a12 a13 a14 hA1 hR1 hR0 hA0
  obtain ⟨a20, a21, a22, a23, a24⟩ := box5 hA2
  go_wp2_with fail
  refine (hw _ hR2).mono ?_
  rintro e w3 ⟨rfl, hR3, hB3⟩
  have hA3 := (hB3 _ (lt_of_block hA2)).trans hA2
  clear hB3 a20 a21 a22 a23 a24 hA2 hR2
  have hA4 : ((w3.alloc (.cells #[.string wo] 9)).alloc (.cells #[.slice (some ⟨w3.heap.size, 0, none⟩) 1 1] 40)).heap[A]? = some (.cells #[.int .i64 9, .int .i64 ft, .slice pr nr cr, .slice (some ⟨b, o, none⟩) ns cs, .slice pg ng cg] 25 (0, 0)) := by
    have := lt_of_block hA3
    rw [Below.heap_alloc _ _ _ (by simp; omega), Below.heap_alloc _ _ _ this]
    exact hA3
  have hR4 : Rests w ((w3.alloc (.cells #[.string wo] 9)).alloc (.cells #[.slice (some ⟨w3.heap.size, 0, none⟩) 1 1] 40)) := hR3.trans ⟨rfl, rfl, rfl, by simp; omega, fun k hk => (Below.heap_alloc _ _ _ (by simp; omega)).trans (Below.heap_alloc _ _ _ hk)⟩
  have O4 : OutIn ((w3.alloc (.cells #[.string wo] 9)).alloc (.cells #[.slice (some ⟨w3.heap.size, 0, none⟩) 1 1] 40)) A (w3.heap.size + 1) 40 9 [wo] (.slice (some ⟨w3.heap.size, 0, none⟩) 1 1) := by
    refine ⟨?_, ⟨rfl, .inr ⟨w3.heap.size, 1, #[.string wo], rfl, by have := hR3.2.2.2.1; omega, ?_, Nat.le_refl _, by unfold maxLen; omega, rfl, rfl⟩⟩, by decide⟩
    · have := heap_alloc_new (w3.alloc (.cells #[.string wo] 9)) (.cells #[.slice (some ⟨w3.heap.size, 0, none⟩) 1 1] 40)
      simpa using this
    · rw [Below.heap_alloc _ _ _ (by simp)]
      exact heap_alloc_new w3 _
  have hU : A ≤ w3.heap.size + 1 := by have := hR3.2.2.2.1; omega
  have hAU : A ≠ w3.heap.size + 1 := by have := lt_of_block hA3; omega
  clear hA3 hR3 hw
  obtain ⟨a40, a41, a42, a43, a44⟩ := box5 hA4
  have c4 := cell_of_one O4.blk
  obtain ⟨hbw, d0, _, _⟩ := hrows 0 (by omega)
  have d2 : ((w3.alloc (.cells #[.string wo] 9)).alloc (.cells #[.slice (some ⟨w3.heap.size, 0, none⟩) 1 1] 40)).cell? ⟨b, o, none⟩ = some (.slice (pp 0) (nn 0) (cc 0)) := (World.cell?_of_block (hR4.2.2.2.2 b hbw)).trans (by rw [Nat.add_zero] at d0; exact d0)
  have hn1 : (((nn 0 : Nat) : Int) == 0) = false := by simp; omega
  have hs2 : (((ns : Nat) : Int) == 1) = true := by simp; omega
  have hs3 : (0 : Int) < (ns : Int) := by omega
  clear d0 hs1 hone
  go_wp2_with fail
  revert O4 hA4 hR4 hU hAU a40 a41 a42 a43 a44 c4 d2
  generalize ((w3.alloc (.cells #[.string wo] 9)).alloc (.cells #[.slice (some ⟨w3.heap.size, 0, none⟩) 1 1] 40)) = W4
  generalize w3.heap.size + 1 = U
  generalize w3.heap.size = G
  intro hA4 hR4 O4 hU hAU a40 a41 a42 a43 a44 c4 d2
  go_wp2
  clear d2 hn1 hs3
  go_loopw [83] (fun i wr => ∃ k : Nat, k ≤ ns ∧ i = .int .i64 k ∧ Rests w wr ∧ wr.heap[A]? = some (.cells #[.int .i64 9, .int .i64 ft, .slice pr nr cr, .slice (some ⟨b, o, none⟩) ns cs, .slice pg ng cg] 25 (0, 0)) ∧ ∃ v, OutIn wr A U 40 9 (LL k) v)
    (fun i _ => ns - (Go.RowKit.intOf i).toNat)
  case atStart => exact ⟨0, Nat.zero_le _, rfl, hR4, hA4, _, by rw [hLL0]; exact O4⟩
  case round =>
    obtain ⟨k, hk, rfl, hRr, hAr, v, Or⟩ := hrel
    clear O4 hA4 hR4 a40 a41 a42 a43 a44 c4 hLL0
    obtain ⟨p0, k0, rfl⟩ := Or.slice
    obtain ⟨a0, a1, a2, a3, a4⟩ := box5 hAr
    have cU := cell_of_one Or.blk
    have hlen := hbd k hk
    obtain ⟨i1, hi1, hz10, hz11, hz12⟩ := info_parts (show (Tryz.prog.info? 9).map (fun i => (i.zero, i.size, i.bytes)) = some (some (.string ByteArray.empty), 1, 16) by kernel_rfl)
    by_cases hkn : k < ns
    · obtain ⟨hbw, d0, hdk, Dk⟩ := hrows k hkn
      have d1 : wr.cell? ⟨b, o + k, none⟩ = some (.slice (pp k) (nn k) (cc k)) := (World.cell?_of_block (hRr.2.2.2.2 b hbw)).trans d0
      clear d0
      by_cases hk0 : 0 < k
      · have hbar : 0 < k ∨ (9 : Int) ≠ 9 := .inl hk0
        have Ob : OutIn (wr.alloc (.cells #[.string ⟨#[124]⟩] 9)) A U 40 9 (LL k) (.slice p0 (LL k).length k0) := Or.blocks fun b hb => Below.heap_alloc _ _ _ hb
        have hn : ∀ (j : Nat) u, [Value.string ⟨#[124]⟩][j]? = some u → (wr.alloc (.cells #[.string ⟨#[124]⟩] 9)).cell? ((⟨wr.heap.size, 0, none⟩ : Addr).add j) = some u := by
          intro j u hj
          match j, hj with
          | 0, hj => simp at hj; subst hj; simp [Addr.add]
        have hBa : A ≤ (wr.alloc (.cells #[.string ⟨#[124]⟩] 9)).heap.size := by have := hRr.2.2.2.1; simp; omega
        go_wp2_with (at_builtin; refine wpList_append_id rfl (.tmp 95) (.tmp 96) 40 rfl A 9 i1 (.string ByteArray.empty) 1 16 Tryz.underlying40 hi1 hz10 hz11 hz12 rfl (by decide) (.slice p0 (LL k).length k0) (LL k).length ((LL k).map Value.string) rfl Ob.own ⟨wr.heap.size, 0, none⟩ 1 1 [.string ⟨#[124]⟩] rfl rfl hn (by intro u hu; simp at hu; subst hu; rfl) (by unfold maxLen; omega) (by omega) hBa ?_)
        intro v' w' hown hgrow hid
        obtain ⟨f1, f2, g2, c2, rfl⟩ := OutIn.push_facts Ob hown hgrow
        have O6 := OutIn.push Ob hown hgrow (by simpa using hid)
        have hL6 := Left.of_push (w := wr) (U := U) (v' := .slice (some ⟨g2, 0, none⟩) ((LL k).length + 1) c2) (by simp) (fun b hb => Below.heap_alloc _ _ _ hb) rfl rfl rfl hgrow
        have hR6 := hL6.rests hRr hA.symm Or hU
        have hA6 := (hL6.block A (lt_of_block hAr) hAU (Or.apart hAr (by decide))).trans hAr
        clear hL6 hown hgrow hid hn hBa Ob
        go_wp2_with fail
        refine (wcl (d := dd k) (s := ss k) _ hR6 hF htab (pp k) (nn k) (cc k) Dk hdk A U (LL k ++ [⟨#[124]⟩]) _ O6 hA.symm hU (by simp; omega) A _ hA6 hAU).mono ?_
        rintro e w8 ⟨rfl, v8, O8, hR8, hA8⟩
        have hq := hLL k hkn
        rw [if_pos hbar] at hq
        clear O6 hR6 hA6 f1 f2 a0 a1 a2 a3 a4 cU d1 Or hAr hRr hLL hrows hJ hbd Dk hdk
        go_wp2
        go_roundw
        case rel => exact ⟨k + 1, by omega, by simp, hR8, hA8, v8, by rw [hq]; exact O8⟩
        case measure => simp [Go.RowKit.intOf]; omega

      · have hk1 : k = 0 := by omega
        subst hk1
        rw [Nat.add_zero] at d1
        go_wp2_with fail
        refine (wcl (d := dd 0) (s := ss 0) _ hRr hF htab (pp 0) (nn 0) (cc 0) Dk hdk A U (LL 0) _ Or hA.symm hU (by omega) A _ hAr hAU).mono ?_
        rintro e w8 ⟨rfl, v8, O8, hR8, hA8⟩
        have hq := hLL 0 hkn
        rw [if_neg (by decide)] at hq
        clear a0 a1 a2 a3 a4 cU d1 Or hAr hRr hLL hrows hJ hbd Dk hdk
        go_wp2
        go_roundw
        case rel => exact ⟨1, by omega, by simp, hR8, hA8, v8, by rw [show (1 : Nat) = 0 + 1 from rfl, hq]; exact O8⟩
        case measure => simp [Go.RowKit.intOf]; omega

    · have hk2 : k = ns := by omega
      subst hk2
      go_wp2_with fail
      refine (str_calls hJ wr (htab.rests (hRr.fz hF)) #[_, _] (tsrel_cons_mk (by rw [TRel]; exact out_drel Or) (tsrel_cons_mk (by rw [TRel]; exact .str _) tsrel_nil_mk))).mono ?_
      rintro e w9 ⟨rfl, hR9⟩
      have hRR := hRr.trans hR9
      clear Or hAr a0 a1 a2 a3 a4 cU
      go_wp2
      go_ret2
      exact ⟨rfl, hRR⟩

set_option maxHeartbeats 16000000 in
set_option maxRecDepth 100000 in
theorem write_fg (kd ft f : Int) (wo : ByteArray) (hform : Does Tryz.prog 13 [.c (.d (.int .i64 kd))] [] (.c (.d (.int .i64 f))) none []) (hword : Does Tryz.prog 14 [.c (.d (.int .i64 kd))] [] (.c (.d (.str wo))) none [])
    (w : World) (F : Nat → Prop) (hF : ∀ b, F b → b < w.heap.size) (htab : TabOk w F) (pr ps pg : Option Addr) (nr cr ns cs ng cg : Nat) (dr dg : Dat) (hdr : DRel w F dr (.slice pr nr cr)) (hdg : DRel w F dg (.slice pg ng cg)) (sr sg sf : ByteArray)
    (out : ByteArray) (hwo : wo.toList.isEmpty = false) (Dg : ng ≠ 0 → Does Tryz.prog 18 [.c (.d dg)] [] (.c (.d (.str sg))) none []) (rq : TV) (hrq : IsDat rq) (DOf : Does Tryz.prog 16 [.c (.d (.int .i64 ft))] [] rq none []) (DPr : Does Tryz.prog 15 [rq] [] (.c (.d (.str sf))) none []) (hft : ¬ ft < 0) (hft2 : ¬ 999 < ft)
    (hJ : Does Tryz.prog 19 [.c (.d (fr 1 (fun x => [.str x]) ByteArray.empty (outAdd [wo, sf] ng sg))), .c (.d (.str ⟨#[32]⟩))] [] (.c (.d (.str out))) none []) (hb1 : (Go.bits .and .i64 f 1 != 0) = true) (hb2 : (Go.bits .and .i64 f 2 != 0) = false) (hb4 : (Go.bits .and .i64 f 4 != 0) = true) (hb8 : (Go.bits .and .i64 f 8 != 0) = false) :
    Calls Tryz.prog 6 #[.agg #[.int .i64 kd, .int .i64 ft, .slice pr nr cr, .slice ps ns cs, .slice pg ng cg]] w fun e w' => e = .returned (.tuple #[.string out, .int .i64 0]) ∧ Rests w w' := by
  have hR0 : Rests w (w.alloc (.cells #[.int .i64 kd, .int .i64 ft, .slice pr nr cr, .slice ps ns cs, .slice pg ng cg] 25)) := ⟨rfl, rfl, rfl, by simp, fun k hk => Below.heap_alloc w _ _ hk⟩
  have hA0 := heap_alloc_new w (.cells #[.int .i64 kd, .int .i64 ft, .slice pr nr cr, .slice ps ns cs, .slice pg ng cg] 25)
  have hf : ∀ W, Rests w W → Calls Tryz.prog 13 #[.int .i64 kd] W fun e W' => e = .returned (.int .i64 f) ∧ Rests w W' ∧ ∀ b, b < W.heap.size → W'.heap[b]? = W.heap[b]? := fun W hW => (int_calls hform W (htab.rests (hW.fz hF)) #[.int .i64 kd] (tsrel_cons_mk (by rw [TRel]; exact .int _ _) tsrel_nil_mk)).mono fun e W' h => ⟨h.1, hW.trans h.2, h.2.2.2.2.2⟩
  have hw : ∀ W, Rests w W → Calls Tryz.prog 14 #[.int .i64 kd] W fun e W' => e = .returned (.string wo) ∧ Rests w W' ∧ ∀ b, b < W.heap.size → W'.heap[b]? = W.heap[b]? := fun W hW => (str_calls hword W (htab.rests (hW.fz hF)) #[.int .i64 kd] (tsrel_cons_mk (by rw [TRel]; exact .int _ _) tsrel_nil_mk)).mono fun e W' h => ⟨h.1, hW.trans h.2, h.2.2.2.2.2⟩
  obtain ⟨A, hA⟩ : ∃ A, w.heap.size = A := ⟨_, rfl⟩
  go_enter Tryz.func6, Tryz.ntmps6
  go_wp2_with fail
  refine (hf _ hR0).mono ?_
  rintro e w1 ⟨rfl, hR1, hB1⟩
  have hA1 := (hB1 _ (by simp)).trans hA0
  clear hB1 hf
  rw [hA] at hA1
  obtain ⟨a10, a11, a12, a13, a14⟩ := box5 hA1
  go_wp2_with fail
  refine (hw _ hR1).mono ?_
  rintro e w2 ⟨rfl, hR2, hB2⟩
  have hA2 := (hB2 _ (lt_of_block hA1)).trans hA1
  clear hB2 a10 a11 a12 a13 a14 hA1 hR1 hR0 hA0
  obtain ⟨a20, a21, a22, a23, a24⟩ := box5 hA2
  go_wp2_with fail
  refine (hw _ hR2).mono ?_
  rintro e w3 ⟨rfl, hR3, hB3⟩
  have hA3 := (hB3 _ (lt_of_block hA2)).trans hA2
  clear hB3 a20 a21 a22 a23 a24 hA2 hR2
  have hA4 : ((w3.alloc (.cells #[.string wo] 9)).alloc (.cells #[.slice (some ⟨w3.heap.size, 0, none⟩) 1 1] 40)).heap[A]? = some (.cells #[.int .i64 kd, .int .i64 ft, .slice pr nr cr, .slice ps ns cs, .slice pg ng cg] 25 (0, 0)) := by
    have := lt_of_block hA3
    rw [Below.heap_alloc _ _ _ (by simp; omega), Below.heap_alloc _ _ _ this]
    exact hA3
  have hR4 : Rests w ((w3.alloc (.cells #[.string wo] 9)).alloc (.cells #[.slice (some ⟨w3.heap.size, 0, none⟩) 1 1] 40)) := hR3.trans ⟨rfl, rfl, rfl, by simp; omega, fun k hk => (Below.heap_alloc _ _ _ (by simp; omega)).trans (Below.heap_alloc _ _ _ hk)⟩
  have O4 : OutIn ((w3.alloc (.cells #[.string wo] 9)).alloc (.cells #[.slice (some ⟨w3.heap.size, 0, none⟩) 1 1] 40)) A (w3.heap.size + 1) 40 9 [wo] (.slice (some ⟨w3.heap.size, 0, none⟩) 1 1) := by
    refine ⟨?_, ⟨rfl, .inr ⟨w3.heap.size, 1, #[.string wo], rfl, by have := hR3.2.2.2.1; omega, ?_, Nat.le_refl _, by unfold maxLen; omega, rfl, rfl⟩⟩, by decide⟩
    · have := heap_alloc_new (w3.alloc (.cells #[.string wo] 9)) (.cells #[.slice (some ⟨w3.heap.size, 0, none⟩) 1 1] 40)
      simpa using this
    · rw [Below.heap_alloc _ _ _ (by simp)]
      exact heap_alloc_new w3 _
  have hU : A ≤ w3.heap.size + 1 := by have := hR3.2.2.2.1; omega
  have hAU : A ≠ w3.heap.size + 1 := by have := lt_of_block hA3; omega
  clear hA3 hR3 hw
  obtain ⟨a40, a41, a42, a43, a44⟩ := box5 hA4
  have c4 := cell_of_one O4.blk
  have lU : w3.heap.size + 1 < ((w3.alloc (.cells #[.string wo] 9)).alloc (.cells #[.slice (some ⟨w3.heap.size, 0, none⟩) 1 1] 40)).heap.size := lt_of_block O4.blk
  have lA := lt_of_block hA4
  have hBW : A ≤ ((w3.alloc (.cells #[.string wo] 9)).alloc (.cells #[.slice (some ⟨w3.heap.size, 0, none⟩) 1 1] 40)).heap.size := by omega
  go_wp2_with fail
  revert O4 hA4 hR4 hU hAU a40 a41 a42 a43 a44 c4 lU lA hBW
  generalize ((w3.alloc (.cells #[.string wo] 9)).alloc (.cells #[.slice (some ⟨w3.heap.size, 0, none⟩) 1 1] 40)) = W4
  generalize w3.heap.size + 1 = U
  generalize w3.heap.size = G
  intro hA4 hR4 O4 hU hAU a40 a41 a42 a43 a44 c4 lU lA hBW
  have z4 : Rests w W4.drew := hR4
  have C1 := told_calls2 hrq DOf W4.drew (htab.rests (z4.fz hF)) #[.int .i64 ft] (tsrel_cons_mk (by rw [TRel]; exact .int _ _) tsrel_nil_mk)
  have d40 : W4.drew.cell? ⟨A, 1, none⟩ = some (.int .i64 ft) := a41
  have d41 : W4.drew.cell? ⟨U, 0, none⟩ = some (.slice (some ⟨G, 0, none⟩) 1 1) := c4
  have O40 : OutIn W4.drew A U 40 9 [wo] (.slice (some ⟨G, 0, none⟩) 1 1) := O4.blocks fun b _ => rfl
  obtain ⟨i1, hi1, hz10, hz11, hz12⟩ := info_parts (show (Tryz.prog.info? 9).map (fun i => (i.zero, i.size, i.bytes)) = some (some (.string ByteArray.empty), 1, 16) by kernel_rfl)
  go_region_law (first
    | (refine step_append_id rfl (.tmp 38) (.tmp 43) 40 rfl A 9 i1 (.string ByteArray.empty) 1 16 Tryz.underlying40 hi1 hz10 hz11 hz12 rfl (by decide) (.slice (some ⟨G, 0, none⟩) 1 1) 1 [Value.string wo] (by simp [Act.eval, Act.put]) (by assumption) ⟨x2.heap.size, 0, none⟩ 1 1 [.string sf] (by simp [Act.eval, Act.put]) rfl (by assumption) (by intro u hu; simp at hu; subst hu; rfl) (by unfold maxLen; omega) (by omega) (by assumption) ?_
       intro v' w' hown hgrow hid
       obtain ⟨f1, f2, g2, c2, rfl⟩ := OutIn.push_facts (by assumption) hown hgrow)
    | (refine step_call rfl 16 #[.tmp 40] #[3] rfl DOf.1 #[.int .i64 ft] (by simp [Act.eval, Act.put]) C1 ?_
       rintro e x1 ⟨q, rfl, hX1, hq⟩
       refine ⟨_, rfl, ?_⟩
       have b1 := cell_of_one (O40.blocks hX1.2.2.2.2).blk)
    | (refine step_call rfl 15 #[.tmp 41] #[47] rfl DPr.1 #[q] (by simp [Act.eval, Act.put]) (str_calls DPr x1 (htab.rests ((z4.trans hX1).fz hF)) #[q] (tsrel_cons_mk hq tsrel_nil_mk)) ?_
       rintro e x2 ⟨rfl, hX2⟩
       refine ⟨_, rfl, ?_⟩
       have hX := Rests.trans hX1 hX2
       have hX0 := z4.trans hX
       have O1 : OutIn x2 A U 40 9 [wo] (.slice (some ⟨G, 0, none⟩) 1 1) := O40.blocks hX.2.2.2.2
       have O2 : OutIn (x2.alloc (.cells #[.string sf] 9)) A U 40 9 [wo] (.slice (some ⟨G, 0, none⟩) 1 1) := O1.blocks fun b hb => Below.heap_alloc _ _ _ hb
       have o2 := O2.own
       have b2 := cell_of_one O1.blk
       have b3 := cell_of_one O2.blk
       have hn : ∀ (j : Nat) u, [Value.string sf][j]? = some u → (x2.alloc (.cells #[.string sf] 9)).cell? ((⟨x2.heap.size, 0, none⟩ : Addr).add j) = some u := by
         intro j u hj
         match j, hj with
         | 0, hj => simp at hj; subst hj; simp [Addr.add]
       have hB2 : A ≤ (x2.alloc (.cells #[.string sf] 9)).heap.size := by have := hX0.2.2.2.1; simp at this ⊢; omega))
  all_goals
    have hs0 := hX.2.2.2.1
    have hb0 := hX.2.2.2.2
    have e1 : x2.os = W4.os := hX.1
    have e2 : x2.tape = W4.tape := hX.2.1
    have e3 : x2.output = W4.output := hX.2.2.1
    have O5 := OutIn.push O2 hown hgrow hid
    have hL5 := Left.of_push (w := W4) (U := U) (v' := .slice (some ⟨g2, 0, none⟩) (1 + 1) c2) (by simp at hs0 ⊢; omega) (fun b hb => (Below.heap_alloc _ _ _ (by simp at hs0; omega)).trans (hb0 b hb)) e1 e2 e3 hgrow
    have hR5 := hL5.rests hR4 hA.symm O4 hU
    have hA5 := (hL5.block A lA hAU (O4.apart hA4 (by decide))).trans hA4
    clear hs0 hb0 e1 e2 e3 hL5 hX hX1 hX2 hX0 O1 O2 o2 b1 b2 b3 hn hB2 hown hgrow hid f1 f2 O4 O40 hA4 hR4 a40 a41 a42 a43 a44 c4 d40 d41 C1 z4 lA lU hBW
    revert O5 hR5 hA5
    generalize w'.setCell ⟨U, 0, none⟩ (.slice (some ⟨g2, 0, none⟩) (1 + 1) c2) = W5
    intro O5 hR5 hA5
    obtain ⟨a50, a51, a52, a53, a54⟩ := box5 hA5
    have c5 := cell_of_one O5.blk
  all_goals
    go_wp2_with fail
    refine (wcl (d := dg) (s := sg) _ hR5 hF htab pg ng cg Dg hdg A U [wo, sf] _ O5 hA.symm hU (by simp) A _ hA5 hAU).mono ?_
    rintro e w7 ⟨rfl, v7, O7, hR7, hA7⟩
    clear O5 hA5 hR5 a50 a51 a52 a53 a54 c5
    obtain ⟨a70, a71, a72, a73, a74⟩ := box5 hA7
    have c7 := cell_of_one O7.blk
    obtain ⟨p7, k7, rfl⟩ := O7.slice
    go_wp2_with fail
    refine (str_calls hJ w7 (htab.rests (hR7.fz hF)) #[_, _] (tsrel_cons_mk (by rw [TRel]; exact out_drel O7) (tsrel_cons_mk (by rw [TRel]; exact .str _) tsrel_nil_mk))).mono ?_
    rintro e w9 ⟨rfl, hR9⟩
    have hRR := hR7.trans hR9
    clear O7 hA7 a70 a71 a72 a73 a74 c7
    go_wp2
    go_ret2
    exact ⟨rfl, hRR⟩
set_option maxHeartbeats 16000000 in
set_option maxRecDepth 100000 in
theorem write_fgm (ft f : Int) (wo : ByteArray) (hform : Does Tryz.prog 13 [.c (.d (.int .i64 8))] [] (.c (.d (.int .i64 f))) none []) (hword : Does Tryz.prog 14 [.c (.d (.int .i64 8))] [] (.c (.d (.str wo))) none [])
    (w : World) (F : Nat → Prop) (hF : ∀ b, F b → b < w.heap.size) (htab : TabOk w F) (pr ps pg : Option Addr) (nr cr ns cs ng cg : Nat) (dr dg : Dat) (hdr : DRel w F dr (.slice pr nr cr)) (hdg : DRel w F dg (.slice pg ng cg)) (sr sg sf : ByteArray)
    (out : ByteArray) (hwo : wo.toList.isEmpty = false) (Dg : ng ≠ 0 → Does Tryz.prog 18 [.c (.d dg)] [] (.c (.d (.str sg))) none []) (rq : TV) (hrq : IsDat rq) (DOf : Does Tryz.prog 16 [.c (.d (.int .i64 ft))] [] rq none []) (DPr : Does Tryz.prog 15 [rq] [] (.c (.d (.str sf))) none []) (hft : ¬ ft < 0) (hft2 : ¬ 999 < ft) (nn : Nat → Nat) (pp : Nat → Option Addr) (cc : Nat → Nat) (dd : Nat → Dat) (ss : Nat → ByteArray) (LL : Nat → List ByteArray) (hns : ns ≤ 1000000)
    (hrows : ∀ j, j < ns → ∃ b o, ps = some ⟨b, o, none⟩ ∧ b < w.heap.size ∧ w.cell? ⟨b, o + j, none⟩ = some (.slice (pp j) (nn j) (cc j)) ∧ DRel w F (dd j) (.slice (pp j) (nn j) (cc j)) ∧ (nn j ≠ 0 → Does Tryz.prog 18 [.c (.d (dd j))] [] (.c (.d (.str (ss j)))) none []))
    (hbd : ∀ j, j ≤ ns → (LL j).length + 2 ≤ 1000000) (hLL : ∀ j, j < ns → LL (j + 1) = outAdd (if 0 < j ∨ (8 : Int) ≠ 9 then LL j ++ [⟨#[124]⟩] else LL j) (nn j) (ss j)) (hLL0 : LL 0 = outAdd [wo, sf] ng sg)
    (hJ : Does Tryz.prog 19 [.c (.d (fr 1 (fun x => [.str x]) ByteArray.empty (LL ns))), .c (.d (.str ⟨#[32]⟩))] [] (.c (.d (.str out))) none []) (hb1 : (Go.bits .and .i64 f 1 != 0) = true) (hb2 : (Go.bits .and .i64 f 2 != 0) = false) (hb4 : (Go.bits .and .i64 f 4 != 0) = true) (hb8 : (Go.bits .and .i64 f 8 != 0) = true) :
    Calls Tryz.prog 6 #[.agg #[.int .i64 8, .int .i64 ft, .slice pr nr cr, .slice ps ns cs, .slice pg ng cg]] w fun e w' => e = .returned (.tuple #[.string out, .int .i64 0]) ∧ Rests w w' := by
  have hR0 : Rests w (w.alloc (.cells #[.int .i64 8, .int .i64 ft, .slice pr nr cr, .slice ps ns cs, .slice pg ng cg] 25)) := ⟨rfl, rfl, rfl, by simp, fun k hk => Below.heap_alloc w _ _ hk⟩
  have hA0 := heap_alloc_new w (.cells #[.int .i64 8, .int .i64 ft, .slice pr nr cr, .slice ps ns cs, .slice pg ng cg] 25)
  have hf : ∀ W, Rests w W → Calls Tryz.prog 13 #[.int .i64 8] W fun e W' => e = .returned (.int .i64 f) ∧ Rests w W' ∧ ∀ b, b < W.heap.size → W'.heap[b]? = W.heap[b]? := fun W hW => (int_calls hform W (htab.rests (hW.fz hF)) #[.int .i64 8] (tsrel_cons_mk (by rw [TRel]; exact .int _ _) tsrel_nil_mk)).mono fun e W' h => ⟨h.1, hW.trans h.2, h.2.2.2.2.2⟩
  have hw : ∀ W, Rests w W → Calls Tryz.prog 14 #[.int .i64 8] W fun e W' => e = .returned (.string wo) ∧ Rests w W' ∧ ∀ b, b < W.heap.size → W'.heap[b]? = W.heap[b]? := fun W hW => (str_calls hword W (htab.rests (hW.fz hF)) #[.int .i64 8] (tsrel_cons_mk (by rw [TRel]; exact .int _ _) tsrel_nil_mk)).mono fun e W' h => ⟨h.1, hW.trans h.2, h.2.2.2.2.2⟩
  obtain ⟨A, hA⟩ : ∃ A, w.heap.size = A := ⟨_, rfl⟩
  go_enter Tryz.func6, Tryz.ntmps6
  go_wp2_with fail
  refine (hf _ hR0).mono ?_
  rintro e w1 ⟨rfl, hR1, hB1⟩
  have hA1 := (hB1 _ (by simp)).trans hA0
  clear hB1 hf
  rw [hA] at hA1
  obtain ⟨a10, a11, a12, a13, a14⟩ := box5 hA1
  go_wp2_with fail
  refine (hw _ hR1).mono ?_
  rintro e w2 ⟨rfl, hR2, hB2⟩
  have hA2 := (hB2 _ (lt_of_block hA1)).trans hA1
  clear hB2 a10 a11 a12 a13 a14 hA1 hR1 hR0 hA0
  obtain ⟨a20, a21, a22, a23, a24⟩ := box5 hA2
  go_wp2_with fail
  refine (hw _ hR2).mono ?_
  rintro e w3 ⟨rfl, hR3, hB3⟩
  have hA3 := (hB3 _ (lt_of_block hA2)).trans hA2
  clear hB3 a20 a21 a22 a23 a24 hA2 hR2
  have hA4 : ((w3.alloc (.cells #[.string wo] 9)).alloc (.cells #[.slice (some ⟨w3.heap.size, 0, none⟩) 1 1] 40)).heap[A]? = some (.cells #[.int .i64 8, .int .i64 ft, .slice pr nr cr, .slice ps ns cs, .slice pg ng cg] 25 (0, 0)) := by
    have := lt_of_block hA3
    rw [Below.heap_alloc _ _ _ (by simp; omega), Below.heap_alloc _ _ _ this]
    exact hA3
  have hR4 : Rests w ((w3.alloc (.cells #[.string wo] 9)).alloc (.cells #[.slice (some ⟨w3.heap.size, 0, none⟩) 1 1] 40)) := hR3.trans ⟨rfl, rfl, rfl, by simp; omega, fun k hk => (Below.heap_alloc _ _ _ (by simp; omega)).trans (Below.heap_alloc _ _ _ hk)⟩
  have O4 : OutIn ((w3.alloc (.cells #[.string wo] 9)).alloc (.cells #[.slice (some ⟨w3.heap.size, 0, none⟩) 1 1] 40)) A (w3.heap.size + 1) 40 9 [wo] (.slice (some ⟨w3.heap.size, 0, none⟩) 1 1) := by
    refine ⟨?_, ⟨rfl, .inr ⟨w3.heap.size, 1, #[.string wo], rfl, by have := hR3.2.2.2.1; omega, ?_, Nat.le_refl _, by unfold maxLen; omega, rfl, rfl⟩⟩, by decide⟩
    · have := heap_alloc_new (w3.alloc (.cells #[.string wo] 9)) (.cells #[.slice (some ⟨w3.heap.size, 0, none⟩) 1 1] 40)
      simpa using this
    · rw [Below.heap_alloc _ _ _ (by simp)]
      exact heap_alloc_new w3 _
  have hU : A ≤ w3.heap.size + 1 := by have := hR3.2.2.2.1; omega
  have hAU : A ≠ w3.heap.size + 1 := by have := lt_of_block hA3; omega
  clear hA3 hR3 hw
  obtain ⟨a40, a41, a42, a43, a44⟩ := box5 hA4
  have c4 := cell_of_one O4.blk
  have lU : w3.heap.size + 1 < ((w3.alloc (.cells #[.string wo] 9)).alloc (.cells #[.slice (some ⟨w3.heap.size, 0, none⟩) 1 1] 40)).heap.size := lt_of_block O4.blk
  have lA := lt_of_block hA4
  have hBW : A ≤ ((w3.alloc (.cells #[.string wo] 9)).alloc (.cells #[.slice (some ⟨w3.heap.size, 0, none⟩) 1 1] 40)).heap.size := by omega
  go_wp2_with fail
  revert O4 hA4 hR4 hU hAU a40 a41 a42 a43 a44 c4 lU lA hBW
  generalize ((w3.alloc (.cells #[.string wo] 9)).alloc (.cells #[.slice (some ⟨w3.heap.size, 0, none⟩) 1 1] 40)) = W4
  generalize w3.heap.size + 1 = U
  generalize w3.heap.size = G
  intro hA4 hR4 O4 hU hAU a40 a41 a42 a43 a44 c4 lU lA hBW
  have z4 : Rests w W4.drew := hR4
  have C1 := told_calls2 hrq DOf W4.drew (htab.rests (z4.fz hF)) #[.int .i64 ft] (tsrel_cons_mk (by rw [TRel]; exact .int _ _) tsrel_nil_mk)
  have d40 : W4.drew.cell? ⟨A, 1, none⟩ = some (.int .i64 ft) := a41
  have d41 : W4.drew.cell? ⟨U, 0, none⟩ = some (.slice (some ⟨G, 0, none⟩) 1 1) := c4
  have O40 : OutIn W4.drew A U 40 9 [wo] (.slice (some ⟨G, 0, none⟩) 1 1) := O4.blocks fun b _ => rfl
  obtain ⟨i1, hi1, hz10, hz11, hz12⟩ := info_parts (show (Tryz.prog.info? 9).map (fun i => (i.zero, i.size, i.bytes)) = some (some (.string ByteArray.empty), 1, 16) by kernel_rfl)
  go_region_law (first
    | (refine step_append_id rfl (.tmp 38) (.tmp 43) 40 rfl A 9 i1 (.string ByteArray.empty) 1 16 Tryz.underlying40 hi1 hz10 hz11 hz12 rfl (by decide) (.slice (some ⟨G, 0, none⟩) 1 1) 1 [Value.string wo] (by simp [Act.eval, Act.put]) (by assumption) ⟨x2.heap.size, 0, none⟩ 1 1 [.string sf] (by simp [Act.eval, Act.put]) rfl (by assumption) (by intro u hu; simp at hu; subst hu; rfl) (by unfold maxLen; omega) (by omega) (by assumption) ?_
       intro v' w' hown hgrow hid
       obtain ⟨f1, f2, g2, c2, rfl⟩ := OutIn.push_facts (by assumption) hown hgrow)
    | (refine step_call rfl 16 #[.tmp 40] #[3] rfl DOf.1 #[.int .i64 ft] (by simp [Act.eval, Act.put]) C1 ?_
       rintro e x1 ⟨q, rfl, hX1, hq⟩
       refine ⟨_, rfl, ?_⟩
       have b1 := cell_of_one (O40.blocks hX1.2.2.2.2).blk)
    | (refine step_call rfl 15 #[.tmp 41] #[47] rfl DPr.1 #[q] (by simp [Act.eval, Act.put]) (str_calls DPr x1 (htab.rests ((z4.trans hX1).fz hF)) #[q] (tsrel_cons_mk hq tsrel_nil_mk)) ?_
       rintro e x2 ⟨rfl, hX2⟩
       refine ⟨_, rfl, ?_⟩
       have hX := Rests.trans hX1 hX2
       have hX0 := z4.trans hX
       have O1 : OutIn x2 A U 40 9 [wo] (.slice (some ⟨G, 0, none⟩) 1 1) := O40.blocks hX.2.2.2.2
       have O2 : OutIn (x2.alloc (.cells #[.string sf] 9)) A U 40 9 [wo] (.slice (some ⟨G, 0, none⟩) 1 1) := O1.blocks fun b hb => Below.heap_alloc _ _ _ hb
       have o2 := O2.own
       have b2 := cell_of_one O1.blk
       have b3 := cell_of_one O2.blk
       have hn : ∀ (j : Nat) u, [Value.string sf][j]? = some u → (x2.alloc (.cells #[.string sf] 9)).cell? ((⟨x2.heap.size, 0, none⟩ : Addr).add j) = some u := by
         intro j u hj
         match j, hj with
         | 0, hj => simp at hj; subst hj; simp [Addr.add]
       have hB2 : A ≤ (x2.alloc (.cells #[.string sf] 9)).heap.size := by have := hX0.2.2.2.1; simp at this ⊢; omega))
  all_goals
    have hs0 := hX.2.2.2.1
    have hb0 := hX.2.2.2.2
    have e1 : x2.os = W4.os := hX.1
    have e2 : x2.tape = W4.tape := hX.2.1
    have e3 : x2.output = W4.output := hX.2.2.1
    have O5 := OutIn.push O2 hown hgrow hid
    have hL5 := Left.of_push (w := W4) (U := U) (v' := .slice (some ⟨g2, 0, none⟩) (1 + 1) c2) (by simp at hs0 ⊢; omega) (fun b hb => (Below.heap_alloc _ _ _ (by simp at hs0; omega)).trans (hb0 b hb)) e1 e2 e3 hgrow
    have hR5 := hL5.rests hR4 hA.symm O4 hU
    have hA5 := (hL5.block A lA hAU (O4.apart hA4 (by decide))).trans hA4
    clear hs0 hb0 e1 e2 e3 hL5 hX hX1 hX2 hX0 O1 O2 o2 b1 b2 b3 hn hB2 hown hgrow hid f1 f2 O4 O40 hA4 hR4 a40 a41 a42 a43 a44 c4 d40 d41 C1 z4 lA lU hBW
    revert O5 hR5 hA5
    generalize w'.setCell ⟨U, 0, none⟩ (.slice (some ⟨g2, 0, none⟩) (1 + 1) c2) = W5
    intro O5 hR5 hA5
    obtain ⟨a50, a51, a52, a53, a54⟩ := box5 hA5
    have c5 := cell_of_one O5.blk
  all_goals
    go_wp2_with fail
    refine (wcl (d := dg) (s := sg) _ hR5 hF htab pg ng cg Dg hdg A U [wo, sf] _ O5 hA.symm hU (by simp) A _ hA5 hAU).mono ?_
    rintro e w7 ⟨rfl, v7, O7, hR7, hA7⟩
    clear O5 hA5 hR5 a50 a51 a52 a53 a54 c5
    obtain ⟨a70, a71, a72, a73, a74⟩ := box5 hA7
    have c7 := cell_of_one O7.blk
    obtain ⟨p7, k7, rfl⟩ := O7.slice
    go_wp2
    go_loopw [83] (fun i wr => ∃ k : Nat, k ≤ ns ∧ i = .int .i64 k ∧ Rests w wr ∧ wr.heap[A]? = some (.cells #[.int .i64 8, .int .i64 ft, .slice pr nr cr, .slice ps ns cs, .slice pg ng cg] 25 (0, 0)) ∧ ∃ v, OutIn wr A U 40 9 (LL k) v)
      (fun i _ => ns - (Go.RowKit.intOf i).toNat)
    case atStart => exact ⟨0, Nat.zero_le _, rfl, hR7, hA7, _, by rw [hLL0]; exact O7⟩
    case round =>
      obtain ⟨k, hk, rfl, hRr, hAr, v, Or⟩ := hrel
      clear O7 hA7 hR7 a70 a71 a72 a73 a74 c7 hLL0
      obtain ⟨p0, k0, rfl⟩ := Or.slice
      obtain ⟨a0, a1, a2, a3, a4⟩ := box5 hAr
      have cU := cell_of_one Or.blk
      have hlen := hbd k hk
      obtain ⟨i1, hi1, hz10, hz11, hz12⟩ := info_parts (show (Tryz.prog.info? 9).map (fun i => (i.zero, i.size, i.bytes)) = some (some (.string ByteArray.empty), 1, 16) by kernel_rfl)
      by_cases hkn : k < ns
      · obtain ⟨b, o, rfl, hbw, d0, hdk, Dk⟩ := hrows k hkn
        have d1 : wr.cell? ⟨b, o + k, none⟩ = some (.slice (pp k) (nn k) (cc k)) := (World.cell?_of_block (hRr.2.2.2.2 b hbw)).trans d0
        clear d0
        by_cases hk0 : 0 < k
        · have hbar : 0 < k ∨ (8 : Int) ≠ 9 := .inl hk0
          have Ob : OutIn (wr.alloc (.cells #[.string ⟨#[124]⟩] 9)) A U 40 9 (LL k) (.slice p0 (LL k).length k0) := Or.blocks fun b hb => Below.heap_alloc _ _ _ hb
          have hn : ∀ (j : Nat) u, [Value.string ⟨#[124]⟩][j]? = some u → (wr.alloc (.cells #[.string ⟨#[124]⟩] 9)).cell? ((⟨wr.heap.size, 0, none⟩ : Addr).add j) = some u := by
            intro j u hj
            match j, hj with
            | 0, hj => simp at hj; subst hj; simp [Addr.add]
          have hBa : A ≤ (wr.alloc (.cells #[.string ⟨#[124]⟩] 9)).heap.size := by have := hRr.2.2.2.1; simp; omega
          go_wp2_with (at_builtin; refine wpList_append_id rfl (.tmp 95) (.tmp 96) 40 rfl A 9 i1 (.string ByteArray.empty) 1 16 Tryz.underlying40 hi1 hz10 hz11 hz12 rfl (by decide) (.slice p0 (LL k).length k0) (LL k).length ((LL k).map Value.string) rfl Ob.own ⟨wr.heap.size, 0, none⟩ 1 1 [.string ⟨#[124]⟩] rfl rfl hn (by intro u hu; simp at hu; subst hu; rfl) (by unfold maxLen; omega) (by omega) hBa ?_)
          intro v' w' hown hgrow hid
          obtain ⟨f1, f2, g2, c2, rfl⟩ := OutIn.push_facts Ob hown hgrow
          have O6 := OutIn.push Ob hown hgrow (by simpa using hid)
          have hL6 := Left.of_push (w := wr) (U := U) (v' := .slice (some ⟨g2, 0, none⟩) ((LL k).length + 1) c2) (by simp) (fun b hb => Below.heap_alloc _ _ _ hb) rfl rfl rfl hgrow
          have hR6 := hL6.rests hRr hA.symm Or hU
          have hA6 := (hL6.block A (lt_of_block hAr) hAU (Or.apart hAr (by decide))).trans hAr
          clear hL6 hown hgrow hid hn hBa Ob
          go_wp2_with fail
          refine (wcl (d := dd k) (s := ss k) _ hR6 hF htab (pp k) (nn k) (cc k) Dk hdk A U (LL k ++ [⟨#[124]⟩]) _ O6 hA.symm hU (by simp; omega) A _ hA6 hAU).mono ?_
          rintro e w8 ⟨rfl, v8, O8, hR8, hA8⟩
          have hq := hLL k hkn
          rw [if_pos hbar] at hq
          clear O6 hR6 hA6 f1 f2 a0 a1 a2 a3 a4 cU d1 Or hAr hRr hLL hrows hJ hbd Dk hdk
          go_wp2
          go_roundw
          case rel => exact ⟨k + 1, by omega, by simp, hR8, hA8, v8, by rw [hq]; exact O8⟩
          case measure => simp [Go.RowKit.intOf]; omega

        · have hk1 : k = 0 := by omega
          subst hk1
          rw [Nat.add_zero] at d1
          have hbar : 0 < 0 ∨ (8 : Int) ≠ 9 := .inr (by decide)
          have Ob : OutIn (wr.alloc (.cells #[.string ⟨#[124]⟩] 9)) A U 40 9 (LL 0) (.slice p0 (LL 0).length k0) := Or.blocks fun b hb => Below.heap_alloc _ _ _ hb
          have hn : ∀ (j : Nat) u, [Value.string ⟨#[124]⟩][j]? = some u → (wr.alloc (.cells #[.string ⟨#[124]⟩] 9)).cell? ((⟨wr.heap.size, 0, none⟩ : Addr).add j) = some u := by
            intro j u hj
            match j, hj with
            | 0, hj => simp at hj; subst hj; simp [Addr.add]
          have hBa : A ≤ (wr.alloc (.cells #[.string ⟨#[124]⟩] 9)).heap.size := by have := hRr.2.2.2.1; simp; omega
          go_wp2_with (at_builtin; refine wpList_append_id rfl (.tmp 95) (.tmp 96) 40 rfl A 9 i1 (.string ByteArray.empty) 1 16 Tryz.underlying40 hi1 hz10 hz11 hz12 rfl (by decide) (.slice p0 (LL 0).length k0) (LL 0).length ((LL 0).map Value.string) rfl Ob.own ⟨wr.heap.size, 0, none⟩ 1 1 [.string ⟨#[124]⟩] rfl rfl hn (by intro u hu; simp at hu; subst hu; rfl) (by unfold maxLen; omega) (by omega) hBa ?_)
          intro v' w' hown hgrow hid
          obtain ⟨f1, f2, g2, c2, rfl⟩ := OutIn.push_facts Ob hown hgrow
          have O6 := OutIn.push Ob hown hgrow (by simpa using hid)
          have hL6 := Left.of_push (w := wr) (U := U) (v' := .slice (some ⟨g2, 0, none⟩) ((LL 0).length + 1) c2) (by simp) (fun b hb => Below.heap_alloc _ _ _ hb) rfl rfl rfl hgrow
          have hR6 := hL6.rests hRr hA.symm Or hU
          have hA6 := (hL6.block A (lt_of_block hAr) hAU (Or.apart hAr (by decide))).trans hAr
          clear hL6 hown hgrow hid hn hBa Ob
          go_wp2_with fail
          refine (wcl (d := dd 0) (s := ss 0) _ hR6 hF htab (pp 0) (nn 0) (cc 0) Dk hdk A U (LL 0 ++ [⟨#[124]⟩]) _ O6 hA.symm hU (by simp; omega) A _ hA6 hAU).mono ?_
          rintro e w8 ⟨rfl, v8, O8, hR8, hA8⟩
          have hq := hLL 0 hkn
          rw [if_pos hbar] at hq
          clear O6 hR6 hA6 f1 f2 a0 a1 a2 a3 a4 cU d1 Or hAr hRr hLL hrows hJ hbd Dk hdk
          go_wp2
          go_roundw
          case rel => exact ⟨0 + 1, by omega, by simp, hR8, hA8, v8, by rw [hq]; exact O8⟩
          case measure => simp [Go.RowKit.intOf]; omega

      · have hk2 : k = ns := by omega
        subst hk2
        go_wp2_with fail
        refine (str_calls hJ wr (htab.rests (hRr.fz hF)) #[_, _] (tsrel_cons_mk (by rw [TRel]; exact out_drel Or) (tsrel_cons_mk (by rw [TRel]; exact .str _) tsrel_nil_mk))).mono ?_
        rintro e w9 ⟨rfl, hR9⟩
        have hRR := hRr.trans hR9
        clear Or hAr a0 a1 a2 a3 a4 cU
        go_wp2
        go_ret2
        exact ⟨rfl, hRR⟩

set_option maxHeartbeats 16000000 in
set_option maxRecDepth 100000 in
theorem write_e0 (kd ft f : Int) (wo : ByteArray) (hform : Does Tryz.prog 13 [.c (.d (.int .i64 kd))] [] (.c (.d (.int .i64 f))) none []) (hword : Does Tryz.prog 14 [.c (.d (.int .i64 kd))] [] (.c (.d (.str wo))) none [])
    (w : World) (F : Nat → Prop) (hF : ∀ b, F b → b < w.heap.size) (htab : TabOk w F) (pr ps pg : Option Addr) (nr cr ns cs ng cg : Nat) (dr dg : Dat) (hdr : DRel w F dr (.slice pr nr cr)) (hdg : DRel w F dg (.slice pg ng cg)) (sr sg sf : ByteArray)
    (out : ByteArray) (hwo : wo.toList.isEmpty = true) :
    Calls Tryz.prog 6 #[.agg #[.int .i64 kd, .int .i64 ft, .slice pr nr cr, .slice ps ns cs, .slice pg ng cg]] w fun e w' => e = .returned (.tuple #[.string ByteArray.empty, .int .i64 1]) ∧ Rests w w' := by
  have hR0 : Rests w (w.alloc (.cells #[.int .i64 kd, .int .i64 ft, .slice pr nr cr, .slice ps ns cs, .slice pg ng cg] 25)) := ⟨rfl, rfl, rfl, by simp, fun k hk => Below.heap_alloc w _ _ hk⟩
  have hA0 := heap_alloc_new w (.cells #[.int .i64 kd, .int .i64 ft, .slice pr nr cr, .slice ps ns cs, .slice pg ng cg] 25)
  have hf : ∀ W, Rests w W → Calls Tryz.prog 13 #[.int .i64 kd] W fun e W' => e = .returned (.int .i64 f) ∧ Rests w W' ∧ ∀ b, b < W.heap.size → W'.heap[b]? = W.heap[b]? := fun W hW => (int_calls hform W (htab.rests (hW.fz hF)) #[.int .i64 kd] (tsrel_cons_mk (by rw [TRel]; exact .int _ _) tsrel_nil_mk)).mono fun e W' h => ⟨h.1, hW.trans h.2, h.2.2.2.2.2⟩
  have hw : ∀ W, Rests w W → Calls Tryz.prog 14 #[.int .i64 kd] W fun e W' => e = .returned (.string wo) ∧ Rests w W' ∧ ∀ b, b < W.heap.size → W'.heap[b]? = W.heap[b]? := fun W hW => (str_calls hword W (htab.rests (hW.fz hF)) #[.int .i64 kd] (tsrel_cons_mk (by rw [TRel]; exact .int _ _) tsrel_nil_mk)).mono fun e W' h => ⟨h.1, hW.trans h.2, h.2.2.2.2.2⟩
  obtain ⟨A, hA⟩ : ∃ A, w.heap.size = A := ⟨_, rfl⟩
  go_enter Tryz.func6, Tryz.ntmps6
  go_wp2_with fail
  refine (hf _ hR0).mono ?_
  rintro e w1 ⟨rfl, hR1, hB1⟩
  have hA1 := (hB1 _ (by simp)).trans hA0
  clear hB1 hf
  rw [hA] at hA1
  obtain ⟨a10, a11, a12, a13, a14⟩ := box5 hA1
  go_wp2_with fail
  refine (hw _ hR1).mono ?_
  rintro e w2 ⟨rfl, hR2, hB2⟩
  have hA2 := (hB2 _ (lt_of_block hA1)).trans hA1
  clear hB2 a10 a11 a12 a13 a14 hA1 hR1 hR0 hA0
  obtain ⟨a20, a21, a22, a23, a24⟩ := box5 hA2
  go_wp2_with fail
  clear a20 a21 a22 a23 a24 hA2
  go_ret2
  exact ⟨rfl, hR2⟩
set_option maxHeartbeats 16000000 in
set_option maxRecDepth 100000 in
theorem write_e1 (kd ft f : Int) (wo : ByteArray) (hform : Does Tryz.prog 13 [.c (.d (.int .i64 kd))] [] (.c (.d (.int .i64 f))) none []) (hword : Does Tryz.prog 14 [.c (.d (.int .i64 kd))] [] (.c (.d (.str wo))) none [])
    (w : World) (F : Nat → Prop) (hF : ∀ b, F b → b < w.heap.size) (htab : TabOk w F) (pr ps pg : Option Addr) (nr cr ns cs ng cg : Nat) (dr dg : Dat) (hdr : DRel w F dr (.slice pr nr cr)) (hdg : DRel w F dg (.slice pg ng cg)) (sr sg sf : ByteArray)
    (out : ByteArray) (hwo : wo.toList.isEmpty = false) (hb1 : (Go.bits .and .i64 f 1 != 0) = true) (hft : ft < 0) :
    Calls Tryz.prog 6 #[.agg #[.int .i64 kd, .int .i64 ft, .slice pr nr cr, .slice ps ns cs, .slice pg ng cg]] w fun e w' => e = .returned (.tuple #[.string ByteArray.empty, .int .i64 1]) ∧ Rests w w' := by
  have hR0 : Rests w (w.alloc (.cells #[.int .i64 kd, .int .i64 ft, .slice pr nr cr, .slice ps ns cs, .slice pg ng cg] 25)) := ⟨rfl, rfl, rfl, by simp, fun k hk => Below.heap_alloc w _ _ hk⟩
  have hA0 := heap_alloc_new w (.cells #[.int .i64 kd, .int .i64 ft, .slice pr nr cr, .slice ps ns cs, .slice pg ng cg] 25)
  have hf : ∀ W, Rests w W → Calls Tryz.prog 13 #[.int .i64 kd] W fun e W' => e = .returned (.int .i64 f) ∧ Rests w W' ∧ ∀ b, b < W.heap.size → W'.heap[b]? = W.heap[b]? := fun W hW => (int_calls hform W (htab.rests (hW.fz hF)) #[.int .i64 kd] (tsrel_cons_mk (by rw [TRel]; exact .int _ _) tsrel_nil_mk)).mono fun e W' h => ⟨h.1, hW.trans h.2, h.2.2.2.2.2⟩
  have hw : ∀ W, Rests w W → Calls Tryz.prog 14 #[.int .i64 kd] W fun e W' => e = .returned (.string wo) ∧ Rests w W' ∧ ∀ b, b < W.heap.size → W'.heap[b]? = W.heap[b]? := fun W hW => (str_calls hword W (htab.rests (hW.fz hF)) #[.int .i64 kd] (tsrel_cons_mk (by rw [TRel]; exact .int _ _) tsrel_nil_mk)).mono fun e W' h => ⟨h.1, hW.trans h.2, h.2.2.2.2.2⟩
  obtain ⟨A, hA⟩ : ∃ A, w.heap.size = A := ⟨_, rfl⟩
  go_enter Tryz.func6, Tryz.ntmps6
  go_wp2_with fail
  refine (hf _ hR0).mono ?_
  rintro e w1 ⟨rfl, hR1, hB1⟩
  have hA1 := (hB1 _ (by simp)).trans hA0
  clear hB1 hf
  rw [hA] at hA1
  obtain ⟨a10, a11, a12, a13, a14⟩ := box5 hA1
  go_wp2_with fail
  refine (hw _ hR1).mono ?_
  rintro e w2 ⟨rfl, hR2, hB2⟩
  have hA2 := (hB2 _ (lt_of_block hA1)).trans hA1
  clear hB2 a10 a11 a12 a13 a14 hA1 hR1 hR0 hA0
  obtain ⟨a20, a21, a22, a23, a24⟩ := box5 hA2
  go_wp2_with fail
  clear a20 a21 a22 a23 a24 hA2
  go_ret2
  exact ⟨rfl, hR2⟩
set_option maxHeartbeats 16000000 in
set_option maxRecDepth 100000 in
theorem write_e2 (kd ft f : Int) (wo : ByteArray) (hform : Does Tryz.prog 13 [.c (.d (.int .i64 kd))] [] (.c (.d (.int .i64 f))) none []) (hword : Does Tryz.prog 14 [.c (.d (.int .i64 kd))] [] (.c (.d (.str wo))) none [])
    (w : World) (F : Nat → Prop) (hF : ∀ b, F b → b < w.heap.size) (htab : TabOk w F) (pr ps pg : Option Addr) (nr cr ns cs ng cg : Nat) (dr dg : Dat) (hdr : DRel w F dr (.slice pr nr cr)) (hdg : DRel w F dg (.slice pg ng cg)) (sr sg sf : ByteArray)
    (out : ByteArray) (hwo : wo.toList.isEmpty = false) (hb1 : (Go.bits .and .i64 f 1 != 0) = true) (hft : ¬ ft < 0) (hft2 : 999 < ft) :
    Calls Tryz.prog 6 #[.agg #[.int .i64 kd, .int .i64 ft, .slice pr nr cr, .slice ps ns cs, .slice pg ng cg]] w fun e w' => e = .returned (.tuple #[.string ByteArray.empty, .int .i64 1]) ∧ Rests w w' := by
  have hR0 : Rests w (w.alloc (.cells #[.int .i64 kd, .int .i64 ft, .slice pr nr cr, .slice ps ns cs, .slice pg ng cg] 25)) := ⟨rfl, rfl, rfl, by simp, fun k hk => Below.heap_alloc w _ _ hk⟩
  have hA0 := heap_alloc_new w (.cells #[.int .i64 kd, .int .i64 ft, .slice pr nr cr, .slice ps ns cs, .slice pg ng cg] 25)
  have hf : ∀ W, Rests w W → Calls Tryz.prog 13 #[.int .i64 kd] W fun e W' => e = .returned (.int .i64 f) ∧ Rests w W' ∧ ∀ b, b < W.heap.size → W'.heap[b]? = W.heap[b]? := fun W hW => (int_calls hform W (htab.rests (hW.fz hF)) #[.int .i64 kd] (tsrel_cons_mk (by rw [TRel]; exact .int _ _) tsrel_nil_mk)).mono fun e W' h => ⟨h.1, hW.trans h.2, h.2.2.2.2.2⟩
  have hw : ∀ W, Rests w W → Calls Tryz.prog 14 #[.int .i64 kd] W fun e W' => e = .returned (.string wo) ∧ Rests w W' ∧ ∀ b, b < W.heap.size → W'.heap[b]? = W.heap[b]? := fun W hW => (str_calls hword W (htab.rests (hW.fz hF)) #[.int .i64 kd] (tsrel_cons_mk (by rw [TRel]; exact .int _ _) tsrel_nil_mk)).mono fun e W' h => ⟨h.1, hW.trans h.2, h.2.2.2.2.2⟩
  obtain ⟨A, hA⟩ : ∃ A, w.heap.size = A := ⟨_, rfl⟩
  go_enter Tryz.func6, Tryz.ntmps6
  go_wp2_with fail
  refine (hf _ hR0).mono ?_
  rintro e w1 ⟨rfl, hR1, hB1⟩
  have hA1 := (hB1 _ (by simp)).trans hA0
  clear hB1 hf
  rw [hA] at hA1
  obtain ⟨a10, a11, a12, a13, a14⟩ := box5 hA1
  go_wp2_with fail
  refine (hw _ hR1).mono ?_
  rintro e w2 ⟨rfl, hR2, hB2⟩
  have hA2 := (hB2 _ (lt_of_block hA1)).trans hA1
  clear hB2 a10 a11 a12 a13 a14 hA1 hR1 hR0 hA0
  obtain ⟨a20, a21, a22, a23, a24⟩ := box5 hA2
  go_wp2_with fail
  clear a20 a21 a22 a23 a24 hA2
  go_ret2
  exact ⟨rfl, hR2⟩
set_option maxHeartbeats 16000000 in
set_option maxRecDepth 100000 in
theorem write_e9 (ft f : Int) (wo : ByteArray) (hform : Does Tryz.prog 13 [.c (.d (.int .i64 9))] [] (.c (.d (.int .i64 f))) none []) (hword : Does Tryz.prog 14 [.c (.d (.int .i64 9))] [] (.c (.d (.str wo))) none [])
    (w : World) (F : Nat → Prop) (hF : ∀ b, F b → b < w.heap.size) (htab : TabOk w F) (pr pg : Option Addr) (b o : Nat) (nr cr cs ng cg : Nat) (dr dg : Dat) (hdr : DRel w F dr (.slice pr nr cr)) (hdg : DRel w F dg (.slice pg ng cg)) (sr sg sf : ByteArray)
    (out : ByteArray) (hwo : wo.toList.isEmpty = false) (hb1 : (Go.bits .and .i64 f 1 != 0) = false) (hb2 : (Go.bits .and .i64 f 2 != 0) = false) (hb4 : (Go.bits .and .i64 f 4 != 0) = false) (hb8 : (Go.bits .and .i64 f 8 != 0) = true) (hbw : b < w.heap.size) (p0 : Option Addr) (c0 : Nat) (d0 : w.cell? ⟨b, o, none⟩ = some (.slice p0 0 c0)) :
    Calls Tryz.prog 6 #[.agg #[.int .i64 9, .int .i64 ft, .slice pr nr cr, .slice (some ⟨b, o, none⟩) 1 cs, .slice pg ng cg]] w fun e w' => e = .returned (.tuple #[.string ByteArray.empty, .int .i64 1]) ∧ Rests w w' := by
  have hR0 : Rests w (w.alloc (.cells #[.int .i64 9, .int .i64 ft, .slice pr nr cr, .slice (some ⟨b, o, none⟩) 1 cs, .slice pg ng cg] 25)) := ⟨rfl, rfl, rfl, by simp, fun k hk => Below.heap_alloc w _ _ hk⟩
  have hA0 := heap_alloc_new w (.cells #[.int .i64 9, .int .i64 ft, .slice pr nr cr, .slice (some ⟨b, o, none⟩) 1 cs, .slice pg ng cg] 25)
  have hf : ∀ W, Rests w W → Calls Tryz.prog 13 #[.int .i64 9] W fun e W' => e = .returned (.int .i64 f) ∧ Rests w W' ∧ ∀ b, b < W.heap.size → W'.heap[b]? = W.heap[b]? := fun W hW => (int_calls hform W (htab.rests (hW.fz hF)) #[.int .i64 9] (tsrel_cons_mk (by rw [TRel]; exact .int _ _) tsrel_nil_mk)).mono fun e W' h => ⟨h.1, hW.trans h.2, h.2.2.2.2.2⟩
  have hw : ∀ W, Rests w W → Calls Tryz.prog 14 #[.int .i64 9] W fun e W' => e = .returned (.string wo) ∧ Rests w W' ∧ ∀ b, b < W.heap.size → W'.heap[b]? = W.heap[b]? := fun W hW => (str_calls hword W (htab.rests (hW.fz hF)) #[.int .i64 9] (tsrel_cons_mk (by rw [TRel]; exact .int _ _) tsrel_nil_mk)).mono fun e W' h => ⟨h.1, hW.trans h.2, h.2.2.2.2.2⟩
  obtain ⟨A, hA⟩ : ∃ A, w.heap.size = A := ⟨_, rfl⟩
  go_enter Tryz.func6, Tryz.ntmps6
  go_wp2_with fail
  refine (hf _ hR0).mono ?_
  rintro e w1 ⟨rfl, hR1, hB1⟩
  have hA1 := (hB1 _ (by simp)).trans hA0
  clear hB1 hf
  rw [hA] at hA1
  obtain ⟨a10, a11, a12, a13, a14⟩ := box5 hA1
  go_wp2_with fail
  refine (hw _ hR1).mono ?_
  rintro e w2 ⟨rfl, hR2, hB2⟩
  have hA2 := (hB2 _ (lt_of_block hA1)).trans hA1
  clear hB2 a10 a11 a12 a13 a14 hA1 hR1 hR0 hA0
  obtain ⟨a20, a21, a22, a23, a24⟩ := box5 hA2
  go_wp2_with fail
  refine (hw _ hR2).mono ?_
  rintro e w3 ⟨rfl, hR3, hB3⟩
  have hA3 := (hB3 _ (lt_of_block hA2)).trans hA2
  clear hB3 a20 a21 a22 a23 a24 hA2 hR2
  have hA4 : ((w3.alloc (.cells #[.string wo] 9)).alloc (.cells #[.slice (some ⟨w3.heap.size, 0, none⟩) 1 1] 40)).heap[A]? = some (.cells #[.int .i64 9, .int .i64 ft, .slice pr nr cr, .slice (some ⟨b, o, none⟩) 1 cs, .slice pg ng cg] 25 (0, 0)) := by
    have := lt_of_block hA3
    rw [Below.heap_alloc _ _ _ (by simp; omega), Below.heap_alloc _ _ _ this]
    exact hA3
  have hR4 : Rests w ((w3.alloc (.cells #[.string wo] 9)).alloc (.cells #[.slice (some ⟨w3.heap.size, 0, none⟩) 1 1] 40)) := hR3.trans ⟨rfl, rfl, rfl, by simp; omega, fun k hk => (Below.heap_alloc _ _ _ (by simp; omega)).trans (Below.heap_alloc _ _ _ hk)⟩
  have O4 : OutIn ((w3.alloc (.cells #[.string wo] 9)).alloc (.cells #[.slice (some ⟨w3.heap.size, 0, none⟩) 1 1] 40)) A (w3.heap.size + 1) 40 9 [wo] (.slice (some ⟨w3.heap.size, 0, none⟩) 1 1) := by
    refine ⟨?_, ⟨rfl, .inr ⟨w3.heap.size, 1, #[.string wo], rfl, by have := hR3.2.2.2.1; omega, ?_, Nat.le_refl _, by unfold maxLen; omega, rfl, rfl⟩⟩, by decide⟩
    · have := heap_alloc_new (w3.alloc (.cells #[.string wo] 9)) (.cells #[.slice (some ⟨w3.heap.size, 0, none⟩) 1 1] 40)
      simpa using this
    · rw [Below.heap_alloc _ _ _ (by simp)]
      exact heap_alloc_new w3 _
  have hU : A ≤ w3.heap.size + 1 := by have := hR3.2.2.2.1; omega
  have hAU : A ≠ w3.heap.size + 1 := by have := lt_of_block hA3; omega
  clear hA3 hR3 hw
  obtain ⟨a40, a41, a42, a43, a44⟩ := box5 hA4
  have c4 := cell_of_one O4.blk
  have d2 : ((w3.alloc (.cells #[.string wo] 9)).alloc (.cells #[.slice (some ⟨w3.heap.size, 0, none⟩) 1 1] 40)).cell? ⟨b, o, none⟩ = some (.slice p0 0 c0) := (World.cell?_of_block (hR4.2.2.2.2 b hbw)).trans d0
  clear d0
  go_wp2
  go_ret2
  exact ⟨rfl, hR4⟩
def cuW (x : Int) : List Dat := [.int .u64 x]
def dceW (x : Bool × Bool × List Int × List Int) : List Dat := [.bool x.1, .bool x.2.1, fr 1 cuW 0 x.2.2.1, fr 1 cuW 0 x.2.2.2]
def drW (l : List (Bool × Bool × List Int × List Int)) : Dat := fr 4 dceW (false, false, [], []) l
def drsW (l : List (List (Bool × Bool × List Int × List Int))) : Dat := fr 1 (fun p => [drW p]) [] l
theorem fro_len {w : World} {F : Nat → Prop} {sz n : Nat} {get : Nat → List Dat} {v : Value} (h : DRel w F (.fro sz n get) v) : ∃ p c, v = .slice p n c := by
  cases h
  · exact ⟨_, _, rfl⟩
  · exact ⟨_, _, rfl⟩
theorem not_empty {s : ByteArray} (h : s ≠ ByteArray.empty) : s.toList.isEmpty = false := by
  rw [ByteArray.toList_eq]
  cases hs : s.data.toList with
  | nil => exact absurd (by cases s; simp at hs; subst hs; rfl) h
  | cons a l => rfl
theorem wrRows_at (k : Nat) (kd : Int) : ∀ (rs : List (List (Bool × Bool × List Int × List Int))) (i : Nat) (L L4 : List ByteArray), wrRows k kd i rs L = some L4 → ∃ (LL : Nat → List ByteArray) (ss : Nat → ByteArray), LL 0 = L ∧ LL rs.length = L4 ∧ (∀ j, (LL j).length ≤ L.length + 2 * j) ∧
    ∀ j, j < rs.length → ((rs.getD j []).length ≠ 0 → rows_Write.f k (rs.getD j []) = some (ss j)) ∧ LL (j + 1) = outAdd (if 0 < i + j ∨ kd ≠ 9 then LL j ++ [⟨#[124]⟩] else LL j) (rs.getD j []).length (ss j)
  | [], i, L, L4, h => by
    rw [wrRows] at h
    obtain rfl := Option.some.inj h
    exact ⟨fun _ => L, fun _ => ByteArray.empty, rfl, rfl, fun j => by show L.length ≤ _; omega, fun j hj => by simp at hj⟩
  | r :: rs, i, L, L4, h => by
    rw [wrRows] at h
    obtain ⟨L1, h1, h⟩ := bnd h
    obtain ⟨LL, ss, e1, e2, e3, e4⟩ := wrRows_at k kd rs (i + 1) L1 L4 h
    have hs : ∃ s, (r.length ≠ 0 → rows_Write.f k r = some s) ∧ L1 = outAdd (if 0 < i ∨ kd ≠ 9 then L ++ [⟨#[124]⟩] else L) r.length s := by
      unfold wrAdd at h1
      by_cases hr : r.length = 0
      · rw [if_pos hr] at h1
        exact ⟨ByteArray.empty, fun e => absurd hr e, by unfold outAdd; rw [if_pos hr]; exact (Option.some.inj h1).symm⟩
      · rw [if_neg hr] at h1
        obtain ⟨s, h2, h3⟩ := bnd h1
        exact ⟨s, fun _ => h2, by unfold outAdd; rw [if_neg hr]; exact (Option.some.inj h3).symm⟩
    obtain ⟨s, s1, s2⟩ := hs
    have hl : L1.length ≤ L.length + 2 := by
      rw [s2]; unfold outAdd
      split <;> split <;> simp
    refine ⟨fun j => match j with | 0 => L | j + 1 => LL j, fun j => match j with | 0 => s | j + 1 => ss j, rfl, e2, fun j => ?_, fun j hj => ?_⟩
    · cases j with
      | zero => exact Nat.le_refl _
      | succ j => show (LL j).length ≤ _; have := e3 j; omega
    · cases j with
      | zero =>
        refine ⟨s1, ?_⟩
        show LL 0 = outAdd (if 0 < i + 0 ∨ kd ≠ 9 then L ++ [⟨#[124]⟩] else L) r.length s
        rw [e1, s2, Nat.add_zero]
      | succ j =>
        rw [List.length_cons] at hj
        obtain ⟨g1, g2⟩ := e4 j (by omega)
        refine ⟨g1, ?_⟩
        show LL (j + 1) = outAdd (if 0 < i + (j + 1) ∨ kd ≠ 9 then LL j ++ [⟨#[124]⟩] else LL j) (rs.getD j []).length (ss j)
        rw [g2, show i + 1 + j = i + (j + 1) by omega]
/-- Where the rows lie. -/
theorem rows_at {w : World} {F : Nat → Prop} {l : List (List (Bool × Bool × List Int × List Int))} {v : Value} (h : DRel w F (drsW l) v) : ∃ (ps : Option Addr) (cs : Nat) (pp : Nat → Option Addr) (cc : Nat → Nat), v = .slice ps l.length cs ∧
    ∀ j, j < l.length → ∃ b o, ps = some ⟨b, o, none⟩ ∧ b < w.heap.size ∧ w.cell? ⟨b, o + j, none⟩ = some (.slice (pp j) (l.getD j []).length (cc j)) ∧ DRel w F (drW (l.getD j [])) (.slice (pp j) (l.getD j []).length (cc j)) := by
  have h' : DRel w F (.fro 1 l.length (enc (fun p => [drW p]) [] l)) v := h
  rcases drel_cells (by decide) h' with ⟨h0, a, cap, rfl⟩ | ⟨h0, b, o, cap, cell, rfl, hcap, hb, _, hcell⟩
  · exact ⟨a, cap, fun _ => none, fun _ => 0, by rw [h0], fun j hj => by omega⟩
  · have hj : ∀ j, ∃ p c, j < l.length → cell j 0 = .slice p (l.getD j []).length c := fun j => by
      by_cases hj : j < l.length
      · have := (hcell j 0 (drW (l.getD j [])) hj rfl).2
        obtain ⟨p, c, e⟩ := fro_len this
        exact ⟨p, c, fun _ => e⟩
      · exact ⟨none, 0, fun h => absurd h hj⟩
    refine ⟨_, _, fun j => Classical.choose (hj j), fun j => Classical.choose (Classical.choose_spec (hj j)), rfl, fun j hlt => ⟨b, o, rfl, hb, ?_⟩⟩
    have e := Classical.choose_spec (Classical.choose_spec (hj j)) hlt
    have g := hcell j 0 (drW (l.getD j [])) hlt rfl
    rw [e] at g
    simpa using g
theorem kinds9 {k : Int} (h1 : 1 ≤ k) (h9 : k ≤ 9) : k = 1 ∨ k = 2 ∨ k = 3 ∨ k = 4 ∨ k = 5 ∨ k = 6 ∨ k = 7 ∨ k = 8 ∨ k = 9 := by omega
theorem no_word {k : Int} (h : ¬ (1 ≤ k ∧ k ≤ 9)) : ask_word.f k = some ByteArray.empty := by
  unfold ask_word.f
  rw [if_neg (by omega), if_neg (by omega), if_neg (by omega), if_neg (by omega), if_neg (by omega), if_neg (by omega), if_neg (by omega), if_neg (by omega), if_neg (by omega)]
theorem no_form {k : Int} (h : ¬ (1 ≤ k ∧ k ≤ 9)) : ask_form.f k = some 0 := by
  unfold ask_form.f
  rw [if_neg (by omega), if_neg (by omega), if_neg (by omega), if_neg (by omega), if_neg (by omega), if_neg (by omega), if_neg (by omega), if_neg (by omega)]
theorem res_ok {w : World} {F : Nat → Prop} {r : ByteArray × Int} {v : Value} (hv : v = .tuple #[.string r.1, .int .i64 r.2]) (β' : Nat → Option (Nat × Nat)) (ob' : Nat → Option Ob) : TRel w F β' ob' (.tup [.c (.d (.str r.1)), .c (.d (.int .i64 r.2))]) v := by
  subst hv
  rw [TRel]
  exact ⟨_, rfl, tsrel_cons_mk (by rw [TRel]; exact .str _) (tsrel_cons_mk (by rw [TRel]; exact .int _ _) tsrel_nil_mk)⟩
theorem wrAdd_at {k : Nat} {L L1 : List ByteArray} {l : List (Bool × Bool × List Int × List Int)} (h : wrAdd k L l = some L1) : ∃ s, (l.length ≠ 0 → rows_Write.f k l = some s) ∧ L1 = outAdd L l.length s := by
  unfold wrAdd at h
  by_cases hr : l.length = 0
  · rw [if_pos hr] at h
    exact ⟨ByteArray.empty, fun e => absurd hr e, by unfold outAdd; rw [if_pos hr]; exact (Option.some.inj h).symm⟩
  · rw [if_neg hr] at h
    obtain ⟨s, h2, h3⟩ := bnd h
    exact ⟨s, fun _ => h2, by unfold outAdd; rw [if_neg hr]; exact (Option.some.inj h3).symm⟩
theorem isdat3 {a b c : Dat} : IsDat (.agg [.d a, .d b, .d c]) := by
  intro x hx
  simp only [List.mem_cons, List.not_mem_nil, or_false] at hx
  rcases hx with rfl | rfl | rfl <;> exact ⟨_, rfl⟩
theorem outAdd_len (L : List ByteArray) (n : Nat) (s : ByteArray) : (outAdd L n s).length ≤ L.length + 1 := by
  unfold outAdd; split <;> simp
set_option maxRecDepth 100000 in
theorem write_of (k : Nat)
    (HF : ∀ {a r : Int}, ask_form.f a = some r → Does Tryz.prog 13 [.c (.d (.int .i64 a))] [] (.c (.d (.int .i64 r))) none [])
    (HW : ∀ {a : Int} {r : ByteArray}, ask_word.f a = some r → Does Tryz.prog 14 [.c (.d (.int .i64 a))] [] (.c (.d (.str r))) none [])
    (HR : ∀ {l : List (Bool × Bool × List Int × List Int)} {r : ByteArray}, rows_Write.f k l = some r → Does Tryz.prog 18 [.c (.d (drW l))] [] (.c (.d (.str r))) none [])
    (HO : ∀ {a : Int} {r : Bool × List Int × List Int}, ratio_Of.f k a = some r → Does Tryz.prog 16 [.c (.d (.int .i64 a))] [] (.agg [.d (.bool r.1), .d (fr 1 cuW 0 r.2.1), .d (fr 1 cuW 0 r.2.2)]) none [])
    (HP : ∀ {q : Bool × List Int × List Int} {r : ByteArray}, ratio_Print.f k q.1 q.2.1 q.2.2 = some r → Does Tryz.prog 15 [.agg [.d (.bool q.1), .d (fr 1 cuW 0 q.2.1), .d (fr 1 cuW 0 q.2.2)]] [] (.c (.d (.str r))) none [])
    {kd ft : Int} {l2 : List (Bool × Bool × List Int × List Int)} {l3 : List (List (Bool × Bool × List Int × List Int))} {l4 : List (Bool × Bool × List Int × List Int)} {r : ByteArray × Int} (h : ask_Write.f k kd ft l2 l3 l4 = some r) :
    Does Tryz.prog 6 [.agg [.d (.int .i64 kd), .d (.int .i64 ft), .d (drW l2), .d (drsW l3), .d (drW l4)]] [] (.tup [.c (.d (.str r.1)), .c (.d (.int .i64 r.2))]) none [] := by
  obtain ⟨c, hc⟩ := Option.isSome_iff_exists.1 (show Tryz.f6.body.isSome = true from rfl)
  refine does_fresh3 ⟨Tryz.f6, c, Tryz.func6, by kernel_rfl, hc⟩ (fun x hx => ?_) fun w F args hF htab hr => ?_
  · rw [List.mem_singleton.1 hx]
    intro c hc
    simp only [List.mem_cons, List.not_mem_nil, or_false] at hc
    rcases hc with rfl | rfl | rfl | rfl | rfl <;> exact ⟨_, rfl⟩
  obtain ⟨t, rfl, t3⟩ := tsrel_one hr
  rw [TRel.eq_def] at t3
  obtain ⟨vs, rfl, t4, _⟩ := t3
  obtain ⟨ws, rfl⟩ : ∃ ws : List Value, vs = ws.toArray := ⟨vs.toList, by simp⟩
  match ws, t4 with
  | [v0, v1, v2, v3, v4], t4 =>
  obtain ⟨r0, r1, r2, r3, r4, _⟩ := t4
  have r0' : DRel w F (.int .i64 kd) v0 := r0
  have r1' : DRel w F (.int .i64 ft) v1 := r1
  have r2' : DRel w F (drW l2) v2 := r2
  have r3' : DRel w F (drsW l3) v3 := r3
  have r4' : DRel w F (drW l4) v4 := r4
  clear r0 r1 r2 r3 r4 hr
  cases r0'
  cases r1'
  obtain ⟨pr, cr, rfl⟩ := fro_len r2'
  obtain ⟨pg, cg, rfl⟩ := fro_len r4'
  obtain ⟨ps, cs, pp, cc, rfl, hrows⟩ := rows_at r3'
  have fin : ∀ {s : ByteArray} {e : Int}, (s, e) = r → (Calls Tryz.prog 6 #[.agg #[.int .i64 kd, .int .i64 ft, .slice pr l2.length cr, .slice ps l3.length cs, .slice pg l4.length cg]] w fun e' w' => e' = .returned (.tuple #[.string s, .int .i64 e]) ∧ Rests w w') →
      Calls Tryz.prog 6 [Value.agg #[.int .i64 kd, .int .i64 ft, .slice pr l2.length cr, .slice ps l3.length cs, .slice pg l4.length cg]].toArray w fun e w' => ∃ v, e = .returned v ∧ Rests w w' ∧ ∀ β' ob', (∀ b, F b → w'.heap[b]? = w.heap[b]?) → TRel w' (Fnew F w w') β' ob' (.tup [.c (.d (.str r.1)), .c (.d (.int .i64 r.2))]) v := fun {s e} hse C => by
    refine C.mono ?_
    rintro e' w' ⟨rfl, hR⟩
    exact ⟨_, rfl, hR, fun β' ob' _ => res_ok (by rw [← hse]) β' ob'⟩
  have wrE : ∀ {L : List ByteArray} {r : ByteArray × Int}, wrEnd L = some r → ∃ s, (s, 0) = r ∧ Does Tryz.prog 19 [.c (.d (fr 1 (fun x => [.str x]) ByteArray.empty L)), .c (.d (.str ⟨#[32]⟩))] [] (.c (.d (.str s))) none [] := fun {L r} h => by
    unfold wrEnd at h
    obtain ⟨s, h1, h2⟩ := bnd h
    exact ⟨s, Option.some.inj h2, strings_Join.does h1⟩
  unfold ask_Write.f at h
  obtain ⟨wo, hw, h⟩ := bnd h
  have Dw := HW hw
  by_cases hk : 1 ≤ kd ∧ kd ≤ 9
  · have hne : wo.toList.isEmpty = false := by
      rcases kinds9 hk.1 hk.2 with rfl | rfl | rfl | rfl | rfl | rfl | rfl | rfl | rfl
      all_goals (obtain rfl := Option.some.inj hw; decide +kernel)
    have E : ByteArray := .empty
    by_cases k2 : kd = 2
    · subst k2
      rw [if_pos rfl] at h
      obtain ⟨s, hs, DJ⟩ := wrE h
      exact fin hs (write_base 2 ft 0 wo (HF rfl) Dw w F hF htab pr ps pg l2.length cr l3.length cs l4.length cg (drW l2) (drW l4) r2' r4' E E E s hne DJ (by decide +kernel) (by decide +kernel) (by decide +kernel) (by decide +kernel))
    rw [if_neg k2] at h
    by_cases k1 : kd = 1 ∨ kd = 3 ∨ kd = 5 ∨ kd = 6
    · rw [if_pos k1] at h
      obtain ⟨L, hL, h⟩ := bnd h
      obtain ⟨s1, hs1, rfl⟩ := wrAdd_at hL
      obtain ⟨s, hs, DJ⟩ := wrE h
      have hform : ask_form.f kd = some 2 := by rcases k1 with rfl | rfl | rfl | rfl <;> rfl
      exact fin hs (write_row kd ft 2 wo (HF hform) Dw w F hF htab pr ps pg l2.length cr l3.length cs l4.length cg (drW l2) (drW l4) r2' r4' s1 E E s hne (fun e => HR (hs1 e)) DJ (by decide +kernel) (by decide +kernel) (by decide +kernel) (by decide +kernel))
    rw [if_neg k1] at h
    by_cases k4 : kd = 4
    · subst k4
      rw [if_pos rfl] at h
      obtain ⟨L, hL, h⟩ := bnd h
      obtain ⟨s1, hs1, rfl⟩ := wrAdd_at hL
      unfold wrMany at h
      obtain ⟨hn, h⟩ := ifp h
      obtain ⟨L4, hL4, h⟩ := bnd h
      obtain ⟨LL, ss, e1, rfl, e3, e4⟩ := wrRows_at k 4 l3 0 _ _ hL4
      obtain ⟨s, hs, DJ⟩ := wrE h
      exact fin hs (write_rm ft 10 wo (HF rfl) Dw w F hF htab pr ps pg l2.length cr l3.length cs l4.length cg (drW l2) (drW l4) r2' r4' s1 E E s hne (fun e => HR (hs1 e)) (fun j => (l3.getD j []).length) pp cc (fun j => drW (l3.getD j [])) ss LL (by omega)
        (fun j hj => by obtain ⟨b, o, g1, g2, g3, g4⟩ := hrows j hj; exact ⟨b, o, g1, g2, g3, g4, fun e => HR ((e4 j hj).1 e)⟩) (fun j hj => by have := e3 j; have := outAdd_len [wo] l2.length s1; simp only [List.length_singleton] at this; omega) (fun j hj => by have := (e4 j hj).2; rw [Nat.zero_add] at this; exact this) e1 DJ (by decide +kernel) (by decide +kernel) (by decide +kernel) (by decide +kernel))
    rw [if_neg k4] at h
    by_cases k7 : kd = 7
    · subst k7
      rw [if_pos rfl] at h
      by_cases hft : ft < 0 ∨ 999 < ft
      · rw [if_pos hft] at h
        have hs := Option.some.inj h
        by_cases h1 : ft < 0
        · exact fin hs (write_e1 7 ft 5 wo (HF rfl) Dw w F hF htab pr ps pg l2.length cr l3.length cs l4.length cg (drW l2) (drW l4) r2' r4' E E E E hne (by decide +kernel) h1)
        · exact fin hs (write_e2 7 ft 5 wo (HF rfl) Dw w F hF htab pr ps pg l2.length cr l3.length cs l4.length cg (drW l2) (drW l4) r2' r4' E E E E hne (by decide +kernel) h1 (hft.resolve_left h1))
      · rw [if_neg hft] at h
        obtain ⟨L, hL, h⟩ := bnd h
        unfold wrFeat at hL
        obtain ⟨q, hq, hL⟩ := bnd hL
        obtain ⟨sf, hsf, hL⟩ := bnd hL
        obtain ⟨s1, hs1, rfl⟩ := wrAdd_at hL
        obtain ⟨s, hs, DJ⟩ := wrE h
        exact fin hs (write_fg 7 ft 5 wo (HF rfl) Dw w F hF htab pr ps pg l2.length cr l3.length cs l4.length cg (drW l2) (drW l4) r2' r4' E s1 sf s hne (fun e => HR (hs1 e)) (.agg [.d (.bool q.1), .d (fr 1 cuW 0 q.2.1), .d (fr 1 cuW 0 q.2.2)]) isdat3 (HO hq) (HP hsf) (fun e => hft (.inl e)) (fun e => hft (.inr e)) DJ (by decide +kernel) (by decide +kernel) (by decide +kernel) (by decide +kernel))
    rw [if_neg k7] at h
    by_cases k8 : kd = 8
    · subst k8
      rw [if_pos rfl] at h
      by_cases hft : ft < 0 ∨ 999 < ft
      · rw [if_pos hft] at h
        have hs := Option.some.inj h
        by_cases h1 : ft < 0
        · exact fin hs (write_e1 8 ft 13 wo (HF rfl) Dw w F hF htab pr ps pg l2.length cr l3.length cs l4.length cg (drW l2) (drW l4) r2' r4' E E E E hne (by decide +kernel) h1)
        · exact fin hs (write_e2 8 ft 13 wo (HF rfl) Dw w F hF htab pr ps pg l2.length cr l3.length cs l4.length cg (drW l2) (drW l4) r2' r4' E E E E hne (by decide +kernel) h1 (hft.resolve_left h1))
      · rw [if_neg hft] at h
        obtain ⟨L, hL, h⟩ := bnd h
        unfold wrFeat at hL
        obtain ⟨q, hq, hL⟩ := bnd hL
        obtain ⟨sf, hsf, hL⟩ := bnd hL
        obtain ⟨s1, hs1, rfl⟩ := wrAdd_at hL
        unfold wrMany at h
        obtain ⟨hn, h⟩ := ifp h
        obtain ⟨L4, hL4, h⟩ := bnd h
        obtain ⟨LL, ss, e1, rfl, e3, e4⟩ := wrRows_at k 8 l3 0 _ _ hL4
        obtain ⟨s, hs, DJ⟩ := wrE h
        exact fin hs (write_fgm ft 13 wo (HF rfl) Dw w F hF htab pr ps pg l2.length cr l3.length cs l4.length cg (drW l2) (drW l4) r2' r4' E s1 sf s hne (fun e => HR (hs1 e)) (.agg [.d (.bool q.1), .d (fr 1 cuW 0 q.2.1), .d (fr 1 cuW 0 q.2.2)]) isdat3 (HO hq) (HP hsf) (fun e => hft (.inl e)) (fun e => hft (.inr e)) (fun j => (l3.getD j []).length) pp cc (fun j => drW (l3.getD j [])) ss LL (by omega)
          (fun j hj => by obtain ⟨b, o, g1, g2, g3, g4⟩ := hrows j hj; exact ⟨b, o, g1, g2, g3, g4, fun e => HR ((e4 j hj).1 e)⟩) (fun j hj => by have := e3 j; have := outAdd_len [wo, sf] l4.length s1; simp only [List.length_cons, List.length_nil] at this; omega) (fun j hj => by have := (e4 j hj).2; rw [Nat.zero_add] at this; exact this) e1 DJ (by decide +kernel) (by decide +kernel) (by decide +kernel) (by decide +kernel))
    rw [if_neg k8] at h
    have k9 : kd = 9 := by omega
    subst k9
    rw [if_pos rfl] at h
    by_cases h1 : l3.length = 1 ∧ (l3.headD []).length = 0
    · rw [if_pos h1] at h
      have hs := Option.some.inj h
      obtain ⟨b, o, rfl, g2, g3, _⟩ := hrows 0 (by omega)
      have e0 : l3.getD 0 [] = l3.headD [] := by cases l3 <;> rfl
      rw [e0, h1.2, Nat.add_zero] at g3
      have := write_e9 ft 8 wo (HF rfl) Dw w F hF htab pr pg b o l2.length cr cs l4.length cg (drW l2) (drW l4) r2' r4' E E E E hne (by decide +kernel) (by decide +kernel) (by decide +kernel) (by decide +kernel) g2 (pp 0) (cc 0) g3
      rw [h1.1] at fin ⊢
      exact fin hs this
    · rw [if_neg h1] at h
      unfold wrMany at h
      obtain ⟨hn, h⟩ := ifp h
      obtain ⟨L4, hL4, h⟩ := bnd h
      obtain ⟨LL, ss, e1, rfl, e3, e4⟩ := wrRows_at k 9 l3 0 _ _ hL4
      obtain ⟨s, hs, DJ⟩ := wrE h
      have hb : ∀ j, j ≤ l3.length → (LL j).length + 2 ≤ 1000000 := fun j hj => by have := e3 j; simp only [List.length_singleton] at this; omega
      have hq : ∀ j, j < l3.length → LL (j + 1) = outAdd (if 0 < j ∨ (9 : Int) ≠ 9 then LL j ++ [⟨#[124]⟩] else LL j) (l3.getD j []).length (ss j) := fun j hj => by have := (e4 j hj).2; rw [Nat.zero_add] at this; exact this
      by_cases h2 : l3.length = 1
      · obtain ⟨b, o, rfl, g2, g3, _⟩ := hrows 0 (by omega)
        have e0 : l3.getD 0 [] = l3.headD [] := by cases l3 <;> rfl
        exact fin hs (write_m1 ft 8 wo (HF rfl) Dw w F hF htab pr pg b o l2.length cr l3.length cs l4.length cg (drW l2) (drW l4) r2' r4' E E E s hne (fun j => (l3.getD j []).length) pp cc (fun j => drW (l3.getD j [])) ss LL (by omega)
          (fun j hj => by obtain ⟨b', o', g1, g2, g3, g4⟩ := hrows j hj; cases g1; exact ⟨g2, g3, g4, fun e => HR ((e4 j hj).1 e)⟩) hb hq e1 ⟨by omega, by omega⟩ (fun e => h1 ⟨h2, by rw [← e0]; exact e⟩) DJ (by decide +kernel) (by decide +kernel) (by decide +kernel) (by decide +kernel))
      · exact fin hs (write_m ft 8 wo (HF rfl) Dw w F hF htab pr ps pg l2.length cr l3.length cs l4.length cg (drW l2) (drW l4) r2' r4' E E E s hne (fun j => (l3.getD j []).length) pp cc (fun j => drW (l3.getD j [])) ss LL (by omega)
          (fun j hj => by obtain ⟨b, o, g1, g2, g3, g4⟩ := hrows j hj; exact ⟨b, o, g1, g2, g3, g4, fun e => HR ((e4 j hj).1 e)⟩) hb hq e1 h2 DJ (by decide +kernel) (by decide +kernel) (by decide +kernel) (by decide +kernel))
  · obtain rfl := Option.some.inj ((no_word hk).symm.trans hw)
    have hs : (ByteArray.empty, 1) = r := by
      rw [if_neg (by omega), if_neg (by omega), if_neg (by omega), if_neg (by omega), if_neg (by omega), if_neg (by omega)] at h
      exact Option.some.inj h
    exact fin hs (write_e0 kd ft 0 .empty (HF (no_form hk)) Dw w F hF htab pr ps pg l2.length cr l3.length cs l4.length cg (drW l2) (drW l4) r2' r4' .empty .empty .empty .empty (by decide +kernel))

theorem wd_inj : ∀ j k : Nat, j ≤ 9 → k ≤ 9 → 1 ≤ j → wd j = wd k → j = k := by
  have h : ∀ j, j < 10 → ∀ k, k < 10 → 1 ≤ j → wd j = wd k → j = k := by decide +kernel
  exact fun j k hj hk h1 e => h j (by omega) k (by omega) h1 e
def KR (n : Nat) : Value → Value → Prop := fun q u => ∃ j, 1 ≤ j ∧ j < n ∧ q = .string (wd j) ∧ u = .int .i64 j
theorem KR_upd (n : Nat) (h1 : 1 ≤ n) (h : n ≤ 9) : updR (KR n) (.string (wd n)) (.int .i64 n) = KR (n + 1) := by
  funext q u
  apply propext
  unfold updR KR
  constructor
  · rintro (⟨rfl, rfl⟩ | ⟨hne, j, j1, j2, rfl, rfl⟩)
    · exact ⟨n, h1, by omega, rfl, rfl⟩
    · exact ⟨j, j1, by omega, rfl, rfl⟩
  · rintro ⟨j, j1, j2, rfl, rfl⟩
    by_cases e : j = n
    · subst e; exact .inl ⟨rfl, rfl⟩
    · refine .inr ⟨fun hw => e (wd_inj j n (by omega) h j1 (by injection hw)), j, j1, by omega, rfl, rfl⟩
theorem wd_word : ∀ k : Nat, 1 ≤ k → k ≤ 9 → ask_word.f (k : Int) = some (wd k) := by
  have h : ∀ k, k < 10 → 1 ≤ k → ask_word.f ((k : Nat) : Int) = some (wd k) := by decide +kernel
  exact fun k h1 h2 => h k (by omega) h1
theorem kindOf_wd : ∀ j : Nat, 1 ≤ j → j < 10 → kindOf (wd j) = (j : Int) := by
  have h : ∀ j, j < 10 → 1 ≤ j → kindOf (wd j) = ((j : Nat) : Int) := by decide +kernel
  exact fun j h1 h2 => h j h2 h1
theorem kindOf_no (s : ByteArray) (h : ∀ j : Nat, 1 ≤ j → j < 10 → s ≠ wd j) : kindOf s = 0 := by
  unfold kindOf
  rw [if_neg (h 1 (by decide) (by decide)), if_neg (h 2 (by decide) (by decide)), if_neg (h 3 (by decide) (by decide)), if_neg (h 4 (by decide) (by decide)), if_neg (h 5 (by decide) (by decide)), if_neg (h 6 (by decide) (by decide)), if_neg (h 7 (by decide) (by decide)), if_neg (h 8 (by decide) (by decide)), if_neg (h 9 (by decide) (by decide))]
set_option maxHeartbeats 4000000 in
set_option maxRecDepth 100000 in
theorem kind_walk (hw : ∀ k : Nat, 1 ≤ k → k ≤ 9 → Does Tryz.prog 14 [.c (.d (.int .i64 (k : Int)))] [] (.c (.d (.str (wd k)))) none []) (s : ByteArray) (w : World) (F : Nat → Prop) (hF : ∀ b, F b → b < w.heap.size) (htab : TabOk w F) :
    Calls Tryz.prog 21 #[.string s] w fun e w' => e = .returned (.int .i64 (kindOf s)) ∧ Rests w w' := by
  have hz : ∀ w : World, (zeroValue 3).run Tryz.prog w = .ok (.int .i64 0) w := fun w => by kernel_rfl
  have hmk : ∀ w : World, (Instr.makeMap 82 none).run Tryz.prog w = .ok (.map (some w.heap.size)) (w.alloc (.map #[] 0)) := fun w => by simp [Instr.makeMap, Result.andThen]
  go_enter Tryz.func21, Tryz.ntmps21
  go_wp2
  go_loopw [4] (fun i wr => ∃ k : Nat, 1 ≤ k ∧ k ≤ 10 ∧ i = .int .i64 k ∧ Rests w wr ∧ w.heap.size < wr.heap.size ∧ MapIn wr w.heap.size .string (KR k))
    (fun i _ => 10 - (Go.RowKit.intOf i).toNat)
  case atStart =>
    refine ⟨1, by decide, by decide, rfl, ⟨rfl, rfl, rfl, by simp, fun k hk => Below.heap_alloc w _ _ hk⟩, by simp, ?_⟩
    have := mapIn_new w .string
    obtain ⟨es, clock, h1, h2, h3, h4⟩ := this
    refine ⟨es, clock, h1, h2, h3, fun k v => (h4 k v).trans ⟨fun h => h.elim, fun ⟨j, j1, j2, _⟩ => by omega⟩⟩
  case round =>
    obtain ⟨k, k1, k2, rfl, hR, hlt, hM⟩ := hrel
    by_cases hk : k ≤ 9
    · have C := str_calls (hw k k1 hk) wr (htab.rests (hR.fz hF)) #[.int .i64 k] (by
        refine tsrel_cons_mk ?_ tsrel_nil_mk
        rw [TRel]; exact .int _ _)
      have hX : ∀ (ops : Array Oper) (rest : List Oper) (o' : Oper) (a : Act) (Q : Exit → Act → World → Prop) (w1 : World), MapIn w1 w.heap.size .string (KR k) → o'.guard = none → o'.op = .mapUpdate 82 (.tmp 10) (.tmp 12) (.tmp 13) → a.eval (.tmp 10) = .map (some w.heap.size) → a.eval (.tmp 12) = .string (wd k) → a.eval (.tmp 13) = .int .i64 (k : Int) →
          (∀ w', MapIn w' w.heap.size .string (updR (KR k) (.string (wd k)) (.int .i64 (k : Int))) → MapSet w1 w' w.heap.size → wpList Tryz.prog ops Q rest (a.put o'.dst undef) w') → wpList Tryz.prog ops Q (o' :: rest) a w1 := fun ops rest o' a Q w1 g0 g1 g2 g3 g4 g5 g6 => wpList_mapUpdate g1 (.tmp 10) (.tmp 12) (.tmp 13) 82 g2 Tryz.underlying82 Tryz.underlying9 g0 (show MapKept.IsKey .string (.string (wd k)) from trivial) g3 g4 g5 g6
      go_wp2_with (first | (go_at_call 14; refine C.mono ?_; rintro e w1 ⟨rfl, hR1⟩; have hM1 : MapIn w1 w.heap.size .string (KR k) := hM.kept (hR1.2.2.2.2 _ hlt)) | (refine hX _ _ _ _ _ _ (by assumption) rfl rfl rfl rfl rfl ?_))
      intro w2 hM2 hS2
      rw [KR_upd k k1 hk] at hM2
      have hRR : Rests w w2 := ⟨hS2.os.trans (hR1.1.trans hR.1), hS2.tape.trans (hR1.2.1.trans hR.2.1), hS2.output.trans (hR1.2.2.1.trans hR.2.2.1), by rw [hS2.size]; exact Nat.le_trans hR.2.2.2.1 hR1.2.2.2.1, fun b hb => (hS2.block b (by omega)).trans ((hR1.2.2.2.2 b (by omega)).trans (hR.2.2.2.2 b hb))⟩
      have hlt2 : w.heap.size < w2.heap.size := by rw [hS2.size]; exact Nat.lt_of_lt_of_le hlt hR1.2.2.2.1
      clear hX hS2 hM1 hR1 hM hR C
      go_wp2
      go_roundw
      case rel => exact ⟨k + 1, by omega, by omega, by simp, hRR, hlt2, hM2⟩
      case measure => simp [Go.RowKit.intOf]; omega
    · have hk10 : k = 10 := by omega
      subst hk10
      have hX : ∀ (ops : Array Oper) (rest : List Oper) (o' : Oper) (a : Act) (Q : Exit → Act → World → Prop), o'.guard = none → o'.op = .lookup 82 (.tmp 14) (.tmp 15) false → a.eval (.tmp 14) = .map (some w.heap.size) → a.eval (.tmp 15) = .string s →
          (∀ v, (KR 10 (.string s) v ∨ (v = .int .i64 0 ∧ ∀ u, ¬ KR 10 (.string s) u)) → wpList Tryz.prog ops Q rest (a.put o'.dst v) wr) → wpList Tryz.prog ops Q (o' :: rest) a wr := fun ops rest o' a Q g1 g2 g3 g4 g5 => wpList_lookup g1 (.tmp 14) (.tmp 15) 82 g2 Tryz.underlying82 Tryz.underlying9 (hz wr) hM (show MapKept.IsKey .string (.string s) from trivial) g3 g4 g5
      go_wp2_with (refine hX _ _ _ _ _ rfl rfl rfl rfl ?_)
      intro v hv
      have hv2 : v = .int .i64 (kindOf s) := by
        rcases hv with ⟨j, j1, j2, e1, rfl⟩ | ⟨rfl, hno⟩
        · have e1' : s = wd j := by injection e1
          rw [e1', kindOf_wd j j1 j2]
        · rw [kindOf_no s fun j j1 j2 e => hno _ ⟨j, j1, j2, by rw [e], rfl⟩]
      subst hv2
      clear hX
      go_wp2
      go_ret
      exact ⟨rfl, hR⟩
theorem kind_of (hw : ∀ k : Nat, 1 ≤ k → k ≤ 9 → Does Tryz.prog 14 [.c (.d (.int .i64 (k : Int)))] [] (.c (.d (.str (wd k)))) none []) (s : ByteArray) :
    Does Tryz.prog 21 [.c (.d (.str s))] [] (.c (.d (.int .i64 (kindOf s)))) none [] := by
  obtain ⟨c, hc⟩ := Option.isSome_iff_exists.1 (show Tryz.f21.body.isSome = true from rfl)
  refine does_fresh3 ⟨Tryz.f21, c, Tryz.func21, by kernel_rfl, hc⟩ (fun x hx => by rw [List.mem_singleton.1 hx]; trivial) fun w F args hF htab hr => ?_
  obtain ⟨v, rfl, h2⟩ := tsrel_one hr
  rw [TRel] at h2
  have h3 : DRel w F (.str s) v := h2
  cases h3
  refine (kind_walk hw s w F hF htab).mono ?_
  rintro e w' ⟨rfl, hR⟩
  refine ⟨_, rfl, hR, fun _ _ _ => ?_⟩
  rw [TRel]
  exact .int _ _

abbrev Tok := Int × Int × ByteArray
def ctok (x : Tok) : List Value := [.int .i64 x.1, .int .i64 x.2.1, .string x.2.2]
def dtok (x : Tok) : List Dat := [.int .i64 x.1, .int .i64 x.2.1, .str x.2.2]
set_option maxHeartbeats 8000000 in
set_option maxRecDepth 100000 in
theorem split_walk (l : List Tok) (w : World) (hl : l.length ≤ 1099511627776) (b o cap : Nat) (hcap : l.length ≤ cap) (hb : b < w.heap.size) (h0 : 0 < l.length)
    (hc : ∀ (j : Nat) (x : Tok), l[j]? = some x → w.cell? ⟨b, o + j * 3, none⟩ = some (.int .i64 x.1) ∧ w.cell? ⟨b, o + j * 3 + 1, none⟩ = some (.int .i64 x.2.1) ∧ w.cell? ⟨b, o + j * 3 + 2, none⟩ = some (.string x.2.2)) :
    Calls Tryz.prog 42 #[.slice (some ⟨b, o, none⟩) l.length cap] w fun e w' => ∃ v, e = .returned v ∧ Rests w w' ∧ Parts ctok w' w.heap.size 54 59 3 v (splitG [] [] l) := by
  obtain ⟨B, hB, hB2⟩ : ∃ B, B ≤ w.heap.size ∧ w.heap.size ≤ B := ⟨_, Nat.le_refl _, Nat.le_refl _⟩
  have hne : ((l.length : Int) == 0) = false := by simp; intro e; subst e; simp at h0
  go_enter Tryz.func42, Tryz.ntmps42
  go_wp2
  go_loopw [3, 13] (fun vo i wr => ∃ (k : Nat) (O : List (List Tok)) (C : List Tok), k ≤ l.length ∧ i = .int .i64 k ∧ O.length ≤ k ∧ C.length ≤ k ∧ Rests w wr ∧ Parts ctok wr B 54 59 3 vo (O ++ [C]) ∧ splitG [] [] l = splitG O C (l.drop k))
    (fun _ i _ => l.length - (Go.RowKit.intOf i).toNat)
  case atStart =>
    refine ⟨0, [], [], Nat.zero_le _, rfl, Nat.le_refl _, Nat.le_refl _, ⟨rfl, rfl, rfl, by simp, fun k hk => Below.heap_alloc w _ _ hk⟩, ?_, rfl⟩
    have hB : B = w.heap.size := by omega
    subst hB
    refine Parts.one (cap := 1) ⟨rfl, .inr ⟨w.heap.size, 1, _, rfl, Nat.le_refl _, heap_alloc_new w _, Nat.le_refl _, by unfold maxLen; omega, rfl, rfl⟩⟩
  case round =>
    obtain ⟨k, O, C, hk, rfl, hO, hC, hR, hP, hS⟩ := hrel
    obtain ⟨i1, hi1, hz10, hz11, hz12⟩ := info_parts (show (Tryz.prog.info? 54).map (fun i => (i.zero, i.size, i.bytes)) = some (some (.slice none 0 0), 1, 24) by kernel_rfl)
    obtain ⟨i2, hi2, hz20, hz21, hz22⟩ := info_parts (show (Tryz.prog.info? 59).map (fun i => (i.zero, i.size, i.bytes)) = some (some (.agg #[.int .i64 0, .int .i64 0, .string ByteArray.empty]), 3, 32) by kernel_rfl)
    by_cases hkl : k < l.length
    · obtain ⟨x, hx⟩ : ∃ x, l[k]? = some x := ⟨_, List.getElem?_eq_getElem hkl⟩
      obtain ⟨c1, c2, c3⟩ := hc k x hx
      have hbb : wr.heap[b]? = w.heap[b]? := hR.2.2.2.2 b hb
      have d1 : wr.cell? ⟨b, o + k * 3, none⟩ = some (.int .i64 x.1) := (World.cell?_of_block hbb).trans c1
      have d2 : wr.cell? ⟨b, o + k * 3 + 1, none⟩ = some (.int .i64 x.2.1) := (World.cell?_of_block hbb).trans c2
      have d3 : wr.cell? ⟨b, o + k * 3 + 2, none⟩ = some (.string x.2.2) := (World.cell?_of_block hbb).trans c3
      have hbw : w.heap.size ≤ wr.heap.size := hR.2.2.2.1
      by_cases hbar : x.2.2.toList = [124]
      · obtain ⟨vs, p1, p2, p3, p4⟩ := (hP.kept (World.grownBy_alloc wr (.cells #[.int .i64 x.1, .int .i64 x.2.1, .string x.2.2] 59) none)).kept (World.grownBy_alloc _ (.cells #[.slice none 0 0] 54) none)
        have hlen : (O ++ [C]).length = O.length + 1 := by simp
        rw [hlen] at p1
        have hn : ∀ (j : Nat) u, [Value.slice none 0 0][j]? = some u → ((wr.alloc (.cells #[.int .i64 x.1, .int .i64 x.2.1, .string x.2.2] 59)).alloc (.cells #[.slice none 0 0] 54)).cell? ((⟨wr.heap.size + 1, 0, none⟩ : Addr).add j) = some u := by
          intro j u hj
          match j, hj with
          | 0, hj => simp at hj; subst hj; simp [Addr.add]
        go_wp2_with (at_builtin; refine wpList_append_id rfl (.tmp 20) (.tmp 21) 85 rfl B 54 i1 (.slice none 0 0) 1 24 Tryz.underlying85 hi1 hz10 hz11 hz12 rfl (by decide) u3 (O.length + 1) vs rfl p1 ⟨wr.heap.size + 1, 0, none⟩ 1 1 [.slice none 0 0] rfl rfl hn (by intro u hu; simp at hu; subst hu; rfl) (by unfold maxLen; omega) (by omega) (by simp; omega) ?_)
        intro v' w' hown hgrow hid
        go_wp2
        go_roundw
        case rel =>
          refine ⟨k + 1, O ++ [C], [], by omega, by simp, by simp; omega, by simp, ?_, ?_, ?_⟩
          · refine rests_grown (W := (wr.alloc (.cells #[.int .i64 x.1, .int .i64 x.2.1, .string x.2.2] 59)).alloc (.cells #[.slice none 0 0] 54)) hR (by simp; omega) (fun j hj => (Below.heap_alloc _ _ _ (by simp; omega)).trans (Below.heap_alloc _ _ _ hj)) rfl rfl rfl hgrow (fun b hb => by have := p1.lt b hb; omega)
          · have := Parts.more (cv := ctok) (by rw [hlen]; exact p1) p2 p3 p4 (by rw [hlen]; exact hown) hgrow (by simpa using hid)
            exact this
          · rw [hS, List.drop_eq_getElem_cons hkl, splitG, if_pos (by rw [List.getElem?_eq_getElem hkl] at hx; cases hx; exact hbar)]
        case measure => simp [Go.RowKit.intOf]; omega
      · obtain ⟨g, cp, vs, v, rfl, q1, q2, q3, q4, q5, q6, q7, q8, q9, q10, q11, q12⟩ := (hP.kept (World.grownBy_alloc wr (.cells #[.int .i64 x.1, .int .i64 x.2.1, .string x.2.2] 59) none)).at
        clear hc
        have hlen : (O ++ [C]).length = O.length + 1 := by simp
        have hbar2 : (x.2.2.toList == [124]) = false := by simpa using hbar
        go_wp2_with fail
        have q11a : (wr.alloc (.cells #[.int .i64 x.1, .int .i64 x.2.1, .string x.2.2] 59)).drew.cell? ⟨g, O.length, none⟩ = some v := q11
        have q11b : ((wr.alloc (.cells #[.int .i64 x.1, .int .i64 x.2.1, .string x.2.2] 59)).drew.alloc (.cells #[.int .i64 x.1, .int .i64 x.2.1, .string x.2.2] 59)).cell? ⟨g, O.length, none⟩ = some v := by
          rw [World.cell?_of_block (Below.heap_alloc _ _ _ q10)]; exact q11
        have q12b : Hid (((wr.alloc (.cells #[.int .i64 x.1, .int .i64 x.2.1, .string x.2.2] 59)).drew.alloc (.cells #[.int .i64 x.1, .int .i64 x.2.1, .string x.2.2] 59)).frozen? ⟨g, O.length, none⟩ = false) := by
          show World.frozen? _ _ = _
          rw [World.frozen?_of_block (Below.heap_alloc _ _ _ q10)]; exact q12
        have q6b : Hid (((wr.alloc (.cells #[.int .i64 x.1, .int .i64 x.2.1, .string x.2.2] 59)).drew.alloc (.cells #[.int .i64 x.1, .int .i64 x.2.1, .string x.2.2] 59)).ownsRow B 59 3 v C.length (C.flatMap ctok)) := (World.ownsRow.drew q5).alloc _
        have hn : Hid (∀ (j : Nat) u, (ctok x)[j]? = some u → ((wr.alloc (.cells #[.int .i64 x.1, .int .i64 x.2.1, .string x.2.2] 59)).drew.alloc (.cells #[.int .i64 x.1, .int .i64 x.2.1, .string x.2.2] 59)).cell? ((⟨wr.heap.size + 1, 0, none⟩ : Addr).add j) = some u) := by
          intro j u hj
          have hs : (wr.alloc (.cells #[.int .i64 x.1, .int .i64 x.2.1, .string x.2.2] 59)).drew.heap.size = wr.heap.size + 1 := by simp
          have hh := Go.heap_alloc_new (wr.alloc (.cells #[.int .i64 x.1, .int .i64 x.2.1, .string x.2.2] 59)).drew (.cells #[.int .i64 x.1, .int .i64 x.2.1, .string x.2.2] 59)
          rw [hs] at hh
          rw [Addr.add_lit, cell_of_row _ _ _ _ _ _ hh, Nat.zero_add]
          unfold ctok at hj
          rw [← List.getElem?_toArray] at hj
          exact hj
        have hn1 : Hid (∀ u ∈ ctok x, u.oneCell' = true) := by intro u hu; simp [ctok] at hu; rcases hu with rfl | rfl | rfl <;> rfl
        have hb1 : Hid (C.length + 1 ≤ maxLen) := by show _ ≤ _; unfold maxLen; omega
        have hb2 : Hid ((C.length + 1) * 32 ≤ 140737488355328) := by show _ ≤ _; omega
        have hb3 : Hid (B ≤ ((wr.alloc (.cells #[.int .i64 x.1, .int .i64 x.2.1, .string x.2.2] 59)).drew.alloc (.cells #[.int .i64 x.1, .int .i64 x.2.1, .string x.2.2] 59)).heap.size) := by show _ ≤ _; simp; omega
        have q7b : Hid (v.ownBlock ≠ some g) := q6
        have q10b : Hid (g < ((wr.alloc (.cells #[.int .i64 x.1, .int .i64 x.2.1, .string x.2.2] 59)).drew.alloc (.cells #[.int .i64 x.1, .int .i64 x.2.1, .string x.2.2] 59)).heap.size) := by show _ < _; simp at q10 ⊢; omega
        have q11c : ((wr.alloc (.cells #[.int .i64 x.1, .int .i64 x.2.1, .string x.2.2] 59)).alloc (.cells #[.int .i64 x.1, .int .i64 x.2.1, .string x.2.2] 59)).cell? ⟨g, O.length, none⟩ = some v := q11b
        have hix : (O.length : Int) < (O.length : Int) + 1 := by omega
        go_region_law (refine step_append_id rfl (.tmp 31) (.tmp 33) 54 rfl B 59 i2 (.agg #[.int .i64 0, .int .i64 0, .string ByteArray.empty]) 3 32 Tryz.underlying54 hi2 hz20 hz21 hz22 rfl (by decide) v C.length (C.flatMap ctok) (by simp [Act.eval]) q6b.out ⟨wr.heap.size + 1, 0, none⟩ 1 1 (ctok x) (by simp [Act.eval]) rfl hn.out hn1.out hb1.out hb2.out hb3.out ?_; intro v' w' hown hgrow hid; obtain ⟨g2, c2, rfl, f1, f2⟩ := grow_facts hgrow q7b.out q10b.out q11b q12b.out hown)
        all_goals
          have hG := Parts.grow (cv := ctok) (w := ((wr.alloc (.cells #[.int .i64 x.1, .int .i64 x.2.1, .string x.2.2] 59)).alloc (.cells #[.int .i64 x.1, .int .i64 x.2.1, .string x.2.2] 59)).drew) (ps := O) (p := C) (t := x) (World.ownsRow.drew (q1.alloc _)) (fun j q u h1 h2 => World.ownsRow.drew ((q2 j q u h1 h2).alloc _)) q3 q4 hown hgrow hid rfl
          have hRR := rests_set hR (wr := wr) (W := ((wr.alloc (.cells #[.int .i64 x.1, .int .i64 x.2.1, .string x.2.2] 59)).alloc (.cells #[.int .i64 x.1, .int .i64 x.2.1, .string x.2.2] 59)).drew) (by simp; omega) (fun j hj => (Below.heap_alloc _ _ _ (by simp; omega)).trans (Below.heap_alloc _ _ _ hj)) rfl rfl rfl hgrow (fun b hb => by have := q5.lt b hb; omega) ⟨g, O.length, none⟩ (.slice (some ⟨g2, 0, none⟩) (C.length + 1) c2) (by show w.heap.size ≤ g; omega)
          clear hgrow hown hid q11a q11b q11c f1 f2 q12b q6b hn hb3 q10b q7b
          go_wp2
          go_roundw
          case rel =>
            refine ⟨k + 1, O, C ++ [x], by omega, by simp, by omega, by simp; omega, hRR, hG, ?_⟩
            rw [hS, List.drop_eq_getElem_cons hkl, splitG, if_neg (by rw [List.getElem?_eq_getElem hkl] at hx; cases hx; exact hbar)]
            rw [List.getElem?_eq_getElem hkl] at hx
            cases hx
            rfl
          case measure => simp [Go.RowKit.intOf]; omega
    · go_wp2
      go_ret
      have : k = l.length := by omega
      subst this
      rw [List.drop_length] at hS
      rw [hS]
      have hB : B = w.heap.size := by omega
      subst hB
      exact ⟨_, rfl, hR, hP⟩
theorem split_empty (a : Option Addr) (cap : Nat) (w : World) : Calls Tryz.prog 42 #[.slice a 0 cap] w fun e w' => e = .returned (.slice none 0 0) ∧ w' = w := by
  go_enter Tryz.func42, Tryz.ntmps42
  go_wp2
  go_ret
  exact ⟨rfl, rfl⟩
theorem rows_Split.does {l0 : List Tok} {r : List (List Tok)} (h : rows_Split.f l0 = some r) :
    Does Tryz.prog 42 [.c (.d (fr 3 dtok (0, 0, ByteArray.empty) l0))] [] (.c (.d (fr 1 (fun p => [fr 3 dtok (0, 0, ByteArray.empty) p]) [] r))) none [] := by
  unfold rows_Split.f at h
  obtain ⟨hl, h⟩ := ifp h
  obtain ⟨c, hc⟩ := Option.isSome_iff_exists.1 (show Tryz.f42.body.isSome = true from rfl)
  refine does_fresh ⟨Tryz.f42, c, Tryz.func42, by kernel_rfl, hc⟩ (by simp) fun w F args hr => ?_
  obtain ⟨v, rfl, h2⟩ := tsrel_one hr
  rw [TRel] at h2
  have h3 : DRel w F (.fro 3 l0.length (enc dtok (0, 0, ByteArray.empty) l0)) v := h2
  rcases drel_cells (by decide) h3 with ⟨h0, a, cap, rfl⟩ | ⟨h0, b, o, cap, cell, rfl, hcap, hb, _, hcell⟩
  · have : l0 = [] := List.eq_nil_of_length_eq_zero h0
    subst this
    rw [if_pos rfl] at h
    obtain rfl := Option.some.inj h
    refine (split_empty a cap w).mono ?_
    rintro e w' ⟨rfl, rfl⟩
    refine ⟨_, rfl, Rests.rfl, fun _ _ _ => ?_⟩
    rw [TRel]
    exact .fro0 _ _ _ _
  · rw [if_neg (by intro e; subst e; simp at h0)] at h
    obtain rfl := Option.some.inj h
    refine (split_walk l0 w hl b o cap hcap hb h0 fun j x hx => ?_).mono ?_
    · have hj := (List.getElem?_eq_some_iff.1 hx).1
      have he : enc dtok (0, 0, ByteArray.empty) l0 j = dtok x := by unfold enc; rw [List.getD_eq_getElem?_getD, hx]; rfl
      have e0 := hcell j 0 (.int .i64 x.1) hj (by rw [he]; rfl)
      have e1 := hcell j 1 (.int .i64 x.2.1) hj (by rw [he]; rfl)
      have e2 := hcell j 2 (.str x.2.2) hj (by rw [he]; rfl)
      refine ⟨?_, ?_, ?_⟩
      · have := e0.2; revert e0; generalize cell j 0 = u at *; cases this; exact fun e => e.1
      · have := e1.2; revert e1; generalize cell j 1 = u at *; cases this; exact fun e => e.1
      · have := e2.2; revert e2; generalize cell j 2 = u at *; cases this; exact fun e => e.1
    · rintro e w' ⟨v, rfl, hR, hP⟩
      refine ⟨v, rfl, hR, fun _ _ _ => ?_⟩
      rw [TRel]
      refine Parts.drel (c := dtok) (d := (0, 0, ByteArray.empty)) (C := fun p => [fr 3 dtok (0, 0, ByteArray.empty) p]) (fun _ => rfl) (fun b h1 h2 => .inr ⟨h1, h2⟩) (fun _ => rfl) (fun _ => rfl) (fun x i dd u h1 h2 => ?_) hP
      match i, h1, h2 with
      | 0, h1, h2 => simp [dtok, ctok] at h1 h2; subst h1 h2; exact .int _ _
      | 1, h1, h2 => simp [dtok, ctok] at h1 h2; subst h1 h2; exact .int _ _
      | 2, h1, h2 => simp [dtok, ctok] at h1 h2; subst h1 h2; exact .str _

set_option maxHeartbeats 1000000 in
set_option maxRecDepth 100000 in
theorem idx_Byte (s : ByteArray) (c : Int) (w : World) :
    Calls Tryz.prog 107 #[.string s, .int .u8 c] w fun e w' => e = .returned (.int .i64 (fIdx s c.toNat.toUInt8)) ∧ Rests w w' := by
  go_enter Tryz.func107, Tryz.ntmps107
  go_wp2
  rw [run_callFunc_extern Tryz.func111 (by kernel_rfl) (by kernel_rfl) (by kernel_rfl) (e := Extern.BytealgIndexByte.indexByte) (by kernel_rfl)]
  rw [run_indexByte_string]
  simp only [Result.andThen]
  rw [Oper.upon_value]
  go_wp2
  go_ret
  exact ⟨rfl, Rests.rfl⟩
theorem stringslite_IndexByte.does {a0 : ByteArray} {a1 : Int} {r : Int} (h : stringslite_IndexByte.f a0 a1 = some r) :
    Does Tryz.prog 107 [.c (.d (.str a0)), .c (.d (.int .u8 a1))] [] (.c (.d (.int .i64 r))) none [] := by
  unfold stringslite_IndexByte.f at h
  obtain rfl := Option.some.inj h
  obtain ⟨c, hc⟩ := Option.isSome_iff_exists.1 (show Tryz.f107.body.isSome = true from rfl)
  refine does_data ⟨Tryz.f107, c, Tryz.func107, by kernel_rfl, hc⟩ (by simp) fun w F args hr => ?_
  obtain ⟨v, u, rfl, h1, h2⟩ := tsrel_two hr
  rw [TRel] at h1 h2
  cases h1
  cases h2
  refine (idx_Byte a0 a1 w).mono ?_
  rintro e w' ⟨rfl, h1⟩
  refine ⟨_, rfl, h1, fun _ _ _ _ => ?_⟩
  rw [TRel]
  exact .int _ _

end Go.DI
