/- What methods of the library do, told. No condition. -/
import Derived.Test.YtjpkpmkohcdcbaaDoorDIc
import Derived.Test.YtjpkpmkohcdcbaaDoorFn
import Derived.Test.YtjpkpmkohcdcbaaDoorProg
import Derived.Test.YtjpkpmkohcdcbaaDoorShfModelAgain
import Derived.ProofKit
import Derived.Laws.Externs
import Derived.Laws.Entries
set_option linter.all false
namespace Go.DI
open Go.Lib
open Go Go.RowKit Go.Proofs
set_option linter.unusedVariables false
instance : Tabs := ⟨[(1, tab_deBruijn64tab.map fun x => .int .u8 x)], 51, 5⟩
set_option maxHeartbeats 1000000 in
set_option maxRecDepth 100000 in
theorem bld_copyCheck (b : Nat) (g : Option Nat) (s : ByteArray) (w : World) (h : BldIn w b g s) :
    Calls Tryd.prog 38 #[.pointer (some ⟨b, 0, none⟩)] w fun e w' => e = .returned (.tuple #[]) ∧ BldUsed w b g s w' := by
  obtain ⟨j, hj, hjs⟩ := Option.map_eq_some_iff.1 (show (Tryd.prog.info? 51).map (·.size) = some 2 by kernel_rfl)
  obtain ⟨cells, el, p, n, cap, hb, rfl, hn, ⟨rfl, hp⟩, hrow⟩ := h
  have c0 : w.cell? ⟨b, 0, none⟩ = some p := by rw [Lib.cell_of_heap hb]; rfl
  have hlt : b < w.heap.size := (Array.getElem?_eq_some_iff.1 hb).1
  rcases hp with rfl | rfl
  · have hsh : w.shape? b = some (51, 2) := by simp [World.shape?, hb]; rfl
    have hfz : w.frozen? ⟨b, 0, none⟩ = false := by simp [World.frozen?, hb]
    go_enter Tryd.func38, Tryd.ntmps38
    go_wp2
    rw [Lib.run_to_unsafe w ⟨b, 0, none⟩ Tryd.underlying48 Tryd.underlying97 hj (by rw [hjs]; decide) hsh (Nat.zero_lt_succ 1)]
    simp only [Result.andThen]
    rw [Oper.upon_value]
    go_wp2
    rw [run_callFunc_extern Tryd.func60 (by kernel_rfl) (by kernel_rfl) (by kernel_rfl) (e := Extern.AbiNoEscape.same) (by kernel_rfl)]
    rw [Lib.run_noEscape]
    simp only [Result.andThen]
    rw [Oper.upon_value]
    go_wp2
    rw [Lib.run_from_unsafe w ⟨b, 0, none⟩ Tryd.underlying97 Tryd.underlying48 hj hsh (by kernel_rfl)]
    simp only [Result.andThen]
    rw [Oper.upon_value]
    go_wp2
    go_end0
    refine ⟨rfl, n, cap, ?_, hn, hrow, fun k hk => Below.heap_setCell _ _ _ _ hk, by simp [World.setCell], rfl, rfl, rfl⟩
    simp [World.setCell, Array.getElem?_modify, hb]
    rfl
  · go_enter Tryd.func38, Tryd.ntmps38
    go_wp2
    rw [Lib.run_neq_ptr_same w _ Tryd.underlying48 hj]
    go_wp2
    go_end0
    exact ⟨rfl, n, cap, hb, hn, hrow, fun k _ => rfl, rfl, rfl, rfl, rfl⟩

set_option maxHeartbeats 2000000 in
set_option maxRecDepth 100000 in
theorem bld_WriteString (b : Nat) (g : Option Nat) (s0 s : ByteArray) (w : World) (h : BldIn w b g s0) (hlen : s0.size + s.size ≤ 140737488355328) :
    Calls Tryd.prog 20 #[.pointer (some ⟨b, 0, none⟩), .string s] w fun e w' => e = .returned (.tuple #[.int .i64 s.size, .nilIface]) ∧ BldNext w b g w' (s0 ++ s) := by
  obtain ⟨i, hi, hi2⟩ := Option.map_eq_some_iff.1 (show (Tryd.prog.info? 5).map (fun i => (i.zero, i.size, i.bytes)) = some (some (.int .u8 0), 1, 1) by kernel_rfl)
  simp only [Prod.mk.injEq] at hi2
  obtain ⟨z1, z2, z3⟩ := hi2
  have hblt : b < w.heap.size := by
    obtain ⟨_, _, _, _, _, hb, _⟩ := h
    exact (Array.getElem?_eq_some_iff.1 hb).1
  have hold : ∀ x, g = some x → x < w.heap.size ∧ x ≠ b := fun x hx => by
    obtain ⟨_, _, _, _, _, _, _, _, _, h6⟩ := h
    rcases h6 with ⟨h7, _⟩ | ⟨y, _, _, _, _, h7, h8, h9, _⟩
    · rw [h7] at hx; cases hx
    · rw [h7] at hx; cases hx; exact ⟨(Array.getElem?_eq_some_iff.1 h9).1, h8⟩
  have hbw : ∃ cells el, w.heap[b]? = some (.cells cells el (0, 0)) ∧ cells.size = 2 ∧ el = Tabs.bT := by
    obtain ⟨cells, el, p, n, cap, hb, rfl, hn, ⟨rfl, hp⟩, hrow⟩ := h
    exact ⟨_, _, hb, rfl, rfl⟩
  go_enter Tryd.func20, Tryd.ntmps20
  go_wp2_with (go_at_call 38; refine (bld_copyCheck b g s0 _ h).mono ?_)
  rintro e w1 ⟨rfl, n, cap, hb, hn, hrow, hk, hsz, ho1, ho2, ho3⟩
  subst hn
  have hrow1 := hrow.keep hk
  have c1 : w1.cell? ⟨b, 1, none⟩ = some (.slice (gAddr g) s0.size cap) := by rw [Lib.cell_of_heap hb]; rfl
  obtain ⟨g', cap', w2, a1, a2, a3, a4, a5, a6⟩ := bld_append (P := Tryd.prog) hrow1 rfl 49 9 49 i Tryd.underlying49 Tryd.underlying9 hi z1 z2 z3 (by omega) s (by omega)
  go_wp2_with (at_builtin; refine wpList_append_told rfl _ _ _ _ rfl rfl rfl a1 ?_)
  rintro _ w2 ⟨rfl, rfl⟩
  have hb2 : w2.heap[b]? = some (.cells #[.pointer (some ⟨b, 0, none⟩), .slice (gAddr g) s0.size cap] Tabs.bT (0, 0)) := by
    rw [a3.block b (by omega) (fun e => (hold b e.symm).2 rfl)]
    exact hb
  have d1 : w2.cell? ⟨b, 1, none⟩ = some (.slice (gAddr g) s0.size cap) := by rw [Lib.cell_of_heap hb2]; rfl
  have f1 : w2.frozen? ⟨b, 1, none⟩ = false := Lib.frozen_of_heap hb2 1
  go_wp2
  go_ret2
  refine ⟨rfl, g', ?_⟩
  have hset : (w2.setCell ⟨b, 1, none⟩ (.slice (gAddr g') (s0.size + s.size) cap')).heap[b]? = some (.cells #[.pointer (some ⟨b, 0, none⟩), .slice (gAddr g') (s0.size + s.size) cap'] Tabs.bT (0, 0)) := by
    simp [World.setCell, Array.getElem?_modify, hb2]
  have hoth : ∀ k, k ≠ b → (w2.setCell ⟨b, 1, none⟩ (.slice (gAddr g') (s0.size + s.size) cap')).heap[k]? = w2.heap[k]? := fun k hk => Below.heap_setCell _ _ _ _ hk
  have hs2 : (w2.setCell ⟨b, 1, none⟩ (.slice (gAddr g') (s0.size + s.size) cap')).heap.size = w2.heap.size := by simp [World.setCell]
  refine ⟨⟨_, _, _, _, _, hset, rfl, by rw [size_append_], ⟨rfl, .inr rfl⟩, a2.keep hoth⟩, ?_, ?_, ?_, ?_, ?_, ?_, ?_, ?_⟩
  · exact a3.os.trans ho1
  · exact a3.tape.trans ho2
  · exact a3.output.trans ho3
  · rw [hs2]; have := a3.size; omega
  · intro k hk1 hk2 hk3
    rw [hoth k hk2, a3.block k (by omega) hk3, hk k hk2]
  · rcases a4 with h4 | ⟨x, h4, h5⟩
    · exact .inl h4
    · exact .inr ⟨x, h4, by omega⟩
  · intro x hx
    rw [hs2]
    exact a6 x hx
  · intro k hk1 cur e fr hc
    by_cases hkb : k = b
    · subst hkb
      rw [hset] at hc
      injection hc with hc
      injection hc with h1 h2 h3
      obtain ⟨cells, el, q1, q2, q3⟩ := hbw
      exact ⟨cells, (0, 0), by rw [q1, q3, h2], by rw [q2, ← h1]; rfl⟩
    · rw [hoth k hkb] at hc
      by_cases hkg : some k = g
      · obtain ⟨cur0, fr0, r1, r2⟩ := a5 k cur e fr hkg.symm hc
        rw [hk k hkb] at r1
        exact ⟨cur0, fr0, r1, r2⟩
      · rw [a3.block k (by omega) hkg, hk k hkb] at hc
        exact ⟨cur, fr, hc, rfl⟩
theorem strings_Builder_WriteString.does {b s r : ByteArray} (h : strings_Builder_WriteString.f b s = some r) :
    Does Tryd.prog 20 [.c (.ptr 0 0), .c (.d (.str s))] [(0, some (.bld b))] (.c .u) none [(0, some (.bld r))] := by
  unfold strings_Builder_WriteString.f at h
  obtain ⟨hl, h⟩ := ifp h
  obtain rfl := Option.some.inj h
  obtain ⟨c, hc⟩ := Option.isSome_iff_exists.1 (show Tryd.f20.body.isSome = true from rfl)
  refine does_bld ⟨Tryd.f20, c, Tryd.func20, by kernel_rfl, hc⟩ rfl (by simp) fun w F b' g args hb hr => ?_
  obtain ⟨v, rfl, hv⟩ := tsrel_one hr
  rw [TRel] at hv
  obtain rfl : v = .string s := by cases hv; rfl
  refine (bld_WriteString b' g b s w hb hl).mono ?_
  rintro e w' ⟨rfl, h1⟩
  exact ⟨_, rfl, h1, fun _ _ _ _ => by rw [TRel]; trivial⟩

set_option maxHeartbeats 1000000 in
set_option maxRecDepth 100000 in
theorem bld_String (b : Nat) (g : Option Nat) (s : ByteArray) (w : World) (h : BldIn w b g s) (h0 : 0 < s.size) :
    Calls Tryd.prog 23 #[.pointer (some ⟨b, 0, none⟩)] w fun e w' => e = .returned (.string s) ∧ BldNext w b g w' s := by
  obtain ⟨cells, el, p, n, cap, hb, rfl, hn, ⟨rfl, hp⟩, hrow⟩ := h
  have hblt : b < w.heap.size := (Array.getElem?_eq_some_iff.1 hb).1
  rcases hrow with ⟨_, h1, _⟩ | ⟨x, cur, e, lo, hi, rfl, hxb, hx, hnc, hcm, hcs, ⟨rfl, hfz⟩, hcell⟩
  · omega
  have hxlt : x < w.heap.size := (Array.getElem?_eq_some_iff.1 hx).1
  subst hn
  have c1 : w.drew.cell? ⟨b, 1, none⟩ = some (.slice (some ⟨x, 0, none⟩) s.size cap) := by
    have : w.drew.heap[b]? = some (.cells #[p, .slice (some ⟨x, 0, none⟩) s.size cap] Tabs.bT (0, 0)) := hb
    rw [Lib.cell_of_heap this]; rfl
  have hl : s.data.toList.length = s.size := Array.length_toList
  have hstr : (⟨s.data.toList.toArray⟩ : ByteArray) = s := by
    apply ByteArray.ext
    exact Array.toArray_toList
  have hSD : (Builtin.unsafeSliceData_ #[49] 74 #[.slice (some ⟨x, 0, none⟩) s.size cap]).run Tryd.prog w.drew = .ok (.pointer (some ⟨x, 0, none⟩)) w.drew :=
    Lib.run_unsafeSliceData_row _ _ _ _ _ _ (by omega)
  have hUS : (Builtin.unsafeString_ #[74, 3] 9 #[.pointer (some ⟨x, 0, none⟩), .int .i64 s.size]).run Tryd.prog w.drew = .ok (.string s) (w.drew.freeze ⟨x, 0, none⟩ s.size) := by
    have := Lib.run_unsafeString_row w.drew 74 3 9 5 Tryd.underlying74 (by kernel_rfl) x cur.size (by have hg' : w.drew.heap[x]? = some (.cells cur Tabs.bE (lo, hi)) := hx; simp [World.shape?, hg']; rfl) s.data.toList (by intro e; rw [e] at hl; simp at hl; omega) (by rw [hl]; omega) (by rw [hl]; unfold maxLen at hcm; omega) ?_
    · rw [hl, hstr] at this
      exact this
    · intro j y hy
      have hj : j < s.size := by
        have := (List.getElem?_eq_some_iff.1 hy).1
        rwa [hl] at this
      have h2 : w.drew.heap[x]? = some (.cells cur Tabs.bE (lo, hi)) := hx
      rw [Addr.add_lit, Nat.zero_add, Lib.cell_of_heap h2, hcell j hj]
      have := strCells_at s j hj
      unfold strCells at this
      rw [List.getElem?_map, hy, Option.map_some] at this
      exact this.symm
  have hres : BldNext w b (some x) (w.drew.freeze ⟨x, 0, none⟩ s.size) s := by
    have hf : ∀ k, k ≠ x → (w.drew.freeze ⟨x, 0, none⟩ s.size).heap[k]? = w.heap[k]? := fun k hk => by
      unfold World.freeze
      rw [if_neg (by omega)]
      simp [Array.getElem?_modify, Ne.symm hk]
      rfl
    have hfx : ∃ fr : Nat × Nat, fr.2 ≤ s.size ∧ (w.drew.freeze ⟨x, 0, none⟩ s.size).heap[x]? = some (.cells cur Tabs.bE fr) := by
      refine ⟨if lo == hi then (0, 0 + s.size) else (min lo 0, max hi (0 + s.size)), ?_, ?_⟩
      · split
        · show 0 + s.size ≤ s.size; omega
        · show max hi (0 + s.size) ≤ s.size; omega
      · unfold World.freeze
        rw [if_neg (by omega)]
        have hd : w.drew.heap[x]? = some (.cells cur Tabs.bE (lo, hi)) := hx
        simp [Array.getElem?_modify, hd]
    obtain ⟨fr, hfr, hfx⟩ := hfx
    have hsz : (w.drew.freeze ⟨x, 0, none⟩ s.size).heap.size = w.heap.size := by
      unfold World.freeze
      rw [if_neg (by omega)]
      simp
    have hmisc : (w.drew.freeze ⟨x, 0, none⟩ s.size).os = w.os ∧ (w.drew.freeze ⟨x, 0, none⟩ s.size).tape = w.tape ∧ (w.drew.freeze ⟨x, 0, none⟩ s.size).output = w.output := by
      unfold World.freeze
      rw [if_neg (by omega)]
      exact ⟨rfl, rfl, rfl⟩
    refine ⟨some x, ⟨_, _, p, s.size, cap, (hf b (Ne.symm hxb)).trans hb, rfl, rfl, ⟨rfl, hp⟩, .inr ⟨x, cur, _, fr.1, fr.2, rfl, hxb, hfx, hnc, hcm, hcs, ⟨rfl, hfr⟩, hcell⟩⟩, hmisc.1, hmisc.2.1, hmisc.2.2, by omega, ?_, .inl rfl, ?_, ?_⟩
    · intro k hk1 hk2 hk3
      exact hf k (fun e => hk3 (by rw [e]))
    · intro y hy
      cases hy
      omega
    · intro k hk cur' e' fr' hc
      by_cases hkx : k = x
      · subst hkx
        rw [hfx] at hc
        injection hc with hc
        injection hc with q1 q2 q3
        exact ⟨cur, (lo, hi), by rw [hx, q2], by rw [q1]⟩
      · rw [hf k hkx] at hc
        exact ⟨cur', fr', hc, rfl⟩
  go_enter Tryd.func23, Tryd.ntmps23
  go_wp2
  go_region
  all_goals (go_wp2; go_ret; exact ⟨rfl, hres⟩)
theorem strings_Builder_String.does {b : ByteArray} {r : ByteArray × ByteArray} (h : strings_Builder_String.f b = some r) :
    Does Tryd.prog 23 [.c (.ptr 0 0)] [(0, some (.bld b))] (.c (.d (.str r.1))) none [(0, some (.bld r.2))] := by
  unfold strings_Builder_String.f at h
  obtain ⟨hl, h⟩ := ifp h
  obtain rfl := Option.some.inj h
  obtain ⟨c, hc⟩ := Option.isSome_iff_exists.1 (show Tryd.f23.body.isSome = true from rfl)
  refine does_bld ⟨Tryd.f23, c, Tryd.func23, by kernel_rfl, hc⟩ rfl (by simp) fun w F b' g args hb hr => ?_
  obtain rfl := tsrel_nil hr
  refine (bld_String b' g b w hb hl).mono ?_
  rintro e w' ⟨rfl, h1⟩
  refine ⟨_, rfl, h1, fun _ _ _ _ => ?_⟩
  rw [TRel]
  exact .str b

theorem strings_Join.does {l0 : List ByteArray} {a1 : ByteArray} {r : ByteArray} (h : strings_Join.f l0 a1 = some r) :
    Does Tryd.prog 40 [.c (.d (fr 1 (fun x => [.str x]) ByteArray.empty l0)), .c (.d (.str a1))] [] (.c (.d (.str r))) none [] := by
  unfold strings_Join.f at h
  obtain ⟨h1, h⟩ := ifp h
  obtain rfl := Option.some.inj h
  obtain ⟨c, hc⟩ := Option.isSome_iff_exists.1 (show Tryd.f40.body.isSome = true from rfl)
  refine does_data ⟨Tryd.f40, c, Tryd.func40, by kernel_rfl, hc⟩ (by simp) fun w F args hr => ?_
  obtain ⟨v, u, rfl, h2, h3⟩ := tsrel_two hr
  rw [TRel] at h2 h3
  simp only [CRel] at h2
  cases h3
  rcases drel_strs (fun j => rfl) h2 with ⟨rfl, a, cap, rfl⟩ | ⟨b, o, cap, rfl, hcap, hb, hcells⟩
  · refine (Any.strings_Join_none Tryd.lays156 Tryd.Builder_Extra_156 a cap a1 w).mono ?_
    rintro e w' ⟨rfl, rfl⟩
    refine ⟨_, rfl, Rests.rfl, fun _ _ _ _ => ?_⟩
    rw [TRel]
    exact .str _
  · refine (Any.strings_Join Tryd.lays156 Tryd.Builder_Extra_156 b o cap l0 a1 w hcells hb h1.1 hcap h1.2).mono ?_
    rintro e w' ⟨rfl, hb⟩
    refine ⟨_, rfl, .of_below hb, fun _ _ _ _ => ?_⟩
    rw [TRel]
    exact .str _

set_option maxHeartbeats 1000000 in
set_option maxRecDepth 100000 in
theorem idx_Byte (s : ByteArray) (c : Int) (w : World) :
    Calls Tryd.prog 104 #[.string s, .int .u8 c] w fun e w' => e = .returned (.int .i64 (fIdx s c.toNat.toUInt8)) ∧ Rests w w' := by
  go_enter Tryd.func104, Tryd.ntmps104
  go_wp2
  rw [run_callFunc_extern Tryd.func108 (by kernel_rfl) (by kernel_rfl) (by kernel_rfl) (e := Extern.BytealgIndexByte.indexByte) (by kernel_rfl)]
  rw [run_indexByte_string]
  simp only [Result.andThen]
  rw [Oper.upon_value]
  go_wp2
  go_ret
  exact ⟨rfl, Rests.rfl⟩
theorem stringslite_IndexByte.does {a0 : ByteArray} {a1 : Int} {r : Int} (h : stringslite_IndexByte.f a0 a1 = some r) :
    Does Tryd.prog 104 [.c (.d (.str a0)), .c (.d (.int .u8 a1))] [] (.c (.d (.int .i64 r))) none [] := by
  unfold stringslite_IndexByte.f at h
  obtain rfl := Option.some.inj h
  obtain ⟨c, hc⟩ := Option.isSome_iff_exists.1 (show Tryd.f104.body.isSome = true from rfl)
  refine does_data ⟨Tryd.f104, c, Tryd.func104, by kernel_rfl, hc⟩ (by simp) fun w F args hr => ?_
  obtain ⟨v, u, rfl, h1, h2⟩ := tsrel_two hr
  rw [TRel] at h1 h2
  cases h1
  cases h2
  refine (idx_Byte a0 a1 w).mono ?_
  rintro e w' ⟨rfl, h1⟩
  refine ⟨_, rfl, h1, fun _ _ _ _ => ?_⟩
  rw [TRel]
  exact .int _ _

end Go.DI
