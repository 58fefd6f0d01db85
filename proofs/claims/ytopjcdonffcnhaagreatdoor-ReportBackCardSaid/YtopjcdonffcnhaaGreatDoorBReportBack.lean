/- What methods of the library do, told. No condition. -/
import Derived.Test.YtopjcdonffcnhaaGreatDoorDIc
import Derived.Test.YtopjcdonffcnhaaGreatDoorFn
import Derived.Test.YtopjcdonffcnhaaGreatDoorProg
import Derived.LaidEql
import Derived.Stop.Asserts
import Derived.RowKitTokens
import Derived.ProofKit
import Derived.Laws.Externs
import Derived.Laws.Entries
set_option linter.all false
namespace Go.DI
open Go.Lib
open Go Go.RowKit Go.Proofs
set_option linter.unusedVariables false
instance : Tabs := ⟨[(0, tab_deBruijn64tab.map fun x => .int .u8 x)], 59, 5⟩
set_option maxHeartbeats 1000000 in
set_option maxRecDepth 100000 in
theorem bld_copyCheck (b : Nat) (g : Option Nat) (s : ByteArray) (w : World) (h : BldIn w b g s) :
    Calls Tryz.prog 57 #[.pointer (some ⟨b, 0, none⟩)] w fun e w' => e = .returned (.tuple #[]) ∧ BldUsed w b g s w' := by
  obtain ⟨j, hj, hjs⟩ := Option.map_eq_some_iff.1 (show (Tryz.prog.info? 59).map (·.size) = some 2 by kernel_rfl)
  obtain ⟨cells, el, p, n, cap, hb, rfl, hn, ⟨rfl, hp⟩, hrow⟩ := h
  have c0 : w.cell? ⟨b, 0, none⟩ = some p := by rw [Lib.cell_of_heap hb]; rfl
  have hlt : b < w.heap.size := (Array.getElem?_eq_some_iff.1 hb).1
  rcases hp with rfl | rfl
  · have hsh : w.shape? b = some (59, 2) := by simp [World.shape?, hb]; rfl
    have hfz : w.frozen? ⟨b, 0, none⟩ = false := by simp [World.frozen?, hb]
    go_enter Tryz.func57, Tryz.ntmps57
    go_wp2
    rw [Lib.run_to_unsafe w ⟨b, 0, none⟩ Tryz.underlying56 Tryz.underlying135 hj (by rw [hjs]; decide) hsh (Nat.zero_lt_succ 1)]
    simp only [Result.andThen]
    rw [Oper.upon_value]
    go_wp2
    rw [run_callFunc_extern Tryz.func88 (by kernel_rfl) (by kernel_rfl) (by kernel_rfl) (e := Extern.AbiNoEscape.same) (by kernel_rfl)]
    rw [Lib.run_noEscape]
    simp only [Result.andThen]
    rw [Oper.upon_value]
    go_wp2
    rw [Lib.run_from_unsafe w ⟨b, 0, none⟩ Tryz.underlying135 Tryz.underlying56 hj hsh (by kernel_rfl)]
    simp only [Result.andThen]
    rw [Oper.upon_value]
    go_wp2
    go_end0
    refine ⟨rfl, n, cap, ?_, hn, hrow, fun k hk => Below.heap_setCell _ _ _ _ hk, by simp [World.setCell], rfl, rfl, rfl⟩
    simp [World.setCell, Array.getElem?_modify, hb]
    rfl
  · go_enter Tryz.func57, Tryz.ntmps57
    go_wp2
    rw [Lib.run_neq_ptr_same w _ Tryz.underlying56 hj]
    go_wp2
    go_end0
    exact ⟨rfl, n, cap, hb, hn, hrow, fun k _ => rfl, rfl, rfl, rfl, rfl⟩

set_option maxHeartbeats 2000000 in
set_option maxRecDepth 100000 in
theorem bld_WriteString (b : Nat) (g : Option Nat) (s0 s : ByteArray) (w : World) (h : BldIn w b g s0) (hlen : s0.size + s.size ≤ 140737488355328) :
    Calls Tryz.prog 28 #[.pointer (some ⟨b, 0, none⟩), .string s] w fun e w' => e = .returned (.tuple #[.int .i64 s.size, .nilIface]) ∧ BldNext w b g w' (s0 ++ s) := by
  obtain ⟨i, hi, hi2⟩ := Option.map_eq_some_iff.1 (show (Tryz.prog.info? 5).map (fun i => (i.zero, i.size, i.bytes)) = some (some (.int .u8 0), 1, 1) by kernel_rfl)
  simp only [Prod.mk.injEq] at hi2
  obtain ⟨z1, z2, z3⟩ := hi2
  have hblt : b < w.heap.size := by
    obtain ⟨_, _, _, _, _, hb, _⟩ := h
    exact (Array.getElem?_eq_some_iff.1 hb).1
  have hold : ∀ x, g = some x → x < w.heap.size ∧ x ≠ b := fun x hx => by
    obtain ⟨_, _, _, _, _, _, _, _, _, h6⟩ := h
    rcases h6 with ⟨h7, _⟩ | ⟨y, _, _, _, _, h7, h8, h9, _⟩
    · rw [h7] at hx; cases hx
    · rw [h7] at hx; cases hx; exact ⟨(Array.getElem?_eq_some_iff.1 h9).1, h8⟩
  have hbw : ∃ cells el, w.heap[b]? = some (.cells cells el (0, 0)) ∧ cells.size = 2 ∧ el = Tabs.bT := by
    obtain ⟨cells, el, p, n, cap, hb, rfl, hn, ⟨rfl, hp⟩, hrow⟩ := h
    exact ⟨_, _, hb, rfl, rfl⟩
  go_enter Tryz.func28, Tryz.ntmps28
  go_wp2_with (go_at_call 57; refine (bld_copyCheck b g s0 _ h).mono ?_)
  rintro e w1 ⟨rfl, n, cap, hb, hn, hrow, hk, hsz, ho1, ho2, ho3⟩
  subst hn
  have hrow1 := hrow.keep hk
  have c1 : w1.cell? ⟨b, 1, none⟩ = some (.slice (gAddr g) s0.size cap) := by rw [Lib.cell_of_heap hb]; rfl
  obtain ⟨g', cap', w2, a1, a2, a3, a4, a5, a6⟩ := bld_append (P := Tryz.prog) hrow1 rfl 57 9 57 i Tryz.underlying57 Tryz.underlying9 hi z1 z2 z3 (by omega) s (by omega)
  go_wp2_with (at_builtin; refine wpList_append_told rfl _ _ _ _ rfl rfl rfl a1 ?_)
  rintro _ w2 ⟨rfl, rfl⟩
  have hb2 : w2.heap[b]? = some (.cells #[.pointer (some ⟨b, 0, none⟩), .slice (gAddr g) s0.size cap] Tabs.bT (0, 0)) := by
    rw [a3.block b (by omega) (fun e => (hold b e.symm).2 rfl)]
    exact hb
  have d1 : w2.cell? ⟨b, 1, none⟩ = some (.slice (gAddr g) s0.size cap) := by rw [Lib.cell_of_heap hb2]; rfl
  have f1 : w2.frozen? ⟨b, 1, none⟩ = false := Lib.frozen_of_heap hb2 1
  go_wp2
  go_ret2
  refine ⟨rfl, g', ?_⟩
  have hset : (w2.setCell ⟨b, 1, none⟩ (.slice (gAddr g') (s0.size + s.size) cap')).heap[b]? = some (.cells #[.pointer (some ⟨b, 0, none⟩), .slice (gAddr g') (s0.size + s.size) cap'] Tabs.bT (0, 0)) := by
    simp [World.setCell, Array.getElem?_modify, hb2]
  have hoth : ∀ k, k ≠ b → (w2.setCell ⟨b, 1, none⟩ (.slice (gAddr g') (s0.size + s.size) cap')).heap[k]? = w2.heap[k]? := fun k hk => Below.heap_setCell _ _ _ _ hk
  have hs2 : (w2.setCell ⟨b, 1, none⟩ (.slice (gAddr g') (s0.size + s.size) cap')).heap.size = w2.heap.size := by simp [World.setCell]
  refine ⟨⟨_, _, _, _, _, hset, rfl, by rw [size_append_], ⟨rfl, .inr rfl⟩, a2.keep hoth⟩, ?_, ?_, ?_, ?_, ?_, ?_, ?_, ?_⟩
  · exact a3.os.trans ho1
  · exact a3.tape.trans ho2
  · exact a3.output.trans ho3
  · rw [hs2]; have := a3.size; omega
  · intro k hk1 hk2 hk3
    rw [hoth k hk2, a3.block k (by omega) hk3, hk k hk2]
  · rcases a4 with h4 | ⟨x, h4, h5⟩
    · exact .inl h4
    · exact .inr ⟨x, h4, by omega⟩
  · intro x hx
    rw [hs2]
    exact a6 x hx
  · intro k hk1 cur e fr hc
    by_cases hkb : k = b
    · subst hkb
      rw [hset] at hc
      injection hc with hc
      injection hc with h1 h2 h3
      obtain ⟨cells, el, q1, q2, q3⟩ := hbw
      exact ⟨cells, (0, 0), by rw [q1, q3, h2], by rw [q2, ← h1]; rfl⟩
    · rw [hoth k hkb] at hc
      by_cases hkg : some k = g
      · obtain ⟨cur0, fr0, r1, r2⟩ := a5 k cur e fr hkg.symm hc
        rw [hk k hkb] at r1
        exact ⟨cur0, fr0, r1, r2⟩
      · rw [a3.block k (by omega) hkg, hk k hkb] at hc
        exact ⟨cur, fr, hc, rfl⟩
theorem strings_Builder_WriteString.does {b s r : ByteArray} (h : strings_Builder_WriteString.f b s = some r) :
    Does Tryz.prog 28 [.c (.ptr 0 0), .c (.d (.str s))] [(0, some (.bld b))] (.c .u) none [(0, some (.bld r))] := by
  unfold strings_Builder_WriteString.f at h
  obtain ⟨hl, h⟩ := ifp h
  obtain rfl := Option.some.inj h
  obtain ⟨c, hc⟩ := Option.isSome_iff_exists.1 (show Tryz.f28.body.isSome = true from rfl)
  refine does_bld ⟨Tryz.f28, c, Tryz.func28, by kernel_rfl, hc⟩ rfl (by simp) fun w F b' g args hb hr => ?_
  obtain ⟨v, rfl, hv⟩ := tsrel_one hr
  rw [TRel] at hv
  obtain rfl : v = .string s := by cases hv; rfl
  refine (bld_WriteString b' g b s w hb hl).mono ?_
  rintro e w' ⟨rfl, h1⟩
  exact ⟨_, rfl, h1, fun _ _ _ _ => by rw [TRel]; trivial⟩

set_option maxHeartbeats 1000000 in
set_option maxRecDepth 100000 in
theorem bld_String (b : Nat) (g : Option Nat) (s : ByteArray) (w : World) (h : BldIn w b g s) (h0 : 0 < s.size) :
    Calls Tryz.prog 32 #[.pointer (some ⟨b, 0, none⟩)] w fun e w' => e = .returned (.string s) ∧ BldNext w b g w' s := by
  obtain ⟨cells, el, p, n, cap, hb, rfl, hn, ⟨rfl, hp⟩, hrow⟩ := h
  have hblt : b < w.heap.size := (Array.getElem?_eq_some_iff.1 hb).1
  rcases hrow with ⟨_, h1, _⟩ | ⟨x, cur, e, lo, hi, rfl, hxb, hx, hnc, hcm, hcs, ⟨rfl, hfz⟩, hcell⟩
  · omega
  have hxlt : x < w.heap.size := (Array.getElem?_eq_some_iff.1 hx).1
  subst hn
  have c1 : w.drew.cell? ⟨b, 1, none⟩ = some (.slice (some ⟨x, 0, none⟩) s.size cap) := by
    have : w.drew.heap[b]? = some (.cells #[p, .slice (some ⟨x, 0, none⟩) s.size cap] Tabs.bT (0, 0)) := hb
    rw [Lib.cell_of_heap this]; rfl
  have hl : s.data.toList.length = s.size := Array.length_toList
  have hstr : (⟨s.data.toList.toArray⟩ : ByteArray) = s := by
    apply ByteArray.ext
    exact Array.toArray_toList
  have hSD : (Builtin.unsafeSliceData_ #[57] 105 #[.slice (some ⟨x, 0, none⟩) s.size cap]).run Tryz.prog w.drew = .ok (.pointer (some ⟨x, 0, none⟩)) w.drew :=
    Lib.run_unsafeSliceData_row _ _ _ _ _ _ (by omega)
  have hUS : (Builtin.unsafeString_ #[105, 3] 9 #[.pointer (some ⟨x, 0, none⟩), .int .i64 s.size]).run Tryz.prog w.drew = .ok (.string s) (w.drew.freeze ⟨x, 0, none⟩ s.size) := by
    have := Lib.run_unsafeString_row w.drew 105 3 9 5 Tryz.underlying105 (by kernel_rfl) x cur.size (by have hg' : w.drew.heap[x]? = some (.cells cur Tabs.bE (lo, hi)) := hx; simp [World.shape?, hg']; rfl) s.data.toList (by intro e; rw [e] at hl; simp at hl; omega) (by rw [hl]; omega) (by rw [hl]; unfold maxLen at hcm; omega) ?_
    · rw [hl, hstr] at this
      exact this
    · intro j y hy
      have hj : j < s.size := by
        have := (List.getElem?_eq_some_iff.1 hy).1
        rwa [hl] at this
      have h2 : w.drew.heap[x]? = some (.cells cur Tabs.bE (lo, hi)) := hx
      rw [Addr.add_lit, Nat.zero_add, Lib.cell_of_heap h2, hcell j hj]
      have := strCells_at s j hj
      unfold strCells at this
      rw [List.getElem?_map, hy, Option.map_some] at this
      exact this.symm
  have hres : BldNext w b (some x) (w.drew.freeze ⟨x, 0, none⟩ s.size) s := by
    have hf : ∀ k, k ≠ x → (w.drew.freeze ⟨x, 0, none⟩ s.size).heap[k]? = w.heap[k]? := fun k hk => by
      unfold World.freeze
      rw [if_neg (by omega)]
      simp [Array.getElem?_modify, Ne.symm hk]
      rfl
    have hfx : ∃ fr : Nat × Nat, fr.2 ≤ s.size ∧ (w.drew.freeze ⟨x, 0, none⟩ s.size).heap[x]? = some (.cells cur Tabs.bE fr) := by
      refine ⟨if lo == hi then (0, 0 + s.size) else (min lo 0, max hi (0 + s.size)), ?_, ?_⟩
      · split
        · show 0 + s.size ≤ s.size; omega
        · show max hi (0 + s.size) ≤ s.size; omega
      · unfold World.freeze
        rw [if_neg (by omega)]
        have hd : w.drew.heap[x]? = some (.cells cur Tabs.bE (lo, hi)) := hx
        simp [Array.getElem?_modify, hd]
    obtain ⟨fr, hfr, hfx⟩ := hfx
    have hsz : (w.drew.freeze ⟨x, 0, none⟩ s.size).heap.size = w.heap.size := by
      unfold World.freeze
      rw [if_neg (by omega)]
      simp
    have hmisc : (w.drew.freeze ⟨x, 0, none⟩ s.size).os = w.os ∧ (w.drew.freeze ⟨x, 0, none⟩ s.size).tape = w.tape ∧ (w.drew.freeze ⟨x, 0, none⟩ s.size).output = w.output := by
      unfold World.freeze
      rw [if_neg (by omega)]
      exact ⟨rfl, rfl, rfl⟩
    refine ⟨some x, ⟨_, _, p, s.size, cap, (hf b (Ne.symm hxb)).trans hb, rfl, rfl, ⟨rfl, hp⟩, .inr ⟨x, cur, _, fr.1, fr.2, rfl, hxb, hfx, hnc, hcm, hcs, ⟨rfl, hfr⟩, hcell⟩⟩, hmisc.1, hmisc.2.1, hmisc.2.2, by omega, ?_, .inl rfl, ?_, ?_⟩
    · intro k hk1 hk2 hk3
      exact hf k (fun e => hk3 (by rw [e]))
    · intro y hy
      cases hy
      omega
    · intro k hk cur' e' fr' hc
      by_cases hkx : k = x
      · subst hkx
        rw [hfx] at hc
        injection hc with hc
        injection hc with q1 q2 q3
        exact ⟨cur, (lo, hi), by rw [hx, q2], by rw [q1]⟩
      · rw [hf k hkx] at hc
        exact ⟨cur', fr', hc, rfl⟩
  go_enter Tryz.func32, Tryz.ntmps32
  go_wp2
  go_region
  all_goals (go_wp2; go_ret; exact ⟨rfl, hres⟩)
theorem strings_Builder_String.does {b : ByteArray} {r : ByteArray × ByteArray} (h : strings_Builder_String.f b = some r) :
    Does Tryz.prog 32 [.c (.ptr 0 0)] [(0, some (.bld b))] (.c (.d (.str r.1))) none [(0, some (.bld r.2))] := by
  unfold strings_Builder_String.f at h
  obtain ⟨hl, h⟩ := ifp h
  obtain rfl := Option.some.inj h
  obtain ⟨c, hc⟩ := Option.isSome_iff_exists.1 (show Tryz.f32.body.isSome = true from rfl)
  refine does_bld ⟨Tryz.f32, c, Tryz.func32, by kernel_rfl, hc⟩ rfl (by simp) fun w F b' g args hb hr => ?_
  obtain rfl := tsrel_nil hr
  refine (bld_String b' g b w hb hl).mono ?_
  rintro e w' ⟨rfl, h1⟩
  refine ⟨_, rfl, h1, fun _ _ _ _ => ?_⟩
  rw [TRel]
  exact .str b

section
open Go.Extern.Stop Go.Stop Go.Extern
theorem is_typeOf (v : Value) (w : World) : (Extern.ReflectliteType.typeOf #[.iface 23 v]).run Tryz.prog w = .ok (.iface 149 (.agg #[.pointer (some ⟨2, 23, none⟩)])) w := by kernel_rfl
theorem is_comparable : ∃ e, Extern.find Tryz.f149 = some e ∧ ∀ w : World, (e #[.agg #[.pointer (some ⟨2, 23, none⟩)]]).run Tryz.prog w = .ok (.bool true) w := by
  obtain ⟨e, he⟩ := Option.isSome_iff_exists.1 (show (Extern.find Tryz.f149).isSome = true by kernel_rfl)
  refine ⟨e, he, fun w => ?_⟩
  have h : (Extern.find Tryz.f149).map (fun e => (e #[.agg #[.pointer (some ⟨2, 23, none⟩)]]).run Tryz.prog w) = some (.ok (.bool true) w) := by kernel_rfl
  rw [he] at h
  exact Option.some.inj h
theorem is_nilr (x : Value) (w : World) : (Go.binOp .eql 61 (.iface 23 x) .nilIface).run Tryz.prog w = .ok (.bool false) w := by
  have h : ∀ d : Nat, (Op.equalIn (d + 1) 61 (.iface 23 x) .nilIface).run Tryz.prog w = .ok false w := fun d => by simp [Op.equalIn, run_underlying Tryz.underlying61]
  simp only [Go.binOp]
  simp [Op.equal, Op.maxDepth, h 9999]
theorem is_methodComparable (v : Value) (w : World) : (Go.method (212 + Made.depth) 149 v "Comparable").run Tryz.prog w = .ok (149, v) w := by kernel_rfl
theorem is_noIs (v : Value) (xT : TypeId) (w : World) : (Instr.typeAssert (.iface 23 v) xT 151 true).run Tryz.prog w = .ok (.tuple #[.nilIface, .bool false]) w := run_typeAssert_lacksB Tryz.underlying151 (by kernel_rfl) (by kernel_rfl) v xT w
theorem is_noUnwrap (v : Value) (xT : TypeId) (w : World) : (Instr.typeAssert (.iface 23 v) xT 154 true).run Tryz.prog w = .ok (.tuple #[.nilIface, .bool false]) w := run_typeAssert_lacksB Tryz.underlying154 (by kernel_rfl) (by kernel_rfl) v xT w
theorem is_noUnwraps (v : Value) (xT : TypeId) (w : World) : (Instr.typeAssert (.iface 23 v) xT 156 true).run Tryz.prog w = .ok (.tuple #[.nilIface, .bool false]) w := run_typeAssert_lacksB Tryz.underlying156 (by kernel_rfl) (by kernel_rfl) v xT w
theorem is_eqlIn (d : Nat) (a b : Int) (w : World) : (Op.equalIn (d + 2) 61 (.iface 23 (.int .i64 a)) (.iface 23 (.int .i64 b))).run Tryz.prog w = .ok (a == b) w := by
  obtain ⟨i, hi, hc⟩ := Option.map_eq_some_iff.1 (show (Tryz.prog.info? 23).map (·.comparable) = some true by kernel_rfl)
  have u2 : Tryz.prog.underlying 23 = some (.int .i64) := Tryz.underlying23
  simp [Op.equalIn, run_underlying Tryz.underlying61, run_underlying u2, typeInfo, hi, hc]
theorem is_eql (a b : Int) (w : World) : (Go.binOp .eql 61 (.iface 23 (.int .i64 a)) (.iface 23 (.int .i64 b))).run Tryz.prog w = .ok (.bool (a == b)) w := by
  simp only [Go.binOp]
  simp [Op.equal, Op.maxDepth, is_eqlIn 9998]
set_option maxHeartbeats 2000000 in
set_option maxRecDepth 100000 in
theorem is_errno (a : Int) (w : World) : Calls Tryz.prog 49 #[.iface 23 (.int .i64 a), .iface 23 (.int .i64 0)] w fun e w' => e = .returned (.bool (a == 0)) ∧ w' = w := by
  have h8 := @run_callFunc_extern Tryz.prog 74 _ Extern.ReflectliteType.typeOf Tryz.func74 (by kernel_rfl) (by kernel_rfl) (by kernel_rfl) (by kernel_rfl)
  obtain ⟨ec, hec, cT⟩ := is_comparable
  have h32 := @run_callFunc_extern Tryz.prog 149 _ ec Tryz.func149 (by kernel_rfl) (by kernel_rfl) (by kernel_rfl) hec
  have tT := is_typeOf
  have mR := is_methodComparable
  have nE := is_noIs
  have uE := is_noUnwrap
  have vE := is_noUnwraps
  have heq := is_eql a 0 w
  have hn := is_nilr
  simp only [show (212 + Made.depth) = 312 from rfl] at mR
  cases hb : (a == 0)
  · rw [hb] at heq
    go_enter Tryz.func49, Tryz.ntmps49
    go_wp2
    refine wp_loop_rounds 1 ?_
    rw [rounds_succ]
    go_wp2
    go_ret
    exact ⟨rfl, rfl⟩
  · rw [hb] at heq
    go_enter Tryz.func49, Tryz.ntmps49
    go_wp2
    refine wp_loop_rounds 1 ?_
    rw [rounds_succ]
    go_wp2
    go_ret
    exact ⟨rfl, rfl⟩
theorem tup2 {w : World} {F : Nat → Prop} {β : Nat → Option (Nat × Nat)} {ob : Nat → Option Ob} {e p : Int} {v : Value} (h : TRel w F β ob (.tup [.c (.d (.int .i64 e)), .c (.d (.int .i64 p))]) v) : v = .tuple #[.int .i64 e, .int .i64 p] := by
  rw [TRel.eq_def] at h
  obtain ⟨vs, rfl, T2⟩ := h
  obtain ⟨v0, v1, e0, t0, t1⟩ := tsrel_two T2
  obtain rfl : vs = #[v0, v1] := by cases vs; simp_all
  rw [TRel] at t0 t1
  have t0' : DRel w F (.int .i64 e) v0 := t0
  have t1' : DRel w F (.int .i64 p) v1 := t1
  cases t0'
  cases t1'
  rfl
set_option maxRecDepth 100000 in
theorem off_of {cs cs' : List Cl} {e p : Int} (D : Does Tryz.prog 20 [.c (.ptr 0 0)] [(0, some (.box cs))] (.tup [.c (.d (.int .i64 e)), .c (.d (.int .i64 p))]) none [(0, some (.box cs'))]) :
    Does Tryz.prog 18 [.c (.ptr 0 0)] [(0, some (.box cs))] (.c (.d (.bool (!(e == 0))))) none [(0, some (.box cs'))] := by
  obtain ⟨c, hc⟩ := Option.isSome_iff_exists.1 (show Tryz.f18.body.isSome = true from rfl)
  refine ⟨⟨Tryz.f18, c, Tryz.func18, by kernel_rfl, hc⟩, fun w F β γ cargs H htab hargs => ?_⟩
  obtain ⟨l, rfl⟩ : ∃ l : List Value, cargs = l.toArray := ⟨cargs.toList, by simp⟩
  obtain ⟨v, rfl, hv⟩ := tsrel_one hargs
  have C := D.2 w F β γ #[v] H htab hargs
  go_enter Tryz.func18, Tryz.ntmps18
  go_wp2_with (go_at_call 20; refine C.mono ?_; rintro x w1 ⟨tv, F1, β1, γ1, rfl, H1, O1, T1⟩; obtain rfl := tup2 T1; have HT : Hid (Heap w1 F1 β1 γ1 (lookO [(newName, none), (0, some (Ob.box cs'))]) ∧ Onto w F β γ (lookO [(0, some (Ob.box cs))]) w1 F1 β1 γ1 (lookO [(newName, none), (0, some (Ob.box cs'))])) := ⟨H1, O1⟩; clear H1 O1 T1)
  go_wp2_with (go_at_call 49; refine (is_errno e w1).mono ?_; rintro x w' ⟨rfl, rfl⟩)
  go_ret
  refine ⟨_, F1, β1, γ1, rfl, HT.out.1, HT.out.2, ?_⟩
  rw [TRel]
  exact .bool _
end

set_option maxHeartbeats 1000000 in
set_option maxRecDepth 100000 in
theorem idx_Byte (s : ByteArray) (c : Int) (w : World) :
    Calls Tryz.prog 123 #[.string s, .int .u8 c] w fun e w' => e = .returned (.int .i64 (fIdx s c.toNat.toUInt8)) ∧ Rests w w' := by
  go_enter Tryz.func123, Tryz.ntmps123
  go_wp2
  rw [run_callFunc_extern Tryz.func127 (by kernel_rfl) (by kernel_rfl) (by kernel_rfl) (e := Extern.BytealgIndexByte.indexByte) (by kernel_rfl)]
  rw [run_indexByte_string]
  simp only [Result.andThen]
  rw [Oper.upon_value]
  go_wp2
  go_ret
  exact ⟨rfl, Rests.rfl⟩
theorem stringslite_IndexByte.does {a0 : ByteArray} {a1 : Int} {r : Int} (h : stringslite_IndexByte.f a0 a1 = some r) :
    Does Tryz.prog 123 [.c (.d (.str a0)), .c (.d (.int .u8 a1))] [] (.c (.d (.int .i64 r))) none [] := by
  unfold stringslite_IndexByte.f at h
  obtain rfl := Option.some.inj h
  obtain ⟨c, hc⟩ := Option.isSome_iff_exists.1 (show Tryz.f123.body.isSome = true from rfl)
  refine does_data ⟨Tryz.f123, c, Tryz.func123, by kernel_rfl, hc⟩ (by simp) fun w F args hr => ?_
  obtain ⟨v, u, rfl, h1, h2⟩ := tsrel_two hr
  rw [TRel] at h1 h2
  cases h1
  cases h2
  refine (idx_Byte a0 a1 w).mono ?_
  rintro e w' ⟨rfl, h1⟩
  refine ⟨_, rfl, h1, fun _ _ _ _ => ?_⟩
  rw [TRel]
  exact .int _ _

end Go.DI
