/- What methods of the library do, told. No condition. -/
import Derived.Test.YtmnjjphdkjohpaaDoorDIc
import Derived.Test.YtmnjjphdkjohpaaDoorFn
import Derived.Test.YtmnjjphdkjohpaaDoorProg
import Derived.ProofKit
import Derived.Laws.Externs
import Derived.Laws.Entries
set_option linter.all false
namespace Go.DI
open Go.Lib
open Go Go.RowKit Go.Proofs
set_option linter.unusedVariables false
instance : Tabs := ⟨[(0, tab_deBruijn64tab.map fun x => .int .u8 x)], 99, 5⟩
theorem wd_inj : ∀ j k : Nat, j ≤ 9 → k ≤ 9 → 1 ≤ j → wd j = wd k → j = k := by
  have h : ∀ j, j < 10 → ∀ k, k < 10 → 1 ≤ j → wd j = wd k → j = k := by decide +kernel
  exact fun j k hj hk h1 e => h j (by omega) k (by omega) h1 e
def KR (n : Nat) : Value → Value → Prop := fun q u => ∃ j, 1 ≤ j ∧ j < n ∧ q = .string (wd j) ∧ u = .int .i64 j
theorem KR_upd (n : Nat) (h1 : 1 ≤ n) (h : n ≤ 9) : updR (KR n) (.string (wd n)) (.int .i64 n) = KR (n + 1) := by
  funext q u
  apply propext
  unfold updR KR
  constructor
  · rintro (⟨rfl, rfl⟩ | ⟨hne, j, j1, j2, rfl, rfl⟩)
    · exact ⟨n, h1, by omega, rfl, rfl⟩
    · exact ⟨j, j1, by omega, rfl, rfl⟩
  · rintro ⟨j, j1, j2, rfl, rfl⟩
    by_cases e : j = n
    · subst e; exact .inl ⟨rfl, rfl⟩
    · refine .inr ⟨fun hw => e (wd_inj j n (by omega) h j1 (by injection hw)), j, j1, by omega, rfl, rfl⟩
theorem wd_word : ∀ k : Nat, 1 ≤ k → k ≤ 9 → ask_word.f (k : Int) = some (wd k) := by
  have h : ∀ k, k < 10 → 1 ≤ k → ask_word.f ((k : Nat) : Int) = some (wd k) := by decide +kernel
  exact fun k h1 h2 => h k (by omega) h1
theorem kindOf_wd : ∀ j : Nat, 1 ≤ j → j < 10 → kindOf (wd j) = (j : Int) := by
  have h : ∀ j, j < 10 → 1 ≤ j → kindOf (wd j) = ((j : Nat) : Int) := by decide +kernel
  exact fun j h1 h2 => h j h2 h1
theorem kindOf_no (s : ByteArray) (h : ∀ j : Nat, 1 ≤ j → j < 10 → s ≠ wd j) : kindOf s = 0 := by
  unfold kindOf
  rw [if_neg (h 1 (by decide) (by decide)), if_neg (h 2 (by decide) (by decide)), if_neg (h 3 (by decide) (by decide)), if_neg (h 4 (by decide) (by decide)), if_neg (h 5 (by decide) (by decide)), if_neg (h 6 (by decide) (by decide)), if_neg (h 7 (by decide) (by decide)), if_neg (h 8 (by decide) (by decide)), if_neg (h 9 (by decide) (by decide))]
set_option maxHeartbeats 4000000 in
set_option maxRecDepth 100000 in
theorem kind_walk (hw : ∀ k : Nat, 1 ≤ k → k ≤ 9 → Does Tryd.prog 31 [.c (.d (.int .i64 (k : Int)))] [] (.c (.d (.str (wd k)))) none []) (s : ByteArray) (w : World) (F : Nat → Prop) (hF : ∀ b, F b → b < w.heap.size) (htab : TabOk w F) :
    Calls Tryd.prog 13 #[.string s] w fun e w' => e = .returned (.int .i64 (kindOf s)) ∧ Rests w w' := by
  have hz : ∀ w : World, (zeroValue 3).run Tryd.prog w = .ok (.int .i64 0) w := fun w => by kernel_rfl
  have hmk : ∀ w : World, (Instr.makeMap 64 none).run Tryd.prog w = .ok (.map (some w.heap.size)) (w.alloc (.map #[] 0)) := fun w => by simp [Instr.makeMap, Result.andThen]
  go_enter Tryd.func13, Tryd.ntmps13
  go_wp2
  go_loopw [4] (fun i wr => ∃ k : Nat, 1 ≤ k ∧ k ≤ 10 ∧ i = .int .i64 k ∧ Rests w wr ∧ w.heap.size < wr.heap.size ∧ MapIn wr w.heap.size .string (KR k))
    (fun i _ => 10 - (Go.RowKit.intOf i).toNat)
  case atStart =>
    refine ⟨1, by decide, by decide, rfl, ⟨rfl, rfl, rfl, by simp, fun k hk => Below.heap_alloc w _ _ hk⟩, by simp, ?_⟩
    have := mapIn_new w .string
    obtain ⟨es, clock, h1, h2, h3, h4⟩ := this
    refine ⟨es, clock, h1, h2, h3, fun k v => (h4 k v).trans ⟨fun h => h.elim, fun ⟨j, j1, j2, _⟩ => by omega⟩⟩
  case round =>
    obtain ⟨k, k1, k2, rfl, hR, hlt, hM⟩ := hrel
    by_cases hk : k ≤ 9
    · have C := str_calls (hw k k1 hk) wr (htab.rests (hR.fz hF)) #[.int .i64 k] (by
        refine tsrel_cons_mk ?_ tsrel_nil_mk
        rw [TRel]; exact .int _ _)
      have hX : ∀ (ops : Array Oper) (rest : List Oper) (o' : Oper) (a : Act) (Q : Exit → Act → World → Prop) (w1 : World), MapIn w1 w.heap.size .string (KR k) → o'.guard = none → o'.op = .mapUpdate 64 (.tmp 10) (.tmp 12) (.tmp 13) → a.eval (.tmp 10) = .map (some w.heap.size) → a.eval (.tmp 12) = .string (wd k) → a.eval (.tmp 13) = .int .i64 (k : Int) →
          (∀ w', MapIn w' w.heap.size .string (updR (KR k) (.string (wd k)) (.int .i64 (k : Int))) → MapSet w1 w' w.heap.size → wpList Tryd.prog ops Q rest (a.put o'.dst undef) w') → wpList Tryd.prog ops Q (o' :: rest) a w1 := fun ops rest o' a Q w1 g0 g1 g2 g3 g4 g5 g6 => wpList_mapUpdate g1 (.tmp 10) (.tmp 12) (.tmp 13) 64 g2 Tryd.underlying64 Tryd.underlying9 g0 (show MapKept.IsKey .string (.string (wd k)) from trivial) g3 g4 g5 g6
      go_wp2_with (first | (go_at_call 31; refine C.mono ?_; rintro e w1 ⟨rfl, hR1⟩; have hM1 : MapIn w1 w.heap.size .string (KR k) := hM.kept (hR1.2.2.2.2 _ hlt)) | (refine hX _ _ _ _ _ _ (by assumption) rfl rfl rfl rfl rfl ?_))
      intro w2 hM2 hS2
      rw [KR_upd k k1 hk] at hM2
      have hRR : Rests w w2 := ⟨hS2.os.trans (hR1.1.trans hR.1), hS2.tape.trans (hR1.2.1.trans hR.2.1), hS2.output.trans (hR1.2.2.1.trans hR.2.2.1), by rw [hS2.size]; exact Nat.le_trans hR.2.2.2.1 hR1.2.2.2.1, fun b hb => (hS2.block b (by omega)).trans ((hR1.2.2.2.2 b (by omega)).trans (hR.2.2.2.2 b hb))⟩
      have hlt2 : w.heap.size < w2.heap.size := by rw [hS2.size]; exact Nat.lt_of_lt_of_le hlt hR1.2.2.2.1
      clear hX hS2 hM1 hR1 hM hR C
      go_wp2
      go_roundw
      case rel => exact ⟨k + 1, by omega, by omega, by simp, hRR, hlt2, hM2⟩
      case measure => simp [Go.RowKit.intOf]; omega
    · have hk10 : k = 10 := by omega
      subst hk10
      have hX : ∀ (ops : Array Oper) (rest : List Oper) (o' : Oper) (a : Act) (Q : Exit → Act → World → Prop), o'.guard = none → o'.op = .lookup 64 (.tmp 14) (.tmp 15) false → a.eval (.tmp 14) = .map (some w.heap.size) → a.eval (.tmp 15) = .string s →
          (∀ v, (KR 10 (.string s) v ∨ (v = .int .i64 0 ∧ ∀ u, ¬ KR 10 (.string s) u)) → wpList Tryd.prog ops Q rest (a.put o'.dst v) wr) → wpList Tryd.prog ops Q (o' :: rest) a wr := fun ops rest o' a Q g1 g2 g3 g4 g5 => wpList_lookup g1 (.tmp 14) (.tmp 15) 64 g2 Tryd.underlying64 Tryd.underlying9 (hz wr) hM (show MapKept.IsKey .string (.string s) from trivial) g3 g4 g5
      go_wp2_with (refine hX _ _ _ _ _ rfl rfl rfl rfl ?_)
      intro v hv
      have hv2 : v = .int .i64 (kindOf s) := by
        rcases hv with ⟨j, j1, j2, e1, rfl⟩ | ⟨rfl, hno⟩
        · have e1' : s = wd j := by injection e1
          rw [e1', kindOf_wd j j1 j2]
        · rw [kindOf_no s fun j j1 j2 e => hno _ ⟨j, j1, j2, by rw [e], rfl⟩]
      subst hv2
      clear hX
      go_wp2
      go_ret
      exact ⟨rfl, hR⟩
theorem kind_of (hw : ∀ k : Nat, 1 ≤ k → k ≤ 9 → Does Tryd.prog 31 [.c (.d (.int .i64 (k : Int)))] [] (.c (.d (.str (wd k)))) none []) (s : ByteArray) :
    Does Tryd.prog 13 [.c (.d (.str s))] [] (.c (.d (.int .i64 (kindOf s)))) none [] := by
  obtain ⟨c, hc⟩ := Option.isSome_iff_exists.1 (show Tryd.f13.body.isSome = true from rfl)
  refine does_fresh3 ⟨Tryd.f13, c, Tryd.func13, by kernel_rfl, hc⟩ (fun x hx => by rw [List.mem_singleton.1 hx]; trivial) fun w F args hF htab hr => ?_
  obtain ⟨v, rfl, h2⟩ := tsrel_one hr
  rw [TRel] at h2
  have h3 : DRel w F (.str s) v := h2
  cases h3
  refine (kind_walk hw s w F hF htab).mono ?_
  rintro e w' ⟨rfl, hR⟩
  refine ⟨_, rfl, hR, fun _ _ _ => ?_⟩
  rw [TRel]
  exact .int _ _

set_option maxHeartbeats 1000000 in
set_option maxRecDepth 100000 in
theorem idx_Byte (s : ByteArray) (c : Int) (w : World) :
    Calls Tryd.prog 121 #[.string s, .int .u8 c] w fun e w' => e = .returned (.int .i64 (fIdx s c.toNat.toUInt8)) ∧ Rests w w' := by
  go_enter Tryd.func121, Tryd.ntmps121
  go_wp2
  rw [run_callFunc_extern Tryd.func125 (by kernel_rfl) (by kernel_rfl) (by kernel_rfl) (e := Extern.BytealgIndexByte.indexByte) (by kernel_rfl)]
  rw [run_indexByte_string]
  simp only [Result.andThen]
  rw [Oper.upon_value]
  go_wp2
  go_ret
  exact ⟨rfl, Rests.rfl⟩
theorem stringslite_IndexByte.does {a0 : ByteArray} {a1 : Int} {r : Int} (h : stringslite_IndexByte.f a0 a1 = some r) :
    Does Tryd.prog 121 [.c (.d (.str a0)), .c (.d (.int .u8 a1))] [] (.c (.d (.int .i64 r))) none [] := by
  unfold stringslite_IndexByte.f at h
  obtain rfl := Option.some.inj h
  obtain ⟨c, hc⟩ := Option.isSome_iff_exists.1 (show Tryd.f121.body.isSome = true from rfl)
  refine does_data ⟨Tryd.f121, c, Tryd.func121, by kernel_rfl, hc⟩ (by simp) fun w F args hr => ?_
  obtain ⟨v, u, rfl, h1, h2⟩ := tsrel_two hr
  rw [TRel] at h1 h2
  cases h1
  cases h2
  refine (idx_Byte a0 a1 w).mono ?_
  rintro e w' ⟨rfl, h1⟩
  refine ⟨_, rfl, h1, fun _ _ _ _ => ?_⟩
  rw [TRel]
  exact .int _ _

abbrev Tok := Int × Int × ByteArray
def ctok (x : Tok) : List Value := [.int .i64 x.1, .int .i64 x.2.1, .string x.2.2]
def dtok (x : Tok) : List Dat := [.int .i64 x.1, .int .i64 x.2.1, .str x.2.2]
set_option maxHeartbeats 8000000 in
set_option maxRecDepth 100000 in
theorem split_walk (l : List Tok) (w : World) (hl : l.length ≤ 1099511627776) (b o cap : Nat) (hcap : l.length ≤ cap) (hb : b < w.heap.size) (h0 : 0 < l.length)
    (hc : ∀ (j : Nat) (x : Tok), l[j]? = some x → w.cell? ⟨b, o + j * 3, none⟩ = some (.int .i64 x.1) ∧ w.cell? ⟨b, o + j * 3 + 1, none⟩ = some (.int .i64 x.2.1) ∧ w.cell? ⟨b, o + j * 3 + 2, none⟩ = some (.string x.2.2)) :
    Calls Tryd.prog 49 #[.slice (some ⟨b, o, none⟩) l.length cap] w fun e w' => ∃ v, e = .returned v ∧ Rests w w' ∧ Parts ctok w' w.heap.size 50 54 3 v (splitG [] [] l) := by
  obtain ⟨B, hB, hB2⟩ : ∃ B, B ≤ w.heap.size ∧ w.heap.size ≤ B := ⟨_, Nat.le_refl _, Nat.le_refl _⟩
  have hne : ((l.length : Int) == 0) = false := by simp; intro e; subst e; simp at h0
  go_enter Tryd.func49, Tryd.ntmps49
  go_wp2
  go_loopw [3, 13] (fun vo i wr => ∃ (k : Nat) (O : List (List Tok)) (C : List Tok), k ≤ l.length ∧ i = .int .i64 k ∧ O.length ≤ k ∧ C.length ≤ k ∧ Rests w wr ∧ Parts ctok wr B 50 54 3 vo (O ++ [C]) ∧ splitG [] [] l = splitG O C (l.drop k))
    (fun _ i _ => l.length - (Go.RowKit.intOf i).toNat)
  case atStart =>
    refine ⟨0, [], [], Nat.zero_le _, rfl, Nat.le_refl _, Nat.le_refl _, ⟨rfl, rfl, rfl, by simp, fun k hk => Below.heap_alloc w _ _ hk⟩, ?_, rfl⟩
    have hB : B = w.heap.size := by omega
    subst hB
    refine Parts.one (cap := 1) ⟨rfl, .inr ⟨w.heap.size, 1, _, rfl, Nat.le_refl _, heap_alloc_new w _, Nat.le_refl _, by unfold maxLen; omega, rfl, rfl⟩⟩
  case round =>
    obtain ⟨k, O, C, hk, rfl, hO, hC, hR, hP, hS⟩ := hrel
    obtain ⟨i1, hi1, hz10, hz11, hz12⟩ := info_parts (show (Tryd.prog.info? 50).map (fun i => (i.zero, i.size, i.bytes)) = some (some (.slice none 0 0), 1, 24) by kernel_rfl)
    obtain ⟨i2, hi2, hz20, hz21, hz22⟩ := info_parts (show (Tryd.prog.info? 54).map (fun i => (i.zero, i.size, i.bytes)) = some (some (.agg #[.int .i64 0, .int .i64 0, .string ByteArray.empty]), 3, 32) by kernel_rfl)
    by_cases hkl : k < l.length
    · obtain ⟨x, hx⟩ : ∃ x, l[k]? = some x := ⟨_, List.getElem?_eq_getElem hkl⟩
      obtain ⟨c1, c2, c3⟩ := hc k x hx
      have hbb : wr.heap[b]? = w.heap[b]? := hR.2.2.2.2 b hb
      have d1 : wr.cell? ⟨b, o + k * 3, none⟩ = some (.int .i64 x.1) := (World.cell?_of_block hbb).trans c1
      have d2 : wr.cell? ⟨b, o + k * 3 + 1, none⟩ = some (.int .i64 x.2.1) := (World.cell?_of_block hbb).trans c2
      have d3 : wr.cell? ⟨b, o + k * 3 + 2, none⟩ = some (.string x.2.2) := (World.cell?_of_block hbb).trans c3
      have hbw : w.heap.size ≤ wr.heap.size := hR.2.2.2.1
      by_cases hbar : x.2.2.toList = [124]
      · obtain ⟨vs, p1, p2, p3, p4⟩ := (hP.kept (World.grownBy_alloc wr (.cells #[.int .i64 x.1, .int .i64 x.2.1, .string x.2.2] 54) none)).kept (World.grownBy_alloc _ (.cells #[.slice none 0 0] 50) none)
        have hlen : (O ++ [C]).length = O.length + 1 := by simp
        rw [hlen] at p1
        have hn : ∀ (j : Nat) u, [Value.slice none 0 0][j]? = some u → ((wr.alloc (.cells #[.int .i64 x.1, .int .i64 x.2.1, .string x.2.2] 54)).alloc (.cells #[.slice none 0 0] 50)).cell? ((⟨wr.heap.size + 1, 0, none⟩ : Addr).add j) = some u := by
          intro j u hj
          match j, hj with
          | 0, hj => simp at hj; subst hj; simp [Addr.add]
        go_wp2_with (at_builtin; refine wpList_append_id rfl (.tmp 20) (.tmp 21) 58 rfl B 50 i1 (.slice none 0 0) 1 24 Tryd.underlying58 hi1 hz10 hz11 hz12 rfl (by decide) u3 (O.length + 1) vs rfl p1 ⟨wr.heap.size + 1, 0, none⟩ 1 1 [.slice none 0 0] rfl rfl hn (by intro u hu; simp at hu; subst hu; rfl) (by unfold maxLen; omega) (by omega) (by simp; omega) ?_)
        intro v' w' hown hgrow hid
        go_wp2
        go_roundw
        case rel =>
          refine ⟨k + 1, O ++ [C], [], by omega, by simp, by simp; omega, by simp, ?_, ?_, ?_⟩
          · refine rests_grown (W := (wr.alloc (.cells #[.int .i64 x.1, .int .i64 x.2.1, .string x.2.2] 54)).alloc (.cells #[.slice none 0 0] 50)) hR (by simp; omega) (fun j hj => (Below.heap_alloc _ _ _ (by simp; omega)).trans (Below.heap_alloc _ _ _ hj)) rfl rfl rfl hgrow (fun b hb => by have := p1.lt b hb; omega)
          · have := Parts.more (cv := ctok) (by rw [hlen]; exact p1) p2 p3 p4 (by rw [hlen]; exact hown) hgrow (by simpa using hid)
            exact this
          · rw [hS, List.drop_eq_getElem_cons hkl, splitG, if_pos (by rw [List.getElem?_eq_getElem hkl] at hx; cases hx; exact hbar)]
        case measure => simp [Go.RowKit.intOf]; omega
      · obtain ⟨g, cp, vs, v, rfl, q1, q2, q3, q4, q5, q6, q7, q8, q9, q10, q11, q12⟩ := (hP.kept (World.grownBy_alloc wr (.cells #[.int .i64 x.1, .int .i64 x.2.1, .string x.2.2] 54) none)).at
        clear hc
        have hlen : (O ++ [C]).length = O.length + 1 := by simp
        have hbar2 : (x.2.2.toList == [124]) = false := by simpa using hbar
        go_wp2_with fail
        have q11a : (wr.alloc (.cells #[.int .i64 x.1, .int .i64 x.2.1, .string x.2.2] 54)).drew.cell? ⟨g, O.length, none⟩ = some v := q11
        have q11b : ((wr.alloc (.cells #[.int .i64 x.1, .int .i64 x.2.1, .string x.2.2] 54)).drew.alloc (.cells #[.int .i64 x.1, .int .i64 x.2.1, .string x.2.2] 54)).cell? ⟨g, O.length, none⟩ = some v := by
          rw [World.cell?_of_block (Below.heap_alloc _ _ _ q10)]; exact q11
        have q12b : Hid (((wr.alloc (.cells #[.int .i64 x.1, .int .i64 x.2.1, .string x.2.2] 54)).drew.alloc (.cells #[.int .i64 x.1, .int .i64 x.2.1, .string x.2.2] 54)).frozen? ⟨g, O.length, none⟩ = false) := by
          show World.frozen? _ _ = _
          rw [World.frozen?_of_block (Below.heap_alloc _ _ _ q10)]; exact q12
        have q6b : Hid (((wr.alloc (.cells #[.int .i64 x.1, .int .i64 x.2.1, .string x.2.2] 54)).drew.alloc (.cells #[.int .i64 x.1, .int .i64 x.2.1, .string x.2.2] 54)).ownsRow B 54 3 v C.length (C.flatMap ctok)) := (World.ownsRow.drew q5).alloc _
        have hn : Hid (∀ (j : Nat) u, (ctok x)[j]? = some u → ((wr.alloc (.cells #[.int .i64 x.1, .int .i64 x.2.1, .string x.2.2] 54)).drew.alloc (.cells #[.int .i64 x.1, .int .i64 x.2.1, .string x.2.2] 54)).cell? ((⟨wr.heap.size + 1, 0, none⟩ : Addr).add j) = some u) := by
          intro j u hj
          have hs : (wr.alloc (.cells #[.int .i64 x.1, .int .i64 x.2.1, .string x.2.2] 54)).drew.heap.size = wr.heap.size + 1 := by simp
          have hh := Go.heap_alloc_new (wr.alloc (.cells #[.int .i64 x.1, .int .i64 x.2.1, .string x.2.2] 54)).drew (.cells #[.int .i64 x.1, .int .i64 x.2.1, .string x.2.2] 54)
          rw [hs] at hh
          rw [Addr.add_lit, cell_of_row _ _ _ _ _ _ hh, Nat.zero_add]
          unfold ctok at hj
          rw [← List.getElem?_toArray] at hj
          exact hj
        have hn1 : Hid (∀ u ∈ ctok x, u.oneCell' = true) := by intro u hu; simp [ctok] at hu; rcases hu with rfl | rfl | rfl <;> rfl
        have hb1 : Hid (C.length + 1 ≤ maxLen) := by show _ ≤ _; unfold maxLen; omega
        have hb2 : Hid ((C.length + 1) * 32 ≤ 140737488355328) := by show _ ≤ _; omega
        have hb3 : Hid (B ≤ ((wr.alloc (.cells #[.int .i64 x.1, .int .i64 x.2.1, .string x.2.2] 54)).drew.alloc (.cells #[.int .i64 x.1, .int .i64 x.2.1, .string x.2.2] 54)).heap.size) := by show _ ≤ _; simp; omega
        have q7b : Hid (v.ownBlock ≠ some g) := q6
        have q10b : Hid (g < ((wr.alloc (.cells #[.int .i64 x.1, .int .i64 x.2.1, .string x.2.2] 54)).drew.alloc (.cells #[.int .i64 x.1, .int .i64 x.2.1, .string x.2.2] 54)).heap.size) := by show _ < _; simp at q10 ⊢; omega
        have q11c : ((wr.alloc (.cells #[.int .i64 x.1, .int .i64 x.2.1, .string x.2.2] 54)).alloc (.cells #[.int .i64 x.1, .int .i64 x.2.1, .string x.2.2] 54)).cell? ⟨g, O.length, none⟩ = some v := q11b
        have hix : (O.length : Int) < (O.length : Int) + 1 := by omega
        go_region_law (refine step_append_id rfl (.tmp 31) (.tmp 33) 50 rfl B 54 i2 (.agg #[.int .i64 0, .int .i64 0, .string ByteArray.empty]) 3 32 Tryd.underlying50 hi2 hz20 hz21 hz22 rfl (by decide) v C.length (C.flatMap ctok) (by simp [Act.eval]) q6b.out ⟨wr.heap.size + 1, 0, none⟩ 1 1 (ctok x) (by simp [Act.eval]) rfl hn.out hn1.out hb1.out hb2.out hb3.out ?_; intro v' w' hown hgrow hid; obtain ⟨g2, c2, rfl, f1, f2⟩ := grow_facts hgrow q7b.out q10b.out q11b q12b.out hown)
        all_goals
          have hG := Parts.grow (cv := ctok) (w := ((wr.alloc (.cells #[.int .i64 x.1, .int .i64 x.2.1, .string x.2.2] 54)).alloc (.cells #[.int .i64 x.1, .int .i64 x.2.1, .string x.2.2] 54)).drew) (ps := O) (p := C) (t := x) (World.ownsRow.drew (q1.alloc _)) (fun j q u h1 h2 => World.ownsRow.drew ((q2 j q u h1 h2).alloc _)) q3 q4 hown hgrow hid rfl
          have hRR := rests_set hR (wr := wr) (W := ((wr.alloc (.cells #[.int .i64 x.1, .int .i64 x.2.1, .string x.2.2] 54)).alloc (.cells #[.int .i64 x.1, .int .i64 x.2.1, .string x.2.2] 54)).drew) (by simp; omega) (fun j hj => (Below.heap_alloc _ _ _ (by simp; omega)).trans (Below.heap_alloc _ _ _ hj)) rfl rfl rfl hgrow (fun b hb => by have := q5.lt b hb; omega) ⟨g, O.length, none⟩ (.slice (some ⟨g2, 0, none⟩) (C.length + 1) c2) (by show w.heap.size ≤ g; omega)
          clear hgrow hown hid q11a q11b q11c f1 f2 q12b q6b hn hb3 q10b q7b
          go_wp2
          go_roundw
          case rel =>
            refine ⟨k + 1, O, C ++ [x], by omega, by simp, by omega, by simp; omega, hRR, hG, ?_⟩
            rw [hS, List.drop_eq_getElem_cons hkl, splitG, if_neg (by rw [List.getElem?_eq_getElem hkl] at hx; cases hx; exact hbar)]
            rw [List.getElem?_eq_getElem hkl] at hx
            cases hx
            rfl
          case measure => simp [Go.RowKit.intOf]; omega
    · go_wp2
      go_ret
      have : k = l.length := by omega
      subst this
      rw [List.drop_length] at hS
      rw [hS]
      have hB : B = w.heap.size := by omega
      subst hB
      exact ⟨_, rfl, hR, hP⟩
theorem split_empty (a : Option Addr) (cap : Nat) (w : World) : Calls Tryd.prog 49 #[.slice a 0 cap] w fun e w' => e = .returned (.slice none 0 0) ∧ w' = w := by
  go_enter Tryd.func49, Tryd.ntmps49
  go_wp2
  go_ret
  exact ⟨rfl, rfl⟩
theorem rows_Split.does {l0 : List Tok} {r : List (List Tok)} (h : rows_Split.f l0 = some r) :
    Does Tryd.prog 49 [.c (.d (fr 3 dtok (0, 0, ByteArray.empty) l0))] [] (.c (.d (fr 1 (fun p => [fr 3 dtok (0, 0, ByteArray.empty) p]) [] r))) none [] := by
  unfold rows_Split.f at h
  obtain ⟨hl, h⟩ := ifp h
  obtain ⟨c, hc⟩ := Option.isSome_iff_exists.1 (show Tryd.f49.body.isSome = true from rfl)
  refine does_fresh ⟨Tryd.f49, c, Tryd.func49, by kernel_rfl, hc⟩ (by simp) fun w F args hr => ?_
  obtain ⟨v, rfl, h2⟩ := tsrel_one hr
  rw [TRel] at h2
  have h3 : DRel w F (.fro 3 l0.length (enc dtok (0, 0, ByteArray.empty) l0)) v := h2
  rcases drel_cells (by decide) h3 with ⟨h0, a, cap, rfl⟩ | ⟨h0, b, o, cap, cell, rfl, hcap, hb, _, hcell⟩
  · have : l0 = [] := List.eq_nil_of_length_eq_zero h0
    subst this
    rw [if_pos rfl] at h
    obtain rfl := Option.some.inj h
    refine (split_empty a cap w).mono ?_
    rintro e w' ⟨rfl, rfl⟩
    refine ⟨_, rfl, Rests.rfl, fun _ _ _ => ?_⟩
    rw [TRel]
    exact .fro0 _ _ _ _
  · rw [if_neg (by intro e; subst e; simp at h0)] at h
    obtain rfl := Option.some.inj h
    refine (split_walk l0 w hl b o cap hcap hb h0 fun j x hx => ?_).mono ?_
    · have hj := (List.getElem?_eq_some_iff.1 hx).1
      have he : enc dtok (0, 0, ByteArray.empty) l0 j = dtok x := by unfold enc; rw [List.getD_eq_getElem?_getD, hx]; rfl
      have e0 := hcell j 0 (.int .i64 x.1) hj (by rw [he]; rfl)
      have e1 := hcell j 1 (.int .i64 x.2.1) hj (by rw [he]; rfl)
      have e2 := hcell j 2 (.str x.2.2) hj (by rw [he]; rfl)
      refine ⟨?_, ?_, ?_⟩
      · have := e0.2; revert e0; generalize cell j 0 = u at *; cases this; exact fun e => e.1
      · have := e1.2; revert e1; generalize cell j 1 = u at *; cases this; exact fun e => e.1
      · have := e2.2; revert e2; generalize cell j 2 = u at *; cases this; exact fun e => e.1
    · rintro e w' ⟨v, rfl, hR, hP⟩
      refine ⟨v, rfl, hR, fun _ _ _ => ?_⟩
      rw [TRel]
      refine Parts.drel (c := dtok) (d := (0, 0, ByteArray.empty)) (C := fun p => [fr 3 dtok (0, 0, ByteArray.empty) p]) (fun _ => rfl) (fun b h1 h2 => .inr ⟨h1, h2⟩) (fun _ => rfl) (fun _ => rfl) (fun x i dd u h1 h2 => ?_) hP
      match i, h1, h2 with
      | 0, h1, h2 => simp [dtok, ctok] at h1 h2; subst h1 h2; exact .int _ _
      | 1, h1, h2 => simp [dtok, ctok] at h1 h2; subst h1 h2; exact .int _ _
      | 2, h1, h2 => simp [dtok, ctok] at h1 h2; subst h1 h2; exact .str _

end Go.DI
