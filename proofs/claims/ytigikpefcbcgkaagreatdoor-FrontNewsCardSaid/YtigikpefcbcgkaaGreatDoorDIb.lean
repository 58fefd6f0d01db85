/- A data-level reading of the code of a program, and that it is sound, part 2. No condition. -/
import Derived.Test.YtigikpefcbcgkaaGreatDoorDIa
import Derived.Great.BuildSlice
set_option linter.all false
namespace Go.DI
open Go Go.RowKit
variable [Tabs]

theorem hasN_mem {n : Nat} : ∀ {l : List Nat}, hasN n l = true ↔ n ∈ l
 | [] => by simp [hasN]
 | m :: l => by
  simp only [hasN, List.mem_cons]
  by_cases h : m = n
  ·subst h; simp
  ·have hb : Nat.beq m n = false := by
    cases hb : Nat.beq m n with
    | false => rfl
    | true => exact absurd (Nat.eq_of_beq_eq_true hb) h
   simp only [hb, cond_false, hasN_mem (l := l)]
   exact ⟨fun h => .inr h, fun h' => h'.resolve_left (Ne.symm h)⟩

theorem refs_look {nm t : Nat} : ∀ {env : Env}, nm ∈ refsT (look env t) -> nm ∈ refsE env
 | [], h => by
  have : look [] t = .c .u := rfl
  rw [this, refsT] at h
  simp [refsC] at h
 | (s, v) :: e, h => by
  rw [look_cons] at h
  simp only [refsE, List.mem_append]
  by_cases hs : s = t
  ·rw [if_pos hs] at h; exact .inl h
  ·rw [if_neg hs] at h; exact .inr (refs_look h)

theorem refs_lookO {nm n : Nat} {cs : List Cl} : ∀ {obs : Obs}, lookO obs n = some (.box cs) -> nm ∈ refsC cs -> nm ∈ refsO obs
 | [], h, _ => by simp [lookO] at h
 | (s, v) :: e, h, hm => by
  rw [lookO_cons] at h
  by_cases hs : s = n
  ·rw [if_pos hs] at h
   subst h
   simp only [refsO, List.mem_append]
   exact .inl hm
  ·rw [if_neg hs] at h
   have := refs_lookO h hm
   cases v with
   | none => simpa [refsO] using this
   | some o => cases o <;> simp [refsO] <;> first | exact this | exact .inr this

theorem namesO_mem {n : Nat} : ∀ {u : Obs}, n ∈ namesO u ↔ ∃ o, (n, o) ∈ u
 | [] => by simp [namesO]
 | (m, o) :: u => by
  simp only [namesO, List.mem_cons, namesO_mem (u := u)]
  constructor
  ·rintro (h | ⟨o', h⟩)
   ·subst h; exact ⟨o, .inl rfl⟩
   ·exact ⟨o', .inr h⟩
  ·rintro ⟨o', h | h⟩
   ·exact .inl (by cases h; rfl)
   ·exact .inr ⟨o', h⟩

section
variable {P : Program} {w w' : World} {F F' : Nat -> Prop} {β β' : Nat -> Option (Nat × Nat)} {γ γ' : Nat -> Option Nat} {obs obs' : Obs} {env : Env} {a : Act} {o : Oper} {sup : Option Sup} {e : Eff}

structure Fresh (d : Nat) (env : Env) (obs : Obs) : Prop where
 none : lookO obs d = none
 env : d ∉ refsE env
 obs : d ∉ refsO obs

theorem fresh_of {d : Nat} {upd : Obs} (h : freshOk (some d) upd env obs = true) (hu : d ∈ namesO upd) (hn : lookO obs d = none) : Fresh d env obs := by
 unfold freshOk at h
 simp only [hasN_mem.2 hu, cond_true, hn, Bool.and_eq_true, Bool.not_eq_true'] at h
 exact ⟨hn, fun hm => (by rw [hasN_mem.2 hm] at h; cases h.1), fun hm => (by rw [hasN_mem.2 hm] at h; cases h.2)⟩

theorem EnvOk.keep (E : EnvOk w F β obs env a) (hF : ∀ b, F b -> F' b /\ w'.heap[b]? = w.heap[b]?) (hk : ∀ nm ∈ refsE env, Keeps w w' β β' (lookO obs) (lookO obs') nm) : EnvOk w' F' β' obs' env a :=
 ⟨fun t => TRel.keep hF (fun nm hn => hk nm (refs_look hn)) (E.1 t), TabOk.mono hF E.2⟩

theorem Onto.frozen (H : Heap w F β γ (lookO obs)) (O : Onto w F β γ (lookO obs) w' F' β' γ' (lookO obs')) : ∀ b, F b -> F' b /\ w'.heap[b]? = w.heap[b]? := fun b hb =>
 ⟨O.more b hb, O.keep b (H.flt b hb) fun nm ho => (H.apart nm b ho).1 hb⟩

def setB (β : Nat -> Option (Nat × Nat)) (d : Nat) (x : Option (Nat × Nat)) : Nat -> Option (Nat × Nat) := fun t => if d = t then x else β t
theorem setB_self (β : Nat -> Option (Nat × Nat)) (d : Nat) (x : Option (Nat × Nat)) : setB β d x d = x := by simp [setB]
theorem setB_ne (β : Nat -> Option (Nat × Nat)) {d t : Nat} (x : Option (Nat × Nat)) (h : d ≠ t) : setB β d x t = β t := by simp [setB, h]

theorem alloc_ok {d : Nat} {ob : Ob} {obj : Obj} (H : Heap w F β γ (lookO obs)) (E : EnvOk w F β obs env a) (hf : Fresh d env obs) (hk : ∀ k e sz n get, ob = .row k e sz n get -> k = .own) (hb : ∀ s, ob ≠ .bld s)
 {w1 : World} (h1 : w1.heap = w.heap) (h2 : w1.os = w.os) (h3 : w1.tape = w.tape) (h4 : w1.output = w.output)
 (rel : ObRel (w1.alloc obj) F (setB β d (some (w.heap.size, 0))) γ (lookO ((d, some ob) :: obs)) d ob) :
 Heap (w1.alloc obj) F (setB β d (some (w.heap.size, 0))) γ (lookO ((d, some ob) :: obs)) /\ Onto w F β γ (lookO obs) (w1.alloc obj) F (setB β d (some (w.heap.size, 0))) γ (lookO ((d, some ob) :: obs)) /\ EnvOk (w1.alloc obj) F (setB β d (some (w.heap.size, 0))) ((d, some ob) :: obs) env a /\
  (∀ t, t ≠ d -> Keeps w (w1.alloc obj) β (setB β d (some (w.heap.size, 0))) (lookO obs) (lookO ((d, some ob) :: obs)) t) := by
 have hsz : (w1.alloc obj).heap.size = w.heap.size + 1 := by simp [h1]
 have heq : ∀ b, b < w.heap.size -> (w1.alloc obj).heap[b]? = w.heap[b]? := fun b hb => by rw [Below.heap_alloc _ _ _ (by rw [h1]; exact hb), h1]
 have own : ∀ b, Owns (setB β d (some (w.heap.size, 0))) γ (lookO ((d, some ob) :: obs)) d b -> b = w.heap.size := fun b ho => by
  have hl : lookO ((d, some ob) :: obs) d = some ob := by rw [lookO_cons, if_pos rfl]
  simp only [Owns, hl, setB_self] at ho
  cases ob with
  | box cs => obtain ⟨q, hq⟩ := ho; cases hq; rfl
  | iter s p => obtain ⟨q, hq⟩ := ho; cases hq; rfl
  | bld s => exact absurd rfl (hb s)
  | row k e sz n get =>
   have := hk k e sz n get rfl
   subst this
   obtain ⟨q, hq⟩ := ho; cases hq; rfl
 obtain ⟨H', O', K'⟩ := newOb (w' := w1.alloc obj) (F' := F) (β' := setB β d (some (w.heap.size, 0))) (γ' := γ) (ob' := lookO ((d, some ob) :: obs)) (o := ob) H hf.none (fun n cs hn hm => hf.obs (refs_lookO hn hm))
  (by simp [World.alloc, h2]) (by simp [World.alloc, h3]) (by simp [World.alloc, h4]) (by omega) heq (fun t => lookO_cons _ _ _ _) (fun t ht => setB_ne _ _ ht) (fun t _ => rfl) (fun b h => h) (fun b h => .inl h)
  (fun b ho => by rw [own b ho]; exact ⟨Nat.le_refl _, by omega, fun hf => by have := H.flt _ hf; omega⟩) (fun b q hb => by rw [setB_self] at hb; cases hb; exact Nat.le_refl _) rel
 exact ⟨H', O', E.keep (O'.frozen H) (fun nm hn => K' nm fun hd => hf.env (hd ▸ hn)), K'⟩

theorem good_newbox {d : Nat} {cs : List Cl} {cells : Array Value} {el : TypeId} (H : Heap w F β γ (lookO obs)) (E : EnvOk w F β obs env a) (hf : Fresh d env obs) (hr : CsRel w F β (lookO obs) cs cells.toList) (h1 : ∀ u ∈ cells.toList, u.oneCell' = true)
 (hrun : (execOp a.eval o).run P w = .ok (.value (.pointer (some ⟨w.heap.size, 0, none⟩))) (w.alloc (.cells cells el))) (hrefs : d ∉ refsC cs) {q : Option Prop} : Good P w F β γ obs env a o ⟨.c (.ptr d 0), [(d, some (.box cs))], [], q⟩ := by
 have hl : lookO ((d, some (.box cs)) :: obs) d = some (.box cs) := by rw [lookO_cons, if_pos rfl]
 have hF : ∀ b, F b -> F b /\ (w.alloc (.cells cells el)).heap[b]? = w.heap[b]? := fun b hb => ⟨hb, Below.heap_alloc _ _ _ (H.flt b hb)⟩
 have keepOld : ∀ nm ∈ refsC cs, Keeps w (w.alloc (.cells cells el)) β (setB β d (some (w.heap.size, 0))) (lookO obs) (lookO ((d, some (.box cs)) :: obs)) nm := fun nm hn => by
  have hne : d ≠ nm := fun e => hrefs (e ▸ hn)
  intro o' ho'
  rw [lookO_cons, if_neg hne] at ho'
  refine ⟨o', ho', Shape.refl o', setB_ne _ _ hne, fun b q hb cur e fr hh => ?_⟩
  have hlt : b < w.heap.size := by
   cases o' with
   | box c => obtain ⟨b', _, _, g1, g2, _⟩ := H.obs _ _ ho'; rw [hb] at g1; cases g1; exact (Array.getElem?_eq_some_iff.1 g2).1
   | iter s p => obtain ⟨b', g1, g2⟩ := H.obs _ _ ho'; rw [hb] at g1; cases g1; exact (Array.getElem?_eq_some_iff.1 g2).1
   | bld s => obtain ⟨b', g1, _, _, _, _, _, g2, _⟩ := H.obs _ _ ho'; rw [hb] at g1; cases g1; exact (Array.getElem?_eq_some_iff.1 g2).1
   | row k e sz n get =>
    rcases H.obs _ _ ho' with ⟨_, g1⟩ | ⟨b', _, _, _, _, g1, g2, _⟩
    ·rw [hb] at g1; cases g1
    ·rw [hb] at g1; cases g1; exact (Array.getElem?_eq_some_iff.1 g2).1
  exact ⟨cur, e, fr, by rw [<- Below.heap_alloc w (.cells cells el) b hlt]; exact hh, rfl⟩
 obtain ⟨H', O', E', _⟩ := alloc_ok (obj := .cells cells el) (ob := .box cs) H E hf (fun _ _ _ _ _ h => by cases h) (fun _ h => by cases h) (w1 := w) rfl rfl rfl rfl
  ⟨w.heap.size, cells, el, setB_self _ _ _, heap_alloc_new w _, CsRel.keep hF keepOld hr, h1⟩
 refine ⟨_, _, _, _, _, _, hrun, .inl rfl, H', O', ?_, E'⟩
 rw [TRel]
 simp only [CRel, List.singleton_append, hl]
 exact ⟨rfl, w.heap.size, setB_self _ _ _, rfl⟩

theorem refs_ofCell (v : Value) : refsC [ofCell v] = [] := by
 unfold ofCell
 split <;> rfl
theorem refs_ofCells : ∀ l : List Value, refsC (l.map ofCell) = []
 | [] => rfl
 | v :: l => by rw [List.map_cons, refsC_cons, refs_ofCell, refs_ofCells l]; rfl

theorem ofCell_nilp {v : Value} (h : ofCell v = .d .nilp) : v = .pointer none := by
 unfold ofCell at h
 split at h <;> first | rfl | (cases h)
theorem ofCell_nils {v : Value} (h : ofCell v = .nils) : v = .slice none 0 0 := by
 unfold ofCell at h
 split at h <;> first | rfl | (cases h)
theorem ofCell_bld : ∀ {l : List Value}, l.map ofCell = [.d .nilp, .nils] -> l = [.pointer none, .slice none 0 0]
 | [], h => by cases h
 | [_], h => by
  have := congrArg List.length h
  simp at this
 | [a, b], h => by
  simp only [List.map_cons, List.map_nil, List.cons.injEq, and_true] at h
  rw [ofCell_nilp h.1, ofCell_nils h.2]
 | _ :: _ :: _ :: _, h => by
  have := congrArg List.length h
  simp at this
theorem good_newbld {d : Nat} (H : Heap w F β γ (lookO obs)) (E : EnvOk w F β obs env a) (hf : Fresh d env obs)
 (hrun : (execOp a.eval o).run P w = .ok (.value (.pointer (some ⟨w.heap.size, 0, none⟩))) (w.alloc (.cells #[.pointer none, .slice none 0 0] Tabs.bT))) {q : Option Prop} : Good P w F β γ obs env a o ⟨.c (.ptr d 0), [(d, some (.bld .empty))], [], q⟩ := by
 have hl : lookO ((d, some (Ob.bld .empty)) :: obs) d = some (.bld .empty) := by rw [lookO_cons, if_pos rfl]
 let obj : Obj := .cells #[.pointer none, .slice none 0 0] Tabs.bT
 let γ' : Nat -> Option Nat := fun t => if d = t then none else γ t
 have hsz : (w.alloc obj).heap.size = w.heap.size + 1 := by simp
 have own : ∀ b, Owns (setB β d (some (w.heap.size, 0))) γ' (lookO ((d, some (Ob.bld .empty)) :: obs)) d b -> b = w.heap.size := fun b ho => by
  simp only [Owns, hl, setB_self, γ', if_true] at ho
  rcases ho with h | h
  ·cases h; rfl
  ·cases h
 have rel : ObRel (w.alloc obj) F (setB β d (some (w.heap.size, 0))) γ' (lookO ((d, some (Ob.bld .empty)) :: obs)) d (.bld .empty) := by
  refine ⟨w.heap.size, setB_self _ _ _, _, _, .pointer none, 0, 0, heap_alloc_new w obj, ?_, rfl, ⟨rfl, .inl rfl⟩, .inl ⟨?_, rfl, rfl⟩⟩
  ·simp [γ']
  ·simp [γ']
 obtain ⟨H', O', K'⟩ := newOb (w' := w.alloc obj) (F' := F) (β' := setB β d (some (w.heap.size, 0))) (γ' := γ') (ob' := lookO ((d, some (Ob.bld .empty)) :: obs)) (o := .bld .empty) H hf.none (fun n cs hn hm => hf.obs (refs_lookO hn hm))
  rfl rfl rfl (by omega) (fun b hb => Below.heap_alloc _ _ _ hb) (fun t => lookO_cons _ _ _ _) (fun t ht => setB_ne _ _ ht) (fun t ht => if_neg ht) (fun b h => h) (fun b h => .inl h)
  (fun b ho => by rw [own b ho]; exact ⟨Nat.le_refl _, by omega, fun hf => by have := H.flt _ hf; omega⟩) (fun b q hb => by rw [setB_self] at hb; cases hb; exact Nat.le_refl _) rel
 refine ⟨_, _, _, _, _, _, hrun, .inl rfl, H', O', ?_, E.keep (O'.frozen H) (fun nm hn => K' nm fun hd => hf.env (hd ▸ hn))⟩
 rw [TRel]
 simp only [CRel, List.singleton_append, hl]
 exact ⟨rfl, w.heap.size, setB_self _ _ _, rfl⟩

theorem good_alloc {t : TypeId} (H : Heap w F β γ (lookO obs)) (E : EnvOk w F β obs env a) (ho : o.op = .alloc t) (h : exec P env obs o sup = some e) (hfr : freshOk o.dst e.upd env obs = true) : Good P w F β γ obs env a o e := by
 unfold exec at h
 simp only [ho] at h
 split at h
 ·rename_i d cs hd hz
  split at h
  ·rename_i hn
   obtain ⟨i, z, hi, hzv, hzs, hz1, rfl⟩ := zeroT_some hz
   cases hbt : Nat.beq t Tabs.bT with
   | false =>
    rw [hbt] at h
    injection h with h
    subst h
    rw [hd] at hfr
    have hf := fresh_of hfr (by simp [namesO]) hn
    exact good_newbox (cells := z.cells) (el := t) H E hf (csrel_ofCell _ _ _ _ _) hz1 (by simp [execOp, ho, Instr.alloc, agg_of_all (w := w) hi hzv, newVar, newRow, newObj]; rfl) (by rw [refs_ofCells]; simp)
   | true =>
    rw [hbt] at h
    simp only [cond_true] at h
    have hb : t = Tabs.bT := Nat.eq_of_beq_eq_true hbt
    split at h
    ·rename_i hcs
     injection h with h
     subst h
     rw [hd] at hfr
     have hf := fresh_of hfr (by simp [namesO]) hn
     have hcell : z.cells = #[.pointer none, .slice none 0 0] := by
      have := ofCell_bld hcs
      rw [<- Array.toArray_toList (xs := z.cells), this]
     refine good_newbld H E hf ?_
     have : (execOp a.eval o).run P w = .ok (.value (.pointer (some ⟨w.heap.size, 0, none⟩))) (w.alloc (.cells z.cells t)) := by simp [execOp, ho, Instr.alloc, agg_of_all (w := w) hi hzv, newVar, newRow, newObj]; rfl
     rw [this, hcell, hb]
    ·cases h
  ·cases h
 ·cases h

theorem cells_refs {t : TV} {cs : List Cl} (h : cellsOf t = some cs) : refsC cs = refsT t := by
 cases t with
 | c c => cases c <;> simp [cellsOf] at h <;> subst h <;> rw [refsT]
 | agg l => simp [cellsOf] at h; subst h; rw [refsT]
 | tup ts => simp [cellsOf] at h

theorem evalO_refs {x : Operand} {n : Nat} (h : n ∈ refsT (evalO env x)) : n ∈ refsE env := by
 cases x with
 | tmp t => exact refs_look h
 | const v =>
  exfalso
  revert h
  show n ∈ refsT (ofConst v) -> False
  cases v with
  | agg cs =>
   simp only [ofConst]
   cases cs.toList.all (·.oneCell') with
   | false => simp only [cond_false]; rw [refsT]; simp [refsC]
   | true => simp only [cond_true]; rw [refsT, refs_ofCells]; simp
  | tuple vs =>
   obtain ⟨l⟩ := vs
   cases l with
   | nil => show n ∈ refsT (.tup []) -> False; rw [refsT, refsTs]; simp
   | cons x l => show n ∈ refsT (.c .u) -> False; rw [refsT]; simp [refsC]
  | _ => simp only [ofConst]; rw [refsT, refs_ofCell]; simp
 | global g =>
  simp only [evalO] at h
  split at h <;> (rw [refsT] at h; simp [refsC] at h)
 | func f => have : evalO env (.func f) = .c .u := rfl; rw [this, refsT] at h; simp [refsC] at h

theorem good_box {t : TypeId} {x : Operand} (H : Heap w F β γ (lookO obs)) (E : EnvOk w F β obs env a) (ho : o.op = .box t x) (h : exec P env obs o sup = some e) (hfr : freshOk o.dst e.upd env obs = true) : Good P w F β γ obs env a o e := by
 unfold exec at h
 simp only [ho] at h
 have hx := evalO_rel E x
 split at h
 ·rename_i d cs hd hc
  split at h
  ·rename_i hn
   injection h with h
   subst h
   rw [hd] at hfr
   have hf := fresh_of hfr (by simp [namesO]) hn
   obtain ⟨r1, r2⟩ := cells_rel hx hc
   exact good_newbox (cells := (a.eval x).cells) (el := t) H E hf r1 r2 (by simp [execOp, ho, Instr.box, newVar, newRow, newObj]; rfl) (by rw [cells_refs hc]; exact fun hm => hf.env (evalO_refs hm))
  ·cases h
 ·cases h

theorem good_range {t : TypeId} {x : Operand} (H : Heap w F β γ (lookO obs)) (E : EnvOk w F β obs env a) (ho : o.op = .range t x) (h : exec P env obs o sup = some e) (hfr : freshOk o.dst e.upd env obs = true) : Good P w F β γ obs env a o e := by
 unfold exec at h
 simp only [ho] at h
 have hx := evalO_rel E x
 split at h
 ·rename_i d s hd hu hxe
  split at h
  ·rename_i hn
   injection h with h
   subst h
   rw [hd] at hfr
   have hf := fresh_of hfr (by simp [namesO]) hn
   rw [hxe] at hx
   have hl : lookO ((d, some (.iter s 0)) :: obs) d = some (.iter s 0) := by rw [lookO_cons, if_pos rfl]
   obtain ⟨H', O', E', _⟩ := alloc_ok (obj := .stringIter s 0) (ob := .iter s 0) H E hf (fun _ _ _ _ _ h => by cases h) (fun _ h => by cases h) (w1 := w) rfl rfl rfl rfl ⟨w.heap.size, setB_self _ _ _, heap_alloc_new w _⟩
   refine ⟨_, .pointer (some ⟨w.heap.size, 0, none⟩), _, _, _, _, ?_, .inl rfl, H', O', ?_, E'⟩
   ·simp [execOp, ho, of_str hx, Instr.range, run_underlying hu, newObj]; rfl
   ·rw [TRel]
    simp only [CRel, List.singleton_append, hl]
    exact ⟨rfl, w.heap.size, setB_self _ _ _, rfl⟩
  ·cases h
 ·cases h
end
end Go.DI
namespace Go.DI
open Go Go.RowKit
variable [Tabs]

section
variable {P : Program} {w w' : World} {F F' : Nat -> Prop} {β β' : Nat -> Option (Nat × Nat)} {γ γ' : Nat -> Option Nat} {obs obs' : Obs} {env : Env} {a : Act} {o : Oper} {sup : Option Sup} {e : Eff}

theorem lookO_self (d : Nat) (x : Option Ob) (u : Obs) : lookO ((d, x) :: u) d = x := by rw [lookO_cons, if_pos rfl]

theorem good_next {it : Operand} (H : Heap w F β γ (lookO obs)) (E : EnvOk w F β obs env a) (ho : o.op = .next it true) (h : exec P env obs o sup = some e) (hq : ∀ p, e.req = some p -> p) : Good P w F β γ obs env a o e := by
 unfold exec at h
 simp only [ho] at h
 have hx := evalO_rel E it
 split at h
 ·rename_i nm t hxe
  rw [hxe, TRel] at hx
  split at h
  ·rename_i s pos hob
   injection h with h
   subst h
   have hp : pos < s.size := hq _ rfl
   simp only [CRel, hob] at hx
   obtain ⟨_, b, hb, hv⟩ := hx
   obtain ⟨b', g1, g2⟩ := H.obs _ _ hob
   rw [hb] at g1
   cases g1
   have hblt : b < w.heap.size := (Array.getElem?_eq_some_iff.1 g2).1
   have hl := lookO_self nm (some (.iter s (pos + (Utf8.decode s pos).2))) obs
   have owns : ∀ x, Owns β γ (lookO obs) nm x ↔ x = b := fun x => by
    simp only [Owns, hob, hb]
    exact ⟨fun ⟨q, hq⟩ => by cases hq; rfl, fun h => ⟨0, by rw [h]⟩⟩
   let w' : World := { w with heap := w.heap.setIfInBounds b (.stringIter s (pos + (Utf8.decode s pos).2)) }
   have hother : ∀ x, x ≠ b -> w'.heap[x]? = w.heap[x]? := fun x hx => by
    show (w.heap.setIfInBounds b _)[x]? = _
    rw [Array.getElem?_setIfInBounds_ne (Ne.symm hx)]
   have hself : w'.heap[b]? = some (.stringIter s (pos + (Utf8.decode s pos).2)) := by
    show (w.heap.setIfInBounds b _)[b]? = _
    simp [hblt]
   obtain ⟨H', O', K'⟩ := modOb (w' := w') (ob' := lookO ((nm, some (.iter s (pos + (Utf8.decode s pos).2))) :: obs)) H hob (o' := .iter s (pos + (Utf8.decode s pos).2)) trivial
    (fun x => by simp only [Owns, hob, hl]) rfl rfl rfl (by show (w.heap.setIfInBounds b _).size = _; simp) (fun x hx => hother x fun e => hx ((owns x).2 e))
    (fun x hx cur e fr hh => by rw [(owns x).1 hx, hself] at hh; cases hh) (fun _ _ _ _ _ _ h => by cases h) (fun t => lookO_cons _ _ _ _) (fun _ => trivial) (fun e sz n get h => by cases h) ⟨b, hb, hself⟩
   refine ⟨_, .tuple #[.bool true, .int .i64 pos, .int .i32 (Utf8.decode s pos).1], w', F, β, γ, ?_, .inl rfl, H', O', ?_, E.keep (O'.frozen H) (fun nm _ => K' nm)⟩
   ·simp [execOp, ho, hv, Instr.next, getObj, setObj, Sem.run, g2, hp, goInt, w']
   ·rw [TRel]
    exact ⟨_, rfl, by simp only [TsRel]; exact ⟨trel_d (.bool _), trel_d (.int _ _), trel_d (.int _ _), trivial⟩⟩
  ·rename_i s pos hob
   injection h with h
   subst h
   have hp : ¬ pos < s.size := hq _ rfl
   simp only [CRel, hob] at hx
   obtain ⟨_, b, hb, hv⟩ := hx
   obtain ⟨b', g1, g2⟩ := H.obs _ _ hob
   rw [hb] at g1
   cases g1
   refine Good.pure H E (v := .tuple #[.bool false]) ?_ ?_
   ·simp [execOp, ho, hv, Instr.next, getObj, Sem.run, g2, hp]
   ·rw [TRel]
    exact ⟨_, rfl, by simp only [TsRel]; exact ⟨trel_d (.bool _), trivial⟩⟩
  ·cases h
 ·cases h

theorem good_storebox {t : TypeId} {x y : Operand} {nm off : Nat} {cs new : List Cl} (H : Heap w F β γ (lookO obs)) (E : EnvOk w F β obs env a) (ho : o.op = .store t x y) (hx : evalO env x = .c (.ptr nm off)) (hn : cellsOf (evalO env y) = some new) (hob : lookO obs nm = some (.box cs))
 (hsz : new.length = P.cellsOf t) (hle : off + new.length <= cs.length) (hinf : (P.info? t).isSome = true) {rd : List Nat} {q : Option Prop} : Good P w F β γ obs env a o ⟨.c .u, [(nm, some (.box (over off new cs)))], rd, q⟩ := by
 have h1 := evalO_rel E x
 have h2 := evalO_rel E y
 rw [hx, TRel] at h1
 simp only [CRel, hob] at h1
 obtain ⟨_, b, hb, hv⟩ := h1
 obtain ⟨r1, r2⟩ := cells_rel h2 hn
 obtain ⟨b', cells, el, g1, g2, g3, g4⟩ := H.obs _ _ hob
 rw [hb] at g1
 cases g1
 have hlen := r1.length
 have hln := g3.length
 simp only [Array.length_toList] at hlen hln
 obtain ⟨inf, hi⟩ := Option.isSome_iff_exists.1 hinf
 have hsize : inf.size = (a.eval y).cells.size := by rw [<- hlen, hsz]; simp [Program.cellsOf, hi]
 have hrun := run_storeCells_at P b off el (a.eval y).cells.toList 0 cells w g2 (by simp; omega) r2
 simp only [Nat.add_zero, Array.length_toList] at hrun
 let cells' : Array Value := (cells.toList.take off ++ (a.eval y).cells.toList ++ cells.toList.drop (off + (a.eval y).cells.size)).toArray
 have hl := lookO_self nm (some (.box (over off new cs))) obs
 have owns : ∀ x, Owns β γ (lookO obs) nm x ↔ x = b := fun x => by
  simp only [Owns, hob, hb]
  exact ⟨fun ⟨q, hq⟩ => by cases hq; rfl, fun h => ⟨0, by rw [h]⟩⟩
 have hself : (w.setRow b cells').heap[b]? = some (.cells cells' el (0, 0)) := setRow_heap w b cells cells' el (0, 0) g2
 have hsz' : cells'.size = cells.size := by simp [cells']; omega
 have hother : ∀ x, x ≠ b -> (w.setRow b cells').heap[x]? = w.heap[x]? := fun x hx => setRow_other w b x cells' hx
 have hkeep : ∀ n, Keeps w (w.setRow b cells') β β (lookO obs) (lookO ((nm, some (.box (over off new cs))) :: obs)) n := fun n o' h => by
  rw [lookO_cons] at h
  have hcur : ∀ x q, β n = some (x, q) -> ∀ cur e fr, (w.setRow b cells').heap[x]? = some (.cells cur e fr) -> ∃ cur0 e0 fr0, w.heap[x]? = some (.cells cur0 e0 fr0) /\ cur0.size = cur.size := fun x q _ cur e fr hh => by
   by_cases hxb : x = b
   ·subst hxb
    rw [hself] at hh
    cases hh
    exact ⟨cells, el, (0, 0), g2, hsz'.symm⟩
   ·rw [hother x hxb] at hh
    exact ⟨cur, e, fr, hh, rfl⟩
  by_cases hn : nm = n
  ·subst hn
   rw [if_pos rfl] at h
   cases h
   exact ⟨_, hob, trivial, rfl, hcur⟩
  ·rw [if_neg hn] at h
   exact ⟨o', h, Shape.refl o', rfl, hcur⟩
 have hF : ∀ x, F x -> F x /\ (w.setRow b cells').heap[x]? = w.heap[x]? := fun x hx => ⟨hx, hother x fun e => (H.apart nm x ((owns x).2 e)).1 hx⟩
 obtain ⟨H', O', K'⟩ := modOb (w' := w.setRow b cells') (ob' := lookO ((nm, some (.box (over off new cs))) :: obs)) H hob (o' := .box (over off new cs)) trivial
  (fun x => by simp only [Owns, hob, hl]) rfl rfl rfl (by simp) (fun x hx => hother x fun e => hx ((owns x).2 e))
  (fun x hx cur e fr hh => by rw [(owns x).1 hx, hself] at hh; cases hh; rw [(owns x).1 hx]; exact ⟨cells, (0, 0), g2, hsz'.symm⟩) (fun _ _ _ _ _ _ h => by cases h) (fun t => lookO_cons _ _ _ _) (fun _ => trivial) (fun e sz n get h => by cases h)
  ⟨b, cells', el, hb, hself, by
   have := CsRel.over off g3 r1
   simp only [Array.length_toList] at this
   exact CsRel.keep hF (fun n _ => hkeep n) this, fun u hu => by
   have hu' : u ∈ cells.toList.take off ++ (a.eval y).cells.toList ++ cells.toList.drop (off + (a.eval y).cells.size) := hu
   rcases List.mem_append.1 hu' with hu | hu
   ·rcases List.mem_append.1 hu with hu | hu
    ·exact g4 u (List.mem_of_mem_take hu)
    ·exact r2 u hu
   ·exact g4 u (List.mem_of_mem_drop hu)⟩
 refine ⟨.skip, undef, w.setRow b cells', F, β, γ, ?_, .inr ⟨rfl, rfl⟩, H', O', by rw [TRel]; trivial, E.keep (O'.frozen H) (fun nm _ => K' nm)⟩
 simp [execOp, ho, hv, Instr.storeAt, Instr.sureAddr, storeVar, sizeOf, typeInfo, hi, hsize, hrun, cells']

theorem dsrel_length {ds : List Dat} {vs : List Value} (h : DsRel w F ds vs) : ds.length = vs.length := by
 induction ds generalizing vs with
 | nil => cases vs with
  | nil => rfl
  | cons v vs => exact h.elim
 | cons d ds ih => cases vs with
  | nil => exact h.elim
  | cons v vs => simp [ih h.2]
theorem dsrel_get {ds : List Dat} {vs : List Value} (h : DsRel w F ds vs) (i : Nat) {d : Dat} (hd : ds[i]? = some d) : ∃ v, vs[i]? = some v /\ DRel w F d v := by
 induction ds generalizing vs i with
 | nil => simp at hd
 | cons x ds ih => cases vs with
  | nil => exact h.elim
  | cons v vs =>
   cases i with
   | zero => simp at hd; subst hd; exact ⟨v, by simp, h.1⟩
   | succ i => simpa using ih h.2 i (by simpa using hd)
theorem hasSelf_false {nm : Nat} : ∀ {cs : List Cl}, hasSelf nm cs = false -> Cl.own nm ∉ cs
 | [], _ => by simp
 | c :: cs, h => by
  cases c with
  | own m =>
   simp only [hasSelf] at h
   by_cases hm : m = nm
   ·subst hm; simp at h
   ·have hb : Nat.beq m nm = false := by
     cases hb : Nat.beq m nm with
     | false => rfl
     | true => exact absurd (Nat.eq_of_beq_eq_true hb) hm
    simp only [hb, cond_false] at h
    intro hh
    rcases List.mem_cons.1 hh with h1 | h1
    ·cases h1; exact hm rfl
    ·exact hasSelf_false h h1
  | _ => simp only [hasSelf] at h; intro hh; rcases List.mem_cons.1 hh with h1 | h1; (· cases h1); (· exact hasSelf_false h h1)

theorem rowsIn_not {nm : Nat} : ∀ {cs : List Cl}, Cl.own nm ∉ cs -> nm ∉ namesO (rowsIn obs cs)
 | [], _ => by simp [rowsIn, namesO]
 | c :: cs, h => by
  have h2 : nm ∉ namesO (rowsIn obs cs) := rowsIn_not fun hm => h (List.mem_cons_of_mem _ hm)
  cases c with
  | own m =>
   simp only [rowsIn]
   split
   ·simp only [namesO, List.mem_cons, not_or]
    exact ⟨fun e => h (by rw [e]; exact List.mem_cons_self), h2⟩
   ·exact h2
  | _ => exact h2

theorem good_storerow {t : TypeId} {x y : Operand} {nm el off : Nat} {k : RK} {e2 sz n n' : Nat} {get get' : Nat -> List Dat} {new : List Cl} {ds : List Dat} (H : Heap w F β γ (lookO obs)) (E : EnvOk w F β obs env a) (ho : o.op = .store t x y) (hx : evalO env x = .c (.rp nm el off)) (hn : cellsOf (evalO env y) = some new)
 (hob : lookO obs nm = some (.row k e2 sz n get)) (hds : datsOf obs new = some ds) (hk : k ≠ .frz) (hsz : ds.length = P.cellsOf t) (hle : off + ds.length <= sz) (hinf : (P.info? t).isSome = true) (hw : isWin obs new = false) (hself : hasSelf nm new = false)
 (hnn : n' = n) (hs : Same n get' fun j => if j = el then overD off ds (get j) else get j) {rd : List Nat} {q : Option Prop} : Good P w F β γ obs env a o ⟨.c .u, (nm, some (.row k e2 sz n' get')) :: rowsIn obs new, rd, q⟩ := by
 subst hnn
 have h1 := evalO_rel E x
 have h2 := evalO_rel E y
 rw [hx, TRel] at h1
 simp only [CRel, hob] at h1
 obtain ⟨_, hel, b, qo, hb, hv⟩ := h1
 obtain ⟨r1, r2⟩ := cells_rel h2 hn
 obtain ⟨F1, Z⟩ := freezeAll obs F H new
 have hDs := dats_of_frz Z new ds _ (fun c hc => hc) hw hds r1
 have hlen := dsrel_length hDs
 simp only [Array.length_toList] at hlen
 have hlook : lookO (rowsIn obs new ++ obs) nm = lookO obs nm := by rw [lookO_append, if_neg (rowsIn_not (hasSelf_false hself))]
 have hob1 : lookO (rowsIn obs new ++ obs) nm = some (.row k e2 sz n' get) := hlook.trans hob
 have H1 := Z.heap
 rcases H1.obs _ _ hob1 with ⟨g0, _⟩ | ⟨b', qo', cur, e3, fr, g1, g2, g3, g4, g5, g6⟩
 ·omega
 ·rw [hb] at g1
  cases g1
  have hfr := g5 hk
  subst hfr
  obtain ⟨inf, hi⟩ := Option.isSome_iff_exists.1 hinf
  have hsize : inf.size = (a.eval y).cells.size := by rw [<- hlen, hsz]; simp [Program.cellsOf, hi]
  have hfit : qo + el * sz + off + (a.eval y).cells.size <= cur.size := by
   have : (el + 1) * sz <= n' * sz := Nat.mul_le_mul_right _ hel
   rw [Nat.add_mul, Nat.one_mul] at this
   have := g3.1
   omega
  have hrun := run_storeCells_at P b (qo + el * sz + off) e3 (a.eval y).cells.toList 0 cur w g2 (by simp; omega) r2
  simp only [Nat.add_zero, Array.length_toList] at hrun
  let cur' : Array Value := (cur.toList.take (qo + el * sz + off) ++ (a.eval y).cells.toList ++ cur.toList.drop (qo + el * sz + off + (a.eval y).cells.size)).toArray
  have hl := lookO_self nm (some (.row k e2 sz n' get')) (rowsIn obs new ++ obs)
  have owns : ∀ x, Owns β γ (lookO (rowsIn obs new ++ obs)) nm x ↔ x = b := fun x => by
   cases k with
   | frz => exact absurd rfl hk
   | own =>
    simp only [Owns, hob1, hb]
    exact ⟨fun ⟨q, hq⟩ => by cases hq; rfl, fun h => ⟨qo, by rw [h]⟩⟩
   | win =>
    simp only [Owns, hob1, hb]
    exact ⟨fun ⟨q, hq⟩ => by cases hq; rfl, fun h => ⟨qo, by rw [h]⟩⟩
  have hself' : (w.setRow b cur').heap[b]? = some (.cells cur' e3 (0, 0)) := setRow_heap w b cur cur' e3 (0, 0) g2
  have hsz' : cur'.size = cur.size := by simp [cur']; omega
  have hother : ∀ x, x ≠ b -> (w.setRow b cur').heap[x]? = w.heap[x]? := fun x hx => setRow_other w b x cur' hx
  have hF1 : ∀ x, F1 x -> F1 x /\ (w.setRow b cur').heap[x]? = w.heap[x]? := fun x hx => ⟨hx, hother x fun e => (H1.apart nm x ((owns x).2 e)).1 hx⟩
  have hout : ∀ i, i < qo + el * sz + off \/ qo + el * sz + off + (a.eval y).cells.size <= i -> cur'[i]? = cur[i]? := fun i hi => by
   show (List.toArray _)[i]? = _
   rw [List.getElem?_toArray]
   rcases hi with hi | hi
   ·rw [List.append_assoc, List.getElem?_append_left (by simp; omega), List.getElem?_take_of_lt hi]
    simp
   ·rw [List.getElem?_append_right (by simp; omega), List.getElem?_drop]
    simp only [List.length_append, List.length_take, Array.length_toList]
    rw [Nat.min_eq_left (by omega)]
    have : qo + el * sz + off + (a.eval y).cells.size + (i - (qo + el * sz + off + (a.eval y).cells.size)) = i := by omega
    rw [this]; simp
  have hin : ∀ i, i < (a.eval y).cells.size -> cur'[qo + el * sz + off + i]? = (a.eval y).cells.toList[i]? := fun i hi => by
   show (List.toArray _)[_]? = _
   rw [List.getElem?_toArray, List.append_assoc, List.getElem?_append_right (by simp; omega), List.getElem?_append_left (by simp; omega)]
   congr 1
   simp only [List.length_take, Array.length_toList]
   omega
  have rel : ObRel (w.setRow b cur') F1 β γ (lookO ((nm, some (.row k e2 sz n' get')) :: (rowsIn obs new ++ obs))) nm (.row k e2 sz n' get') := by
   refine .inr ⟨b, qo, cur', e3, (0, 0), hb, hself', ⟨by rw [hsz']; exact g3.1, fun j hj => ?_⟩, fun hk => by rw [hsz']; exact g4 hk, fun _ => rfl, fun hk' => absurd hk' hk⟩
   obtain ⟨l1, l2⟩ := (hs j hj).get
   by_cases hjel : j = el
   ·subst hjel
    simp only [if_true] at l1 l2
    have hgl := (g3.2 j hj).1
    have hol : (overD off ds (get j)).length = sz := by
     unfold overD
     simp only [List.length_append, List.length_take, List.length_drop, hgl]
     omega
    refine ⟨l1.trans hol, fun i d hd => ?_⟩
    obtain ⟨d2, hd2, hsim⟩ := l2 i d hd
    unfold overD at hd2
    by_cases c1 : i < off
    ·rw [List.append_assoc, List.getElem?_append_left (by simp; omega), List.getElem?_take_of_lt c1] at hd2
     obtain ⟨u, u1, u2, u3⟩ := (g3.2 j hj).2 i d2 hd2
     exact ⟨u, by rw [hout _ (.inl (by omega))]; exact u1, (u2.mono hF1).sim hsim, u3⟩
    ·by_cases c2 : i < off + ds.length
     ·rw [List.append_assoc, List.getElem?_append_right (by simp; omega), List.getElem?_append_left (by simp; omega)] at hd2
      simp only [List.length_take, hgl, Nat.min_eq_left (show off <= sz by omega)] at hd2
      obtain ⟨u, u1, u2⟩ := dsrel_get hDs (i - off) hd2
      refine ⟨u, ?_, (u2.mono hF1).sim hsim, u2.oneCell⟩
      have := hin (i - off) (by omega)
      rw [u1] at this
      rw [<- this]
      congr 1
      omega
     ·rw [List.getElem?_append_right (by simp; omega), List.getElem?_drop] at hd2
      simp only [List.length_append, List.length_take, hgl, Nat.min_eq_left (show off <= sz by omega)] at hd2
      have e1 : off + ds.length + (i - (off + ds.length)) = i := by omega
      rw [e1] at hd2
      obtain ⟨u, u1, u2, u3⟩ := (g3.2 j hj).2 i d2 hd2
      exact ⟨u, by rw [hout _ (.inr (by omega))]; exact u1, (u2.mono hF1).sim hsim, u3⟩
   ·simp only [if_neg hjel] at l1 l2
    obtain ⟨m1, m2⟩ := g3.2 j hj
    refine ⟨l1.trans m1, fun i d hd => ?_⟩
    obtain ⟨d2, hd2, hsim⟩ := l2 i d hd
    obtain ⟨u, u1, u2, u3⟩ := m2 i d2 hd2
    refine ⟨u, ?_, (u2.mono hF1).sim hsim, u3⟩
    rw [hout]
    ·exact u1
    ·have hi : i < sz := by
      have := (List.getElem?_eq_some_iff.1 hd2).1
      omega
     rcases Nat.lt_or_gt_of_ne hjel with c | c
     ·left
      have : (j + 1) * sz <= el * sz := Nat.mul_le_mul_right _ c
      rw [Nat.add_mul, Nat.one_mul] at this
      omega
     ·right
      have : (el + 1) * sz <= j * sz := Nat.mul_le_mul_right _ c
      rw [Nat.add_mul, Nat.one_mul] at this
      omega
  obtain ⟨H', O', K'⟩ := modOb (w' := w.setRow b cur') (ob' := lookO ((nm, some (.row k e2 sz n' get')) :: (rowsIn obs new ++ obs))) H1 hob1 (o' := .row k e2 sz n' get') ⟨rfl, rfl, fun h => h⟩
   (fun x => by cases k <;> simp only [Owns, hob1, hl]) rfl rfl rfl (by simp) (fun x hx => hother x fun e => hx ((owns x).2 e))
   (fun x hx c e fr hh => by rw [(owns x).1 hx, hself'] at hh; cases hh; rw [(owns x).1 hx]; exact ⟨cur, (0, 0), g2, hsz'.symm⟩)
   (fun e5 sz5 n5 get5 b5 q5 h5 hb5 cur0 e0 fr0 cur1 e1 fr1 h0 h1 i hi => by
    cases h5
    rw [hb] at hb5
    cases hb5
    rw [g2] at h0
    cases h0
    rw [hself'] at h1
    cases h1
    have : (el + 1) * sz <= n' * sz := Nat.mul_le_mul_right _ hel
    rw [Nat.add_mul, Nat.one_mul] at this
    exact hout i (by omega)) (fun t => lookO_cons _ _ _ _) (fun h => by
    cases k with
    | own => exact absurd rfl (h _ _ _ _)
    | _ => exact ⟨rfl, rfl⟩) (fun e sz n get h => by cases h; exact ⟨_, _, _, _, rfl⟩) rel
  have O2 := Z.onto.trans O'
  refine ⟨.skip, undef, w.setRow b cur', F1, β, γ, ?_, .inr ⟨rfl, rfl⟩, H', O2, by rw [TRel]; trivial, E.keep (O2.frozen H) (fun t _ => (Z.keeps t).trans (K' t))⟩
  simp [execOp, ho, hv, Instr.storeAt, Instr.sureAddr, storeVar, sizeOf, typeInfo, hi, hsize, hrun, cur']
end
end Go.DI
namespace Go.DI
open Go Go.RowKit
variable [Tabs]

section
variable {P : Program} {w w' : World} {F F' : Nat -> Prop} {β β' : Nat -> Option (Nat × Nat)} {γ γ' : Nat -> Option Nat} {obs obs' : Obs} {env : Env} {a : Act} {o : Oper} {sup : Option Sup} {e : Eff}

theorem rel_own {d : Nat} {ob' : Nat -> Option Ob} {el sz n : Nat} {get : Nat -> List Dat} (hl : ob' d = some (.row .own el sz n get)) {b cap : Nat} {cells : Array Value} (hβ : β' d = some (b, 0)) (hw : w'.heap[b]? = some (.cells cells el (0, 0))) (hcap : n <= cap) (hm : cap <= maxLen) (hc : cells.size = cap * sz) :
 CRel w' F β' ob' (.own d) (.slice (some ⟨b, 0, none⟩) n cap) := by
 simp only [CRel, hl]
 refine ⟨rfl, .inr ⟨b, 0, cap, hβ, by simp, hcap, hm, fun _ cur e fr hh => ?_⟩⟩
 rw [hw] at hh
 cases hh
 rw [Nat.zero_add]; exact hc.symm

theorem newrow {d el sz n cap : Nat} {get : Nat -> List Dat} {cells : Array Value} {w1 : World} (H : Heap w F β γ (lookO obs)) (E : EnvOk w F β obs env a) (hf : Fresh d env obs)
 (h1 : w1.heap = w.heap) (h2 : w1.os = w.os) (h3 : w1.tape = w.tape) (h4 : w1.output = w.output) (hcap : n <= cap) (hm : cap <= maxLen) (hc : cells.size = cap * sz)
 (hget : ∀ j, j < n -> (get j).length = sz /\ ∀ i x, (get j)[i]? = some x -> ∃ u, cells[j * sz + i]? = some u /\ DRel w F x u) {nx : Next} (hnx : nx = .value (.slice (some ⟨w.heap.size, 0, none⟩) n cap)) (hrun : (execOp a.eval o).run P w = .ok nx (w1.alloc (.cells cells el))) {rd : List Nat} {q : Option Prop} :
 Good P w F β γ obs env a o ⟨.c (.own d), [(d, some (.row .own el sz n get))], rd, q⟩ := by
 have hF : ∀ b, F b -> F b /\ (w1.alloc (.cells cells el)).heap[b]? = w.heap[b]? := fun b hb => ⟨hb, by rw [Below.heap_alloc _ _ _ (by rw [h1]; exact H.flt b hb), h1]⟩
 have hnew : (w1.alloc (.cells cells el)).heap[w.heap.size]? = some (.cells cells el (0, 0)) := by rw [<- h1]; exact heap_alloc_new w1 _
 have hle : n * sz <= cells.size := by rw [hc]; exact Nat.mul_le_mul_right _ hcap
 obtain ⟨H', O', E', _⟩ := alloc_ok (obj := .cells cells el) (ob := .row .own el sz n get) H E hf (fun _ _ _ _ _ h => by cases h; rfl) (fun _ h => by cases h) (w1 := w1) h1 h2 h3 h4
  (.inr ⟨w.heap.size, 0, cells, el, (0, 0), setB_self _ _ _, hnew, ⟨by omega, fun j hj => ⟨(hget j hj).1, fun i x hx => by
   obtain ⟨u, hu, hr⟩ := (hget j hj).2 i x hx
   exact ⟨u, by simpa using hu, hr.mono hF, hr.oneCell⟩⟩⟩, fun _ => ⟨rfl, rfl, by rw [hc]; exact Nat.mul_mod_left _ _⟩, fun _ => rfl, fun h => by cases h⟩)
 refine ⟨nx, .slice (some ⟨w.heap.size, 0, none⟩) n cap, _, _, _, _, hrun, .inl hnx, H', O', ?_, E'⟩
 rw [TRel]
 exact rel_own (lookO_self _ _ _) (setB_self _ _ _) hnew hcap hm hc

theorem maxLen_eq : maxLen = 9223372036854775807 := by rfl

theorem good_makeSlice {t : TypeId} {l c : Operand} (H : Heap w F β γ (lookO obs)) (E : EnvOk w F β obs env a) (ho : o.op = .makeSlice t l c) (h : exec P env obs o sup = some e) (hfr : freshOk o.dst e.upd env obs = true) (hq : ∀ p, e.req = some p -> p) : Good P w F β γ obs env a o e := by
 unfold exec at h
 simp only [ho] at h
 have hl := evalO_rel E l
 have hc := evalO_rel E c
 split at h
 ·rename_i d el kl lv kc cv n get hd hel hle hce
  split at h
  ·rename_i z i hz hn hi
   split at h
   ·rename_i hsz
    injection h with h
    subst h
    rw [hd] at hfr
    have hf := fresh_of hfr (by simp [namesO]) hn
    obtain ⟨h0, hcl, hln, hby, hs⟩ := hq _ rfl
    subst hcl
    rw [hle] at hl
    rw [hce] at hc
    unfold zeroD at hz
    split at hz
    ·rename_i cs hzt
     obtain ⟨i', zv, hi', hzv, hzs, hz1, rfl⟩ := zeroT_some hzt
     rw [hi] at hi'
     cases hi'
     have hby2 : (i.bytes : Int) * cv <= 281474976710656 := by
      rw [hln, <- Int.natCast_mul, Nat.mul_comm]
      exact Int.ofNat_le.2 hby
     have hnle : n <= 281474976710656 := Nat.le_trans (Nat.le_mul_of_pos_right n hsz.2) hby
     have hrun := run_make (P := P) w t el i zv (elemT_some hel) hi hzv kl kc cv cv h0 (Int.le_refl _) hby2 (by omega)
     have hzd : DsRel w F z zv.cells.toList := by
      have : ∀ (vs : List Value) (ds : List Dat), datsOf [] (vs.map ofCell) = some ds -> DsRel w F ds vs := fun vs => by
       induction vs with
       | nil => intro ds h; simp [datsOf] at h; subst h; trivial
       | cons v vs ih =>
        intro ds h
        simp only [List.map_cons, datsOf] at h
        cases hx : datOf [] (ofCell v) with
        | none => simp [hx] at h
        | some d0 =>
         cases hy : datsOf [] (vs.map ofCell) with
         | none => simp [hx, hy] at h
         | some ds0 =>
          simp [hx, hy] at h
          subst h
          refine ⟨?_, ih ds0 hy⟩
          have hr := crel_ofCell w F β (lookO []) v
          cases hc : ofCell v with
          | d x => rw [hc] at hx hr; simp [datOf] at hx; subst hx; exact hr
          | nils =>
           rw [hc] at hx hr
           simp [datOf] at hx
           subst hx
           have : v = .slice none 0 0 := hr
           subst this
           exact .fro0 _ _ _ _
          | own nm => rw [hc] at hx; simp [datOf, lookO] at hx
          | _ => rw [hc] at hx; simp [datOf] at hx
      exact this _ _ hz
     have hzl := dsrel_length hzd
     simp only [Array.length_toList] at hzl
     have hcn : cv.toNat = n := by omega
     refine newrow (cap := n) (cells := madeCells zv.cells (n * i.size)) (w1 := w) H E hf rfl rfl rfl rfl (Nat.le_refl _) (by rw [maxLen_eq]; omega) (size_madeCells _ _) (fun j hj => ?_) rfl (by
      rw [hcn] at hrun
      simp [execOp, ho, of_int hl, of_int hc, hrun])
     obtain ⟨l1, l2⟩ := (hs j hj).get
     refine ⟨by rw [l1, hzl, hzs], fun q x hx => ?_⟩
     obtain ⟨d2, hd2, hsim⟩ := l2 q x hx
     obtain ⟨u, u1, u2⟩ := dsrel_get hzd q hd2
     have hqs : q < i.size := by
      have := (List.getElem?_eq_some_iff.1 hd2).1
      have e1 : ((fun x => z) j : List Dat).length = z.length := rfl
      omega
     refine ⟨u, ?_, u2.sim hsim⟩
     have hlt : j * i.size + q < n * i.size := by
      have : (j + 1) * i.size <= n * i.size := Nat.mul_le_mul_right _ hj
      rw [Nat.add_mul, Nat.one_mul] at this
      omega
     simp only [madeCells, Array.getElem?_map, Array.getElem?_range, hlt, if_true, Option.map_some]
     have hmod : (j * i.size + q) % zv.cells.size = q := by
      rw [hzs, Nat.mul_comm, Nat.mul_add_mod, Nat.mod_eq_of_lt hqs]
     have hq2 : zv.cells[q]? = some u := by simpa using u1
     rw [hmod]
     simp [getElem!_def, hq2]
    ·cases hz
   ·cases h
  ·cases h
 ·cases h

theorem good_narrow {t el : TypeId} {x : Operand} {hi : Operand} {d nm e2 sz n n' : Nat} {k : IntKind} {hv : Int} {get get' : Nat -> List Dat} (H : Heap w F β γ (lookO obs)) (E : EnvOk w F β obs env a) (ho : o.op = .slice t x none (some hi) none) (hu : P.underlying t = some (.slice el)) (hin : ∃ i, P.info? el = some i)
 (hx : evalO env x = .c (.own nm)) (hhi : evalO env hi = .c (.d (.int k hv))) (hob : lookO obs nm = some (.row .own e2 sz n get)) (hsz : sz = P.cellsOf el) (hf : Fresh d env obs)
 (h0 : 0 <= hv) (h1 : hv <= n) (hn : n' = hv.toNat) (hs : Same n' get' get) {rd : List Nat} {q : Option Prop} :
 Good P w F β γ obs env a o ⟨.c (.own d), [(d, some (.row .own e2 sz n' get')), (nm, none)], rd, q⟩ := by
 have he := evalO_rel E x
 have he2 := evalO_rel E hi
 rw [hx] at he
 rw [hhi] at he2
 have hr := of_c he
 simp only [CRel, hob] at hr
 have hlook : ∀ t, lookO ((d, some (.row .own e2 sz n' get')) :: (nm, none) :: obs) t = if d = t then some (.row .own e2 sz n' get') else if nm = t then none else lookO obs t := fun t => by
  rw [lookO_cons, lookO_cons]
 have hfree : ∀ n cs, lookO obs n = some (.box cs) -> d ∉ refsC cs := fun n cs h1 h2 => hf.obs (refs_lookO h1 h2)
 have hvn : hv = (n' : Int) := by omega
 have hle : n' <= n := by omega
 have bnd : ∀ (A : Option Addr) (cap : Nat), n <= cap -> (Instr.sliceAt t (.slice A n cap) none (some (.int k hv)) none).run P w = .ok (.slice (if cap = 0 then A else A.map (·.add 0)) n' cap) w := fun A cap hc => by
  have := slice_part_run (P := P) (w := w) (A := A) (n := n) (cap := cap) (l := 0) (h := n') (lo := none) (hi := some (.int k hv)) hu hin (.inl ⟨rfl, rfl⟩) (.inr ⟨k, by rw [hvn]⟩) (Nat.zero_le _) hle hc
  simpa using this
 rcases hr.2 with ⟨g1, _, g2, g3⟩ | ⟨b, qo, cap, g1, g2, g3, g4, g5⟩
 ·
  have hn0 : n' = 0 := by omega
  have hnd : d ≠ nm := fun e => by rw [e] at hf; rw [hf.none] at hob; cases hob
  obtain ⟨H', O', K'⟩ := moveOb (w' := w) (β' := setB β d none) (ob' := lookO ((d, some (.row .own e2 sz n' get')) :: (nm, none) :: obs)) H hob hf.none hfree rfl rfl rfl (Nat.le_refl _) (fun _ _ _ => rfl) hlook (fun t ht => setB_ne _ _ ht)
   (fun b o h => by rw [setB_self] at h; cases h) (fun b o _ cur e fr h => ⟨cur, fr, h, rfl⟩) (.inl ⟨hn0, setB_self _ _ _⟩)
  refine ⟨_, .slice none 0 0, w, F, setB β d none, γ, ?_, .inl rfl, H', O', ?_, E.keep (O'.frozen H) (fun nm' hm => K' nm' fun e => hf.env (e ▸ hm))⟩
  ·have := bnd none 0 (by omega)
   rw [hn0, g2] at this
   simp only [execOp, ho, g3, of_int he2, Option.map_none, Option.map_some, Sem.run_bind, this, Result.andThen_ok]
   rfl
  ·rw [TRel]
   have hl := lookO_self d (some (.row .own e2 sz n' get')) ((nm, none) :: obs)
   simp only [CRel, List.cons_append, List.nil_append, hl]
   exact ⟨rfl, .inl ⟨setB_self _ _ _, hn0, hn0, rfl⟩⟩
 ·rcases H.obs _ _ hob with ⟨_, g7⟩ | ⟨b', qo', cur, e3, fr, r1, r2, r3, r4, r5, r6⟩
  ·rw [g1] at g7; cases g7
  ·rw [g1] at r1
   cases r1
   obtain ⟨q0, q1, q2⟩ := r4 rfl
   subst q0 q1
   have hfr := r5 (by intro h; cases h)
   subst hfr
   have hcap := g5 rfl cur e3 (0, 0) r2
   rw [Nat.zero_add] at hcap
   obtain ⟨H', O', K'⟩ := moveOb (w' := w) (β' := setB β d (some (b, 0))) (ob' := lookO ((d, some (.row .own e3 sz n' get')) :: (nm, none) :: obs)) H hob hf.none hfree rfl rfl rfl (Nat.le_refl _) (fun _ _ _ => rfl) hlook (fun t ht => setB_ne _ _ ht)
    (fun b2 o2 h => by rw [setB_self] at h; cases h; exact ⟨.inl ⟨0, g1⟩, (Array.getElem?_eq_some_iff.1 r2).1⟩) (fun b o _ cur e fr h => ⟨cur, fr, h, rfl⟩)
    (.inr ⟨b, 0, cur, e3, (0, 0), setB_self _ _ _, r2, ⟨by have := r3.1; have : n' * sz <= n * sz := Nat.mul_le_mul_right _ hle; omega, fun j hj => by
     obtain ⟨l1, l2⟩ := (hs j hj).get
     obtain ⟨m1, m2⟩ := r3.2 j (by omega)
     refine ⟨l1.trans m1, fun i x hx => ?_⟩
     obtain ⟨d2, hd2, hsim⟩ := l2 i x hx
     obtain ⟨u, u1, u2, u3⟩ := m2 i d2 hd2
     exact ⟨u, u1, u2.sim hsim, u3⟩⟩, fun _ => ⟨rfl, rfl, q2⟩, fun _ => rfl, fun h => by cases h⟩)
   refine ⟨_, .slice (some ⟨b, 0, none⟩) n' cap, w, F, setB β d (some (b, 0)), γ, ?_, .inl rfl, H', O', ?_, E.keep (O'.frozen H) (fun nm' hm => K' nm' fun e => hf.env (e ▸ hm))⟩
   ·have := bnd (some ⟨b, 0 + 0 * sz, none⟩) cap g3
    simp only [execOp, ho, g2, of_int he2, Option.map_none, Option.map_some, Sem.run_bind, this, Result.andThen_ok]
    simp [Addr.add_lit]
   ·rw [TRel]
    exact rel_own (lookO_self _ _ _) (setB_self _ _ _) r2 (by omega) g4 hcap.symm
end
end Go.DI
namespace Go.DI
open Go Go.RowKit
variable [Tabs]

section
variable {P : Program} {w w' : World} {F F' : Nat -> Prop} {β β' : Nat -> Option (Nat × Nat)} {γ γ' : Nat -> Option Nat} {obs obs' : Obs} {env : Env} {a : Act} {o : Oper} {sup : Option Sup} {e : Eff}

structure Src (w : World) (F : Nat -> Prop) (sz m : Nat) (g : Nat -> List Dat) (v : Value) (news : List Value) : Prop where
 len : news.length = m * sz
 one : ∀ u ∈ news, u.oneCell' = true
 get : ∀ j, j < m -> (g j).length = sz /\ ∀ i x, (g j)[i]? = some x -> ∃ u, news[j * sz + i]? = some u /\ DRel w F x u
 at_ : (∃ A cap, v = .slice (some A) m cap /\ ∀ i u, news[i]? = some u -> w.cell? (A.add i) = some u) \/ (m = 0 /\ ∃ cap, v = .slice none 0 cap)

theorem split_ix {n sz k : Nat} (hsz : 0 < sz) (h : k < n * sz) : ∃ j i, j < n /\ i < sz /\ k = j * sz + i :=
 ⟨k / sz, k % sz, by rw [Nat.div_lt_iff_lt_mul hsz]; exact h, Nat.mod_lt _ hsz, by have := Nat.div_add_mod k sz; rw [Nat.mul_comm] at this; omega⟩

theorem src_fro {sz m : Nat} {g : Nat -> List Dat} {v : Value} (hsz : 0 < sz) (h : DRel w F (.fro sz m g) v) : ∃ news, Src w F sz m g v news := by
 cases h with
 | fro0 _ _ A cap =>
  refine ⟨[], by simp, by simp, fun j hj => by omega, ?_⟩
  cases A with
  | none => exact .inr ⟨rfl, cap, rfl⟩
  | some A => exact .inl ⟨A, cap, rfl, fun i u h => by simp at h⟩
 | fro _ _ _ A cap cell hF hc hl hcell hrel =>
  have ix : ∀ k, k < m * sz -> k / sz < m /\ k % sz < sz /\ k / sz * sz + k % sz = k := fun k hk => by
   refine ⟨by rw [Nat.div_lt_iff_lt_mul hsz]; exact hk, Nat.mod_lt _ hsz, ?_⟩
   have := Nat.div_add_mod k sz
   rw [Nat.mul_comm] at this
   exact this
  have drel : ∀ j i, j < m -> i < sz -> DRel w F ((g j).getD i .nilp) (cell j i) := fun j i hj hi => by
   have hlt : i < (g j).length := by rw [hl j hj]; exact hi
   have := hrel j i (g j)[i] hj (List.getElem?_eq_getElem hlt)
   simpa [List.getD_eq_getElem?_getD, List.getElem?_eq_getElem hlt] using this
  refine ⟨(List.range (m * sz)).map fun k => cell (k / sz) (k % sz), by simp, fun u hu => ?_, fun j hj => ⟨hl j hj, fun i x hx => ?_⟩, .inl ⟨A, cap, rfl, fun i u hu => ?_⟩⟩
  ·obtain ⟨k, hk, rfl⟩ := List.mem_map.1 hu
   obtain ⟨h1, h2, _⟩ := ix k (by simpa using hk)
   exact (drel _ _ h1 h2).oneCell
  ·have hi : i < sz := by
    have := (List.getElem?_eq_some_iff.1 hx).1
    rw [hl j hj] at this
    exact this
   have hlt : j * sz + i < m * sz := by
    have : (j + 1) * sz <= m * sz := Nat.mul_le_mul_right _ hj
    rw [Nat.add_mul, Nat.one_mul] at this
    omega
   refine ⟨cell j i, ?_, hrel j i x hj hx⟩
   have e1 : (j * sz + i) / sz = j := by rw [Nat.mul_comm, Nat.mul_add_div hsz, Nat.div_eq_of_lt hi, Nat.add_zero]
   have e2 : (j * sz + i) % sz = i := by rw [Nat.mul_comm, Nat.mul_add_mod, Nat.mod_eq_of_lt hi]
   simp [hlt, e1, e2]
  ·rw [List.getElem?_map] at hu
   cases hr : (List.range (m * sz))[i]? with
   | none => simp [hr] at hu
   | some k =>
    simp [hr] at hu
    obtain ⟨hlt, hk⟩ := List.getElem?_eq_some_iff.1 hr
    simp at hlt hk
    subst hk
    obtain ⟨h1, h2, h3⟩ := ix i hlt
    have := hcell _ _ h1 h2
    rw [h3, hu] at this
    exact this

theorem src_row (H : Heap w F β γ (lookO obs)) {nm e2 sz m : Nat} {k : RK} {g : Nat -> List Dat} {v : Value} (hsz : 0 < sz) (hob : lookO obs nm = some (.row k e2 sz m g)) (h : CRel w F β (lookO obs) (.own nm) v) : ∃ news, Src w F sz m g v news := by
 simp only [CRel, hob] at h
 rcases h.2 with ⟨g1, _, rfl, rfl⟩ | ⟨b, qo, cap, g1, rfl, g3, g4, g5⟩
 ·exact ⟨[], by simp, by simp, fun j hj => by omega, .inr ⟨rfl, 0, rfl⟩⟩
 ·rcases H.obs _ _ hob with ⟨rfl, g7⟩ | ⟨b', qo', cur, e3, fr, r1, r2, r3, r4, r5, r6⟩
  ·rw [g1] at g7; cases g7
  ·rw [g1] at r1
   cases r1
   have each : ∀ k, k < m * sz -> ∃ u, cur[qo + k]? = some u /\ DRel w F ((g (k / sz)).getD (k % sz) .nilp) u := fun k hk => by
    obtain ⟨j, i, hj, hi, rfl⟩ := split_ix hsz hk
    have e1 : (j * sz + i) / sz = j := by rw [Nat.mul_comm, Nat.mul_add_div hsz, Nat.div_eq_of_lt hi, Nat.add_zero]
    have e2 : (j * sz + i) % sz = i := by rw [Nat.mul_comm, Nat.mul_add_mod, Nat.mod_eq_of_lt hi]
    have hlt : i < (g j).length := by rw [(r3.2 j hj).1]; exact hi
    obtain ⟨u, u1, u2, _⟩ := (r3.2 j hj).2 i (g j)[i] (List.getElem?_eq_getElem hlt)
    refine ⟨u, by rw [<- Nat.add_assoc]; exact u1, ?_⟩
    rw [e1, e2]
    simpa [List.getD_eq_getElem?_getD, List.getElem?_eq_getElem hlt] using u2
   have hle := r3.1
   have hn : ∀ i u, ((cur.toList.drop qo).take (m * sz))[i]? = some u ↔ i < m * sz /\ cur[qo + i]? = some u := fun i u => by
    rw [List.getElem?_take]
    by_cases hi : i < m * sz
    ·simp [hi]
    ·simp [hi]
   refine ⟨(cur.toList.drop qo).take (m * sz), by simp; omega, fun u hu => ?_, fun j hj => ⟨(r3.2 j hj).1, fun i x hx => ?_⟩, .inl ⟨_, cap, rfl, fun i u hu => ?_⟩⟩
   ·obtain ⟨i, hi⟩ := List.getElem?_of_mem hu
    obtain ⟨h1, h2⟩ := (hn i u).1 hi
    obtain ⟨u', u1, u2⟩ := each i h1
    rw [h2] at u1
    cases u1
    exact u2.oneCell
   ·obtain ⟨u, u1, u2, _⟩ := (r3.2 j hj).2 i x hx
    have hi : i < sz := by
     have := (List.getElem?_eq_some_iff.1 hx).1
     rw [(r3.2 j hj).1] at this
     exact this
    have hlt : j * sz + i < m * sz := by
     have : (j + 1) * sz <= m * sz := Nat.mul_le_mul_right _ hj
     rw [Nat.add_mul, Nat.one_mul] at this
     omega
    exact ⟨u, (hn _ _).2 ⟨hlt, by rw [<- Nat.add_assoc]; exact u1⟩, u2⟩
   ·obtain ⟨h1, h2⟩ := (hn i u).1 hu
    rw [Addr.add_lit, cell_of_row w b _ cur e3 fr r2]
    simpa using h2

theorem join_get {sz n m n' : Nat} {get g get' : Nat -> List Dat} {olds news : List Value} (ho : olds.length = n * sz) (hold : ∀ j, j < n -> (get j).length = sz /\ ∀ i x, (get j)[i]? = some x -> ∃ u, olds[j * sz + i]? = some u /\ DRel w F x u)
 (hnew : ∀ j, j < m -> (g j).length = sz /\ ∀ i x, (g j)[i]? = some x -> ∃ u, news[j * sz + i]? = some u /\ DRel w F x u) (hn : n' = n + m) (h1 : Same n get' get) (h2 : Same m (fun j => get' (n + j)) g) :
 ∀ j, j < n' -> (get' j).length = sz /\ ∀ i x, (get' j)[i]? = some x -> ∃ u, (olds ++ news)[j * sz + i]? = some u /\ DRel w F x u := by
 intro j hj
 by_cases hjn : j < n
 ·obtain ⟨l1, l2⟩ := (h1 j hjn).get
  obtain ⟨m1, m2⟩ := hold j hjn
  refine ⟨l1.trans m1, fun i x hx => ?_⟩
  obtain ⟨d2, hd2, hs⟩ := l2 i x hx
  obtain ⟨u, u1, u2⟩ := m2 i d2 hd2
  exact ⟨u, by rw [List.getElem?_append_left (List.getElem?_eq_some_iff.1 u1).1]; exact u1, u2.sim hs⟩
 ·have hq : j - n < m := by omega
  have := h2 (j - n) hq
  have e1 : n + (j - n) = j := by omega
  simp only [e1] at this
  obtain ⟨l1, l2⟩ := this.get
  obtain ⟨m1, m2⟩ := hnew (j - n) hq
  refine ⟨l1.trans m1, fun i x hx => ?_⟩
  obtain ⟨d2, hd2, hs⟩ := l2 i x hx
  obtain ⟨u, u1, u2⟩ := m2 i d2 hd2
  refine ⟨u, ?_, u2.sim hs⟩
  have e2 : j * sz + i = olds.length + ((j - n) * sz + i) := by
   rw [ho]
   have : j * sz = n * sz + (j - n) * sz := by rw [<- Nat.add_mul]; congr 1; omega
   omega
  rw [e2, List.getElem?_append_right (by omega), Nat.add_sub_cancel_left]
  exact u1

theorem run_append0 {t ty el : TypeId} {inf : TypeInfo} (ht : P.underlying t = some (.slice el)) (hi : P.info? el = some inf) (A : Option Addr) (n cap c : Nat) (hc : n <= cap) : (Builtin.append_ #[t, t] ty #[.slice A n cap, .slice none 0 c]).run P w = .ok (.slice A n cap) w := by
 cases A <;> simp [Builtin.append_, run_underlying ht, sizeOf, typeInfo, hi, Builtin.lenOf, hc, Builtin.firstCells, storeCells]

theorem good_append_nil {t el d m : Nat} {x y : Operand} {c : Call} {inf : TypeInfo} {n' : Nat} {g get' : Nat -> List Dat} (H : Heap w F β γ (lookO obs)) (E : EnvOk w F β obs env a) (ho : o.op = .call c) (hc : c = { callee := .builtin .append, args := #[x, y], argTypes := #[t, t] })
 (ht : P.underlying t = some (.slice el)) (hi : P.info? el = some inf) (hz : (zeroT P el).isSome = true) (hsz : 0 < inf.size) (hby : 0 < inf.bytes) (hx : evalO env x = .c .nils) {news : List Value} (hs : Src w F inf.size m g (a.eval y) news) (hf : Fresh d env obs)
 (hn : n' = m) (hb : n' * inf.bytes <= lim) (hsame : Same m get' g) {rd : List Nat} {q : Option Prop} : Good P w F β γ obs env a o ⟨.c (.own d), [(d, some (.row .own el inf.size n' get'))], rd, q⟩ := by
 have he := evalO_rel E x
 rw [hx] at he
 have hv : a.eval x = .slice none 0 0 := of_c he
 obtain ⟨zc, hzc⟩ := Option.isSome_iff_exists.1 hz
 obtain ⟨i', zv, hi', hzv, hzs, _, _⟩ := zeroT_some hzc
 rw [hi] at hi'
 cases hi'
 have hm63 : n' <= 140737488355328 := Nat.le_trans (Nat.le_mul_of_pos_right n' hby) hb
 have run : ∀ r w1, (Builtin.append_ #[t, t] o.type #[a.eval x, a.eval y]).run P w = .ok r w1 -> (execOp a.eval o).run P w = .ok (.value r) w1 := fun r w1 hr => by
  subst hc
  simp [execOp, ho, resolve, invoke, builtin, hr]
 by_cases hm0 : m = 0
 ·
  have hn0 : n' = 0 := by omega
  obtain ⟨H', O', K'⟩ := newOb (w' := w) (F' := F) (β' := setB β d none) (γ' := γ) (ob' := lookO ((d, some (.row .own el inf.size n' get')) :: obs)) H hf.none (fun n cs h1 h2 => hf.obs (refs_lookO h1 h2)) rfl rfl rfl (Nat.le_refl _) (fun _ _ => rfl) (fun t => lookO_cons _ _ _ _)
   (fun t ht => setB_ne _ _ ht) (fun _ _ => rfl) (fun _ h => h) (fun _ h => .inl h) (fun b hb => by
    have hl := lookO_self d (some (.row .own el inf.size n' get')) obs
    simp only [Owns, hl, setB_self] at hb
    obtain ⟨_, hb⟩ := hb; cases hb) (fun b q h => by rw [setB_self] at h; cases h) (.inl ⟨hn0, setB_self _ _ _⟩)
  have hr : (Builtin.append_ #[t, t] o.type #[a.eval x, a.eval y]).run P w = .ok (.slice none 0 0) w := by
   rw [hv]
   rcases hs.at_ with ⟨A, cap, h1, _⟩ | ⟨_, cap, h1⟩
   ·rw [h1, hm0]
    simp [Builtin.append_, run_underlying ht, sizeOf, typeInfo, hi, Builtin.lenOf, Builtin.firstCells, loadCells, loadCellsFrom]
   ·rw [h1]
    exact run_append0 ht hi none 0 0 cap (Nat.le_refl _)
  refine ⟨_, .slice none 0 0, w, F, setB β d none, γ, run _ _ hr, .inl rfl, H', O', ?_, E.keep (O'.frozen H) (fun nm' hm => K' nm' fun e => hf.env (e ▸ hm))⟩
  rw [TRel]
  have hl := lookO_self d (some (.row .own el inf.size n' get')) obs
  simp only [CRel, List.singleton_append, hl]
  exact ⟨rfl, .inl ⟨setB_self _ _ _, hn0, hn0, rfl⟩⟩
 ·rcases hs.at_ with ⟨A, cap, h1, h2⟩ | ⟨h1, _⟩
  ·have hr := run_append_nil (P := P) w t o.type el inf zv ht hi hzv A m cap news hs.len h2 (by omega) (by omega) (by rw [<- hn]; exact Nat.le_trans hb (by decide))
   have hge := grownCap_ge w m 0 el
   subst hn
   refine newrow (n := n') (cap := grownCap w n' 0 el) (w1 := w.drew) H E hf rfl rfl rfl rfl hge (grownCap_le_maxLen w n' 0 el (by rw [maxLen_eq]; omega)) ?_ (fun j hj => ?_) rfl (by
    rw [<- h1, <- hv] at hr
    exact run _ _ hr)
   ·simp only [Array.size_append, List.size_toArray, hs.len, size_zeroCells, hzs, <- Nat.add_mul]
    congr 1
    omega
   ·obtain ⟨l1, l2⟩ := (hsame j hj).get
    obtain ⟨m1, m2⟩ := hs.get j hj
    refine ⟨l1.trans m1, fun i x hx => ?_⟩
    obtain ⟨d2, hd2, hsim⟩ := l2 i x hx
    obtain ⟨u, u1, u2⟩ := m2 i d2 hd2
    refine ⟨u, ?_, u2.sim hsim⟩
    rw [Array.getElem?_append_left (by simpa using (List.getElem?_eq_some_iff.1 u1).1)]
    simpa using u1
  ·exact absurd h1 hm0

theorem good_append_own {t el d nm n m : Nat} {x y : Operand} {c : Call} {inf : TypeInfo} {n' : Nat} {get g get' : Nat -> List Dat} (H : Heap w F β γ (lookO obs)) (E : EnvOk w F β obs env a) (ho : o.op = .call c) (hc : c = { callee := .builtin .append, args := #[x, y], argTypes := #[t, t] })
 (ht : P.underlying t = some (.slice el)) (hi : P.info? el = some inf) (hz : (zeroT P el).isSome = true) (hsz : 0 < inf.size) (hby : 0 < inf.bytes) (hx : evalO env x = .c (.own nm)) (hob : lookO obs nm = some (.row .own el inf.size n get)) {news : List Value} (hs : Src w F inf.size m g (a.eval y) news) (hf : Fresh d env obs)
 (hn : n' = n + m) (hb : n' * inf.bytes <= lim) (hsame1 : Same n get' get) (hsame2 : Same m (fun j => get' (n + j)) g) {rd : List Nat} {q : Option Prop} : Good P w F β γ obs env a o ⟨.c (.own d), [(d, some (.row .own el inf.size n' get')), (nm, none)], rd, q⟩ := by
 subst hn
 have he := evalO_rel E x
 rw [hx] at he
 have hr := of_c he
 simp only [CRel, hob] at hr
 obtain ⟨zc, hzc⟩ := Option.isSome_iff_exists.1 hz
 obtain ⟨i', zv, hi', hzv, hzs, _, _⟩ := zeroT_some hzc
 rw [hi] at hi'
 cases hi'
 have hm63 : (n + m) <= 140737488355328 := Nat.le_trans (Nat.le_mul_of_pos_right (n + m) hby) hb
 have run : ∀ r w1, (Builtin.append_ #[t, t] o.type #[a.eval x, a.eval y]).run P w = .ok r w1 -> (execOp a.eval o).run P w = .ok (.value r) w1 := fun r w1 hr => by
  subst hc
  simp [execOp, ho, resolve, invoke, builtin, hr]
 have hfree : ∀ n cs, lookO obs n = some (.box cs) -> d ∉ refsC cs := fun n cs h1 h2 => hf.obs (refs_lookO h1 h2)
 have hlook : ∀ t, lookO ((d, some (.row .own el inf.size (n + m) get')) :: (nm, none) :: obs) t = if d = t then some (.row .own el inf.size (n + m) get') else if nm = t then none else lookO obs t := fun t => by
  rw [lookO_cons, lookO_cons]
 have grow : ∀ (olds : List Value) (old : Nat), old < n + m -> olds.length = n * inf.size -> (∀ j, j < n -> (get j).length = inf.size /\ ∀ i x, (get j)[i]? = some x -> ∃ u, olds[j * inf.size + i]? = some u /\ DRel w F x u) ->
  (Builtin.append_ #[t, t] o.type #[a.eval x, a.eval y]).run P w = .ok (.slice (some ⟨w.heap.size, 0, none⟩) (n + m) (grownCap w (n + m) old el)) (w.drew.alloc (.cells (olds.toArray ++ news.toArray ++ Builtin.zeroCells zv.cells (grownCap w (n + m) old el - (n + m))) el)) ->
  Good P w F β γ obs env a o ⟨.c (.own d), [(d, some (.row .own el inf.size (n + m) get')), (nm, none)], rd, q⟩ := fun olds old hold hol hog hrun => by
  have hge := grownCap_ge w (n + m) old el
  let cells : Array Value := olds.toArray ++ news.toArray ++ Builtin.zeroCells zv.cells (grownCap w (n + m) old el - (n + m))
  have hcs : cells.size = grownCap w (n + m) old el * inf.size := by
   simp only [cells, Array.size_append, List.size_toArray, hol, hs.len, size_zeroCells, hzs, <- Nat.add_mul]
   congr 1
   omega
  have hnew : (w.drew.alloc (.cells cells el)).heap[w.heap.size]? = some (.cells cells el (0, 0)) := heap_alloc_new w.drew _
  have hsz1 : (w.drew.alloc (.cells cells el)).heap.size = w.heap.size + 1 := by simp
  have heq : ∀ b, b < w.heap.size -> (w.drew.alloc (.cells cells el)).heap[b]? = w.heap[b]? := fun b hb => Below.heap_alloc w.drew _ _ hb
  have hF : ∀ b, F b -> F b /\ (w.drew.alloc (.cells cells el)).heap[b]? = w.heap[b]? := fun b hb => ⟨hb, heq b (H.flt b hb)⟩
  have hj := join_get hol hog hs.get rfl hsame1 hsame2
  obtain ⟨H', O', K'⟩ := moveOb (w' := w.drew.alloc (.cells cells el)) (β' := setB β d (some (w.heap.size, 0))) (ob' := lookO ((d, some (.row .own el inf.size (n + m) get')) :: (nm, none) :: obs)) H hob hf.none hfree rfl rfl rfl (by omega) (fun b hb _ => heq b hb) hlook (fun t ht => setB_ne _ _ ht)
   (fun b2 o2 h => by rw [setB_self] at h; cases h; exact ⟨.inr (Nat.le_refl _), by omega⟩) (fun b2 o2 h2 cur e fr h => by rw [heq b2 (H.apart nm b2 (by simp only [Owns, hob]; exact ⟨o2, h2⟩)).2] at h; exact ⟨cur, fr, h, rfl⟩)
   (.inr ⟨w.heap.size, 0, cells, el, (0, 0), setB_self _ _ _, hnew, ⟨by rw [hcs, Nat.zero_add]; exact Nat.mul_le_mul_right _ hge, fun j hj' => by
    obtain ⟨m1, m2⟩ := hj j hj'
    refine ⟨m1, fun i x hx => ?_⟩
    obtain ⟨u, u1, u2⟩ := m2 i x hx
    refine ⟨u, ?_, u2.mono hF, u2.oneCell⟩
    show (olds.toArray ++ news.toArray ++ Builtin.zeroCells zv.cells _)[0 + j * inf.size + i]? = _
    rw [Nat.zero_add, Array.getElem?_append_left (by simpa using (List.getElem?_eq_some_iff.1 u1).1)]
    simpa using u1⟩, fun _ => ⟨rfl, rfl, by rw [hcs]; exact Nat.mul_mod_left _ _⟩, fun _ => rfl, fun h => by cases h⟩)
  refine ⟨_, .slice (some ⟨w.heap.size, 0, none⟩) (n + m) (grownCap w (n + m) old el), _, F, setB β d (some (w.heap.size, 0)), γ, run _ _ hrun, .inl rfl, H', O', ?_, E.keep (O'.frozen H) (fun nm' hm => K' nm' fun e => hf.env (e ▸ hm))⟩
  rw [TRel]
  exact rel_own (lookO_self _ _ _) (setB_self _ _ _) hnew (by omega) (grownCap_le_maxLen w (n + m) old el (by rw [maxLen_eq]; omega)) hcs
 rcases hr.2 with ⟨g1, _, g2, g3⟩ | ⟨b, qo, cap, g1, g2, g3, g4, g5⟩
 ·
  subst g2
  by_cases hm0 : m = 0
  ·have hn0 : 0 + m = 0 := by omega
   obtain ⟨H', O', K'⟩ := moveOb (w' := w) (β' := setB β d none) (ob' := lookO ((d, some (.row .own el inf.size (0 + m) get')) :: (nm, none) :: obs)) H hob hf.none hfree rfl rfl rfl (Nat.le_refl _) (fun _ _ _ => rfl) hlook (fun t ht => setB_ne _ _ ht)
    (fun b o h => by rw [setB_self] at h; cases h) (fun b o _ cur e fr h => ⟨cur, fr, h, rfl⟩) (.inl ⟨hn0, setB_self _ _ _⟩)
   have hr : (Builtin.append_ #[t, t] o.type #[a.eval x, a.eval y]).run P w = .ok (.slice none 0 0) w := by
    rw [g3]
    rcases hs.at_ with ⟨A, cap, h1, _⟩ | ⟨_, cap, h1⟩
    ·rw [h1, hm0]
     simp [Builtin.append_, run_underlying ht, sizeOf, typeInfo, hi, Builtin.lenOf, Builtin.firstCells, loadCells, loadCellsFrom]
    ·rw [h1]
     exact run_append0 ht hi none 0 0 cap (Nat.le_refl _)
   refine ⟨_, .slice none 0 0, w, F, setB β d none, γ, run _ _ hr, .inl rfl, H', O', ?_, E.keep (O'.frozen H) (fun nm' hm => K' nm' fun e => hf.env (e ▸ hm))⟩
   rw [TRel]
   have hl := lookO_self d (some (.row .own el inf.size (0 + m) get')) ((nm, none) :: obs)
   simp only [CRel, List.cons_append, List.nil_append, hl]
   exact ⟨rfl, .inl ⟨setB_self _ _ _, hn0, hn0, rfl⟩⟩
  ·rcases hs.at_ with ⟨A, cap, h1, h2⟩ | ⟨h1, _⟩
   ·have hr := run_append_nil (P := P) w t o.type el inf zv ht hi hzv A m cap news hs.len h2 (by omega) (by omega) (Nat.le_trans (by rw [Nat.zero_add] at hb; exact hb) (by decide))
    refine grow [] 0 (by omega) (by simp) (fun j hj => by omega) ?_
    rw [g3, h1, hr]
    simp
   ·exact absurd h1 hm0
 ·rcases H.obs _ _ hob with ⟨_, g7⟩ | ⟨b', qo', cur, e3, fr, r1, r2, r3, r4, r5, r6⟩
  ·rw [g1] at g7; cases g7
  ·rw [g1] at r1
   cases r1
   obtain ⟨q0, q1, q2⟩ := r4 rfl
   subst q0 q1
   have hfr := r5 (by intro h; cases h)
   subst hfr
   have hcap := g5 rfl cur e3 (0, 0) r2
   simp only [Nat.zero_add, Nat.zero_mul, Nat.add_zero] at hcap g2
   have hogs : ∀ j, j < n -> (get j).length = inf.size /\ ∀ i x, (get j)[i]? = some x -> ∃ u, (cur.toList.take (n * inf.size))[j * inf.size + i]? = some u /\ DRel w F x u := fun j hj => by
    obtain ⟨m1, m2⟩ := r3.2 j hj
    refine ⟨m1, fun i x hx => ?_⟩
    obtain ⟨u, u1, u2, _⟩ := m2 i x hx
    have hi2 : i < inf.size := by
     have := (List.getElem?_eq_some_iff.1 hx).1
     omega
    have hlt : j * inf.size + i < n * inf.size := by
     have : (j + 1) * inf.size <= n * inf.size := Nat.mul_le_mul_right _ hj
     rw [Nat.add_mul, Nat.one_mul] at this
     omega
    refine ⟨u, ?_, u2⟩
    rw [List.getElem?_take_of_lt hlt]
    simpa using u1
   have hle : n * inf.size <= cur.size := by rw [<- hcap]; exact Nat.mul_le_mul_right _ g3
   have hol : (cur.toList.take (n * inf.size)).length = n * inf.size := by simp; omega
   by_cases hroom : n + m <= cap
   ·
    have place : ∀ (cells : Array Value), cells.size = cur.size -> (∀ j, j < (n + m) -> (get' j).length = inf.size /\ ∀ i x, (get' j)[i]? = some x -> ∃ u, cells[j * inf.size + i]? = some u /\ DRel w F x u) ->
     (Builtin.append_ #[t, t] o.type #[a.eval x, a.eval y]).run P w = .ok (.slice (some ⟨b, 0, none⟩) (n + m) cap) (w.setRow b cells) ->
     Good P w F β γ obs env a o ⟨.c (.own d), [(d, some (.row .own e3 inf.size (n + m) get')), (nm, none)], rd, q⟩ := fun cells hcs hcg hrun => by
     have hself : (w.setRow b cells).heap[b]? = some (.cells cells e3 (0, 0)) := setRow_heap w b cur cells e3 (0, 0) r2
     have hother : ∀ x, x ≠ b -> (w.setRow b cells).heap[x]? = w.heap[x]? := fun x hx => setRow_other w b x cells hx
     have hnF : ¬ F b := (H.apart nm b (by simp only [Owns, hob]; exact ⟨0, g1⟩)).1
     have hF : ∀ x, F x -> F x /\ (w.setRow b cells).heap[x]? = w.heap[x]? := fun x hx => ⟨hx, hother x fun e => hnF (e ▸ hx)⟩
     obtain ⟨H', O', K'⟩ := moveOb (w' := w.setRow b cells) (β' := setB β d (some (b, 0))) (ob' := lookO ((d, some (.row .own e3 inf.size (n + m) get')) :: (nm, none) :: obs)) H hob hf.none hfree rfl rfl rfl (by simp) (fun x _ hx => hother x fun e => hx 0 (by rw [e]; exact g1)) hlook (fun t ht => setB_ne _ _ ht)
      (fun b2 o2 h => by rw [setB_self] at h; cases h; exact ⟨.inl ⟨0, g1⟩, by simpa using (Array.getElem?_eq_some_iff.1 r2).1⟩) (fun b2 o2 h2 c2 e2 fr2 h => by rw [g1] at h2; cases h2; rw [hself] at h; cases h; exact ⟨cur, (0, 0), r2, hcs.symm⟩)
      (.inr ⟨b, 0, cells, e3, (0, 0), setB_self _ _ _, hself, ⟨by rw [hcs, <- hcap, Nat.zero_add]; exact Nat.mul_le_mul_right _ hroom, fun j hj' => by
       obtain ⟨m1, m2⟩ := hcg j hj'
       refine ⟨m1, fun i x hx => ?_⟩
       obtain ⟨u, u1, u2⟩ := m2 i x hx
       exact ⟨u, by rw [Nat.zero_add]; exact u1, u2.mono hF, u2.oneCell⟩⟩, fun _ => ⟨rfl, rfl, by rw [hcs]; exact q2⟩, fun _ => rfl, fun h => by cases h⟩)
     refine ⟨_, .slice (some ⟨b, 0, none⟩) (n + m) cap, _, F, setB β d (some (b, 0)), γ, run _ _ hrun, .inl rfl, H', O', ?_, E.keep (O'.frozen H) (fun nm' hm => K' nm' fun e => hf.env (e ▸ hm))⟩
     rw [TRel]
     exact rel_own (lookO_self _ _ _) (setB_self _ _ _) hself (by omega) g4 (by rw [hcs]; exact hcap.symm)
    rcases hs.at_ with ⟨A, c2, h1, h2⟩ | ⟨h1, c2, h3⟩
    ·have hfit : n * inf.size + news.length <= cur.size := by rw [hs.len, <- hcap, <- Nat.add_mul]; exact Nat.mul_le_mul_right _ hroom
     have hrun := run_append_room (P := P) w t o.type e3 inf ht hi b n cap cur r2 A m c2 news hs.len h2 hs.one hroom hfit
     rw [<- h1, <- g2] at hrun
     refine place _ (by simp; omega) (fun j hj => ?_) hrun
     obtain ⟨m1, m2⟩ := join_get hol hogs hs.get rfl hsame1 hsame2 j hj
     refine ⟨m1, fun i x hx => ?_⟩
     obtain ⟨u, u1, u2⟩ := m2 i x hx
     refine ⟨u, ?_, u2⟩
     rw [List.getElem?_toArray, List.getElem?_append_left (List.getElem?_eq_some_iff.1 u1).1]
     exact u1
    ·subst h1
     have hrun := run_append0 (P := P) (w := w) (ty := o.type) ht hi (some ⟨b, 0, none⟩) n cap c2 g3
     have hself : w.setRow b cur = w := setRow_self w b cur e3 (0, 0) r2
     refine place cur rfl (fun j hj => ?_) (by rw [hself, g2, h3]; exact hrun)
     obtain ⟨l1, l2⟩ := (hsame1 j (by omega)).get
     obtain ⟨m1, m2⟩ := r3.2 j (by omega)
     refine ⟨l1.trans m1, fun i x hx => ?_⟩
     obtain ⟨d2, hd2, hsim⟩ := l2 i x hx
     obtain ⟨u, u1, u2, _⟩ := m2 i d2 hd2
     exact ⟨u, by rw [Nat.zero_add] at u1; exact u1, u2.sim hsim⟩
   ·rcases hs.at_ with ⟨A, c2, h1, h2⟩ | ⟨h1, _⟩
    ·have holds : ∀ j v, (cur.toList.take (n * inf.size))[j]? = some v -> w.cell? ((⟨b, 0, none⟩ : Addr).add j) = some v := fun j v hj => by
      rw [Addr.add_lit, Nat.zero_add, cell_of_row w b j cur e3 (0, 0) r2]
      rw [List.getElem?_take] at hj
      split at hj
      ·simpa using hj
      ·cases hj
     have hrun := run_append_grow (P := P) w t o.type e3 inf zv ht hi hzv ⟨b, 0, none⟩ n cap (cur.toList.take (n * inf.size)) hol holds A m c2 news hs.len h2 (by omega) (by omega) (growslice_fits (by omega) hb)
     exact grow _ cap (by omega) hol hogs (by rw [g2, h1]; exact hrun)
    ·omega
end
end Go.DI
namespace Go.DI
open Go Go.RowKit
variable [Tabs]

section
variable {P : Program} {w w' : World} {F F' : Nat -> Prop} {β β' : Nat -> Option (Nat × Nat)} {γ γ' : Nat -> Option Nat} {obs obs' : Obs} {env : Env} {a : Act} {o : Oper} {sup : Option Sup} {e : Eff}

theorem Good.frozen {cs : List Cl} {u upd : Obs} {F1 : Nat -> Prop} {v : TV} {rd rd' : List Nat} {q q' : Option Prop} (Z : Frz w β γ obs F cs u F1) (h : Good P w F1 β γ (u ++ obs) env a o ⟨v, upd, rd, q⟩) : Good P w F β γ obs env a o ⟨v, upd ++ u, rd', q'⟩ := by
 obtain ⟨nx, v, w', F', β', γ', h1, h2, h3, h4, h5, h6⟩ := h
 refine ⟨nx, v, w', F', β', γ', h1, h2, ?_, Z.onto.trans ?_, ?_, ?_⟩ <;> (simp only [List.append_assoc]; assumption)

theorem refsO_append : ∀ (u obs : Obs), refsO (u ++ obs) = refsO u ++ refsO obs
 | [], obs => rfl
 | (n, x) :: u, obs => by
  have := refsO_append u obs
  cases x with
  | none => simpa [refsO] using this
  | some x => cases x <;> simp [refsO, this]
theorem rowsIn_cons (obs : Obs) (c : Cl) (cs : List Cl) : rowsIn obs (c :: cs) = rowsIn obs [c] ++ rowsIn obs cs := by
 cases c with
 | own nm =>
  simp only [rowsIn]
  cases lookO obs nm with
  | none => rfl
  | some x => cases x with
   | row k e sz n get => cases k <;> rfl
   | _ => rfl
 | _ => rfl
theorem rowsIn_append (obs : Obs) : ∀ (cs cs' : List Cl), rowsIn obs (cs ++ cs') = rowsIn obs cs ++ rowsIn obs cs'
 | [], _ => rfl
 | c :: cs, cs' => by rw [List.cons_append, rowsIn_cons, rowsIn_append obs cs cs', <- List.append_assoc, <- rowsIn_cons]
theorem rowsIn_refs (obs : Obs) : ∀ (cs : List Cl), refsO (rowsIn obs cs) = []
 | [] => rfl
 | c :: cs => by
  rw [rowsIn_cons, refsO_append, rowsIn_refs obs cs, List.append_nil]
  cases c with
  | own nm =>
   simp only [rowsIn]
   cases lookO obs nm with
   | none => rfl
   | some x => cases x with
    | row k e sz n get => cases k <;> rfl
    | _ => rfl
  | _ => rfl

theorem Fresh.frozen {d : Nat} {cs : List Cl} {F1 : Nat -> Prop} (Z : Frz w β γ obs F cs (rowsIn obs cs) F1) (h : Fresh d env obs) : Fresh d env (rowsIn obs cs ++ obs) := by
 refine ⟨?_, h.env, ?_⟩
 ·rcases Z.same d with h1 | ⟨_, _, _, _, h1, _⟩
  ·rw [h1]; exact h.none
  ·rw [h.none] at h1; cases h1
 ·rw [refsO_append, rowsIn_refs]; exact h.obs

theorem EnvOk.frozen {cs : List Cl} {u : Obs} {F1 : Nat -> Prop} (Z : Frz w β γ obs F cs u F1) (E : EnvOk w F β obs env a) : EnvOk w F1 β (u ++ obs) env a :=
 E.keep (fun b hb => ⟨Z.onto.more b hb, rfl⟩) fun nm _ => Z.keeps nm

def partCells : List (Nat × TV) -> List Cl
 | [] => []
 | (_, v) :: r => match cellsOf v with | some cs => cs ++ partCells r | none => partCells r
theorem partRows_eq (obs : Obs) : ∀ l : List (Nat × TV), partRows obs l = rowsIn obs (partCells l)
 | [] => rfl
 | (_, v) :: r => by
  simp only [partRows, partCells]
  cases cellsOf v with
  | none => exact partRows_eq obs r
  | some cs => simp only; rw [rowsIn_append, partRows_eq obs r]

theorem fill_parts {sz : Nat} {ob : Nat -> Option Ob} (hob : ob = lookO obs) {all : List Cl} {u : Obs} {F1 : Nat -> Prop} (Z : Frz w β γ obs F all u F1) : ∀ (l : List (Nat × TV)) (lv : List (Nat × Value)) (i : Nat) (els : List (List Dat)) (cells : Array Value),
 (∀ c ∈ partCells l, c ∈ all) -> partWin obs l = false -> l.length = lv.length -> (∀ (i : Nat) (p : Nat × TV) (q : Nat × Value), l[i]? = some p -> lv[i]? = some q -> p.1 = q.1 /\ TRel w F β ob p.2 q.2) -> partsL sz obs i l = some els -> (i + l.length) * sz <= cells.size ->
 ∃ cells' news, Instr.fill (fun i => some (i * sz, sz)) cells lv = some cells' /\ els.length = l.length /\ news.length = l.length * sz /\ cells'.toList = cells.toList.take (i * sz) ++ news ++ cells.toList.drop ((i + l.length) * sz) /\
  ∀ j, j < l.length -> (els.getD j []).length = sz /\ ∀ k x, (els.getD j [])[k]? = some x -> ∃ u, news[j * sz + k]? = some u /\ DRel w F1 x u
 | [], [], i, els, cells, _, _, _, _, h, _ => by
  simp only [partsL, Option.some.injEq] at h
  subst h
  exact ⟨cells, [], rfl, rfl, by simp, by simp, fun j hj => absurd hj (by simp)⟩
 | [], _ :: _, _, _, _, _, _, h, _, _, _ => by simp at h
 | _ :: _, [], _, _, _, _, _, h, _, _, _ => by simp at h
 | (j0, v) :: l, (i', x) :: lv, i, els, cells, hall, hw, hl, hp, h, hsz => by
  obtain ⟨rfl, hv⟩ := hp 0 _ _ rfl rfl
  simp only [partsL] at h
  split at h
  ·rename_i hij
   subst hij
   cases hc : cellsOf v with
   | none => rw [hc] at h; cases h
   | some cs =>
    simp only [hc] at h
    split at h
    ·rename_i hcs
     cases hd : datsOf obs cs with
     | none => rw [hd] at h; cases h
     | some ds =>
      cases hr : partsL sz obs (i + 1) l with
      | none => rw [hd, hr] at h; cases h
      | some els' =>
       rw [hd, hr] at h
       simp only [Option.some.injEq] at h
       subst h
       simp only [partWin, hc, Bool.or_eq_false_iff] at hw
       have hpc : partCells ((i, v) :: l) = cs ++ partCells l := by simp only [partCells, hc]
       obtain ⟨r1, r2⟩ := cells_rel hv hc
       subst hob
       have hDs := dats_of_frz Z cs ds _ (fun c hm => hall c (by rw [hpc]; exact List.mem_append_left _ hm)) hw.1 hd r1
       have hlen := r1.length
       have hdl := dsrel_length hDs
       simp only [Array.length_toList, List.length_cons] at hlen hdl hl hsz
       have hsz2 : i * sz + sz <= cells.size := by
        have : (i + 1) * sz <= (i + (l.length + 1)) * sz := Nat.mul_le_mul_right _ (by omega)
        rw [Nat.add_mul, Nat.one_mul] at this
        omega
       have hput := fold_put (i * sz) x.cells.toList 0 cells (by simp; omega)
       simp only [Nat.add_zero, Array.length_toList] at hput
       have hzip : x.cells.zipIdx.foldl (fun (cs : Array Value) (p : Value × Nat) => cs.setIfInBounds (i * sz + p.2) p.1) cells = (x.cells.toList.zipIdx 0).foldl (fun (cs : Array Value) (p : Value × Nat) => cs.setIfInBounds (i * sz + p.2) p.1) cells := by
        rw [<- Array.foldl_toList, Array.toList_zipIdx]
       rw [<- hzip] at hput
       have hxs : x.cells.size = sz := by omega
       have hs1 : (x.cells.zipIdx.foldl (fun (cs : Array Value) (p : Value × Nat) => cs.setIfInBounds (i * sz + p.2) p.1) cells).size = cells.size := by
        rw [<- Array.length_toList, hput]
        simp
        omega
       have hsz3 : (i + 1 + l.length) * sz <= (x.cells.zipIdx.foldl (fun (cs : Array Value) (p : Value × Nat) => cs.setIfInBounds (i * sz + p.2) p.1) cells).size := by
        have : i + 1 + l.length = i + (l.length + 1) := by omega
        rw [hs1, this]; exact hsz
       obtain ⟨cells', news, g1, g2, g3, g4, g5⟩ := fill_parts rfl Z l lv (i + 1) els' _ (fun c hm => hall c (by rw [hpc]; exact List.mem_append_right _ hm)) hw.2 (by omega) (fun k p q h1 h2 => hp (k + 1) p q (by simpa using h1) (by simpa using h2)) hr hsz3
       have e1 : (i + 1) * sz = i * sz + sz := by rw [Nat.add_mul, Nat.one_mul]
       have hf : Instr.fill (fun i => some (i * sz, sz)) cells ((i, x) :: lv) = some cells' := by
        simp only [Instr.fill]
        rw [if_neg (by simp only [Bool.or_eq_true, decide_eq_true_eq, bne_iff_ne, ne_eq]; omega)]
        exact g1
       refine ⟨cells', x.cells.toList ++ news, hf, by simp [g2], ?_, ?_, ?_⟩
       ·simp only [List.length_append, Array.length_toList, List.length_cons, g3, hxs, Nat.add_mul, Nat.one_mul]
        omega
       ·rw [g4, hput]
        have a1 : (cells.toList.take (i * sz) ++ x.cells.toList ++ cells.toList.drop (i * sz + x.cells.size)).take ((i + 1) * sz) = cells.toList.take (i * sz) ++ x.cells.toList := by
         rw [List.take_append_of_le_length (by simp; omega)]
         rw [List.take_of_length_le (by simp; omega)]
        have a2 : (cells.toList.take (i * sz) ++ x.cells.toList ++ cells.toList.drop (i * sz + x.cells.size)).drop ((i + 1 + l.length) * sz) = cells.toList.drop ((i + (l.length + 1)) * sz) := by
         have e3 : (i + 1 + l.length) * sz = i * sz + sz + l.length * sz := by rw [Nat.add_mul, Nat.add_mul, Nat.one_mul]
         have e4 : (i + (l.length + 1)) * sz = i * sz + sz + l.length * sz := by rw [<- e3]; congr 1; omega
         rw [e3, e4, List.drop_append, List.drop_of_length_le (by simp; omega), List.nil_append, List.drop_drop]
         congr 1
         simp
         omega
        rw [a1, a2]
        simp
       ·intro j hj
        cases j with
        | zero =>
         simp only [List.getD_cons_zero]
         refine ⟨by omega, fun k y hy => ?_⟩
         obtain ⟨u, u1, u2⟩ := dsrel_get hDs k hy
         refine ⟨u, ?_, u2⟩
         rw [Nat.zero_mul, Nat.zero_add, List.getElem?_append_left (List.getElem?_eq_some_iff.1 u1).1]
         exact u1
        | succ j =>
         simp only [List.getD_cons_succ]
         obtain ⟨m1, m2⟩ := g5 j (by simpa using hj)
         refine ⟨m1, fun k y hy => ?_⟩
         obtain ⟨u, u1, u2⟩ := m2 k y hy
         refine ⟨u, ?_, u2⟩
         have e5 : (j + 1) * sz + k = x.cells.toList.length + (j * sz + k) := by rw [Nat.add_mul, Nat.one_mul, Array.length_toList, hxs]; omega
         rw [e5, List.getElem?_append_right (by omega), Nat.add_sub_cancel_left]
         exact u1
    ·cases h
  ·cases h

theorem good_buildSlice {t n : Nat} {ps : Array (Nat × Operand)} (H : Heap w F β γ (lookO obs)) (E : EnvOk w F β obs env a) (ho : o.op = .buildSlice t n ps) (h : exec P env obs o sup = some e) (hfr : freshOk o.dst e.upd env obs = true) (hq : ∀ p, e.req = some p -> p) : Good P w F β γ obs env a o e := by
 unfold exec at h
 simp only [ho] at h
 split at h
 ·rename_i d el n' get' hd hel
  split at h
  ·rename_i els hpl hn
   split at h
   ·rename_i hc
    obtain ⟨c1, c2, c3, c4⟩ := hc
    cases hw : partWin obs (ps.toList.map fun (i, x) => (i, evalO env x)) with
    | true => rw [hw] at h; cases h
    | false =>
     rw [hw] at h
     simp only [cond_false, Option.some.injEq] at h
     subst h
     rw [hd] at hfr
     have hf := fresh_of hfr (by simp [namesO]) hn
     obtain ⟨q1, q2⟩ := hq _ rfl
     subst q1
     rw [partRows_eq]
     obtain ⟨F1, Z⟩ := freezeAll obs F H (partCells (ps.toList.map fun (i, x) => (i, evalO env x)))
     obtain ⟨zc, hzc⟩ := Option.isSome_iff_exists.1 c4
     obtain ⟨inf, zv, hi, hzv, hzs, _, _⟩ := zeroT_some hzc
     have hcs : P.cellsOf el = inf.size := by simp [Program.cellsOf, hi]
     rw [hcs] at hpl c2 c3
     let cells0 : Array Value := (Array.range (n' * inf.size)).map (zv.cells[· % zv.cells.size]!)
     have hlenp : els.length = (ps.toList.map fun (i, x) => (i, evalO env x)).length -> n' = ps.toList.length := fun h => by rw [<- c1, h]; simp
     have hpll : ∀ (l : List (Nat × TV)) (i : Nat) (els : List (List Dat)), partsL inf.size obs i l = some els -> els.length = l.length := fun l => by
      induction l with
      | nil => intro i els h; simp only [partsL, Option.some.injEq] at h; subst h; rfl
      | cons p l ih =>
       intro i els h
       obtain ⟨j, v⟩ := p
       simp only [partsL] at h
       split at h
       ·split at h
        ·split at h
         ·split at h
          ·rename_i ds l' h1 h2
           cases h
           simp [ih _ _ h2]
          ·cases h
         ·cases h
        ·cases h
       ·cases h
     have hnn : n' = ps.toList.length := hlenp (hpll _ _ _ hpl)
     obtain ⟨cells', news, g1, g2, g3, g4, g5⟩ := fill_parts rfl Z (ps.toList.map fun (i, x) => (i, evalO env x)) (ps.map fun (i, x) => (i, a.eval x)).toList 0 els cells0 (fun c hc => hc) hw (by simp) (fun j p q h1 h2 => by
      simp only [List.getElem?_map, Array.toList_map] at h1 h2
      cases hp : ps.toList[j]? with
      | none => simp [hp] at h1
      | some pr =>
       simp [hp] at h1 h2
       subst h1 h2
       exact ⟨rfl, evalO_rel E pr.2⟩) hpl (by simp [cells0, hnn])
     have hlen : (ps.toList.map fun (i, x) => (i, evalO env x)).length = n' := by simp [hnn]
     rw [hlen] at g3 g4 g5
     have hcl : cells' = news.toArray := by
      apply Array.toList_inj.1
      rw [g4, Nat.zero_mul, List.take_zero, List.nil_append, Nat.zero_add, List.drop_of_length_le (by simp [cells0])]
      simp
     subst hcl
     have hrun : (Instr.buildSlice t n' (ps.map fun (i, x) => (i, a.eval x))).run P w = .ok (.slice (some ⟨w.heap.size, 0, none⟩) n' n') (w.alloc (.cells news.toArray el)) := by
      by_cases hn0 : n' = 0
      ·subst hn0
       have : ps.toList = [] := List.eq_nil_of_length_eq_zero hnn.symm
       have hps : ps = #[] := Array.toList_inj.1 this
       subst hps
       have hnews : news = [] := List.eq_nil_of_length_eq_zero (by rw [g3]; simp)
       subst hnews
       simp [Instr.buildSlice, run_underlying (elemT_some hel), sizeOf, typeInfo, hi, newRow, Instr.fill]
       congr 2
       exact Array.eq_empty_of_size_eq_zero (by simp)
      ·exact run_buildSlice w t el n' _ news.toArray inf zv (elemT_some hel) hi hzv (by omega) (by have := Nat.mul_pos (Nat.pos_of_ne_zero hn0) c2; omega) g1
     have G := newrow (P := P) (o := o) (a := a) (el := el) (n := n') (cap := n') (sz := inf.size) (get := get') (cells := news.toArray) (w1 := w) (rd := []) (q := none) Z.heap (E.frozen Z) (hf.frozen Z) rfl rfl rfl rfl (Nat.le_refl _) (by
      have : n' * 1 <= n' * inf.size := Nat.mul_le_mul_left _ c2
      rw [maxLen_eq]; omega) (by simp [g3]) (fun j hj => by
      obtain ⟨l1, l2⟩ := (q2 j hj).get
      obtain ⟨m1, m2⟩ := g5 j hj
      refine ⟨l1.trans m1, fun i x hx => ?_⟩
      obtain ⟨d2, hd2, hsim⟩ := l2 i x hx
      obtain ⟨u, u1, u2⟩ := m2 i d2 hd2
      exact ⟨u, by simpa using u1, u2.sim hsim⟩) rfl (by simp [execOp, ho, hrun])
     rw [hcs]
     exact G.frozen Z
   ·cases h
  ·cases h
 ·cases h
end
end Go.DI
namespace Go.DI
open Go Go.RowKit
variable [Tabs]

section
variable {P : Program} {w w' : World} {F F' : Nat -> Prop} {β β' : Nat -> Option (Nat × Nat)} {γ γ' : Nat -> Option Nat} {obs obs' : Obs} {env : Env} {a : Act} {o : Oper} {sup : Option Sup} {e : Eff}

theorem src_view (H : Heap w F β γ (lookO obs)) {nm e2 sz n m off : Nat} {k : RK} {g : Nat -> List Dat} {v : Value} (hsz : 0 < sz) (hob : lookO obs nm = some (.row k e2 sz n g)) (h : CRel w F β (lookO obs) (.vw nm off m) v) : ∃ news, Src w F sz m (fun j => g (j + off)) v news := by
 simp only [CRel, hob] at h
 obtain ⟨_, hle0, h⟩ := h
 rcases h with ⟨g1, g2, rfl, rfl⟩ | ⟨b, qo, cap, g1, rfl, g3, g4, g5⟩
 ·subst g2
  exact ⟨[], by simp, by simp, fun j hj => by omega, .inr ⟨rfl, 0, rfl⟩⟩
 ·rcases H.obs _ _ hob with ⟨rfl, g7⟩ | ⟨b', qo', cur, e3, fr, r1, r2, r3, r4, r5, r6⟩
  ·rw [g1] at g7; cases g7
  ·rw [g1] at r1
   cases r1
   have ix : ∀ j i, (j + off) * sz + i = off * sz + (j * sz + i) := fun j i => by rw [Nat.add_mul]; omega
   have each : ∀ k, k < m * sz -> ∃ u, cur[qo + off * sz + k]? = some u /\ DRel w F ((g (k / sz + off)).getD (k % sz) .nilp) u := fun k hk => by
    obtain ⟨j, i, hj, hi, rfl⟩ := split_ix hsz hk
    have e1 : (j * sz + i) / sz = j := by rw [Nat.mul_comm, Nat.mul_add_div hsz, Nat.div_eq_of_lt hi, Nat.add_zero]
    have e2 : (j * sz + i) % sz = i := by rw [Nat.mul_comm, Nat.mul_add_mod, Nat.mod_eq_of_lt hi]
    have hlt : i < (g (j + off)).length := by rw [(r3.2 (j + off) (by omega)).1]; exact hi
    obtain ⟨u, u1, u2, _⟩ := (r3.2 (j + off) (by omega)).2 i (g (j + off))[i] (List.getElem?_eq_getElem hlt)
    refine ⟨u, by rw [Nat.add_assoc, <- ix, <- Nat.add_assoc]; exact u1, ?_⟩
    rw [e1, e2]
    simpa [List.getD_eq_getElem?_getD, List.getElem?_eq_getElem hlt] using u2
   have hle := r3.1
   have hle2 : (off + m) * sz <= n * sz := Nat.mul_le_mul_right _ hle0
   rw [Nat.add_mul] at hle2
   have hn : ∀ i u, ((cur.toList.drop (qo + off * sz)).take (m * sz))[i]? = some u ↔ i < m * sz /\ cur[qo + off * sz + i]? = some u := fun i u => by
    rw [List.getElem?_take]
    by_cases hi : i < m * sz
    ·simp [hi]
    ·simp [hi]
   refine ⟨(cur.toList.drop (qo + off * sz)).take (m * sz), by simp; omega, fun u hu => ?_, fun j hj => ⟨(r3.2 (j + off) (by omega)).1, fun i x hx => ?_⟩, .inl ⟨_, cap, rfl, fun i u hu => ?_⟩⟩
   ·obtain ⟨i, hi⟩ := List.getElem?_of_mem hu
    obtain ⟨h1, h2⟩ := (hn i u).1 hi
    obtain ⟨u', u1, u2⟩ := each i h1
    rw [h2] at u1
    cases u1
    exact u2.oneCell
   ·obtain ⟨u, u1, u2, _⟩ := (r3.2 (j + off) (by omega)).2 i x hx
    have hi : i < sz := by
     have := (List.getElem?_eq_some_iff.1 hx).1
     rw [(r3.2 (j + off) (by omega)).1] at this
     exact this
    have hlt : j * sz + i < m * sz := by
     have : (j + 1) * sz <= m * sz := Nat.mul_le_mul_right _ hj
     rw [Nat.add_mul, Nat.one_mul] at this
     omega
    exact ⟨u, (hn _ _).2 ⟨hlt, by rw [Nat.add_assoc, <- ix, <- Nat.add_assoc]; exact u1⟩, u2⟩
   ·obtain ⟨h1, h2⟩ := (hn i u).1 hu
    rw [Addr.add_lit, cell_of_row w b _ cur e3 fr r2]
    exact h2

theorem bytes_src (H : Heap w F β γ (lookO obs)) {x : TV} {v : Value} {n : Nat} {get : Nat -> List Dat} {rd : List Nat} (hr : TRel w F β (lookO obs) x v) (h : bytesIn obs x = some (n, get, rd)) : ∃ news, Src w F 1 n get v news := by
 unfold bytesIn at h
 split at h
 ·cases h
  have : v = .slice none 0 0 := of_c hr
  subst this
  exact ⟨[], by simp, by simp, fun j hj => by omega, .inr ⟨rfl, 0, rfl⟩⟩
 ·cases h
  exact src_fro (by decide) (of_c hr)
 ·rename_i nm
  split at h
  ·rename_i k e2 n' g' hob
   cases h
   exact src_row H (by decide) hob (of_c hr)
  ·cases h
 ·rename_i nm off len
  split at h
  ·rename_i k e2 n' g' hob
   cases h
   exact src_view H (by decide) hob (of_c hr)
  ·cases h
 ·cases h

theorem btI_lt (s : ByteArray) (i : Nat) (h : i < s.size) : btI s i = ((s[i]'h).toNat : Int) := by
 unfold btI
 have : (i : Int).toNat = i := by omega
 simp only [this, h, dite_true]

theorem good_bytes_string {src dst : TypeId} {el : TypeId} {x : Operand} {n : Nat} {get : Nat -> List Dat} {rd rd' : List Nat} {s : ByteArray} {q : Option Prop} (H : Heap w F β γ (lookO obs)) (E : EnvOk w F β obs env a) (ho : o.op = .convert src dst x)
 (hs : P.underlying src = some (.slice el)) (hd : P.underlying dst = some .string) (he : P.underlying el = some (.int .u8)) (hb : bytesIn obs (evalO env x) = some (n, get, rd)) (h1 : s.size = n) (h2 : Same n get fun j => [.int .u8 (btI s j)]) :
 Good P w F β γ obs env a o ⟨dStr s, [], rd', q⟩ := by
 have hx := evalO_rel E x
 obtain ⟨news, S⟩ := bytes_src H hx hb
 subst h1
 have hnews : news = (List.range s.size).map fun (j : Nat) => Value.int .u8 (btI s (j : Int)) := by
  apply List.ext_getElem?
  intro i
  by_cases hi : i < s.size
  ·obtain ⟨l1, l2⟩ := S.get i hi
   have hl := h2 i hi
   have hg : get i = [.int .u8 (btI s i)] := by
    cases hgi : get i with
    | nil => rw [hgi] at l1; cases l1
    | cons d0 r =>
     rw [hgi] at hl
     obtain ⟨hd0, hr0⟩ := hl
     cases r with
     | nil => cases hd0; rfl
     | cons _ _ => exact hr0.elim
   obtain ⟨u, u1, u2⟩ := l2 0 (.int .u8 (btI s i)) (by rw [hg]; rfl)
   cases u2
   rw [Nat.mul_one, Nat.add_zero] at u1
   rw [u1]
   simp [hi]
  ·have hl := S.len
   rw [List.getElem?_eq_none (by omega), List.getElem?_eq_none (by simp; omega)]
 have hstr : ((List.range s.size).map fun (j : Nat) => btI s (j : Int)).foldl (fun r n => r.push (UInt8.ofNat n.toNat)) ByteArray.empty = s := by
  rw [foldl_push_bytes]
  apply congrArg ByteArray.mk
  apply Array.ext_getElem?
  intro i
  show (#[] ++ _ : Array UInt8)[i]? = s.data[i]?
  by_cases hi : i < s.size
  ·simp only [List.map_map, Array.empty_append, List.getElem?_toArray, List.getElem?_map, List.getElem?_range hi, Option.map_some, Function.comp]
   rw [btI_lt s i hi]
   have : s.data[i]? = some s.data[i] := Array.getElem?_eq_getElem hi
   rw [this]
   congr 1
   show UInt8.ofNat ((s.data[i].toNat : Int).toNat) = s.data[i]
   simp
  ·rw [Array.getElem?_eq_none (show s.data.size <= i from Nat.le_of_not_lt hi), Array.getElem?_eq_none (by simp; omega)]
 refine Good.pure H E (v := .string s) ?_ (by rw [dStr, TRel]; exact .str s)
 rcases S.at_ with ⟨A, cap, h3, h4⟩ | ⟨h3, cap, h4⟩
 ·have hl := run_loadCells_list (P := P) w A news h4
  rw [hnews] at hl
  have hb2 := run_bytesToString (P := P) w A s.size cap ((List.range s.size).map fun (j : Nat) => btI s (j : Int)) (by simpa [List.map_map, Function.comp_def] using hl)
  rw [hstr] at hb2
  have hc := run_convert_bytes_string (P := P) w src dst el (some A) s.size cap hs he hd
  simp [execOp, ho, h3, hc, hb2]
 ·have hc := run_convert_bytes_string (P := P) w src dst el none 0 cap hs he hd
  have : s = ByteArray.empty := by
   rw [h3] at hstr
   exact hstr.symm
  simp [execOp, ho, h4, hc, Conv.bytesToString, this]

theorem good_string_bytes {src dst : TypeId} {el d : Nat} {x : Operand} {n : Nat} {get : Nat -> List Dat} {rd : List Nat} {s : ByteArray} {q : Option Prop} (H : Heap w F β γ (lookO obs)) (E : EnvOk w F β obs env a) (ho : o.op = .convert src dst x) (hf : Fresh d env obs)
 (hs : P.underlying src = some .string) (hd : P.underlying dst = some (.slice el)) (he : P.underlying el = some (.int .u8)) (hx : evalO env x = dStr s) (h1 : n = s.size) (h0 : n <= lim) (h2 : Same n get fun j => [.int .u8 (btI s j)]) :
 Good P w F β γ obs env a o ⟨.c (.own d), [(d, some (.row .frz el 1 n get))], rd, q⟩ := by
 subst h1
 have hr := evalO_rel E x
 rw [hx] at hr
 have hrun := run_bytes_of_string (P := P) w src dst el s hs hd he
 let cap := grownCap w s.size 0 el
 let cells := bytesRow s cap
 let obj : Obj := .cells cells el (cells.size, cells.size + 1)
 have hcap : s.size <= cap := grownCap_ge w s.size 0 el
 have hcs : cells.size = cap := by simp [cells, bytesRow, ByteArray.size_data]; omega
 have hsz : (w.drew.alloc obj).heap.size = w.heap.size + 1 := by simp
 have heq : ∀ b, b < w.heap.size -> (w.drew.alloc obj).heap[b]? = w.heap[b]? := fun b hb => Below.heap_alloc w.drew _ _ hb
 have hnew : (w.drew.alloc obj).heap[w.heap.size]? = some obj := heap_alloc_new w.drew _
 have hl := lookO_self d (some (.row .frz el 1 s.size get)) obs
 have hcell : ∀ j, j < s.size -> cells[j]? = some (.int .u8 (btI s j)) := fun j hj => by
  show (s.data.map (fun b => Value.int .u8 b.toNat) ++ Array.replicate (cap - s.size) (.int .u8 0))[j]? = _
  rw [Array.getElem?_append_left (by simpa using hj), Array.getElem?_map, btI_lt s j hj]
  have : s.data[j]? = some s.data[j] := Array.getElem?_eq_getElem hj
  rw [this]
  rfl
 obtain ⟨H', O', K'⟩ := newOb (w' := w.drew.alloc obj) (F' := fun b => F b \/ b = w.heap.size) (β' := setB β d (some (w.heap.size, 0))) (γ' := γ) (ob' := lookO ((d, some (.row .frz el 1 s.size get)) :: obs)) H hf.none (fun n cs hn hm => hf.obs (refs_lookO hn hm))
  rfl rfl rfl (by omega) heq (fun t => lookO_cons _ _ _ _) (fun t ht => setB_ne _ _ ht) (fun t _ => rfl) (fun b h => .inl h) (fun b h => h.imp id fun e => ⟨by omega, by omega⟩)
  (fun b ho => by simp [Owns, hl] at ho) (fun b q hb => by rw [setB_self] at hb; cases hb; exact Nat.le_refl _)
  (.inr ⟨w.heap.size, 0, cells, el, (cells.size, cells.size + 1), setB_self _ _ _, hnew, ⟨by omega, fun j hj => by
   obtain ⟨l1, l2⟩ := (h2 j hj).get
   refine ⟨l1, fun i x hx => ?_⟩
   obtain ⟨d2, hd2, hsim⟩ := l2 i x hx
   cases i with
   | zero =>
    simp at hd2
    subst hd2
    cases hsim
    exact ⟨_, by rw [Nat.mul_one, Nat.zero_add, Nat.add_zero]; exact hcell j hj, .int _ _, rfl⟩
   | succ i => simp at hd2⟩, fun h => (by cases h), fun h => absurd rfl h, fun _ => .inr rfl⟩)
 refine ⟨_, .slice (some ⟨w.heap.size, 0, none⟩) s.size cap, _, _, _, _, ?_, .inl rfl, H', O', ?_, E.keep (O'.frozen H) (fun nm' hm => K' nm' fun e => hf.env (e ▸ hm))⟩
 ·simp [execOp, ho, of_str hr, hrun]
  exact ⟨rfl, rfl⟩
 ·rw [TRel]
  simp only [CRel, List.singleton_append, hl]
  refine ⟨rfl, .inr ⟨w.heap.size, 0, cap, setB_self _ _ _, by simp, hcap, grownCap_le_maxLen w s.size 0 el ?_, fun h => by cases h⟩⟩
  rw [maxLen_eq]
  unfold lim at h0
  omega

theorem good_convert {src dst : TypeId} {x : Operand} (H : Heap w F β γ (lookO obs)) (E : EnvOk w F β obs env a) (ho : o.op = .convert src dst x) (h : exec P env obs o sup = some e) (hfr : freshOk o.dst e.upd env obs = true) (hq : ∀ p, e.req = some p -> p) : Good P w F β γ obs env a o e := by
 unfold exec at h
 simp only [ho] at h
 split at h
 ·rename_i sd k k' n h1 h2 h3
  rw [eff_inj h]
  exact good_convert_int H E ho h1 h2 h3
 ·rename_i sd s h1 h2 h3
  rw [eff_inj h]
  exact good_convert_str H E ho h1 h2 h3
 ·rename_i el h1 h2 _
  split at h
  ·rename_i n get rd s h3 h4
   cases h
   obtain ⟨q1, q2⟩ := hq _ rfl
   exact good_bytes_string H E ho h1 h2 h3 h4 q1 q2
  ·cases h
 ·rename_i el s h1 h2 h3
  split at h
  ·rename_i d n get hd h4 h5
   split at h
   ·rename_i hn
    cases h
    obtain ⟨q1, q2, q3⟩ := hq _ rfl
    rw [hd] at hfr
    exact good_string_bytes H E ho (fresh_of hfr (by simp [namesO]) hn) h1 h2 h4 h3 q1 q2 q3
   ·cases h
  ·cases h
 ·cases h
end
end Go.DI
namespace Go.DI
open Go Go.RowKit
variable [Tabs]

section
variable {P : Program} {w w' : World} {F F' : Nat -> Prop} {β β' : Nat -> Option (Nat × Nat)} {γ γ' : Nat -> Option Nat} {obs obs' : Obs} {env : Env} {a : Act} {o : Oper} {sup : Option Sup} {e : Eff}

theorem good_store {t : TypeId} {x y : Operand} (H : Heap w F β γ (lookO obs)) (E : EnvOk w F β obs env a) (ho : o.op = .store t x y) (h : exec P env obs o sup = some e) (hq : ∀ p, e.req = some p -> p) : Good P w F β γ obs env a o e := by
 unfold exec at h
 simp only [ho] at h
 split at h
 ·rename_i nm off new hx hn
  split at h
  ·rename_i cs hob
   split at h
   ·rename_i hc
    cases h
    exact good_storebox H E ho hx hn hob hc.1 hc.2.1 hc.2.2
   ·cases h
  ·cases h
 ·rename_i nm el off new hx hn
  split at h
  ·rename_i k e2 sz n get ds n' get' hob hds
   have main : ∀ (k : RK), k ≠ .frz -> lookO obs nm = some (.row k e2 sz n get) -> (if ds.length = P.cellsOf t /\ off + ds.length <= sz /\ (P.info? t).isSome = true then bif isWin obs new || hasSelf nm new then none else
    some (⟨.c .u, (nm, some (.row k e2 sz n' get')) :: rowsIn obs new, [nm], some (n' = n /\ el < n /\ Same n get' fun j => if j = el then overD off ds (get j) else get j)⟩ : Eff) else none) = some e -> Good P w F β γ obs env a o e := fun k hk hob h => by
    split at h
    ·rename_i hc
     cases hw : (isWin obs new || hasSelf nm new) with
     | true => rw [hw] at h; cases h
     | false =>
      rw [hw] at h
      cases h
      obtain ⟨q1, q2, q3⟩ := hq _ rfl
      simp only [Bool.or_eq_false_iff] at hw
      exact good_storerow H E ho hx hn hob hds hk hc.1 hc.2.1 hc.2.2 hw.1 hw.2 q1 q3
    ·cases h
   cases k with
   | frz => cases h
   | own => exact main .own (by intro h; cases h) hob h
   | win => exact main .win (by intro h; cases h) hob h
  ·cases h
 ·cases h

theorem lo_some {x : Option Operand} {k : IntKind} {i : Int} (E : EnvOk w F β obs env a) (h : x.map (evalO env) = some (.c (.d (.int k i)))) (h0 : 0 <= i) : (x.map a.eval = none /\ i.toNat = 0) \/ ∃ k, x.map a.eval = some (.int k (i.toNat : Int)) :=
 .inr ⟨k, by rw [map_eval E h, <- toNat_int h0]⟩
theorem hi_some {x : Option Operand} {k : IntKind} {i : Int} {n : Nat} (E : EnvOk w F β obs env a) (h : x.map (evalO env) = some (.c (.d (.int k i)))) (h0 : 0 <= i) : (x.map a.eval = none /\ i.toNat = n) \/ ∃ k, x.map a.eval = some (.int k (i.toNat : Int)) :=
 .inr ⟨k, by rw [map_eval E h, <- toNat_int h0]⟩
theorem lo_none {x : Option Operand} (h : x.map (evalO env) = none) : (x.map a.eval = none /\ 0 = 0) \/ ∃ k, x.map a.eval = some (.int k ((0 : Nat) : Int)) := .inl ⟨map_none h, rfl⟩
theorem hi_none {x : Option Operand} {n : Nat} (h : x.map (evalO env) = none) : (x.map a.eval = none /\ n = n) \/ ∃ k, x.map a.eval = some (.int k (n : Int)) := .inl ⟨map_none h, rfl⟩

theorem good_slice {t : TypeId} {x : Operand} {lo hi mx : Option Operand} (H : Heap w F β γ (lookO obs)) (E : EnvOk w F β obs env a) (ho : o.op = .slice t x lo hi mx) (h : exec P env obs o sup = some e) (hfr : freshOk o.dst e.upd env obs = true) (hq : ∀ p, e.req = some p -> p) : Good P w F β γ obs env a o e := by
 unfold exec at h
 simp only [ho] at h
 split at h
 ·rename_i _ s hu hx
  split at h
  ·rename_i hlo hhi
   cases h
   exact string_part H E ho hu hx (lo_none hlo) (hi_none hhi) (Nat.zero_le _) (Nat.le_refl _)
  ·rename_i kl l hlo hhi
   cases h
   obtain ⟨q1, q2⟩ := hq _ rfl
   exact string_part H E ho hu hx (lo_some E hlo q1) (hi_none hhi) (by omega) (Nat.le_refl _)
  ·rename_i kh hv hlo hhi
   cases h
   obtain ⟨q1, q2⟩ := hq _ rfl
   exact string_part H E ho hu hx (lo_none hlo) (hi_some E hhi q1) (by omega) (by omega)
  ·rename_i kl l kh hv hlo hhi
   cases h
   obtain ⟨q1, q2, q3⟩ := hq _ rfl
   exact string_part H E ho hu hx (lo_some E hlo q1) (hi_some E hhi (by omega)) (by omega) (by omega)
  ·cases h
 ·rename_i _ el sz n get hu hx
  split at h
  ·rename_i hc
   obtain ⟨hsz, hin⟩ := hc
   have hin := Option.isSome_iff_exists.1 hin
   split at h
   ·rename_i kl l n' get' hlo hhi
    cases h
    obtain ⟨q1, q2, q3, q4⟩ := hq _ rfl
    exact fro_part H E ho hu hin hx hsz (lo_some E hlo q1) (hi_none hhi) (by omega) (Nat.le_refl _) q3 q4
   ·rename_i kh hv n' get' hlo hhi
    cases h
    obtain ⟨q1, q2, q3, q4⟩ := hq _ rfl
    exact fro_part H E ho hu hin hx hsz (lo_none hlo) (hi_some E hhi q1) (by omega) (by omega) (by omega) q4
   ·rename_i kl l kh hv n' get' hlo hhi
    cases h
    obtain ⟨q1, q2, q3, q4, q5⟩ := hq _ rfl
    exact fro_part H E ho hu hin hx hsz (lo_some E hlo q1) (hi_some E hhi (by omega)) (by omega) (by omega) q4 q5
   ·cases h
  ·cases h
 ·rename_i _ el nm hu hx
  split at h
  ·rename_i k e' sz n get hob
   split at h
   ·rename_i hc
    obtain ⟨hsz, hin⟩ := hc
    have hin := Option.isSome_iff_exists.1 hin
    split at h
    ·rename_i kl l kh hv hlo hhi
     cases h
     obtain ⟨q1, q2, q3⟩ := hq _ rfl
     exact own_view H E ho hu hin hx hob hsz (lo_some E hlo q1) (hi_some E hhi (by omega)) (by omega) (by omega) (by omega)
    ·rename_i kl l hlo hhi
     cases h
     obtain ⟨q1, q2⟩ := hq _ rfl
     exact own_view H E ho hu hin hx hob hsz (lo_some E hlo q1) (hi_none hhi) (by omega) (Nat.le_refl _) (by omega)
    ·rename_i kh hv n' get' hlo hhi
     split at h
     ·rename_i d hd
      split at h
      ·rename_i hn
       cases h
       obtain ⟨q1, q2, q3, q4⟩ := hq _ rfl
       rw [hd] at hfr
       cases lo with
       | some lo => simp at hlo
       | none =>
        cases hi with
        | none => simp at hhi
        | some hi =>
         simp at hhi
         exact good_narrow H E ho hu hin hx hhi hob hsz (fresh_of hfr (by simp [namesO]) hn) q1 q2 q3 q4
      ·cases h
     ·cases h
    ·cases h
   ·cases h
  ·cases h
 ·cases h

theorem one_arg {args : Array Operand} {v : TV} (h : args.toList.map (evalO env) = [v]) : ∃ x, args = #[x] /\ evalO env x = v := by
 obtain ⟨l⟩ := args
 match l, h with
 | [x], h => exact ⟨x, rfl, by simpa using h⟩
theorem two_args {args : Array Operand} {u v : TV} (h : args.toList.map (evalO env) = [u, v]) : ∃ x y, args = #[x, y] /\ evalO env x = u /\ evalO env y = v := by
 obtain ⟨l⟩ := args
 match l, h with
 | [x, y], h => exact ⟨x, y, rfl, by simpa using h⟩
theorem to_arr {α : Type} {l : Array α} {m : List α} (h : l.toList = m) : l = m.toArray := by subst h; simp

theorem good_builtin {c : Call} {b : Builtin} (H : Heap w F β γ (lookO obs)) (E : EnvOk w F β obs env a) (ho : o.op = .call c) (hb : c.callee = .builtin b) (h : exec P env obs o sup = some e) (hfr : freshOk o.dst e.upd env obs = true) (hq : ∀ p, e.req = some p -> p) : Good P w F β γ obs env a o e := by
 obtain ⟨callee, args, tys⟩ := c
 simp only at hb
 subst hb
 unfold exec at h
 simp only [ho] at h
 split at h
 ·rename_i s t ha ht
  obtain ⟨x, rfl, hx⟩ := one_arg ha
  split at h
  ·rename_i hu
   rw [eff_inj h]
   exact good_len H E ho (by rw [to_arr ht]) (.inl ⟨s, hx, hu, rfl⟩)
  ·cases h
 ·rename_i sz n get t ha ht
  obtain ⟨x, rfl, hx⟩ := one_arg ha
  split at h
  ·rename_i el hu
   rw [eff_inj h]
   exact good_len H E ho (by rw [to_arr ht]) (.inr (.inl ⟨sz, n, get, el, hx, hu, rfl⟩))
  ·cases h
 ·rename_i nm t ha ht
  obtain ⟨x, rfl, hx⟩ := one_arg ha
  split at h
  ·rename_i el k e2 sz n get hu hob
   rw [eff_inj h]
   exact good_len H E ho (by rw [to_arr ht]) (.inr (.inr (.inl ⟨nm, k, e2, sz, n, get, el, hx, hob, hu, rfl⟩)))
  ·cases h
 ·rename_i t ha ht
  obtain ⟨x, rfl, hx⟩ := one_arg ha
  split at h
  ·rename_i el hu
   rw [eff_inj h]
   exact good_len H E ho (by rw [to_arr ht]) (.inr (.inr (.inr ⟨el, hx, hu, rfl⟩)))
  ·cases h
 ·rename_i k m k' n ha
  obtain ⟨x, y, rfl, hx, hy⟩ := two_args ha
  split at h
  ·rename_i hk
   subst hk
   rw [eff_inj h]
   exact good_mm H E ho rfl hx hy (.inl ⟨rfl, rfl⟩)
  ·cases h
 ·rename_i k m k' n ha
  obtain ⟨x, y, rfl, hx, hy⟩ := two_args ha
  split at h
  ·rename_i hk
   subst hk
   rw [eff_inj h]
   exact good_mm H E ho rfl hx hy (.inr ⟨rfl, rfl⟩)
  ·cases h
 ·rename_i s x t t' ha ht
  obtain ⟨xo, yo, rfl, hx, hy⟩ := two_args ha
  split at h
  ·rename_i d el n' get' hd hel
   split at h
   ·rename_i inf hi hn
    split at h
    ·rename_i hc
     obtain ⟨rfl, hsz, hby, hz⟩ := hc
     have ht2 : tys = #[t, t] := to_arr ht
     have ey := evalO_rel E yo
     rw [hd] at hfr
     have src : ∀ {m : Nat} {g : Nat -> List Dat} {rd : List Nat}, appSrc obs inf.size x = some (m, g, rd) -> ∃ news, Src w F inf.size m g (a.eval yo) news := fun {m g rd} h => by
      unfold appSrc at h
      rw [hy] at ey
      split at h
      ·split at h
       ·rename_i hc
        cases h
        rcases hc with rfl | rfl
        ·exact src_fro hsz (of_trel_d ey)
        ·refine src_fro hsz ?_
         obtain ⟨A, cap, h1, _⟩ := fro_slice (of_trel_d ey)
         rw [h1]
         exact .fro0 _ _ _ _
       ·cases h
      ·split at h
       ·rename_i k e2 sz m' g' hob
        split at h
        ·rename_i hc
         subst hc
         cases h
         exact src_row H hsz hob (of_c ey)
        ·cases h
       ·cases h
      ·cases h
       have : a.eval yo = .slice none 0 0 := of_c ey
       rw [this]
       exact ⟨[], by simp, by simp, fun j hj => by omega, .inr ⟨rfl, 0, rfl⟩⟩
      ·cases h
     split at h
     ·rename_i m g rd hs
      cases h
      obtain ⟨q1, q2, q3⟩ := hq _ rfl
      obtain ⟨news, S⟩ := src hs
      exact good_append_nil H E ho (by rw [ht2]) (elemT_some hel) hi hz hsz hby hx S (fresh_of hfr (by simp [namesO]) hn) q1 q2 q3
     ·rename_i nm m g rd hs
      split at h
      ·rename_i e' sz len get hob
       split at h
       ·rename_i hc2
        obtain ⟨rfl, rfl, _⟩ := hc2
        cases h
        obtain ⟨q1, q2, q3, q4⟩ := hq _ rfl
        obtain ⟨news, S⟩ := src hs
        exact good_append_own H E ho (by rw [ht2]) (elemT_some hel) hi hz hsz hby hx hob S (fresh_of hfr (by simp [namesO]) hn) q1 q2 q3 q4
       ·cases h
      ·cases h
     ·cases h
    ·cases h
   ·cases h
  ·cases h
 ·cases h

theorem exec_sound (H : Heap w F β γ (lookO obs)) (E : EnvOk w F β obs env a) (h : exec P env obs o sup = some e) (hfr : freshOk o.dst e.upd env obs = true) (hq : ∀ p, e.req = some p -> p) : Good P w F β γ obs env a o e := by
 cases ho : o.op with
 | move x => exact good_move H E (.inl ho) h
 | assign x => exact good_move H E (.inr ho) h
 | pick c x y => exact good_pick H E ho h
 | alloc t => exact good_alloc H E ho h hfr
 | box t x => exact good_box H E ho h hfr
 | load t x => exact good_load H E ho h
 | store t x y => exact good_store H E ho h hq
 | nilCheck x => exact good_nilCheck H E ho h
 | fieldAddr t x f => exact good_fieldAddr H E ho h
 | field t x f => exact good_field H E ho h
 | indexAddr t x i => exact good_indexAddr H E ho h hq
 | index t x i => exact good_index H E ho h hq
 | build t ps => exact good_build H E ho h
 | buildSlice t n ps => exact good_buildSlice H E ho h hfr hq
 | makeSlice t l c => exact good_makeSlice H E ho h hfr hq
 | slice t x lo hi mx => exact good_slice H E ho h hfr hq
 | binOp op t x y u => exact good_binOp H E ho h hq
 | unOp op t x => exact good_unOp H E ho h
 | convert src dst x => exact good_convert H E ho h hfr hq
 | extract x i => exact good_extract H E ho h
 | next it b => cases b with
  | true => exact good_next H E ho h hq
  | false => unfold exec at h; simp only [ho] at h; cases h
 | range t x => exact good_range H E ho h hfr
 | call c => cases hb : c.callee with
  | builtin b => exact good_builtin H E ho hb h hfr hq
  | _ => unfold exec at h; obtain ⟨callee, args, tys⟩ := c; simp only at hb; subst hb; simp only [ho] at h; cases h
 | _ => unfold exec at h; simp only [ho] at h; cases h
end
end Go.DI
namespace Go.DI
open Go Go.RowKit
variable [Tabs]

theorem refsTs_mem {nm : Nat} {v : TV} : ∀ {l : List TV}, v ∈ l -> nm ∈ refsT v -> nm ∈ refsTs l
 | [], h, _ => by cases h
 | t :: ts, h, hn => by
  rw [refsTs]
  rcases List.mem_cons.1 h with rfl | h
  ·exact List.mem_append_left _ hn
  ·exact List.mem_append_right _ (refsTs_mem h hn)

section
variable {P : Program} {obs obs2 : Obs} {env env2 : Env} {o : Oper} {sup : Option Sup} {e : Eff}

theorem datOf_congr {c : Cl} (h : ∀ nm ∈ refsC [c], lookO obs2 nm = lookO obs nm) : datOf obs2 c = datOf obs c := by
 cases c with
 | own nm => simp only [datOf, h nm (by simp [refsC])]
 | _ => rfl
theorem datsOf_congr : ∀ {cs : List Cl}, (∀ nm ∈ refsC cs, lookO obs2 nm = lookO obs nm) -> datsOf obs2 cs = datsOf obs cs
 | [], _ => rfl
 | c :: cs, h => by
  rw [refsC_cons] at h
  simp only [datsOf, datOf_congr fun nm hn => h nm (List.mem_append_left _ hn), datsOf_congr fun nm hn => h nm (List.mem_append_right _ hn)]
theorem rowsIn_congr : ∀ {cs : List Cl}, (∀ nm ∈ refsC cs, lookO obs2 nm = lookO obs nm) -> rowsIn obs2 cs = rowsIn obs cs
 | [], _ => rfl
 | c :: cs, h => by
  rw [refsC_cons] at h
  have ih := rowsIn_congr fun nm hn => h nm (List.mem_append_right _ hn)
  cases c with
  | own nm => simp only [rowsIn, h nm (by simp [refsC]), ih]
  | _ => exact ih
theorem isWin_congr : ∀ {cs : List Cl}, (∀ nm ∈ refsC cs, lookO obs2 nm = lookO obs nm) -> isWin obs2 cs = isWin obs cs
 | [], _ => rfl
 | c :: cs, h => by
  rw [refsC_cons] at h
  have ih := isWin_congr fun nm hn => h nm (List.mem_append_right _ hn)
  cases c with
  | own nm => simp only [isWin, h nm (by simp [refsC]), ih]
  | _ => exact ih
theorem partsL_congr {sz : Nat} : ∀ {l : List (Nat × TV)} {i : Nat}, (∀ nm ∈ refsTs (l.map (·.2)), lookO obs2 nm = lookO obs nm) -> partsL sz obs2 i l = partsL sz obs i l
 | [], _, _ => rfl
 | (j, v) :: l, i, h => by
  rw [List.map_cons, refsTs] at h
  have ih := partsL_congr (sz := sz) (l := l) (i := i + 1) fun nm hn => h nm (List.mem_append_right _ hn)
  simp only [partsL, ih]
  cases hc : cellsOf v with
  | none => rfl
  | some cs => simp only [datsOf_congr (cs := cs) fun nm hn => h nm (List.mem_append_left _ (by rw [<- cells_refs hc]; exact hn))]
theorem partRows_congr : ∀ {l : List (Nat × TV)}, (∀ nm ∈ refsTs (l.map (·.2)), lookO obs2 nm = lookO obs nm) -> partRows obs2 l = partRows obs l
 | [], _ => rfl
 | (j, v) :: l, h => by
  rw [List.map_cons, refsTs] at h
  have ih := partRows_congr (l := l) fun nm hn => h nm (List.mem_append_right _ hn)
  simp only [partRows, ih]
  cases hc : cellsOf v with
  | none => rfl
  | some cs => simp only [rowsIn_congr (cs := cs) fun nm hn => h nm (List.mem_append_left _ (by rw [<- cells_refs hc]; exact hn))]
theorem partWin_congr : ∀ {l : List (Nat × TV)}, (∀ nm ∈ refsTs (l.map (·.2)), lookO obs2 nm = lookO obs nm) -> partWin obs2 l = partWin obs l
 | [], _ => rfl
 | (j, v) :: l, h => by
  rw [List.map_cons, refsTs] at h
  have ih := partWin_congr (l := l) fun nm hn => h nm (List.mem_append_right _ hn)
  simp only [partWin, ih]
  cases hc : cellsOf v with
  | none => rfl
  | some cs => simp only [isWin_congr (cs := cs) fun nm hn => h nm (List.mem_append_left _ (by rw [<- cells_refs hc]; exact hn))]
theorem bytesIn_congr {v : TV} (h : ∀ nm ∈ refsT v, lookO obs2 nm = lookO obs nm) : bytesIn obs2 v = bytesIn obs v := by
 cases v with
 | c c =>
  rw [refsT] at h
  cases c with
  | own nm => simp only [bytesIn, h nm (by simp [refsC])]
  | vw nm off len => simp only [bytesIn, h nm (by simp [refsC])]
  | d v => cases v with
   | fro sz n get => rcases sz with _ | _ | sz <;> rfl
   | _ => rfl
  | _ => rfl
 | _ => rfl
theorem appSrc_congr {sz : Nat} {v : TV} (h : ∀ nm ∈ refsT v, lookO obs2 nm = lookO obs nm) : appSrc obs2 sz v = appSrc obs sz v := by
 cases v with
 | c c =>
  rw [refsT] at h
  cases c with
  | own nm => simp only [appSrc, h nm (by simp [refsC])]
  | d v => cases v <;> rfl
  | _ => rfl
 | _ => rfl

theorem alive_congr {v : TV} (h : ∀ nm ∈ refsT v, lookO obs2 nm = lookO obs nm) : alive obs2 v = alive obs v := by
 cases v with
 | c c =>
  rw [refsT] at h
  cases c with
  | ptr nm off => simp only [alive, h nm (by simp [refsC])]
  | _ => rfl
 | _ => rfl

theorem exec_frame (h : exec P env obs o sup = some e) (hE : ∀ x ∈ o.op.operands.toList, evalO env2 x = evalO env x) (hO : ∀ nm ∈ refsTs (o.op.operands.toList.map (evalO env)), lookO obs2 nm = lookO obs nm)
 (hD : ∀ d, o.dst = some d -> d ∈ namesO e.upd -> lookO obs2 d = lookO obs d) : exec P env2 obs2 o sup = some e := by
 have hR : ∀ x ∈ o.op.operands.toList, ∀ nm ∈ refsT (evalO env x), lookO obs2 nm = lookO obs nm := fun x hx nm hn => hO nm (refsTs_mem (List.mem_map_of_mem hx) hn)
 cases ho : o.op with
 | move x => rw [ho] at hE; unfold exec at h ⊢; simp only [ho] at h ⊢; rw [hE x (by simp [Op.operands])]; exact h
 | assign x => rw [ho] at hE; unfold exec at h ⊢; simp only [ho] at h ⊢; rw [hE x (by simp [Op.operands])]; exact h
 | pick c x y => rw [ho] at hE; unfold exec at h ⊢; simp only [ho] at h ⊢; rw [hE c (by simp [Op.operands]), hE x (by simp [Op.operands]), hE y (by simp [Op.operands])]; exact h
 | unOp op t x => rw [ho] at hE; unfold exec at h ⊢; simp only [ho] at h ⊢; rw [hE x (by simp [Op.operands])]; exact h
 | extract x i => rw [ho] at hE; unfold exec at h ⊢; simp only [ho] at h ⊢; rw [hE x (by simp [Op.operands])]; exact h
 | field t x f => rw [ho] at hE; unfold exec at h ⊢; simp only [ho] at h ⊢; rw [hE x (by simp [Op.operands])]; exact h
 | index t x i => rw [ho] at hE; unfold exec at h ⊢; simp only [ho] at h ⊢; rw [hE x (by simp [Op.operands]), hE i (by simp [Op.operands])]; exact h
 | alloc t =>
  unfold exec at h ⊢; simp only [ho] at h ⊢
  split at h
  ·rename_i d cs hd hz
   split at h
   ·rename_i hn
    cases hb : Nat.beq t Tabs.bT with
    | false =>
     rw [hb] at h
     cases h
     simp only [hD d hd (by simp [namesO]), hn, hb]
     rfl
    | true =>
     rw [hb] at h
     simp only [cond_true] at h
     split at h
     ·cases h
      simp only [hD d hd (by simp [namesO]), hn, hb]
      rfl
     ·cases h
   ·cases h
  ·cases h
 | box t x =>
  rw [ho] at hE; unfold exec at h ⊢; simp only [ho] at h ⊢; rw [hE x (by simp [Op.operands])]
  split at h
  ·rename_i d cs hd hz
   split at h
   ·rename_i hn
    cases h
    simp only [hD d hd (by simp [namesO]), hn]
   ·cases h
  ·cases h
 | range t x =>
  rw [ho] at hE; unfold exec at h ⊢; simp only [ho] at h ⊢; rw [hE x (by simp [Op.operands])]
  split at h
  ·rename_i d s hd hu hx
   split at h
   ·rename_i hn
    cases h
    simp only [hD d hd (by simp [namesO]), hn]
   ·cases h
  ·cases h
 | load t x =>
  rw [ho] at hE hR; unfold exec at h ⊢; simp only [ho] at h ⊢; rw [hE x (by simp [Op.operands])]
  have hx := hR x (by simp [Op.operands])
  generalize evalO env x = v at h hx ⊢
  split at h
  ·cases h
  ·split at h
   ·simp only [hx _ (by rw [refsT]; simp [refsC]; rfl)]; exact h
   ·exact h
   ·simp only [hx _ (by rw [refsT]; simp [refsC]; rfl)]; exact h
   ·cases h
 | nilCheck x =>
  rw [ho] at hE hR; unfold exec at h ⊢; simp only [ho] at h ⊢; rw [hE x (by simp [Op.operands])]
  have hx := hR x (by simp [Op.operands])
  generalize evalO env x = v at h hx ⊢
  split at h
  ·simp only [hx _ (by rw [refsT]; simp [refsC]; rfl)]; exact h
  ·cases h
 | fieldAddr t x f =>
  rw [ho] at hE hR; unfold exec at h ⊢; simp only [ho] at h ⊢; rw [hE x (by simp [Op.operands])]
  have hx := hR x (by simp [Op.operands])
  generalize evalO env x = v at h hx ⊢
  split at h
  ·split at h
   ·cases h
   ·rename_i hc
    rw [if_neg hc]
    split at h
    ·simp only [hx _ (by rw [refsT]; simp [refsC]; rfl)]; exact h
    ·exact h
    ·simp only [hx _ (by rw [refsT]; simp [refsC]; rfl)]; exact h
    ·cases h
  ·cases h
 | indexAddr t x i =>
  rw [ho] at hE hR; unfold exec at h ⊢; simp only [ho] at h ⊢; rw [hE x (by simp [Op.operands]), hE i (by simp [Op.operands])]
  have hx := hR x (by simp [Op.operands])
  generalize evalO env x = v at h hx ⊢
  generalize evalO env i = u at h ⊢
  split at h
  ·exact h
  ·split at h
   ·exact h
   ·simp only [hx _ (by rw [refsT]; simp [refsC]; rfl)]; exact h
   ·cases h
 | build t ps =>
  rw [ho] at hE; unfold exec at h ⊢; simp only [ho] at h ⊢
  have : (ps.toList.map fun (i, x) => (i, evalO env2 x)) = ps.toList.map fun (i, x) => (i, evalO env x) := List.map_congr_left fun p hp => by
   have := hE p.2 (by simp only [Op.operands]; exact List.mem_map_of_mem hp)
   show (p.1, evalO env2 p.2) = (p.1, evalO env p.2)
   rw [this]
  rw [this]; exact h
 | buildSlice t n ps =>
  rw [ho] at hE hO; unfold exec at h ⊢; simp only [ho] at h ⊢
  have : (ps.toList.map fun (i, x) => (i, evalO env2 x)) = ps.toList.map fun (i, x) => (i, evalO env x) := List.map_congr_left fun p hp => by
   have := hE p.2 (by simp only [Op.operands]; exact List.mem_map_of_mem hp)
   show (p.1, evalO env2 p.2) = (p.1, evalO env p.2)
   rw [this]
  rw [this]
  have hm : ∀ nm ∈ refsTs ((ps.toList.map fun (i, x) => (i, evalO env x)).map (·.2)), lookO obs2 nm = lookO obs nm := by
   have e1 : (ps.toList.map fun (i, x) => (i, evalO env x)).map (·.2) = (Op.buildSlice t n ps).operands.toList.map (evalO env) := by simp [Op.operands]
   rw [e1]; exact hO
  split at h
  ·rename_i d el n' get' hd hel
   simp only [partsL_congr hm, partRows_congr hm, partWin_congr hm]
   split at h
   ·rename_i els hpl hn
    split at h
    ·rename_i hc
     cases hw : partWin obs (ps.toList.map fun (i, x) => (i, evalO env x)) with
     | true => rw [hw] at h; cases h
     | false =>
      rw [hw] at h
      simp only [cond_false, Option.some.injEq] at h
      have hd2 := hD d hd (by rw [<- h]; simp [namesO])
      simp only [hd2, hn, hpl, if_pos hc, cond_false, Option.some.injEq]
      exact h
    ·cases h
   ·cases h
  ·cases h
 | makeSlice t l c =>
  rw [ho] at hE; unfold exec at h ⊢; simp only [ho] at h ⊢; rw [hE l (by simp [Op.operands]), hE c (by simp [Op.operands])]
  split at h
  ·rename_i d el kl lv kc cv n get hd hel hle hce
   split at h
   ·rename_i z i hz hn hi
    split at h
    ·rename_i hsz
     injection h with h
     have hd2 := hD d hd (by rw [<- h]; simp [namesO])
     simp only [hd2, hn, if_pos hsz, h, hz, hi]
    ·cases h
   ·cases h
  ·cases h
 | binOp op t x y u =>
  rw [ho] at hE hR; unfold exec at h ⊢; simp only [ho] at h ⊢; rw [hE x (by simp [Op.operands]), hE y (by simp [Op.operands])]
  have hx := hR x (by simp [Op.operands])
  rw [alive_congr hx]; exact h
 | store t x y =>
  rw [ho] at hE hR; unfold exec at h ⊢; simp only [ho] at h ⊢; rw [hE x (by simp [Op.operands]), hE y (by simp [Op.operands])]
  have hx := hR x (by simp [Op.operands])
  have hy := hR y (by simp [Op.operands])
  generalize evalO env x = v at h hx ⊢
  generalize evalO env y = v2 at h hy ⊢
  split at h
  ·rename_i nm off new hc
   simp only [hc, hx _ (by rw [refsT]; simp [refsC]; rfl)]; exact h
  ·rename_i nm el off new hc
   have hm : ∀ nm ∈ refsC new, lookO obs2 nm = lookO obs nm := by rw [cells_refs hc]; exact hy
   simp only [hc, hx _ (by rw [refsT]; simp [refsC]; rfl), datsOf_congr hm, rowsIn_congr hm, isWin_congr hm]; exact h
  ·cases h
 | convert src dst x =>
  rw [ho] at hE hR; unfold exec at h ⊢; simp only [ho] at h ⊢; rw [hE x (by simp [Op.operands])]
  have hx := hR x (by simp [Op.operands])
  generalize evalO env x = v at h hx ⊢
  split at h
  ·exact h
  ·exact h
  ·simp only [bytesIn_congr hx]; exact h
  ·rename_i el s h1 h2
   split at h
   ·rename_i d n get hd h4 h5
    split at h
    ·rename_i hn
     injection h with h
     have hd2 := hD d hd (by rw [<- h]; simp [namesO])
     simp only [hd2, hn, h]
    ·cases h
   ·cases h
  ·cases h
 | next it b =>
  rw [ho] at hE hR
  cases b with
  | false => unfold exec at h; simp only [ho] at h; cases h
  | true =>
   unfold exec at h ⊢; simp only [ho] at h ⊢; rw [hE it (by simp [Op.operands])]
   have hx := hR it (by simp [Op.operands])
   generalize evalO env it = v at h hx ⊢
   split at h
   ·simp only [hx _ (by rw [refsT]; simp [refsC]; rfl)]; exact h
   ·cases h
 | slice t x lo hi mx =>
  rw [ho] at hE hR; unfold exec at h ⊢; simp only [ho] at h ⊢
  have hl : lo.map (evalO env2) = lo.map (evalO env) := by cases lo with
   | none => rfl
   | some lo => simp only [Option.map_some]; rw [hE lo (by simp [Op.operands])]
  have hh : hi.map (evalO env2) = hi.map (evalO env) := by cases hi with
   | none => rfl
   | some hi => simp only [Option.map_some]; rw [hE hi (by simp [Op.operands])]
  rw [hE x (by simp [Op.operands]), hl, hh]
  have hx := hR x (by simp [Op.operands])
  generalize evalO env x = v at h hx ⊢
  split at h
  ·exact h
  ·exact h
  ·rename_i el nm hu hmx
   simp only [hx _ (by rw [refsT]; simp [refsC]; rfl)]
   split at h
   ·split at h
    ·rename_i hc
     rw [if_pos hc]
     split at h
     ·exact h
     ·exact h
     ·split at h
      ·rename_i d hd _
       split at h
       ·rename_i hn
        injection h with h
        have hd2 := hD d hd (by rw [<- h]; simp [namesO])
        simp only [hd2, hn, h]
       ·cases h
      ·cases h
     ·cases h
    ·cases h
   ·cases h
  ·cases h
 | call c =>
  cases hb : c.callee with
  | builtin b =>
   obtain ⟨callee, args, tys⟩ := c
   simp only at hb
   subst hb
   rw [ho] at hE hR
   have ha : args.toList.map (evalO env2) = args.toList.map (evalO env) := List.map_congr_left fun x hx => hE x (by simp [Op.operands, Call.operands]; exact Array.mem_toList_iff.1 hx)
   have hm : ∀ v ∈ args.toList.map (evalO env), ∀ nm ∈ refsT v, lookO obs2 nm = lookO obs nm := fun v hv nm hn => by
    obtain ⟨x, hx, rfl⟩ := List.mem_map.1 hv
    exact hR x (by simp [Op.operands, Call.operands]; exact Array.mem_toList_iff.1 hx) nm hn
   unfold exec at h ⊢
   simp only [ho] at h ⊢
   rw [ha]
   generalize args.toList.map (evalO env) = vs at h hm ⊢
   split at h
   ·exact h
   ·exact h
   ·simp only [hm _ (by simp; rfl) _ (by rw [refsT]; simp [refsC]; rfl)]; exact h
   ·exact h
   ·exact h
   ·exact h
   ·rename_i s x t t' ht
    simp only [appSrc_congr (hm x (by simp))]
    split at h
    ·rename_i d el n' get' hd hel
     split at h
     ·rename_i inf hi hn
      split at h
      ·rename_i hc
       split at h
       ·rename_i m g rd hs
        injection h with h
        have hd2 := hD d hd (by rw [<- h]; simp [namesO])
        simp only [hd2, hn, hi, if_pos hc, hs, h]
       ·rename_i nm m g rd hs
        split at h
        ·rename_i e' sz len get hob
         split at h
         ·rename_i hc2
          injection h with h
          have hd2 := hD d hd (by rw [<- h]; simp [namesO])
          have hnm := hm (.c (.own nm)) (by simp) nm (by rw [refsT]; simp [refsC])
          simp only [hd2, hn, hi, if_pos hc, hs, hnm, hob, if_pos hc2, h]
         ·cases h
        ·cases h
       ·cases h
      ·cases h
     ·cases h
    ·cases h
   ·cases h
  | _ => unfold exec at h; obtain ⟨callee, args, tys⟩ := c; simp only at hb; subst hb; simp only [ho] at h; cases h
 | _ => unfold exec at h; simp only [ho] at h; cases h
end
end Go.DI
namespace Go.DI
open Go Go.RowKit
variable [Tabs]

section
variable {w w' : World} {F F' : Nat -> Prop} {β β' : Nat -> Option (Nat × Nat)} {γ γ' : Nat -> Option Nat} {ob ob' lent bk : Nat -> Option Ob}

inductive LinkOk (ob : Nat -> Option Ob) (nm off : Nat) : Ob -> Prop
 | box (cs : List Cl) : ob nm = some (.box cs) -> off = 0 -> dataOnly cs = true -> LinkOk ob nm off (.box cs)
 | bld (s : ByteArray) : ob nm = some (.bld s) -> off = 0 -> LinkOk ob nm off (.bld s)
 | own (e sz n : Nat) (get : Nat -> List Dat) : ob nm = some (.row .own e sz n get) -> off = 0 -> LinkOk ob nm off (.row .own e sz n get)
 | win (k : RK) (e sz n : Nat) (get : Nat -> List Dat) (len : Nat) (g : Nat -> List Dat) : ob nm = some (.row k e sz n get) -> k ≠ .frz -> off + len <= n -> Same len g (fun j => get (j + off)) -> LinkOk ob nm off (.row .win e sz len g)

inductive BackOk (ob : Nat -> Option Ob) (nm off : Nat) (lj bj : Option Ob) : Option Ob -> Prop
 | box (cs cs' : List Cl) : ob nm = some (.box cs) -> lj = some (.box cs) -> off = 0 -> bj = some (.box cs') -> dataOnly cs' = true -> BackOk ob nm off lj bj (some (.box cs'))
 | bld (s s' : ByteArray) : ob nm = some (.bld s) -> lj = some (.bld s) -> off = 0 -> bj = some (.bld s') -> BackOk ob nm off lj bj (some (.bld s'))
 | gone (e sz n : Nat) (get : Nat -> List Dat) : ob nm = some (.row .own e sz n get) -> lj = some (.row .own e sz n get) -> off = 0 -> BackOk ob nm off lj bj none
 | row (k : RK) (e sz n : Nat) (get : Nat -> List Dat) (e2 e3 len : Nat) (get' g g0 : Nat -> List Dat) : ob nm = some (.row k e sz n get) -> k ≠ .frz -> lj = some (.row .win e3 sz len g0) -> off + len <= n -> bj = some (.row .win e2 sz len get') ->
  Same n g (fun j => if off <= j /\ j < off + len then get' (j - off) else get j) -> BackOk ob nm off lj bj (some (.row k e sz n g))

def linkB (β : Nat -> Option (Nat × Nat)) (ob : Nat -> Option Ob) (link : Nat -> Option (Nat × Nat)) : Nat -> Option (Nat × Nat) := fun j => match link j with
 | some (nm, off) => (match β nm with
  | some (b, q) => (match ob nm with
   | some (.row _ _ sz _ _) => some (b, q + off * sz)
   | _ => some (b, q))
  | none => none)
 | none => none
def linkG (γ : Nat -> Option Nat) (link : Nat -> Option (Nat × Nat)) : Nat -> Option Nat := fun j => match link j with
 | some (nm, _) => γ nm
 | none => none

theorem csrel_data_any {cs : List Cl} (hd : dataOnly cs = true) : ∀ {vs : List Value}, CsRel w F β ob cs vs -> CsRel w F β' ob' cs vs := by
 induction cs with
 | nil => intro vs h; cases vs <;> exact h
 | cons c cs ih =>
  intro vs h
  cases vs with
  | nil => exact h.elim
  | cons v vs => cases c <;> first | exact ⟨h.1, ih (by simpa [dataOnly] using hd) h.2⟩ | simp [dataOnly] at hd

section
variable {link : Nat -> Option (Nat × Nat)}

theorem linkB_row {j nm off : Nat} {k : RK} {e sz n : Nat} {get : Nat -> List Dat} (hl : link j = some (nm, off)) (ho : ob nm = some (.row k e sz n get)) : linkB β ob link j = match β nm with | some (b, q) => some (b, q + off * sz) | none => none := by
 simp only [linkB, hl, ho]
theorem linkB_box {j nm off : Nat} {cs : List Cl} (hl : link j = some (nm, off)) (ho : ob nm = some (.box cs)) : linkB β ob link j = β nm := by
 simp only [linkB, hl, ho]
 cases β nm <;> rfl
theorem linkB_bld {j nm off : Nat} {s : ByteArray} (hl : link j = some (nm, off)) (ho : ob nm = some (.bld s)) : linkB β ob link j = β nm := by
 simp only [linkB, hl, ho]
 cases β nm <;> rfl

theorem link_owns {j nm off b : Nat} {o : Ob} (hl : link j = some (nm, off)) (hj : lent j = some o) (hk : LinkOk ob nm off o) (h : Owns (linkB β ob link) (linkG γ link) lent j b) : Owns β γ ob nm b := by
 cases hk with
 | box cs h1 h2 h3 =>
  simp only [Owns, hj, linkB_box hl h1] at h
  simp only [Owns, h1]; exact h
 | bld s h1 h2 =>
  simp only [Owns, hj, linkB_bld hl h1, linkG, hl] at h
  simp only [Owns, h1]; exact h
 | own e sz n get h1 h2 =>
  simp only [Owns, hj, linkB_row hl h1] at h
  simp only [Owns, h1]
  cases hb : β nm with
  | none => rw [hb] at h; simp at h
  | some x =>
   obtain ⟨b', q⟩ := x
   rw [hb] at h
   simp only at h
   obtain ⟨_, h⟩ := h
   cases h
   exact ⟨q, rfl⟩
 | win k e sz n get len g h1 h2 h3 _ =>
  simp only [Owns, hj, linkB_row hl h1] at h
  have : ∃ o, β nm = some (b, o) := by
   cases hb : β nm with
   | none => rw [hb] at h; simp at h
   | some x =>
    obtain ⟨b', q⟩ := x
    rw [hb] at h
    simp only at h
    obtain ⟨_, h⟩ := h
    cases h
    exact ⟨q, rfl⟩
  cases k with
  | frz => exact absurd rfl h2
  | own => simp only [Owns, h1]; exact this
  | win => simp only [Owns, h1]; exact this

theorem heap_lent (H : Heap w F β γ ob) (hl : ∀ j o, lent j = some o -> ∃ nm off, link j = some (nm, off) /\ LinkOk ob nm off o)
 (inj : ∀ j j' nm off off', link j = some (nm, off) -> link j' = some (nm, off') -> j = j') : Heap w F (linkB β ob link) (linkG γ link) lent := by
 have some_of : ∀ j b, Owns (linkB β ob link) (linkG γ link) lent j b -> ∃ o, lent j = some o := fun j b h => by
  cases hj : lent j with
  | none => simp [Owns, hj] at h
  | some o => exact ⟨o, rfl⟩
 refine ⟨H.flt, fun j b h => ?_, fun j j' b h h' => ?_, fun j o hj => ?_⟩
 ·obtain ⟨o, hj⟩ := some_of j b h
  obtain ⟨nm, off, h1, h2⟩ := hl j o hj
  exact H.apart nm b (link_owns h1 hj h2 h)
 ·obtain ⟨o, hj⟩ := some_of j b h
  obtain ⟨o', hj'⟩ := some_of j' b h'
  obtain ⟨nm, off, h1, h2⟩ := hl j o hj
  obtain ⟨nm', off', h1', h2'⟩ := hl j' o' hj'
  have := H.excl nm nm' b (link_owns h1 hj h2 h) (link_owns h1' hj' h2' h')
  subst this
  exact inj _ _ _ _ _ h1 h1'
 ·obtain ⟨nm, off, h1, h2⟩ := hl j o hj
  cases h2 with
  | box cs g1 g2 g3 =>
   obtain ⟨b, cells, el, r1, r2, r3, r4⟩ := H.obs _ _ g1
   exact ⟨b, cells, el, by rw [linkB_box h1 g1]; exact r1, r2, csrel_data_any g3 r3, r4⟩
  | bld s g1 g2 =>
   obtain ⟨b, r1, r2⟩ := H.obs _ _ g1
   exact ⟨b, by rw [linkB_bld h1 g1]; exact r1, by simp only [linkG, h1]; exact r2⟩
  | own e sz n get g1 g2 =>
   subst g2
   rcases H.obs _ _ g1 with ⟨r1, r2⟩ | ⟨b, q, cur, e', fr, r1, r2, r3, r4, r5, r6⟩
   ·exact .inl ⟨r1, by rw [linkB_row h1 g1, r2]⟩
   ·exact .inr ⟨b, q, cur, e', fr, by rw [linkB_row h1 g1, r1]; simp, r2, r3, r4, r5, r6⟩
  | win k e sz n get len g g1 g2 g3 g4 =>
   rcases H.obs _ _ g1 with ⟨r1, r2⟩ | ⟨b, q, cur, e', fr, r1, r2, r3, r4, r5, r6⟩
   ·exact .inl ⟨by omega, by rw [linkB_row h1 g1, r2]⟩
   ·refine .inr ⟨b, q + off * sz, cur, e', fr, by rw [linkB_row h1 g1, r1], r2, ⟨?_, fun i hi => ?_⟩, fun h => (by cases h), fun _ => r5 g2, fun h => (by cases h)⟩
    ·have := r3.1
     have h5 : (off + len) * sz <= n * sz := Nat.mul_le_mul_right _ g3
     rw [Nat.add_mul] at h5
     omega
    ·obtain ⟨l1, l2⟩ := r3.2 (i + off) (by omega)
     obtain ⟨s1, s2⟩ := (g4 i hi).get
     refine ⟨s1.trans l1, fun x d hd => ?_⟩
     obtain ⟨d2, hd2, hsim⟩ := s2 x d hd
     have e1 : q + off * sz + i * sz + x = q + (i + off) * sz + x := by rw [Nat.add_mul]; omega
     rw [e1]
     obtain ⟨u, u1, u2, u3⟩ := l2 x d2 hd2
     exact ⟨u, u1, u2.sim hsim, u3⟩
end
end
end Go.DI
namespace Go.DI
open Go Go.RowKit
variable [Tabs]

section
variable {w w' : World} {F F' : Nat -> Prop} {β β' : Nat -> Option (Nat × Nat)} {γ γ' : Nat -> Option Nat} {ob ob' lent bk : Nat -> Option Ob} {link : Nat -> Option (Nat × Nat)} {inv : Nat -> Option Nat} {dn : Option Nat}

def backB (dn : Option Nat) (β β' : Nat -> Option (Nat × Nat)) : Nat -> Option (Nat × Nat) := fun t => if dn = some t then β' newName else β t
def backG (dn : Option Nat) (inv : Nat -> Option Nat) (γ γ' : Nat -> Option Nat) : Nat -> Option Nat := fun t => if dn = some t then γ' newName else match inv t with | some j => γ' j | none => γ t

theorem LinkOk.some {nm off : Nat} {o : Ob} (h : LinkOk ob nm off o) : ∃ o', ob nm = some o' := by
 cases h with
 | box _ h _ _ => exact ⟨_, h⟩
 | bld _ h _ => exact ⟨_, h⟩
 | own _ _ _ _ h _ => exact ⟨_, h⟩
 | win _ _ _ _ _ _ _ h _ _ _ => exact ⟨_, h⟩

theorem Heap.inHeap (H : Heap w F β γ ob) {nm b q : Nat} {o : Ob} (ho : ob nm = some o) (hb : β nm = some (b, q)) : b < w.heap.size := by
 cases o with
 | box c => obtain ⟨b', _, _, g1, g2, _⟩ := H.obs _ _ ho; rw [hb] at g1; cases g1; exact (Array.getElem?_eq_some_iff.1 g2).1
 | iter s p => obtain ⟨b', g1, g2⟩ := H.obs _ _ ho; rw [hb] at g1; cases g1; exact (Array.getElem?_eq_some_iff.1 g2).1
 | bld s => obtain ⟨b', g1, _, _, _, _, _, g2, _⟩ := H.obs _ _ ho; rw [hb] at g1; cases g1; exact (Array.getElem?_eq_some_iff.1 g2).1
 | row k e sz n get =>
  rcases H.obs _ _ ho with ⟨_, g1⟩ | ⟨b', _, _, _, _, g1, g2, _⟩
  ·rw [hb] at g1; cases g1
  ·rw [hb] at g1; cases g1; exact (Array.getElem?_eq_some_iff.1 g2).1

theorem back_ok (H : Heap w F β γ ob) (hl : ∀ j o, lent j = some o -> ∃ nm off, link j = some (nm, off) /\ LinkOk ob nm off o)
 (hll : ∀ j nm off, link j = some (nm, off) -> ∃ o, lent j = some o) (i1 : ∀ j nm off, link j = some (nm, off) -> inv nm = some j) (i2 : ∀ nm j, inv nm = some j -> ∃ off, link j = some (nm, off)) (hn0 : lent newName = none)
 (H' : Heap w' F' β' γ' bk) (O : Onto w F (linkB β ob link) (linkG γ link) lent w' F' β' γ' bk)
 (hd : ∀ d, dn = some d -> ob d = none /\ (∀ n cs, ob n = some (.box cs) -> d ∉ refsC cs) /\ ob' d = bk newName /\ (∀ cs, bk newName = some (.box cs) -> dataOnly cs = true))
 (same : ∀ nm, inv nm = none -> dn ≠ some nm -> ob' nm = ob nm) (back : ∀ j nm off, link j = some (nm, off) -> BackOk ob nm off (lent j) (bk j) (ob' nm)) :
 Heap w' F' (backB dn β β') (backG dn inv γ γ') ob' /\ Onto w F β γ ob w' F' (backB dn β β') (backG dn inv γ γ') ob' /\ ∀ t, dn ≠ some t -> Keeps w w' β (backB dn β β') ob ob' t := by
 have hF : ∀ b, F b -> F' b /\ w'.heap[b]? = w.heap[b]? := fun b hb => ⟨O.more b hb, O.keep b (H.flt b hb) fun j ho => by
  cases hj : lent j with
  | none => simp [Owns, hj] at ho
  | some o =>
   obtain ⟨nm, off, h1, h2⟩ := hl j o hj
   exact (H.apart nm b (link_owns h1 hj h2 ho)).1 hb⟩
 have linkOf : ∀ j nm off, link j = some (nm, off) -> ∃ o, lent j = some o /\ LinkOk ob nm off o := fun j nm off h => by
  obtain ⟨o, ho⟩ := hll j nm off h
  obtain ⟨nm', off', h1, h2⟩ := hl j o ho
  rw [h] at h1
  cases h1
  exact ⟨o, ho, h2⟩
 have lentOwns : ∀ j b, Owns (linkB β ob link) (linkG γ link) lent j b -> ∃ nm off, link j = some (nm, off) /\ Owns β γ ob nm b := fun j b ho => by
  cases hj : lent j with
  | none => simp [Owns, hj] at ho
  | some o =>
   obtain ⟨nm, off, h1, h2⟩ := hl j o hj
   exact ⟨nm, off, h1, link_owns h1 hj h2 ho⟩
 have notD : ∀ j nm off, link j = some (nm, off) -> dn ≠ some nm := fun j nm off h e => by
  obtain ⟨o, _, h2⟩ := linkOf j nm off h
  obtain ⟨o', h3⟩ := h2.some
  rw [(hd nm e).1] at h3
  cases h3
 have bB : ∀ t, dn ≠ some t -> backB dn β β' t = β t := fun t h => by simp [backB, h]
 have bD : ∀ t, dn = some t -> backB dn β β' t = β' newName := fun t h => by simp [backB, h]
 have gL : ∀ j nm off, link j = some (nm, off) -> backG dn inv γ γ' nm = γ' j := fun j nm off h => by
  simp [backG, notD j nm off h, i1 j nm off h]
 have gD : ∀ t, dn = some t -> backG dn inv γ γ' t = γ' newName := fun t h => by simp [backG, h]
 have given : ∀ b, Given (linkB β ob link) lent b -> ∃ nm e sz n get o, (∃ j off, link j = some (nm, off)) /\ ob nm = some (.row .own e sz n get) /\ β nm = some (b, o) := fun b hg => by
  obtain ⟨j, e, sz, n, get, o, h1, h2⟩ := hg
  obtain ⟨nm, off, h3, h4⟩ := hl j _ h1
  cases h4 with
  | own e sz n get g1 g2 =>
   rw [linkB_row h3 g1] at h2
   cases hb : β nm with
   | none => rw [hb] at h2; cases h2
   | some x =>
    obtain ⟨b', q⟩ := x
    rw [hb] at h2
    cases h2
    exact ⟨nm, e, sz, n, get, q, ⟨j, off, h3⟩, g1, hb⟩
 have stayB : ∀ j nm off, link j = some (nm, off) -> ∀ o, lent j = some o -> NotOwn o -> β' j = linkB β ob link j := fun j nm off h o ho hno => by
  obtain ⟨_, _, _, h3⟩ := O.stay j o ho hno
  exact h3
 let Ch : Nat -> Prop := fun nm => (∃ j off, link j = some (nm, off)) \/ dn = some nm
 have owner : ∀ nm b, Ch nm -> Owns (backB dn β β') (backG dn inv γ γ') ob' nm b -> ∃ j, ((∃ off, link j = some (nm, off)) \/ (dn = some nm /\ j = newName)) /\ Owns β' γ' bk j b := fun nm b hc ho => by
  rcases hc with ⟨j, off, h⟩ | h
  ·have hb := back j nm off h
   have hnd := notD j nm off h
   generalize hob' : ob' nm = x at hb
   refine ⟨j, .inl ⟨off, h⟩, ?_⟩
   cases hb with
   | box cs cs' g1 g2 g3 g4 g5 =>
    have hB := (stayB j nm off h _ g2 (by intro _ _ _ _ h; cases h)).trans (linkB_box h g1)
    simp only [Owns, hob', bB nm hnd] at ho
    simp only [Owns, g4, hB]; exact ho
   | bld s s' g1 g2 g3 g4 =>
    have hB := (stayB j nm off h _ g2 (by intro _ _ _ _ h; cases h)).trans (linkB_bld h g1)
    simp only [Owns, hob', bB nm hnd, gL j nm off h] at ho
    simp only [Owns, g4, hB]; exact ho
   | gone e sz n get g1 g2 g3 => simp [Owns, hob'] at ho
   | row k e sz n get e2 e3 len get' g g0 g1 g2 g3 g4 g5 g6 =>
    have hB := (stayB j nm off h _ g3 (by intro _ _ _ _ h; cases h)).trans (linkB_row h g1)
    have ho1 : ∃ o, β nm = some (b, o) := by
     cases k with
     | frz => exact absurd rfl g2
     | own => simpa only [Owns, hob', bB nm hnd] using ho
     | win => simpa only [Owns, hob', bB nm hnd] using ho
    obtain ⟨q, hq⟩ := ho1
    rw [hq] at hB
    simp only [Owns, g5, hB]
    exact ⟨_, rfl⟩
  ·refine ⟨newName, .inr ⟨h, rfl⟩, ?_⟩
   obtain ⟨_, _, h3, _⟩ := hd nm h
   simp only [Owns, h3, bD nm h, gD nm h] at ho
   simp only [Owns]
   exact ho
 have fromL : ∀ nm j b, ((∃ off, link j = some (nm, off)) \/ (dn = some nm /\ j = newName)) -> Owns β' γ' bk j b -> Owns β γ ob nm b \/ w.heap.size <= b \/ ∃ nm0 e sz n get o, Ch nm0 /\ ob nm0 = some (.row .own e sz n get) /\ β nm0 = some (b, o) := fun nm j b hj ho => by
  rcases O.from_ j b ho with h | h | h
  ·obtain ⟨nm2, off2, h1, h2⟩ := lentOwns j b h
   rcases hj with ⟨off, h3⟩ | ⟨_, rfl⟩
   ·rw [h3] at h1; cases h1; exact .inl h2
   ·obtain ⟨o, h4, _⟩ := linkOf _ _ _ h1
    rw [hn0] at h4; cases h4
  ·exact .inr (.inl h)
  ·obtain ⟨nm2, e, sz, n, get, o, hc, h1, h2⟩ := given b h
   exact .inr (.inr ⟨nm2, e, sz, n, get, o, .inl hc, h1, h2⟩)
 have keepL : ∀ j nm off, link j = some (nm, off) -> Keeps w w' β (backB dn β β') ob ob' nm := fun j nm off h => by
  have hb := back j nm off h
  have hnd := notD j nm off h
  intro o' ho'
  have sizes : ∀ o0, ob nm = some o0 -> ∀ b q, β nm = some (b, q) -> ∀ cur e fr, w'.heap[b]? = some (.cells cur e fr) -> ∃ cur0 e0 fr0, w.heap[b]? = some (.cells cur0 e0 fr0) /\ cur0.size = cur.size := fun o0 h0 b q hq cur e fr hh => by
   obtain ⟨cur0, fr0, h1, h2⟩ := O.shape b (H.inHeap h0 hq) cur e fr hh
   exact ⟨cur0, e, fr0, h1, h2⟩
  rw [ho'] at hb
  cases hb with
  | box cs cs' g1 g2 g3 g4 g5 => exact ⟨_, g1, trivial, bB nm hnd, sizes _ g1⟩
  | bld s s' g1 g2 g3 g4 => exact ⟨_, g1, trivial, bB nm hnd, sizes _ g1⟩
  | row k e sz n get e2 e3 len get' g g0 g1 g2 g3 g4 g5 g6 => exact ⟨_, g1, ⟨rfl, rfl, fun h => h⟩, bB nm hnd, sizes _ g1⟩
 have S := step (w' := w') (F' := F') (β' := backB dn β β') (γ' := backG dn inv γ γ') (ob' := ob') H Ch O.os O.tape O.output O.size
  (fun b hb hno => O.keep b hb fun j ho => by
   obtain ⟨nm, off, h1, h2⟩ := lentOwns j b ho
   exact hno nm (.inl ⟨j, off, h1⟩) h2)
  (fun nm hn => by
   have hnd : dn ≠ some nm := fun e => hn (.inr e)
   have hni : inv nm = none := by
    cases hi : inv nm with
    | none => rfl
    | some j =>
     obtain ⟨off, h⟩ := i2 nm j hi
     exact absurd (.inl ⟨j, off, h⟩) hn
   exact ⟨same nm hni hnd, bB nm hnd, by simp [backG, hnd, hni]⟩)
  O.more
  (fun b hb => by
   rcases O.new b hb with h | h | h
   ·exact .inl h
   ·exact .inr (.inl ⟨h, H'.flt b hb⟩)
   ·obtain ⟨nm2, e, sz, n, get, o, hc, h1, h2⟩ := given b h
    exact .inr (.inr ⟨nm2, e, sz, n, get, o, .inl hc, h1, h2⟩))
  (fun nm b hc ho => by
   obtain ⟨j, h1, h2⟩ := owner nm b hc ho
   exact fromL nm j b h1 h2)
  (fun nm b hc ho => by
   obtain ⟨j, h1, h2⟩ := owner nm b hc ho
   have := H'.apart j b h2
   exact ⟨this.2, this.1⟩)
  (fun nm nm' b hc hc' ho ho' => by
   obtain ⟨j, h1, h2⟩ := owner nm b hc ho
   obtain ⟨j', h1', h2'⟩ := owner nm' b hc' ho'
   have := H'.excl j j' b h2 h2'
   subst this
   have noNew : ∀ nm off, link newName ≠ some (nm, off) := fun nm off h => by
    obtain ⟨o, h4, _⟩ := linkOf _ _ _ h
    rw [hn0] at h4; cases h4
   rcases h1 with ⟨off, h1⟩ | ⟨h1, rfl⟩
   ·rcases h1' with ⟨off', h1'⟩ | ⟨h1', rfl⟩
    ·rw [h1] at h1'; cases h1'; rfl
    ·exact absurd h1 (noNew _ _)
   ·rcases h1' with ⟨off', h1'⟩ | ⟨h1', _⟩
    ·exact absurd h1' (noNew _ _)
    ·rw [h1] at h1'; cases h1'; rfl)
  (fun nm b q e sz n get hc h1 h2 => by
   rcases hc with ⟨j, off, h⟩ | h
   ·have hb := back j nm off h
    rw [bB nm (notD j nm off h)] at h2
    rw [h1] at hb
    cases hb with
    | row k e sz n get e2 e3 len get' g g0 g1 g2 g3 g4 g5 g6 => exact .inr ⟨nm, _, _, _, _, q, g1, h2⟩
   ·obtain ⟨_, _, h3, _⟩ := hd nm h
    rw [bD nm h] at h2
    rw [h3] at h1
    rcases O.own newName b q e sz n get h1 h2 with h4 | h4
    ·exact .inl h4
    ·obtain ⟨nm2, e, sz, n, get, o, _, h5, h6⟩ := given b h4
     exact .inr ⟨nm2, e, sz, n, get, o, h5, h6⟩)
  (fun nm o0 hc h0 hno => by
   rcases hc with ⟨j, off, h⟩ | h
   ·have hb := back j nm off h
    have hB := bB nm (notD j nm off h)
    generalize hob' : ob' nm = x at hb
    cases hb with
    | box cs cs' g1 g2 g3 g4 g5 => rw [h0] at g1; cases g1; exact ⟨_, rfl, trivial, hB⟩
    | bld s s' g1 g2 g3 g4 => rw [h0] at g1; cases g1; exact ⟨_, rfl, trivial, hB⟩
    | gone e sz n get g1 g2 g3 => rw [h0] at g1; cases g1; exact absurd rfl (hno _ _ _ _)
    | row k e sz n get e2 e3 len get' g g0 g1 g2 g3 g4 g5 g6 =>
     rw [h0] at g1
     cases g1
     cases k with
     | own => exact absurd rfl (hno _ _ _ _)
     | win => exact ⟨_, rfl, ⟨rfl, rfl⟩, hB⟩
     | frz => exact absurd rfl g2
   ·rw [(hd nm h).1] at h0; cases h0)
  (fun nm b hc ho cur e fr hh => O.shape b (H.apart nm b ho).2 cur e fr hh)
  (fun nm e sz n get b q hc h0 hq cur0 e0 fr0 cur e1 fr h1 h2 i hi => by
   rcases hc with ⟨j, off, h⟩ | h
   ·obtain ⟨o, hlo, hlk⟩ := linkOf j nm off h
    cases hlk with
    | box cs g1 g2 g3 => rw [h0] at g1; cases g1
    | bld s g1 g2 => rw [h0] at g1; cases g1
    | own e sz n get g1 g2 => rw [h0] at g1; cases g1
    | win k e sz n get len g g1 g2 g3 g4 =>
     rw [h0] at g1
     cases g1
     have hB := linkB_row (β := β) h h0
     rw [hq] at hB
     have hle : (off + len) * sz <= n * sz := Nat.mul_le_mul_right _ g3
     rw [Nat.add_mul] at hle
     exact O.out j _ _ _ _ b _ hlo hB _ _ _ _ _ _ h1 h2 i (by omega)
   ·rw [(hd nm h).1] at h0; cases h0)
  (fun nm hc => by
   rcases hc with ⟨j, off, h⟩ | h
   ·exact .inl (keepL j nm off h)
   ·exact .inr fun n cs h5 _ => (hd nm h).2.1 n cs h5)
  (fun nm o hc ho => by
   rcases hc with ⟨j, off, h⟩ | h
   ·have hb := back j nm off h
    have hB := bB nm (notD j nm off h)
    rw [ho] at hb
    cases hb with
    | box cs cs' g1 g2 g3 g4 g5 =>
     obtain ⟨b, cells, el, r1, r2, r3, r4⟩ := H'.obs _ _ g4
     have hs := (stayB j nm off h _ g2 (by intro _ _ _ _ h; cases h)).trans (linkB_box h g1)
     exact ⟨b, cells, el, by rw [hB, <- hs]; exact r1, r2, csrel_data_any g5 r3, r4⟩
    | bld s s' g1 g2 g3 g4 =>
     obtain ⟨b, r1, r2⟩ := H'.obs _ _ g4
     have hs := (stayB j nm off h _ g2 (by intro _ _ _ _ h; cases h)).trans (linkB_bld h g1)
     exact ⟨b, by rw [hB, <- hs]; exact r1, by rw [gL j nm off h]; exact r2⟩
    | row k e sz n get e2 e3 len get' g g0 g1 g2 g3 g4 g5 g6 =>
     have hs := (stayB j nm off h _ g3 (by intro _ _ _ _ h; cases h)).trans (linkB_row h g1)
     rcases H.obs _ _ g1 with ⟨r1, r2⟩ | ⟨b, q, cur0, e0, fr0, r1, r2, r3, r4, r5, r6⟩
     ·exact .inl ⟨r1, hB.trans r2⟩
     ·rw [r1] at hs
      rcases H'.obs _ _ g5 with ⟨s1, s2⟩ | ⟨b', q', cur', e', fr', s1, s2, s3, s4, s5, s6⟩
      ·rw [hs] at s2; cases s2
      ·rw [hs] at s1
       cases s1
       obtain ⟨cur1, fr1, t1, t2⟩ := O.shape b (H.inHeap g1 r1) cur' e' fr' s2
       rw [r2] at t1
       cases t1
       have hout := fun i hi => O.out j _ _ _ _ b _ g3 (by rw [linkB_row h g1, r1]) _ _ _ _ _ _ r2 s2 i hi
       have hle : (off + len) * sz <= n * sz := Nat.mul_le_mul_right _ g4
       rw [Nat.add_mul] at hle
       refine .inr ⟨b, q, cur', _, fr', hB.trans r1, s2, ⟨by have := r3.1; omega, fun i hi => ?_⟩, fun hk => ?_, fun _ => s5 (by intro h; cases h), fun hk => absurd hk g2⟩
       ·obtain ⟨l1, l2⟩ := (g6 i hi).get
        by_cases hin : off <= i /\ i < off + len
        ·simp only [if_pos hin] at l1 l2
         obtain ⟨m1, m2⟩ := s3.2 (i - off) (by omega)
         refine ⟨l1.trans m1, fun x d hd => ?_⟩
         obtain ⟨d2, hd2, hsim⟩ := l2 x d hd
         obtain ⟨u, u1, u2, u3⟩ := m2 x d2 hd2
         refine ⟨u, ?_, u2.sim hsim, u3⟩
         have e1 : q + off * sz + (i - off) * sz + x = q + i * sz + x := by
          have : i * sz = off * sz + (i - off) * sz := by rw [<- Nat.add_mul]; congr 1; omega
          omega
         rw [<- e1]; exact u1
        ·simp only [if_neg hin] at l1 l2
         obtain ⟨m1, m2⟩ := r3.2 i hi
         refine ⟨l1.trans m1, fun x d hd => ?_⟩
         obtain ⟨d2, hd2, hsim⟩ := l2 x d hd
         obtain ⟨u, u1, u2, u3⟩ := m2 x d2 hd2
         refine ⟨u, ?_, (u2.mono hF).sim hsim, u3⟩
         have hx : x < sz := by
          have := (List.getElem?_eq_some_iff.1 hd2).1
          omega
         rw [hout]
         ·exact u1
         ·by_cases c : i < off
          ·left
           have : (i + 1) * sz <= off * sz := Nat.mul_le_mul_right _ c
           rw [Nat.add_mul, Nat.one_mul] at this
           omega
          ·right
           have : (off + len) * sz <= i * sz := Nat.mul_le_mul_right _ (by omega)
           rw [Nat.add_mul] at this
           omega
       ·obtain ⟨k1, k2, k3⟩ := r4 hk
        exact ⟨k1, k2, by rw [<- t2]; exact k3⟩
   ·obtain ⟨_, _, h3, h4⟩ := hd nm h
    have hB := bD nm h
    have hG := gD nm h
    rw [h3] at ho
    have hr := H'.obs _ _ ho
    cases o with
    | box cs =>
     obtain ⟨b, cells, el, r1, r2, r3, r4⟩ := hr
     exact ⟨b, cells, el, hB.trans r1, r2, csrel_data_any (h4 cs ho) r3, r4⟩
    | row k e sz n get =>
     rcases hr with ⟨r1, r2⟩ | ⟨b, q, cur, e', fr, r1, r2, r3, r4, r5, r6⟩
     ·exact .inl ⟨r1, hB.trans r2⟩
     ·exact .inr ⟨b, q, cur, e', fr, hB.trans r1, r2, r3, r4, r5, r6⟩
    | iter s p =>
     obtain ⟨b, r1, r2⟩ := hr
     exact ⟨b, hB.trans r1, r2⟩
    | bld s =>
     obtain ⟨b, r1, r2⟩ := hr
     exact ⟨b, hB.trans r1, by rw [hG]; exact r2⟩)
 refine ⟨S.1, S.2.1, fun t ht => ?_⟩
 by_cases hc : ∃ j off, link j = some (t, off)
 ·obtain ⟨j, off, h⟩ := hc
  exact keepL j t off h
 ·exact S.2.2 t fun h => h.elim hc ht
end
end Go.DI
namespace Go.DI
open Go Go.RowKit
variable [Tabs]

section
variable {obs back : Obs}

inductive Lnd (obs back : Obs) (i : Nat) : TV -> TV -> Ob -> Nat -> Nat -> Option Ob -> Prop
 | box (nm : Nat) (cs cs' : List Cl) : lookO obs nm = some (.box cs) -> dataOnly cs = true -> lookO back i = some (.box cs') -> dataOnly cs' = true -> Lnd obs back i (.c (.ptr nm 0)) (.c (.ptr i 0)) (.box cs) nm 0 (some (.box cs'))
 | bld (nm : Nat) (s s' : ByteArray) : lookO obs nm = some (.bld s) -> lookO back i = some (.bld s') -> Lnd obs back i (.c (.ptr nm 0)) (.c (.ptr i 0)) (.bld s) nm 0 (some (.bld s'))
 | gone (nm e sz n : Nat) (get : Nat -> List Dat) : lookO obs nm = some (.row .own e sz n get) -> lookO back i = none -> Lnd obs back i (.c (.own nm)) (.c (.own i)) (.row .own e sz n get) nm 0 none
 | own (nm : Nat) (k : RK) (e sz n e2 : Nat) (get get' : Nat -> List Dat) : lookO obs nm = some (.row k e sz n get) -> k ≠ .frz -> lookO back i = some (.row .win e2 sz n get') -> Lnd obs back i (.c (.own nm)) (.c (.own i)) (.row .win e sz n get) nm 0 (some (.row k e sz n get'))
 | vw (nm off len : Nat) (k : RK) (e sz n e2 : Nat) (get get' g gl : Nat -> List Dat) : lookO obs nm = some (.row k e sz n get) -> k ≠ .frz -> lookO back i = some (.row .win e2 sz len get') ->
  Same n g (fun j => if off <= j /\ j < off + len then get' (j - off) else get j) -> Same len gl (fun j => get (j + off)) -> Lnd obs back i (.c (.vw nm off len)) (.c (.own i)) (.row .win e sz len gl) nm off (some (.row k e sz n g))

inductive Prep (obs : Obs) (exp : List (Nat × TV)) (lend : List Nat) (back : Obs) : Nat -> List TV -> List TV -> Obs -> Obs -> List Nat -> Obs -> Prop
 | nil (i : Nat) : i < newName -> Prep obs exp lend back i [] [] [] [] [] []
 | lend (i : Nat) (a a' : TV) (r as : List TV) (lent upd : Obs) (nms : List Nat) (u : Obs) (o : Ob) (nm off : Nat) (x : Option Ob) : Lnd obs back i a a' o nm off x -> nm ∉ nms -> Prep obs exp lend back (i + 1) r as lent upd nms u ->
  Prep obs exp lend back i (a :: r) (a' :: as) ((i, some o) :: lent) upd (nm :: nms) ((nm, x) :: u)
 | data (i : Nat) (a a' : TV) (r as : List TV) (lent upd u0 : Obs) (nms : List Nat) (u : Obs) : frz obs (emptyT a (lookA i exp)) = some (a', u0) -> Prep obs exp lend back (i + 1) r as lent upd nms u ->
  Prep obs exp lend back i (a :: r) (keepT a (lookA i exp) a' :: as) lent (u0 ++ upd) nms u

theorem prep_of {exp : List (Nat × TV)} {lend : List Nat} {full : List (Nat × Nat × (Nat -> List Dat))} : ∀ {r : List TV} {i : Nat} {as : List TV} {lent upd : Obs} {nms : List Nat} {u : Obs} {ps : List Prop},
 prep obs exp lend back full i r = some (as, lent, upd, nms) -> takeBack obs back full lend i r = some (u, ps) -> (∀ p ∈ ps, p) -> Prep obs exp lend back i r as lent upd nms u
 | [], i, as, lent, upd, nms, u, ps, h, ht, hp => by
  simp only [prep] at h
  simp only [takeBack, Option.some.injEq, Prod.mk.injEq] at ht
  cases hb : Nat.blt i newName with
  | false => rw [hb] at h; cases h
  | true =>
   rw [hb] at h
   simp only [cond_true, Option.some.injEq, Prod.mk.injEq] at h
   obtain ⟨rfl, rfl, rfl, rfl⟩ := h
   obtain ⟨rfl, rfl⟩ := ht
   exact .nil i (by simpa [Nat.blt_eq] using hb)
 | a :: r, i, as, lent, upd, nms, u, ps, h, ht, hp => by
  simp only [prep] at h
  simp only [takeBack] at ht
  cases hr : prep obs exp lend back full (i + 1) r with
  | none => rw [hr] at h; cases h
  | some q =>
   obtain ⟨as1, lent1, upd1, nms1⟩ := q
   rw [hr] at h
   simp only at h
   cases htr : takeBack obs back full lend (i + 1) r with
   | none => rw [htr] at ht; cases ht
   | some q =>
    obtain ⟨u1, ps1⟩ := q
    rw [htr] at ht
    simp only at ht
    cases hl : hasN i lend with
    | false =>
     rw [hl] at h ht
     simp only [cond_false, Option.some.injEq, Prod.mk.injEq] at h ht
     obtain ⟨rfl, rfl⟩ := ht
     split at h
     ·rename_i a' u0 hf
      simp only [Option.some.injEq, Prod.mk.injEq] at h
      obtain ⟨rfl, rfl, rfl, rfl⟩ := h
      exact .data i a a' r as1 _ upd1 u0 _ _ hf (prep_of hr htr hp)
     ·cases h
    | true =>
     rw [hl] at h ht
     simp only [cond_true] at h ht
     have fresh : ∀ {nm : Nat} {α : Type} {x : Option α} {y : α}, (bif hasN nm nms1 then none else x) = some y -> nm ∉ nms1 /\ x = some y := fun {nm α x y} h => by
      cases hn : hasN nm nms1 with
      | true => rw [hn] at h; cases h
      | false =>
       rw [hn] at h
       exact ⟨fun hm => (by rw [hasN_mem.2 hm] at hn; cases hn), h⟩
     split at h
     ·rename_i nm
      obtain ⟨hnm, h⟩ := fresh h
      simp only at ht
      split at h
      ·rename_i cs ho
       cases hd : dataOnly cs with
       | false => rw [hd] at h; cases h
       | true =>
        rw [hd] at h
        simp only [cond_true, Option.some.injEq, Prod.mk.injEq] at h
        obtain ⟨rfl, rfl, rfl, rfl⟩ := h
        rw [ho] at ht
        split at ht
        ·rename_i cs0 cs' e1 hb
         cases e1
         cases hd' : dataOnly cs' with
         | false => rw [hd'] at ht; cases ht
         | true =>
          rw [hd'] at ht
          simp only [cond_true] at ht
          split at ht
          ·simp only [Option.some.injEq, Prod.mk.injEq] at ht
           obtain ⟨rfl, rfl⟩ := ht
           exact .lend i _ _ r as1 _ _ _ _ _ nm 0 _ (.box nm cs cs' ho hd hb hd') hnm (prep_of hr htr hp)
          ·cases ht
        ·rename_i e1 _; cases e1
        ·cases ht
      ·rename_i s ho
       simp only [Option.some.injEq, Prod.mk.injEq] at h
       obtain ⟨rfl, rfl, rfl, rfl⟩ := h
       rw [ho] at ht
       split at ht
       ·rename_i e1 _; cases e1
       ·rename_i s0 s' e1 hb
        cases e1
        simp only [Option.some.injEq, Prod.mk.injEq] at ht
        obtain ⟨rfl, rfl⟩ := ht
        exact .lend i _ _ r as1 _ _ _ _ _ nm 0 _ (.bld nm s s' ho hb) hnm (prep_of hr htr hp)
       ·cases ht
      ·cases h
     ·rename_i nm
      obtain ⟨hnm, h⟩ := fresh h
      simp only at ht
      split at h
      ·rename_i e sz n get ho
       rw [ho] at ht
       cases hb : lookO back i with
       | none =>
        rw [hb] at h ht
        simp only [Option.some.injEq, Prod.mk.injEq] at h ht
        obtain ⟨rfl, rfl, rfl, rfl⟩ := h
        obtain ⟨rfl, rfl⟩ := ht
        exact .lend i _ _ r as1 _ _ _ _ _ nm 0 _ (.gone nm e sz n get ho hb) hnm (prep_of hr htr hp)
       | some x =>
        rw [hb] at h ht
        simp only [Option.some.injEq, Prod.mk.injEq] at h
        obtain ⟨rfl, rfl, rfl, rfl⟩ := h
        split at ht
        ·rename_i k2 e2 sz2 n2 get2 e3 sz' len' get' e1 e4
         cases e1
         cases e4
         simp only [Option.some.injEq, Prod.mk.injEq] at ht
         obtain ⟨rfl, rfl⟩ := ht
         obtain ⟨rfl, rfl⟩ := hp _ List.mem_cons_self
         exact .lend i _ _ r as1 _ _ _ _ _ nm 0 _ (.own nm .own _ _ _ _ _ _ ho (by intro h; cases h) hb) hnm (prep_of hr htr fun p h => hp p (List.mem_cons_of_mem _ h))
        ·rename_i e1 e4; cases e4
        ·cases ht
      ·rename_i e sz n get ho
       simp only [Option.some.injEq, Prod.mk.injEq] at h
       obtain ⟨rfl, rfl, rfl, rfl⟩ := h
       rw [ho] at ht
       split at ht
       ·rename_i k2 e2 sz2 n2 get2 e3 sz' len' get' e1 hb
        cases e1
        simp only [Option.some.injEq, Prod.mk.injEq] at ht
        obtain ⟨rfl, rfl⟩ := ht
        obtain ⟨rfl, rfl⟩ := hp _ List.mem_cons_self
        exact .lend i _ _ r as1 _ _ _ _ _ nm 0 _ (.own nm .win _ _ _ _ _ _ ho (by intro h; cases h) hb) hnm (prep_of hr htr fun p h => hp p (List.mem_cons_of_mem _ h))
       ·rename_i e1 _; cases e1
       ·cases ht
      ·cases h
     ·rename_i nm off len
      obtain ⟨hnm, h⟩ := fresh h
      simp only at ht
      have vw : ∀ (k : RK) (e sz n : Nat) (get : Nat -> List Dat), k ≠ .frz -> lookO obs nm = some (.row k e sz n get) -> (match lookF (i + newName) full with
       | some (m, gl) => some (TV.c (.own i) :: as1, (i, some (Ob.row .win e sz m gl)) :: lent1, upd1, nm :: nms1)
       | none => none) = some (as, lent, upd, nms) -> Prep obs exp lend back i (.c (.vw nm off len) :: r) as lent upd nms u := fun k e sz n get hk ho h => by
       rw [ho] at ht
       cases hfm : lookF (i + newName) full with
       | none => rw [hfm] at h; cases h
       | some x =>
        obtain ⟨m, gl⟩ := x
        rw [hfm] at h ht
        simp only [Option.some.injEq, Prod.mk.injEq] at h
        obtain ⟨rfl, rfl, rfl, rfl⟩ := h
        split at ht
        ·rename_i k2 e2 sz2 n2 get2 e3 sz' len' get' n' g m2 gl2 e1 hb hf e5
         cases e1
         cases e5
         simp only [Option.some.injEq, Prod.mk.injEq] at ht
         obtain ⟨rfl, rfl⟩ := ht
         obtain ⟨rfl, rfl, rfl, hs⟩ := hp _ List.mem_cons_self
         obtain ⟨rfl, hs2⟩ := hp _ (List.mem_cons_of_mem _ List.mem_cons_self)
         exact .lend i _ _ r as1 _ _ _ _ _ nm off _ (.vw nm off _ k _ _ _ _ _ _ _ _ ho hk hb hs hs2) hnm (prep_of hr htr fun p h => hp p (List.mem_cons_of_mem _ (List.mem_cons_of_mem _ h)))
        ·cases ht
      split at h
      ·rename_i e sz n get ho
       exact vw .own e sz n get (by intro h; cases h) ho h
      ·rename_i e sz n get ho
       exact vw .win e sz n get (by intro h; cases h) ho h
      ·cases h
     ·cases h
end
end Go.DI
namespace Go.DI
open Go Go.RowKit
variable [Tabs]

structure Ent where
 j : Nat
 a : TV
 a' : TV
 o : Ob
 nm : Nat
 off : Nat
 x : Option Ob

def tcells : TV -> List Cl
 | .c c => [c]
 | .agg cs => cs
 | .tup _ => []

section
variable {P : Program} {w w' : World} {F F' : Nat -> Prop} {β β' : Nat -> Option (Nat × Nat)} {γ γ' : Nat -> Option Nat} {obs back : Obs} {exp : List (Nat × TV)} {lend : List Nat}

theorem frz_rows {t t' : TV} {u : Obs} (h : frz obs t = some (t', u)) : u = rowsIn obs (tcells t) := by
 cases t with
 | c c =>
  simp only [frz] at h
  split at h
  ·cases hw : isWin obs [c] with
   | true => rw [hw] at h; cases h
   | false => rw [hw] at h; cases h; rfl
  ·cases h
 | agg cs =>
  simp only [frz] at h
  split at h
  ·cases hw : isWin obs cs with
   | true => rw [hw] at h; cases h
   | false => rw [hw] at h; cases h; rfl
  ·cases h
 | tup ts => cases h

theorem Prep.ents {i : Nat} {r as : List TV} {lent upd : Obs} {nms : List Nat} {u : Obs} (h : Prep obs exp lend back i r as lent upd nms u) :
 ∃ (es : List Ent) (cells : List Cl), lent = es.map (fun e => (e.j, some e.o)) /\ u = es.map (fun e => (e.nm, e.x)) /\ nms = es.map (·.nm) /\ upd = rowsIn obs cells /\
  (∀ e ∈ es, Lnd obs back e.j e.a e.a' e.o e.nm e.off e.x /\ i <= e.j /\ e.j < newName /\ r[e.j - i]? = some e.a) /\ (es.map (·.j)).Nodup /\ (es.map (·.nm)).Nodup /\ i <= newName /\ as.length = r.length /\
  ∀ (k : Nat) (a : TV), r[k]? = some a -> ∃ a', as[k]? = some a' /\ ((∃ e ∈ es, e.a = a /\ e.a' = a') \/ ∃ u0 x b, a' = keepT a x b /\ frz obs (emptyT a x) = some (b, u0) /\ ∀ c ∈ tcells (emptyT a x), c ∈ cells) := by
 induction h with
 | nil i hi => exact ⟨[], [], rfl, rfl, rfl, rfl, by simp, by simp, by simp, Nat.le_of_lt hi, rfl, by simp⟩
 | lend i a a' r as lent upd nms u o nm off x hl hn hp ih =>
  obtain ⟨es, cells, rfl, rfl, rfl, h4, h5, h6, h7, h8, h9, h10⟩ := ih
  refine ⟨⟨i, a, a', o, nm, off, x⟩ :: es, cells, rfl, rfl, rfl, h4, ?_, ?_, ?_, by omega, by simp [h9], ?_⟩
  ·intro e he
   rcases List.mem_cons.1 he with rfl | he
   ·exact ⟨hl, Nat.le_refl _, by simp only; omega, by simp⟩
   ·obtain ⟨g1, g2, g3, g4⟩ := h5 e he
    refine ⟨g1, by omega, g3, ?_⟩
    have : e.j - i = (e.j - (i + 1)) + 1 := by omega
    rw [this]; simpa using g4
  ·rw [List.map_cons, List.nodup_cons]
   refine ⟨fun hm => ?_, h6⟩
   obtain ⟨e, he, hj⟩ := List.mem_map.1 hm
   have := (h5 e he).2.1
   simp only at hj
   omega
  ·rw [List.map_cons, List.nodup_cons]
   exact ⟨hn, h7⟩
  ·intro k b hk
   cases k with
   | zero =>
    simp at hk
    subst hk
    exact ⟨a', by simp, .inl ⟨_, List.mem_cons_self, rfl, rfl⟩⟩
   | succ k =>
    obtain ⟨b', g1, g2⟩ := h10 k b (by simpa using hk)
    refine ⟨b', by simpa using g1, ?_⟩
    rcases g2 with ⟨e, he, g3⟩ | g2
    ·exact .inl ⟨e, List.mem_cons_of_mem _ he, g3⟩
    ·exact .inr g2
 | data i a a' r as lent upd u0 nms u hf hp ih =>
  obtain ⟨es, cells, rfl, rfl, rfl, rfl, h5, h6, h7, h8, h9, h10⟩ := ih
  refine ⟨es, tcells (emptyT a (lookA i exp)) ++ cells, rfl, rfl, rfl, by rw [rowsIn_append, frz_rows hf], ?_, h6, h7, by omega, by simp [h9], ?_⟩
  ·intro e he
   obtain ⟨g1, g2, g3, g4⟩ := h5 e he
   refine ⟨g1, by omega, g3, ?_⟩
   have : e.j - i = (e.j - (i + 1)) + 1 := by omega
   rw [this]; simpa using g4
  ·intro k b hk
   cases k with
   | zero =>
    simp at hk
    subst hk
    exact ⟨_, by simp, .inr ⟨u0, _, a', rfl, hf, fun c hc => List.mem_append_left _ hc⟩⟩
   | succ k =>
    obtain ⟨b', g1, g2⟩ := h10 k b (by simpa using hk)
    refine ⟨b', by simpa using g1, ?_⟩
    rcases g2 with g2 | ⟨u1, x, b, g2, g3, g4⟩
    ·exact .inl g2
    ·exact .inr ⟨u1, x, b, g2, g3, fun c hc => List.mem_append_right _ (g4 c hc)⟩

theorem tsrel_get {ob : Nat -> Option Ob} : ∀ {ts : List TV} {vs : List Value}, TsRel w F β ob ts vs -> ts.length = vs.length /\ ∀ (k : Nat) t, ts[k]? = some t -> ∃ v, vs[k]? = some v /\ TRel w F β ob t v
 | [], [], _ => ⟨rfl, by simp⟩
 | [], _ :: _, h => by rw [TsRel] at h; exact h.elim; all_goals simp
 | _ :: _, [], h => by rw [TsRel] at h; exact h.elim; all_goals simp
 | t :: ts, v :: vs, h => by
  rw [TsRel] at h
  obtain ⟨i1, i2⟩ := tsrel_get h.2
  refine ⟨by simp [i1], fun k x hk => ?_⟩
  cases k with
  | zero => simp at hk; subst hk; exact ⟨v, by simp, h.1⟩
  | succ k => simpa using i2 k x (by simpa using hk)
theorem tsrel_of {ob : Nat -> Option Ob} : ∀ {ts : List TV} {vs : List Value}, ts.length = vs.length -> (∀ (k : Nat) t v, ts[k]? = some t -> vs[k]? = some v -> TRel w F β ob t v) -> TsRel w F β ob ts vs
 | [], [], _, _ => by rw [TsRel]; trivial
 | [], _ :: _, h, _ => by simp at h
 | _ :: _, [], h, _ => by simp at h
 | t :: ts, v :: vs, h, hk => by
  rw [TsRel]
  exact ⟨hk 0 t v rfl rfl, tsrel_of (by simpa using h) fun k t v h1 h2 => hk (k + 1) t v (by simpa using h1) (by simpa using h2)⟩

theorem crel_empty {ob : Nat -> Option Ob} {c t : Cl} {v : Value} (h : CRel w F β ob c v) : CRel w F β ob (emptyC c t) v := by
 unfold emptyC
 split
 ·rename_i sz n get
  cases hn : Nat.beq n 0 with
  | false => exact h
  | true =>
   have := Nat.eq_of_beq_eq_true hn
   subst this
   have hv : v = .slice none 0 0 := h
   subst hv
   exact .fro0 _ _ _ _
 ·rename_i sz n get sz' n' get'
  cases hn : Nat.beq n 0 with
  | false => exact h
  | true =>
   have := Nat.eq_of_beq_eq_true hn
   subst this
   cases hn' : Nat.beq n' 0 with
   | false => exact h
   | true =>
    have := Nat.eq_of_beq_eq_true hn'
    subst this
    exact DRel.sim (.nil _ _ _ _) h
 ·exact h
theorem csrel_empty {ob : Nat -> Option Ob} : ∀ {cs ts : List Cl} {vs : List Value}, CsRel w F β ob cs vs -> CsRel w F β ob (emptyCs cs ts) vs
 | [], _, vs, h => by unfold emptyCs; exact h
 | c :: cs, [], vs, h => by unfold emptyCs; exact h
 | c :: cs, t :: ts, [], h => h.elim
 | c :: cs, t :: ts, v :: vs, h => ⟨crel_empty h.1, csrel_empty h.2⟩
theorem trel_empty {ob : Nat -> Option Ob} {a : TV} {x : Option TV} {v : Value} (h : TRel w F β ob a v) : TRel w F β ob (emptyT a x) v := by
 unfold emptyT
 split
 ·rw [TRel] at h ⊢; exact crel_empty h
 ·rw [TRel] at h ⊢
  obtain ⟨vs, h1, h2, h3⟩ := h
  exact ⟨vs, h1, csrel_empty h2, h3⟩
 ·exact h

theorem frz_rel {F1 : Nat -> Prop} {all : List Cl} {u : Obs} {ob : Nat -> Option Ob} {β2 : Nat -> Option (Nat × Nat)} (Z : Frz w β γ obs F all u F1) {t t' : TV} {u0 : Obs} {v : Value} (h : frz obs t = some (t', u0)) (hc : ∀ c ∈ tcells t, c ∈ all) (hr : TRel w F β (lookO obs) t v) : TRel w F1 β2 ob t' v := by
 cases t with
 | c c =>
  simp only [frz] at h
  split at h
  ·rename_i d hd
   cases hw : isWin obs [c] with
   | true => rw [hw] at h; cases h
   | false =>
    rw [hw] at h
    cases h
    rw [TRel] at hr ⊢
    exact dat_of_frz Z (hc c (by simp [tcells])) hw hd hr
  ·cases h
 | agg cs =>
  simp only [frz] at h
  split at h
  ·rename_i ds hd
   cases hw : isWin obs cs with
   | true => rw [hw] at h; cases h
   | false =>
    rw [hw] at h
    cases h
    rw [TRel] at hr ⊢
    obtain ⟨vs, h1, h2, h3⟩ := hr
    exact ⟨vs, h1, csrel_data (dats_of_frz Z cs ds _ hc hw hd h2), h3⟩
  ·cases h
 | tup ts => cases h

theorem csrel_keep {F1 : Nat -> Prop} {ob ob2 : Nat -> Option Ob} {β2 : Nat -> Option (Nat × Nat)} : ∀ {cs ts ds : List Cl} {vs : List Value}, CsRel w F β ob cs vs -> CsRel w F1 β2 ob2 ds vs -> CsRel w F1 β2 ob2 (keepCs cs ts ds) vs
 | [], _, _, _, _, h => by unfold keepCs; exact h
 | _ :: _, [], _, _, _, h => by unfold keepCs; split <;> first | contradiction | exact h
 | _ :: _, _ :: _, [], _, _, h => by unfold keepCs; split <;> first | contradiction | exact h
 | _ :: _, _ :: _, _ :: _, [], h, _ => h.elim
 | c :: cs, t :: ts, d :: ds, v :: vs, h1, h2 => by
  have ih := csrel_keep (cs := cs) (ts := ts) h1.2 h2.2
  unfold keepCs
  split
  ·rename_i e1 e2 e3
   cases e1; cases e2; cases e3
   exact ⟨h1.1, ih⟩
  ·rename_i e1 e2 e3
   cases e1; cases e2; cases e3
   exact ⟨h2.1, ih⟩
  ·rename_i hx
   exact (hx _ _ _ _ _ _ rfl rfl rfl).elim
theorem trel_keep {F1 : Nat -> Prop} {ob ob2 : Nat -> Option Ob} {β2 : Nat -> Option (Nat × Nat)} {a b : TV} {x : Option TV} {v : Value} (h1 : TRel w F β ob a v) (h2 : TRel w F1 β2 ob2 b v) : TRel w F1 β2 ob2 (keepT a x b) v := by
 unfold keepT
 split
 ·rw [TRel] at h1 h2 ⊢
  obtain ⟨vs, e1, c1, _⟩ := h1
  obtain ⟨vs2, e2, c2, m2⟩ := h2
  have : vs2 = vs := by rw [e1] at e2; injection e2 with e2; exact e2.symm
  subst this
  exact ⟨vs2, e2, csrel_keep c1 c2, m2⟩
 ·exact h2

theorem lookO_map {α : Type} {es : List α} {k : α -> Nat} {f : α -> Option Ob} (hn : (es.map k).Nodup) {e : α} (he : e ∈ es) : lookO (es.map fun e => (k e, f e)) (k e) = f e := by
 induction es with
 | nil => cases he
 | cons x es ih =>
  rw [List.map_cons, List.nodup_cons] at hn
  rw [List.map_cons, lookO_cons]
  rcases List.mem_cons.1 he with rfl | he
  ·rw [if_pos rfl]
  ·have hne : ¬ k x = k e := fun e1 => hn.1 (e1 ▸ List.mem_map_of_mem he)
   rw [if_neg hne, ih hn.2 he]
theorem lookO_map_some {α : Type} {es : List α} {k : α -> Nat} {f : α -> Option Ob} {j : Nat} {o : Ob} (h : lookO (es.map fun e => (k e, f e)) j = some o) : ∃ e ∈ es, k e = j /\ f e = some o := by
 induction es with
 | nil => simp [lookO] at h
 | cons x es ih =>
  rw [List.map_cons, lookO_cons] at h
  by_cases hx : k x = j
  ·rw [if_pos hx] at h; exact ⟨x, List.mem_cons_self, hx, h⟩
  ·rw [if_neg hx] at h
   obtain ⟨e, he, h1⟩ := ih h
   exact ⟨e, List.mem_cons_of_mem _ he, h1⟩
theorem namesO_map {α : Type} {es : List α} {k : α -> Nat} {f : α -> Option Ob} : namesO (es.map fun e => (k e, f e)) = es.map k := by
 induction es with
 | nil => rfl
 | cons x es ih => rw [List.map_cons, List.map_cons, <- ih]; rfl

def linkOf (es : List Ent) (j : Nat) : Option (Nat × Nat) := (es.find? fun e => e.j == j).map fun e => (e.nm, e.off)
def invOf (es : List Ent) (nm : Nat) : Option Nat := (es.find? fun e => e.nm == nm).map (·.j)
theorem find_uniq {es : List Ent} {k : Ent -> Nat} (hn : (es.map k).Nodup) {e : Ent} (he : e ∈ es) : es.find? (fun x => k x == k e) = some e := by
 induction es with
 | nil => cases he
 | cons x es ih =>
  rw [List.map_cons, List.nodup_cons] at hn
  rcases List.mem_cons.1 he with rfl | he
  ·simp
  ·have : k x ≠ k e := fun h => hn.1 (h ▸ List.mem_map_of_mem he)
   rw [List.find?_cons, beq_false_of_ne this]
   exact ih hn.2 he
theorem linkOf_mem {es : List Ent} (hn : (es.map (·.j)).Nodup) {e : Ent} (he : e ∈ es) : linkOf es e.j = some (e.nm, e.off) := by
 unfold linkOf; rw [find_uniq (k := Ent.j) hn he]; rfl
theorem invOf_mem {es : List Ent} (hn : (es.map (·.nm)).Nodup) {e : Ent} (he : e ∈ es) : invOf es e.nm = some e.j := by
 unfold invOf; rw [find_uniq (k := Ent.nm) hn he]; rfl
theorem linkOf_some {es : List Ent} {j nm off : Nat} (h : linkOf es j = some (nm, off)) : ∃ e ∈ es, e.j = j /\ e.nm = nm /\ e.off = off := by
 unfold linkOf at h
 obtain ⟨e, h1, h2⟩ := Option.map_eq_some_iff.1 h
 cases h2
 exact ⟨e, List.mem_of_find?_eq_some h1, by simpa using List.find?_some h1, rfl, rfl⟩
theorem invOf_some {es : List Ent} {j nm : Nat} (h : invOf es nm = some j) : ∃ e ∈ es, e.nm = nm /\ e.j = j := by
 unfold invOf at h
 obtain ⟨e, h1, h2⟩ := Option.map_eq_some_iff.1 h
 cases h2
 exact ⟨e, List.mem_of_find?_eq_some h1, by simpa using List.find?_some h1, rfl⟩
theorem invOf_none {es : List Ent} {nm : Nat} (h : invOf es nm = none) : nm ∉ es.map (·.nm) := by
 unfold invOf at h
 intro hm
 obtain ⟨e, he, hx⟩ := List.mem_map.1 hm
 simp at h
 exact h e he hx
end
end Go.DI
