/- How arguments of any kind are read as values of Lean's own: for the rows of laws. No condition. -/
import Derived.Test.YtdjogcmbkbamnaaWWords
import Derived.ChangeArms
namespace Go.Proofs.YtdjogcmbkbamnaaW.Opens
open Go Go.RowKit Go.Proofs.YtdjogcmbkbamnaaW.PrintWords

/-- Whatever reads at type t as data is a value of kind d that fits wf. -/
def Opens {α : Type} (P : Program) (t : TypeId) (d : Kd α) (wf : α → Prop) : Prop :=
  ∀ (H : Type) (enc : TypeId × Value → H) (w : World) (base : Nat) (spare : Nat → Bool) (held : Bool) (fuel : Nat) (cs : List Value) (x : DataW H × List MemPlace),
    DataW.trod enc P w base spare held fuel t cs = some x → ∃ y, d.K w y cs ∧ wf y

theorem opens_int {P : Program} {t : TypeId} {k : IntKind} (ht : P.underlying t = some (.int k)) : Opens P t (Kd.int k) (fun n => (Lit.int k n).wf = true) := by
  intro H enc w base spare held fuel cs x h
  obtain ⟨n, rfl, _, hn⟩ := DataW.trod_int ht h
  exact ⟨n, rfl, hn⟩

theorem opens_bool {P : Program} {t : TypeId} (ht : P.underlying t = some .bool) : Opens P t Kd.bool (fun _ => True) := by
  intro H enc w base spare held fuel cs x h
  obtain ⟨b, rfl, _⟩ := DataW.trod_bool ht h
  exact ⟨b, rfl, trivial⟩

theorem opens_string {P : Program} {t : TypeId} (ht : P.underlying t = some .string) : Opens P t Kd.string (fun s => s.size ≤ 9223372036854775807) := by
  intro H enc w base spare held fuel cs x h
  obtain ⟨s, rfl, _, hs⟩ := DataW.trod_string ht h
  exact ⟨s, rfl, hs⟩

theorem mapM_each {α β : Type} {f : α → Option β} : ∀ {l : List α} {r : List β}, l.mapM f = some r → r.length = l.length ∧ ∀ (i : Nat) (a : α), l[i]? = some a → ∃ b, r[i]? = some b ∧ f a = some b
  | [], _, h => by
    simp at h
    subst h
    exact ⟨rfl, fun i a ha => by simp at ha⟩
  | x :: l, r, h => by
    simp only [List.mapM_cons, Option.bind_eq_bind, Option.bind_eq_some_iff, Option.pure_def, Option.some.injEq] at h
    obtain ⟨b, hb, r', hr', rfl⟩ := h
    obtain ⟨h1, h2⟩ := mapM_each hr'
    refine ⟨by simp [h1], fun i a ha => ?_⟩
    cases i with
    | zero =>
      simp only [List.getElem?_cons_zero, Option.some.injEq] at ha
      subst ha
      exact ⟨b, rfl, hb⟩
    | succ i =>
      obtain ⟨c, hc, hf⟩ := h2 i a (by simpa using ha)
      exact ⟨c, by simpa using hc, hf⟩

theorem cells_read {w : World} {base n : Nat} {a : Addr} {c : List Value} (h : w.cells? base a n = some c) : c.length = n ∧ ∀ i u, c[i]? = some u → w.cell? (a.add i) = some u := by
  unfold World.cells? at h
  split at h
  · obtain ⟨h1, h2⟩ := mapM_each h
    simp only [List.length_range] at h1
    refine ⟨h1, fun i u hu => ?_⟩
    have hi : i < n := by
      have := (List.getElem?_eq_some_iff.1 hu).1
      omega
    obtain ⟨b, hb, hf⟩ := h2 i i (by simp [hi])
    rw [hu] at hb
    cases hb
    exact hf
  · cases h

theorem add_add_ (a : Addr) (x i : Nat) : (a.add x).add i = a.add (x + i) := by
  unfold Addr.add
  by_cases hx : x = 0
  · simp [hx]
  · by_cases hi : i = 0
    · simp [hx, hi]
    · have : ¬ (x + i = 0) := by omega
      simp [hx, hi, Nat.add_assoc]

theorem opens_slice {α : Type} {P : Program} {t e : TypeId} {d : Kd α} {wf : α → Prop} (ht : P.underlying t = some (.slice e)) (hsz : P.cellsOf e = d.sz) (ho : Opens P e d wf) :
    Opens P t (Kd.slice e d) (fun l => l.length ≤ 9223372036854775807 ∧ ∀ x ∈ l, wf x) := by
  intro H enc w base spare held fuel cs x h
  rcases DataW.trod_slice ht h with ⟨rfl, _⟩ | ⟨a, len, cap, elems, rest, n, _, rfl, _, hb, hl, hc, hel, hget, _, _⟩
  · exact ⟨[], ⟨none, 0, rfl, Nat.le_refl _, rfl, by simp, fun h => absurd h (by simp)⟩, by simp, by simp⟩
  · have hc' : cap ≤ 9223372036854775807 := hc
    have each : ∀ i : Fin len, ∃ y, ∃ c, w.cells? base (a.add (i.1 * P.cellsOf e)) (P.cellsOf e) = some c ∧ d.K w y c ∧ wf y := by
      intro i
      have hi := hget i.1 i.2
      rw [List.getElem?_eq_getElem (by omega)] at hi
      obtain ⟨c, h1, h2⟩ := Option.bind_eq_some_iff.1 hi
      obtain ⟨y, hy, hw⟩ := ho H enc w base spare held n c _ h2
      exact ⟨y, c, h1, hy, hw⟩
    obtain ⟨f, hf⟩ := Classical.axiomOfChoice each
    refine ⟨List.ofFn f, ⟨some a, cap, by simp, by simpa using hl, by simp, by simp; omega, fun _ => ⟨a, rfl, fun j p hj => ?_⟩⟩, by simp; omega, fun y hy => ?_⟩
    · obtain ⟨hj1, hj2⟩ := List.getElem?_eq_some_iff.1 hj
      simp only [List.length_ofFn] at hj1
      simp only [List.getElem_ofFn] at hj2
      obtain ⟨c, h1, h2, _⟩ := hf ⟨j, hj1⟩
      obtain ⟨h3, h4⟩ := cells_read h1
      rw [hj2] at h2
      refine ⟨c, by rw [h3, hsz], h2, fun i u hu => ?_⟩
      have := h4 i u hu
      rw [hsz] at this
      rwa [add_add_] at this
    · obtain ⟨i, rfl⟩ := (List.mem_ofFn).1 hy
      obtain ⟨c, _, _, h3⟩ := hf i
      exact h3

/-- Some fields in line, from a place on. -/
def OpensF {α : Type} (P : Program) (fs : List Field) (off : Nat) (d : Kd α) (wf : α → Prop) : Prop :=
  ∀ (H : Type) (enc : TypeId × Value → H) (w : World) (base : Nat) (spare : Nat → Bool) (held : Bool) (n : Nat) (cs : List Value) (xs : List (DataW H × List MemPlace)),
    cs.length = off + d.sz → xs.length = fs.length → (∀ (i : Nat) (f : Field), fs[i]? = some f → DataW.trod enc P w base spare held n f.type ((cs.drop f.offset).take (P.cellsOf f.type)) = xs[i]?) → ∃ y, d.K w y (cs.drop off) ∧ wf y

theorem opensF_one {α : Type} {P : Program} {f : Field} {off : Nat} {d : Kd α} {wf : α → Prop} (hoff : f.offset = off) (hsz : P.cellsOf f.type = d.sz) (ho : Opens P f.type d wf) : OpensF P [f] off d wf := by
  intro H enc w base spare held n cs xs hl hx h
  have h0 := h 0 f rfl
  rw [List.getElem?_eq_getElem (by rw [hx]; simp), hoff, hsz, List.take_of_length_le (by simp; omega)] at h0
  exact ho H enc w base spare held n _ _ h0

theorem opensF_cons {α β : Type} {P : Program} {f : Field} {fs : List Field} {off : Nat} {a : Kd α} {b : Kd β} {wa : α → Prop} {wb : β → Prop} (hoff : f.offset = off) (hsz : P.cellsOf f.type = a.sz) (ho : Opens P f.type a wa)
    (hr : OpensF P fs (off + a.sz) b wb) : OpensF P (f :: fs) off (Kd.pair a b) (fun x => wa x.1 ∧ wb x.2) := by
  intro H enc w base spare held n cs xs hl hx h
  have hsum : (Kd.pair a b).sz = a.sz + b.sz := rfl
  rw [hsum] at hl
  have h0 := h 0 f rfl
  rw [List.getElem?_eq_getElem (by rw [hx]; simp), hoff, hsz] at h0
  obtain ⟨y, hy, hwy⟩ := ho H enc w base spare held n _ _ h0
  cases xs with
  | nil => simp at hx
  | cons x0 xs =>
    obtain ⟨z, hz, hwz⟩ := hr H enc w base spare held n cs xs (by omega) (by simpa using hx) (fun i g hg => by
      have := h (i + 1) g (by simpa using hg)
      simpa using this)
    refine ⟨(y, z), ⟨_, _, ?_, hy, hz⟩, hwy, hwz⟩
    rw [← List.drop_drop, List.take_append_drop]

theorem opens_struct {α : Type} {P : Program} {t : TypeId} {fs : Array Field} {d : Kd α} {wf : α → Prop} (ht : P.underlying t = some (.struct fs)) (hsz : P.cellsOf t = d.sz) (ho : OpensF P fs.toList 0 d wf) : Opens P t d wf := by
  intro H enc w base spare held fuel cs x h
  obtain ⟨xs, n, _, _, hl, hx, hget⟩ := DataW.trod_struct ht h
  have := ho H enc w base spare held n cs xs (by omega) (by simpa using hx) (fun i f hf => hget i f (by simpa using hf))
  simpa using this

theorem opens_iso {α β : Type} {P : Program} {t : TypeId} {d : Kd α} {wf : α → Prop} {wf' : β → Prop} (f : β → α) (g : α → β) (hfg : ∀ x, f (g x) = x) (hw : ∀ x, wf x → wf' (g x)) (ho : Opens P t d wf) : Opens P t (Kd.iso d f) wf' := by
  intro H enc w base spare held fuel cs x h
  obtain ⟨y, hy, hwy⟩ := ho H enc w base spare held fuel cs x h
  refine ⟨g y, ?_, hw y hwy⟩
  show d.K w (f (g y)) cs
  rw [hfg]
  exact hy

/-- An argument. -/
theorem opens_arg {α : Type} {H : Type} {enc : TypeId × Value → H} {P : Program} {t : TypeId} {d : Kd α} {wf : α → Prop} (ho : Opens P t d wf) {w : World} {base : Nat} {spare : Nat → Bool} {held : Bool} {v : Value} {D : DataW H} {p : List MemPlace}
    (h : DataW.Trod enc P w base spare held t v D p) : ∃ y, d.K w y v.cells.toList ∧ wf y := by
  obtain ⟨fuel, hf⟩ := h
  exact ho H enc w base spare held fuel _ _ hf

end Go.Proofs.YtdjogcmbkbamnaaW.Opens
