/- How an argument of a law's second form is opened: what its type reads as, and how much the reading bears at the least. Over any program. -/
import Derived.Test.YtjeaojolhdfpeaaGreatOpen
import Derived.Test.YtjeaojolhdfpeaaGreatRows
namespace Go.Proofs.YtjeaojolhdfpeaaGreat.Bulk
open Go.RowKit Go.WideShapes Go.ChangeShapes Go.ChangeAt
open Go.Proofs.YtjeaojolhdfpeaaGreatW.PrintWords Go.Proofs.YtjeaojolhdfpeaaGreat.Open
set_option linter.unusedVariables false
set_option linter.unusedSimpArgs false

/-- What type t reads as: a value of kind d of at least this bulk. -/
def Bears (P : Program) (t : TypeId) {α : Type} (d : Kd α) (m : α → Nat) : Prop :=
  ∀ (H : Type) (enc : TypeId × Value → H) (w : World) (base : Nat) (spare : Nat → Bool) (held : Bool) (fuel : Nat) (cs : List Value) (x : DataW H × List MemPlace),
    DataW.trod enc P w base spare held fuel t cs = some x → ∃ a : α, d.K w a cs ∧ m a ≤ Rows.uptoBulk x.1
section
variable {P : Program} {t e : TypeId} {α β : Type} {d : Kd α} {d' : Kd β} {m : α → Nat} {m' : β → Nat}
theorem one_le {H : Type} (x : DataW H) : 1 ≤ Rows.uptoBulk x := by
  cases x with
  | lit l => cases l <;> simp [Rows.uptoBulk]
  | _ => simp [Rows.uptoBulk]
theorem bears_int {k : IntKind} (ht : P.underlying t = some (.int k)) : Bears P t (Kd.int k) (fun _ => 1) := by
  intro H enc w base spare held fuel cs x h
  obtain ⟨n, rfl, _, hw⟩ := DataW.trod_int ht h
  exact ⟨n, rfl, one_le _⟩
theorem bears_bool (ht : P.underlying t = some .bool) : Bears P t Kd.bool (fun _ => 1) := by
  intro H enc w base spare held fuel cs x h
  obtain ⟨n, rfl, _⟩ := DataW.trod_bool ht h
  exact ⟨n, rfl, one_le _⟩
theorem bears_string (ht : P.underlying t = some .string) : Bears P t Kd.string (fun s => s.size + 1) := by
  intro H enc w base spare held fuel cs x h
  obtain ⟨s, rfl, rfl, _⟩ := DataW.trod_string ht h
  refine ⟨s, rfl, ?_⟩
  simp only [Rows.uptoBulk]
  rw [data_length]
  exact Nat.le_refl _
theorem sum_all {H : Type} : ∀ (xs : List α) (ys : List (DataW H)), xs.length = ys.length → (∀ (i : Nat) a y, xs[i]? = some a → ys[i]? = some y → m a ≤ Rows.uptoBulk y) → (xs.map m).sum ≤ Rows.uptoBulkAll ys
  | [], _, _, _ => Nat.zero_le _
  | a :: xs, [], h, _ => by cases h
  | a :: xs, y :: ys, h, hi => by
    simp only [List.map_cons, List.sum_cons, Rows.uptoBulkAll]
    have h0 := hi 0 a y rfl rfl
    have h1 := sum_all xs ys (by simpa using h) (fun i b z hb hz => hi (i + 1) b z hb hz)
    omega
theorem bears_slice (ht : P.underlying t = some (.slice e)) (hd : Bears P e d m) (hs : P.cellsOf e = d.sz) : Bears P t (Kd.slice e d) (fun xs => (xs.map m).sum + 1) := by
  intro H enc w base spare held fuel cs x h
  rcases Go.Deep.open_slice ht h with ⟨rfl, rfl⟩ | ⟨a, len, cap, mm, n, D, Pl, rfl, hb, hl, hm, hmm, rfl, hi⟩
  · exact ⟨[], ⟨none, 0, rfl, Nat.le_refl _, Kd.C_nil d w⟩, one_le _⟩
  · have hlm : len ≤ mm := by rw [hmm]; split <;> omega
    have hel : ∀ i, i < len → ∃ x : α, (∃ c, c.length = d.sz ∧ d.K w x c ∧ ∀ j u, c[j]? = some u → w.cell? (a.add (i * d.sz + j)) = some u) ∧ m x ≤ Rows.uptoBulk (D i) := by
      intro i hil
      obtain ⟨cs', hc, hr⟩ := hi i (by omega)
      obtain ⟨_, hcl, hcell⟩ := World.cells?_some hc
      obtain ⟨x, hK, hG⟩ := hd H enc w base spare held n cs' (D i, Pl i) hr
      refine ⟨x, ⟨cs', by rw [hcl, hs], hK, fun j u hu => ?_⟩, hG⟩
      have hj : j < P.cellsOf e := by rw [← hcl]; exact (List.getElem?_eq_some_iff.1 hu).1
      have := hcell j hj
      rw [← hu, ← this, ← hs, Go.Deep.add_add]
    obtain ⟨xs, hxl, hx⟩ := choose_list hel
    refine ⟨xs, ⟨some a, cap, by rw [hxl], by omega, rfl, ?_, fun _ => ⟨a, rfl, fun j p hp => (hx j p hp).1⟩⟩, ?_⟩
    · simp only [maxLen] at hm; omega
    · simp only [Rows.uptoBulk]
      have h1 := sum_all (m := m) xs ((List.range len).map D) (by simp [hxl]) (fun i b y hb hy => by
        have hil : i < len := by rw [← hxl]; exact (List.getElem?_eq_some_iff.1 hb).1
        have hy' : D i = y := by simpa [hil] using hy
        rw [← hy']
        exact (hx i b hb).2)
      omega
/-- Fields in line, from a cell on. -/
def BearsF (P : Program) (fs : List Field) (off : Nat) {α : Type} (d : Kd α) (m : α → Nat) : Prop :=
  ∀ (H : Type) (enc : TypeId × Value → H) (w : World) (base : Nat) (spare : Nat → Bool) (held : Bool) (fuel : Nat) (cs : List Value) (xs : List (DataW H × List MemPlace)),
    cs.length = off + d.sz → (∀ (i : Nat) (f : Field), fs[i]? = some f → DataW.trod enc P w base spare held fuel f.type ((cs.drop f.offset).take (P.cellsOf f.type)) = xs[i]?) → xs.length = fs.length →
    ∃ a : α, d.K w a (cs.drop off) ∧ m a ≤ Rows.uptoBulkAll (xs.map (·.1))
theorem bearsF_one {f : Field} {off : Nat} (h : Bears P f.type d m) (ho : f.offset = off) (hs : P.cellsOf f.type = d.sz) : BearsF P [f] off d m := by
  intro H enc w base spare held fuel cs xs hl hx hxl
  match xs, hxl with
  | [x], _ =>
    have h0 := hx 0 f rfl
    rw [ho, hs, List.take_of_length_le (by rw [List.length_drop]; omega)] at h0
    obtain ⟨a, hK, hm⟩ := h H enc w base spare held fuel _ x h0
    exact ⟨a, hK, by simpa [Rows.uptoBulkAll] using hm⟩
theorem bearsF_cons {f : Field} {fs : List Field} {off : Nat} (h : Bears P f.type d m) (ho : f.offset = off) (hs : P.cellsOf f.type = d.sz) (hr : BearsF P fs (off + d.sz) d' m') :
    BearsF P (f :: fs) off (Kd.pair d d') (fun p => m p.1 + m' p.2) := by
  intro H enc w base spare held fuel cs xs hl hx hxl
  match xs, hxl with
  | x :: xs, hxl =>
    have h0 := hx 0 f rfl
    rw [ho, hs] at h0
    obtain ⟨a, hK, hG⟩ := h H enc w base spare held fuel _ x h0
    have hl' : cs.length = off + (d.sz + d'.sz) := hl
    obtain ⟨b, hK', hG'⟩ := hr H enc w base spare held fuel cs xs (by omega) (fun i g hg => hx (i + 1) g hg) (by simpa using hxl)
    refine ⟨(a, b), ⟨(cs.drop off).take d.sz, cs.drop (off + d.sz), ?_, hK, hK'⟩, ?_⟩
    · rw [← List.drop_drop, List.take_append_drop]
    · simp only [List.map_cons, Rows.uptoBulkAll]
      exact Nat.add_le_add hG hG'
theorem bears_struct {fs : Array Field} (ht : P.underlying t = some (.struct fs)) (h : BearsF P fs.toList 0 d m) (hs : P.cellsOf t = d.sz) : Bears P t d m := by
  intro H enc w base spare held fuel cs x hx
  obtain ⟨xs, n, _, rfl, hl, hxl, hf⟩ := DataW.trod_struct ht hx
  obtain ⟨a, hK, hm⟩ := h H enc w base spare held n cs xs (by rw [hl, hs]; omega) (fun i f hif => hf i f (by simpa using hif)) (by simpa using hxl)
  refine ⟨a, by simpa using hK, ?_⟩
  simp only [Rows.uptoBulk]
  omega
theorem bears_iso {γ : Type} {f : γ → α} {g : α → γ} (hfg : ∀ a, f (g a) = a) (h : Bears P t d m) : Bears P t (Kd.iso d f) (fun x => m (f x)) := by
  intro H enc w base spare held fuel cs x hx
  obtain ⟨a, hK, hm⟩ := h H enc w base spare held fuel cs x hx
  refine ⟨g a, ?_, (by simp only [hfg]; exact hm : m (f (g a)) ≤ _)⟩
  show d.K w (f (g a)) cs
  rw [hfg]
  exact hK
theorem Bears.imp (h : Bears P t d m) {m2 : α → Nat} (hm : ∀ a, m2 a ≤ m a) : Bears P t d m2 := by
  intro H enc w base spare held fuel cs x hx
  obtain ⟨a, hK, hg⟩ := h H enc w base spare held fuel cs x hx
  exact ⟨a, hK, Nat.le_trans (hm a) hg⟩
theorem borne {H : Type} {enc : TypeId × Value → H} {w : World} {base : Nat} {spare : Nat → Bool} {held : Bool} {v : Value} {dat : DataW H} {ps : List MemPlace} (h : Bears P t d m)
    (hd : DataW.Trod enc P w base spare held t v dat ps) : ∃ a : α, d.K w a v.cells.toList ∧ m a ≤ Rows.uptoBulk dat := by
  obtain ⟨fuel, hf⟩ := hd
  exact h H enc w base spare held fuel _ _ hf
end
section
variable {α β : Type} {m : α → Nat}
theorem len_sum (hm : ∀ a, 1 ≤ m a) : ∀ l : List α, l.length ≤ (l.map m).sum
  | [] => Nat.le_refl _
  | a :: l => by
    have := len_sum hm l
    have := hm a
    simp only [List.length_cons, List.map_cons, List.sum_cons]
    omega
theorem mem_sum {l : List α} {a : α} (h : a ∈ l) : m a ≤ (l.map m).sum := by
  induction l with
  | nil => cases h
  | cons b l ih =>
    simp only [List.map_cons, List.sum_cons]
    rcases List.mem_cons.1 h with rfl | h
    · omega
    · have := ih h
      omega
end
end Go.Proofs.YtjeaojolhdfpeaaGreat.Bulk
