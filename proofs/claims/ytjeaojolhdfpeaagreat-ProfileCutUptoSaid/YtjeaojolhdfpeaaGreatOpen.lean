/- How an argument of a law is opened: what its type reads as, told as a kind of values with the ranges of its numbers and the lengths that the form's reach allows; and how a law's row follows from a walk that leaves old memory alone. Over any program. -/
import Derived.Test.YtjeaojolhdfpeaaGreatBookS
import Derived.SizedLaws
import Derived.ChangeSlices
import Derived.Deep.Slices
import Derived.ProofKit
import Derived.OpenShut
import Derived.WalkKit
namespace Go.Proofs.YtjeaojolhdfpeaaGreat.Open
open Go.RowKit Go.WideShapes Go.ChangeShapes Go.ChangeAt
open Go.Proofs.YtjeaojolhdfpeaaGreatW.PrintWords
set_option linter.unusedVariables false

/-- What type t reads as: a value of kind d of which G holds. -/
def Opens (P : Program) (t : TypeId) {α : Type} (d : Kd α) (G : α → Prop) : Prop :=
  ∀ (H : Type) (enc : TypeId × Value → H) (w : World) (base : Nat) (spare : Nat → Bool) (held : Bool) (fuel : Nat) (cs : List Value) (x : DataW H × List MemPlace),
    DataW.trod enc P w base spare held fuel t cs = some x → (∀ n ∈ x.1.weights P t, n ≤ reachBytes) → ∃ a : α, d.K w a cs ∧ G a

section
variable {P : Program} {t e : TypeId} {α β : Type} {d : Kd α} {d' : Kd β} {G : α → Prop} {G' : β → Prop}

theorem opens_int {k : IntKind} (ht : P.underlying t = some (.int k)) : Opens P t (Kd.int k) (fun n => (Lit.int k n).wf = true) := by
  intro H enc w base spare held fuel cs x h _
  obtain ⟨n, rfl, _, hw⟩ := DataW.trod_int ht h
  exact ⟨n, rfl, hw⟩
theorem choose_list {n : Nat} {q : Nat → α → Prop} (h : ∀ i, i < n → ∃ a, q i a) : ∃ xs : List α, xs.length = n ∧ ∀ i a, xs[i]? = some a → q i a := by
  induction n with
  | zero => exact ⟨[], rfl, fun i a h => by simp at h⟩
  | succ n ih =>
    obtain ⟨xs, hl, hx⟩ := ih (fun i hi => h i (by omega))
    obtain ⟨a, ha⟩ := h n (by omega)
    refine ⟨xs ++ [a], by simp [hl], fun i b hb => ?_⟩
    rcases Nat.lt_or_ge i xs.length with hi | hi
    · rw [List.getElem?_append_left hi] at hb
      exact hx i b hb
    · have : i < (xs ++ [a]).length := (List.getElem?_eq_some_iff.1 hb).1
      have e : i = n := by simp at this; omega
      subst e
      rw [← hl] at hb
      simp at hb
      subst hb
      exact ha

theorem weights_all {H : Type} {P : Program} {e : TypeId} {l : List (DataW H)} {y : DataW H} (hy : y ∈ l) {n : Nat} (hn : n ∈ y.weights P e) : n ∈ DataW.weightsAll P e l := by
  induction l with
  | nil => cases hy
  | cons a l ih =>
    rw [DataW.weightsAll, List.mem_append]
    rcases List.mem_cons.1 hy with rfl | hy
    · exact .inl hn
    · exact .inr (ih hy)

theorem opens_slice {B : Nat} (ht : P.underlying t = some (.slice e)) (hd : Opens P e d G) (hs : P.cellsOf e = d.sz) (hB : P.bytesOf e = B) (hB0 : 0 < B) :
    Opens P t (Kd.slice e d) (fun xs => xs.length * B ≤ reachBytes ∧ ∀ x ∈ xs, G x) := by
  intro H enc w base spare held fuel cs x h hw
  rcases Go.Deep.open_slice ht h with ⟨rfl, rfl⟩ | ⟨a, len, cap, m, n, D, Pl, rfl, hb, hl, hm, hmm, rfl, hi⟩
  · exact ⟨[], ⟨none, 0, rfl, Nat.le_refl _, Kd.C_nil d w⟩, by simp, by simp⟩
  · have hlm : len ≤ m := by rw [hmm]; split <;> omega
    have hwt : ∀ k, k ∈ DataW.weights P t (.slice ((List.range len).map D) ((List.range (m - len)).map fun j => D (len + j))) → k ≤ reachBytes := hw
    simp only [DataW.weights, ht] at hwt
    have h1 := hwt _ List.mem_cons_self
    have hel : ∀ i, i < len → ∃ x : α, (∃ c, c.length = d.sz ∧ d.K w x c ∧ ∀ j u, c[j]? = some u → w.cell? (a.add (i * d.sz + j)) = some u) ∧ G x := by
      intro i hil
      obtain ⟨cs', hc, hr⟩ := hi i (by omega)
      obtain ⟨_, hcl, hcell⟩ := World.cells?_some hc
      obtain ⟨x, hK, hG⟩ := hd H enc w base spare held n cs' (D i, Pl i) hr (fun k hk => hwt k (by
        refine List.mem_cons_of_mem _ (List.mem_append_left _ (weights_all (y := D i) ?_ hk))
        exact List.mem_map.2 ⟨i, List.mem_range.2 hil, rfl⟩))
      refine ⟨x, ⟨cs', by rw [hcl, hs], hK, fun j u hu => ?_⟩, hG⟩
      have hj : j < P.cellsOf e := by rw [← hcl]; exact (List.getElem?_eq_some_iff.1 hu).1
      have := hcell j hj
      rw [← hu, ← this, ← hs, Go.Deep.add_add]
    obtain ⟨xs, hxl, hx⟩ := choose_list hel
    refine ⟨xs, ⟨some a, cap, by rw [hxl], by omega, rfl, ?_, fun _ => ⟨a, rfl, fun j p hp => (hx j p hp).1⟩⟩, ?_, ?_⟩
    · simp only [maxLen] at hm; omega
    · rw [hxl, ← hB]
      simp only [List.length_map, List.length_range] at h1
      exact Nat.le_trans (Nat.mul_le_mul_right _ (by omega)) h1
    · intro y hy
      obtain ⟨i, hi, rfl⟩ := List.getElem_of_mem hy
      exact (hx i _ (List.getElem?_eq_getElem hi)).2

/-- Fields in line, from a cell on. -/
def OpensF (P : Program) (fs : List Field) (off : Nat) {α : Type} (d : Kd α) (G : α → Prop) : Prop :=
  ∀ (H : Type) (enc : TypeId × Value → H) (w : World) (base : Nat) (spare : Nat → Bool) (held : Bool) (fuel : Nat) (cs : List Value) (xs : List (DataW H × List MemPlace)),
    cs.length = off + d.sz → (∀ (i : Nat) (f : Field), fs[i]? = some f → DataW.trod enc P w base spare held fuel f.type ((cs.drop f.offset).take (P.cellsOf f.type)) = xs[i]?) → xs.length = fs.length →
    (∀ (i : Nat) (f : Field) (x : DataW H × List MemPlace), fs[i]? = some f → xs[i]? = some x → ∀ n ∈ x.1.weights P f.type, n ≤ reachBytes) → ∃ a : α, d.K w a (cs.drop off) ∧ G a

theorem opensF_one {f : Field} {off : Nat} (h : Opens P f.type d G) (ho : f.offset = off) (hs : P.cellsOf f.type = d.sz) : OpensF P [f] off d G := by
  intro H enc w base spare held fuel cs xs hl hx hxl hw
  match xs, hxl with
  | [x], _ =>
    have h0 := hx 0 f rfl
    rw [ho, hs, List.take_of_length_le (by rw [List.length_drop]; omega)] at h0
    exact h H enc w base spare held fuel _ x h0 (hw 0 f x rfl rfl)
theorem opensF_cons {f : Field} {fs : List Field} {off : Nat} (h : Opens P f.type d G) (ho : f.offset = off) (hs : P.cellsOf f.type = d.sz) (hr : OpensF P fs (off + d.sz) d' G') :
    OpensF P (f :: fs) off (Kd.pair d d') (fun p => G p.1 ∧ G' p.2) := by
  intro H enc w base spare held fuel cs xs hl hx hxl hw
  match xs, hxl with
  | x :: xs, hxl =>
    have h0 := hx 0 f rfl
    rw [ho, hs] at h0
    obtain ⟨a, hK, hG⟩ := h H enc w base spare held fuel _ x h0 (hw 0 f x rfl rfl)
    have hl' : cs.length = off + (d.sz + d'.sz) := hl
    obtain ⟨b, hK', hG'⟩ := hr H enc w base spare held fuel cs xs (by omega) (fun i g hg => hx (i + 1) g hg) (by simpa using hxl) (fun i g y hg hy => hw (i + 1) g y hg hy)
    refine ⟨(a, b), ⟨(cs.drop off).take d.sz, cs.drop (off + d.sz), ?_, hK, hK'⟩, hG, hG'⟩
    rw [← List.drop_drop, List.take_append_drop]

theorem weights_each {H : Type} {P : Program} {ts : List TypeId} {ds : List (DataW H)} {i : Nat} {t : TypeId} {y : DataW H} (ht : ts[i]? = some t) (hy : ds[i]? = some y) {n : Nat} (hn : n ∈ y.weights P t) : n ∈ DataW.weightsEach P ts ds := by
  induction ts generalizing ds i with
  | nil => simp at ht
  | cons a ts ih =>
    match ds, hy with
    | b :: ds, hy =>
      rw [DataW.weightsEach, List.mem_append]
      match i, ht, hy with
      | 0, ht, hy =>
        simp at ht hy
        subst ht hy
        exact .inl hn
      | i + 1, ht, hy => exact .inr (ih (by simpa using ht) (by simpa using hy))

theorem opens_struct {fs : Array Field} (ht : P.underlying t = some (.struct fs)) (h : OpensF P fs.toList 0 d G) (hs : P.cellsOf t = d.sz) : Opens P t d G := by
  intro H enc w base spare held fuel cs x hx hw
  obtain ⟨xs, n, _, rfl, hl, hxl, hf⟩ := DataW.trod_struct ht hx
  have := h H enc w base spare held n cs xs (by rw [hl, hs]; omega) (fun i f hif => hf i f (by simpa using hif)) (by simpa using hxl) (fun i f y hif hy k hk => hw k (by
    simp only [DataW.weights, ht]
    exact weights_each (i := i) (t := f.type) (y := y.1) (by simp only [List.getElem?_map, hif, Option.map_some]) (by simp only [List.getElem?_map, hy, Option.map_some]) hk))
  simpa using this
theorem opens_iso {γ : Type} {f : γ → α} {g : α → γ} (hfg : ∀ a, f (g a) = a) (h : Opens P t d G) : Opens P t (Kd.iso d f) (fun x => G (f x)) := by
  intro H enc w base spare held fuel cs x hx hw
  obtain ⟨a, hK, hG⟩ := h H enc w base spare held fuel cs x hx hw
  refine ⟨g a, ?_, (by simp only [hfg]; exact hG : G (f (g a)))⟩
  show d.K w (f (g a)) cs
  rw [hfg]
  exact hK
theorem Opens.imp (h : Opens P t d G) {G2 : α → Prop} (hG : ∀ a, G a → G2 a) : Opens P t d G2 := by
  intro H enc w base spare held fuel cs x hx hw
  obtain ⟨a, hK, hg⟩ := h H enc w base spare held fuel cs x hx hw
  exact ⟨a, hK, hG a hg⟩

/-- An argument opened. -/
theorem opened {H : Type} {enc : TypeId × Value → H} {w : World} {base : Nat} {spare : Nat → Bool} {held : Bool} {v : Value} {dat : DataW H} {ps : List MemPlace} (h : Opens P t d G)
    (hd : DataW.Trod enc P w base spare held t v dat ps) (hw : ∀ n ∈ dat.weights P t, n ≤ reachBytes) : ∃ a : α, d.K w a v.cells.toList ∧ G a := by
  obtain ⟨fuel, hf⟩ := hd
  exact h H enc w base spare held fuel _ _ hf hw

/-- The last step of a row: what lay below stands. -/
theorem post_of_below {H : Type} {enc : TypeId × Value → H} {f : Func} {s : ChangeSpec} {apart fresh handsOn again : Bool} {W W' : World} {args : Array Value} {v : Value} {ds gs : List (DataW H)} {before pa pv : List MemPlace}
    (hW : DataW.Whole enc P f.params.toList s.vars apart W args.toList ds gs before)
    (hres : ∀ (b : Nat) (sp : Nat → Bool) (hd : Bool), DataW.TrodAll enc P W' b sp hd f.resultTypes.toList (v.resultList f.resultTypes.size) (s.fn H (ds ++ gs)).results [])
    (hargs : ∀ sp : Nat → Bool, (∀ p ∈ before, sp p.block = true) → DataW.TrodAll enc P W' 0 sp true f.params.toList args.toList (s.fn H (ds ++ gs)).args pa)
    (hvars : ∀ sp : Nat → Bool, (∀ p ∈ before, sp p.block = true) → DataW.TrodVars enc P W' sp s.vars (s.fn H (ds ++ gs)).vars pv)
    (hps : before = pa ++ pv) (hb : Below W.heap.size W W')
    (hok : ∀ (j : Nat) (t : TypeId) (r : Value), f.resultTypes[j]? = some t → (v.resultList f.resultTypes.size)[j]? = some r → Value.okWide P W' .any 0 t r) :
    s.post enc P f apart fresh handsOn again W args v W' := by
  have hlt : ∀ p ∈ before, p.block < W.heap.size := fun p hp => hW.lt p hp
  have hold : ∀ p ∈ before, (fun b => decide (b < W.heap.size)) p.block = true := fun p hp => by simpa using hlt p hp
  refine ⟨ds, gs, before, [], pa, pv, hW, hres _ _ _, hargs _ hold, hvars _ hold, World.keptBut_mono (fun p hp => ⟨hp, ?_⟩) (hb.frame (· ∈ before)), fun _ => ?_⟩
  · rw [hps, List.mem_append] at hp
    exact Or.inr hp
  · obtain ⟨_, _, _, _, _, hz, hn⟩ := hW
    refine ⟨hok, _, _, ([] ++ pa) ++ pv, ⟨[] ++ pa, pv, trodAll_append (hargs _ (fun _ _ => rfl)) (hres _ _ _), hvars _ (fun _ _ => rfl), rfl, ?_, ?_⟩, ?_⟩
    · intro b off hp
      have hin : MemPlace.cell b off ∈ before := by rw [hps]; simpa using hp
      rw [hb.frozen (hlt _ hin)]
      exact hz b off hin
    · intro ha
      have := hn ha
      rw [hps] at this
      simpa using this
    · intro p hp _
      rw [hps]
      simpa using hp

theorem args_stay {H : Type} {enc : TypeId × Value → H} {W W' : World} (hlaid : laidOutB P = true) (hb : Below W.heap.size W W') {sp : Nat → Bool} : ∀ {ts : List TypeId} {vs : List Value} {ds : List (DataW H)} {ps : List MemPlace},
    ts.all (fun t => P.readableRec t && decide (t < P.types.size)) = true → DataW.TrodAll enc P W 0 (fun _ => true) true ts vs ds ps → (∀ p ∈ ps, p.block < W.heap.size) → (∀ p ∈ ps, sp p.block = true) →
    DataW.TrodAll enc P W' 0 sp true ts vs ds ps
  | [], vs, ds, ps, _, h, _, _ => by
    obtain ⟨rfl, rfl, rfl⟩ := trodAll_nil h
    exact trodAll_mk0
  | t :: ts, vs, ds, ps, ht, h, hlt, hsp => by
    obtain ⟨v, vs', d, ds', p, q, rfl, rfl, rfl, hd, hr⟩ := trodAll_cons h
    rw [List.all_cons, Bool.and_eq_true, Bool.and_eq_true] at ht
    have h1 := WideElems.Trod_stays hlaid ht.1.1 (of_decide_eq_true ht.1.2) hd (fun x hx => hb.same (hlt x (List.mem_append_left _ hx))) (sp' := sp) (fun x hx => hsp x (List.mem_append_left _ hx))
    exact ⟨p, q, h1, args_stay hlaid hb ht.2 hr (fun x hx => hlt x (List.mem_append_right _ hx)) (fun x hx => hsp x (List.mem_append_right _ hx)), rfl⟩

/-- The end of a law's row: it answered true, and what lay below stands. -/
theorem law_post {H : Type} {enc : TypeId × Value → H} {f : Func} {s : ChangeSpec} {apart fresh handsOn again : Bool} {W W' : World} {args : Array Value} {ds gs : List (DataW H)} {before : List MemPlace} {tb : TypeId}
    (hW : DataW.Whole enc P f.params.toList s.vars apart W args.toList ds gs before) (hvars : s.vars = []) (hlaid : laidOutB P = true)
    (hts : f.params.toList.all (fun t => P.readableRec t && decide (t < P.types.size)) = true) (hres : f.resultTypes = #[tb]) (htb : P.underlying tb = some .bool)
    (hfn : s.fn H ds = { results := [.lit (.bool true)], args := ds }) (hb : Below W.heap.size W W') : s.post enc P f apart fresh handsOn again W args (.bool true) W' := by
  have hlt : ∀ p ∈ before, p.block < W.heap.size := fun p hp => hW.lt p hp
  have hW' := hW
  obtain ⟨p, q, hA, hV, rfl, hfz, hnd⟩ := hW
  rw [hvars] at hV
  obtain ⟨rfl, rfl⟩ := trodVars_none hV
  have hfn' : s.fn H (ds ++ []) = { results := [.lit (.bool true)], args := ds } := by rw [List.append_nil]; exact hfn
  simp only [List.append_nil] at hlt
  refine post_of_below (pa := p) (pv := []) hW' (fun _ _ _ => ?_) (fun sp hsp => ?_) (fun _ _ => ?_) rfl hb ?_
  · rw [hfn', hres]
    exact trodAll_mk1 (shut_bool htb _)
  · rw [hfn']
    exact args_stay hlaid hb hts hA hlt (by simpa using hsp)
  · rw [hfn', hvars]
    exact rfl
  · exact ok_one hres rfl (okWide_bool_mk htb _)
end
end Go.Proofs.YtjeaojolhdfpeaaGreat.Open
