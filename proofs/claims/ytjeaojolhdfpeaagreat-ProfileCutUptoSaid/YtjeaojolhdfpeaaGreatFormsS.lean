/- The chapter's examples (shown): they hold. -/
import Derived.Test.YtjeaojolhdfpeaaGreatBookP
import Derived.Test.YtjeaojolhdfpeaaGreatNums
import Derived.Test.YtjeaojolhdfpeaaGreatEnc
import Derived.Test.YtjeaojolhdfpeaaGreatDecode2
namespace Go.Proofs.YtjeaojolhdfpeaaGreat.FormsS
open Go.RowKit Go.Maps Go.Proofs.YtjeaojolhdfpeaaGreatW.PrintWords Go.Proofs.YtjeaojolhdfpeaaGreatW.PrintLast Go.Proofs.YtjeaojolhdfpeaaGreatW.PrintMore
open Go.Proofs.YtjeaojolhdfpeaaGreat.PProfileCut Go.Proofs.YtjeaojolhdfpeaaGreat.BookB Go.Proofs.YtjeaojolhdfpeaaGreat.BookN Go.Proofs.YtjeaojolhdfpeaaGreat.BookO Go.Proofs.YtjeaojolhdfpeaaGreat.BookU Go.Proofs.YtjeaojolhdfpeaaGreat.BookP
set_option linter.unusedVariables false
set_option linter.unusedSimpArgs false
attribute [local go_sem high] eqA51

/-! ### Literals -/
theorem reps_flat {α : Type} {R : α → List Value → Prop} {sz : Nat} {enc : α → List Value} (hR : ∀ x, R x (enc x)) (hl : ∀ x, (enc x).length = sz) : ∀ l : List α, Reps R sz l (l.flatMap enc) := by
  suffices h : ∀ (l : List α) (ps : List α) (cs : List Value), Reps R sz ps cs → Reps R sz (ps ++ l) (cs ++ l.flatMap enc) by
    intro l
    simpa using h l [] [] (Reps.none _ _)
  intro l
  induction l with
  | nil => intro ps cs h; simpa using h
  | cons x l ih =>
    intro ps cs h
    have h2 := ih (ps ++ [x]) (cs ++ enc x) (h.snoc (hR x) (hl x))
    simpa [List.append_assoc] using h2
/-- A row of elements that was just written out. -/
theorem lit_R {α : Type} (d : Kd α) (e : Nat) {enc : α → List Value} (W : World) (base : Nat) (ok : Nat → Prop) (hok : ok W.heap.size) (hb : base ≤ W.heap.size) (l : List α) (hm : l.length ≤ 9223372036854775807) (hM : ∀ w1 ok x, d.M w1 base ok x (enc x)) (hl : ∀ x, (enc x).length = d.sz) :
    d.R e (W.alloc (.cells (l.flatMap enc).toArray e)) base ok (.slice (some ⟨W.heap.size, 0, none⟩) l.length l.length) l :=
  ⟨fun k hk => by
    have : W.heap.size = k := by simpa [Value.ownBlock] using hk
    subst this
    exact hok, OwnRow.lit W base (reps_flat (fun x => hM _ _ x) hl l) hb hm⟩
def e48 (x : S48) : List Value := [.int .i64 x.f0, .int .i64 x.f1]
def e51 (x : S51) : List Value := [.int .i64 x.f0, .int .u16 x.f1, .int .u16 x.f2, .int .i64 x.f3]
theorem lit48 (W : World) (ok : Nat → Prop) (hok : ok W.heap.size) (l : List S48) (hm : l.length ≤ 9223372036854775807) : Kd.R k48 48 (W.alloc (.cells (l.flatMap e48).toArray 48)) W.heap.size ok (.slice (some ⟨W.heap.size, 0, none⟩) l.length l.length) l :=
  lit_R k48 48 W _ ok hok (Nat.le_refl _) l hm (fun _ _ x => k48_mkM _ _ _ x) (fun _ => rfl)
theorem lit51 (W : World) (base : Nat) (ok : Nat → Prop) (hok : ok W.heap.size) (hb : base ≤ W.heap.size) (l : List S51) (hm : l.length ≤ 9223372036854775807) : Kd.R k51 51 (W.alloc (.cells (l.flatMap e51).toArray 51)) base ok (.slice (some ⟨W.heap.size, 0, none⟩) l.length l.length) l :=
  lit_R k51 51 W base ok hok hb l hm (fun _ _ x => k51_mkM _ _ _ x) (fun _ => rfl)
theorem bk_shrink {W : World} {S : Nat → Prop} {bp : Nat} {F : List (List S51)} {N : Nat} (h : Bk W S bp F N) : Bk W (fun k => S k ∧ k < W.heap.size) bp F N := by
  obtain ⟨mp, A, c, D, h⟩ := h
  exact ⟨mp, A, c, D, h.shrink⟩
theorem rg_of {l : List (List S51)} (h : ∀ x ∈ l, ∀ s ∈ x, -9223372036854775808 ≤ s.f0 ∧ s.f0 ≤ 9223372036854775807) : ∀ i j, -9223372036854775808 ≤ (gt l i j).f0 ∧ (gt l i j).f0 ≤ 9223372036854775807 := by
  intro i j
  unfold gt rw_
  simp only [List.getD_eq_getElem?_getD]
  by_cases h1 : i < l.length
  · rw [List.getElem?_eq_getElem h1, Option.getD_some]
    by_cases h2 : j < l[i].length
    · rw [List.getElem?_eq_getElem h2, Option.getD_some]
      exact h _ (List.getElem_mem h1) _ (List.getElem_mem h2)
    · rw [List.getElem?_eq_none (by omega)]
      decide
  · rw [show l[i]? = none from List.getElem?_eq_none (by omega)]
    show -9223372036854775808 ≤ z51.f0 ∧ z51.f0 ≤ 9223372036854775807
    decide
/-- A book of one's own, since w. -/
def BS (w W : World) (bp n : Nat) (F : List (List S51)) : Prop := ∃ S, Bk W S bp F n ∧ (∀ k, S k → w.heap.size ≤ k ∧ k < W.heap.size) ∧ Below w.heap.size w W
theorem BS.next {w W W1 : World} {bp n : Nat} {F : List (List S51)} (h : BS w W bp n F) (hb : Below W.heap.size W W1) : BS w W1 bp n F := by
  obtain ⟨S, h1, h2, h3⟩ := h
  exact ⟨S, h1.turn (Turn.of_below hb (fun _ => False)) (fun _ _ h => h), fun k hk => ⟨(h2 k hk).1, Nat.lt_of_lt_of_le (h2 k hk).2 hb.size⟩, below_step h3 hb⟩
theorem BS.below {w W : World} {bp n : Nat} {F : List (List S51)} (h : BS w W bp n F) : Below w.heap.size w W := by
  obtain ⟨S, _, _, h3⟩ := h
  exact h3
/-- A note, its operands in a row that is none of the book's. -/
theorem note_row (w : World) (bp n : Nat) (F F1 : List (List S51)) (fn pc : Int) (A : Option Addr) (l : List S48) (callee : Int) (W W0 : World) (hB : BS w W bp n F) (hl : l.length ≤ 4611686018427387904) (hn : n < 1000000) (hrg : ∀ i j, -9223372036854775808 ≤ (gt F i j).f0 ∧ (gt F i j).f0 ≤ 9223372036854775807)
    (hF : noteF F fn pc l callee = F1) (hb : Below W.heap.size W W0) (hR : Kd.R k48 48 W0 W.heap.size (fun k => W.heap.size ≤ k) (.slice A l.length l.length) l) : Calls Tryz.prog 17 #[.pointer (some ⟨bp, 0, none⟩), .int .i64 fn, .int .i64 pc, .slice A l.length l.length, .int .i64 callee] W0 fun e w' => e = .returned (.tuple #[]) ∧ BS w w' bp (n + 1) F1 := by
  obtain ⟨S, h1, h2, h3⟩ := hB
  have h := note_calls bp n S F fn pc A l.length l callee W0 (h1.turn (Turn.of_below hb (fun _ => False)) (fun _ _ h => h)) (fun W' hk => (Kd.R_reads' (Kd.R_kept hR hk (fun k hk hs => by have := (h2 _ hs).2; omega))).2.2) (Nat.le_refl _) hl (by omega) hrg
  rw [hF] at h
  refine h.mono ?_
  rintro e w' ⟨rfl, S', g1, g2, g3⟩
  have hsz := hb.size
  have hw := h3.size
  exact ⟨rfl, _, bk_shrink g1, fun k hk => ⟨(g3 k hk.1).elim (fun h => (h2 k h).1) (fun h => by omega), hk.2⟩, (below_step h3 hb).trans (g2.below (fun k hk => (h2 k hk).1) (by omega))⟩
/-- A note, its operands written out. -/
theorem note_lit (w : World) (bp n : Nat) (F F1 : List (List S51)) (fn pc : Int) (l : List S48) (callee : Int) (W : World) (hB : BS w W bp n F) (hl : l.length ≤ 4611686018427387904) (hn : n < 1000000) (hrg : ∀ i j, -9223372036854775808 ≤ (gt F i j).f0 ∧ (gt F i j).f0 ≤ 9223372036854775807)
    (hF : noteF F fn pc l callee = F1) : Calls Tryz.prog 17 #[.pointer (some ⟨bp, 0, none⟩), .int .i64 fn, .int .i64 pc, .slice (some ⟨W.heap.size, 0, none⟩) l.length l.length, .int .i64 callee] (W.alloc (.cells (l.flatMap e48).toArray 48)) fun e w' => e = .returned (.tuple #[]) ∧ BS w w' bp (n + 1) F1 :=
  note_row w bp n F F1 fn pc _ l callee W _ hB hl hn hrg hF (below_alloc (Below.refl _ _) _) (lit48 W _ (Nat.le_refl _) l (by omega))
/-! ### What the examples come to -/
def twoF : List S76 := [⟨⟨#[109, 97, 105, 110]⟩, 0, 0, [⟨0, 0⟩, ⟨0, 0⟩], []⟩]
def F0 : List (List S51) := [[⟨0, 0, 0, 0⟩, ⟨0, 0, 0, 0⟩]]
def F1 : List (List S51) := [[⟨0, 0, 0, 0⟩, ⟨1, 8, 4, 0⟩]]
def F2 : List (List S51) := [[⟨0, 0, 0, 0⟩, ⟨2, 12, 4, 3⟩]]
def F3 : List (List S51) := [[⟨0, 0, 0, 0⟩, ⟨2, 12, 4, -1⟩]]
theorem new_two : newF twoF [] twoF.length = F0 := by kernel_rfl
theorem note1 : noteF F0 0 1 [⟨2, 0⟩, ⟨3, 0⟩] 0 = F1 := by kernel_rfl
theorem note2 : noteF F1 0 1 [⟨2, 0⟩] 3 = F2 := by kernel_rfl
theorem note3 : noteF F2 0 2 [] 0 = F2 := by kernel_rfl
open Go.Proofs.YtjeaojolhdfpeaaGreat.Form (uv uv_small form headForm rowForm spotForm partB flagsOf foldZ Rg enc many okProf)
theorem enc_F3 : enc F3 = ([80, 84, 70, 1, 1, 2, 0, 15, 2, 12, 4, 1], 0) := by
  have h1 : many F3 = false := by decide
  have h2 : okProf F3 = true := by decide
  unfold enc
  rw [h1, h2]
  simp [form, headForm, rowForm, spotForm, partB, flagsOf, foldZ, F3, uv_small]
theorem dec_zero : Decode.dec [80, 84, 70, 1, 1, 1, 1, 0] = (4, []) := by kernel_rfl
theorem dec_high : Decode.dec [80, 84, 70, 1, 1, 1, 2, 128, 8] = (1, []) := by kernel_rfl
theorem good_F3 : ∀ x ∈ F3, ∀ s ∈ x, Rg s := by
  unfold Rg
  decide
theorem tot_two : tot twoF twoF.length = 2 := by kernel_rfl
theorem rg_F0 : ∀ i j, -9223372036854775808 ≤ (gt F0 i j).f0 ∧ (gt F0 i j).f0 ≤ 9223372036854775807 := rg_of (by decide)
theorem rg_F1 : ∀ i j, -9223372036854775808 ≤ (gt F1 i j).f0 ∧ (gt F1 i j).f0 ≤ 9223372036854775807 := rg_of (by decide)
theorem rg_F2 : ∀ i j, -9223372036854775808 ≤ (gt F2 i j).f0 ∧ (gt F2 i j).f0 ≤ 9223372036854775807 := rg_of (by decide)
def H0 : List (List S51) := [[⟨5, 0, 0, 0⟩], [⟨9, 0, 0, 0⟩], [⟨5, 0, 0, 0⟩]]
theorem cnt_H0 : HotW.cnt H0 0 = 5 ∧ HotW.cnt H0 1 = 9 ∧ HotW.cnt H0 2 = 5 := by decide
theorem keys_H0 : ([1, 0, 2] : List Int).Perm (intKeys (HotM.Cd (HotW.cnt H0) 5 H0.length)) := by
  refine HotM.perm_keys _ _ (by decide) (fun x => ?_)
  have hc := cnt_H0
  constructor
  · intro hx
    simp at hx
    rcases hx with rfl | rfl | rfl
    · exact ⟨1, by decide, rfl, by omega⟩
    · exact ⟨0, by decide, rfl, by omega⟩
    · exact ⟨2, by decide, rfl, by omega⟩
  · rintro ⟨j, hj, rfl, _⟩
    have hj3 : j < 3 := hj
    have : j = 0 ∨ j = 1 ∨ j = 2 := by omega
    rcases this with rfl | rfl | rfl <;> decide
theorem sorted_H0 : ([1, 0, 2] : List Int).Pairwise (fun x y => HotP.lt (HotM.val (HotW.cnt H0) 5 H0.length) x y = true) := by decide
/-- Three rows of one spot each. -/
theorem rows3 {W : World} {g g1 g2 g3 : Nat} {x1 x2 x3 : S51} (hb : W.heap[g]? = some (.cells #[.slice (some ⟨g1, 0, none⟩) 1 1, .slice (some ⟨g2, 0, none⟩) 1 1, .slice (some ⟨g3, 0, none⟩) 1 1] 53 (0, 0)))
    (h1 : Kd.C k51 W (some ⟨g1, 0, none⟩) 1 [x1]) (h2 : Kd.C k51 W (some ⟨g2, 0, none⟩) 1 [x2]) (h3 : Kd.C k51 W (some ⟨g3, 0, none⟩) 1 [x3]) : Kd.C (Kd.slice 51 k51) W (some ⟨g, 0, none⟩) 3 [[x1], [x2], [x3]] := by
  refine ⟨rfl, by decide, fun _ => ⟨⟨g, 0, none⟩, rfl, fun j p hj => ?_⟩⟩
  have hc : ∀ (i : Nat) (v : Value), (#[.slice (some ⟨g1, 0, none⟩) 1 1, .slice (some ⟨g2, 0, none⟩) 1 1, .slice (some ⟨g3, 0, none⟩) 1 1] : Array Value)[i]? = some v → ∀ k u, ([v] : List Value)[k]? = some u → W.cell? ((⟨g, 0, none⟩ : Addr).add (i * 1 + k)) = some u := by
    intro i v hv k u hu
    have hk : k = 0 := by
      have := (List.getElem?_eq_some_iff.1 hu).1
      simpa using this
    subst hk
    have huv : v = u := by simpa using hu
    subst huv
    rw [add_plain, blk_cell hb, Nat.mul_one, Nat.add_zero]
    exact hv
  match j, hj with
  | 0, hj =>
    have e : [x1] = p := by simpa using hj
    subst e
    exact ⟨[_], rfl, ⟨_, 1, rfl, Nat.le_refl _, h1⟩, hc 0 _ rfl⟩
  | 1, hj =>
    have e : [x2] = p := by simpa using hj
    subst e
    exact ⟨[_], rfl, ⟨_, 1, rfl, Nat.le_refl _, h2⟩, hc 1 _ rfl⟩
  | 2, hj =>
    have e : [x3] = p := by simpa using hj
    subst e
    exact ⟨[_], rfl, ⟨_, 1, rfl, Nat.le_refl _, h3⟩, hc 2 _ rfl⟩
theorem row1 {W : World} (x : S51) : Kd.C k51 (W.alloc (.cells #[.int .i64 x.f0, .int .u16 x.f1, .int .u16 x.f2, .int .i64 x.f3] 51)) (some ⟨W.heap.size, 0, none⟩) 1 [x] := (Kd.R_reads' (lit51 W W.heap.size (fun k => k = W.heap.size) rfl (Nat.le_refl _) [x] (by simp))).2.2
theorem same_bytes : portageref0_SameBytes.f 20 [80, 84, 70, 1, 1, 2, 0, 15, 2, 12, 4, 1] [80, 84, 70, 1, 1, 2, 0, 15, 2, 12, 4, 1] = some true := by kernel_rfl
theorem hot3 (W : World) : Calls Tryz.prog 21 #[.agg #[.slice (some ⟨W.heap.size + 1 + 1 + 1, 0, none⟩) 3 3], .int .i64 5]
    ((((W.alloc (.cells #[.int .i64 5, .int .u16 0, .int .u16 0, .int .i64 0] 51)).alloc (.cells #[.int .i64 9, .int .u16 0, .int .u16 0, .int .i64 0] 51)).alloc (.cells #[.int .i64 5, .int .u16 0, .int .u16 0, .int .i64 0] 51)).alloc (.cells #[.slice (some ⟨W.heap.size, 0, none⟩) 1 1, .slice (some ⟨W.heap.size + 1, 0, none⟩) 1 1, .slice (some ⟨W.heap.size + 1 + 1, 0, none⟩) 1 1] 53))
    fun e w' => ∃ A c, e = .returned (.slice A 3 c) ∧ Kd.R (Kd.int .i64) 3 w' W.heap.size (fun k => W.heap.size ≤ k) (.slice A 3 c) [1, 0, 2] ∧ Below W.heap.size W w' := by
  have c1 := row1 (W := W) ⟨5, 0, 0, 0⟩
  have c2 := row1 (W := W.alloc (.cells #[.int .i64 5, .int .u16 0, .int .u16 0, .int .i64 0] 51)) ⟨9, 0, 0, 0⟩
  have c3 := row1 (W := (W.alloc (.cells #[.int .i64 5, .int .u16 0, .int .u16 0, .int .i64 0] 51)).alloc (.cells #[.int .i64 9, .int .u16 0, .int .u16 0, .int .i64 0] 51)) ⟨5, 0, 0, 0⟩
  have hb := below_alloc (below_alloc (below_alloc (below_alloc (Below.refl W.heap.size W) (.cells #[.int .i64 5, .int .u16 0, .int .u16 0, .int .i64 0] 51)) (.cells #[.int .i64 9, .int .u16 0, .int .u16 0, .int .i64 0] 51)) (.cells #[.int .i64 5, .int .u16 0, .int .u16 0, .int .i64 0] 51)) (.cells #[.slice (some ⟨W.heap.size, 0, none⟩) 1 1, .slice (some ⟨W.heap.size + 1, 0, none⟩) 1 1, .slice (some ⟨W.heap.size + 1 + 1, 0, none⟩) 1 1] 53)
  generalize hW1 : W.alloc (.cells #[.int .i64 5, .int .u16 0, .int .u16 0, .int .i64 0] 51) = W1 at c1 c2 c3 hb ⊢
  generalize hW2 : W1.alloc (.cells #[.int .i64 9, .int .u16 0, .int .u16 0, .int .i64 0] 51) = W2 at c2 c3 hb ⊢
  generalize hW3 : W2.alloc (.cells #[.int .i64 5, .int .u16 0, .int .u16 0, .int .i64 0] 51) = W3 at c3 hb ⊢
  have s1 : W1.heap.size = W.heap.size + 1 := by rw [← hW1]; simp [World.alloc_eq]
  have s2 : W2.heap.size = W.heap.size + 1 + 1 := by rw [← hW2, ← s1]; simp [World.alloc_eq]
  have s3 : W3.heap.size = W.heap.size + 1 + 1 + 1 := by rw [← hW3, ← s2]; simp [World.alloc_eq]
  rw [s1] at c2
  rw [s2] at c3
  have C2 : Kd.C k51 W2 (some ⟨W.heap.size, 0, none⟩) 1 [⟨5, 0, 0, 0⟩] := hW2 ▸ Kd.C_alloc c1 _
  have C3 : Kd.C k51 W3 (some ⟨W.heap.size, 0, none⟩) 1 [⟨5, 0, 0, 0⟩] := hW3 ▸ Kd.C_alloc C2 _
  have D3 : Kd.C k51 W3 (some ⟨W.heap.size + 1, 0, none⟩) 1 [⟨9, 0, 0, 0⟩] := hW3 ▸ Kd.C_alloc c2 _
  have hn := blk_new W3 (.cells #[.slice (some ⟨W.heap.size, 0, none⟩) 1 1, .slice (some ⟨W.heap.size + 1, 0, none⟩) 1 1, .slice (some ⟨W.heap.size + 1 + 1, 0, none⟩) 1 1] 53)
  rw [s3] at hn
  have hR := rows3 hn (Kd.C_alloc C3 _) (Kd.C_alloc D3 _) (Kd.C_alloc c3 _)
  refine (HotW.hot_calls (some ⟨W.heap.size + 1 + 1 + 1, 0, none⟩) 3 H0 5 _ hR (by decide) (by decide) (by decide) [1, 0, 2] keys_H0 sorted_H0).mono ?_
  rintro e w' ⟨v, rfl, hr, hb'⟩
  obtain ⟨A, c, rfl⟩ := Kd.R_slice hr
  have := hb.size
  exact ⟨A, c, rfl, Kd.R_mono (Kd.R_lower hr this) (fun k hk => Nat.le_trans this hk), below_step hb hb'⟩
def r6_9_T : Bool × List (List Nat × List Nat) := (true, [([], []), ([0], [0]), ([], []), ([1, 2], [1, 2]), ([3, 1], [3]), ([4], [4]), ([5, 4, 4], [4, 5]), ([4], [4]), ([6, 7, 4], [4, 6, 7]), ([4, 8], [4, 8]), ([9, 6], [9]), ([10], [10]), ([11, 10], [10, 11]), ([12, 10], [10, 12]), ([13, 10], [10, 13]), ([10, 14], [10, 14]), ([15, 10], [15]), ([16], [16]), ([17, 16], [16, 17]), ([18, 16], [16, 18]), ([19, 16], [16, 19]), ([20, 16], [16, 20]), ([21, 16], [16, 21]), ([16, 22], [16, 22])])
def r6_9_B : List Nat := [0, 1, 0, 7, 15, 31, 63, 31, 255, 511, 1023, 2047, 4095, 8191, 16383, 32767, 65535, 131071, 262143, 524287, 1048575, 2097151, 4194303, 8388607]
theorem r6_9_tab : rtab .any (opsOf Tryz.f6 9) = r6_9_T := by kernel_rfl
theorem r6_9_bits : waitsOk r6_9_T.2 r6_9_B = true := by kernel_rfl
set_option maxHeartbeats 16000000 in
set_option maxRecDepth 100000 in
theorem shown_calls (w : World) : Calls Tryz.prog 6 #[] w fun e w' => e = .returned (.bool true) ∧ Below w.heap.size w w' := by
  go_enter Tryz.func6, Tryz.ntmps6
  go_wp2_with fail
  -- the book
  refine (portagelaw18_two.calls [] twoF w rfl).mono ?_
  rintro e W1 ⟨v0, v1, rfl, hr0, hr1, hb1⟩
  obtain ⟨A0, c0, rfl⟩ := Kd.R_slice hr0
  obtain ⟨A1, c1, rfl⟩ := Kd.N_slice hr1
  have h1 := Kd.N_reads' hr1
  have hN := new_calls A0 c0 0 A1 c1 twoF none 0 [] W1 h1.2.2 (Kd.C_nil _ _) (Nat.le_refl _) (by decide) (by rw [tot_two]; decide)
  rw [new_two, tot_two] at hN
  have HN := Aside0.mk hN
  have HB := Aside0.mk hb1
  clear hr0 hr1 hb1 h1 hN
  go_wp2_with fail
  refine HN.out.mono ?_
  rintro e W2 ⟨bp, S, rfl, hB2, hS2, hb2⟩
  have HS : Aside0 (BS w W2 bp 2 F0) := ⟨⟨_, bk_shrink hB2, fun k hk => ⟨by have := hS2 k hk.1; have := HB.out.size; omega, hk.2⟩, below_step HB.out hb2⟩⟩
  clear HN hB2 hS2 hb2 HB
  -- three notes
  have hn := note_lit w bp 2 F0 F1 0 1 [⟨2, 0⟩, ⟨3, 0⟩] 0 W2 HS.out (by decide) (by decide) rg_F0 note1
  change Calls Tryz.prog 17 #[.pointer (some ⟨bp, 0, none⟩), .int .i64 0, .int .i64 1, .slice (some ⟨W2.heap.size, 0, none⟩) 2 2, .int .i64 0] (W2.alloc (.cells #[.int .i64 2, .int .i64 0, .int .i64 3, .int .i64 0] 48)) _ at hn
  have HN := Aside0.mk hn
  clear hn
  go_wp2_with fail
  refine HN.out.mono ?_
  rintro e W3 ⟨rfl, hS3⟩
  replace HS := Aside0.mk hS3
  clear HN hS3
  have hn := note_lit w bp 3 F1 F2 0 1 [⟨2, 0⟩] 3 W3 HS.out (by decide) (by decide) rg_F1 note2
  change Calls Tryz.prog 17 #[.pointer (some ⟨bp, 0, none⟩), .int .i64 0, .int .i64 1, .slice (some ⟨W3.heap.size, 0, none⟩) 1 1, .int .i64 3] (W3.alloc (.cells #[.int .i64 2, .int .i64 0] 48)) _ at hn
  have HN := Aside0.mk hn
  clear hn
  go_wp2_with fail
  refine HN.out.mono ?_
  rintro e W4 ⟨rfl, hS4⟩
  replace HS := Aside0.mk hS4
  clear HN hS4
  go_wp2_with fail
  refine (note_row w bp 4 F2 F2 0 2 none [] 0 W4 W4 HS.out (by decide) (by decide) rg_F2 note3 (Below.refl _ _) (Kd.R_nil _ _ _ _ _)).mono ?_
  rintro e W5 ⟨rfl, hS5⟩
  replace HS := Aside0.mk hS5
  clear hS5
  -- the profile
  obtain ⟨S5, hB5, _, hb5⟩ := HS.out
  have HP := Aside0.mk (profile_calls bp 5 S5 F2 W5 hB5 (by decide))
  have HB := Aside0.mk hb5
  clear hB5 hb5 HS
  go_wp2_with fail
  refine HP.out.mono ?_
  rintro e W6 ⟨v6, rfl, hS6, hb6⟩
  have HV := Aside0.mk (Kd.S_lower (Kd.S_alloc hS6 (.cells #[v6] 25)) HB.out.size)
  have B2 := Aside0.mk (blk_new W6 (.cells #[v6] 25))
  replace HB := Aside0.mk (below_step HB.out (below_alloc hb6 (.cells #[v6] 25)))
  obtain ⟨g6, c6, hv6, _⟩ := Kd.S_form hS6 (by decide)
  have hl2 : F2.length = 1 := rfl
  rw [hl2] at hv6
  subst hv6
  clear hS6 hb6 HP hl2
  go_upto_region 8 with fail
  generalize W6.alloc (.cells #[.slice (some ⟨g6, 0, none⟩) 1 c6] 25) = W7 at HV B2 HB ⊢
  generalize W6.heap.size = g2 at B2 ⊢
  go_upto_region 9 with fail
  have bl8 : Below W7.heap.size W7 (W7.alloc (.cells #[.int .i64 2, .int .u16 12, .int .u16 4, .int .i64 3] 51)).drew := below_drew (below_alloc (Below.refl _ _) _)
  have B3 : Aside0 ((W7.alloc (.cells #[.int .i64 2, .int .u16 12, .int .u16 4, .int .i64 3] 51)).drew.heap[W7.heap.size]? = some (.cells #[.int .i64 2, .int .u16 12, .int .u16 4, .int .i64 3] 51 (0, 0))) := ⟨blk_new _ _⟩
  replace HV := Aside0.mk (Kd.S_below HV.out bl8)
  replace B2 := Aside0.mk (blk_below B2.out bl8)
  replace HB := Aside0.mk (below_step HB.out bl8)
  clear bl8
  generalize W7.alloc (.cells #[.int .i64 2, .int .u16 12, .int .u16 4, .int .i64 3] 51) = W8 at HV B2 B3 HB ⊢
  generalize W7.heap.size = g3 at B3 ⊢
  obtain ⟨oki, cs, _, hcM, hcc, _, hH⟩ := Kd.S_lend HV.out ([] : List S51) 0 (by decide) (by decide)
  obtain ⟨vr, rfl, hr⟩ := hcM
  have hr : Kd.R k51 51 W8.drew w.heap.size oki vr [⟨0, 0, 0, 0⟩, ⟨2, 12, 4, 3⟩] := hr
  obtain ⟨gr, cr, hvr, _⟩ := Kd.R_form hr (by decide)
  have hl2 : ([⟨0, 0, 0, 0⟩, ⟨2, 12, 4, 3⟩] : List S51).length = 2 := rfl
  rw [hl2] at hvr
  subst hvr
  have hc60 : W8.drew.cell? ⟨g6, 0, none⟩ = some (.slice (some ⟨gr, 0, none⟩) 2 cr) := hcc 0 _ rfl
  have HR := Aside0.mk hr
  have HH := Aside0.mk hH
  have HC6 := Aside0.mk hc60
  clear hr hH hcc hl2 hc60
  refine start_ (n := 24) (S := fun w' => w'.cell? ⟨g2, 0, none⟩ = some (.slice (some ⟨g6, 0, none⟩) 1 c6) ∧ w'.cell? ⟨g3, 0, none⟩ = some (.int .i64 2) ∧ w'.cell? ⟨g3, 1, none⟩ = some (.int .u16 12) ∧ w'.cell? ⟨g3, 2, none⟩ = some (.int .u16 4) ∧ w'.cell? ⟨g3, 3, none⟩ = some (.int .i64 3) ∧ w'.cell? ⟨g6, 0, none⟩ = some (.slice (some ⟨gr, 0, none⟩) 2 cr)) (ds := []) #[false, false, false, false, false, false, false, false, false, false, false, false, false, false, false, false, false, false, false, false, false, false, false, false] (by kernel_rfl) rfl rfl ⟨(blk_cell B2.out 0).trans rfl, (blk_cell B3.out 0).trans rfl, (blk_cell B3.out 1).trans rfl, (blk_cell B3.out 2).trans rfl, (blk_cell B3.out 3).trans rfl, HC6.out⟩ (fun hHeld => ?_)
  refine with_tabW r6_9_tab r6_9_bits (fun HT_ HW_ => ?_)
  generalize World.drew W8 = W9 at HV B2 B3 HB HR HH HC6 hHeld ⊢
  refine take_ (i := 0) (N := some 30) (v := ?_) (a' := ?_) #[true, false, false, false, false, false, false, false, false, false, false, false, false, false, false, false, false, false, false, false, false, false, false, false] rfl rfl (take_ofW HT_.out HW_.out (by kernel_rfl)) (fun _ _ _ h => h) (Or.inl ⟨by rfl, ?_⟩) hHeld ?_ ?_
  rotate_left
  · rintro w' ⟨s0, s1, s2, s3, s4, s5⟩
    go_simp
    with_reducible rfl
  rotate_left
  · simp only [Act.put, List.setIfInBounds_toArray, List.set_cons_zero, List.set_cons_succ, i64_w, i32_w]
    rfl
  refine pure_ (i := 2) (N := some 32) (v := ?_) (a' := ?_) #[true, false, true, false, false, false, false, false, false, false, false, false, false, false, false, false, false, false, false, false, false, false, false, false] rfl rfl (any_of HT_.out (by kernel_rfl)) (fun _ _ _ h => h) (Or.inl ⟨by rfl, ?_⟩) ?_ ?_
  rotate_left
  · intro w'
    go_simp
    with_reducible rfl
  rotate_left
  · simp only [Act.put, List.setIfInBounds_toArray, List.set_cons_zero, List.set_cons_succ, i64_w, i32_w]
    rfl
  refine one_ (i := 1) (N := some 31) #[true, true, true, false, false, false, false, false, false, false, false, false, false, false, false, false, false, false, false, false, false, false, false, false] rfl rfl (one_of HT_.out (by kernel_rfl)) (by decide) (fun K hK => ?_)
  refine goes_ Tryz.func18 (by kernel_rfl) rfl #[.agg #[.slice (some ⟨g6, 0, none⟩) 1 c6], .int .i64 0, .int .i64 0] (by rfl) rfl rfl (by (try simp only [List.map_toArray, List.map_cons, List.map_nil]); first | done | rfl) ?_
  refine (profile_At.calls (some ⟨g6, 0, none⟩) c6 F2 0 0 0 0 0 0 W9 (Kd.S_reads' HV.out).2.2 (Kd.S_reads' HV.out).2.1 (by kernel_rfl)).mono ?_
  rintro e W10 ⟨rfl, hb10⟩
  refine ⟨_, rfl, ?_⟩
  replace HV := Aside0.mk (Kd.S_below HV.out hb10)
  replace B2 := Aside0.mk (blk_below B2.out hb10)
  replace B3 := Aside0.mk (blk_below B3.out hb10)
  replace HB := Aside0.mk (below_step HB.out hb10)
  replace HR := Aside0.mk (Kd.R_below HR.out hb10)
  replace HH := Aside0.mk (Kd.H_below HH.out hb10)
  replace HC6 := Aside0.mk (pw_cell_below hb10 HC6.out)
  clear hb10
  refine hK.out _ _ ⟨(blk_cell B2.out 0).trans rfl, (blk_cell B3.out 0).trans rfl, (blk_cell B3.out 1).trans rfl, (blk_cell B3.out 2).trans rfl, (blk_cell B3.out 3).trans rfl, HC6.out⟩ (fun hHeld => ?_)
  clear hK K
  refine norm_ (a' := ?_) ?_ ?_
  rotate_left
  · show Act.put _ (some 31) _ = _
    simp only [Act.put, List.setIfInBounds_toArray, List.set_cons_zero, List.set_cons_succ, i64_w, i32_w]
    rfl
  refine pure_ (i := 3) (N := some 33) (v := ?_) (a' := ?_) #[true, true, true, true, false, false, false, false, false, false, false, false, false, false, false, false, false, false, false, false, false, false, false, false] rfl rfl (any_of HT_.out (by kernel_rfl)) (fun _ _ _ h => h) (Or.inl ⟨by rfl, ?_⟩) ?_ ?_
  rotate_left
  · intro w'
    go_simp
    with_reducible rfl
  rotate_left
  · simp only [Act.put, List.setIfInBounds_toArray, List.set_cons_zero, List.set_cons_succ, i64_w, i32_w]
    rfl
  refine pure_ (i := 4) (N := some 34) (v := ?_) (a' := ?_) #[true, true, true, true, true, false, false, false, false, false, false, false, false, false, false, false, false, false, false, false, false, false, false, false] rfl rfl (any_of HT_.out (by kernel_rfl)) (fun _ _ _ h => h) (Or.inl ⟨by rfl, ?_⟩) ?_ ?_
  rotate_left
  · intro w'
    go_simp
    with_reducible rfl
  rotate_left
  · simp only [Act.put, List.setIfInBounds_toArray, List.set_cons_zero, List.set_cons_succ, i64_w, i32_w]
    rfl
  refine take_ (i := 5) (N := some 35) (v := ?_) (a' := ?_) #[true, true, true, true, true, true, false, false, false, false, false, false, false, false, false, false, false, false, false, false, false, false, false, false] rfl rfl (take_ofW HT_.out HW_.out (by kernel_rfl)) (fun _ _ _ h => h) (Or.inl ⟨by rfl, ?_⟩) hHeld ?_ ?_
  rotate_left
  · rintro w' ⟨s0, s1, s2, s3, s4, s5⟩
    go_simp
    with_reducible rfl
  rotate_left
  · simp only [Act.put, List.setIfInBounds_toArray, List.set_cons_zero, List.set_cons_succ, i64_w, i32_w]
    rfl
  refine take_ (i := 7) (N := some 37) (v := ?_) (a' := ?_) #[true, true, true, true, true, true, false, true, false, false, false, false, false, false, false, false, false, false, false, false, false, false, false, false] rfl rfl (take_ofW HT_.out HW_.out (by kernel_rfl)) (fun _ _ _ h => h) (Or.inl ⟨by rfl, ?_⟩) hHeld ?_ ?_
  rotate_left
  · rintro w' ⟨s0, s1, s2, s3, s4, s5⟩
    go_simp
    with_reducible rfl
  rotate_left
  · simp only [Act.put, List.setIfInBounds_toArray, List.set_cons_zero, List.set_cons_succ, i64_w, i32_w]
    rfl
  refine one_ (i := 6) (N := some 36) #[true, true, true, true, true, true, true, true, false, false, false, false, false, false, false, false, false, false, false, false, false, false, false, false] rfl rfl (one_of HT_.out (by kernel_rfl)) (by decide) (fun K hK => ?_)
  refine goes_ Tryz.func18 (by kernel_rfl) rfl #[.agg #[.slice (some ⟨g6, 0, none⟩) 1 c6], .int .i64 0, .int .i64 1] (by rfl) rfl rfl (by (try simp only [List.map_toArray, List.map_cons, List.map_nil]); first | done | rfl) ?_
  refine (profile_At.calls (some ⟨g6, 0, none⟩) c6 F2 0 1 2 12 4 3 W10 (Kd.S_reads' HV.out).2.2 (Kd.S_reads' HV.out).2.1 (by kernel_rfl)).mono ?_
  rintro e W11 ⟨rfl, hb11⟩
  refine ⟨_, rfl, ?_⟩
  replace HV := Aside0.mk (Kd.S_below HV.out hb11)
  replace B2 := Aside0.mk (blk_below B2.out hb11)
  replace B3 := Aside0.mk (blk_below B3.out hb11)
  replace HB := Aside0.mk (below_step HB.out hb11)
  replace HR := Aside0.mk (Kd.R_below HR.out hb11)
  replace HH := Aside0.mk (Kd.H_below HH.out hb11)
  replace HC6 := Aside0.mk (pw_cell_below hb11 HC6.out)
  clear hb11
  refine hK.out _ _ ⟨(blk_cell B2.out 0).trans rfl, (blk_cell B3.out 0).trans rfl, (blk_cell B3.out 1).trans rfl, (blk_cell B3.out 2).trans rfl, (blk_cell B3.out 3).trans rfl, HC6.out⟩ (fun hHeld => ?_)
  clear hK K
  refine norm_ (a' := ?_) ?_ ?_
  rotate_left
  · show Act.put _ (some 36) _ = _
    simp only [Act.put, List.setIfInBounds_toArray, List.set_cons_zero, List.set_cons_succ, i64_w, i32_w]
    rfl
  refine pure_ (i := 8) (N := some 38) (v := ?_) (a' := ?_) #[true, true, true, true, true, true, true, true, true, false, false, false, false, false, false, false, false, false, false, false, false, false, false, false] rfl rfl (any_of HT_.out (by kernel_rfl)) (fun _ _ _ h => h) (Or.inl ⟨by rfl, ?_⟩) ?_ ?_
  rotate_left
  · intro w'
    go_simp
    with_reducible rfl
  rotate_left
  · simp only [Act.put, List.setIfInBounds_toArray, List.set_cons_zero, List.set_cons_succ, i64_w, i32_w]
    rfl
  refine pure_ (i := 9) (N := some 39) (v := ?_) (a' := ?_) #[true, true, true, true, true, true, true, true, true, true, false, false, false, false, false, false, false, false, false, false, false, false, false, false] rfl rfl (any_of HT_.out (by kernel_rfl)) (fun _ _ _ h => h) (Or.inl ⟨by rfl, ?_⟩) ?_ ?_
  rotate_left
  · intro w'
    go_simp
    with_reducible rfl
  rotate_left
  · simp only [Act.put, List.setIfInBounds_toArray, List.set_cons_zero, List.set_cons_succ, i64_w, i32_w]
    rfl
  refine pure_ (i := 10) (N := some 40) (v := ?_) (a' := ?_) #[true, true, true, true, true, true, true, true, true, true, true, false, false, false, false, false, false, false, false, false, false, false, false, false] rfl rfl (any_of HT_.out (by kernel_rfl)) (fun _ _ _ h => h) (Or.inl ⟨by rfl, ?_⟩) ?_ ?_
  rotate_left
  · intro w'
    go_simp
    with_reducible rfl
  rotate_left
  · simp only [Act.put, List.setIfInBounds_toArray, List.set_cons_zero, List.set_cons_succ, i64_w, i32_w]
    rfl
  refine pure_ (i := 11) (N := some 41) (v := ?_) (a' := ?_) #[true, true, true, true, true, true, true, true, true, true, true, true, false, false, false, false, false, false, false, false, false, false, false, false] rfl rfl (any_of HT_.out (by kernel_rfl)) (fun _ _ _ h => h) (Or.inl ⟨by rfl, ?_⟩) ?_ ?_
  rotate_left
  · intro w'
    go_simp
    with_reducible rfl
  rotate_left
  · simp only [Act.put, List.setIfInBounds_toArray, List.set_cons_zero, List.set_cons_succ, i64_w, i32_w]
    rfl
  refine take_ (i := 12) (N := some 42) (v := ?_) (a' := ?_) #[true, true, true, true, true, true, true, true, true, true, true, true, true, false, false, false, false, false, false, false, false, false, false, false] rfl rfl (take_ofW HT_.out HW_.out (by kernel_rfl)) (fun _ _ _ h => h) (Or.inl ⟨by rfl, ?_⟩) hHeld ?_ ?_
  rotate_left
  · rintro w' ⟨s0, s1, s2, s3, s4, s5⟩
    go_simp
    with_reducible rfl
  rotate_left
  · simp only [Act.put, List.setIfInBounds_toArray, List.set_cons_zero, List.set_cons_succ, i64_w, i32_w]
    rfl
  refine pure_ (i := 13) (N := some 43) (v := ?_) (a' := ?_) #[true, true, true, true, true, true, true, true, true, true, true, true, true, true, false, false, false, false, false, false, false, false, false, false] rfl rfl (any_of HT_.out (by kernel_rfl)) (fun _ _ _ h => h) (Or.inl ⟨by rfl, ?_⟩) ?_ ?_
  rotate_left
  · intro w'
    go_simp
    with_reducible rfl
  rotate_left
  · simp only [Act.put, List.setIfInBounds_toArray, List.set_cons_zero, List.set_cons_succ, i64_w, i32_w]
    rfl
  refine pure_ (i := 14) (N := some 44) (v := ?_) (a' := ?_) #[true, true, true, true, true, true, true, true, true, true, true, true, true, true, true, false, false, false, false, false, false, false, false, false] rfl rfl (any_of HT_.out (by kernel_rfl)) (fun _ _ _ h => h) (Or.inl ⟨by rfl, ?_⟩) ?_ ?_
  rotate_left
  · intro w'
    go_simp
    with_reducible rfl
  rotate_left
  · simp only [Act.put, List.setIfInBounds_toArray, List.set_cons_zero, List.set_cons_succ, i64_w, i32_w]
    rfl
  refine pure_ (i := 15) (N := some 45) (v := ?_) (a' := ?_) #[true, true, true, true, true, true, true, true, true, true, true, true, true, true, true, true, false, false, false, false, false, false, false, false] rfl rfl (any_of HT_.out (by kernel_rfl)) (fun _ _ _ h => h) (Or.inl ⟨by rfl, ?_⟩) ?_ ?_
  rotate_left
  · intro w'
    go_simp
    with_reducible rfl
  rotate_left
  · simp only [Act.put, List.setIfInBounds_toArray, List.set_cons_zero, List.set_cons_succ, i64_w, i32_w]
    rfl
  refine pure_ (i := 16) (N := some 46) (v := ?_) (a' := ?_) #[true, true, true, true, true, true, true, true, true, true, true, true, true, true, true, true, true, false, false, false, false, false, false, false] rfl rfl (any_of HT_.out (by kernel_rfl)) (fun _ _ _ h => h) (Or.inl ⟨by rfl, ?_⟩) ?_ ?_
  rotate_left
  · intro w'
    go_simp
    with_reducible rfl
  rotate_left
  · simp only [Act.put, List.setIfInBounds_toArray, List.set_cons_zero, List.set_cons_succ, i64_w, i32_w]
    rfl
  refine pure_ (i := 17) (N := some 47) (v := ?_) (a' := ?_) #[true, true, true, true, true, true, true, true, true, true, true, true, true, true, true, true, true, true, false, false, false, false, false, false] rfl rfl (any_of HT_.out (by kernel_rfl)) (fun _ _ _ h => h) (Or.inl ⟨by rfl, ?_⟩) ?_ ?_
  rotate_left
  · intro w'
    go_simp
    with_reducible rfl
  rotate_left
  · simp only [Act.put, List.setIfInBounds_toArray, List.set_cons_zero, List.set_cons_succ, i64_w, i32_w]
    rfl
  refine take_ (i := 18) (N := some 48) (v := ?_) (a' := ?_) #[true, true, true, true, true, true, true, true, true, true, true, true, true, true, true, true, true, true, true, false, false, false, false, false] rfl rfl (take_ofW HT_.out HW_.out (by kernel_rfl)) (fun _ _ _ h => h) (Or.inl ⟨by rfl, ?_⟩) hHeld ?_ ?_
  rotate_left
  · rintro w' ⟨s0, s1, s2, s3, s4, s5⟩
    go_simp
    with_reducible rfl
  rotate_left
  · simp only [Act.put, List.setIfInBounds_toArray, List.set_cons_zero, List.set_cons_succ, i64_w, i32_w]
    rfl
  refine pure_ (i := 19) (N := some 49) (v := ?_) (a' := ?_) #[true, true, true, true, true, true, true, true, true, true, true, true, true, true, true, true, true, true, true, true, false, false, false, false] rfl rfl (any_of HT_.out (by kernel_rfl)) (fun _ _ _ h => h) (Or.inl ⟨by rfl, ?_⟩) ?_ ?_
  rotate_left
  · intro w'
    go_simp
    with_reducible rfl
  rotate_left
  · simp only [Act.put, List.setIfInBounds_toArray, List.set_cons_zero, List.set_cons_succ, i64_w, i32_w]
    rfl
  refine take_ (i := 20) (N := some 50) (v := ?_) (a' := ?_) #[true, true, true, true, true, true, true, true, true, true, true, true, true, true, true, true, true, true, true, true, true, false, false, false] rfl rfl (take_ofW HT_.out HW_.out (by kernel_rfl)) (fun _ _ _ h => h) (Or.inl ⟨by rfl, ?_⟩) hHeld ?_ ?_
  rotate_left
  · rintro w' ⟨s0, s1, s2, s3, s4, s5⟩
    go_simp
    with_reducible rfl
  rotate_left
  · simp only [Act.put, List.setIfInBounds_toArray, List.set_cons_zero, List.set_cons_succ, i64_w, i32_w]
    rfl
  refine pure_ (i := 21) (N := some 51) (v := ?_) (a' := ?_) #[true, true, true, true, true, true, true, true, true, true, true, true, true, true, true, true, true, true, true, true, true, true, false, false] rfl rfl (any_of HT_.out (by kernel_rfl)) (fun _ _ _ h => h) (Or.inl ⟨by rfl, ?_⟩) ?_ ?_
  rotate_left
  · intro w'
    go_simp
    with_reducible rfl
  rotate_left
  · simp only [Act.put, List.setIfInBounds_toArray, List.set_cons_zero, List.set_cons_succ, i64_w, i32_w]
    rfl
  refine pure_ (i := 22) (N := some 52) (v := ?_) (a' := ?_) #[true, true, true, true, true, true, true, true, true, true, true, true, true, true, true, true, true, true, true, true, true, true, true, false] rfl rfl (any_of HT_.out (by kernel_rfl)) (fun _ _ _ h => h) (Or.inl ⟨by rfl, ?_⟩) ?_ ?_
  rotate_left
  · intro w'
    go_simp
    with_reducible rfl
  rotate_left
  · simp only [Act.put, List.setIfInBounds_toArray, List.set_cons_zero, List.set_cons_succ, i64_w, i32_w]
    rfl
  refine pure_ (i := 23) (N := some 53) (v := ?_) (a' := ?_) #[true, true, true, true, true, true, true, true, true, true, true, true, true, true, true, true, true, true, true, true, true, true, true, true] rfl rfl (any_of HT_.out (by kernel_rfl)) (fun _ _ _ h => h) (Or.inl ⟨by rfl, ?_⟩) ?_ ?_
  rotate_left
  · intro w'
    go_simp
    with_reducible rfl
  rotate_left
  · simp only [Act.put, List.setIfInBounds_toArray, List.set_cons_zero, List.set_cons_succ, i64_w, i32_w]
    rfl
  refine done_ (done_of HT_.out (by kernel_rfl)) ?_
  clear hHeld
  go_upto_region 11 with fail
  -- one spot is written over
  obtain ⟨cs, hcl, hM, hcc, hff⟩ := Kd.R_elem HR.out z51 1 (by decide) (by decide)
  have hM2 := k51_openM hM
  subst hM2
  have hx : W11.cell? ⟨gr, 7, none⟩ = some (.int .i64 3) := hcc 3 _ rfl
  have hf : W11.frozen? ⟨gr, 7, none⟩ = false := hff 3
  obtain ⟨h2, h4⟩ := Kd.R_seg HR.out 1 (by decide) (by decide) (j := 3) (seg := [.int .i64 (-1)]) (x' := (⟨2, 12, 4, -1⟩ : S51)) (okp := fun _ => False) hcl hcc (by decide) (k51_mkM _ _ _ (⟨2, 12, 4, -1⟩ : S51)) (fun _ h => h.elim)
  change Kd.R k51 51 (W11.setCell ⟨gr, 7, none⟩ (.int .i64 (-1))) w.heap.size oki (.slice (some ⟨gr, 0, none⟩) 2 cr) [⟨0, 0, 0, 0⟩, ⟨2, 12, 4, -1⟩] at h2
  change W11.grownBy (W11.setCell ⟨gr, 7, none⟩ (.int .i64 (-1))) (some gr) at h4
  have hgr : oki gr := HR.out.1 gr rfl
  have hS12 := Kd.H_back (x' := ([⟨0, 0, 0, 0⟩, ⟨2, 12, 4, -1⟩] : List S51)) (okp := oki) (Kd.H_grown HH.out h4 (fun k hk => by cases hk; exact hgr)) ⟨_, rfl, h2⟩ (fun k hk => hk)
  change Kd.S kr 53 (W11.setCell ⟨gr, 7, none⟩ (.int .i64 (-1))) w.heap.size _ (.slice (some ⟨g6, 0, none⟩) 1 c6) F3 at hS12
  have hbgr := Kd.R_base HR.out gr rfl
  have hc2 : W11.cell? ⟨g2, 0, none⟩ = some (.slice (some ⟨g6, 0, none⟩) 1 c6) := (blk_cell B2.out 0).trans rfl
  have hc6 := HC6.out
  have HS12 := Aside0.mk hS12
  obtain ⟨cellsr, hcr⟩ := Kd.R_typed HR.out gr rfl
  replace B2 := Aside0.mk (blk_grown B2.out h4 (fun e => blk_ne B2.out hcr (by decide) (by injection e)))
  replace HB := Aside0.mk (HB.out.grown h4 HB.out.size (fun k hk => by cases hk; exact hbgr))
  clear h2 h4 hgr hS12 hcl hM hcc hff hcr hbgr HR HH HV B3 HC6
  go_upto_region 12 with fail
  clear hx hf hc2 hc6
  generalize W11.setCell ⟨gr, 7, none⟩ (.int .i64 (-1)) = W12 at HS12 B2 HB ⊢
  -- its form
  have hc2 : W12.cell? ⟨g2, 0, none⟩ = some (.slice (some ⟨g6, 0, none⟩) 1 c6) := (blk_cell B2.out 0).trans rfl
  go_wp2_with fail
  clear hc2
  have he := Enc.encode (some ⟨g6, 0, none⟩) c6 F3 W12 (Kd.S_reads' HS12.out).2.2 good_F3
  unfold Enc.Encoded at he
  rw [enc_F3] at he
  refine he.mono ?_
  rintro e W13 ⟨v13, rfl, hr13, hb13⟩
  have HE := Aside0.mk (Kd.R_lower hr13 HB.out.size)
  replace HB := Aside0.mk (below_step HB.out hb13)
  clear he hr13 hb13 HS12 B2
  obtain ⟨g13, c13, hv13, _⟩ := Kd.R_form HE.out (by decide)
  have hl13 : ([80, 84, 70, 1, 1, 2, 0, 15, 2, 12, 4, 1] : List Int).length = 12 := rfl
  rw [hl13] at hv13
  subst hv13
  clear hl13
  go_upto_region 13 with fail
  -- two inputs that are not the form
  have hd := Decode.decode (some ⟨W13.heap.size, 0, none⟩) 8 [80, 84, 70, 1, 1, 1, 1, 0] (W13.alloc (.cells (nums .u8 [80, 84, 70, 1, 1, 1, 1, 0]).toArray 5)) (Enc.new_bytes W13 [80, 84, 70, 1, 1, 1, 1, 0] (0, 0) (by simp)) (by simp) (by unfold Reader.Bytes; decide)
  rw [dec_zero] at hd
  change Calls Tryz.prog 20 #[.slice (some ⟨W13.heap.size, 0, none⟩) 8 8] (W13.alloc (.cells #[.int .u8 80, .int .u8 84, .int .u8 70, .int .u8 1, .int .u8 1, .int .u8 1, .int .u8 1, .int .u8 0] 5)) _ at hd
  have HD := Aside0.mk hd
  clear hd
  go_wp2_with fail
  refine HD.out.mono ?_
  rintro e W14 ⟨v14, rfl, hr14, hb14⟩
  obtain ⟨A14, c14, rfl⟩ := Kd.R_slice hr14
  simp only [List.length_nil]
  replace HE := Aside0.mk (Kd.R_below (Kd.R_below HE.out (below_alloc (Below.refl _ _) _)) hb14)
  replace HB := Aside0.mk (below_step (below_alloc HB.out _) hb14)
  clear hr14 hb14 HD
  go_upto_region 14 with fail
  generalize hW15 : W14.alloc (.cells #[.slice A14 0 c14] 25) = W15
  have bl15 : Below W14.heap.size W14 W15 := hW15 ▸ below_alloc (Below.refl _ _) _
  replace HE := Aside0.mk (Kd.R_below HE.out bl15)
  replace HB := Aside0.mk (below_step HB.out bl15)
  clear hW15 bl15
  have hd := Decode.decode (some ⟨W15.heap.size, 0, none⟩) 9 [80, 84, 70, 1, 1, 1, 2, 128, 8] (W15.alloc (.cells (nums .u8 [80, 84, 70, 1, 1, 1, 2, 128, 8]).toArray 5)) (Enc.new_bytes W15 [80, 84, 70, 1, 1, 1, 2, 128, 8] (0, 0) (by simp)) (by simp) (by unfold Reader.Bytes; decide)
  rw [dec_high] at hd
  change Calls Tryz.prog 20 #[.slice (some ⟨W15.heap.size, 0, none⟩) 9 9] (W15.alloc (.cells #[.int .u8 80, .int .u8 84, .int .u8 70, .int .u8 1, .int .u8 1, .int .u8 1, .int .u8 2, .int .u8 128, .int .u8 8] 5)) _ at hd
  have HD := Aside0.mk hd
  clear hd
  go_wp2_with fail
  refine HD.out.mono ?_
  rintro e W16 ⟨v16, rfl, hr16, hb16⟩
  obtain ⟨A16, c16, rfl⟩ := Kd.R_slice hr16
  simp only [List.length_nil]
  replace HE := Aside0.mk (Kd.R_below (Kd.R_below HE.out (below_alloc (Below.refl _ _) _)) hb16)
  replace HB := Aside0.mk (below_step (below_alloc HB.out _) hb16)
  clear hr16 hb16 HD
  go_upto_region 15 with fail
  generalize hW17 : W16.alloc (.cells #[.slice A16 0 c16] 25) = W17
  have bl17 : Below W16.heap.size W16 W17 := hW17 ▸ below_alloc (Below.refl _ _) _
  replace HE := Aside0.mk (Kd.R_below HE.out bl17)
  replace HB := Aside0.mk (below_step HB.out bl17)
  clear hW17 bl17
  -- the hot ones of three
  go_wp2_with fail
  refine (hot3 W17).mono ?_
  rintro e W18 ⟨A18, c18, rfl, hr18, hb18⟩
  replace HE := Aside0.mk (Kd.R_below HE.out hb18)
  replace HB := Aside0.mk (below_step HB.out hb18)
  obtain ⟨g18, _, heq, _⟩ := Kd.R_form hr18 (by decide)
  injection heq with heq _ _
  subst heq
  obtain ⟨_, e1, hx0⟩ := Kd.at_int (Kd.R_reads' hr18).2.2 0 (by decide) (by decide)
  injection e1 with e1
  subst e1
  obtain ⟨_, e1, hx1⟩ := Kd.at_int (Kd.R_reads' hr18).2.2 1 (by decide) (by decide)
  injection e1 with e1
  subst e1
  obtain ⟨_, e1, hx2⟩ := Kd.at_int (Kd.R_reads' hr18).2.2 2 (by decide) (by decide)
  injection e1 with e1
  subst e1
  change W18.cell? ⟨g18, 0, none⟩ = some (.int .i64 1) at hx0
  change W18.cell? ⟨g18, 1, none⟩ = some (.int .i64 0) at hx1
  change W18.cell? ⟨g18, 2, none⟩ = some (.int .i64 2) at hx2
  clear hr18 hb18
  go_wp2_with fail
  have hre := Kd.R_reads' HE.out
  refine (portageref0_SameBytes.calls 20 (some ⟨g13, 0, none⟩) c13 [80, 84, 70, 1, 1, 2, 0, 15, 2, 12, 4, 1] (some ⟨W18.heap.size, 0, none⟩) 12 [80, 84, 70, 1, 1, 2, 0, 15, 2, 12, 4, 1] true (W18.alloc (.cells (nums .u8 [80, 84, 70, 1, 1, 2, 0, 15, 2, 12, 4, 1]).toArray 5)) (Kd.C_alloc hre.2.2 _) hre.2.1 (Enc.new_bytes W18 _ (0, 0) (by simp)) (by simp) same_bytes).mono ?_
  rintro e W19 ⟨rfl, hd19⟩
  have HB2 := Aside0.mk (below_step HB.out (below_step (below_alloc (Below.refl W18.heap.size W18) (.cells (nums .u8 [80, 84, 70, 1, 1, 2, 0, 15, 2, 12, 4, 1]).toArray 5)) hd19.below))
  clear hd19 hre hx0 hx1 hx2
  go_wp2_with fail
  go_ret
  exact ⟨rfl, HB2.out⟩
end Go.Proofs.YtjeaojolhdfpeaaGreat.FormsS
