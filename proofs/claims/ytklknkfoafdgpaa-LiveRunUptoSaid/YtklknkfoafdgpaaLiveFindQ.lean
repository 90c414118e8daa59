/- The reference's search, in plain words: sound, closed at its end, and growing. -/
import Derived.Test.YtklknkfoafdgpaaLiveFindP
namespace Go.Proofs.Ytklknkfoafdgpaa.LiveFindQ
open Go.RowKit Go.Proofs.YtklknkfoafdgpaaW.PrintWords Go.Proofs.YtklknkfoafdgpaaW.PrintLast Go.Proofs.YtklknkfoafdgpaaW.PrintMore
open Go.Proofs.Ytklknkfoafdgpaa.PLiveKnown Go.Proofs.Ytklknkfoafdgpaa.LiveT Go.Proofs.Ytklknkfoafdgpaa.LiveB Go.Proofs.Ytklknkfoafdgpaa.LiveInv Go.Proofs.Ytklknkfoafdgpaa.LiveSet Go.Proofs.Ytklknkfoafdgpaa.LiveAhead Go.Proofs.Ytklknkfoafdgpaa.LiveEnd Go.Proofs.Ytklknkfoafdgpaa.LiveSettled Go.Proofs.Ytklknkfoafdgpaa.LiveCopied Go.Proofs.Ytklknkfoafdgpaa.LiveAft Go.Proofs.Ytklknkfoafdgpaa.LiveRunP Go.Proofs.Ytklknkfoafdgpaa.LiveSame Go.Proofs.Ytklknkfoafdgpaa.LiveFit Go.Proofs.Ytklknkfoafdgpaa.LiveEvt Go.Proofs.Ytklknkfoafdgpaa.LiveAsked Go.Proofs.Ytklknkfoafdgpaa.LiveNoth Go.Proofs.Ytklknkfoafdgpaa.LiveFindP
set_option linter.unusedVariables false
set_option linter.unusedSimpArgs false

def insOf (bs : List S43) (b : Nat) : List S47 := (rd_T43 bs (b : Int)).f1
def nxOf (bs : List S43) (b : Nat) : List Int := (rd_T43 bs (b : Int)).f2
/-- What is wanted ahead of a place. -/
def want (bs : List S43) (V : Nat → RS) (b i : Nat) : RS := back (((insOf bs b).drop i).map iOf) (endd bs.length V (nxOf bs b))
theorem want_regs {bs : List S43} {V : Nat → RS} (hV : Lfp (codeOf bs) V) (b i : Nat) : Regs (want bs V b i) :=
  back_regs _ (endd_regs _ fun n hn => hV.regs (by rw [codeOf_length]; exact hn))
theorem want_zero {bs : List S43} {V : Nat → RS} (hV : Lfp (codeOf bs) V) {b : Nat} (hb : b < bs.length) : want bs V b 0 = V b := by
  have h := hV.fix b _ (codeOf_get bs b hb)
  rw [codeOf_length] at h
  rw [h]
  rfl
theorem want_end (bs : List S43) (V : Nat → RS) (b : Nat) : want bs V b (insOf bs b).length = endd bs.length V (nxOf bs b) := by
  unfold want
  rw [List.drop_length]
  rfl
theorem want_step (bs : List S43) (V : Nat → RS) (b i : Nat) (hi : i < (insOf bs b).length) : want bs V b i = LiveT.ahead (iOf (rd_T47 (insOf bs b) i)) (want bs V b (i + 1)) := back_drop _ _ i hi
/-- Nothing is found that isn't wanted. -/
def Snd (bs : List S43) (V : Nat → RS) (f : Nat → Nat → RS) : Prop := ∀ b i, b < bs.length → i ≤ (insOf bs b).length → Le (f b i) (want bs V b i)
/-- The rules hold for one register in one block. -/
structure ClosedR (bs : List S43) (f : Nat → Nat → RS) (b : Nat) (r : Int) : Prop where
  last : endd bs.length (fun m => f m 0) (nxOf bs b) r = true → f b (insOf bs b).length r = true
  each : ∀ i, i < (insOf bs b).length → LiveT.ahead (iOf (rd_T47 (insOf bs b) i)) (f b (i + 1)) r = true → f b i r = true
theorem Snd.last {bs : List S43} {V : Nat → RS} {f : Nat → Nat → RS} (h : Snd bs V f) (hV : Lfp (codeOf bs) V) (b : Nat) (r : Int) (he : endd bs.length (fun m => f m 0) (nxOf bs b) r = true) : want bs V b (insOf bs b).length r = true := by
  rw [want_end]
  obtain ⟨m, hm, hlt, hf⟩ := endd_true.mp he
  refine endd_true.mpr ⟨m, hm, hlt, ?_⟩
  rw [← want_zero hV hlt]
  exact h m 0 hlt (Nat.zero_le _) r hf
theorem Snd.each {bs : List S43} {V : Nat → RS} {f : Nat → Nat → RS} (h : Snd bs V f) {b i : Nat} (hb : b < bs.length) (hi : i < (insOf bs b).length) (r : Int) (he : LiveT.ahead (iOf (rd_T47 (insOf bs b) i)) (f b (i + 1)) r = true) : want bs V b i r = true := by
  rw [want_step bs V b i hi]
  exact ahead_mono _ (h b (i + 1) hb (by omega)) r he
theorem Snd.upd {bs : List S43} {V : Nat → RS} {f : Nat → Nat → RS} (h : Snd bs V f) {b0 i0 : Nat} {r0 : Int} (hw : want bs V b0 i0 r0 = true) : Snd bs V (upd f b0 i0 r0) := by
  intro b i hb hi r hr
  simp only [LiveNoth.upd] at hr
  split at hr
  · rename_i hh
    rw [hh.1, hh.2.1, hh.2.2]
    exact hw
  · exact h b i hb hi r hr
/-- Who is wanted anywhere is asked for somewhere. -/
theorem addL_mem (S : RS) (l : List Int) (r : Int) : addL S l r = true ↔ S r = true ∨ inR r = true ∧ r ∈ l := by
  rw [addL_eq]
  simp
theorem slots_any (l : List S78) (r : Int) : r ∈ slotsOf l ↔ (l.any fun s => (regsOf s.f2).contains r) = true := by
  simp [slotsOf, List.mem_flatMap]
theorem askI_mem (S : RS) (x : S47) (r : Int) : askI S x r = true ↔ S r = true ∨ inR r = true ∧ asks47 x r = true := by
  unfold askI asks47
  rw [addL_mem, addL_mem, slots_any, Bool.or_eq_true, List.contains_iff_mem]
  constructor
  · rintro ((h | h) | h)
    · exact .inl h
    · exact .inr ⟨h.1, .inl h.2⟩
    · exact .inr ⟨h.1, .inr h.2⟩
  · rintro (h | ⟨h, h2 | h2⟩)
    · exact .inl (.inl h)
    · exact .inl (.inr ⟨h, h2⟩)
    · exact .inr ⟨h, h2⟩
theorem askB_mem (l : List S47) (S : RS) (r : Int) : askB S l r = true ↔ S r = true ∨ inR r = true ∧ ∃ x ∈ l, asks47 x r = true := by
  induction l generalizing S with
  | nil => simp [askB]
  | cons x l ih =>
    show askB (askI S x) l r = true ↔ _
    rw [ih, askI_mem]
    constructor
    · rintro ((h | h) | ⟨h, y, hy, h2⟩)
      · exact .inl h
      · exact .inr ⟨h.1, x, List.mem_cons_self, h.2⟩
      · exact .inr ⟨h, y, List.mem_cons_of_mem _ hy, h2⟩
    · rintro (h | ⟨h, y, hy, h2⟩)
      · exact .inl (.inl h)
      · rcases List.mem_cons.mp hy with rfl | hy
        · exact .inl (.inr ⟨h, h2⟩)
        · exact .inr ⟨h, y, hy, h2⟩
theorem askC_mem_aux (bs : List S43) (S : RS) (r : Int) : (bs.foldl (fun S B => askB S B.f1) S) r = true ↔ S r = true ∨ inR r = true ∧ ∃ B ∈ bs, ∃ x ∈ B.f1, asks47 x r = true := by
  induction bs generalizing S with
  | nil => simp
  | cons B bs ih =>
    rw [List.foldl_cons, ih, askB_mem]
    constructor
    · rintro ((h | ⟨h, x, hx, h2⟩) | ⟨h, B', hB', h2⟩)
      · exact .inl h
      · exact .inr ⟨h, B, List.mem_cons_self, x, hx, h2⟩
      · exact .inr ⟨h, B', List.mem_cons_of_mem _ hB', h2⟩
    · rintro (h | ⟨h, B', hB', x, hx, h2⟩)
      · exact .inl (.inl h)
      · rcases List.mem_cons.mp hB' with rfl | hB'
        · exact .inl (.inr ⟨h, x, hx, h2⟩)
        · exact .inr ⟨h, B', hB', x, hx, h2⟩
theorem askC_mem (bs : List S43) (r : Int) : askC bs r = true ↔ inR r = true ∧ ∃ B ∈ bs, ∃ x ∈ B.f1, asks47 x r = true := by
  unfold askC
  rw [askC_mem_aux]
  simp [none']
theorem ahead_from {x : I} {S : RS} {r : Int} (h : LiveT.ahead x S r = true) : S r = true ∨ inR r = true ∧ x.a r = true := by
  unfold LiveT.ahead at h
  split at h
  · exact .inl h
  · simp only [Bool.or_eq_true, Bool.and_eq_true] at h
    rcases h with h | h
    · exact .inl h.1
    · exact .inr h
theorem back_from (l : List S47) (S : RS) (r : Int) (h : back (l.map iOf) S r = true) : S r = true ∨ inR r = true ∧ ∃ x ∈ l, asks47 x r = true := by
  induction l with
  | nil => exact .inl h
  | cons x l ih =>
    rcases ahead_from (h : LiveT.ahead (iOf x) (back (l.map iOf) S) r = true) with h | ⟨h1, h2⟩
    · rcases ih h with h | ⟨h1, y, hy, h2⟩
      · exact .inl h
      · exact .inr ⟨h1, y, List.mem_cons_of_mem _ hy, h2⟩
    · exact .inr ⟨h1, x, List.mem_cons_self, h2⟩
theorem insOf_mem {bs : List S43} {b : Nat} (hb : b < bs.length) {x : S47} (hx : x ∈ insOf bs b) : ∃ B ∈ bs, x ∈ B.f1 := by
  unfold insOf at hx
  rw [rd43 bs b hb] at hx
  exact ⟨bs[b], List.getElem_mem hb, hx⟩
theorem lfp_asked {bs : List S43} {V : Nat → RS} (hV : Lfp (codeOf bs) V) {b : Nat} (hb : b < bs.length) : Le (V b) (askC bs) := by
  refine hV.least (fun _ => askC bs) (fun b B hB r hr => ?_) b (by rw [codeOf_length]; exact hb)
  have hbl : b < bs.length := by have := (List.getElem?_eq_some_iff.mp hB).1; rwa [codeOf_length] at this
  rw [codeOf_get bs b hbl] at hB
  cases hB
  rcases back_from _ _ r hr with h | ⟨h1, x, hx, h2⟩
  · obtain ⟨_, _, _, h⟩ := endd_true.mp h
    exact h
  · obtain ⟨B, hB, hx⟩ := insOf_mem hbl hx
    exact (askC_mem bs r).mpr ⟨h1, B, hB, x, hx, h2⟩
theorem want_asked {bs : List S43} {V : Nat → RS} (hV : Lfp (codeOf bs) V) {b i : Nat} (hb : b < bs.length) : Le (want bs V b i) (askC bs) := by
  intro r hr
  rcases back_from _ _ r hr with h | ⟨h1, x, hx, h2⟩
  · obtain ⟨m, _, hlt, h⟩ := endd_true.mp h
    exact lfp_asked hV hlt r h
  · obtain ⟨B, hB, hx⟩ := insOf_mem hb (List.mem_of_mem_drop hx)
    exact (askC_mem bs r).mpr ⟨h1, B, hB, x, hx, h2⟩
/-- Where nothing is left to find, all that is wanted is found. -/
theorem found {bs : List S43} {V : Nat → RS} {f : Nat → Nat → RS} (hV : Lfp (codeOf bs) V) (hS : Snd bs V f) (hC : ∀ b, b < bs.length → ∀ r : Int, askC bs r = true → ClosedR bs f b r) (b i : Nat) (hb : b < bs.length) (hi : i ≤ (insOf bs b).length) : f b i = want bs V b i := by
  have asked : ∀ b i r, b < bs.length → i ≤ (insOf bs b).length → f b i r = true → askC bs r = true := fun b i r hb hi h => want_asked hV hb r (hS b i hb hi r h)
  have key : ∀ b, b < bs.length → ∀ d i, (insOf bs b).length - i = d → i ≤ (insOf bs b).length → Le (back (((insOf bs b).drop i).map iOf) (endd bs.length (fun m => f m 0) (nxOf bs b))) (f b i) := by
    intro b hb d
    induction d with
    | zero =>
      intro i hd hi r hr
      obtain rfl : i = (insOf bs b).length := by omega
      rw [List.drop_length] at hr
      have hr : endd bs.length (fun m => f m 0) (nxOf bs b) r = true := hr
      obtain ⟨m, _, hlt, h⟩ := endd_true.mp hr
      exact (hC b hb r (asked m 0 r hlt (Nat.zero_le _) h)).last hr
    | succ d ih =>
      intro i hd hi r hr
      have hil : i < (insOf bs b).length := by omega
      rw [back_drop _ _ i hil] at hr
      have h1 := ahead_mono _ (ih (i + 1) (by omega) (by omega)) r hr
      have hask : askC bs r = true := by
        rcases ahead_from h1 with h | ⟨h2, h3⟩
        · exact asked b (i + 1) r hb (by omega) h
        · refine (askC_mem bs r).mpr ⟨h2, ?_⟩
          have hx : rd_T47 (insOf bs b) (i : Int) ∈ insOf bs b := by rw [rd47 _ i hil]; exact List.getElem_mem hil
          obtain ⟨B, hB, hx2⟩ := insOf_mem hb hx
          exact ⟨B, hB, _, hx2, h3⟩
      exact (hC b hb r hask).each i hil h1
  have hpre : ∀ b, b < bs.length → Le (V b) (f b 0) := fun b hb => hV.least (fun m => f m 0) (fun b B hB => by
    have hbl : b < bs.length := by have := (List.getElem?_eq_some_iff.mp hB).1; rwa [codeOf_length] at this
    rw [codeOf_get bs b hbl] at hB
    cases hB
    rw [codeOf_length]
    have := key b hbl _ 0 rfl (Nat.zero_le _)
    rw [List.drop_zero] at this
    exact this) b (by rw [codeOf_length]; exact hb)
  refine le_antisymm' (hS b i hb hi) ?_
  exact Le.trans' (back_mono _ (endd_mono _ hpre)) (key b hb _ i rfl hi)
/-- How much is found. -/
def cnt3 (f : Nat → Nat → RS) (L : Nat → Nat) : Nat → Nat
  | 0 => 0
  | n + 1 => cnt3 f L n + cnt (f n) (L n)
def room (L : Nat → Nat) : Nat → Nat
  | 0 => 0
  | n + 1 => room L n + L n * 512
theorem cnt3_le (f : Nat → Nat → RS) (L : Nat → Nat) (n : Nat) : cnt3 f L n ≤ room L n := by
  induction n with
  | zero => exact Nat.le_refl _
  | succ n ih => simp only [cnt3, room]; have := cnt_le (f n) (L n); omega
theorem upd_le (f : Nat → Nat → RS) (b0 i0 : Nat) (r0 : Int) (b i : Nat) : Le (f b i) (upd f b0 i0 r0 b i) := by
  intro r hr
  simp only [LiveNoth.upd]
  split
  · rfl
  · exact hr
theorem cnt3_upd {f : Nat → Nat → RS} {L : Nat → Nat} {n b0 i0 r0 : Nat} (hb : b0 < n) (hi : i0 < L b0) (hr : r0 < 512) (hf : f b0 i0 (r0 : Int) = false) (hreg : Regs (f b0 i0)) : cnt3 f L n < cnt3 (upd f b0 i0 (r0 : Int)) L n := by
  have hmono : ∀ m, cnt3 f L m ≤ cnt3 (upd f b0 i0 (r0 : Int)) L m := by
    intro m
    induction m with
    | zero => exact Nat.le_refl _
    | succ m ih => simp only [cnt3]; have := cnt_mono (L m) (fun i _ => upd_le f b0 i0 (r0 : Int) m i); omega
  have hlt : cnt (f b0) (L b0) < cnt (upd f b0 i0 (r0 : Int) b0) (L b0) := by
    refine cnt_lt (L b0) (fun i _ => upd_le f b0 i0 (r0 : Int) b0 i) i0 hi ?_ ?_
    · intro r h
      simp only [LiveNoth.upd] at h
      split at h
      · rename_i hh; rw [hh.2.2]; exact inR_nat r0 hr
      · exact hreg r h
    · intro he
      have := congrFun he (r0 : Int)
      rw [hf] at this
      simp [LiveNoth.upd] at this
  induction n with
  | zero => omega
  | succ n ih =>
    simp only [cnt3]
    by_cases he : b0 = n
    · subst he
      have := hmono b0
      omega
    · have h1 := ih (by omega)
      have h2 := cnt_mono (L n) (fun i _ => upd_le f b0 i0 (r0 : Int) n i)
      omega
end Go.Proofs.Ytklknkfoafdgpaa.LiveFindQ
