/- What exec.Enters and the reference's Enters answer of any register code, by walks of their text: whether some block begins at that instruction. -/
import Derived.Test.YtbpbogkaboelpaaPExecEntersx1
import Derived.Deep.RegionHeld3
namespace Go.Proofs.Ytbpbogkaboelpaa.Enters
open Go.RowKit Go.Proofs.YtbpbogkaboelpaaW.PrintWords Go.Proofs.YtbpbogkaboelpaaW.PrintLast Go.Proofs.YtbpbogkaboelpaaW.PrintMore
open Go.Proofs.Ytbpbogkaboelpaa.PExecEnters
set_option linter.unusedVariables false
set_option linter.unusedSimpArgs false

theorem pred (x pc : Int) (v1 v2 : Value) (b : Nat) (w : World) (hc : w.cell? ⟨b, 0, none⟩ = some (.int .i64 pc)) :
    Calls Try.prog 26 #[.agg #[.int .i64 x, v1, v2], .pointer (some ⟨b, 0, none⟩)] w fun e w' => e = .returned (.bool (x == pc)) ∧ Below w.heap.size w w' := by
  have hb : b < w.heap.size := World.block_lt_of_cell? w _ hc
  go_enter Try.func26, Try.ntmps26
  go_wp2
  go_ret
  refine ⟨rfl, ?_⟩
  exact (Below.refl _ _).alloc (Nat.le_refl _) _

theorem ret_bool {a b : Bool} (h : a = b) : Ending.returned (.bool a) = .returned (.bool b) := by rw [h]
theorem C_alloc_ {α : Type} {d : Kd α} {w : World} {A : Option Addr} {n : Nat} {xs : List α} (h : Kd.C d w A n xs) (o : Obj) : Kd.C d (w.alloc o) A n xs := Kd.C_below h (below_alloc (Below.refl _ _) o)

/-- Does some block begin there? -/
def anyAt (xs : List S56) (pc : Int) : Bool := xs.any fun x => x.f0 == pc
theorem anyAt_no {xs : List S56} {pc : Int} (h : ∀ j : Nat, j < xs.length → ((rd_T56 xs j).f0 == pc) = false) : anyAt xs pc = false := by
  unfold anyAt
  rw [List.any_eq_false]
  intro x hx
  obtain ⟨j, hj, rfl⟩ := List.getElem_of_mem hx
  have := h j hj
  simpa [rd_T56, List.getD_eq_getElem?_getD, List.getElem?_eq_getElem hj] using this
theorem anyAt_yes {xs : List S56} {pc : Int} {k : Nat} (hk : k < xs.length) (h : ((rd_T56 xs k).f0 == pc) = true) : anyAt xs pc = true := by
  unfold anyAt
  rw [List.any_eq_true]
  refine ⟨xs[k], List.getElem_mem hk, ?_⟩
  simpa [rd_T56, List.getD_eq_getElem?_getD, List.getElem?_eq_getElem hk] using h

theorem ref_step (x0 x1 pc : Int) (xs : List S56) (hn : xs.length ≤ 9223372036854775807) (d : Nat) : ∀ (k : Nat) (i : Nat), i ≤ xs.length → xs.length - i = d → d < k →
    (∀ j : Nat, j < i → ((rd_T56 xs j).f0 == pc) = false) → portageref27_Enters.l0 k pc i x0 x1 xs = some (anyAt xs pc) := by
  induction d with
  | zero =>
    intro k i hi hd hk hno
    obtain ⟨k, rfl⟩ : ∃ m, k = m + 1 := ⟨k - 1, by omega⟩
    simp only [portageref27_Enters.l0]
    rw [if_neg (by omega), anyAt_no fun j hj => hno j (by omega)]
  | succ d ih =>
    intro k i hi hd hk hno
    obtain ⟨k, rfl⟩ : ∃ m, k = m + 1 := ⟨k - 1, by omega⟩
    simp only [portageref27_Enters.l0]
    rw [if_pos (by omega), if_pos (by omega)]
    by_cases h : (rd_T56 xs i).f0 = pc
    · rw [if_pos h, anyAt_yes (k := i) (by omega) (by simpa using h)]
    · rw [if_neg h]
      have e : wrap64 ((i : Int) + 1) = ((i + 1 : Nat) : Int) := by unfold wrap64; omega
      rw [e]
      refine ih k (i + 1) (by omega) (by omega) (by omega) (fun j hj => ?_)
      by_cases e : j = i
      · subst e; simpa using h
      · exact hno j (by omega)
theorem ref_some (x0 x1 pc : Int) (xs : List S56) (hn : xs.length ≤ 9223372036854775807) : ∃ k, portageref27_Enters.f k x0 x1 xs pc = some (anyAt xs pc) :=
  ⟨xs.length + 1, ref_step x0 x1 pc xs hn xs.length (xs.length + 1) 0 (by omega) (by omega) (by omega) (fun j hj => absurd hj (by omega))⟩

def Found (xs : List S56) (pc : Int) (w : World) (e : Ending) (w' : World) : Prop :=
  ∃ r : Int, e = .returned (.int .i64 r) ∧ -1 ≤ r ∧ decide (0 ≤ r) = anyAt xs pc ∧ Below w.heap.size w w'

theorem index (A : Option Addr) (c : Nat) (xs : List S56) (pc : Int) (b : Nat) (w : World) (hr : Kd.C k56 w A xs.length xs) (hn : xs.length ≤ 9223372036854775807) (hc : w.cell? ⟨b, 0, none⟩ = some (.int .i64 pc)) :
    Calls Try.prog 56 #[.slice A xs.length c, .func (.func 26) #[] #[.pointer (some ⟨b, 0, none⟩)]] w (Found xs pc w) := by
  have HR := Aside0.mk hr
  clear hr
  have HC := Aside0.mk hc
  clear hc
  go_enter Try.func56, Try.ntmps56
  go_wp2
  go_loopw [8] (fun i wr => ∃ k : Nat, k ≤ xs.length ∧ i = .int .i64 k ∧ Aside0 (Below w.heap.size w wr) ∧ Aside0 (∀ j : Nat, j < k → ((rd_T56 xs j).f0 == pc) = false)) (fun i _ => xs.length - (intOf i).toNat)
  case atStart => exact ⟨0, Nat.zero_le _, rfl, ⟨Below.refl _ _⟩, ⟨fun j hj => absurd hj (by omega)⟩⟩
  case round =>
    obtain ⟨k, hk, rfl, HB, HN⟩ := hrel
    by_cases hlt : k < xs.length
    · obtain ⟨ad, A1, c1, A2, c2, rfl, h0, h1, h2, _⟩ := at_T56 HR.out (k : Int) (by omega) (by omega)
      simp only [Int.toNat_natCast] at h0 h1 h2
      replace h0 := (HB.out.cell (World.block_lt_of_cell? w _ h0)).trans h0
      replace h1 := (HB.out.cell (World.block_lt_of_cell? w _ h1)).trans h1
      replace h2 := (HB.out.cell (World.block_lt_of_cell? w _ h2)).trans h2
      have hcb := (HB.out.cell (World.block_lt_of_cell? w _ HC.out)).trans HC.out
      have HP := Aside0.mk hcb
      clear hcb
      cases hx : ((rd_T56 xs k).f0 == pc)
      · have HX := Aside0.mk hx
        clear hx
        go_wp2_with (go_at_call 26; refine (pred _ pc _ _ b _ HP.out).mono ?_; rintro e w' ⟨rfl, hb1⟩; rw [HX.out]; have HB1 := Aside0.mk hb1; clear hb1)
        go_roundw
        case rel =>
          refine ⟨k + 1, by omega, by go_num, ⟨below_then HB.out HB.out.size HB1.out⟩, ⟨fun j hj => ?_⟩⟩
          by_cases e : j = k
          · subst e; exact HX.out
          · exact HN.out j (by omega)
        case measure => simp [intOf]; omega
      · have HX := Aside0.mk hx
        clear hx
        go_wp2_with (go_at_call 26; refine (pred _ pc _ _ b _ HP.out).mono ?_; rintro e w' ⟨rfl, hb1⟩; rw [HX.out]; have HB1 := Aside0.mk hb1; clear hb1)
        go_ret
        exact ⟨k, rfl, by omega, by rw [anyAt_yes hlt HX.out]; simp, below_then HB.out HB.out.size HB1.out⟩
    · go_wp2
      go_ret
      exact ⟨-1, rfl, by omega, by rw [anyAt_no fun j hj => HN.out j (by omega)]; rfl, HB.out⟩

theorem contains (A : Option Addr) (c : Nat) (xs : List S56) (pc : Int) (b : Nat) (w : World) (hr : Kd.C k56 w A xs.length xs) (hn : xs.length ≤ 9223372036854775807) (hc : w.cell? ⟨b, 0, none⟩ = some (.int .i64 pc)) :
    Calls Try.prog 25 #[.slice A xs.length c, .func (.func 26) #[] #[.pointer (some ⟨b, 0, none⟩)]] w fun e w' => e = .returned (.bool (anyAt xs pc)) ∧ Below w.heap.size w w' := by
  have HR := Aside0.mk hr
  clear hr
  have HC := Aside0.mk hc
  clear hc
  go_enter Try.func25, Try.ntmps25
  go_wp2_with (go_at_call 56; refine (index A c xs pc b _ HR.out hn HC.out).mono ?_; rintro e w' ⟨r, rfl, hr1, hr2, hb1⟩; have HX := Aside0.mk hr2; have HB1 := Aside0.mk hb1; clear hb1 hr2)
  go_ret
  exact ⟨ret_bool HX.out, HB1.out⟩

theorem enters (x0 x1 pc : Int) (A : Option Addr) (c : Nat) (xs : List S56) (w : World) (hr : Kd.C k56 w A xs.length xs) (hn : xs.length ≤ 9223372036854775807) :
    Calls Try.prog 8 #[.agg #[.int .i64 x0, .int .i64 x1, .slice A xs.length c], .int .i64 pc] w fun e w' => e = .returned (.bool (anyAt xs pc)) ∧ Below w.heap.size w w' := by
  have HR := Aside0.mk hr
  clear hr
  go_enter Try.func8, Try.ntmps8
  go_wp2_with fail
  refine (contains A c xs pc _ _ (C_alloc_ (C_alloc_ HR.out _) _) hn (by go_simp)).mono ?_
  rintro e w' ⟨rfl, hb1⟩
  have HB1 := Aside0.mk hb1
  clear hb1
  go_wp2_with fail
  go_ret
  exact ⟨rfl, below_then (below_alloc (below_alloc (Below.refl _ _) _) _) (by simp; omega) HB1.out⟩

theorem refEnters (x0 x1 pc : Int) (A : Option Addr) (c : Nat) (xs : List S56) (w : World) (hr : Kd.C k56 w A xs.length xs) (hn : xs.length ≤ 9223372036854775807) (hc : xs.length ≤ c) :
    Calls Try.prog 9 #[.agg #[.int .i64 x0, .int .i64 x1, .slice A xs.length c], .int .i64 pc] w fun e w' => e = .returned (.bool (anyAt xs pc)) ∧ Below w.heap.size w w' := by
  obtain ⟨k, hk⟩ := ref_some x0 x1 pc xs hn
  exact portageref27_Enters.calls k x0 x1 A c xs pc _ w hr hc hk

theorem box_kept {w w' : World} {b : Nat} {x0 x1 x2 : Value} (hb : Below w.heap.size w w') (hl : b < w.heap.size) (h0 : w.cell? ⟨b, 0, none⟩ = some x0) (h1 : w.cell? ⟨b, 1, none⟩ = some x1) (h2 : w.cell? ⟨b, 2, none⟩ = some x2) :
    w'.cell? ⟨b, 0, none⟩ = some x0 ∧ w'.cell? ⟨b, 1, none⟩ = some x1 ∧ w'.cell? ⟨b, 2, none⟩ = some x2 :=
  ⟨(hb.cell (p := ⟨b, 0, none⟩) hl).trans h0, (hb.cell (p := ⟨b, 1, none⟩) hl).trans h1, (hb.cell (p := ⟨b, 2, none⟩) hl).trans h2⟩

theorem law (x0 x1 pc : Int) (A : Option Addr) (c : Nat) (xs : List S56) (w : World) (hr : Kd.C k56 w A xs.length xs) (hn : xs.length ≤ 9223372036854775807) (hc : xs.length ≤ c) :
    Calls Try.prog 3 #[.agg #[.int .i64 x0, .int .i64 x1, .slice A xs.length c], .int .i64 pc] w fun e w' => e = .returned (.bool true) ∧ Below w.heap.size w w' := by
  have HR := Aside0.mk hr
  clear hr
  have hb0 : Below w.heap.size w (w.alloc (.cells #[.int .i64 x0, .int .i64 x1, .slice A xs.length c] 24)) := below_alloc (Below.refl _ _) _
  have HB0 := Aside0.mk hb0
  clear hb0
  have hl : w.heap.size < (w.alloc (.cells #[.int .i64 x0, .int .i64 x1, .slice A xs.length c] 24)).heap.size := by simp
  have HL := Aside0.mk hl
  clear hl
  go_enter Try.func3, Try.ntmps3
  go_wp2_with fail
  go_region_held3 (fun w' => w'.cell? ⟨w.heap.size, 0, none⟩ = some (.int .i64 x0) ∧ w'.cell? ⟨w.heap.size, 1, none⟩ = some (.int .i64 x1) ∧ w'.cell? ⟨w.heap.size, 2, none⟩ = some (.slice A xs.length c))
    (first | go_keep | (exact box_kept hb2 (World.block_lt_of_cell? _ _ hc0) hc0 hc1 hc2) | (exact box_kept hb1 (by simp) (by go_simp) (by go_simp) (by go_simp)))
    (first | (go_at_call 8; refine (enters x0 x1 pc A c xs _ ?_ hn).mono ?_; (exact Kd.C_below HR.out (HB0.out.drew)); rintro e w1 ⟨rfl, hb1⟩; have hc0 := (hb1.cell (p := ⟨w.heap.size, 0, none⟩) (by simp)).trans (by go_simp : _ = some (.int .i64 x0)); have hc1 := (hb1.cell (p := ⟨w.heap.size, 1, none⟩) (by simp)).trans (by go_simp : _ = some (.int .i64 x1)); have hc2 := (hb1.cell (p := ⟨w.heap.size, 2, none⟩) (by simp)).trans (by go_simp : _ = some (.slice A xs.length c))) | (go_at_call 9; refine (refEnters x0 x1 pc A c xs _ ?_ hn hc).mono ?_; (exact Kd.C_below HR.out (below_then HB0.out.drew HB0.out.drew.size hb1)); rintro e w2 ⟨rfl, hb2⟩))
  go_wp2
  go_ret
  exact ⟨rfl, below_then (below_then HB0.out.drew HB0.out.drew.size hb1) (below_then HB0.out.drew HB0.out.drew.size hb1).size hb2⟩
end Go.Proofs.Ytbpbogkaboelpaa.Enters
