/- How a register code opens: each list within the reach. -/
import Derived.Test.YtklknkfoafdgpaaLiveRunP
import Derived.Test.YtklknkfoafdgpaaOpen
namespace Go.Proofs.Ytklknkfoafdgpaa.LiveTypes
open Go.RowKit Go.WideShapes Go.ChangeShapes Go.ChangeAt
open Go.Proofs.YtklknkfoafdgpaaW.PrintWords Go.Proofs.Ytklknkfoafdgpaa.Open Go.Proofs.Ytklknkfoafdgpaa.PLiveKnown Go.Proofs.Ytklknkfoafdgpaa.LiveCopied Go.Proofs.Ytklknkfoafdgpaa.LiveRunP
set_option linter.unusedVariables false
set_option linter.unusedSimpArgs false

theorem own : ownKnob Try.prog.godebug = none := by kernel_rfl
theorem laidOut : laidOutB Try.prog = true := by kernel_rfl
theorem o3 : Opens Try.prog 3 (Kd.int .i64) (fun _ => True) := (opens_int Try.underlying3).imp fun _ _ => trivial
theorem o2 : Opens Try.prog 2 (Kd.int .i64) (fun _ => True) := (opens_int Try.underlying2).imp fun _ _ => trivial
theorem o25 : Opens Try.prog 25 (Kd.slice 3 (Kd.int .i64)) (fun xs => xs.length * 8 ≤ 140737488351232) := (opens_slice (B := 8) Try.underlying25 o3 (by kernel_rfl) (by kernel_rfl) (by decide)).imp fun _ h => h.1
theorem o82 : Opens Try.prog 82 k82 (fun _ => True) :=
  (opens_iso (g := fun p => ⟨p.1, p.2⟩) (fun _ => rfl) (opens_struct Try.underlying82 (opensF_cons o3 rfl (by kernel_rfl) (opensF_one o2 rfl (by kernel_rfl))) (by kernel_rfl))).imp fun _ _ => trivial
theorem o44 : Opens Try.prog 44 (Kd.slice 82 k82) (fun xs => xs.length * 16 ≤ 140737488351232) := (opens_slice (B := 16) Try.underlying44 o82 (by kernel_rfl) (by kernel_rfl) (by decide)).imp fun _ h => h.1
def In78 (x : S78) : Prop := x.f2.length * 16 ≤ 140737488351232
theorem o78 : Opens Try.prog 78 k78 In78 :=
  (opens_iso (g := fun p => ⟨p.1, p.2.1, p.2.2⟩) (fun _ => rfl) (opens_struct Try.underlying78 (opensF_cons o3 rfl (by kernel_rfl) (opensF_cons o3 rfl (by kernel_rfl) (opensF_one o44 rfl (by kernel_rfl)))) (by kernel_rfl))).imp fun _ h => h.2.2
theorem o45 : Opens Try.prog 45 (Kd.slice 78 k78) (fun xs => xs.length * 40 ≤ 140737488351232 ∧ ∀ x ∈ xs, In78 x) := opens_slice (B := 40) Try.underlying45 o78 (by kernel_rfl) (by kernel_rfl) (by decide)
def In47 (x : S47) : Prop := x.f3.length * 16 ≤ 140737488351232 ∧ x.f7.length * 40 ≤ 140737488351232 ∧ ∀ y ∈ x.f7, In78 y
theorem o47 : Opens Try.prog 47 k47 In47 :=
  (opens_iso (g := fun p => ⟨p.1, p.2.1, p.2.2.1, p.2.2.2.1, p.2.2.2.2.1, p.2.2.2.2.2.1, p.2.2.2.2.2.2.1, p.2.2.2.2.2.2.2⟩) (fun _ => rfl) (opens_struct Try.underlying47 (opensF_cons o3 rfl (by kernel_rfl) (opensF_cons o3 rfl (by kernel_rfl) (opensF_cons o3 rfl (by kernel_rfl) (opensF_cons o44 rfl (by kernel_rfl) (opensF_cons o2 rfl (by kernel_rfl) (opensF_cons o3 rfl (by kernel_rfl) (opensF_cons o3 rfl (by kernel_rfl) (opensF_one o45 rfl (by kernel_rfl))))))))) (by kernel_rfl))).imp fun _ h => ⟨h.2.2.2.1, h.2.2.2.2.2.2.2⟩
theorem o41 : Opens Try.prog 41 (Kd.slice 47 k47) (fun xs => xs.length * 96 ≤ 140737488351232 ∧ ∀ x ∈ xs, In47 x) := opens_slice (B := 96) Try.underlying41 o47 (by kernel_rfl) (by kernel_rfl) (by decide)
def In43 (x : S43) : Prop := (x.f1.length * 96 ≤ 140737488351232 ∧ ∀ y ∈ x.f1, In47 y) ∧ x.f2.length * 8 ≤ 140737488351232
theorem o43 : Opens Try.prog 43 k43 In43 :=
  (opens_iso (g := fun p => ⟨p.1, p.2.1, p.2.2⟩) (fun _ => rfl) (opens_struct Try.underlying43 (opensF_cons o3 rfl (by kernel_rfl) (opensF_cons o41 rfl (by kernel_rfl) (opensF_one o25 rfl (by kernel_rfl)))) (by kernel_rfl))).imp fun _ h => h.2
def InC (xs : List S43) : Prop := xs.length * 56 ≤ 140737488351232 ∧ ∀ x ∈ xs, In43 x
theorem o22 : Opens Try.prog 22 (Kd.slice 43 k43) InC := opens_slice (B := 56) Try.underlying22 o43 (by kernel_rfl) (by kernel_rfl) (by decide)
theorem o24 : Opens Try.prog 24 (Kd.pair (Kd.int .i64) (Kd.pair (Kd.int .i64) (Kd.slice 43 k43))) (fun p => InC p.2.2) :=
  (opens_struct Try.underlying24 (opensF_cons o3 rfl (by kernel_rfl) (opensF_cons o3 rfl (by kernel_rfl) (opensF_one o22 rfl (by kernel_rfl)))) (by kernel_rfl)).imp fun _ h => h.2.2
theorem mem_rd78 (l : List S78) (k : Nat) (h : k < l.length) : rd_T78 l (k : Int) ∈ l := by
  rw [show rd_T78 l (k : Int) = l[k] by simp [rd_T78, List.getD_eq_getElem?_getD, h]]
  exact List.getElem_mem h
theorem mem_rd47 (l : List S47) (k : Nat) (h : k < l.length) : rd_T47 l (k : Int) ∈ l := by
  rw [show rd_T47 l (k : Int) = l[k] by simp [rd_T47, List.getD_eq_getElem?_getD, h]]
  exact List.getElem_mem h
theorem mem_rd43 (l : List S43) (k : Nat) (h : k < l.length) : rd_T43 l (k : Int) ∈ l := by
  rw [show rd_T43 l (k : Int) = l[k] by simp [rd_T43, List.getD_eq_getElem?_getD, h]]
  exact List.getElem_mem h
theorem fit_of {l : List S43} (h : InC l) : FitC l := by
  refine ⟨by have := h.1; omega, fun b hb => ?_, fun b hb => ?_, fun b hb i hi => ?_⟩
  · have := (h.2 _ (mem_rd43 l b hb)).1.1; omega
  · have := (h.2 _ (mem_rd43 l b hb)).2; omega
  · have h2 := (h.2 _ (mem_rd43 l b hb)).1.2 _ (mem_rd47 _ i hi)
    refine ⟨by have := h2.1; omega, by have := h2.2.1; omega, fun k hk => ?_⟩
    have h3 := h2.2.2 _ (mem_rd78 _ k hk)
    unfold In78 at h3
    omega

set_option maxRecDepth 100000 in
/-- A code that comes in. -/
theorem open_code {H : Type} {enc : TypeId × Value → H} {W : World} {base : Nat} {spare : Nat → Bool} {held : Bool} {r : Reach} {b0 : Nat} {v : Value} {d : DataW H} {p : List MemPlace} (hv : Value.okWide Try.prog W r b0 24 v)
    (h : DataW.Trod enc Try.prog W base spare held 24 v d p) (hw : ∀ n ∈ d.weights Try.prog 24, n ≤ reachBytes) :
    ∃ (fn rg : Int) (A : Option Addr) (c : Nat) (l : List S43), v = .agg #[.int .i64 fn, .int .i64 rg, .slice A l.length c] ∧ l.length ≤ c ∧ Kd.C k43 W A l.length l ∧ InC l := by
  obtain ⟨a, hK, hG⟩ := opened o24 h hw
  obtain ⟨cs, rfl, hcs⟩ := okWide_struct Try.underlying24 hv
  obtain ⟨c0, c1, e0, h00, c2, c3, rfl, h01, A, c, rfl, hl, hr⟩ := hK
  refine ⟨a.1, a.2.1, A, c, a.2.2, ?_, hl, hr, hG⟩
  cases cs
  have h00' : c0 = [.int .i64 a.1] := h00
  have h01' : c2 = [.int .i64 a.2.1] := h01
  subst h00' h01'
  simp [Value.cells] at e0
  rw [e0]
end Go.Proofs.Ytklknkfoafdgpaa.LiveTypes
