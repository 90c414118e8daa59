/- How a register code opens: each list within the reach. -/
/- A register code of small bulk fits where a handed copy of it must. -/
import Derived.Test.YtklknkfoafdgpaaLiveRunP
import Derived.Test.YtklknkfoafdgpaaOpen
import Derived.Test.YtklknkfoafdgpaaBulk
import Derived.Test.YtklknkfoafdgpaaLiveHandC
namespace Go.Proofs.Ytklknkfoafdgpaa.LiveTypes
open Go.RowKit Go.WideShapes Go.ChangeShapes Go.ChangeAt
open Go.Proofs.YtklknkfoafdgpaaW.PrintWords Go.Proofs.Ytklknkfoafdgpaa.Open Go.Proofs.Ytklknkfoafdgpaa.PLiveKnown Go.Proofs.Ytklknkfoafdgpaa.LiveCopied Go.Proofs.Ytklknkfoafdgpaa.LiveRunP
set_option linter.unusedVariables false
set_option linter.unusedSimpArgs false

theorem own : ownKnob Try.prog.godebug = none := by kernel_rfl
theorem laidOut : laidOutB Try.prog = true := by kernel_rfl
theorem o2 : Opens Try.prog 2 (Kd.int .i64) (fun _ => True) := (opens_int Try.underlying2).imp fun _ _ => trivial
theorem mem_rd78 (l : List S78) (k : Nat) (h : k < l.length) : rd_T78 l (k : Int) ∈ l := by
  rw [show rd_T78 l (k : Int) = l[k] by simp [rd_T78, List.getD_eq_getElem?_getD, h]]
  exact List.getElem_mem h
theorem mem_rd47 (l : List S47) (k : Nat) (h : k < l.length) : rd_T47 l (k : Int) ∈ l := by
  rw [show rd_T47 l (k : Int) = l[k] by simp [rd_T47, List.getD_eq_getElem?_getD, h]]
  exact List.getElem_mem h
theorem mem_rd43 (l : List S43) (k : Nat) (h : k < l.length) : rd_T43 l (k : Int) ∈ l := by
  rw [show rd_T43 l (k : Int) = l[k] by simp [rd_T43, List.getD_eq_getElem?_getD, h]]
  exact List.getElem_mem h
end Go.Proofs.Ytklknkfoafdgpaa.LiveTypes

namespace Go.Proofs.Ytklknkfoafdgpaa.LiveBulk
open Go.RowKit Go.WideShapes Go.ChangeShapes Go.ChangeAt
open Go.Proofs.YtklknkfoafdgpaaW.PrintWords Go.Proofs.Ytklknkfoafdgpaa.Bulk Go.Proofs.Ytklknkfoafdgpaa.PLiveKnown Go.Proofs.Ytklknkfoafdgpaa.LiveCopied Go.Proofs.Ytklknkfoafdgpaa.LiveRunP Go.Proofs.Ytklknkfoafdgpaa.LiveTypes Go.Proofs.Ytklknkfoafdgpaa.LiveHandS Go.Proofs.Ytklknkfoafdgpaa.LiveHandB Go.Proofs.Ytklknkfoafdgpaa.LiveHandC
set_option linter.unusedVariables false
set_option linter.unusedSimpArgs false

def n78 (x : S78) : Nat := x.f2.length + 1
def n47 (x : S47) : Nat := x.f3.length + (x.f7.map n78).sum + 1
def n43 (x : S43) : Nat := (x.f1.map n47).sum + x.f2.length + 1
def nC (l : List S43) : Nat := (l.map n43).sum
theorem b3 : Bears Try.prog 3 (Kd.int .i64) (fun _ => 1) := bears_int Try.underlying3
theorem b2 : Bears Try.prog 2 (Kd.int .i64) (fun _ => 1) := bears_int Try.underlying2
theorem sum_ones {α : Type} (l : List α) : l.length ≤ (l.map fun _ => 1).sum := len_sum (fun _ => Nat.le_refl _) l
theorem b25 : Bears Try.prog 25 (Kd.slice 3 (Kd.int .i64)) (fun l => l.length) := (bears_slice Try.underlying25 b3 (by kernel_rfl)).imp fun l => by have := sum_ones l; omega
theorem b82 : Bears Try.prog 82 k82 (fun _ => 1) :=
  (bears_iso (g := fun p => ⟨p.1, p.2⟩) (fun _ => rfl) (bears_struct Try.underlying82 (bearsF_cons b3 rfl (by kernel_rfl) (bearsF_one b2 rfl (by kernel_rfl))) (by kernel_rfl))).imp fun _ => by omega
theorem b44 : Bears Try.prog 44 (Kd.slice 82 k82) (fun l => l.length) := (bears_slice Try.underlying44 b82 (by kernel_rfl)).imp fun l => by have := sum_ones l; omega
theorem b78 : Bears Try.prog 78 k78 n78 :=
  (bears_iso (g := fun p => ⟨p.1, p.2.1, p.2.2⟩) (fun _ => rfl) (bears_struct Try.underlying78 (bearsF_cons b3 rfl (by kernel_rfl) (bearsF_cons b3 rfl (by kernel_rfl) (bearsF_one b44 rfl (by kernel_rfl)))) (by kernel_rfl))).imp fun x => by unfold n78; simp only; omega
theorem b45 : Bears Try.prog 45 (Kd.slice 78 k78) (fun l => (l.map n78).sum) := (bears_slice Try.underlying45 b78 (by kernel_rfl)).imp fun l => by omega
theorem b47 : Bears Try.prog 47 k47 n47 :=
  (bears_iso (g := fun p => ⟨p.1, p.2.1, p.2.2.1, p.2.2.2.1, p.2.2.2.2.1, p.2.2.2.2.2.1, p.2.2.2.2.2.2.1, p.2.2.2.2.2.2.2⟩) (fun _ => rfl) (bears_struct Try.underlying47 (bearsF_cons b3 rfl (by kernel_rfl) (bearsF_cons b3 rfl (by kernel_rfl) (bearsF_cons b3 rfl (by kernel_rfl) (bearsF_cons b44 rfl (by kernel_rfl) (bearsF_cons b2 rfl (by kernel_rfl) (bearsF_cons b3 rfl (by kernel_rfl) (bearsF_cons b3 rfl (by kernel_rfl) (bearsF_one b45 rfl (by kernel_rfl))))))))) (by kernel_rfl))).imp fun x => by unfold n47; simp only; omega
theorem b41 : Bears Try.prog 41 (Kd.slice 47 k47) (fun l => (l.map n47).sum) := (bears_slice Try.underlying41 b47 (by kernel_rfl)).imp fun l => by omega
theorem b43 : Bears Try.prog 43 k43 n43 :=
  (bears_iso (g := fun p => ⟨p.1, p.2.1, p.2.2⟩) (fun _ => rfl) (bears_struct Try.underlying43 (bearsF_cons b3 rfl (by kernel_rfl) (bearsF_cons b41 rfl (by kernel_rfl) (bearsF_one b25 rfl (by kernel_rfl)))) (by kernel_rfl))).imp fun x => by unfold n43; simp only; omega
theorem b22 : Bears Try.prog 22 (Kd.slice 43 k43) nC := (bears_slice Try.underlying22 b43 (by kernel_rfl)).imp fun l => by unfold nC; omega
theorem b24 : Bears Try.prog 24 (Kd.pair (Kd.int .i64) (Kd.pair (Kd.int .i64) (Kd.slice 43 k43))) (fun p => nC p.2.2) :=
  (bears_struct Try.underlying24 (bearsF_cons b3 rfl (by kernel_rfl) (bearsF_cons b3 rfl (by kernel_rfl) (bearsF_one b22 rfl (by kernel_rfl)))) (by kernel_rfl)).imp fun p => by omega

theorem pos78 (x : S78) : 1 ≤ n78 x := by unfold n78; omega
theorem pos47 (x : S47) : 1 ≤ n47 x := by unfold n47; omega
theorem pos43 (x : S43) : 1 ≤ n43 x := by unfold n43; omega
/-- All lists of a code of small bulk are short. -/
structure Tiny (B : Nat) (l : List S43) : Prop where
  len : l.length ≤ B
  blk : ∀ x ∈ l, x.f1.length ≤ B ∧ x.f2.length ≤ B ∧ ∀ y ∈ x.f1, y.f3.length ≤ B ∧ y.f7.length ≤ B ∧ ∀ z ∈ y.f7, z.f2.length ≤ B
  os : (osA l).length ≤ B
  ss : (ssA l).length ≤ B
theorem tiny_of {l : List S43} {B : Nat} (h : nC l ≤ B) : Tiny B l := by
  unfold nC at h
  have hos : ∀ x : S43, (osI x.f1).length ≤ n43 x := fun x => by
    have h1 : (osI x.f1).length ≤ (x.f1.map n47).sum := flat_sum (fun y => by
      simp only [List.length_cons, osOf, List.length_map]
      have := len_sum pos78 y.f7
      unfold n47
      omega) x.f1
    unfold n43
    omega
  have hss : ∀ x : S43, (ssI x.f1).length ≤ n43 x := fun x => by
    have h1 := len_sum pos47 x.f1
    simp only [ssI, List.length_map]
    unfold n43
    omega
  refine ⟨Nat.le_trans (len_sum pos43 l) h, fun x hx => ?_, Nat.le_trans (flat_sum hos l) h, Nat.le_trans (flat_sum hss l) h⟩
  have h1 : (x.f1.map n47).sum + x.f2.length + 1 ≤ (l.map n43).sum := mem_sum (m := n43) hx
  have h2 := len_sum pos47 x.f1
  refine ⟨by omega, by omega, fun y hy => ?_⟩
  have h3 : y.f3.length + (y.f7.map n78).sum + 1 ≤ (x.f1.map n47).sum := mem_sum (m := n47) hy
  have h4 := len_sum pos78 y.f7
  refine ⟨by omega, by omega, fun z hz => ?_⟩
  have h6 : z.f2.length + 1 ≤ (y.f7.map n78).sum := mem_sum (m := n78) hz
  omega
theorem fitC_of {l : List S43} {B : Nat} (h : Tiny B l) (hB : B ≤ 1000000000000) : FitC l := by
  refine ⟨by have := h.len; omega, fun b hb => ?_, fun b hb => ?_, fun b hb i hi => ?_⟩
  · have := (h.blk _ (mem_rd43 l b hb)).1; omega
  · have := (h.blk _ (mem_rd43 l b hb)).2.1; omega
  · have h2 := (h.blk _ (mem_rd43 l b hb)).2.2 _ (mem_rd47 _ i hi)
    exact ⟨by have := h2.1; omega, by have := h2.2.1; omega, fun k hk => by have := h2.2.2 _ (mem_rd78 _ k hk); omega⟩
theorem fitH_of {l : List S43} {B : Nat} (h : Tiny B l) (hB : B ≤ 1000000000000) : FitH l := by
  refine ⟨by have := h.len; omega, fun b hb => ?_, fun b hb => ?_, by have := h.os; omega, by have := h.ss; omega⟩
  · have h1 := h.blk _ (mem_rd43 l b hb)
    refine ⟨by have := h1.1; omega, fun i hi => ?_, fun i hi => ?_⟩
    · have := (h1.2.2 _ (mem_rd47 _ i hi)).1; omega
    · have h2 := h1.2.2 _ (mem_rd47 _ i hi)
      exact ⟨by have := h2.2.1; omega, fun k hk => by have := h2.2.2 _ (mem_rd78 _ k hk); omega⟩
  · have := (h.blk _ (mem_rd43 l b hb)).2.1; omega

set_option maxRecDepth 100000 in
/-- A code that comes in, of a certain bulk. -/
theorem borne_code {H : Type} {enc : TypeId × Value → H} {W : World} {base : Nat} {spare : Nat → Bool} {held : Bool} {r : Reach} {b0 : Nat} {v : Value} {d : DataW H} {p : List MemPlace} (hv : Value.okWide Try.prog W r b0 24 v)
    (h : DataW.Trod enc Try.prog W base spare held 24 v d p) :
    ∃ (fn rg : Int) (A : Option Addr) (c : Nat) (l : List S43), v = .agg #[.int .i64 fn, .int .i64 rg, .slice A l.length c] ∧ l.length ≤ c ∧ Kd.C k43 W A l.length l ∧ nC l ≤ Rows.uptoBulk d := by
  obtain ⟨a, hK, hG⟩ := borne b24 h
  obtain ⟨cs, rfl, hcs⟩ := okWide_struct Try.underlying24 hv
  obtain ⟨c0, c1, e0, h00, c2, c3, rfl, h01, A, c, rfl, hl, hr⟩ := hK
  refine ⟨a.1, a.2.1, A, c, a.2.2, ?_, hl, hr, hG⟩
  cases cs
  have h00' : c0 = [.int .i64 a.1] := h00
  have h01' : c2 = [.int .i64 a.2.1] := h01
  subst h00' h01'
  simp [Value.cells] at e0
  rw [e0]
end Go.Proofs.Ytklknkfoafdgpaa.LiveBulk
