/- ExecEnters, for every register code and every instruction's number: exec.Enters answers as the reference does. No condition: every input that can be read. -/
import Derived.Test.YtbpbogkaboelpaaRows
import Derived.Test.YtbpbogkaboelpaaEnters
import Derived.Test.YtbpbogkaboelpaaOpen
namespace Go.Proofs.Ytbpbogkaboelpaa.EntersRow
open Go.RowKit Go.WideShapes Go.ChangeShapes Go.ChangeAt
open Go.Proofs.YtbpbogkaboelpaaW.PrintWords Go.Proofs.Ytbpbogkaboelpaa.Open Go.Proofs.Ytbpbogkaboelpaa.PExecEnters

theorem own : ownKnob Try.prog.godebug = none := by kernel_rfl
theorem o3 : Opens Try.prog 3 (Kd.int .i64) (fun _ => True) := (opens_int Try.underlying3).imp fun _ _ => trivial
theorem o2 : Opens Try.prog 2 (Kd.int .i64) (fun _ => True) := (opens_int Try.underlying2).imp fun _ _ => trivial
theorem o54 : Opens Try.prog 54 (Kd.slice 3 (Kd.int .i64)) (fun _ => True) := (opens_slice (B := 8) Try.underlying54 o3 (by kernel_rfl) (by kernel_rfl) (by decide)).imp fun _ _ => trivial
theorem o166 : Opens Try.prog 166 k166 (fun _ => True) :=
  (opens_iso (g := fun p => ⟨p.1, p.2⟩) (fun _ => rfl) (opens_struct Try.underlying166 (opensF_cons o3 rfl (by kernel_rfl) (opensF_one o2 rfl (by kernel_rfl))) (by kernel_rfl))).imp fun _ _ => trivial
theorem o160 : Opens Try.prog 160 (Kd.slice 166 k166) (fun _ => True) := (opens_slice (B := 16) Try.underlying160 o166 (by kernel_rfl) (by kernel_rfl) (by decide)).imp fun _ _ => trivial
theorem o168 : Opens Try.prog 168 k168 (fun _ => True) :=
  (opens_iso (g := fun p => ⟨p.1, p.2.1, p.2.2⟩) (fun _ => rfl) (opens_struct Try.underlying168 (opensF_cons o3 rfl (by kernel_rfl) (opensF_cons o3 rfl (by kernel_rfl) (opensF_one o160 rfl (by kernel_rfl)))) (by kernel_rfl))).imp fun _ _ => trivial
theorem o161 : Opens Try.prog 161 (Kd.slice 168 k168) (fun _ => True) := (opens_slice (B := 40) Try.underlying161 o168 (by kernel_rfl) (by kernel_rfl) (by decide)).imp fun _ _ => trivial
theorem o163 : Opens Try.prog 163 k163 (fun _ => True) :=
  (opens_iso (g := fun p => ⟨p.1, p.2.1, p.2.2.1, p.2.2.2.1, p.2.2.2.2.1, p.2.2.2.2.2.1, p.2.2.2.2.2.2.1, p.2.2.2.2.2.2.2⟩) (fun _ => rfl) (opens_struct Try.underlying163 (opensF_cons o3 rfl (by kernel_rfl) (opensF_cons o3 rfl (by kernel_rfl) (opensF_cons o3 rfl (by kernel_rfl) (opensF_cons o160 rfl (by kernel_rfl) (opensF_cons o2 rfl (by kernel_rfl) (opensF_cons o3 rfl (by kernel_rfl) (opensF_cons o3 rfl (by kernel_rfl) (opensF_one o161 rfl (by kernel_rfl))))))))) (by kernel_rfl))).imp fun _ _ => trivial
theorem o53 : Opens Try.prog 53 (Kd.slice 163 k163) (fun _ => True) := (opens_slice (B := 96) Try.underlying53 o163 (by kernel_rfl) (by kernel_rfl) (by decide)).imp fun _ _ => trivial
theorem o56 : Opens Try.prog 56 k56 (fun _ => True) :=
  (opens_iso (g := fun p => ⟨p.1, p.2.1, p.2.2⟩) (fun _ => rfl) (opens_struct Try.underlying56 (opensF_cons o3 rfl (by kernel_rfl) (opensF_cons o53 rfl (by kernel_rfl) (opensF_one o54 rfl (by kernel_rfl)))) (by kernel_rfl))).imp fun _ _ => trivial
theorem o22 : Opens Try.prog 22 (Kd.slice 56 k56) (fun xs => xs.length ≤ 9223372036854775807) := (opens_slice (B := 56) Try.underlying22 o56 (by kernel_rfl) (by kernel_rfl) (by decide)).imp fun _ h => by have := h.1; simp only [reachBytes] at this; omega
theorem o24 : Opens Try.prog 24 (Kd.pair (Kd.int .i64) (Kd.pair (Kd.int .i64) (Kd.slice 56 k56))) (fun p => p.2.2.length ≤ 9223372036854775807) :=
  (opens_struct Try.underlying24 (opensF_cons o3 rfl (by kernel_rfl) (opensF_cons o3 rfl (by kernel_rfl) (opensF_one o22 rfl (by kernel_rfl)))) (by kernel_rfl)).imp fun _ h => h.2.2

set_option maxRecDepth 100000 in
theorem contract (H : Type) (enc : TypeId × Value → H) (W : World) (base : Nat) (args : Array Value) (ds gs : List (DataW H)) (before : List MemPlace)
    (hval : ∀ (j : Nat) t v, Try.f3.params[j]? = some t → args[j]? = some v → Value.okWide Try.prog W .any base t v)
    (hW : DataW.Whole enc Try.prog Try.f3.params.toList Rows.execEntersSpec.vars false W args.toList ds gs before)
    (hsz : (DataW.weightsEach Try.prog (Try.f3.params.toList ++ Rows.execEntersSpec.plain.varTypes Try.prog) (ds ++ gs)).all (· ≤ reachBytes) = true) :
    Calls Try.prog 3 args W fun e W' => ∃ v, e = .returned v ∧ Rows.execEntersSpec.post enc Try.prog Try.f3 false true false false W args v W' := by
  have hW' := hW
  have hlt : ∀ p ∈ before, p.block < W.heap.size := fun p hp => hW.lt p hp
  obtain ⟨p, q, hA0, hV, rfl, hfz, hnd⟩ := hW
  have hA : DataW.TrodAll enc Try.prog W 0 (fun _ => true) true Try.f3.params.toList args.toList ds p := hA0
  rw [Try.params3] at hA hval hsz
  obtain ⟨v0, v1, d0, d1, p0, p1, rfl, rfl, rfl, h0, h1⟩ := trodAll_two hA
  obtain ⟨rfl, rfl⟩ := trodVars_none hV
  simp only [List.append_nil] at hW' hlt
  have hw0 : ∀ n ∈ d0.weights Try.prog 24, n ≤ reachBytes := fun n hn => by simpa using List.all_eq_true.1 hsz n (weights_each (i := 0) (t := 24) (y := d0) rfl rfl hn)
  obtain ⟨a, hK, hG⟩ := opened o24 h0 hw0
  obtain ⟨pc, rfl, rfl, rfl, wpc⟩ := open_int Try.underlying3 (hval 1 3 v1 rfl rfl) h1
  obtain ⟨cs, rfl, hcs⟩ := okWide_struct Try.underlying24 (hval 0 24 v0 rfl rfl)
  obtain ⟨c0, c1, e0, h00, c2, c3, rfl, h01, A, c, rfl, hl, hr⟩ := hK
  obtain rfl : cs = #[.int .i64 a.1, .int .i64 a.2.1, .slice A a.2.2.length c] := by
    cases cs
    have h00' : c0 = [.int .i64 a.1] := h00
    have h01' : c2 = [.int .i64 a.2.1] := h01
    subst h00' h01'
    simpa [Value.cells] using e0
  refine (Enters.law a.1 a.2.1 pc A c a.2.2 W hr hG hl).mono fun e W' ⟨he, hb⟩ => ?_
  subst he
  exact ⟨_, rfl, law_post hW' rfl (by kernel_rfl) (by kernel_rfl) rfl Try.underlying4 rfl hb⟩

set_option maxRecDepth 100000 in
theorem lifted (os : Os) (started : os.Started) (H : Type) (enc : TypeId × Value → H) :
    ReturnsInHanded {} Try.checked os 3 .any (Rows.execEntersSpec.pre6 enc Try.prog Try.f3 Rows.execEntersRow.domain false) (Rows.execEntersSpec.post enc Try.prog Try.f3 false true false false) := by
  refine returnsInHanded_of_change_sized (C := Try.checked) own started (by kernel_rfl) Try.func3
    (ChangeSpec.witness6 (enc := enc) (C := Try.checked) false ⟨#[], #[.agg #[.int .i64 0, .int .i64 0, .slice none 0 0], .int .i64 0], []⟩ 8 (by kernel_rfl) (by kernel_rfl) (by kernel_rfl) (by kernel_rfl)) ?_
  intro W base args ds gs before hval0 hW hcnd hsz0 _
  exact contract H enc W base args ds gs before hval0 hW hsz0

theorem over : Rows.execEntersRow.holds Try.pinned (OpenSpec.ofChange Rows.execEntersSpec) :=
  OpenClaim.holds_of_wide 3 Try.f3 rfl rfl rfl rfl rfl rfl rfl ⟨rfl, rfl, rfl, rfl, rfl⟩ rfl rfl rfl rfl rfl (by kernel_rfl) Try.func3 (by kernel_rfl)
    (of_decide_eq_true (by kernel_rfl)) (by unfold Func.isWrapper; first | (rw [if_pos (by decide +kernel)]; kernel_rfl) | (rw [if_neg (by decide +kernel)]; exact ⟨rfl, rfl⟩))
    (fun os started H enc _ => lifted os started H enc)
theorem proved : Rows.ExecEntersSaid := over
#print axioms proved
end Go.Proofs.Ytbpbogkaboelpaa.EntersRow
namespace Go.Proofs.Ytbpbogkaboelpaa
/-- The row, under a short name. -/
theorem execEnters_holds : Rows.ExecEntersSaid := EntersRow.proved
end Go.Proofs.Ytbpbogkaboelpaa
