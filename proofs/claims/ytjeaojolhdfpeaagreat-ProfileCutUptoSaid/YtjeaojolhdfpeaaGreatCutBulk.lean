/- ProfileCut: what comes in, opened, with its bulk. -/
import Derived.Test.YtjeaojolhdfpeaaGreatCutP
import Derived.Test.YtjeaojolhdfpeaaGreatTypesZ
import Derived.Test.YtjeaojolhdfpeaaGreatBulk
namespace Go.Proofs.YtjeaojolhdfpeaaGreat.CutBulk
open Go.RowKit Go.WideShapes Go.ChangeShapes Go.ChangeAt
open Go.Proofs.YtjeaojolhdfpeaaGreatW.PrintWords Go.Proofs.YtjeaojolhdfpeaaGreat.Open Go.Proofs.YtjeaojolhdfpeaaGreat.Bulk Go.Proofs.YtjeaojolhdfpeaaGreat.TypesZ Go.Proofs.YtjeaojolhdfpeaaGreat.PProfileCut Go.Proofs.YtjeaojolhdfpeaaGreat.BookB Go.Proofs.YtjeaojolhdfpeaaGreat.BookN Go.Proofs.YtjeaojolhdfpeaaGreat.CutP
set_option linter.unusedVariables false
set_option linter.unusedSimpArgs false

theorem sum_ones {α : Type} (l : List α) : l.length ≤ (l.map fun _ => 1).sum := len_sum (fun _ => Nat.le_refl _) l
theorem b2 : Bulk.Bears Tryz.prog 2 (Kd.int .i64) (fun _ => 1) := bears_int Tryz.underlying2
theorem b3 : Bulk.Bears Tryz.prog 3 (Kd.int .i64) (fun _ => 1) := bears_int Tryz.underlying3
theorem b9 : Bulk.Bears Tryz.prog 9 Kd.string (fun _ => 0) := (bears_string Tryz.underlying9).imp fun _ => Nat.zero_le _
theorem b228 : Bulk.Bears Tryz.prog 238 k238 (fun _ => 0) :=
  (bears_iso (g := fun p => ⟨p.1, p.2.1, p.2.2⟩) (fun _ => rfl) (bears_struct Tryz.underlying238 (bearsF_cons b3 rfl (by kernel_rfl) (bearsF_cons b2 rfl (by kernel_rfl) (bearsF_one b9 rfl (by kernel_rfl)))) (by kernel_rfl))).imp fun _ => Nat.zero_le _
theorem b57 : Bulk.Bears Tryz.prog 30 (Kd.slice 238 k238) (fun _ => 0) := (bears_slice Tryz.underlying30 b228 (by kernel_rfl)).imp fun _ => Nat.zero_le _
theorem b177 : Bulk.Bears Tryz.prog 99 k99 (fun _ => 1) :=
  (bears_iso (g := fun p => ⟨p.1, p.2⟩) (fun _ => rfl) (bears_struct Tryz.underlying99 (bearsF_cons b3 rfl (by kernel_rfl) (bearsF_one b2 rfl (by kernel_rfl))) (by kernel_rfl))).imp fun _ => by omega
theorem b116 : Bulk.Bears Tryz.prog 73 (Kd.slice 99 k99) (fun l => l.length) := (bears_slice Tryz.underlying73 b177 (by kernel_rfl)).imp fun l => by have := sum_ones l; omega
theorem b230 : Bulk.Bears Tryz.prog 240 k240 (fun _ => 0) :=
  (bears_iso (g := fun p => ⟨p.1, p.2.1, p.2.2.1, p.2.2.2⟩) (fun _ => rfl) (bears_struct Tryz.underlying240 (bearsF_cons b3 rfl (by kernel_rfl) (bearsF_cons b3 rfl (by kernel_rfl) (bearsF_cons b3 rfl (by kernel_rfl) (bearsF_one b3 rfl (by kernel_rfl))))) (by kernel_rfl))).imp fun _ => Nat.zero_le _
theorem b117 : Bulk.Bears Tryz.prog 74 (Kd.slice 240 k240) (fun _ => 0) := (bears_slice Tryz.underlying74 b230 (by kernel_rfl)).imp fun _ => Nat.zero_le _
def n119 (x : S76) : Nat := x.f3.length + 1
theorem b119 : Bulk.Bears Tryz.prog 76 k76 n119 :=
  (bears_iso (g := fun p => ⟨p.1, p.2.1, p.2.2.1, p.2.2.2.1, p.2.2.2.2⟩) (fun _ => rfl) (bears_struct Tryz.underlying76 (bearsF_cons b9 rfl (by kernel_rfl) (bearsF_cons b3 rfl (by kernel_rfl) (bearsF_cons b3 rfl (by kernel_rfl) (bearsF_cons b116 rfl (by kernel_rfl) (bearsF_one b117 rfl (by kernel_rfl)))))) (by kernel_rfl))).imp fun x => by unfold n119; simp only; omega
theorem b58 : Bulk.Bears Tryz.prog 31 (Kd.slice 76 k76) (fun l => (l.map n119).sum) := (bears_slice Tryz.underlying31 b119 (by kernel_rfl)).imp fun l => by omega
theorem b60 : Bulk.Bears Tryz.prog 33 (Kd.pair (Kd.slice 238 k238) (Kd.slice 76 k76)) (fun p => (p.2.map n119).sum) :=
  (bears_struct Tryz.underlying33 (bearsF_cons b57 rfl (by kernel_rfl) (bearsF_one b58 rfl (by kernel_rfl))) (by kernel_rfl)).imp fun p => by omega
theorem len_fs (fs : List S76) : fs.length ≤ (fs.map n119).sum := len_sum (fun x => by unfold n119; omega) fs
theorem tot_fs (fs : List S76) : tot fs fs.length ≤ (fs.map n119).sum := by
  have h : ∀ k, k ≤ fs.length → tot fs k ≤ ((fs.take k).map n119).sum := by
    intro k
    induction k with
    | zero => intro _; exact Nat.zero_le _
    | succ k ih =>
      intro hk
      have h1 := ih (by omega)
      have h2 : k < fs.length := by omega
      rw [List.take_add_one, List.map_append, List.sum_append]
      simp only [tot, List.getElem?_eq_getElem h2, Option.toList_some, List.map_cons, List.map_nil, List.sum_cons, List.sum_nil]
      have h3 : cl fs k + 1 = n119 fs[k] := by
        simp [cl, n119, rd_T76, List.getD_eq_getElem?_getD, h2]
      omega
  have h1 := h fs.length (Nat.le_refl _)
  rwa [List.take_length] at h1
theorem b4 : Bulk.Bears Tryz.prog 4 Kd.bool (fun _ => 0) := (bears_bool Tryz.underlying4).imp fun _ => Nat.zero_le _
theorem b137 : Bulk.Bears Tryz.prog 48 k48 (fun _ => 1) :=
  (bears_iso (g := fun p => ⟨p.1, p.2⟩) (fun _ => rfl) (bears_struct Tryz.underlying48 (bearsF_cons b3 rfl (by kernel_rfl) (bearsF_one b2 rfl (by kernel_rfl))) (by kernel_rfl))).imp fun _ => by omega
theorem b65 : Bulk.Bears Tryz.prog 39 (Kd.slice 48 k48) (fun l => l.length) := (bears_slice Tryz.underlying39 b137 (by kernel_rfl)).imp fun l => by have := sum_ones l; omega
def nNt (x : Nt) : Nat := x.args.length + 1
theorem b67 : Bulk.Bears Tryz.prog 41 kNt nNt :=
  (bears_iso (g := fun p => ⟨p.1, p.2.1, p.2.2.1, p.2.2.2.1, p.2.2.2.2.1, p.2.2.2.2.2⟩) (fun _ => rfl) (bears_struct Tryz.underlying41 (bearsF_cons b3 rfl (by kernel_rfl) (bearsF_cons b3 rfl (by kernel_rfl) (bearsF_cons b3 rfl (by kernel_rfl) (bearsF_cons b65 rfl (by kernel_rfl) (bearsF_cons b3 rfl (by kernel_rfl) (bearsF_one b4 rfl (by kernel_rfl))))))) (by kernel_rfl))).imp fun x => by unfold nNt; simp only; omega
theorem b61 : Bulk.Bears Tryz.prog 34 (Kd.slice 41 kNt) (fun l => (l.map nNt).sum) := (bears_slice Tryz.underlying34 b67 (by kernel_rfl)).imp fun l => by omega
set_option maxRecDepth 100000 in
/-- A program that comes in. -/
theorem borne_prog {H : Type} {enc : TypeId × Value → H} {W : World} {base : Nat} {spare : Nat → Bool} {held : Bool} {r : Reach} {b0 : Nat} {v : Value} {d : DataW H} {p : List MemPlace} (hv : Value.okWide Tryz.prog W r b0 33 v)
    (h : DataW.Trod enc Tryz.prog W base spare held 33 v d p) : ∃ (A0 A1 : Option Addr) (c0 c1 : Nat) (gs : List S238) (fs : List S76), v = .agg #[.slice A0 gs.length c0, .slice A1 fs.length c1] ∧ gs.length ≤ c0 ∧ fs.length ≤ c1 ∧ Kd.C k238 W A0 gs.length gs ∧ Kd.C k76 W A1 fs.length fs ∧ (fs.map n119).sum ≤ Rows.uptoBulk d := by
  obtain ⟨a, hK, hG⟩ := borne b60 h
  obtain ⟨cs, rfl, hcs⟩ := okWide_struct Tryz.underlying33 hv
  obtain ⟨e0, e1, he, ⟨A0, c0, rfl, l0, h0⟩, A1, c1, rfl, l1, h1⟩ := hK
  refine ⟨A0, A1, c0, c1, a.1, a.2, ?_, l0, l1, h0, h1, hG⟩
  cases cs
  simp [Value.cells] at he
  rw [he]
set_option maxRecDepth 100000 in
/-- The notes that come in. -/
theorem borne_notes {H : Type} {enc : TypeId × Value → H} {W : World} {base : Nat} {spare : Nat → Bool} {held : Bool} {r : Reach} {b0 : Nat} {v : Value} {d : DataW H} {p : List MemPlace} (hv : Value.okWide Tryz.prog W r b0 34 v)
    (h : DataW.Trod enc Tryz.prog W base spare held 34 v d p) : ∃ (A : Option Addr) (c : Nat) (ns : List Nt), v = .slice A ns.length c ∧ ns.length ≤ c ∧ Kd.C kNt W A ns.length ns ∧ (ns.map nNt).sum ≤ Rows.uptoBulk d := by
  obtain ⟨ns, hK, hG⟩ := borne b61 h
  obtain ⟨a, n, c', rfl⟩ := okWide_slice Tryz.underlying34 hv
  obtain ⟨A, c, he, l0, h0⟩ := hK
  simp [Value.cells] at he
  obtain ⟨rfl, rfl, rfl⟩ := he
  exact ⟨_, _, ns, rfl, l0, h0, hG⟩
theorem trodAll_three2 {H : Type} {enc : TypeId × Value → H} {P : Program} {w : World} {base : Nat} {spare : Nat → Bool} {held : Bool} {t0 t1 t2 : TypeId} {args : Array Value} {ds : List (DataW H)} {ps : List MemPlace} (h : DataW.TrodAll enc P w base spare held [t0, t1, t2] args.toList ds ps) :
    ∃ v0 v1 v2 d0 d1 d2 p0 p1 p2, args = #[v0, v1, v2] ∧ ds = [d0, d1, d2] ∧ ps = p0 ++ (p1 ++ p2) ∧ DataW.Trod enc P w base spare held t0 v0 d0 p0 ∧ DataW.Trod enc P w base spare held t1 v1 d1 p1 ∧ DataW.Trod enc P w base spare held t2 v2 d2 p2 := by
  obtain ⟨v0, vs0, d0, ds0, p0, q0, a0, rfl, rfl, h0, r0⟩ := trodAll_cons h
  obtain ⟨v1, vs1, d1, ds1, p1, q1, rfl, rfl, rfl, h1, r1⟩ := trodAll_cons r0
  obtain ⟨v2, vs2, d2, ds2, p2, q2, rfl, rfl, rfl, h2, r2⟩ := trodAll_cons r1
  obtain ⟨rfl, rfl, rfl⟩ := trodAll_nil r2
  exact ⟨v0, v1, v2, d0, d1, d2, p0, p1, p2, by cases args; simp_all, rfl, by simp, h0, h1, h2⟩
theorem small3 {H : Type} {a b c : DataW H} (h : Rows.uptoSmall H [a, b, c] = true) : Rows.uptoBulk a ≤ 1048576 ∧ Rows.uptoBulk b ≤ 1048576 ∧ Rows.uptoBulk c ≤ 1048576 := by
  have h2 := of_decide_eq_true h
  simp only [Rows.uptoBulkAll] at h2
  omega

end Go.Proofs.YtjeaojolhdfpeaaGreat.CutBulk
