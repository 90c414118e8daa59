/- ProfileBook's row, where what it reads is of bulk at most 1048576: for every two programs, every two profiles and every row of notes. -/
import Derived.Test.YtjeaojolhdfpeaaBookLaw
import Derived.Test.YtjeaojolhdfpeaaTypesQ
import Derived.Test.YtjeaojolhdfpeaaBulk
import Derived.Deep.CondSized
import Derived.ChangeMaps5
namespace Go.Proofs.Ytjeaojolhdfpeaa.BookRow
open Go.RowKit Go.WideShapes Go.ChangeShapes Go.ChangeAt
open Go.Proofs.YtjeaojolhdfpeaaW.PrintWords Go.Proofs.Ytjeaojolhdfpeaa.Open Go.ChangeMaps Go.Proofs.Ytjeaojolhdfpeaa.Bulk Go.Proofs.Ytjeaojolhdfpeaa.TypesQ Go.Proofs.Ytjeaojolhdfpeaa.PProfileBook Go.Proofs.Ytjeaojolhdfpeaa.BookB Go.Proofs.Ytjeaojolhdfpeaa.BookN Go.Proofs.Ytjeaojolhdfpeaa.BookL
set_option linter.unusedVariables false
set_option linter.unusedSimpArgs false

theorem sum_ones {α : Type} (l : List α) : l.length ≤ (l.map fun _ => 1).sum := len_sum (fun _ => Nat.le_refl _) l
theorem b2 : Bulk.Bears Try.prog 2 (Kd.int .i64) (fun _ => 1) := bears_int Try.underlying2
theorem b3 : Bulk.Bears Try.prog 3 (Kd.int .i64) (fun _ => 1) := bears_int Try.underlying3
theorem b9 : Bulk.Bears Try.prog 9 Kd.string (fun _ => 0) := (bears_string Try.underlying9).imp fun _ => Nat.zero_le _
theorem b4 : Bulk.Bears Try.prog 4 Kd.bool (fun _ => 0) := (bears_bool Try.underlying4).imp fun _ => Nat.zero_le _
theorem b228 : Bulk.Bears Try.prog 228 k228 (fun _ => 0) :=
  (bears_iso (g := fun p => ⟨p.1, p.2.1, p.2.2⟩) (fun _ => rfl) (bears_struct Try.underlying228 (bearsF_cons b3 rfl (by kernel_rfl) (bearsF_cons b2 rfl (by kernel_rfl) (bearsF_one b9 rfl (by kernel_rfl)))) (by kernel_rfl))).imp fun _ => Nat.zero_le _
theorem b57 : Bulk.Bears Try.prog 57 (Kd.slice 228 k228) (fun _ => 0) := (bears_slice Try.underlying57 b228 (by kernel_rfl)).imp fun _ => Nat.zero_le _
theorem b177 : Bulk.Bears Try.prog 177 k177 (fun _ => 1) :=
  (bears_iso (g := fun p => ⟨p.1, p.2⟩) (fun _ => rfl) (bears_struct Try.underlying177 (bearsF_cons b3 rfl (by kernel_rfl) (bearsF_one b2 rfl (by kernel_rfl))) (by kernel_rfl))).imp fun _ => by omega
theorem b116 : Bulk.Bears Try.prog 116 (Kd.slice 177 k177) (fun l => l.length) := (bears_slice Try.underlying116 b177 (by kernel_rfl)).imp fun l => by have := sum_ones l; omega
theorem b230 : Bulk.Bears Try.prog 230 k230 (fun _ => 0) :=
  (bears_iso (g := fun p => ⟨p.1, p.2.1, p.2.2.1, p.2.2.2⟩) (fun _ => rfl) (bears_struct Try.underlying230 (bearsF_cons b3 rfl (by kernel_rfl) (bearsF_cons b3 rfl (by kernel_rfl) (bearsF_cons b3 rfl (by kernel_rfl) (bearsF_one b3 rfl (by kernel_rfl))))) (by kernel_rfl))).imp fun _ => Nat.zero_le _
theorem b117 : Bulk.Bears Try.prog 117 (Kd.slice 230 k230) (fun _ => 0) := (bears_slice Try.underlying117 b230 (by kernel_rfl)).imp fun _ => Nat.zero_le _
def n119 (x : S119) : Nat := x.f3.length + 1
theorem b119 : Bulk.Bears Try.prog 119 k119 n119 :=
  (bears_iso (g := fun p => ⟨p.1, p.2.1, p.2.2.1, p.2.2.2.1, p.2.2.2.2⟩) (fun _ => rfl) (bears_struct Try.underlying119 (bearsF_cons b9 rfl (by kernel_rfl) (bearsF_cons b3 rfl (by kernel_rfl) (bearsF_cons b3 rfl (by kernel_rfl) (bearsF_cons b116 rfl (by kernel_rfl) (bearsF_one b117 rfl (by kernel_rfl)))))) (by kernel_rfl))).imp fun x => by unfold n119; simp only; omega
theorem b58 : Bulk.Bears Try.prog 58 (Kd.slice 119 k119) (fun l => (l.map n119).sum) := (bears_slice Try.underlying58 b119 (by kernel_rfl)).imp fun l => by omega
theorem b60 : Bulk.Bears Try.prog 60 (Kd.pair (Kd.slice 228 k228) (Kd.slice 119 k119)) (fun p => (p.2.map n119).sum) :=
  (bears_struct Try.underlying60 (bearsF_cons b57 rfl (by kernel_rfl) (bearsF_one b58 rfl (by kernel_rfl))) (by kernel_rfl)).imp fun p => by omega
theorem b137 : Bulk.Bears Try.prog 137 k137 (fun _ => 1) :=
  (bears_iso (g := fun p => ⟨p.1, p.2⟩) (fun _ => rfl) (bears_struct Try.underlying137 (bearsF_cons b3 rfl (by kernel_rfl) (bearsF_one b2 rfl (by kernel_rfl))) (by kernel_rfl))).imp fun _ => by omega
theorem b65 : Bulk.Bears Try.prog 65 (Kd.slice 137 k137) (fun l => l.length) := (bears_slice Try.underlying65 b137 (by kernel_rfl)).imp fun l => by have := sum_ones l; omega
def nNt (x : Nt) : Nat := x.args.length + 1
theorem b67 : Bulk.Bears Try.prog 67 kNt nNt :=
  (bears_iso (g := fun p => ⟨p.1, p.2.1, p.2.2.1, p.2.2.2.1, p.2.2.2.2.1, p.2.2.2.2.2⟩) (fun _ => rfl) (bears_struct Try.underlying67 (bearsF_cons b3 rfl (by kernel_rfl) (bearsF_cons b3 rfl (by kernel_rfl) (bearsF_cons b3 rfl (by kernel_rfl) (bearsF_cons b65 rfl (by kernel_rfl) (bearsF_cons b3 rfl (by kernel_rfl) (bearsF_one b4 rfl (by kernel_rfl))))))) (by kernel_rfl))).imp fun x => by unfold nNt; simp only; omega
theorem b61 : Bulk.Bears Try.prog 61 (Kd.slice 67 kNt) (fun l => (l.map nNt).sum) := (bears_slice Try.underlying61 b67 (by kernel_rfl)).imp fun l => by omega
theorem len_fs (fs : List S119) : fs.length ≤ (fs.map n119).sum := len_sum (fun x => by unfold n119; omega) fs
theorem tot_fs (fs : List S119) : tot fs fs.length ≤ (fs.map n119).sum := by
  have h : ∀ k, k ≤ fs.length → tot fs k ≤ ((fs.take k).map n119).sum := by
    intro k
    induction k with
    | zero => intro _; exact Nat.zero_le _
    | succ k ih =>
      intro hk
      have h1 := ih (by omega)
      have h2 : k < fs.length := by omega
      rw [List.take_add_one, List.map_append, List.sum_append]
      simp only [tot, List.getElem?_eq_getElem h2, Option.toList_some, List.map_cons, List.map_nil, List.sum_cons, List.sum_nil]
      have h3 : cl fs k + 1 = n119 fs[k] := by
        simp [cl, n119, rd_T119, List.getD_eq_getElem?_getD, h2]
      omega
  have h1 := h fs.length (Nat.le_refl _)
  rwa [List.take_length] at h1
set_option maxRecDepth 100000 in
/-- A program that comes in. -/
theorem borne_prog {H : Type} {enc : TypeId × Value → H} {W : World} {base : Nat} {spare : Nat → Bool} {held : Bool} {r : Reach} {b0 : Nat} {v : Value} {d : DataW H} {p : List MemPlace} (hv : Value.okWide Try.prog W r b0 60 v)
    (h : DataW.Trod enc Try.prog W base spare held 60 v d p) : ∃ (A0 A1 : Option Addr) (c0 c1 : Nat) (gs : List S228) (fs : List S119), v = .agg #[.slice A0 gs.length c0, .slice A1 fs.length c1] ∧ gs.length ≤ c0 ∧ fs.length ≤ c1 ∧ Kd.C k228 W A0 gs.length gs ∧ Kd.C k119 W A1 fs.length fs ∧ (fs.map n119).sum ≤ Rows.uptoBulk d := by
  obtain ⟨a, hK, hG⟩ := borne b60 h
  obtain ⟨cs, rfl, hcs⟩ := okWide_struct Try.underlying60 hv
  obtain ⟨e0, e1, he, ⟨A0, c0, rfl, l0, h0⟩, A1, c1, rfl, l1, h1⟩ := hK
  refine ⟨A0, A1, c0, c1, a.1, a.2, ?_, l0, l1, h0, h1, hG⟩
  cases cs
  simp [Value.cells] at he
  rw [he]
set_option maxRecDepth 100000 in
/-- The notes that come in. -/
theorem borne_notes {H : Type} {enc : TypeId × Value → H} {W : World} {base : Nat} {spare : Nat → Bool} {held : Bool} {r : Reach} {b0 : Nat} {v : Value} {d : DataW H} {p : List MemPlace} (hv : Value.okWide Try.prog W r b0 61 v)
    (h : DataW.Trod enc Try.prog W base spare held 61 v d p) : ∃ (A : Option Addr) (c : Nat) (ns : List Nt), v = .slice A ns.length c ∧ ns.length ≤ c ∧ Kd.C kNt W A ns.length ns ∧ (ns.map nNt).sum ≤ Rows.uptoBulk d := by
  obtain ⟨ns, hK, hG⟩ := borne b61 h
  obtain ⟨a, n, c', rfl⟩ := okWide_slice Try.underlying61 hv
  obtain ⟨A, c, he, l0, h0⟩ := hK
  simp [Value.cells] at he
  obtain ⟨rfl, rfl, rfl⟩ := he
  exact ⟨_, _, ns, rfl, l0, h0, hG⟩
theorem prof_rg {l : List (List S28)} (h : ∀ x ∈ l, ∀ s ∈ x, -9223372036854775808 ≤ s.f0 ∧ s.f0 ≤ 9223372036854775807) : Rg l := by
  intro i j
  unfold gt rw_
  simp only [List.getD_eq_getElem?_getD]
  by_cases h1 : i < l.length
  · rw [List.getElem?_eq_getElem h1, Option.getD_some]
    by_cases h2 : j < l[i].length
    · rw [List.getElem?_eq_getElem h2, Option.getD_some]
      exact h _ (List.getElem_mem h1) _ (List.getElem_mem h2)
    · rw [List.getElem?_eq_none (by omega)]
      decide
  · rw [show l[i]? = none from List.getElem?_eq_none (by omega)]
    show -9223372036854775808 ≤ z28.f0 ∧ z28.f0 ≤ 9223372036854775807
    decide
theorem trodAll_five2 {H : Type} {enc : TypeId × Value → H} {P : Program} {w : World} {base : Nat} {spare : Nat → Bool} {held : Bool} {t0 t1 t2 t3 t4 : TypeId} {args : Array Value} {ds : List (DataW H)} {ps : List MemPlace} (h : DataW.TrodAll enc P w base spare held [t0, t1, t2, t3, t4] args.toList ds ps) :
    ∃ v0 v1 v2 v3 v4 d0 d1 d2 d3 d4 p0 p1 p2 p3 p4, args = #[v0, v1, v2, v3, v4] ∧ ds = [d0, d1, d2, d3, d4] ∧ ps = p0 ++ (p1 ++ (p2 ++ (p3 ++ p4))) ∧ DataW.Trod enc P w base spare held t0 v0 d0 p0 ∧ DataW.Trod enc P w base spare held t1 v1 d1 p1 ∧ DataW.Trod enc P w base spare held t2 v2 d2 p2 ∧ DataW.Trod enc P w base spare held t3 v3 d3 p3 ∧ DataW.Trod enc P w base spare held t4 v4 d4 p4 := by
  obtain ⟨v0, vs0, d0, ds0, p0, q0, a0, rfl, rfl, h0, r0⟩ := trodAll_cons h
  obtain ⟨v1, vs1, d1, ds1, p1, q1, rfl, rfl, rfl, h1, r1⟩ := trodAll_cons r0
  obtain ⟨v2, vs2, d2, ds2, p2, q2, rfl, rfl, rfl, h2, r2⟩ := trodAll_cons r1
  obtain ⟨v3, vs3, d3, ds3, p3, q3, rfl, rfl, rfl, h3, r3⟩ := trodAll_cons r2
  obtain ⟨v4, vs4, d4, ds4, p4, q4, rfl, rfl, rfl, h4, r4⟩ := trodAll_cons r3
  obtain ⟨rfl, rfl, rfl⟩ := trodAll_nil r4
  exact ⟨v0, v1, v2, v3, v4, d0, d1, d2, d3, d4, p0, p1, p2, p3, p4, by cases args; simp_all, rfl, by simp, h0, h1, h2, h3, h4⟩
theorem small5 {H : Type} {a b c d e : DataW H} (h : Rows.uptoSmall H [a, b, c, d, e] = true) : Rows.uptoBulk a ≤ 1048576 ∧ Rows.uptoBulk b ≤ 1048576 ∧ Rows.uptoBulk e ≤ 1048576 := by
  have h2 := of_decide_eq_true h
  simp only [Rows.uptoBulkAll] at h2
  omega

set_option maxRecDepth 100000 in
theorem lifted (os : Os) (started : os.Started) (H : Type) (enc : TypeId × Value → H) (F0 : Stop.Interp) :
    ReturnsInHanded {} Try.checked os 8 .any ((Rows.OpenSpec.upto Rows.profileBookSpec).pre6 enc Try.prog Try.f8 Rows.profileBookUptoRow.domain false) (((Rows.OpenSpec.upto Rows.profileBookSpec).at F0).post enc Try.prog Try.f8 false true false false) := by
  refine returnsInHanded_of_cond_sized (C := Try.checked) (s := Rows.OpenSpec.upto Rows.profileBookSpec) (k := Rows.uptoSmall) rfl own started (by kernel_rfl) Try.func8
    (OpenSpec.witness (enc := enc) (C := Try.checked) (s := Rows.OpenSpec.upto Rows.profileBookSpec) (k := Rows.uptoSmall) rfl false ⟨#[], #[.agg #[.slice none 0 0, .slice none 0 0], .agg #[.slice none 0 0, .slice none 0 0], .agg #[.slice none 0 0], .agg #[.slice none 0 0], .slice none 0 0], []⟩ 8 (by kernel_rfl) (by kernel_rfl) (by kernel_rfl)
      (x := ([.agg [.nil, .nil], .agg [.nil, .nil], .agg [.nil], .agg [.nil], .nil], [], [])) (by kernel_rfl) (by kernel_rfl) (by kernel_rfl)) ?_
  intro W base args ds gs before hval0 hW _ hk hreach _
  have hval : ∀ (j : Nat) t v, Try.f8.params[j]? = some t → args[j]? = some v → Value.okWide Try.prog W .any base t v := hval0
  have hsz := hreach
  have hW' := hW
  obtain ⟨p, q, hA0, hV, rfl, hfz, hnd⟩ := hW
  have hA : DataW.TrodAll enc Try.prog W 0 (fun _ => true) true Try.f8.params.toList args.toList ds p := hA0
  rw [Try.params8] at hA hval hsz
  obtain ⟨v0, v1, v2, v3, v4, d0, d1, d2, d3, d4, p0, p1, p2, p3, p4, rfl, rfl, rfl, h0, h1, h2, h3, h4⟩ := trodAll_five2 hA
  obtain ⟨rfl, rfl⟩ := trodVars_none hV
  simp only [List.append_nil] at hW'
  obtain ⟨A0, A1, c0, c1, gp, fp, rfl, e0, e1, hp0, hp1, hB0⟩ := borne_prog (hval 0 60 v0 rfl rfl) h0
  obtain ⟨A2, A3, c2, c3, gq, fq, rfl, e2, e3, hq0, hq1, hB1⟩ := borne_prog (hval 1 60 v1 rfl rfl) h1
  obtain ⟨A4, c4, lf, rfl, e4, hf, hGf⟩ := open_prof (hval 2 24 v2 rfl rfl) h2 (fun n hn => by simpa using List.all_eq_true.1 hsz n (weights_each (i := 2) (t := 24) (y := d2) rfl rfl hn))
  obtain ⟨A5, c5, lo, rfl, e5, ho, hGo⟩ := open_prof (hval 3 24 v3 rfl rfl) h3 (fun n hn => by simpa using List.all_eq_true.1 hsz n (weights_each (i := 3) (t := 24) (y := d3) rfl rfl hn))
  obtain ⟨A6, c6, ns, rfl, e6, hn, hBn⟩ := borne_notes (hval 4 61 v4 rfl rfl) h4
  obtain ⟨s0, s1, s4⟩ := small5 hk
  have hna : ∀ x ∈ ns, x.args.length < 4398046511104 := fun x hx => by
    have h5 : nNt x ≤ (ns.map nNt).sum := mem_sum hx
    have h6 : nNt x = x.args.length + 1 := rfl
    omega
  refine (BookLaw.law A0 A1 A2 A3 A4 A5 A6 c0 c1 c2 c3 c4 c5 c6 gp gq fp fq lf lo ns W hp0 hp1 hq0 hq1 hf ho hn e0 e1 e2 e3 e4 e5 e6 (by have := len_fs fp; omega) (by have := tot_fs fp; omega) (by have := len_fs fq; omega) (by have := tot_fs fq; omega)
    hGf.1 (fun x hx => (hGf.2 x hx).1) hGo.1 (fun x hx => (hGo.2 x hx).1) (prof_rg fun x hx s hs => ((hGf.2 x hx).2 s hs).1) (prof_rg fun x hx s hs => ((hGo.2 x hx).2 s hs).1) (by have := len_sum (m := nNt) (fun x => by unfold nNt; omega) ns; omega) hna).mono fun e W' ⟨he, hb⟩ => ?_
  subst he
  exact ⟨_, rfl, law_post hW' rfl laidOut (by kernel_rfl) rfl Try.underlying4 rfl hb⟩

theorem proved : Rows.ProfileBookUptoSaid :=
  OpenClaim.holds_of_cond 8 Try.f8 rfl rfl rfl rfl rfl rfl rfl ⟨rfl, rfl, rfl, rfl, rfl⟩ rfl rfl rfl rfl rfl (by kernel_rfl) Try.func8 (by kernel_rfl)
    (of_decide_eq_true (by kernel_rfl)) (by unfold Func.isWrapper; first | (rw [if_pos (by decide +kernel)]; kernel_rfl) | (rw [if_neg (by decide +kernel)]; exact ⟨rfl, rfl⟩))
    (fun os started H enc _ F0 => lifted os started H enc F0)
#print axioms proved
end Go.Proofs.Ytjeaojolhdfpeaa.BookRow
namespace Go.Proofs.Ytjeaojolhdfpeaa
/-- The row, under a short name. -/
theorem profileBookUpto_holds : Rows.ProfileBookUptoSaid := BookRow.proved
end Go.Proofs.Ytjeaojolhdfpeaa
