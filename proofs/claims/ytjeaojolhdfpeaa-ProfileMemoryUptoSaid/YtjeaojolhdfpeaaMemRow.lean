/- ProfileMemory's row, where what it reads is of bulk at most 1048576: for every program and every two profiles. -/
import Derived.Test.YtjeaojolhdfpeaaMemLaw
import Derived.Test.YtjeaojolhdfpeaaTypesM
import Derived.Test.YtjeaojolhdfpeaaBulk
import Derived.Deep.CondSized
import Derived.ChangeMaps5
namespace Go.Proofs.Ytjeaojolhdfpeaa.MemRow
open Go.RowKit Go.WideShapes Go.ChangeShapes Go.ChangeAt
open Go.Proofs.YtjeaojolhdfpeaaW.PrintWords Go.Proofs.Ytjeaojolhdfpeaa.Open Go.ChangeMaps Go.Proofs.Ytjeaojolhdfpeaa.Bulk Go.Proofs.Ytjeaojolhdfpeaa.TypesM Go.Proofs.Ytjeaojolhdfpeaa.PProfileMemory Go.Proofs.Ytjeaojolhdfpeaa.BookB Go.Proofs.Ytjeaojolhdfpeaa.BookN Go.Proofs.Ytjeaojolhdfpeaa.MergeP
set_option linter.unusedVariables false
set_option linter.unusedSimpArgs false

theorem sum_ones {α : Type} (l : List α) : l.length ≤ (l.map fun _ => 1).sum := len_sum (fun _ => Nat.le_refl _) l
theorem b2 : Bulk.Bears Try.prog 2 (Kd.int .i64) (fun _ => 1) := bears_int Try.underlying2
theorem b3 : Bulk.Bears Try.prog 3 (Kd.int .i64) (fun _ => 1) := bears_int Try.underlying3
theorem b26 : Bulk.Bears Try.prog 26 (Kd.int .u16) (fun _ => 1) := bears_int Try.underlying26
theorem b9 : Bulk.Bears Try.prog 9 Kd.string (fun _ => 0) := (bears_string Try.underlying9).imp fun _ => Nat.zero_le _
theorem b228 : Bulk.Bears Try.prog 228 k228 (fun _ => 0) :=
  (bears_iso (g := fun p => ⟨p.1, p.2.1, p.2.2⟩) (fun _ => rfl) (bears_struct Try.underlying228 (bearsF_cons b3 rfl (by kernel_rfl) (bearsF_cons b2 rfl (by kernel_rfl) (bearsF_one b9 rfl (by kernel_rfl)))) (by kernel_rfl))).imp fun _ => Nat.zero_le _
theorem b57 : Bulk.Bears Try.prog 57 (Kd.slice 228 k228) (fun _ => 0) := (bears_slice Try.underlying57 b228 (by kernel_rfl)).imp fun _ => Nat.zero_le _
theorem b177 : Bulk.Bears Try.prog 177 k177 (fun _ => 1) :=
  (bears_iso (g := fun p => ⟨p.1, p.2⟩) (fun _ => rfl) (bears_struct Try.underlying177 (bearsF_cons b3 rfl (by kernel_rfl) (bearsF_one b2 rfl (by kernel_rfl))) (by kernel_rfl))).imp fun _ => by omega
theorem b116 : Bulk.Bears Try.prog 116 (Kd.slice 177 k177) (fun l => l.length) := (bears_slice Try.underlying116 b177 (by kernel_rfl)).imp fun l => by have := sum_ones l; omega
theorem b230 : Bulk.Bears Try.prog 230 k230 (fun _ => 0) :=
  (bears_iso (g := fun p => ⟨p.1, p.2.1, p.2.2.1, p.2.2.2⟩) (fun _ => rfl) (bears_struct Try.underlying230 (bearsF_cons b3 rfl (by kernel_rfl) (bearsF_cons b3 rfl (by kernel_rfl) (bearsF_cons b3 rfl (by kernel_rfl) (bearsF_one b3 rfl (by kernel_rfl))))) (by kernel_rfl))).imp fun _ => Nat.zero_le _
theorem b117 : Bulk.Bears Try.prog 117 (Kd.slice 230 k230) (fun _ => 0) := (bears_slice Try.underlying117 b230 (by kernel_rfl)).imp fun _ => Nat.zero_le _
def n119 (x : S119) : Nat := x.f3.length + 1
theorem b119 : Bulk.Bears Try.prog 119 k119 n119 :=
  (bears_iso (g := fun p => ⟨p.1, p.2.1, p.2.2.1, p.2.2.2.1, p.2.2.2.2⟩) (fun _ => rfl) (bears_struct Try.underlying119 (bearsF_cons b9 rfl (by kernel_rfl) (bearsF_cons b3 rfl (by kernel_rfl) (bearsF_cons b3 rfl (by kernel_rfl) (bearsF_cons b116 rfl (by kernel_rfl) (bearsF_one b117 rfl (by kernel_rfl)))))) (by kernel_rfl))).imp fun x => by unfold n119; simp only; omega
theorem b58 : Bulk.Bears Try.prog 58 (Kd.slice 119 k119) (fun l => (l.map n119).sum) := (bears_slice Try.underlying58 b119 (by kernel_rfl)).imp fun l => by omega
theorem b60 : Bulk.Bears Try.prog 60 (Kd.pair (Kd.slice 228 k228) (Kd.slice 119 k119)) (fun p => (p.2.map n119).sum) :=
  (bears_struct Try.underlying60 (bearsF_cons b57 rfl (by kernel_rfl) (bearsF_one b58 rfl (by kernel_rfl))) (by kernel_rfl)).imp fun p => by omega
theorem b28 : Bulk.Bears Try.prog 28 k28 (fun _ => 1) :=
  (bears_iso (g := fun p => ⟨p.1, p.2.1, p.2.2.1, p.2.2.2⟩) (fun _ => rfl) (bears_struct Try.underlying28 (bearsF_cons b2 rfl (by kernel_rfl) (bearsF_cons b26 rfl (by kernel_rfl) (bearsF_cons b26 rfl (by kernel_rfl) (bearsF_one b3 rfl (by kernel_rfl))))) (by kernel_rfl))).imp fun _ => by omega
def nRow (x : List S28) : Nat := x.length + 1
theorem b77 : Bulk.Bears Try.prog 77 (Kd.slice 28 k28) nRow := (bears_slice Try.underlying77 b28 (by kernel_rfl)).imp fun l => by have := sum_ones l; unfold nRow; omega
theorem b22 : Bulk.Bears Try.prog 22 (Kd.slice 77 (Kd.slice 28 k28)) (fun l => (l.map nRow).sum) := (bears_slice Try.underlying22 b77 (by kernel_rfl)).imp fun l => by omega
theorem b24 : Bulk.Bears Try.prog 24 (Kd.slice 77 (Kd.slice 28 k28)) (fun l => (l.map nRow).sum) := (bears_struct Try.underlying24 (bearsF_one b22 rfl (by kernel_rfl)) (by kernel_rfl)).imp fun l => by omega
theorem len_fs (fs : List S119) : fs.length ≤ (fs.map n119).sum := len_sum (fun x => by unfold n119; omega) fs
theorem tot_fs (fs : List S119) : tot fs fs.length ≤ (fs.map n119).sum := by
  have h : ∀ k, k ≤ fs.length → tot fs k ≤ ((fs.take k).map n119).sum := by
    intro k
    induction k with
    | zero => intro _; exact Nat.zero_le _
    | succ k ih =>
      intro hk
      have h1 := ih (by omega)
      have h2 : k < fs.length := by omega
      rw [List.take_add_one, List.map_append, List.sum_append]
      simp only [tot, List.getElem?_eq_getElem h2, Option.toList_some, List.map_cons, List.map_nil, List.sum_cons, List.sum_nil]
      have h3 : cl fs k + 1 = n119 fs[k] := by
        simp [cl, n119, rd_T119, List.getD_eq_getElem?_getD, h2]
      omega
  have h1 := h fs.length (Nat.le_refl _)
  rwa [List.take_length] at h1
set_option maxRecDepth 100000 in
/-- A program that comes in. -/
theorem borne_prog {H : Type} {enc : TypeId × Value → H} {W : World} {base : Nat} {spare : Nat → Bool} {held : Bool} {r : Reach} {b0 : Nat} {v : Value} {d : DataW H} {p : List MemPlace} (hv : Value.okWide Try.prog W r b0 60 v)
    (h : DataW.Trod enc Try.prog W base spare held 60 v d p) : ∃ (A0 A1 : Option Addr) (c0 c1 : Nat) (gs : List S228) (fs : List S119), v = .agg #[.slice A0 gs.length c0, .slice A1 fs.length c1] ∧ gs.length ≤ c0 ∧ fs.length ≤ c1 ∧ Kd.C k228 W A0 gs.length gs ∧ Kd.C k119 W A1 fs.length fs ∧ (fs.map n119).sum ≤ Rows.uptoBulk d := by
  obtain ⟨a, hK, hG⟩ := borne b60 h
  obtain ⟨cs, rfl, hcs⟩ := okWide_struct Try.underlying60 hv
  obtain ⟨e0, e1, he, ⟨A0, c0, rfl, l0, h0⟩, A1, c1, rfl, l1, h1⟩ := hK
  refine ⟨A0, A1, c0, c1, a.1, a.2, ?_, l0, l1, h0, h1, hG⟩
  cases cs
  simp [Value.cells] at he
  rw [he]
theorem rows_len {W : World} {A : Option Addr} {l l' : List (List S28)} (h : Kd.C (Kd.slice 28 k28) W A l.length l) (h' : Kd.C (Kd.slice 28 k28) W A l.length l') (i : Nat) (hi : i < l.length) : (l.getD i []).length = (l'.getD i []).length := by
  obtain ⟨ad, c, e, _, hK, hc0⟩ := Kd.C_get h ([] : List S28) (i : Int) (by omega) (by omega)
  obtain ⟨ad', c', e', _, hK', hc0'⟩ := Kd.C_get h' ([] : List S28) (i : Int) (by omega) (by omega)
  rw [e] at e'
  injection e' with e'
  subst e'
  rw [Int.toNat_natCast] at hK hK'
  obtain ⟨B, k, rfl, _, _⟩ := hK
  obtain ⟨B', k', rfl, _, _⟩ := hK'
  have h1 := hc0 0 _ rfl
  have h2 := hc0' 0 _ rfl
  rw [h1] at h2
  injection h2 with h2
  injection h2
set_option maxRecDepth 100000 in
/-- A profile that comes in. -/
theorem borne_prof {H : Type} {enc : TypeId × Value → H} {W : World} {base : Nat} {spare : Nat → Bool} {held : Bool} {r : Reach} {b0 : Nat} {v : Value} {d : DataW H} {p : List MemPlace} (hv : Value.okWide Try.prog W r b0 24 v)
    (h : DataW.Trod enc Try.prog W base spare held 24 v d p) (hw : ∀ n ∈ d.weights Try.prog 24, n ≤ reachBytes) (hb : Rows.uptoBulk d ≤ 1048576) :
    ∃ (A : Option Addr) (c : Nat) (l : List (List S28)), v = .agg #[.slice A l.length c] ∧ l.length ≤ c ∧ Kd.C (Kd.slice 28 k28) W A l.length l ∧ l.length ≤ 1048576 ∧ (∀ x ∈ l, x.length ≤ 1048576) ∧ ∀ x ∈ l, ∀ s ∈ x, SpotIn s := by
  obtain ⟨A, c, l, rfl, hc, hC, hI⟩ := open_prof hv h hw
  obtain ⟨l', hK, hG⟩ := borne b24 h
  obtain ⟨A', c', he, hl', hr'⟩ := hK
  simp [Value.cells] at he
  obtain ⟨rfl, hlen, rfl⟩ := he
  have h1 : l'.length ≤ (l'.map nRow).sum := len_sum (fun x => by unfold nRow; omega) l'
  refine ⟨A, c, l, rfl, hc, hC, by omega, fun x hx => ?_, fun x hx s hs => (hI.2 x hx).2 s hs⟩
  obtain ⟨i, hi, rfl⟩ := List.getElem_of_mem hx
  have h2 := rows_len hC (by rw [hlen]; exact hr') i hi
  have h3 : nRow (l'.getD i []) ≤ (l'.map nRow).sum := mem_sum (by
    rw [List.getD_eq_getElem?_getD, List.getElem?_eq_getElem (by omega), Option.getD_some]
    exact List.getElem_mem _)
  rw [List.getD_eq_getElem?_getD, List.getElem?_eq_getElem hi, Option.getD_some] at h2
  have h4 : nRow (l'.getD i []) = (l'.getD i []).length + 1 := rfl
  omega
theorem trodAll_three2 {H : Type} {enc : TypeId × Value → H} {P : Program} {w : World} {base : Nat} {spare : Nat → Bool} {held : Bool} {t0 t1 t2 : TypeId} {args : Array Value} {ds : List (DataW H)} {ps : List MemPlace} (h : DataW.TrodAll enc P w base spare held [t0, t1, t2] args.toList ds ps) :
    ∃ v0 v1 v2 d0 d1 d2 p0 p1 p2, args = #[v0, v1, v2] ∧ ds = [d0, d1, d2] ∧ ps = p0 ++ (p1 ++ p2) ∧ DataW.Trod enc P w base spare held t0 v0 d0 p0 ∧ DataW.Trod enc P w base spare held t1 v1 d1 p1 ∧ DataW.Trod enc P w base spare held t2 v2 d2 p2 := by
  obtain ⟨v0, vs0, d0, ds0, p0, q0, a0, rfl, rfl, h0, r0⟩ := trodAll_cons h
  obtain ⟨v1, vs1, d1, ds1, p1, q1, rfl, rfl, rfl, h1, r1⟩ := trodAll_cons r0
  obtain ⟨v2, vs2, d2, ds2, p2, q2, rfl, rfl, rfl, h2, r2⟩ := trodAll_cons r1
  obtain ⟨rfl, rfl, rfl⟩ := trodAll_nil r2
  exact ⟨v0, v1, v2, d0, d1, d2, p0, p1, p2, by cases args; simp_all, rfl, by simp, h0, h1, h2⟩
theorem small3 {H : Type} {a b c : DataW H} (h : Rows.uptoSmall H [a, b, c] = true) : Rows.uptoBulk a ≤ 1048576 ∧ Rows.uptoBulk b ≤ 1048576 ∧ Rows.uptoBulk c ≤ 1048576 := by
  have h2 := of_decide_eq_true h
  simp only [Rows.uptoBulkAll] at h2
  omega

set_option maxRecDepth 100000 in
theorem lifted (os : Os) (started : os.Started) (H : Type) (enc : TypeId × Value → H) (F0 : Stop.Interp) :
    ReturnsInHanded {} Try.checked os 9 .any ((Rows.OpenSpec.upto Rows.profileMemorySpec).pre6 enc Try.prog Try.f9 Rows.profileMemoryUptoRow.domain false) (((Rows.OpenSpec.upto Rows.profileMemorySpec).at F0).post enc Try.prog Try.f9 false true false false) := by
  refine returnsInHanded_of_cond_sized (C := Try.checked) (s := Rows.OpenSpec.upto Rows.profileMemorySpec) (k := Rows.uptoSmall) rfl own started (by kernel_rfl) Try.func9
    (OpenSpec.witness (enc := enc) (C := Try.checked) (s := Rows.OpenSpec.upto Rows.profileMemorySpec) (k := Rows.uptoSmall) rfl false ⟨#[], #[.agg #[.slice none 0 0, .slice none 0 0], .agg #[.slice none 0 0], .agg #[.slice none 0 0]], []⟩ 9 (by kernel_rfl) (by kernel_rfl) (by kernel_rfl)
      (x := ([.agg [.nil, .nil], .agg [.nil], .agg [.nil]], [], [])) (by kernel_rfl) (by kernel_rfl) (by kernel_rfl)) ?_
  intro W base args ds gs before hval0 hW _ hk hreach _
  have hval : ∀ (j : Nat) t v, Try.f9.params[j]? = some t → args[j]? = some v → Value.okWide Try.prog W .any base t v := hval0
  have hsz := hreach
  have hW' := hW
  obtain ⟨p, q, hA0, hV, rfl, hfz, hnd⟩ := hW
  have hA : DataW.TrodAll enc Try.prog W 0 (fun _ => true) true Try.f9.params.toList args.toList ds p := hA0
  rw [Try.params9] at hA hval hsz
  obtain ⟨v0, v1, v2, d0, d1, d2, p0, p1, p2, rfl, rfl, rfl, h0, h1, h2⟩ := trodAll_three2 hA
  obtain ⟨rfl, rfl⟩ := trodVars_none hV
  simp only [List.append_nil] at hW'
  obtain ⟨s0, s1, s2⟩ := small3 hk
  obtain ⟨A0, A1, c0, c1, gp, fp, rfl, e0, e1, hp0, hp1, hB0⟩ := borne_prog (hval 0 60 v0 rfl rfl) h0
  obtain ⟨A2, c2, lf, rfl, e2, hf, hf1, hf2, hf3⟩ := borne_prof (hval 1 24 v1 rfl rfl) h1 (fun n hn => by simpa using List.all_eq_true.1 hsz n (weights_each (i := 1) (t := 24) (y := d1) rfl rfl hn)) s1
  obtain ⟨A3, c3, lo, rfl, e3, ho, ho1, ho2, ho3⟩ := borne_prof (hval 2 24 v2 rfl rfl) h2 (fun n hn => by simpa using List.all_eq_true.1 hsz n (weights_each (i := 2) (t := 24) (y := d2) rfl rfl hn)) s2
  refine (MemLaw.law A0 A1 A2 A3 c0 c1 c2 c3 gp fp lf lo W hp0 hp1 hf ho e0 e1 e2 e3 (by have := len_fs fp; omega) (by have := tot_fs fp; omega) hf1 ho1 hf2 ho2 hf3 ho3).mono fun e W' ⟨he, hb⟩ => ?_
  subst he
  exact ⟨_, rfl, law_post hW' rfl laidOut (by kernel_rfl) rfl Try.underlying4 rfl hb⟩

theorem proved : Rows.ProfileMemoryUptoSaid :=
  OpenClaim.holds_of_cond 9 Try.f9 rfl rfl rfl rfl rfl rfl rfl ⟨rfl, rfl, rfl, rfl, rfl⟩ rfl rfl rfl rfl rfl (by kernel_rfl) Try.func9 (by kernel_rfl)
    (of_decide_eq_true (by kernel_rfl)) (by unfold Func.isWrapper; first | (rw [if_pos (by decide +kernel)]; kernel_rfl) | (rw [if_neg (by decide +kernel)]; exact ⟨rfl, rfl⟩))
    (fun os started H enc _ F0 => lifted os started H enc F0)
#print axioms proved
end Go.Proofs.Ytjeaojolhdfpeaa.MemRow
namespace Go.Proofs.Ytjeaojolhdfpeaa
/-- The row, under a short name. -/
theorem profileMemoryUpto_holds : Rows.ProfileMemoryUptoSaid := MemRow.proved
end Go.Proofs.Ytjeaojolhdfpeaa
