/- wire's Reader: Text. -/
import Derived.Test.YtcgajjaaiablkaaCatch98
import Derived.Test.YtcgajjaaiablkaaRRaw
import Derived.Test.YtcgajjaaiablkaaRCount
import Derived.Deep.RegionHeld3
import Derived.Laws.Cover3
namespace Go.Proofs.Ytcgajjaaiablkaa.RText
open Go.RowKit Go.Proofs.YtcgajjaaiablkaaW.PrintWords Go.Proofs.YtcgajjaaiablkaaW.PrintLast Go.Proofs.YtcgajjaaiablkaaW.PrintMore
open Go.Proofs.Ytcgajjaaiablkaa.PRelaySealed Go.Proofs.Ytcgajjaaiablkaa.Reader Go.Proofs.Ytcgajjaaiablkaa.RRaw
set_option linter.unusedVariables false
set_option linter.unusedSimpArgs false

/-- What is read in the text's place: how long it is, its place, the error. -/
def txt (bs : List Int) (a : Nat) (most : Int) : List Int × Nat × Int :=
  if (cnt bs a most).2.2 = 0 then if a + (cnt bs a most).2.1 + (cnt bs a most).1.toNat ≤ bs.length then ((bs.drop (a + (cnt bs a most).2.1)).take (cnt bs a most).1.toNat, a + (cnt bs a most).2.1 + (cnt bs a most).1.toNat, 0) else ([], a, 2)
  else ([], a, (cnt bs a most).2.2)
theorem cnt_range (bs : List Int) (a : Nat) (most : Int) (hb : Bytes bs) (hm : 0 ≤ most) : 0 ≤ (cnt bs a most).1 ∧ (cnt bs a most).1 ≤ most ∧ ((cnt bs a most).2.2 = 0 → a + (cnt bs a most).2.1 ≤ bs.length) := by
  have h := num_range bs a hb
  unfold cnt
  split
  · split
    · exact ⟨Int.le_refl _, hm, fun h => by simp at h⟩
    · exact ⟨h.1, by omega, h.2.2⟩
  · exact ⟨Int.le_refl _, hm, fun h2 => by contradiction⟩

section
variable {P : Program} {ops : Array Oper} {Q : Exit → Act → World → Prop}
/-- A call in a drawn region that panics. -/
theorem quits_ {oi : Oper} {N : Option Tmp} {a : Act} {w : World} {K : Act → World → Prop} {f : FuncId} {fn : Func} {ars : Array Operand} {ts : Array TypeId} (hf : P.funcs[f]? = some fn) (hname : (fn.name == "runtime.NumGoroutine") = false) (hb : fn.body.isSome = true) (args : Array Value)
    (hw : Region.wanted oi (yielded ops a.tmps) = true) (hop : oi.op = .call { callee := .value (.func f), args := ars, argTypes := ts }) (hargs : ars.map a.eval = args)
    (h : Calls P f args w fun e w' => ∃ chain, e = .panicked chain ∧ Q (.panic chain) a w') : if Region.wanted oi (yielded ops a.tmps) = true then Oper.wp P oi a w K Q else K (a.put N undef) w := by
  rw [if_pos hw]
  have he := enters_ hf hname hb args w
  have hrun : (execOp a.eval oi).run P w = .ok (.enter f args) w := by
    unfold execOp
    simp [hop, resolve, Deferred.ofValue, invoke, Act.eval, hargs, he]
  unfold Oper.wp
  rw [hrun, Oper.upon_enter]
  refine h.mono ?_
  rintro e w' ⟨chain, rfl, hq⟩
  exact hq
end
def r77_1_T : Bool × List (List Nat × List Nat) := (true, [([], []), ([], []), ([], []), ([1, 2], [1, 2]), ([0, 3, 3], [0, 3]), ([4], [4]), ([5, 4, 0, 1, 2, 3, 4, 5], [5])])
def r77_1_B : List Nat := [0, 0, 0, 6, 15, 31, 63]
theorem r77_1_tab : rtab .any (opsOf Try.f77 1) = r77_1_T := by kernel_rfl
theorem r77_1_bits : waitsOk r77_1_T.2 r77_1_B = true := by kernel_rfl
set_option maxHeartbeats 8000000 in
set_option maxRecDepth 100000 in
/-- The closure that Text hands on. -/
theorem texting (g rb mb : Nat) (bs : List Int) (a : Nat) (most : Int) (w0 w : World) (hI : Rd w0 w g bs a 0) (hB : Below w0.heap.size w0 w) (hb : Bytes bs) (ha : a ≤ bs.length) (hm : 0 ≤ most ∧ most ≤ 9223372036854775807)
    (hr : w.heap[rb]? = some (.cells #[.pointer (some ⟨g, 0, none⟩)] 62 (0, 0))) (hmo : w.heap[mb]? = some (.cells #[.int .i64 most] 3 (0, 0))) (hg1 : rb ≠ g) (hg2 : mb ≠ g) :
    Calls Try.prog 77 #[.pointer (some ⟨rb, 0, none⟩), .pointer (some ⟨mb, 0, none⟩)] w (Reader.Outcome w0 w g bs (.string (strOfNums (txt bs a most).1)) (txt bs a most).2.1 (txt bs a most).2.2 0) := by
  have hrange := cnt_range bs a most hb hm.1
  have HC := Aside0.mk (fun w1 (h : Moved w0 w w1 g bs a 0) => count g bs a 0 most w0 w1 h.rd h.below hb ha hm)
  have HM := Aside0.mk (Moved.refl hI hB)
  have HR := Aside0.mk hr
  have HMO := Aside0.mk hmo
  replace hr : w.cell? ⟨rb, 0, none⟩ = some (.pointer (some ⟨g, 0, none⟩)) := (blk_cell HR.out 0).trans rfl
  replace hmo : w.cell? ⟨mb, 0, none⟩ = some (.int .i64 most) := (blk_cell HMO.out 0).trans rfl
  clear hI hB
  unfold txt
  generalize cnt bs a most = r at HC hrange ⊢
  by_cases hno : r.2.2 = 0
  · obtain ⟨n, hn⟩ : ∃ n : Nat, r.1 = n := ⟨r.1.toNat, by omega⟩
    have hpos := hrange.2.2 hno
    rw [hn] at hrange HC ⊢
    rw [if_pos hno, Int.toNat_natCast]
    by_cases hfit : a + r.2.1 + n ≤ bs.length
    · rw [if_pos hfit]
      have HM2 := Aside0.mk HM.out.drew
      have HR2 := Aside0.mk (show w.drew.heap[rb]? = some (.cells #[.pointer (some ⟨g, 0, none⟩)] 62 (0, 0)) from HR.out)
      have HMO2 := Aside0.mk (show w.drew.heap[mb]? = some (.cells #[.int .i64 most] 3 (0, 0)) from HMO.out)
      have HM2 := Aside0.mk HM.out.drew
      have HR2 := Aside0.mk (show w.drew.heap[rb]? = some (.cells #[.pointer (some ⟨g, 0, none⟩)] 62 (0, 0)) from HR.out)
      have HMO2 := Aside0.mk (show w.drew.heap[mb]? = some (.cells #[.int .i64 most] 3 (0, 0)) from HMO.out)
      go_enter Try.func77, Try.ntmps77
      go_wp2_with fail
      refine start_ (n := 7) (S := fun w' => w'.cell? ⟨rb, 0, none⟩ = some (.pointer (some ⟨g, 0, none⟩)) ∧ w'.cell? ⟨mb, 0, none⟩ = some (.int .i64 most)) (ds := []) #[false, false, false, false, false, false, false] (by kernel_rfl) rfl rfl ⟨hr, hmo⟩ (fun hHeld => ?_)
      refine with_tabW r77_1_tab r77_1_bits (fun HT_ HW_ => ?_)
      generalize World.drew w = W2 at HM2 HR2 HMO2 hHeld ⊢
      refine take_ (i := 0) (N := some 3) (v := ?_) (a' := ?_) #[true, false, false, false, false, false, false] rfl rfl (take_ofW HT_.out HW_.out (by kernel_rfl)) (fun _ _ _ h => h) (Or.inl ⟨by rfl, ?_⟩) hHeld ?_ ?_
      rotate_left
      · rintro w' ⟨s0, s1⟩
        go_simp
        with_reducible rfl
      rotate_left
      · simp only [Act.put, List.setIfInBounds_toArray, List.set_cons_zero, List.set_cons_succ, i64_w, i32_w]
        rfl
      refine take_ (i := 1) (N := some 4) (v := ?_) (a' := ?_) #[true, true, false, false, false, false, false] rfl rfl (take_ofW HT_.out HW_.out (by kernel_rfl)) (fun _ _ _ h => h) (Or.inl ⟨by rfl, ?_⟩) hHeld ?_ ?_
      rotate_left
      · rintro w' ⟨s0, s1⟩
        go_simp
        with_reducible rfl
      rotate_left
      · simp only [Act.put, List.setIfInBounds_toArray, List.set_cons_zero, List.set_cons_succ, i64_w, i32_w]
        rfl
      refine take_ (i := 2) (N := some 5) (v := ?_) (a' := ?_) #[true, true, true, false, false, false, false] rfl rfl (take_ofW HT_.out HW_.out (by kernel_rfl)) (fun _ _ _ h => h) (Or.inl ⟨by rfl, ?_⟩) hHeld ?_ ?_
      rotate_left
      · rintro w' ⟨s0, s1⟩
        go_simp
        with_reducible rfl
      rotate_left
      · simp only [Act.put, List.setIfInBounds_toArray, List.set_cons_zero, List.set_cons_succ, i64_w, i32_w]
        rfl
      refine one_ (i := 3) (N := some 6) #[true, true, true, true, false, false, false] rfl rfl (one_of HT_.out (by kernel_rfl)) (by decide) (fun K hK => ?_)
      refine goes_ Try.func75 (by kernel_rfl) rfl #[.pointer (some ⟨g, 0, none⟩), .int .i64 most] (by rfl) rfl rfl (by (try simp only [List.map_toArray, List.map_cons, List.map_nil]); first | done | rfl) ?_
      refine (HC.out _ HM2.out).mono ?_
      rintro e w1 (⟨_, rfl, hx⟩ | ⟨h, _⟩)
      rotate_left
      · exact absurd hno h
      refine ⟨_, rfl, ?_⟩
      have HM3 := Aside0.mk (HM2.out.trans hx)
      have HR3 := Aside0.mk (Reader98.Moved.blk hx HR2.out hg1)
      have HMO3 := Aside0.mk (Reader98.Moved.blk hx HMO2.out hg2)
      clear hx
      refine hK.out _ _ ⟨(blk_cell HR3.out 0).trans rfl, (blk_cell HMO3.out 0).trans rfl⟩ (fun hHeld => ?_)
      clear hK K
      refine norm_ (a' := ?_) ?_ ?_
      rotate_left
      · show Act.put _ (some 6) _ = _
        simp only [Act.put, List.setIfInBounds_toArray, List.set_cons_zero, List.set_cons_succ, i64_w, i32_w]
        rfl
      refine one_ (i := 4) (N := some 7) #[true, true, true, true, true, false, false] rfl rfl (one_of HT_.out (by kernel_rfl)) (by decide) (fun K hK => ?_)
      refine goes_ Try.func72 (by kernel_rfl) rfl #[.pointer (some ⟨g, 0, none⟩), .int .i64 n] (by rfl) rfl rfl (by (try simp only [List.map_toArray, List.map_cons, List.map_nil]); first | done | rfl) ?_
      obtain ⟨A, c, hc⟩ := Rc.of HM3.out.rd HM3.out.below
      refine (take_some g A c bs (a + r.2.1) n 0 w0 w1 hc hfit).mono ?_
      rintro e w4 ⟨A', c', rfl, hx, hC⟩
      refine ⟨_, rfl, ?_⟩
      have HM4 := Aside0.mk (HM3.out.trans hx)
      have HR4 := Aside0.mk (Reader98.Moved.blk hx HR3.out hg1)
      have HMO4 := Aside0.mk (Reader98.Moved.blk hx HMO3.out hg2)
      have hstr := Kd.C_string (P := Try.prog) (src := 33) (dst := 9) (c := c') Try.underlying33 Try.underlying5 Try.underlying9 hC
      clear hx hC hc
      refine hK.out _ _ ⟨(blk_cell HR4.out 0).trans rfl, (blk_cell HMO4.out 0).trans rfl⟩ (fun hHeld => ?_)
      clear hK K
      refine norm_ (a' := ?_) ?_ ?_
      rotate_left
      · show Act.put _ (some 7) _ = _
        simp only [Act.put, List.setIfInBounds_toArray, List.set_cons_zero, List.set_cons_succ, i64_w, i32_w]
        rfl
      refine one_ (i := 5) (N := some 8) #[true, true, true, true, true, true, false] rfl rfl (one_of HT_.out (by kernel_rfl)) (by decide) (fun K hK => ?_)
      refine value_ (w1 := ?_) (v := ?_) (by rfl) rfl ?_ ?_
      rotate_left 2
      · go_simp
        constructor
        · rfl
        · rfl
      refine hK.out _ _ ⟨(blk_cell HR4.out 0).trans rfl, (blk_cell HMO4.out 0).trans rfl⟩ (fun hHeld => ?_)
      clear hK K
      refine norm_ (a' := ?_) ?_ ?_
      rotate_left
      · show Act.put _ (some 8) _ = _
        simp only [Act.put, List.setIfInBounds_toArray, List.set_cons_zero, List.set_cons_succ, i64_w, i32_w]
        rfl
      refine pure_ (i := 6) (N := some 2) (v := ?_) (a' := ?_) #[true, true, true, true, true, true, true] rfl rfl (any_of HT_.out (by kernel_rfl)) (fun _ _ _ h => h) (Or.inl ⟨by rfl, ?_⟩) ?_ ?_
      rotate_left
      · intro w'
        go_simp
        with_reducible rfl
      rotate_left
      · simp only [Act.put, List.setIfInBounds_toArray, List.set_cons_zero, List.set_cons_succ, i64_w, i32_w]
        rfl
      refine done_ (done_of HT_.out (by kernel_rfl)) ?_
      go_wp2
      go_ret
      exact .inl ⟨rfl, rfl, HM4.out⟩
    · rw [if_neg hfit]
      have HM2 := Aside0.mk HM.out.drew
      have HR2 := Aside0.mk (show w.drew.heap[rb]? = some (.cells #[.pointer (some ⟨g, 0, none⟩)] 62 (0, 0)) from HR.out)
      have HMO2 := Aside0.mk (show w.drew.heap[mb]? = some (.cells #[.int .i64 most] 3 (0, 0)) from HMO.out)
      go_enter Try.func77, Try.ntmps77
      go_wp2_with fail
      refine start_ (n := 7) (S := fun w' => w'.cell? ⟨rb, 0, none⟩ = some (.pointer (some ⟨g, 0, none⟩)) ∧ w'.cell? ⟨mb, 0, none⟩ = some (.int .i64 most)) (ds := []) #[false, false, false, false, false, false, false] (by kernel_rfl) rfl rfl ⟨hr, hmo⟩ (fun hHeld => ?_)
      refine with_tabW r77_1_tab r77_1_bits (fun HT_ HW_ => ?_)
      generalize World.drew w = W2 at HM2 HR2 HMO2 hHeld ⊢
      refine take_ (i := 0) (N := some 3) (v := ?_) (a' := ?_) #[true, false, false, false, false, false, false] rfl rfl (take_ofW HT_.out HW_.out (by kernel_rfl)) (fun _ _ _ h => h) (Or.inl ⟨by rfl, ?_⟩) hHeld ?_ ?_
      rotate_left
      · rintro w' ⟨s0, s1⟩
        go_simp
        with_reducible rfl
      rotate_left
      · simp only [Act.put, List.setIfInBounds_toArray, List.set_cons_zero, List.set_cons_succ, i64_w, i32_w]
        rfl
      refine take_ (i := 1) (N := some 4) (v := ?_) (a' := ?_) #[true, true, false, false, false, false, false] rfl rfl (take_ofW HT_.out HW_.out (by kernel_rfl)) (fun _ _ _ h => h) (Or.inl ⟨by rfl, ?_⟩) hHeld ?_ ?_
      rotate_left
      · rintro w' ⟨s0, s1⟩
        go_simp
        with_reducible rfl
      rotate_left
      · simp only [Act.put, List.setIfInBounds_toArray, List.set_cons_zero, List.set_cons_succ, i64_w, i32_w]
        rfl
      refine take_ (i := 2) (N := some 5) (v := ?_) (a' := ?_) #[true, true, true, false, false, false, false] rfl rfl (take_ofW HT_.out HW_.out (by kernel_rfl)) (fun _ _ _ h => h) (Or.inl ⟨by rfl, ?_⟩) hHeld ?_ ?_
      rotate_left
      · rintro w' ⟨s0, s1⟩
        go_simp
        with_reducible rfl
      rotate_left
      · simp only [Act.put, List.setIfInBounds_toArray, List.set_cons_zero, List.set_cons_succ, i64_w, i32_w]
        rfl
      refine one_ (i := 3) (N := some 6) #[true, true, true, true, false, false, false] rfl rfl (one_of HT_.out (by kernel_rfl)) (by decide) (fun K hK => ?_)
      refine goes_ Try.func75 (by kernel_rfl) rfl #[.pointer (some ⟨g, 0, none⟩), .int .i64 most] (by rfl) rfl rfl (by (try simp only [List.map_toArray, List.map_cons, List.map_nil]); first | done | rfl) ?_
      refine (HC.out _ HM2.out).mono ?_
      rintro e w1 (⟨_, rfl, hx⟩ | ⟨h, _⟩)
      rotate_left
      · exact absurd hno h
      refine ⟨_, rfl, ?_⟩
      have HM3 := Aside0.mk (HM2.out.trans hx)
      have HR3 := Aside0.mk (Reader98.Moved.blk hx HR2.out hg1)
      have HMO3 := Aside0.mk (Reader98.Moved.blk hx HMO2.out hg2)
      clear hx
      refine hK.out _ _ ⟨(blk_cell HR3.out 0).trans rfl, (blk_cell HMO3.out 0).trans rfl⟩ (fun hHeld => ?_)
      clear hK K
      refine norm_ (a' := ?_) ?_ ?_
      rotate_left
      · show Act.put _ (some 6) _ = _
        simp only [Act.put, List.setIfInBounds_toArray, List.set_cons_zero, List.set_cons_succ, i64_w, i32_w]
        rfl
      refine one_ (i := 4) (N := some 7) #[true, true, true, true, true, false, false] rfl rfl (one_of HT_.out (by kernel_rfl)) (by decide) (fun K hK => ?_)
      refine quits_ (by kernel_rfl) (fn := Try.f72) rfl rfl #[.pointer (some ⟨g, 0, none⟩), .int .i64 n] (by rfl) rfl (by (try simp only [List.map_toArray, List.map_cons, List.map_nil]); first | done | rfl) ?_
      refine (take_none g bs (a + r.2.1) n 0 w0 w1 HM3.out.rd HM3.out.below hpos (by omega)).mono ?_
      rintro e w4 ⟨rfl, hx⟩
      exact ⟨_, rfl, rfl, .inr ⟨by decide, rfl, _, HM3.out.trans hx⟩⟩
  · rw [if_neg hno]
    have HM2 := Aside0.mk HM.out.drew
    have HR2 := Aside0.mk (show w.drew.heap[rb]? = some (.cells #[.pointer (some ⟨g, 0, none⟩)] 62 (0, 0)) from HR.out)
    have HMO2 := Aside0.mk (show w.drew.heap[mb]? = some (.cells #[.int .i64 most] 3 (0, 0)) from HMO.out)
    go_enter Try.func77, Try.ntmps77
    go_wp2_with fail
    refine start_ (n := 7) (S := fun w' => w'.cell? ⟨rb, 0, none⟩ = some (.pointer (some ⟨g, 0, none⟩)) ∧ w'.cell? ⟨mb, 0, none⟩ = some (.int .i64 most)) (ds := []) #[false, false, false, false, false, false, false] (by kernel_rfl) rfl rfl ⟨hr, hmo⟩ (fun hHeld => ?_)
    refine with_tabW r77_1_tab r77_1_bits (fun HT_ HW_ => ?_)
    generalize World.drew w = W2 at HM2 HR2 HMO2 hHeld ⊢
    refine take_ (i := 0) (N := some 3) (v := ?_) (a' := ?_) #[true, false, false, false, false, false, false] rfl rfl (take_ofW HT_.out HW_.out (by kernel_rfl)) (fun _ _ _ h => h) (Or.inl ⟨by rfl, ?_⟩) hHeld ?_ ?_
    rotate_left
    · rintro w' ⟨s0, s1⟩
      go_simp
      with_reducible rfl
    rotate_left
    · simp only [Act.put, List.setIfInBounds_toArray, List.set_cons_zero, List.set_cons_succ, i64_w, i32_w]
      rfl
    refine take_ (i := 1) (N := some 4) (v := ?_) (a' := ?_) #[true, true, false, false, false, false, false] rfl rfl (take_ofW HT_.out HW_.out (by kernel_rfl)) (fun _ _ _ h => h) (Or.inl ⟨by rfl, ?_⟩) hHeld ?_ ?_
    rotate_left
    · rintro w' ⟨s0, s1⟩
      go_simp
      with_reducible rfl
    rotate_left
    · simp only [Act.put, List.setIfInBounds_toArray, List.set_cons_zero, List.set_cons_succ, i64_w, i32_w]
      rfl
    refine take_ (i := 2) (N := some 5) (v := ?_) (a' := ?_) #[true, true, true, false, false, false, false] rfl rfl (take_ofW HT_.out HW_.out (by kernel_rfl)) (fun _ _ _ h => h) (Or.inl ⟨by rfl, ?_⟩) hHeld ?_ ?_
    rotate_left
    · rintro w' ⟨s0, s1⟩
      go_simp
      with_reducible rfl
    rotate_left
    · simp only [Act.put, List.setIfInBounds_toArray, List.set_cons_zero, List.set_cons_succ, i64_w, i32_w]
      rfl
    refine one_ (i := 3) (N := some 6) #[true, true, true, true, false, false, false] rfl rfl (one_of HT_.out (by kernel_rfl)) (by decide) (fun K hK => ?_)
    refine quits_ (by kernel_rfl) (fn := Try.f75) rfl rfl #[.pointer (some ⟨g, 0, none⟩), .int .i64 most] (by rfl) rfl (by (try simp only [List.map_toArray, List.map_cons, List.map_nil]); first | done | rfl) ?_
    refine (HC.out _ HM2.out).mono ?_
    rintro e w1 (⟨h, _⟩ | ⟨_, rfl, m, hx⟩)
    · exact absurd h hno
    exact ⟨_, rfl, rfl, .inr ⟨hno, rfl, _, HM2.out.trans hx⟩⟩

/-- What Text reads, at a place and with an error. -/
def textR (bs : List Int) (a : Nat) (most err : Int) : List Int × Nat × Int := if err ≠ 0 then ([], a, err) else txt bs a most
theorem txt_no (bs : List Int) (a : Nat) (most : Int) (h : (txt bs a most).2.2 ≠ 0) : (txt bs a most).1 = [] ∧ (txt bs a most).2.1 = a := by
  unfold txt at h ⊢
  split at h
  · rename_i h0
    split at h
    · exact absurd rfl h
    · rename_i h1
      rw [if_pos h0, if_neg h1]
      exact ⟨rfl, rfl⟩
  · rename_i h0
    rw [if_neg h0]
    exact ⟨rfl, rfl⟩
set_option maxHeartbeats 8000000 in
set_option maxRecDepth 100000 in
theorem text_ (g : Nat) (bs : List Int) (a : Nat) (most err : Int) (w0 w : World) (hI : Rd w0 w g bs a err) (hB : Below w0.heap.size w0 w) (hb : Bytes bs) (ha : a ≤ bs.length) (hm : 0 ≤ most ∧ most ≤ 9223372036854775807) :
    Calls Try.prog 41 #[.pointer (some ⟨g, 0, none⟩), .int .i64 most] w fun e w' => e = .returned (.string (strOfNums (textR bs a most err).1)) ∧ Moved w0 w w' g bs (textR bs a most err).2.1 (textR bs a most err).2.2 := by
  have hmf : ∀ (fn : Fn) (first cap : Array Value) (w : World), (Instr.makeFunc fn first cap).run Try.prog w = .ok (.func fn first cap) w := fun _ _ _ _ => rfl
  have hlt : g < w.heap.size := hI.lt
  have HM := Aside0.mk (((Moved.refl hI hB).alloc (.cells #[.pointer (some ⟨g, 0, none⟩)] 62)).alloc (.cells #[.int .i64 most] 3))
  have BB : Aside0 (((w.alloc (.cells #[.pointer (some ⟨g, 0, none⟩)] 62)).alloc (.cells #[.int .i64 most] 3)).heap[w.heap.size]? = some (.cells #[.pointer (some ⟨g, 0, none⟩)] 62 (0, 0))) := ⟨blk_alloc (blk_new _ _) _⟩
  have BM : Aside0 (((w.alloc (.cells #[.pointer (some ⟨g, 0, none⟩)] 62)).alloc (.cells #[.int .i64 most] 3)).heap[w.heap.size + 1]? = some (.cells #[.int .i64 most] 3 (0, 0))) := ⟨by have := blk_new (w.alloc (.cells #[.pointer (some ⟨g, 0, none⟩)] 62)) (.cells #[.int .i64 most] 3); simpa using this⟩
  have HX : Aside0 (Calls Try.prog 76 #[.pointer (some ⟨g, 0, none⟩), .func (.func 77) #[] #[.pointer (some ⟨w.heap.size, 0, none⟩), .pointer (some ⟨w.heap.size + 1, 0, none⟩)]] ((w.alloc (.cells #[.pointer (some ⟨g, 0, none⟩)] 62)).alloc (.cells #[.int .i64 most] 3))
      (fun e w' => e = .returned (.string (strOfNums (textR bs a most err).1)) ∧ Moved w0 ((w.alloc (.cells #[.pointer (some ⟨g, 0, none⟩)] 62)).alloc (.cells #[.int .i64 most] 3)) w' g bs (textR bs a most err).2.1 (textR bs a most err).2.2)) := ⟨by
    unfold textR
    by_cases he : err = 0
    · subst he
      rw [if_neg (by simp)]
      have hn := fun w1 (hm1 : Moved w0 ((w.alloc (.cells #[.pointer (some ⟨g, 0, none⟩)] 62)).alloc (.cells #[.int .i64 most] 3)) w1 g bs a 0) => texting g w.heap.size (w.heap.size + 1) bs a most w0 w1 hm1.rd hm1.below hb ha hm
        (Reader98.Moved.blk hm1 BB.out (by omega)) (Reader98.Moved.blk hm1 BM.out (by omega)) (by omega) (by omega)
      by_cases hno : (txt bs a most).2.2 = 0
      · rw [hno] at hn ⊢
        exact (Reader98.went g bs a (txt bs a most).2.1 w0 _ #[] #[.pointer (some ⟨w.heap.size, 0, none⟩), .pointer (some ⟨w.heap.size + 1, 0, none⟩)] (fun v _ => v = .string (strOfNums (txt bs a most).1)) HM.out.rd HM.out.below (fun w1 hm1 _ => (hn w1 hm1).mono (fun e w' h => by
          rcases h with ⟨_, h1, h2⟩ | ⟨h, _⟩
          · exact ⟨_, h1, h2, rfl⟩
          · exact absurd rfl h))).mono (fun e w' ⟨v, h1, h2, h3⟩ => ⟨by rw [h1, h3], h2⟩)
      · obtain ⟨z1, z2⟩ := txt_no bs a most hno
        rw [z1, z2]
        exact (Reader98.gave g bs a (txt bs a most).2.2 w0 _ #[] #[.pointer (some ⟨w.heap.size, 0, none⟩), .pointer (some ⟨w.heap.size + 1, 0, none⟩)] HM.out.rd HM.out.below (fun w1 hm1 => (hn w1 hm1).mono (fun e w' h => by
          rcases h with ⟨h, _⟩ | ⟨_, h1, h2⟩
          · exact absurd h hno
          · exact ⟨h1, h2⟩)))
    · rw [if_pos he]
      exact Reader98.spent g bs a err w0 _ _ HM.out.rd HM.out.below he⟩
  clear hI hB BB BM
  go_enter Try.func41, Try.ntmps41
  go_wp2_with (go_at_call 76; refine HX.out.mono ?_; rintro e w1 ⟨rfl, hm1⟩; have HM1 := Aside0.mk (HM.out.trans hm1); clear hm1)
  go_ret
  exact ⟨rfl, HM1.out⟩
end Go.Proofs.Ytcgajjaaiablkaa.RText
