/- The reference's one, Unquote and Words, walked. -/
import Derived.Test.YtcgajjaaiablkaaDeskPure
import Derived.Test.YtcgajjaaiablkaaDeskBuild
namespace Go.Proofs.Ytcgajjaaiablkaa.DeskRef
open Go.RowKit Go.Proofs.YtcgajjaaiablkaaW.PrintWords Go.Proofs.YtcgajjaaiablkaaW.PrintLast Go.Proofs.YtcgajjaaiablkaaW.PrintMore
open Go.Proofs.Ytcgajjaaiablkaa.PDeskWords Go.Proofs.Ytcgajjaaiablkaa.Desk
set_option linter.unusedVariables false
set_option linter.unusedSimpArgs false

theorem byte_at (s : ByteArray) (i : Nat) : ∀ h : i < s.size, ((s[i]'h).toNat : Int) = at_ s i := fun h => by simp [at_, bt, h]
def oneI (s : ByteArray) (i e : Nat) : Int × Int := match one s i e with | some p => (p.1, (p.2 : Int)) | none => (0, 0)
/-- What the reference's one leaves. -/
def Oned (w : World) (r : Int × Int) (e : Ending) (w' : World) : Prop := e = .returned (.tuple #[.int .u8 r.1, .int .i64 r.2]) ∧ Drawn0 w w'
theorem worth (c : Int) (h : 0 ≤ c ∧ c ≤ 255) (w : World) : Calls Try.prog 83 #[.int .u8 c] w fun e w' => e = .returned (.int .i64 (hexw c)) ∧ Drawn0 w w' := portageref11_worth.calls 2 c _ w (worth_f c h 0)

set_option maxHeartbeats 8000000 in
set_option maxRecDepth 100000 in
theorem ref_one (s : ByteArray) (i e : Nat) (w : World) (hi : i < e) (he : e ≤ s.size) (hs : s.size ≤ 1000000000000) :
    Calls Try.prog 51 #[.string s, .int .i64 i, .int .i64 e] w (Oned w (oneI s i e)) := by
  have r0 := at_range s i
  have r1 := at_range s (i + 1)
  have r2 := at_range s (i + 2)
  have r3 := at_range s (i + 3)
  have v2 := hexw_range (at_ s (i + 2))
  have v3 := hexw_range (at_ s (i + 3))
  have z0 := byte_at s i
  have z1 := byte_at s (i + 1)
  have z2 := byte_at s (i + 2)
  have z3 := byte_at s (i + 3)
  have W2 := Aside0.mk (fun w => worth (at_ s (i + 2)) r2 w)
  have W3 := Aside0.mk (fun w => worth (at_ s (i + 3)) r3 w)
  unfold oneI one
  generalize at_ s i = c0 at r0 z0 ⊢
  generalize at_ s (i + 1) = c1 at r1 z1 ⊢
  generalize at_ s (i + 2) = c2 at r2 z2 v2 W2 ⊢
  generalize at_ s (i + 3) = c3 at r3 z3 v3 W3 ⊢
  by_cases a0 : c0 = 34
  · rw [if_pos (.inl a0)]
    have b1 : (c0 == 34) = true := by simpa using a0
    go_enter Try.func51, Try.ntmps51
    go_wp2
    go_ret2
    exact ⟨rfl, Drawn0.refl _⟩
  have b1 : (c0 == 34) = false := by simpa using a0
  by_cases a1 : c0 = 10
  · rw [if_pos (.inr a1)]
    have b2 : (c0 == 10) = true := by simpa using a1
    go_enter Try.func51, Try.ntmps51
    go_wp2
    go_ret2
    exact ⟨rfl, Drawn0.refl _⟩
  have b2 : (c0 == 10) = false := by simpa using a1
  rw [if_neg (show ¬ (c0 = 34 ∨ c0 = 10) by omega)]
  by_cases a2 : c0 = 92
  rotate_left
  · rw [if_pos a2]
    have b3 : (c0 != 92) = true := by simpa using a2
    clear a0 a1 a2
    go_enter Try.func51, Try.ntmps51
    go_wp2
    go_ret2
    exact ⟨rfl, Drawn0.refl _⟩
  rw [if_neg (show ¬ c0 ≠ 92 by simpa using a2)]
  have b3 : (c0 != 92) = false := by simpa using a2
  clear a0 a1 a2
  by_cases a3 : e ≤ i + 1
  · rw [if_pos a3]
    have b4 : (e : Int) ≤ (i : Int) + 1 := by omega
    go_enter Try.func51, Try.ntmps51
    go_wp2
    go_ret2
    exact ⟨rfl, Drawn0.refl _⟩
  rw [if_neg a3]
  have b4 : ¬ (e : Int) ≤ (i : Int) + 1 := by omega
  by_cases a4 : c1 = 34
  · rw [if_pos (.inl a4)]
    have b5 : (c1 == 34) = true := by simpa using a4
    clear a4
    go_enter Try.func51, Try.ntmps51
    go_wp2
    go_ret2
    exact ⟨rfl, Drawn0.refl _⟩
  have b5 : (c1 == 34) = false := by simpa using a4
  by_cases a5 : c1 = 92
  · rw [if_pos (.inr a5)]
    have b6 : (c1 == 92) = true := by simpa using a5
    clear a5 a4
    go_enter Try.func51, Try.ntmps51
    go_wp2
    go_ret2
    exact ⟨rfl, Drawn0.refl _⟩
  have b6 : (c1 == 92) = false := by simpa using a5
  rw [if_neg (show ¬ (c1 = 34 ∨ c1 = 92) by omega)]
  clear a4 a5
  by_cases a6 : c1 = 110
  · rw [if_pos a6]
    have b7 : (c1 == 110) = true := by simpa using a6
    clear a6
    go_enter Try.func51, Try.ntmps51
    go_wp2
    go_ret2
    exact ⟨rfl, Drawn0.refl _⟩
  rw [if_neg a6]
  have b7 : (c1 == 110) = false := by simpa using a6
  clear a6
  by_cases a7 : c1 = 120
  rotate_left
  · rw [if_pos a7]
    have b8 : (c1 != 120) = true := by simpa using a7
    clear a7
    go_enter Try.func51, Try.ntmps51
    go_wp2
    go_ret2
    exact ⟨rfl, Drawn0.refl _⟩
  rw [if_neg (show ¬ c1 ≠ 120 by simpa using a7)]
  have b8 : (c1 != 120) = false := by simpa using a7
  clear a7
  by_cases a8 : e ≤ i + 3
  · rw [if_pos a8]
    have b9 : (e : Int) ≤ (i : Int) + 3 := by omega
    go_enter Try.func51, Try.ntmps51
    go_wp2
    go_ret2
    exact ⟨rfl, Drawn0.refl _⟩
  rw [if_neg a8]
  have b9 : ¬ (e : Int) ≤ (i : Int) + 3 := by omega
  obtain ⟨h2, hh2⟩ : ∃ x, x = hexw c2 := ⟨_, rfl⟩
  obtain ⟨h3, hh3⟩ : ∃ x, x = hexw c3 := ⟨_, rfl⟩
  rw [← hh2] at v2 W2 ⊢
  rw [← hh3] at v3 W3 ⊢
  clear hh2 hh3
  by_cases d2 : h2 > 15
  · rw [if_pos (.inl d2)]
    go_enter Try.func51, Try.ntmps51
    go_wp2_with (go_at_call 83; refine (W2.out _).mono ?_; rintro e w1 ⟨rfl, ⟨⟨m, rfl⟩⟩⟩)
    go_ret2
    exact ⟨rfl, by repeat (first | exact Drawn0.refl _ | apply Drawn0.step)⟩
  by_cases d3 : h3 > 15
  · rw [if_pos (.inr d3)]
    go_enter Try.func51, Try.ntmps51
    go_wp2_with (first | (go_at_call_of 83 (Value.int IntKind.u8 c2); refine (W2.out _).mono ?_; rintro e w1 ⟨rfl, ⟨⟨m, rfl⟩⟩⟩) | (go_at_call_of 83 (Value.int IntKind.u8 c3); refine (W3.out _).mono ?_; rintro e w1 ⟨rfl, ⟨⟨m2, rfl⟩⟩⟩))
    go_ret2
    exact ⟨rfl, by repeat (first | exact Drawn0.refl _ | apply Drawn0.step)⟩
  rw [if_neg (show ¬ (h2 > 15 ∨ h3 > 15) by omega)]
  go_enter Try.func51, Try.ntmps51
  go_upto_region 15 with (first | (go_at_call_of 83 (Value.int IntKind.u8 c2); refine (W2.out _).mono ?_; rintro e w1 ⟨rfl, ⟨⟨m, rfl⟩⟩⟩) | (go_at_call_of 83 (Value.int IntKind.u8 c3); refine (W3.out _).mono ?_; rintro e w1 ⟨rfl, ⟨⟨m2, rfl⟩⟩⟩))
  have Q2 := Aside0.mk (fun w : World => (W2.out w).mono (fun e w' h => show e = .returned (.int .i64 h2) ∧ ∃ n, w' = w.drewN n from ⟨h.1, h.2.out⟩))
  have Q3 := Aside0.mk (fun w : World => (W3.out w).mono (fun e w' h => show e = .returned (.int .i64 h3) ∧ ∃ n, w' = w.drewN n from ⟨h.1, h.2.out⟩))
  have g2 : (0 : Int) ≤ (i : Int) + 2 := by omega
  have g2' : (i : Int) + 2 < (s.size : Int) := by omega
  have g3 : (0 : Int) ≤ (i : Int) + 3 := by omega
  have g3' : (i : Int) + 3 < (s.size : Int) := by omega
  have z2i : ∀ h : (((i : Int) + 2).toNat) < s.size, ((s[((i : Int) + 2).toNat]'h).toNat : Int) = c2 := fun h => by
    have e : ((i : Int) + 2).toNat = i + 2 := by omega
    simp only [e]
    exact z2 (by omega)
  have z3i : ∀ h : (((i : Int) + 3).toNat) < s.size, ((s[((i : Int) + 3).toNat]'h).toNat : Int) = c3 := fun h => by
    have e : ((i : Int) + 3).toNat = i + 3 := by omega
    simp only [e]
    exact z3 (by omega)
  have xi2 : ∀ W : World, (Instr.index 9 (.string s) (.int .i64 ((i : Int) + 2))).run Try.prog W = .ok (.int .u8 c2) W := fun W => by
    rw [run_index_string (h := Try.underlying9), dif_pos ⟨g2, g2'⟩, z2i]
  have xi3 : ∀ W : World, (Instr.index 9 (.string s) (.int .i64 ((i : Int) + 3))).run Try.prog W = .ok (.int .u8 c3) W := fun W => by
    rw [run_index_string (h := Try.underlying9), dif_pos ⟨g3, g3'⟩, z3i]
  clear z2i z3i
  have y2 : IntKind.i64.wrap ((i : Int) + 2) = (i : Int) + 2 := by rw [IntKind.wrap_i64]; omega
  have y3 : IntKind.i64.wrap ((i : Int) + 3) = (i : Int) + 3 := by rw [IntKind.wrap_i64]; omega
  have y4 : IntKind.i64.wrap (16 * h2) = 16 * h2 := by rw [IntKind.wrap_i64]; omega
  have y5 : IntKind.i64.wrap (16 * h2 + h3) = 16 * h2 + h3 := by rw [IntKind.wrap_i64]; omega
  have y6 : IntKind.u8.wrap (16 * h2 + h3) = 16 * h2 + h3 := by rw [IntKind.wrap_u8]; omega
  go_region_held3 (fun _ => True) (first | trivial | go_keep) (first | (go_at_call_of 83 (Value.int IntKind.u8 c2); refine (W2.out _).mono ?_; rintro e w1 ⟨rfl, ⟨⟨m, rfl⟩⟩⟩) | (go_at_call_of 83 (Value.int IntKind.u8 c3); refine (W3.out _).mono ?_; rintro e w1 ⟨rfl, ⟨⟨m2, rfl⟩⟩⟩))
  all_goals go_wp2
  all_goals go_ret2
  all_goals exact ⟨rfl, by repeat (first | exact Drawn0.refl _ | apply Drawn0.step)⟩

theorem infoB : (Try.prog.info? 5).map (fun i => (i.zero, i.size, i.bytes)) = some (some (.int .u8 0), 1, 1) := by kernel_rfl
/-- What Unquote says: the text, and whether there is one. -/
def vOf (o : Option (List Int)) : Value := match o with | some l => .tuple #[.string (strOfNums l), .bool true] | none => .tuple #[.string ⟨#[]⟩, .bool false]
def unqV (s : ByteArray) : Value := vOf (unquote s)
theorem bytes_of (s : ByteArray) (e : Nat) : ∀ (f i : Nat) (l : List Int), unq s e f i = some l → (∀ c ∈ l, 0 ≤ c ∧ c ≤ 255) ∧ (i ≤ e → l.length ≤ e - i) := by
  intro f
  induction f with
  | zero => intro i l h; cases h
  | succ f ih =>
    intro i l h
    simp only [unq] at h
    by_cases hi : i < e
    · rw [if_pos hi] at h
      cases ho : one s i e with
      | none => rw [ho] at h; cases h
      | some p =>
        rw [ho, Option.bind_some] at h
        cases hu : unq s e f (i + p.2) with
        | none => rw [hu] at h; cases h
        | some m =>
          rw [hu, Option.map_some] at h
          injection h with h
          subst h
          have hr := one_range (c := p.1) (n := p.2) ho hi
          obtain ⟨h1, h2⟩ := ih _ _ hu
          refine ⟨fun c hc => ?_, fun _ => ?_⟩
          · rcases List.mem_cons.1 hc with rfl | hc
            · exact ⟨hr.1, hr.2.1⟩
            · exact h1 c hc
          · have := h2 (by omega)
            simp only [List.length_cons]
            omega
    · rw [if_neg hi] at h
      injection h with h
      subst h
      exact ⟨(fun c hc => (by cases hc)), (fun _ => (by simp))⟩

set_option maxHeartbeats 8000000 in
set_option maxRecDepth 100000 in
theorem ref_unquote (s : ByteArray) (w : World) (hs : s.size ≤ 1000000000000) :
    Calls Try.prog 24 #[.string s] w fun e w' => e = .returned (unqV s) ∧ Below w.heap.size w w' := by
  have z0 := byte_at s 0
  have z1 := byte_at s (s.size - 1)
  obtain ⟨V, hV⟩ : ∃ V, V = unqV s := ⟨_, rfl⟩
  rw [← hV]
  unfold unqV unquote at hV
  generalize hc0 : at_ s 0 = c0 at z0 hV
  generalize hc1 : at_ s (s.size - 1) = c1 at z1 hV
  clear hc0 hc1
  by_cases h2 : s.size < 2
  · rw [if_pos (.inl h2)] at hV
    subst hV
    have b1 : (s.size : Int) < 2 := by omega
    clear z0 z1
    go_enter Try.func24, Try.ntmps24
    go_wp2
    go_ret2
    exact ⟨rfl, Below.refl _ _⟩
  have b1 : ¬ (s.size : Int) < 2 := by omega
  by_cases a0 : c0 = 34
  rotate_left
  · rw [if_pos (.inr (.inl a0))] at hV
    subst hV
    have b2 : (c0 != 34) = true := by simpa using a0
    clear z1
    go_enter Try.func24, Try.ntmps24
    go_wp2
    go_ret2
    exact ⟨rfl, Below.refl _ _⟩
  have b2 : (c0 != 34) = false := by simpa using a0
  by_cases a1 : c1 = 34
  rotate_left
  · rw [if_pos (.inr (.inr a1))] at hV
    subst hV
    have b3 : (c1 != 34) = true := by simpa using a1
    go_enter Try.func24, Try.ntmps24
    go_wp2
    go_ret2
    exact ⟨rfl, Below.refl _ _⟩
  have b3 : (c1 != 34) = false := by simpa using a1
  rw [if_neg (by omega)] at hV
  clear a0 a1
  obtain ⟨e, he⟩ : ∃ e, e = s.size - 1 := ⟨_, rfl⟩
  rw [← he] at hV
  have hes : e < s.size := by omega
  have he1 : 1 ≤ e := by omega
  have HE := Aside0.mk he
  have HV : Aside0 (V = vOf ((unq s e (s.size + 1) 1).map (([] : List Int) ++ ·))) := ⟨by
    rw [hV]
    cases unq s e (s.size + 1) 1 <;> rfl⟩
  have hlast : wrap64 ((s.size : Int) - 1) = (e : Int) := by unfold wrap64; omega
  have hlast2 : (s.size : Int) - 1 = (e : Int) := by omega
  clear hV
  obtain ⟨i0, hi, hz0, hz1, hz2⟩ := info_parts infoB
  go_enter Try.func24, Try.ntmps24
  go_wp2_with fail
  have HO := Aside0.mk (Kd.R_nil (Kd.int .u8) 5 w w.heap.size (fun _ => True))
  have HB := Aside0.mk (Below.refl w.heap.size w)
  clear he z0 z1 hi hz0 hz1 hz2 hlast hlast2 b2 b3
  rw [← HE.out]
  go_loopw [5, 6] (fun q i wr => ∃ (k : Nat) (xs : List Int) (v : Value), v = q ∧ k ≤ e ∧ i = .int .i64 k ∧ xs.length ≤ k ∧ Aside0 (V = vOf ((unq s e (s.size + 1) k).map (xs ++ ·))) ∧ Aside0 (Kd.R (Kd.int .u8) 5 wr w.heap.size (fun _ => True) v xs) ∧ Aside0 (Below w.heap.size w wr)) (fun _ i _ => e - (intOf i).toNat)
  case atStart => exact ⟨1, [], _, rfl, he1, rfl, by simp, HV, HO, HB⟩
  case round =>
    clear HV HO HB
    obtain ⟨k, xs, v, rfl, hk, rfl, hxl, HV, HO, HB⟩ := hrel
    by_cases hlt : k < e
    · have HOne := Aside0.mk (ref_one s k e wr hlt (by omega) hs)
      have hv := HV.out
      simp only [unq] at hv
      rw [if_pos hlt] at hv
      unfold oneI at HOne
      cases ho : one s k e with
      | none =>
        rw [ho] at hv
        have HOne : Aside0 (Calls Try.prog 51 #[.string s, .int .i64 k, .int .i64 e] wr fun e w' => e = .returned (.tuple #[.int .u8 0, .int .i64 0]) ∧ ∃ m, w' = wr.drewN m) := ⟨HOne.out.mono (fun e w' h => ⟨by have h1 := h.1; rw [ho] at h1; exact h1, h.2.out⟩)⟩
        have HV2 := Aside0.mk hv
        clear hv ho HV
        go_wp2_with (go_at_call 51; refine HOne.out.mono ?_; rintro e w1 ⟨rfl, m, rfl⟩)
        go_ret2
        exact ⟨by rw [HV2.out]; rfl, pw_below_drewN HB.out _⟩
      | some p =>
        rw [ho, Option.bind_some] at hv
        obtain ⟨c, n⟩ := p
        have HOne : Aside0 (Calls Try.prog 51 #[.string s, .int .i64 k, .int .i64 e] wr fun e w' => e = .returned (.tuple #[.int .u8 c, .int .i64 n]) ∧ ∃ m, w' = wr.drewN m) := ⟨HOne.out.mono (fun e w' h => ⟨by have h1 := h.1; rw [ho] at h1; exact h1, h.2.out⟩)⟩
        have hr := one_range ho hlt
        simp only at hv
        rw [unq_fuel s e s.size (s.size + 1) (k + n) (by omega) (by omega)] at hv
        have HV2 : Aside0 (V = vOf ((unq s e (s.size + 1) (k + n)).map ((xs ++ [c]) ++ ·))) := ⟨by
          rw [hv]
          cases unq s e (s.size + 1) (k + n) <;> simp [vOf]⟩
        have hn0 : ((n : Int) == 0) = false := by
          rw [beq_eq_false_iff_ne]
          omega
        clear hv ho HV
        go_wp2_with (first | (go_at_call 51; refine HOne.out.mono ?_; rintro e w1 ⟨rfl, m, rfl⟩; have HO1 := Aside0.mk (Kd.R_drewN HO.out m); have HB1 := Aside0.mk (pw_below_drewN HB.out m)) | (at_builtin; refine Kd.R_append (Kd.int .u8) (w0 := w) w.heap.size rfl (.tmp 38) (.tmp 40) 33 5 (.int .u8 0) 1 rfl Try.underlying33 infoB rfl (by decide) (by omega) v xs c [.int .u8 c] (fun _ => True) (fun _ => False) rfl rfl rfl (fun _ hk => hk.elim) (fun _ _ => trivial) HO1.out HB1.out HB1.out.size (by omega) ?_; intro v1 w2 ho hb hg hat; have HO2 := Aside0.mk ho; have HB2 := Aside0.mk hb; clear ho hb hg hat))
        go_roundw
        case rel => exact ⟨k + n, xs ++ [c], v1, rfl, by omega, by first | rfl | (congr 1; push_cast; rfl) | go_num, by rw [List.length_append, List.length_singleton]; omega, HV2, HO2, HB2⟩
        case measure => simp [intOf]; omega
    · have hv := HV.out
      simp only [unq] at hv
      rw [if_neg hlt] at hv
      have HV2 : Aside0 (V = vOf (some xs)) := ⟨by rw [hv]; simp [vOf]⟩
      obtain ⟨A, c, rfl⟩ := Kd.R_slice HO.out
      have hstr := Kd.C_string (P := Try.prog) (src := 33) (dst := 9) (c := c) Try.underlying33 Try.underlying5 Try.underlying9 (Kd.R_reads' HO.out).2.2
      clear hv HV
      go_wp2
      go_ret2
      exact ⟨by rw [HV2.out]; rfl, HB.out⟩
end Go.Proofs.Ytcgajjaaiablkaa.DeskRef
