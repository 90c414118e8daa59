/- The program's Words, walked. -/
import Derived.Test.YtcgajjaaiablkaaDeskWalk
namespace Go.Proofs.Ytcgajjaaiablkaa.DeskWalk
open Go.RowKit Go.Proofs.YtcgajjaaiablkaaW.PrintWords Go.Proofs.YtcgajjaaiablkaaW.PrintLast Go.Proofs.YtcgajjaaiablkaaW.PrintMore
open Go.Proofs.Ytcgajjaaiablkaa.PDeskWords Go.Proofs.Ytcgajjaaiablkaa.Desk Go.Proofs.Ytcgajjaaiablkaa.DeskRef Go.Proofs.Ytcgajjaaiablkaa.DeskUnq
set_option linter.unusedVariables false
set_option linter.unusedSimpArgs false

theorem byte_sum (s : ByteArray) (k n : Nat) : ∀ h : (((k : Int) + (n : Int)).toNat) < s.size, ((s[((k : Int) + (n : Int)).toNat]'h).toNat : Int) = at_ s (k + n) := fun h => by
  have e : ((k : Int) + (n : Int)).toNat = k + n := by omega
  simp only [e]
  exact byte_at s (k + n) (by omega)
theorem str_slice (s : ByteArray) (k n : Nat) (h : k + n ≤ s.size) (W : World) :
    (Instr.slice 9 (.string s) (some (.int .i64 (k : Int))) (some (.int .i64 ((k : Int) + (n : Int)))) none).run Try.prog W = .ok (.string (s.extract k (k + n))) W := by
  have e1 : ((k : Int) + (n : Int)).toNat = k + n := by omega
  have b1 : (0 : Int) ≤ (k : Int) + (n : Int) := by omega
  have b2 : (k : Int) + (n : Int) ≤ (s.size : Int) := by omega
  have b3 : (k : Int) ≤ (k : Int) + (n : Int) := by omega
  have b4 : k ≤ k + n := by omega
  simp [Instr.slice, run_underlying Try.underlying9, Instr.sliceBounds, run_sliceBound, go_sem, e1, b1, b2, b3, b4, h]
set_option maxHeartbeats 8000000 in
set_option maxRecDepth 100000 in
theorem words_calls (s : ByteArray) (w : World) (rl : List ByteArray) (rn : Int) (hr : words s (s.size + 1) 0 [] = (rl, rn)) (hs : s.size ≤ 1000000000000) :
    Calls Try.prog 8 #[.string s] w fun e w' => ∃ v, e = .returned (.tuple #[v, .int .i64 rn]) ∧ Kd.R Kd.string 9 w' w.heap.size (fun _ => True) v rl ∧ Below w.heap.size w w' := by
  have HW := Aside0.mk hr
  clear hr
  have HO := Aside0.mk (Kd.R_nil Kd.string 9 w w.heap.size (fun _ => True))
  have HB := Aside0.mk (Below.refl w.heap.size w)
  go_enter Try.func8, Try.ntmps8
  go_wp2_with fail
  go_loopw [4, 5] (fun v i wr => ∃ (k : Nat) (acc : List ByteArray) (q : Value), q = v ∧ i = .int .i64 k ∧ k ≤ s.size ∧ acc.length ≤ k ∧ Aside0 (words s (s.size + 1) k acc = (rl, rn)) ∧ Aside0 (Kd.R Kd.string 9 wr w.heap.size (fun _ => True) q acc) ∧ Aside0 (Below w.heap.size w wr)) (fun _ i _ => s.size - (intOf i).toNat)
  case atStart => exact ⟨0, [], _, rfl, rfl, by omega, by simp, HW, HO, HB⟩
  case round =>
    clear HW HO HB
    obtain ⟨k, acc, q, rfl, rfl, hk, hal, HW, HO, HB⟩ := hrel
    by_cases hlt : k < s.size
    rotate_left
    · have hw := HW.out
      rw [words_end s k acc hlt] at hw
      injection hw with h1 h2
      subst h1 h2
      clear HW
      go_wp2
      go_ret2
      exact ⟨_, rfl, HO.out, HB.out⟩
    have hw := HW.out
    rw [words_at s k acc hlt] at hw
    clear HW
    have z := byte_at s k
    generalize hc : at_ s k = c at z hw
    have HC := Aside0.mk hc
    clear hc
    cases hb : Desk.blank c with
    | true =>
      rw [if_pos hb] at hw
      have HW := Aside0.mk hw
      have H25 : Aside0 (∀ w : World, Calls Try.prog 25 #[.int .u8 c] w fun e w' => e = .returned (.bool true) ∧ Drawn0 w w') := ⟨fun w => hb ▸ isBlank c w⟩
      clear hw hb
      go_wp2_with (go_at_call 25; refine (H25.out _).mono ?_; rintro e w1 ⟨rfl, ⟨⟨m, rfl⟩⟩⟩)
      go_roundw
      case rel => exact ⟨k + 1, acc, _, rfl, by first | rfl | (congr 1; push_cast; rfl) | go_num, by omega, by omega, HW, ⟨Kd.R_drewN HO.out m⟩, ⟨pw_below_drewN HB.out m⟩⟩
      case measure => simp [intOf]; omega
    | false =>
      rw [if_neg (by rw [hb]; simp)] at hw
      have H25 : Aside0 (∀ w : World, Calls Try.prog 25 #[.int .u8 c] w fun e w' => e = .returned (.bool false) ∧ Drawn0 w w') := ⟨fun w => hb ▸ isBlank c w⟩
      by_cases h35 : c = 35
      · rw [if_pos h35] at hw
        injection hw with h1 h2
        subst h1 h2
        have b35 : (c == 35) = true := by simpa using h35
        clear hb h35
        go_wp2_with (go_at_call 25; refine (H25.out _).mono ?_; rintro e w1 ⟨rfl, ⟨⟨m, rfl⟩⟩⟩)
        go_ret2
        exact ⟨_, rfl, Kd.R_drewN HO.out m, pw_below_drewN HB.out m⟩
      rw [if_neg h35] at hw
      have b35 : (c == 35) = false := by simpa using h35
      by_cases h34 : c = 34
      · rw [if_pos h34] at hw
        have b34 : (c == 34) = true := by simpa using h34
        have hcx := clo_extract s k hk _ 1 rfl
        have hsz : (s.extract k s.size).size ≤ 9223372036854775000 := by rw [size_extract s k s.size (Nat.le_refl _)]; omega
        obtain ⟨f, hf⟩ := quoted_f (s.extract k s.size) hsz
        have H26 := Aside0.mk (fun w : World => desk_quoted.calls f (s.extract k s.size) _ w hf)
        clear hf h34 h35 hsz
        cases he : clo (s.extract k s.size) 1 with
        | none =>
          rw [he, Option.map_none] at hcx
          rw [← hcx] at hw
          simp only at hw
          injection hw with h1 h2
          subst h1 h2
          have H26b : Aside0 (∀ w : World, Calls Try.prog 26 #[.string (s.extract k s.size)] w fun e w' => e = .returned (.int .i64 (-1)) ∧ Drawn0 w w') := ⟨fun w => by have h := H26.out w; unfold cloI at h; rw [he] at h; exact h⟩
          clear H26 he hb HC hcx
          go_wp2_with (first | (go_at_call 25; refine (H25.out _).mono ?_; rintro e w1 ⟨rfl, ⟨⟨m, rfl⟩⟩⟩) | (go_at_call 26; refine (H26b.out _).mono ?_; rintro e w1 ⟨rfl, ⟨⟨m2, rfl⟩⟩⟩))
          go_ret2
          exact ⟨_, rfl, Kd.R_nil Kd.string 9 _ w.heap.size (fun _ => True), pw_below_drewN HB.out (m + m2)⟩
        | some n =>
          rw [he, Option.map_some] at hcx
          obtain ⟨her1, hes2⟩ := clo_range s _ (k + 1) (k + n) rfl hcx.symm
          rw [← hcx] at hw
          simp only at hw
          have H26b : Aside0 (∀ w : World, Calls Try.prog 26 #[.string (s.extract k s.size)] w fun e1 w' => e1 = .returned (.int .i64 n) ∧ Drawn0 w w') := ⟨fun w => by have h := H26.out w; unfold cloI at h; rw [he] at h; exact h⟩
          have huz : (s.extract k (k + n)).size ≤ 1000000000000 := by rw [size_extract s k (k + n) hes2]; omega
          have H27 := Aside0.mk (fun w : World => unquote_calls (s.extract k (k + n)) w huz)
          have hen : ¬ (n : Int) < 0 := by omega
          have hke : k ≤ k + n := by omega
          have xs := str_slice s k n hes2
          clear H26 he hb HC hcx huz
          by_cases hbad : k + n < s.size ∧ Desk.blank (at_ s (k + n)) = false
          · rw [if_pos hbad] at hw
            injection hw with h1 h2
            subst h1 h2
            obtain ⟨hes, hbd⟩ := hbad
            have ze := byte_at s (k + n)
            have ze2 := byte_sum s k n
            generalize hd : at_ s (k + n) = d at ze ze2 hbd
            have H25d : Aside0 (∀ w : World, Calls Try.prog 25 #[.int .u8 d] w fun e w' => e = .returned (.bool false) ∧ Drawn0 w w') := ⟨fun w => hbd ▸ isBlank d w⟩
            have hes3 : (k : Int) + (n : Int) < (s.size : Int) := by omega
            clear hbd hd H27
            go_wp2_with (first | (go_at_call_of 25 (Value.int IntKind.u8 d); refine (H25d.out _).mono ?_; rintro e w3 ⟨rfl, ⟨⟨m3, rfl⟩⟩⟩) | (go_at_call_of 25 (Value.int IntKind.u8 c); refine (H25.out _).mono ?_; rintro e w1 ⟨rfl, ⟨⟨m, rfl⟩⟩⟩) | (go_at_call 26; refine (H26b.out _).mono ?_; rintro e w1 ⟨rfl, ⟨⟨m2, rfl⟩⟩⟩))
            go_ret2
            exact ⟨_, rfl, Kd.R_nil Kd.string 9 _ w.heap.size (fun _ => True), pw_below_drewN HB.out (m + m2 + m3)⟩
          · rw [if_neg hbad] at hw
            by_cases hes : k + n < s.size
            · have hbd : Desk.blank (at_ s (k + n)) = true := by
                cases h : Desk.blank (at_ s (k + n)) with
                | true => rfl
                | false => exact absurd ⟨hes, h⟩ hbad
              have ze := byte_at s (k + n)
              have ze2 := byte_sum s k n
              generalize hd : at_ s (k + n) = d at ze ze2 hbd
              have H25d : Aside0 (∀ w : World, Calls Try.prog 25 #[.int .u8 d] w fun e w' => e = .returned (.bool true) ∧ Drawn0 w w') := ⟨fun w => hbd ▸ isBlank d w⟩
              have hes3 : (k : Int) + (n : Int) < (s.size : Int) := by omega
              clear hbd hd hbad
              cases hu : unquote (s.extract k (k + n)) with
              | none =>
                rw [hu] at hw
                simp only at hw
                injection hw with h1 h2
                subst h1 h2
                have H27b : Aside0 (∀ w : World, Calls Try.prog 27 #[.string (s.extract k (k + n))] w fun e w' => e = .returned (.tuple #[.string ⟨#[]⟩, .bool false]) ∧ Below w.heap.size w w') := ⟨fun w => by have h := H27.out w; unfold unqV at h; rw [hu] at h; exact h⟩
                clear H27 hu
                go_wp2_with (first | (go_at_call_of 25 (Value.int IntKind.u8 d); refine (H25d.out _).mono ?_; rintro e w3 ⟨rfl, ⟨⟨m3, rfl⟩⟩⟩) | (go_at_call_of 25 (Value.int IntKind.u8 c); refine (H25.out _).mono ?_; rintro e w1 ⟨rfl, ⟨⟨m, rfl⟩⟩⟩) | (go_at_call 26; refine (H26b.out _).mono ?_; rintro e w1 ⟨rfl, ⟨⟨m2, rfl⟩⟩⟩) | (go_at_call 27; refine (H27b.out _).mono ?_; rintro e w2 ⟨rfl, hb2⟩; have HO2 := Aside0.mk (Kd.R_below (Kd.R_drewN HO.out (m + m2 + m3)) hb2); have HB2 := Aside0.mk ((pw_below_drewN HB.out (m + m2 + m3)).trans (hb2.mono (pw_below_drewN HB.out (m + m2 + m3)).size)); clear hb2))
                go_ret2
                exact ⟨_, rfl, Kd.R_nil Kd.string 9 _ w.heap.size (fun _ => True), HB2.out⟩
              | some l =>
                rw [hu] at hw
                simp only at hw
                have HW := Aside0.mk hw
                have H27b : Aside0 (∀ w : World, Calls Try.prog 27 #[.string (s.extract k (k + n))] w fun e w' => e = .returned (.tuple #[.string (strOfNums l), .bool true]) ∧ Below w.heap.size w w') := ⟨fun w => by have h := H27.out w; unfold unqV at h; rw [hu] at h; exact h⟩
                clear H27 hu hw
                go_wp2_with (first | (go_at_call_of 25 (Value.int IntKind.u8 d); refine (H25d.out _).mono ?_; rintro e w3 ⟨rfl, ⟨⟨m3, rfl⟩⟩⟩) | (go_at_call_of 25 (Value.int IntKind.u8 c); refine (H25.out _).mono ?_; rintro e w1 ⟨rfl, ⟨⟨m, rfl⟩⟩⟩) | (go_at_call 26; refine (H26b.out _).mono ?_; rintro e w1 ⟨rfl, ⟨⟨m2, rfl⟩⟩⟩) | (go_at_call 27; refine (H27b.out _).mono ?_; rintro e w2 ⟨rfl, hb2⟩; have HO2 := Aside0.mk (Kd.R_below (Kd.R_drewN HO.out (m + m2 + m3)) hb2); have HB2 := Aside0.mk ((pw_below_drewN HB.out (m + m2 + m3)).trans (hb2.mono (pw_below_drewN HB.out (m + m2 + m3)).size)); clear hb2) | (at_builtin; refine Kd.R_append Kd.string (w0 := w) w.heap.size rfl (.tmp 96) (.tmp 98) 22 9 (.string ⟨#[]⟩) 16 rfl Try.underlying22 infoS rfl (by decide) (by omega) q acc (strOfNums l) [.string (strOfNums l)] (fun _ => True) (fun _ => False) rfl rfl rfl (fun _ hk => hk.elim) (fun _ _ => trivial) HO2.out HB2.out HB2.out.size (by omega) ?_; intro v1 w4 ho hb hg hat; have HO4 := Aside0.mk ho; have HB4 := Aside0.mk hb; clear ho hb hg hat))
                go_roundw
                case rel => exact ⟨k + n, acc ++ [strOfNums l], v1, rfl, by first | rfl | (congr 1; push_cast; rfl) | go_num, hes2, by rw [List.length_append, List.length_singleton]; omega, HW, HO4, HB4⟩
                case measure => simp [intOf]; omega
            · have hes3 : ¬ (k : Int) + (n : Int) < (s.size : Int) := by omega
              clear hbad
              cases hu : unquote (s.extract k (k + n)) with
              | none =>
                rw [hu] at hw
                simp only at hw
                injection hw with h1 h2
                subst h1 h2
                have H27b : Aside0 (∀ w : World, Calls Try.prog 27 #[.string (s.extract k (k + n))] w fun e w' => e = .returned (.tuple #[.string ⟨#[]⟩, .bool false]) ∧ Below w.heap.size w w') := ⟨fun w => by have h := H27.out w; unfold unqV at h; rw [hu] at h; exact h⟩
                clear H27 hu
                go_wp2_with (first | (go_at_call 25; refine (H25.out _).mono ?_; rintro e w1 ⟨rfl, ⟨⟨m, rfl⟩⟩⟩) | (go_at_call 26; refine (H26b.out _).mono ?_; rintro e w1 ⟨rfl, ⟨⟨m2, rfl⟩⟩⟩) | (go_at_call 27; refine (H27b.out _).mono ?_; rintro e w2 ⟨rfl, hb2⟩; have HO2 := Aside0.mk (Kd.R_below (Kd.R_drewN HO.out (m + m2)) hb2); have HB2 := Aside0.mk ((pw_below_drewN HB.out (m + m2)).trans (hb2.mono (pw_below_drewN HB.out (m + m2)).size)); clear hb2))
                go_ret2
                exact ⟨_, rfl, Kd.R_nil Kd.string 9 _ w.heap.size (fun _ => True), HB2.out⟩
              | some l =>
                rw [hu] at hw
                simp only at hw
                have HW := Aside0.mk hw
                have H27b : Aside0 (∀ w : World, Calls Try.prog 27 #[.string (s.extract k (k + n))] w fun e w' => e = .returned (.tuple #[.string (strOfNums l), .bool true]) ∧ Below w.heap.size w w') := ⟨fun w => by have h := H27.out w; unfold unqV at h; rw [hu] at h; exact h⟩
                clear H27 hu hw
                go_wp2_with (first | (go_at_call 25; refine (H25.out _).mono ?_; rintro e w1 ⟨rfl, ⟨⟨m, rfl⟩⟩⟩) | (go_at_call 26; refine (H26b.out _).mono ?_; rintro e w1 ⟨rfl, ⟨⟨m2, rfl⟩⟩⟩) | (go_at_call 27; refine (H27b.out _).mono ?_; rintro e w2 ⟨rfl, hb2⟩; have HO2 := Aside0.mk (Kd.R_below (Kd.R_drewN HO.out (m + m2)) hb2); have HB2 := Aside0.mk ((pw_below_drewN HB.out (m + m2)).trans (hb2.mono (pw_below_drewN HB.out (m + m2)).size)); clear hb2) | (at_builtin; refine Kd.R_append Kd.string (w0 := w) w.heap.size rfl (.tmp 96) (.tmp 98) 22 9 (.string ⟨#[]⟩) 16 rfl Try.underlying22 infoS rfl (by decide) (by omega) q acc (strOfNums l) [.string (strOfNums l)] (fun _ => True) (fun _ => False) rfl rfl rfl (fun _ hk => hk.elim) (fun _ _ => trivial) HO2.out HB2.out HB2.out.size (by omega) ?_; intro v1 w4 ho hb hg hat; have HO4 := Aside0.mk ho; have HB4 := Aside0.mk hb; clear ho hb hg hat))
                go_roundw
                case rel => exact ⟨k + n, acc ++ [strOfNums l], v1, rfl, by first | rfl | (congr 1; push_cast; rfl) | go_num, hes2, by rw [List.length_append, List.length_singleton]; omega, HW, HO4, HB4⟩
                case measure => simp [intOf]; omega
      · rw [if_neg h34] at hw
        have b34 : (c == 34) = false := by simpa using h34
        clear h34 h35
        have hkw : wend s (k + 1) = wend s k := by
          rw [wend_at s k, if_pos hlt, HC.out, if_neg (by rw [hb]; simp)]
        have HW := Aside0.mk hw
        have HK := Aside0.mk hkw
        clear hw hb hkw
        go_wp2_with (go_at_call 25; refine (H25.out _).mono ?_; rintro e w1 ⟨rfl, ⟨⟨m, rfl⟩⟩⟩)
        have HO1 := Aside0.mk (Kd.R_drewN HO.out m)
        have HB1 := Aside0.mk (pw_below_drewN HB.out m)
        clear HC z HO HB H25
        go_loopw [9] (fun i wr2 => ∃ n : Nat, i = .int .i64 n ∧ 1 ≤ n ∧ k + n ≤ s.size ∧ Aside0 (wend s (k + n) = wend s k) ∧ Aside0 (Kd.R Kd.string 9 wr2 w.heap.size (fun _ => True) q acc) ∧ Aside0 (Below w.heap.size w wr2)) (fun i _ => s.size - (intOf i).toNat)
        case atStart => exact ⟨1, rfl, Nat.le_refl _, hlt, HK, HO1, HB1⟩
        case round =>
          clear HO1 HB1 HK
          obtain ⟨n, rfl, hkj, hjs, HJ, HO, HB⟩ := hrel
          have hke : k ≤ k + n := by omega
          have xs := str_slice s k n hjs
          by_cases hjl : k + n < s.size
          rotate_left
          · have hjw : Aside0 (k + n = wend s k) := ⟨by rw [← HJ.out, wend_at, if_neg hjl]⟩
            have hes3 : ¬ (k : Int) + (n : Int) < (s.size : Int) := by omega
            clear HJ
            go_wp2_with (at_builtin; refine Kd.R_append Kd.string (w0 := w) w.heap.size rfl (.tmp 31) (.tmp 38) 22 9 (.string ⟨#[]⟩) 16 rfl Try.underlying22 infoS rfl (by decide) (by omega) q acc (s.extract k (k + n)) [.string (s.extract k (k + n))] (fun _ => True) (fun _ => False) rfl rfl rfl (fun _ hk => hk.elim) (fun _ _ => trivial) HO.out HB.out HB.out.size (by omega) ?_; intro v1 w4 ho hb hg hat; have HO4 := Aside0.mk ho; have HB4 := Aside0.mk hb; clear ho hb hg hat)
            go_roundw
            case rel => exact ⟨k + n, acc ++ [s.extract k (k + n)], v1, rfl, by first | rfl | (congr 1; push_cast; rfl) | go_num, hjs, by rw [List.length_append, List.length_singleton]; omega, ⟨by rw [hjw.out]; exact HW.out⟩, HO4, HB4⟩
            case measure => simp [intOf]; omega
          · have ze := byte_at s (k + n)
            have ze2 := byte_sum s k n
            have hes3 : (k : Int) + (n : Int) < (s.size : Int) := by omega
            generalize hd : at_ s (k + n) = d at ze ze2
            cases hbd : Desk.blank d with
            | true =>
              have hjw : Aside0 (k + n = wend s k) := ⟨by rw [← HJ.out, wend_at, if_pos hjl, hd, if_pos hbd]⟩
              have H25 : Aside0 (∀ w : World, Calls Try.prog 25 #[.int .u8 d] w fun e w' => e = .returned (.bool true) ∧ Drawn0 w w') := ⟨fun w => hbd ▸ isBlank d w⟩
              clear HJ hd hbd
              go_wp2_with (first | (go_at_call 25; refine (H25.out _).mono ?_; rintro e w1 ⟨rfl, ⟨⟨m, rfl⟩⟩⟩) | (at_builtin; refine Kd.R_append Kd.string (w0 := w) w.heap.size rfl (.tmp 31) (.tmp 38) 22 9 (.string ⟨#[]⟩) 16 rfl Try.underlying22 infoS rfl (by decide) (by omega) q acc (s.extract k (k + n)) [.string (s.extract k (k + n))] (fun _ => True) (fun _ => False) rfl rfl rfl (fun _ hk => hk.elim) (fun _ _ => trivial) (Kd.R_drewN HO.out m) (pw_below_drewN HB.out m) (pw_below_drewN HB.out m).size (by omega) ?_; intro v1 w4 ho hb hg hat; have HO4 := Aside0.mk ho; have HB4 := Aside0.mk hb; clear ho hb hg hat))
              go_roundw
              case rel => exact ⟨k + n, acc ++ [s.extract k (k + n)], v1, rfl, by first | rfl | (congr 1; push_cast; rfl) | go_num, hjs, by rw [List.length_append, List.length_singleton]; omega, ⟨by rw [hjw.out]; exact HW.out⟩, HO4, HB4⟩
              case measure => simp [intOf]; omega
            | false =>
              have HJ2 : Aside0 (wend s (k + (n + 1)) = wend s k) := ⟨by rw [← HJ.out, wend_at s (k + n), if_pos hjl, hd, if_neg (by rw [hbd]; simp)]; rfl⟩
              have H25 : Aside0 (∀ w : World, Calls Try.prog 25 #[.int .u8 d] w fun e w' => e = .returned (.bool false) ∧ Drawn0 w w') := ⟨fun w => hbd ▸ isBlank d w⟩
              clear HJ hd hbd
              go_wp2_with (go_at_call 25; refine (H25.out _).mono ?_; rintro e w1 ⟨rfl, ⟨⟨m, rfl⟩⟩⟩)
              go_roundw
              case rel => exact ⟨n + 1, by first | rfl | (congr 1; push_cast; rfl) | go_num, by omega, by omega, HJ2, ⟨Kd.R_drewN HO.out m⟩, ⟨pw_below_drewN HB.out m⟩⟩
              case measure => simp [intOf]; omega
end Go.Proofs.Ytcgajjaaiablkaa.DeskWalk
