/- The reference's Words, walked. -/
import Derived.Test.YtcgajjaaiablkaaDeskUnq
namespace Go.Proofs.Ytcgajjaaiablkaa.DeskWalk
open Go.RowKit Go.Proofs.YtcgajjaaiablkaaW.PrintWords Go.Proofs.YtcgajjaaiablkaaW.PrintLast Go.Proofs.YtcgajjaaiablkaaW.PrintMore
open Go.Proofs.Ytcgajjaaiablkaa.PDeskWords Go.Proofs.Ytcgajjaaiablkaa.Desk Go.Proofs.Ytcgajjaaiablkaa.DeskRef Go.Proofs.Ytcgajjaaiablkaa.DeskUnq
set_option linter.unusedVariables false
set_option linter.unusedSimpArgs false

theorem words_fuel (s : ByteArray) : ∀ (f g i : Nat) (acc : List ByteArray), s.size - i < f → s.size - i < g → words s f i acc = words s g i acc := by
  intro f
  induction f with
  | zero => intro g i acc h; omega
  | succ f ih =>
    intro g i acc h hg
    obtain ⟨g, rfl⟩ : ∃ m, g = m + 1 := ⟨g - 1, by omega⟩
    simp only [words]
    by_cases hi : i < s.size
    · rw [if_pos hi, if_pos hi]
      by_cases h1 : Desk.blank (at_ s i) = true
      · rw [if_pos h1, if_pos h1]
        exact ih g (i + 1) acc (by omega) (by omega)
      rw [if_neg h1, if_neg h1]
      by_cases h2 : at_ s i = 35
      · rw [if_pos h2, if_pos h2]
      rw [if_neg h2, if_neg h2]
      by_cases h3 : at_ s i = 34
      · rw [if_pos h3, if_pos h3]
        cases hc : clo s (i + 1) with
        | none => rfl
        | some e =>
          have hr := clo_range s _ (i + 1) e rfl hc
          simp only
          by_cases h4 : e < s.size ∧ Desk.blank (at_ s e) = false
          · rw [if_pos h4, if_pos h4]
          rw [if_neg h4, if_neg h4]
          cases unquote (s.extract i e) with
          | none => rfl
          | some l => exact ih g e _ (by omega) (by omega)
      rw [if_neg h3, if_neg h3]
      have hr : i < wend s i := by
        rw [wend_at, if_pos hi, if_neg h1]
        have := (wend_range s _ (i + 1) rfl (by omega)).1
        omega
      exact ih g _ _ (by omega) (by omega)
    · rw [if_neg hi, if_neg hi]
/-- One word more: how the words go on from a place within the line. -/
theorem words_at (s : ByteArray) (i : Nat) (acc : List ByteArray) (hi : i < s.size) : words s (s.size + 1) i acc =
    if Desk.blank (at_ s i) = true then words s (s.size + 1) (i + 1) acc
    else if at_ s i = 35 then (acc, 0)
    else if at_ s i = 34 then
      match clo s (i + 1) with
      | none => ([], 6)
      | some e =>
        if e < s.size ∧ Desk.blank (at_ s e) = false then ([], 6)
        else match unquote (s.extract i e) with
          | none => ([], 6)
          | some l => words s (s.size + 1) e (acc ++ [strOfNums l])
    else words s (s.size + 1) (wend s i) (acc ++ [s.extract i (wend s i)]) := by
  rw [show words s (s.size + 1) i acc = words s (s.size + 2) i acc from words_fuel s _ _ i acc (by omega) (by omega)]
  rw [words, if_pos hi]
  rfl
theorem words_end (s : ByteArray) (i : Nat) (acc : List ByteArray) (hi : ¬ i < s.size) : words s (s.size + 1) i acc = (acc, 0) := by
  rw [words, if_neg hi]
theorem blank22 (c : Int) (w : World) : Calls Try.prog 22 #[.int .u8 c] w fun e w' => e = .returned (.bool (Desk.blank c)) ∧ Drawn0 w w' := portageref32_blank.calls c (Desk.blank c) w (blank_ref c)
theorem infoS : (Try.prog.info? 9).map (fun i => (i.zero, i.size, i.bytes)) = some (some (.string ⟨#[]⟩), 1, 16) := by kernel_rfl

set_option maxHeartbeats 8000000 in
set_option maxRecDepth 100000 in
theorem ref_words (s : ByteArray) (w : World) (rl : List ByteArray) (rn : Int) (hr : words s (s.size + 1) 0 [] = (rl, rn)) (hs : s.size ≤ 1000000000000) :
    Calls Try.prog 7 #[.string s] w fun e w' => ∃ v, e = .returned (.tuple #[v, .int .i64 rn]) ∧ Kd.R Kd.string 9 w' w.heap.size (fun _ => True) v rl ∧ Below w.heap.size w w' := by
  have HW := Aside0.mk hr
  clear hr
  have HO := Aside0.mk (Kd.R_nil Kd.string 9 w w.heap.size (fun _ => True))
  have HB := Aside0.mk (Below.refl w.heap.size w)
  go_enter Try.func7, Try.ntmps7
  go_wp2_with fail
  go_loopw [4, 5] (fun v i wr => ∃ (k : Nat) (acc : List ByteArray) (q : Value), q = v ∧ i = .int .i64 k ∧ k ≤ s.size ∧ acc.length ≤ k ∧ Aside0 (words s (s.size + 1) k acc = (rl, rn)) ∧ Aside0 (Kd.R Kd.string 9 wr w.heap.size (fun _ => True) q acc) ∧ Aside0 (Below w.heap.size w wr)) (fun _ i _ => s.size - (intOf i).toNat)
  case atStart => exact ⟨0, [], _, rfl, rfl, by omega, by simp, HW, HO, HB⟩
  case round =>
    clear HW HO HB
    obtain ⟨k, acc, q, rfl, rfl, hk, hal, HW, HO, HB⟩ := hrel
    by_cases hlt : k < s.size
    rotate_left
    · have hw := HW.out
      rw [words_end s k acc hlt] at hw
      injection hw with h1 h2
      subst h1 h2
      clear HW
      go_wp2
      go_ret2
      exact ⟨_, rfl, HO.out, HB.out⟩
    have hw := HW.out
    rw [words_at s k acc hlt] at hw
    clear HW
    have z := byte_at s k
    generalize hc : at_ s k = c at z hw
    have HC := Aside0.mk hc
    clear hc
    cases hb : Desk.blank c with
    | true =>
      rw [if_pos hb] at hw
      have HW := Aside0.mk hw
      have H22 : Aside0 (∀ w : World, Calls Try.prog 22 #[.int .u8 c] w fun e w' => e = .returned (.bool true) ∧ Drawn0 w w') := ⟨fun w => hb ▸ blank22 c w⟩
      clear hw hb
      go_wp2_with (go_at_call 22; refine (H22.out _).mono ?_; rintro e w1 ⟨rfl, ⟨⟨m, rfl⟩⟩⟩)
      go_roundw
      case rel => exact ⟨k + 1, acc, _, rfl, by first | rfl | (congr 1; push_cast; rfl) | go_num, by omega, by omega, HW, ⟨Kd.R_drewN HO.out m⟩, ⟨pw_below_drewN HB.out m⟩⟩
      case measure => simp [intOf]; omega
    | false =>
      rw [if_neg (by rw [hb]; simp)] at hw
      have H22 : Aside0 (∀ w : World, Calls Try.prog 22 #[.int .u8 c] w fun e w' => e = .returned (.bool false) ∧ Drawn0 w w') := ⟨fun w => hb ▸ blank22 c w⟩
      by_cases h35 : c = 35
      · rw [if_pos h35] at hw
        injection hw with h1 h2
        subst h1 h2
        have b35 : (c == 35) = true := by simpa using h35
        clear hb h35
        go_wp2_with (go_at_call 22; refine (H22.out _).mono ?_; rintro e w1 ⟨rfl, ⟨⟨m, rfl⟩⟩⟩)
        go_ret2
        exact ⟨_, rfl, Kd.R_drewN HO.out m, pw_below_drewN HB.out m⟩
      rw [if_neg h35] at hw
      have b35 : (c == 35) = false := by simpa using h35
      by_cases h34 : c = 34
      · rw [if_pos h34] at hw
        have b34 : (c == 34) = true := by simpa using h34
        obtain ⟨f, hf⟩ := closes_f s k hlt (by omega)
        have H23 := Aside0.mk (fun w : World => portageref32_closes.calls f s k _ w hf)
        clear hf h34 h35
        have HC22 := H22
        cases he : clo s (k + 1) with
        | none =>
          rw [he] at hw
          simp only at hw
          injection hw with h1 h2
          subst h1 h2
          have H23b : Aside0 (∀ w : World, Calls Try.prog 23 #[.string s, .int .i64 k] w fun e w' => e = .returned (.int .i64 (-1)) ∧ Drawn0 w w') := ⟨fun w => by have h := H23.out w; unfold cloI at h; rw [he] at h; exact h⟩
          clear H23 he hb HC HC22
          go_wp2_with (first | (go_at_call 22; refine (H22.out _).mono ?_; rintro e w1 ⟨rfl, ⟨⟨m, rfl⟩⟩⟩) | (go_at_call 23; refine (H23b.out _).mono ?_; rintro e w1 ⟨rfl, ⟨⟨m2, rfl⟩⟩⟩))
          go_ret2
          exact ⟨_, rfl, Kd.R_nil Kd.string 9 _ w.heap.size (fun _ => True), pw_below_drewN HB.out (m + m2)⟩
        | some e =>
          have her := clo_range s _ (k + 1) e rfl he
          rw [he] at hw
          simp only at hw
          have H23b : Aside0 (∀ w : World, Calls Try.prog 23 #[.string s, .int .i64 k] w fun e1 w' => e1 = .returned (.int .i64 e) ∧ Drawn0 w w') := ⟨fun w => by have h := H23.out w; unfold cloI at h; rw [he] at h; exact h⟩
          have huz : (s.extract k e).size ≤ 1000000000000 := by rw [size_extract s k e her.2]; omega
          have H24 := Aside0.mk (fun w : World => ref_unquote (s.extract k e) w huz)
          obtain ⟨her1, her2⟩ := her
          have hke : k ≤ e := by omega
          have hen : ¬ (e : Int) < 0 := by omega
          clear H23 he hb HC HC22 huz
          cases hu : unquote (s.extract k e) with
          | none =>
            have hn : rl = [] ∧ rn = 6 := by
              rw [hu] at hw
              simp only at hw
              split at hw <;> (injection hw with h1 h2; exact ⟨h1.symm, h2.symm⟩)
            obtain ⟨rfl, rfl⟩ := hn
            have H24b : Aside0 (∀ w : World, Calls Try.prog 24 #[.string (s.extract k e)] w fun e w' => e = .returned (.tuple #[.string ⟨#[]⟩, .bool false]) ∧ Below w.heap.size w w') := ⟨fun w => by have h := H24.out w; unfold unqV at h; rw [hu] at h; exact h⟩
            clear H24 hu hw
            go_wp2_with (first | (go_at_call 22; refine (H22.out _).mono ?_; rintro e w1 ⟨rfl, ⟨⟨m, rfl⟩⟩⟩) | (go_at_call 23; refine (H23b.out _).mono ?_; rintro e w1 ⟨rfl, ⟨⟨m2, rfl⟩⟩⟩) | (go_at_call 24; refine (H24b.out _).mono ?_; rintro e w2 ⟨rfl, hb2⟩; have HO2 := Aside0.mk (Kd.R_below (Kd.R_drewN HO.out (m + m2)) hb2); have HB2 := Aside0.mk ((pw_below_drewN HB.out (m + m2)).trans (hb2.mono (pw_below_drewN HB.out (m + m2)).size)); clear hb2))
            go_ret2
            exact ⟨_, rfl, Kd.R_nil Kd.string 9 _ w.heap.size (fun _ => True), HB2.out⟩
          | some l =>
            rw [hu] at hw
            simp only at hw
            have H24b : Aside0 (∀ w : World, Calls Try.prog 24 #[.string (s.extract k e)] w fun e w' => e = .returned (.tuple #[.string (strOfNums l), .bool true]) ∧ Below w.heap.size w w') := ⟨fun w => by have h := H24.out w; unfold unqV at h; rw [hu] at h; exact h⟩
            clear H24 hu
            by_cases hes : e < s.size
            · have ze := byte_at s e
              generalize hd : at_ s e = d at ze hw
              clear hd
              cases hbd : Desk.blank d with
              | false =>
                rw [if_pos ⟨hes, hbd⟩] at hw
                injection hw with h1 h2
                subst h1 h2
                have H22d : Aside0 (∀ w : World, Calls Try.prog 22 #[.int .u8 d] w fun e w' => e = .returned (.bool false) ∧ Drawn0 w w') := ⟨fun w => hbd ▸ blank22 d w⟩
                clear hbd
                go_wp2_with (first | (go_at_call_of 22 (Value.int IntKind.u8 d); refine (H22d.out _).mono ?_; rintro e w3 ⟨rfl, ⟨⟨m3, rfl⟩⟩⟩) | (go_at_call_of 22 (Value.int IntKind.u8 c); refine (H22.out _).mono ?_; rintro e w1 ⟨rfl, ⟨⟨m, rfl⟩⟩⟩) | (go_at_call 23; refine (H23b.out _).mono ?_; rintro e w1 ⟨rfl, ⟨⟨m2, rfl⟩⟩⟩) | (go_at_call 24; refine (H24b.out _).mono ?_; rintro e w2 ⟨rfl, hb2⟩; have HO2 := Aside0.mk (Kd.R_below (Kd.R_drewN HO.out (m + m2)) hb2); have HB2 := Aside0.mk ((pw_below_drewN HB.out (m + m2)).trans (hb2.mono (pw_below_drewN HB.out (m + m2)).size)); clear hb2))
                go_ret2
                exact ⟨_, rfl, Kd.R_nil Kd.string 9 _ w.heap.size (fun _ => True), pw_below_drewN HB2.out m3⟩
              | true =>
                rw [if_neg (by rw [hbd]; simp)] at hw
                have HW := Aside0.mk hw
                have H22d : Aside0 (∀ w : World, Calls Try.prog 22 #[.int .u8 d] w fun e w' => e = .returned (.bool true) ∧ Drawn0 w w') := ⟨fun w => hbd ▸ blank22 d w⟩
                clear hbd hw
                go_wp2_with (first | (go_at_call_of 22 (Value.int IntKind.u8 d); refine (H22d.out _).mono ?_; rintro e w3 ⟨rfl, ⟨⟨m3, rfl⟩⟩⟩) | (go_at_call_of 22 (Value.int IntKind.u8 c); refine (H22.out _).mono ?_; rintro e w1 ⟨rfl, ⟨⟨m, rfl⟩⟩⟩) | (go_at_call 23; refine (H23b.out _).mono ?_; rintro e w1 ⟨rfl, ⟨⟨m2, rfl⟩⟩⟩) | (go_at_call 24; refine (H24b.out _).mono ?_; rintro e w2 ⟨rfl, hb2⟩; have HO2 := Aside0.mk (Kd.R_below (Kd.R_drewN HO.out (m + m2)) hb2); have HB2 := Aside0.mk ((pw_below_drewN HB.out (m + m2)).trans (hb2.mono (pw_below_drewN HB.out (m + m2)).size)); clear hb2) | (at_builtin; refine Kd.R_append Kd.string (w0 := w) w.heap.size rfl (.tmp 57) (.tmp 59) 22 9 (.string ⟨#[]⟩) 16 rfl Try.underlying22 infoS rfl (by decide) (by omega) q acc (strOfNums l) [.string (strOfNums l)] (fun _ => True) (fun _ => False) rfl rfl rfl (fun _ hk => hk.elim) (fun _ _ => trivial) (Kd.R_drewN HO2.out m3) (pw_below_drewN HB2.out m3) (pw_below_drewN HB2.out m3).size (by omega) ?_; intro v1 w4 ho hb hg hat; have HO4 := Aside0.mk ho; have HB4 := Aside0.mk hb; clear ho hb hg hat))
                go_roundw
                case rel => exact ⟨e, acc ++ [strOfNums l], v1, rfl, rfl, her2, by rw [List.length_append, List.length_singleton]; omega, HW, HO4, HB4⟩
                case measure => simp [intOf]; omega
            · rw [if_neg (fun h => hes h.1)] at hw
              have HW := Aside0.mk hw
              clear hw
              go_wp2_with (first | (go_at_call 22; refine (H22.out _).mono ?_; rintro e w1 ⟨rfl, ⟨⟨m, rfl⟩⟩⟩) | (go_at_call 23; refine (H23b.out _).mono ?_; rintro e w1 ⟨rfl, ⟨⟨m2, rfl⟩⟩⟩) | (go_at_call 24; refine (H24b.out _).mono ?_; rintro e w2 ⟨rfl, hb2⟩; have HO2 := Aside0.mk (Kd.R_below (Kd.R_drewN HO.out (m + m2)) hb2); have HB2 := Aside0.mk ((pw_below_drewN HB.out (m + m2)).trans (hb2.mono (pw_below_drewN HB.out (m + m2)).size)); clear hb2) | (at_builtin; refine Kd.R_append Kd.string (w0 := w) w.heap.size rfl (.tmp 57) (.tmp 59) 22 9 (.string ⟨#[]⟩) 16 rfl Try.underlying22 infoS rfl (by decide) (by omega) q acc (strOfNums l) [.string (strOfNums l)] (fun _ => True) (fun _ => False) rfl rfl rfl (fun _ hk => hk.elim) (fun _ _ => trivial) HO2.out HB2.out HB2.out.size (by omega) ?_; intro v1 w4 ho hb hg hat; have HO4 := Aside0.mk ho; have HB4 := Aside0.mk hb; clear ho hb hg hat))
              go_roundw
              case rel => exact ⟨e, acc ++ [strOfNums l], v1, rfl, rfl, her2, by rw [List.length_append, List.length_singleton]; omega, HW, HO4, HB4⟩
              case measure => simp [intOf]; omega
      · rw [if_neg h34] at hw
        have b34 : (c == 34) = false := by simpa using h34
        clear h34 h35
        have hkw : k < wend s k := by
          rw [wend_at, if_pos hlt, HC.out, if_neg (by rw [hb]; simp)]
          have := (wend_range s _ (k + 1) rfl (by omega)).1
          omega
        have HW := Aside0.mk hw
        have HK := Aside0.mk hkw
        clear hw hb hkw
        go_wp2_with (go_at_call 22; refine (H22.out _).mono ?_; rintro e w1 ⟨rfl, ⟨⟨m, rfl⟩⟩⟩)
        have HO1 := Aside0.mk (Kd.R_drewN HO.out m)
        have HB1 := Aside0.mk (pw_below_drewN HB.out m)
        clear HC z HO HB H22
        go_loopw [9] (fun i wr2 => ∃ j : Nat, i = .int .i64 j ∧ k ≤ j ∧ j ≤ s.size ∧ Aside0 (wend s j = wend s k) ∧ Aside0 (Kd.R Kd.string 9 wr2 w.heap.size (fun _ => True) q acc) ∧ Aside0 (Below w.heap.size w wr2)) (fun i _ => s.size - (intOf i).toNat)
        case atStart => exact ⟨k, rfl, Nat.le_refl _, hk, ⟨rfl⟩, HO1, HB1⟩
        case round =>
          clear HO1 HB1
          obtain ⟨j, rfl, hkj, hjs, HJ, HO, HB⟩ := hrel
          have hkw := HK.out
          by_cases hjl : j < s.size
          rotate_left
          · have hjw : Aside0 (j = wend s k) := ⟨by rw [← HJ.out, wend_at, if_neg hjl]⟩
            have hkj2 : k < j := by rw [hjw.out]; exact hkw
            clear hkw HK HJ
            go_wp2_with (at_builtin; refine Kd.R_append Kd.string (w0 := w) w.heap.size rfl (.tmp 76) (.tmp 81) 22 9 (.string ⟨#[]⟩) 16 rfl Try.underlying22 infoS rfl (by decide) (by omega) q acc (s.extract k j) [.string (s.extract k j)] (fun _ => True) (fun _ => False) rfl rfl rfl (fun _ hk => hk.elim) (fun _ _ => trivial) HO.out HB.out HB.out.size (by omega) ?_; intro v1 w2 ho hb hg hat; have HO2 := Aside0.mk ho; have HB2 := Aside0.mk hb; clear ho hb hg hat)
            go_roundw
            case rel => exact ⟨j, acc ++ [s.extract k j], v1, rfl, rfl, hjs, by rw [List.length_append, List.length_singleton]; omega, ⟨by rw [hjw.out]; exact HW.out⟩, HO2, HB2⟩
            case measure => simp [intOf]; omega
          · have zj := byte_at s j
            generalize hd : at_ s j = d at zj
            cases hbd : Desk.blank d with
            | true =>
              have hjw : Aside0 (j = wend s k) := ⟨by rw [← HJ.out, wend_at, if_pos hjl, hd, if_pos hbd]⟩
              have hkj2 : k < j := by rw [hjw.out]; exact hkw
              have H22 : Aside0 (∀ w : World, Calls Try.prog 22 #[.int .u8 d] w fun e w' => e = .returned (.bool true) ∧ Drawn0 w w') := ⟨fun w => hbd ▸ blank22 d w⟩
              clear hkw HK HJ hd hbd
              go_wp2_with (first | (go_at_call 22; refine (H22.out _).mono ?_; rintro e w1 ⟨rfl, ⟨⟨m, rfl⟩⟩⟩) | at_builtin; refine Kd.R_append Kd.string (w0 := w) w.heap.size rfl (.tmp 76) (.tmp 81) 22 9 (.string ⟨#[]⟩) 16 rfl Try.underlying22 infoS rfl (by decide) (by omega) q acc (s.extract k j) [.string (s.extract k j)] (fun _ => True) (fun _ => False) rfl rfl rfl (fun _ hk => hk.elim) (fun _ _ => trivial) (Kd.R_drewN HO.out m) (pw_below_drewN HB.out m) (pw_below_drewN HB.out m).size (by omega) ?_; intro v1 w2 ho hb hg hat; have HO2 := Aside0.mk ho; have HB2 := Aside0.mk hb; clear ho hb hg hat)
              go_roundw
              case rel => exact ⟨j, acc ++ [s.extract k j], v1, rfl, rfl, hjs, by rw [List.length_append, List.length_singleton]; omega, ⟨by rw [hjw.out]; exact HW.out⟩, HO2, HB2⟩
              case measure => simp [intOf]; omega
            | false =>
              have HJ2 : Aside0 (wend s (j + 1) = wend s k) := ⟨by rw [← HJ.out, wend_at s j, if_pos hjl, hd, if_neg (by rw [hbd]; simp)]⟩
              have H22 : Aside0 (∀ w : World, Calls Try.prog 22 #[.int .u8 d] w fun e w' => e = .returned (.bool false) ∧ Drawn0 w w') := ⟨fun w => hbd ▸ blank22 d w⟩
              clear hkw HJ hd hbd
              go_wp2_with (go_at_call 22; refine (H22.out _).mono ?_; rintro e w1 ⟨rfl, ⟨⟨m, rfl⟩⟩⟩)
              go_roundw
              case rel => exact ⟨j + 1, by first | rfl | (congr 1; push_cast; rfl) | go_num, by omega, by omega, HJ2, ⟨Kd.R_drewN HO.out m⟩, ⟨pw_below_drewN HB.out m⟩⟩
              case measure => simp [intOf]; omega
end Go.Proofs.Ytcgajjaaiablkaa.DeskWalk
