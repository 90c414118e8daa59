/- Relay: what stands ahead of a parcel. -/
import Derived.Test.YtcgajjaaiablkaaRHead
import Derived.Lib.Bytes
namespace Go.Proofs.Ytcgajjaaiablkaa.RHead2
open Go.RowKit Go.Proofs.YtcgajjaaiablkaaW.PrintWords Go.Proofs.YtcgajjaaiablkaaW.PrintLast Go.Proofs.YtcgajjaaiablkaaW.PrintMore
open Go.Proofs.Ytcgajjaaiablkaa.PRelaySealed Go.Proofs.Ytcgajjaaiablkaa.Reader Go.Proofs.Ytcgajjaaiablkaa.RRaw Go.Proofs.Ytcgajjaaiablkaa.RCount Go.Proofs.Ytcgajjaaiablkaa.RText Go.Proofs.Ytcgajjaaiablkaa.RWord Go.Proofs.Ytcgajjaaiablkaa.RefRd Go.Proofs.Ytcgajjaaiablkaa.ShaP Go.Proofs.Ytcgajjaaiablkaa.ShaRound Go.Proofs.Ytcgajjaaiablkaa.ShaBehind Go.Proofs.Ytcgajjaaiablkaa.ShaEnd Go.Proofs.Ytcgajjaaiablkaa.RHd Go.Proofs.Ytcgajjaaiablkaa.RHead
set_option linter.unusedVariables false
set_option linter.unusedSimpArgs false

def r37_11_T : Bool × List (List Nat × List Nat) := (true, [([], []), ([0], [0]), ([], []), ([2], [2]), ([1, 3], [1, 3])])
def r37_11_B : List Nat := [0, 1, 0, 4, 15]
theorem r37_11_tab : rtab .any (opsOf Try.f37 11) = r37_11_T := by kernel_rfl
theorem r37_11_bits : waitsOk r37_11_T.2 r37_11_B = true := by kernel_rfl
theorem str_ne {a b : List Int} (ha : Bytes a) (hb : Bytes b) (h : a ≠ b) : ((strOfNums a).toList == (strOfNums b).toList) = false := by
  rw [beq_eq_false_iff_ne]
  intro e
  rw [Go.Lib.strOfNums_toList, Go.Lib.strOfNums_toList] at e
  exact h (map_inj ha hb e)
theorem str_eq {a b : List Int} (h : a = b) : ((strOfNums a).toList == (strOfNums b).toList) = true := by subst h; exact beq_self_eq_true _
theorem ptr4_list : (strOfNums ptr4).toList = [80, 84, 82, 1] := by rw [Go.Lib.strOfNums_toList]; rfl
theorem moved_next {w0 w w1 w2 : World} {g : Nat} {bs : List Int} {a e : Int} (h : Moved w0 w w1 g bs a e) (hb : Below w1.heap.size w1 w2) : Moved w0 w w2 g bs a e := ⟨h.rd.below hb, below_then h.below h.below.size hb, h.keep.trans (KeepBut.of_below hb g none) (.inl rfl)⟩
theorem dig_bytes (v : List Int) : ∀ n, Bytes (dig v n)
  | 0 => fun c hc => by have := List.eq_of_mem_replicate hc; omega
  | n + 1 => fun c hc => by
    rcases List.mem_or_eq_of_mem_set hc with h | h
    · exact dig_bytes v n c h
    · omega
theorem sum_bytes (b : List Int) : Bytes (sumOf b) := dig_bytes _ 32
/-- What head says and leaves. -/
def Headed (w0 w : World) (g : Nat) (b : List Int) (e : Ending) (w' : World) : Prop := e = .returned (.int .i64 (hd b)) ∧ Below w0.heap.size w0 w' ∧ (hd b = 0 → Moved w0 w w' g b (44 : Nat) 0)
theorem headed {w0 w w' : World} {g : Nat} {b : List Int} {x a q : Int} (hx : hd b = x) (h0 : x ≠ 0) (h : Moved w0 w w' g b a q) : Headed w0 w g b (.returned (.int .i64 x)) w' := ⟨by rw [hx], h.below, fun h1 => absurd (hx.symm.trans h1) h0⟩
set_option maxHeartbeats 8000000 in
set_option maxRecDepth 100000 in
theorem head_short (g : Nat) (A : Option Addr) (c : Nat) (b : List Int) (w0 w : World) (hI : Rd w0 w g b (0 : Nat) 0) (hB : Below w0.heap.size w0 w) (hl : b.length ≤ 140737488355328) (h4 : b.length < 4) :
    Calls Try.prog 37 #[.slice A b.length c, .pointer (some ⟨g, 0, none⟩)] w (Headed w0 w g b) := by
  have H1 := Aside0.mk (raw_ g b 0 4 0 w0 w hI hB (by omega) hl)
  have E1 : rawR b 0 4 0 = ([], 0, 2) := by unfold rawR; rw [if_neg (by omega), if_neg (by omega)]
  rw [E1] at H1
  simp only at H1
  have E2 : hd b = 2 := by unfold hd; rw [if_pos h4]
  clear hI hB
  go_enter Try.func37, Try.ntmps37
  go_upto_region 4 with (first
    | (go_at_call 38; refine H1.out.mono ?_; rintro e w1 ⟨v, rfl, hm, hR⟩; have HM1 := Aside0.mk hm; clear hm hR)
    | (go_at_call 40; refine (err_ g b _ _ w0 _ HM1.out.rd).mono ?_; rintro e w' ⟨rfl, rfl⟩))
  have H2 := Aside0.mk (word_ g b 0 2 w0 _ HM1.out.rd HM1.out.below (by omega) hl)
  rw [show wordR b 0 2 = (0, 0, 2) from rfl] at H2
  simp only at H2
  go_upto_region 7 with (first
    | (go_at_call 68; refine H2.out.mono ?_; rintro e w2 ⟨rfl, hm⟩; have HM2 := Aside0.mk (HM1.out.trans hm); clear hm)
    | (go_at_call 40; refine (err_ g b _ _ w0 _ HM2.out.rd).mono ?_; rintro e w' ⟨rfl, rfl⟩))
  have H3 := Aside0.mk (raw_ g b 0 32 2 w0 _ HM2.out.rd HM2.out.below (by omega) hl)
  rw [show rawR b 0 32 2 = ([], 0, 2) from rfl] at H3
  simp only at H3
  go_wp2_with (first
    | (go_at_call 38; refine H3.out.mono ?_; rintro e w3 ⟨v, rfl, hm, hR⟩; have HM3 := Aside0.mk (HM2.out.trans hm); clear hm hR)
    | (go_at_call 40; refine (err_ g b _ _ w0 _ HM3.out.rd).mono ?_; rintro e w' ⟨rfl, rfl⟩))
  go_ret
  exact headed E2 (by decide) HM3.out

set_option maxHeartbeats 8000000 in
set_option maxRecDepth 100000 in
theorem head_mark (g : Nat) (A : Option Addr) (c : Nat) (b : List Int) (w0 w : World) (hI : Rd w0 w g b (0 : Nat) 0) (hB : Below w0.heap.size w0 w) (hl : b.length ≤ 140737488355232) (hb : Bytes b) (h4 : 4 ≤ b.length) (hm : b.take 4 ≠ ptr4) :
    Calls Try.prog 37 #[.slice A b.length c, .pointer (some ⟨g, 0, none⟩)] w (Headed w0 w g b) := by
  have H1 := Aside0.mk (raw_ g b 0 4 0 w0 w hI hB (by omega) (by omega))
  have E1 : rawR b 0 4 0 = (b.take 4, 4, 0) := by unfold rawR; rw [if_neg (by omega), if_pos (by omega)]; rfl
  rw [E1] at H1
  simp only at H1
  have hlen : (b.take 4).length = 4 := by rw [List.length_take]; omega
  have E2 : hd b = 4 := by unfold hd; rw [if_neg (by omega), if_pos hm]
  have b1 : ((strOfNums (b.take 4)).toList == [80, 84, 82, 1]) = false := by rw [← ptr4_list]; exact str_ne (bytes_take hb 4) ptr4_bytes hm
  clear hI hB
  go_enter Try.func37, Try.ntmps37
  go_wp2_with (first
    | (go_at_call 38; refine H1.out.mono ?_; rintro e w1 ⟨v, rfl, hm, hR⟩; have HM1 := Aside0.mk hm; obtain ⟨A', c', rfl⟩ := Kd.R_slice hR; have hstr := Kd.C_string (P := Try.prog) (src := 33) (dst := 9) (c := c') Try.underlying33 Try.underlying5 Try.underlying9 (Kd.R_reads' hR).2.2; rw [hlen] at hstr; clear hm hR)
    | (go_at_call 40; refine (err_ g b _ _ w0 _ HM1.out.rd).mono ?_; rintro e w' ⟨rfl, rfl⟩))
  go_ret
  exact headed E2 (by decide) HM1.out

set_option maxHeartbeats 8000000 in
set_option maxRecDepth 100000 in
theorem head_short12 (g : Nat) (A : Option Addr) (c : Nat) (b : List Int) (w0 w : World) (hI : Rd w0 w g b (0 : Nat) 0) (hB : Below w0.heap.size w0 w) (hl : b.length ≤ 140737488355232) (hb : Bytes b) (h4 : 4 ≤ b.length) (hm : b.take 4 = ptr4) (h12 : b.length < 12) :
    Calls Try.prog 37 #[.slice A b.length c, .pointer (some ⟨g, 0, none⟩)] w (Headed w0 w g b) := by
  have H1 := Aside0.mk (raw_ g b 0 4 0 w0 w hI hB (by omega) (by omega))
  have E1 : rawR b 0 4 0 = (b.take 4, 4, 0) := by unfold rawR; rw [if_neg (by omega), if_pos (by omega)]; rfl
  rw [E1] at H1
  simp only at H1
  have hlen : (b.take 4).length = 4 := by rw [List.length_take]; omega
  have E2 : hd b = 2 := by unfold hd; rw [if_neg (by omega), if_neg (by simpa using hm), if_pos h12]
  have b1 : ((strOfNums (b.take 4)).toList == [80, 84, 82, 1]) = true := by rw [hm, ptr4_list]; rfl
  clear hI hB hm
  go_enter Try.func37, Try.ntmps37
  go_upto_region 4 with (first
    | (go_at_call 38; refine H1.out.mono ?_; rintro e w1 ⟨v, rfl, hm, hR⟩; have HM1 := Aside0.mk hm; obtain ⟨A', c', rfl⟩ := Kd.R_slice hR; have hstr := Kd.C_string (P := Try.prog) (src := 33) (dst := 9) (c := c') Try.underlying33 Try.underlying5 Try.underlying9 (Kd.R_reads' hR).2.2; rw [hlen] at hstr; clear hm hR)
    | (go_at_call 40; refine (err_ g b _ _ w0 _ HM1.out.rd).mono ?_; rintro e w' ⟨rfl, rfl⟩))
  have H2 := Aside0.mk (word_ g b 4 0 w0 _ HM1.out.rd HM1.out.below (by omega) (by omega))
  rw [show wordR b 4 0 = (0, 4, 2) by unfold wordR; rw [if_neg (by omega), if_neg (by omega)]] at H2
  simp only at H2
  go_upto_region 7 with (first
    | (go_at_call 68; refine H2.out.mono ?_; rintro e w2 ⟨rfl, hm⟩; have HM2 := Aside0.mk (HM1.out.trans hm); clear hm)
    | (go_at_call 40; refine (err_ g b _ _ w0 _ HM2.out.rd).mono ?_; rintro e w' ⟨rfl, rfl⟩))
  have H3 := Aside0.mk (raw_ g b 4 32 2 w0 _ HM2.out.rd HM2.out.below (by omega) (by omega))
  rw [show rawR b 4 32 2 = ([], 4, 2) from rfl] at H3
  simp only at H3
  go_wp2_with (first
    | (go_at_call 38; refine H3.out.mono ?_; rintro e w3 ⟨v, rfl, hm, hR⟩; have HM3 := Aside0.mk (HM2.out.trans hm); clear hm hR)
    | (go_at_call 40; refine (err_ g b _ _ w0 _ HM3.out.rd).mono ?_; rintro e w' ⟨rfl, rfl⟩))
  go_ret
  exact headed E2 (by decide) HM3.out
set_option maxHeartbeats 8000000 in
set_option maxRecDepth 100000 in
theorem head_word (g : Nat) (A : Option Addr) (c : Nat) (b : List Int) (w0 w : World) (hI : Rd w0 w g b (0 : Nat) 0) (hB : Below w0.heap.size w0 w) (hl : b.length ≤ 140737488355232) (hb : Bytes b) (h4 : 4 ≤ b.length) (hm : b.take 4 = ptr4) (h12 : 12 ≤ b.length) (hC : Kd.C (Kd.int .u8) w0 A b.length b) (hc : b.length ≤ c) (h8 : (b.drop 4).take 8 ≠ pw (tot (b.drop 12)) 8) :
    Calls Try.prog 37 #[.slice A b.length c, .pointer (some ⟨g, 0, none⟩)] w (Headed w0 w g b) := by
  have H1 := Aside0.mk (raw_ g b 0 4 0 w0 w hI hB (by omega) (by omega))
  have E1 : rawR b 0 4 0 = (b.take 4, 4, 0) := by unfold rawR; rw [if_neg (by omega), if_pos (by omega)]; rfl
  rw [E1] at H1
  simp only at H1
  have hlen : (b.take 4).length = 4 := by rw [List.length_take]; omega
  have E2 : hd b = 4 := by unfold hd; rw [if_neg (by omega), if_neg (by simpa using hm), if_neg (by omega), if_pos h8]
  have b1 : ((strOfNums (b.take 4)).toList == [80, 84, 82, 1]) = true := by rw [hm, ptr4_list]; rfl
  have hlen8 : ((b.drop 4).take 8).length = 8 := by rw [List.length_take, List.length_drop]; omega
  have hne : wordN ((b.drop 4).take 8) 8 ≠ tot (b.drop 12) := fun h => h8 ((word_iff _ (bytes_take (bytes_drop hb 4) 8) hlen8 _ (tot_range _)).mp h)
  have b2 : (wordN ((b.drop 4).take 8) 8 != tot (b.drop 12)) = true := by simpa using hne
  clear hlen8 hne h8
  obtain ⟨X, hX⟩ : ∃ X, X = wordN ((b.drop 4).take 8) 8 := ⟨_, rfl⟩
  obtain ⟨T, hT⟩ : ∃ T, T = tot (b.drop 12) := ⟨_, rfl⟩
  rw [← hX, ← hT] at b2
  clear hI hB hm
  obtain ⟨A2, c2, hcut, hC2, hr2⟩ := cut_drop A c b 12 h12 hc
  replace hcut : ∀ W : World, (Instr.slice 33 (.slice A b.length c) (some (.int .i64 12)) none none).run Try.prog W = .ok (.slice A2 (b.drop 12).length c2) W := hcut
  have HC2 := Aside0.mk (fun W (h : Below w0.heap.size w0 W) => hC2 W (Kd.C_below hC h))
  have HS2 := Aside0.mk (sum_f (b.drop 12) (by rw [List.length_drop]; omega))
  rw [← hT] at HS2
  clear hC2 hC hT
  obtain ⟨D, hD⟩ : ∃ D, D = b.drop 12 := ⟨_, rfl⟩
  obtain ⟨L, hL⟩ : ∃ L : Nat, L = b.length - 12 := ⟨_, rfl⟩
  rw [← hD] at hcut HC2 hr2 HS2
  have hw12 : wrap64 ((b.length : Int) - (L : Int)) = 12 := by unfold wrap64; omega
  have HLE := Aside0.mk (fun w1 w2 (h : Moved w0 w1 w2 g b (12 : Nat) 0) => left_ g b 12 0 w0 w2 h.rd h.below h12)
  rw [← hL] at HLE
  clear hL hD
  go_enter Try.func37, Try.ntmps37
  go_upto_region 4 with (first
    | (go_at_call 38; refine H1.out.mono ?_; rintro e w1 ⟨v, rfl, hm, hR⟩; have HM1 := Aside0.mk hm; obtain ⟨A', c', rfl⟩ := Kd.R_slice hR; have hstr := Kd.C_string (P := Try.prog) (src := 33) (dst := 9) (c := c') Try.underlying33 Try.underlying5 Try.underlying9 (Kd.R_reads' hR).2.2; rw [hlen] at hstr; clear hm hR)
    | (go_at_call 40; refine (err_ g b _ _ w0 _ HM1.out.rd).mono ?_; rintro e w' ⟨rfl, rfl⟩))
  have H2 := Aside0.mk (word_ g b 4 0 w0 _ HM1.out.rd HM1.out.below (by omega) (by omega))
  rw [show wordR b 4 0 = (X, 12, 0) by rw [hX]; unfold wordR; rw [if_neg (by omega), if_pos (by omega)]] at H2
  simp only at H2
  clear hX
  go_upto_region 5 with (go_at_call 68; refine H2.out.mono ?_; rintro e w2 ⟨rfl, hm⟩; have HM2 := Aside0.mk (HM1.out.trans hm); clear hm)
  go_wp2_with (first
    | (go_at_call 40; refine (err_ g b _ _ w0 _ HM2.out.rd).mono ?_; rintro e w' ⟨rfl, rfl⟩)
    | (go_at_call 69; refine (HLE.out _ _ HM2.out).mono ?_; rintro e w3 ⟨rfl, hm⟩; have HM3 := Aside0.mk (HM2.out.trans hm); clear hm)
    | (go_at_call 50; refine (relay_sum.calls _ A2 c2 D T _ (HC2.out _ HM3.out.below) hr2 HS2.out).mono ?_; rintro e w4 ⟨rfl, ⟨⟨mdr, rfl⟩⟩⟩; have HM4 := Aside0.mk (HM3.out.drewN mdr)))
  go_ret
  exact headed E2 (by decide) HM4.out
set_option maxHeartbeats 8000000 in
set_option maxRecDepth 100000 in
theorem head_short44 (g : Nat) (A : Option Addr) (c : Nat) (b : List Int) (w0 w : World) (hI : Rd w0 w g b (0 : Nat) 0) (hB : Below w0.heap.size w0 w) (hl : b.length ≤ 140737488355232) (hb : Bytes b) (h4 : 4 ≤ b.length) (hm : b.take 4 = ptr4) (h12 : 12 ≤ b.length) (hC : Kd.C (Kd.int .u8) w0 A b.length b) (hc : b.length ≤ c) (h8 : (b.drop 4).take 8 = pw (tot (b.drop 12)) 8) (h44 : b.length < 44) :
    Calls Try.prog 37 #[.slice A b.length c, .pointer (some ⟨g, 0, none⟩)] w (Headed w0 w g b) := by
  have H1 := Aside0.mk (raw_ g b 0 4 0 w0 w hI hB (by omega) (by omega))
  have E1 : rawR b 0 4 0 = (b.take 4, 4, 0) := by unfold rawR; rw [if_neg (by omega), if_pos (by omega)]; rfl
  rw [E1] at H1
  simp only at H1
  have hlen : (b.take 4).length = 4 := by rw [List.length_take]; omega
  have E2 : hd b = 2 := by unfold hd; rw [if_neg (by omega), if_neg (by simpa using hm), if_neg (by omega), if_neg (by simpa using h8), if_pos h44]
  have b1 : ((strOfNums (b.take 4)).toList == [80, 84, 82, 1]) = true := by rw [hm, ptr4_list]; rfl
  have hlen8 : ((b.drop 4).take 8).length = 8 := by rw [List.length_take, List.length_drop]; omega
  have hne : wordN ((b.drop 4).take 8) 8 = tot (b.drop 12) := (word_iff _ (bytes_take (bytes_drop hb 4) 8) hlen8 _ (tot_range _)).mpr h8
  have b2 : (wordN ((b.drop 4).take 8) 8 != tot (b.drop 12)) = false := by simpa using hne
  clear hlen8 hne h8
  obtain ⟨X, hX⟩ : ∃ X, X = wordN ((b.drop 4).take 8) 8 := ⟨_, rfl⟩
  obtain ⟨T, hT⟩ : ∃ T, T = tot (b.drop 12) := ⟨_, rfl⟩
  rw [← hX, ← hT] at b2
  clear hI hB hm
  obtain ⟨A2, c2, hcut, hC2, hr2⟩ := cut_drop A c b 12 h12 hc
  replace hcut : ∀ W : World, (Instr.slice 33 (.slice A b.length c) (some (.int .i64 12)) none none).run Try.prog W = .ok (.slice A2 (b.drop 12).length c2) W := hcut
  have HC2 := Aside0.mk (fun W (h : Below w0.heap.size w0 W) => hC2 W (Kd.C_below hC h))
  have HS2 := Aside0.mk (sum_f (b.drop 12) (by rw [List.length_drop]; omega))
  rw [← hT] at HS2
  clear hC2 hC hT
  obtain ⟨D, hD⟩ : ∃ D, D = b.drop 12 := ⟨_, rfl⟩
  obtain ⟨L, hL⟩ : ∃ L : Nat, L = b.length - 12 := ⟨_, rfl⟩
  rw [← hD] at hcut HC2 hr2 HS2
  have hw12 : wrap64 ((b.length : Int) - (L : Int)) = 12 := by unfold wrap64; omega
  have HLE := Aside0.mk (fun w1 w2 (h : Moved w0 w1 w2 g b (12 : Nat) 0) => left_ g b 12 0 w0 w2 h.rd h.below h12)
  rw [← hL] at HLE
  clear hL hD
  go_enter Try.func37, Try.ntmps37
  go_upto_region 4 with (first
    | (go_at_call 38; refine H1.out.mono ?_; rintro e w1 ⟨v, rfl, hm, hR⟩; have HM1 := Aside0.mk hm; obtain ⟨A', c', rfl⟩ := Kd.R_slice hR; have hstr := Kd.C_string (P := Try.prog) (src := 33) (dst := 9) (c := c') Try.underlying33 Try.underlying5 Try.underlying9 (Kd.R_reads' hR).2.2; rw [hlen] at hstr; clear hm hR)
    | (go_at_call 40; refine (err_ g b _ _ w0 _ HM1.out.rd).mono ?_; rintro e w' ⟨rfl, rfl⟩))
  have H2 := Aside0.mk (word_ g b 4 0 w0 _ HM1.out.rd HM1.out.below (by omega) (by omega))
  rw [show wordR b 4 0 = (X, 12, 0) by rw [hX]; unfold wordR; rw [if_neg (by omega), if_pos (by omega)]] at H2
  simp only at H2
  clear hX
  go_upto_region 5 with (go_at_call 68; refine H2.out.mono ?_; rintro e w2 ⟨rfl, hm⟩; have HM2 := Aside0.mk (HM1.out.trans hm); clear hm)
  go_upto_region 7 with (first
    | (go_at_call 40; refine (err_ g b _ _ w0 _ HM2.out.rd).mono ?_; rintro e w' ⟨rfl, rfl⟩)
    | (go_at_call 69; refine (HLE.out _ _ HM2.out).mono ?_; rintro e w3 ⟨rfl, hm⟩; have HM3 := Aside0.mk (HM2.out.trans hm); clear hm)
    | (go_at_call 50; refine (relay_sum.calls _ A2 c2 D T _ (HC2.out _ HM3.out.below) hr2 HS2.out).mono ?_; rintro e w4 ⟨rfl, ⟨⟨mdr, rfl⟩⟩⟩; have HM4 := Aside0.mk (HM3.out.drewN mdr)))
  have H3 := Aside0.mk (raw_ g b 12 32 0 w0 _ HM4.out.rd HM4.out.below (by omega) (by omega))
  rw [show rawR b 12 32 0 = ([], 12, 2) by unfold rawR; rw [if_neg (by omega), if_neg (by omega)]] at H3
  simp only at H3
  go_wp2_with (first
    | (go_at_call 38; refine H3.out.mono ?_; rintro e w5 ⟨v, rfl, hm, hR⟩; have HM5 := Aside0.mk (HM4.out.trans hm); clear hm hR)
    | (go_at_call 40; refine (err_ g b _ _ w0 _ HM5.out.rd).mono ?_; rintro e w' ⟨rfl, rfl⟩))
  go_ret
  exact headed E2 (by decide) HM5.out

set_option maxHeartbeats 8000000 in
set_option maxRecDepth 100000 in
theorem head_sum (g : Nat) (A : Option Addr) (c : Nat) (b : List Int) (w0 w : World) (hI : Rd w0 w g b (0 : Nat) 0) (hB : Below w0.heap.size w0 w) (hl : b.length ≤ 140737488355232) (hb : Bytes b) (h4 : 4 ≤ b.length) (hm : b.take 4 = ptr4) (h12 : 12 ≤ b.length) (hC : Kd.C (Kd.int .u8) w0 A b.length b) (hc : b.length ≤ c) (h8 : (b.drop 4).take 8 = pw (tot (b.drop 12)) 8) (h44 : 44 ≤ b.length) :
    Calls Try.prog 37 #[.slice A b.length c, .pointer (some ⟨g, 0, none⟩)] w (Headed w0 w g b) := by
  have H1 := Aside0.mk (raw_ g b 0 4 0 w0 w hI hB (by omega) (by omega))
  have E1 : rawR b 0 4 0 = (b.take 4, 4, 0) := by unfold rawR; rw [if_neg (by omega), if_pos (by omega)]; rfl
  rw [E1] at H1
  simp only at H1
  have hlen : (b.take 4).length = 4 := by rw [List.length_take]; omega
  have E2 : hd b = if (b.drop 12).take 32 ≠ sumOf (b.drop 44) then 4 else 0 := by unfold hd; rw [if_neg (by omega), if_neg (by simpa using hm), if_neg (by omega), if_neg (by simpa using h8), if_neg (by omega)]
  have b1 : ((strOfNums (b.take 4)).toList == [80, 84, 82, 1]) = true := by rw [hm, ptr4_list]; rfl
  have hlen8 : ((b.drop 4).take 8).length = 8 := by rw [List.length_take, List.length_drop]; omega
  have hne : wordN ((b.drop 4).take 8) 8 = tot (b.drop 12) := (word_iff _ (bytes_take (bytes_drop hb 4) 8) hlen8 _ (tot_range _)).mpr h8
  have b2 : (wordN ((b.drop 4).take 8) 8 != tot (b.drop 12)) = false := by simpa using hne
  clear hlen8 hne h8
  obtain ⟨X, hX⟩ : ∃ X, X = wordN ((b.drop 4).take 8) 8 := ⟨_, rfl⟩
  obtain ⟨T, hT⟩ : ∃ T, T = tot (b.drop 12) := ⟨_, rfl⟩
  rw [← hX, ← hT] at b2
  obtain ⟨A4, c4, hcut4, hC4, hr4⟩ := cut_drop A c b 44 h44 hc
  replace hcut4 : ∀ W : World, (Instr.slice 33 (.slice A b.length c) (some (.int .i64 44)) none none).run Try.prog W = .ok (.slice A4 (b.drop 44).length c4) W := hcut4
  have HSUM := Aside0.mk (fun W (h : Below w0.heap.size w0 W) => ShaSum.sum_calls (b.drop 44) A4 c4 W (hC4 W (Kd.C_below hC h)) hr4 (by rw [List.length_drop]; omega))
  clear hC4
  obtain ⟨S, hS⟩ : ∃ S, S = sumOf (b.drop 44) := ⟨_, rfl⟩
  have hlS : S.length = 32 := by rw [hS]; exact dig_length _ 32
  have HBS := Aside0.mk (sum_bytes (b.drop 44))
  have HBM := Aside0.mk (bytes_take (bytes_drop hb 12) 32)
  rw [← hS] at HBS E2
  rw [← hS] at HSUM
  clear hS
  obtain ⟨D4, hD4⟩ : ∃ D, D = b.drop 44 := ⟨_, rfl⟩
  obtain ⟨L4, hL4⟩ : ∃ L : Nat, L = b.length - 44 := ⟨_, rfl⟩
  rw [← hD4] at hcut4 HSUM hr4
  have hw44 : wrap64 ((b.length : Int) - (L4 : Int)) = 44 := by unfold wrap64; omega
  have HLE4 := Aside0.mk (fun w1 w2 (h : Moved w0 w1 w2 g b (44 : Nat) 0) => left_ g b 44 0 w0 w2 h.rd h.below h44)
  rw [← hL4] at HLE4
  clear hL4 hD4
  have hlM : ((b.drop 12).take 32).length = 32 := by rw [List.length_take, List.length_drop]; omega
  obtain ⟨M, hM⟩ : ∃ M, M = (b.drop 12).take 32 := ⟨_, rfl⟩
  rw [← hM] at hlM HBM E2
  have HE2 := Aside0.mk E2
  clear E2
  have E3 : rawR b 12 32 0 = (M, 44, 0) := by rw [hM]; unfold rawR; rw [if_neg (by omega), if_pos (by omega)]
  clear hM
  clear hI hB hm
  obtain ⟨A2, c2, hcut, hC2, hr2⟩ := cut_drop A c b 12 h12 hc
  replace hcut : ∀ W : World, (Instr.slice 33 (.slice A b.length c) (some (.int .i64 12)) none none).run Try.prog W = .ok (.slice A2 (b.drop 12).length c2) W := hcut
  have HC2 := Aside0.mk (fun W (h : Below w0.heap.size w0 W) => hC2 W (Kd.C_below hC h))
  have HS2 := Aside0.mk (sum_f (b.drop 12) (by rw [List.length_drop]; omega))
  rw [← hT] at HS2
  clear hC2 hC hT
  obtain ⟨D, hD⟩ : ∃ D, D = b.drop 12 := ⟨_, rfl⟩
  obtain ⟨L, hL⟩ : ∃ L : Nat, L = b.length - 12 := ⟨_, rfl⟩
  rw [← hD] at hcut HC2 hr2 HS2
  have hw12 : wrap64 ((b.length : Int) - (L : Int)) = 12 := by unfold wrap64; omega
  have HLE := Aside0.mk (fun w1 w2 (h : Moved w0 w1 w2 g b (12 : Nat) 0) => left_ g b 12 0 w0 w2 h.rd h.below h12)
  rw [← hL] at HLE
  clear hL hD
  go_enter Try.func37, Try.ntmps37
  go_upto_region 4 with (first
    | (go_at_call 38; refine H1.out.mono ?_; rintro e w1 ⟨v, rfl, hm, hR⟩; have HM1 := Aside0.mk hm; obtain ⟨A', c', rfl⟩ := Kd.R_slice hR; have hstr := Kd.C_string (P := Try.prog) (src := 33) (dst := 9) (c := c') Try.underlying33 Try.underlying5 Try.underlying9 (Kd.R_reads' hR).2.2; rw [hlen] at hstr; clear hm hR)
    | (go_at_call 40; refine (err_ g b _ _ w0 _ HM1.out.rd).mono ?_; rintro e w' ⟨rfl, rfl⟩))
  have H2 := Aside0.mk (word_ g b 4 0 w0 _ HM1.out.rd HM1.out.below (by omega) (by omega))
  rw [show wordR b 4 0 = (X, 12, 0) by rw [hX]; unfold wordR; rw [if_neg (by omega), if_pos (by omega)]] at H2
  simp only at H2
  clear hX
  go_upto_region 5 with (go_at_call 68; refine H2.out.mono ?_; rintro e w2 ⟨rfl, hm⟩; have HM2 := Aside0.mk (HM1.out.trans hm); clear hm)
  go_upto_region 7 with (first
    | (go_at_call 40; refine (err_ g b _ _ w0 _ HM2.out.rd).mono ?_; rintro e w' ⟨rfl, rfl⟩)
    | (go_at_call 69; refine (HLE.out _ _ HM2.out).mono ?_; rintro e w3 ⟨rfl, hm⟩; have HM3 := Aside0.mk (HM2.out.trans hm); clear hm)
    | (go_at_call 50; refine (relay_sum.calls _ A2 c2 D T _ (HC2.out _ HM3.out.below) hr2 HS2.out).mono ?_; rintro e w4 ⟨rfl, ⟨⟨mdr, rfl⟩⟩⟩; have HM4 := Aside0.mk (HM3.out.drewN mdr)))
  have H3 := Aside0.mk (raw_ g b 12 32 0 w0 _ HM4.out.rd HM4.out.below (by omega) (by omega))
  rw [E3] at H3
  simp only at H3
  go_upto_region 11 with (first
    | (go_at_call 38; refine H3.out.mono ?_; rintro e w5 ⟨v, rfl, hm, hR⟩; have HM5 := Aside0.mk (HM4.out.trans hm); obtain ⟨A6, c6, rfl⟩ := Kd.R_slice hR; rw [hlM] at hR ⊢; have HR6 := Aside0.mk hR; clear hm hR)
    | (go_at_call 40; refine (err_ g b _ _ w0 _ HM5.out.rd).mono ?_; rintro e w' ⟨rfl, rfl⟩)
    | (go_at_call 69; refine (HLE4.out _ _ HM5.out).mono ?_; rintro e w6 ⟨rfl, hm⟩; have HM6 := Aside0.mk (HM5.out.trans hm); have HR7 := Aside0.mk (Kd.R_keep HR6.out hm.keep (fun k hk => by have := HM4.out.rd.lt; omega)); clear hm)
    | (go_at_call 47; refine (HSUM.out _ HM6.out.below).mono ?_; rintro e w7 ⟨rfl, hb7⟩; have HB7 := Aside0.mk hb7; clear hb7)
    | ((with_reducible refine gate_dst (N := 8) rfl ?_); refine box_event_ 56 (u8s (List.replicate 32 0)) rfl rfl (by first | (go_simp; done) | (go_simp; rfl)) ?_; intro g8 w8 hg hA hb; have HA8 := Aside0.mk hA; have HB8 := Aside0.mk hb; have HG8 := Aside0.mk hg; clear hg hA hb)
    | ((with_reducible refine gate_store (t := 56) (p := 8) rfl ?_); refine put_row rfl rfl rfl (g := g8) (u8s S) rfl rfl HA8.out (info56.trans (by rw [size_u8s, hlS])) (by rw [size_u8s, size_u8s, hlS]; rfl) (all_one _ _) ?_; intro w9 h1 h2; have HR9 := Aside0.mk h1; have HW9 := Aside0.mk h2; clear h1 h2))
  have hb9 : Below w6.heap.size w6 w9 := HW9.out.below (below_step HB7.out HB8.out) (Nat.le_trans HB7.out.size HG8.out)
  have HM9 := Aside0.mk (moved_next HM6.out hb9).drew
  have hC1 := (Kd.R_reads' (Kd.R_below HR7.out hb9)).2.2
  have hC2 := C_blk HR9.out (by omega)
  rw [hlM] at hC1
  rw [hlS] at hC2
  have Z : Aside0 ((convert 33 9 (.slice A6 32 c6)).run Try.prog w9.drew = .ok (.string (strOfNums M)) w9.drew ∧ (convert 33 9 (.slice (some ⟨g8, 0, none⟩) 32 32)).run Try.prog w9.drew = .ok (.string (strOfNums S)) w9.drew) :=
    ⟨Kd.C_string (P := Try.prog) Try.underlying33 Try.underlying5 Try.underlying9 (Kd.C_drewN hC1 1), Kd.C_string (P := Try.prog) Try.underlying33 Try.underlying5 Try.underlying9 (Kd.C_drewN hC2 1)⟩
  clear hC1 hC2 hb9
  refine start_ (n := 5) (S := fun w' => (convert 33 9 (.slice A6 32 c6)).run Try.prog w' = .ok (.string (strOfNums M)) w' ∧ (convert 33 9 (.slice (some ⟨g8, 0, none⟩) 32 32)).run Try.prog w' = .ok (.string (strOfNums S)) w') (ds := []) #[false, false, false, false, false] (by kernel_rfl) rfl rfl Z.out (fun hHeld => ?_)
  refine with_tabW r37_11_tab r37_11_bits (fun HT_ HW_ => ?_)
  generalize World.drew w9 = W2 at HM9 hHeld ⊢
  refine pure_ (i := 0) (N := some 51) (v := ?_) (a' := ?_) #[true, false, false, false, false] rfl rfl (any_of HT_.out (by kernel_rfl)) (fun _ _ _ h => h) (Or.inl ⟨by rfl, ?_⟩) ?_ ?_
  rotate_left
  · intro w'
    go_simp
    with_reducible rfl
  rotate_left
  · simp only [Act.put, List.setIfInBounds_toArray, List.set_cons_zero, List.set_cons_succ, i64_w, i32_w]
    rfl
  refine take_ (i := 1) (N := some 52) (v := ?_) (a' := ?_) #[true, true, false, false, false] rfl rfl (take_ofW HT_.out HW_.out (by kernel_rfl)) (fun _ _ _ h => h) (Or.inl ⟨by rfl, ?_⟩) hHeld ?_ ?_
  rotate_left
  · rintro w' ⟨s0, s1⟩
    go_simp
    with_reducible rfl
  rotate_left
  · simp only [Act.put, List.setIfInBounds_toArray, List.set_cons_zero, List.set_cons_succ, i64_w, i32_w]
    rfl
  refine pure_ (i := 2) (N := some 53) (v := ?_) (a' := ?_) #[true, true, true, false, false] rfl rfl (any_of HT_.out (by kernel_rfl)) (fun _ _ _ h => h) (Or.inl ⟨by rfl, ?_⟩) ?_ ?_
  rotate_left
  · intro w'
    go_simp
    with_reducible rfl
  rotate_left
  · simp only [Act.put, List.setIfInBounds_toArray, List.set_cons_zero, List.set_cons_succ, i64_w, i32_w]
    rfl
  refine take_ (i := 3) (N := some 54) (v := ?_) (a' := ?_) #[true, true, true, true, false] rfl rfl (take_ofW HT_.out HW_.out (by kernel_rfl)) (fun _ _ _ h => h) (Or.inl ⟨by rfl, ?_⟩) hHeld ?_ ?_
  rotate_left
  · rintro w' ⟨s0, s1⟩
    go_simp
    with_reducible rfl
  rotate_left
  · simp only [Act.put, List.setIfInBounds_toArray, List.set_cons_zero, List.set_cons_succ, i64_w, i32_w]
    rfl
  refine pure_ (i := 4) (N := some 55) (v := ?_) (a' := ?_) #[true, true, true, true, true] rfl rfl (any_of HT_.out (by kernel_rfl)) (fun _ _ _ h => h) (Or.inl ⟨by rfl, ?_⟩) ?_ ?_
  rotate_left
  · intro w'
    go_simp
    with_reducible rfl
  rotate_left
  · simp only [Act.put, List.setIfInBounds_toArray, List.set_cons_zero, List.set_cons_succ, i64_w, i32_w]
    rfl
  refine done_ (done_of HT_.out (by kernel_rfl)) ?_
  by_cases hMS : M = S
  · have b3 := str_eq hMS
    have hE := HE2.out
    rw [if_neg (by simpa using hMS)] at hE
    clear hMS
    rw [b3, Bool.not_true]
    go_wp2
    go_ret
    exact ⟨by rw [hE]; rfl, HM9.out.below, fun _ => HM9.out⟩
  · have b3 := str_ne HBM.out HBS.out hMS
    have hE := HE2.out
    rw [if_pos hMS] at hE
    clear hMS
    rw [b3, Bool.not_false]
    go_wp2
    go_ret
    exact headed hE (by decide) HM9.out
/-- head reads what stands ahead. -/
theorem head_ (g : Nat) (A : Option Addr) (c : Nat) (b : List Int) (w0 w : World) (hI : Rd w0 w g b (0 : Nat) 0) (hB : Below w0.heap.size w0 w) (hl : b.length ≤ 140737488355232) (hb : Bytes b) (hC : Kd.C (Kd.int .u8) w0 A b.length b) (hc : b.length ≤ c) :
    Calls Try.prog 37 #[.slice A b.length c, .pointer (some ⟨g, 0, none⟩)] w (Headed w0 w g b) := by
  by_cases h4 : b.length < 4
  · exact head_short g A c b w0 w hI hB (by omega) h4
  by_cases hm : b.take 4 = ptr4
  · by_cases h12 : b.length < 12
    · exact head_short12 g A c b w0 w hI hB hl hb (by omega) hm h12
    by_cases h8 : (b.drop 4).take 8 = pw (tot (b.drop 12)) 8
    · by_cases h44 : b.length < 44
      · exact head_short44 g A c b w0 w hI hB hl hb (by omega) hm (by omega) hC hc h8 h44
      exact head_sum g A c b w0 w hI hB hl hb (by omega) hm (by omega) hC hc h8 (by omega)
    · exact head_word g A c b w0 w hI hB hl hb (by omega) hm (by omega) hC hc h8
  · exact head_mark g A c b w0 w hI hB hl hb (by omega) hm
end Go.Proofs.Ytcgajjaaiablkaa.RHead2
