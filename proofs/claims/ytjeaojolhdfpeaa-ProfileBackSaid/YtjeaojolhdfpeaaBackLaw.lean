/- ProfileBack, for every profile: what is encoded is read back; cut off it is short, with a byte behind it long; what is not taken has no bytes. No condition. -/
import Derived.Test.YtjeaojolhdfpeaaBackFits
import Derived.Test.YtjeaojolhdfpeaaEnc
import Derived.Test.YtjeaojolhdfpeaaSameB
import Derived.ArgAppend
namespace Go.Proofs.Ytjeaojolhdfpeaa.BackLaw
open Go.RowKit Go.Proofs.YtjeaojolhdfpeaaW.PrintWords Go.Proofs.YtjeaojolhdfpeaaW.PrintLast Go.Proofs.YtjeaojolhdfpeaaW.PrintMore
open Go.Proofs.Ytjeaojolhdfpeaa.PProfileBack Go.Proofs.Ytjeaojolhdfpeaa.Reader Go.Proofs.Ytjeaojolhdfpeaa.Form Go.Proofs.Ytjeaojolhdfpeaa.BackPure Go.Proofs.Ytjeaojolhdfpeaa.BackFits
set_option linter.unusedVariables false
set_option linter.unusedSimpArgs false

theorem uv_bytes (d : Nat) : ∀ n : Nat, n ≤ d → Bytes (uv n) := by
  induction d with
  | zero =>
    intro n h c hc
    rw [uv_small (by omega)] at hc
    simp at hc
    omega
  | succ d ih =>
    intro n h c hc
    by_cases hs : n < 128
    · rw [uv_small hs] at hc
      simp at hc
      omega
    · rw [uv_big (by omega), List.mem_cons] at hc
      rcases hc with hc | hc
      · omega
      · exact ih (n / 128) (by omega) c hc
theorem part_bytes (n : Nat) : Bytes (BackPure.part n) := by
  unfold BackPure.part
  split
  · intro c hc; cases hc
  · exact uv_bytes n n (Nat.le_refl _)
theorem form_bytes {l : List (List S28)} (h : GoodP l) : Bytes (form l) := by
  intro c hc
  unfold form at hc
  rw [List.mem_append, List.mem_append] at hc
  rcases hc with (hc | hc) | hc
  · simp [headForm] at hc
    omega
  · exact uv_bytes _ _ (Nat.le_refl _) c hc
  · obtain ⟨x, hx, hc⟩ := List.mem_flatMap.1 hc
    unfold rowForm at hc
    rw [List.mem_append] at hc
    rcases hc with hc | hc
    · exact uv_bytes _ _ (Nat.le_refl _) c hc
    · obtain ⟨s, hs, hc⟩ := List.mem_flatMap.1 hc
      have hg := h.2.2 x hx s hs
      rw [form_parts hg, List.mem_cons] at hc
      rcases hc with hc | hc
      · have := flags_le s
        omega
      · simp only [List.mem_append] at hc
        rcases hc with hc | hc | hc | hc
        all_goals exact part_bytes _ c hc

theorem holds_of_C {W : World} {ad : Addr} {n : Nat} {es : List Int} (h : Kd.C (Kd.int .u8) W (some ad) n es) : ∀ b, some ad = some b → ∀ j u, (nums .u8 es)[j]? = some u → W.cell? (b.add j) = some u := by
  intro b hb j u hu
  injection hb with hb
  subst hb
  have hj : j < es.length := by
    have := (List.getElem?_eq_some_iff.1 hu).1
    rwa [nums_length] at this
  have hn : es.length = n := h.1
  obtain ⟨ad', e, hx⟩ := Kd.at_int h (j : Int) (by omega) (by omega)
  injection e with e
  subst e
  simp only [Int.toNat_natCast] at hx
  rw [hx, ← hu]
  simp [nums, rd, List.getD_eq_getElem?_getD, List.getElem?_eq_getElem hj]
theorem R_of_own {W : World} {base : Nat} {v : Value} {es : List Int} (h : W.ownsRow base 5 1 v (es.length + 1) (nums .u8 es ++ [.int .u8 0])) : Kd.R (Kd.int .u8) 5 W base (fun _ => True) v (es ++ [0]) := by
  refine ⟨fun _ _ => trivial, encs (Value.int .u8) (es ++ [0]), ?_, Kd.reps_scalar _⟩
  have e : encs (Value.int .u8) (es ++ [0]) = nums .u8 es ++ [.int .u8 0] := by simp [encs, nums]
  rw [e, List.length_append]
  exact h

set_option maxHeartbeats 16000000 in
set_option maxRecDepth 100000 in
theorem law (A : Option Addr) (c : Nat) (l : List (List S28)) (cut : Int) (w : World) (hr : Kd.C (Kd.slice 28 k28) w A l.length l) (hc : l.length ≤ c) (hg : ∀ x ∈ l, ∀ s ∈ x, Rg s) (hcut : -9223372036854775808 ≤ cut ∧ cut ≤ 9223372036854775807) :
    Calls Try.prog 6 #[.agg #[.slice A l.length c], .int .i64 cut] w fun e w' => e = .returned (.bool true) ∧ Below w.heap.size w w' := by
  obtain ⟨kf, hkf⟩ := fits_f l
  have HKF := Aside0.mk hkf
  obtain ⟨ks, hks⟩ := SameB.same_read hr
  have HKS := Aside0.mk hks
  have HR := Aside0.mk hr
  have HG := Aside0.mk hg
  have HEL := Aside0.mk (enc_length l hg)
  clear hr hg hkf hks
  have HB := Aside0.mk (below_alloc (Below.refl w.heap.size w) (.cells #[.slice A l.length c] 24))
  have B1 : Aside0 ((w.alloc (.cells #[.slice A l.length c] 24)).heap[w.heap.size]? = some (.cells #[.slice A l.length c] 24 (0, 0))) := ⟨blk_new _ _⟩
  go_enter Try.func6, Try.ntmps6
  go_wp2_with fail
  generalize w.alloc (.cells #[.slice A l.length c] 24) = W0 at HB B1 ⊢
  refine (Enc.encode A c l W0 (Kd.C_below HR.out HB.out) HG.out).mono ?_
  rintro e w1 ⟨vb, rfl, ho, hb⟩
  obtain ⟨Ab, cb, rfl⟩ := Kd.R_slice ho
  have HV := Aside0.mk (Kd.R_lower ho HB.out.size)
  replace B1 := Aside0.mk (blk_below B1.out hb)
  replace HB := Aside0.mk (below_step HB.out hb)
  clear ho hb
  have hc1 : w1.cell? ⟨w.heap.size, 0, none⟩ = some (.slice A l.length c) := (blk_cell B1.out 0).trans rfl
  cases hfit : fitsB l
  · rw [hfit] at HKF
    obtain ⟨no, he, hno⟩ := fits_not hfit
    rw [he] at HV ⊢
    clear hfit he HEL
    rcases hno with rfl | rfl
    all_goals
      go_wp2_with (go_at_call 27; refine (portagelaw18_fits.calls kf A c l false w1 (Kd.C_below HR.out HB.out) hc HKF.out).mono ?_; rintro e w2 ⟨rfl, hb⟩; replace HB := Aside0.mk (below_step HB.out hb); clear hb)
      go_ret
      exact ⟨rfl, HB.out⟩
  · rw [hfit] at HKF
    obtain ⟨hgp, he⟩ := fits_good hfit HG.out
    rw [he] at HV HEL ⊢
    obtain ⟨es, hes⟩ : ∃ es, es = form l := ⟨_, rfl⟩
    have HFL := Aside0.mk (form_len l)
    have HBy := Aside0.mk (form_bytes hgp)
    have HD := Aside0.mk (dec_form_ hgp)
    have HDC := Aside0.mk (fun n => dec_cut hgp n)
    have HDO := Aside0.mk (dec_over hgp [0])
    simp only at HV HEL ⊢
    rw [← hes] at HV HEL HFL HBy HD HDC HDO ⊢
    have hel := HEL.out
    have h4 : 4 ≤ es.length := by have := HFL.out; omega
    clear hfit he hgp hes HEL HFL
    go_wp2_with fail
    refine (portagelaw18_fits.calls kf A c l true w1 (Kd.C_below HR.out HB.out) hc HKF.out).mono ?_
    rintro e w2 ⟨rfl, hb⟩
    replace HV := Aside0.mk (Kd.R_below HV.out hb)
    replace B1 := Aside0.mk (blk_below B1.out hb)
    replace HB := Aside0.mk (below_step HB.out hb)
    clear hb hc1
    go_wp2_with fail
    refine (Decode.decode Ab cb es w2 (Kd.R_reads' HV.out).2.2 (by omega) HBy.out).mono ?_
    rintro e w3 ⟨vg, rfl, ho, hb⟩
    rw [HD.out] at ho ⊢
    simp only at ho ⊢
    obtain ⟨Ag, cg, rfl⟩ := Kd.R_slice ho
    have HGr := Aside0.mk (Kd.R_alloc ho (.cells #[.slice Ag l.length cg] 24))
    have B7 : Aside0 ((w3.alloc (.cells #[.slice Ag l.length cg] 24)).heap[w3.heap.size]? = some (.cells #[.slice Ag l.length cg] 24 (0, 0))) := ⟨blk_new _ _⟩
    replace HV := Aside0.mk (Kd.R_alloc (Kd.R_below HV.out hb) (.cells #[.slice Ag l.length cg] 24))
    replace B1 := Aside0.mk (blk_alloc (blk_below B1.out hb) (.cells #[.slice Ag l.length cg] 24))
    replace HB := Aside0.mk (below_alloc (below_step HB.out hb) (.cells #[.slice Ag l.length cg] 24))
    clear ho hb
    have hc1 : (w3.alloc (.cells #[.slice Ag l.length cg] 24)).cell? ⟨w.heap.size, 0, none⟩ = some (.slice A l.length c) := (blk_cell B1.out 0).trans rfl
    go_wp2_with fail
    generalize w3.alloc (.cells #[.slice Ag l.length cg] 24) = W3 at HGr B7 HV B1 HB hc1 ⊢
    generalize w3.heap.size = g7 at B7 ⊢
    refine (portageref0_SameProfile.calls ks A c l Ag cg l true W3 (Kd.C_below HR.out HB.out) hc (Kd.R_reads' HGr.out).2.2 (Kd.R_reads' HGr.out).2.1 HKS.out).mono ?_
    rintro e w4 ⟨rfl, hb⟩
    replace HV := Aside0.mk (Kd.R_below HV.out hb)
    replace HB := Aside0.mk (below_step HB.out hb)
    clear hb hc1 HGr B7 B1
    go_wp2_with fail
    obtain ⟨m, hm, hpick⟩ := pick_f cut es.length hcut (by omega) (by omega)
    have HP := Aside0.mk hpick
    clear hpick
    refine (portagekit_Pick.calls cut es.length m w4 HP.out).mono ?_
    rintro e w5 ⟨rfl, hb⟩
    replace HV := Aside0.mk (Kd.R_below HV.out hb.below)
    replace HB := Aside0.mk (below_step HB.out hb.below)
    clear hb HP
    have hcb := (Kd.R_reads' HV.out).2.1
    have hmc : m ≤ cb := by omega
    go_wp2_with fail
    -- cut off: short
    obtain ⟨xs, hxs⟩ : ∃ xs, xs = es.take m := ⟨_, rfl⟩
    have hxl : xs.length = m := by rw [hxs, List.length_take]; omega
    have HXD : Aside0 (Decode.dec xs = (2, [])) := ⟨by rw [hxs]; exact HDC.out m hm⟩
    have HDec : Aside0 (Calls Try.prog 22 #[.slice Ab m cb] w5 (Decode.Decoded w5 (2, []))) := ⟨by
      have hC := Kd.C_take (m := m) (Kd.R_reads' HV.out).2.2 (by omega)
      rw [← hxs] at hC
      have := Decode.decode Ab cb xs w5 hC (by omega) (fun y hy => HBy.out y (by rw [hxs] at hy; exact List.mem_of_mem_take hy))
      rwa [HXD.out, hxl] at this⟩
    clear hxs hxl HXD
    refine HDec.out.mono ?_
    rintro e w6 ⟨vs, rfl, ho, hb⟩
    obtain ⟨As, cs, rfl⟩ := Kd.R_slice ho
    replace HV := Aside0.mk (Kd.R_alloc (Kd.R_below HV.out hb) (.cells #[.slice As 0 cs] 24))
    replace HB := Aside0.mk (below_alloc (below_step HB.out hb) (.cells #[.slice As 0 cs] 24))
    clear ho hb HDec
    simp only [List.length_nil]
    -- a byte behind: long
    obtain ⟨gb, cap, heq, _⟩ := Kd.R_form HV.out (by omega)
    injection heq with heq hq1 hq2
    subst heq
    clear hq1 hq2
    obtain ⟨i5, hi5, hz5, hs5, hb5⟩ := info_parts (P := Try.prog) (e := 5) (z := .int .u8 0) (size := 1) (bytes := 1) (by kernel_rfl)
    go_upto_region 9 with fail
    generalize w6.alloc (.cells #[.slice As 0 cs] 24) = W6 at HV HB ⊢
    have HC6 := Aside0.mk (Kd.C_alloc (Kd.R_reads' HV.out).2.2 (.cells #[.int .u8 0] 5))
    have HB6 := Aside0.mk (below_alloc HB.out (.cells #[.int .u8 0] 5))
    go_wp2_with (at_builtin; refine wpList_append_grows _ rfl (.tmp 67) (.tmp 68) 32 rfl 5 i5 (.int .u8 0) 1 1 Try.underlying32 hi5 hz5 hs5 hb5 rfl (by decide) (some ⟨gb, 0, none⟩) es.length es.length (nums .u8 es) rfl (fun h => by cases h) (by rw [nums_length]; omega) (holds_of_C HC6.out) ⟨W6.heap.size, 0, none⟩ 1 1 [.int .u8 0] rfl rfl (World.news_of_block (cs := #[.int .u8 0]) (t := 5) (fr := (0, 0)) (heap_alloc_new W6 _)) (fun u hu => by rw [List.mem_singleton.1 hu]; rfl) (by omega) (by unfold maxLen; omega) (by omega) ?_; intro v7 w7 hown hgr; have HO := Aside0.mk (R_of_own hown); have HB7 := Aside0.mk (HB6.out.grown hgr HB6.out.size (fun _ h => by cases h)); clear hown hgr; obtain ⟨A7, c7, h7⟩ := Kd.R_slice HO.out; rw [List.length_append] at h7; subst h7)
    have HDec : Aside0 (Calls Try.prog 22 #[.slice A7 (es.length + 1) c7] w7 (Decode.Decoded w7 (3, []))) := ⟨by
      have hC := (Kd.R_reads' HO.out).2.2
      have := Decode.decode A7 c7 (es ++ [0]) w7 hC (by rw [List.length_append, List.length_singleton]; omega) (fun y hy => by
        rw [List.mem_append] at hy
        rcases hy with hy | hy
        · exact HBy.out y hy
        · rw [List.mem_singleton.1 hy]; omega)
      rwa [HDO.out, if_neg (by simp), List.length_append] at this⟩
    refine HDec.out.mono ?_
    rintro e w8 ⟨v8, rfl, ho, hb⟩
    obtain ⟨A8, c8, rfl⟩ := Kd.R_slice ho
    have HE := Aside0.mk (below_alloc (below_step HB7.out hb) (.cells #[.slice A8 0 c8] 24))
    clear ho hb HDec
    simp only [List.length_nil]
    go_wp2_with fail
    go_ret
    exact ⟨rfl, HE.out⟩
end Go.Proofs.Ytjeaojolhdfpeaa.BackLaw
