/- asm.Unquote, walked. -/
import Derived.Test.YtcgajjaaiablkaaDeskRef
namespace Go.Proofs.Ytcgajjaaiablkaa.DeskUnq
open Go.RowKit Go.Proofs.YtcgajjaaiablkaaW.PrintWords Go.Proofs.YtcgajjaaiablkaaW.PrintLast Go.Proofs.YtcgajjaaiablkaaW.PrintMore
open Go.Proofs.Ytcgajjaaiablkaa.PDeskWords Go.Proofs.Ytcgajjaaiablkaa.Desk Go.Proofs.Ytcgajjaaiablkaa.DeskRef
set_option linter.unusedVariables false
set_option linter.unusedSimpArgs false

theorem toList1 (a : UInt8) : ByteArray.toList { data := #[a] } = [a] := by
  unfold ByteArray.toList
  unfold ByteArray.toList.loop
  unfold ByteArray.toList.loop
  simp [ByteArray.size, ByteArray.get!]
def q : ByteArray := { data := #[34] }
theorem extract_one (s : ByteArray) (a : Nat) (h : a < s.size) : s.extract a (a + 1) = { data := #[s[a]] } := by
  apply ByteArray.ext_getElem
  · rw [ByteArray.size_extract]
    show min (a + 1) s.size - a = 1
    omega
  · intro i h1 h2
    have hi : i = 0 := by
      have : i < 1 := h2
      omega
    subst hi
    rw [ByteArray.getElem_extract]
    rfl
theorem starts (s : ByteArray) (a : Nat) (h : a < s.size) : ((s.extract a (a + 1)).toList == q.toList) = decide (at_ s a = 34) := by
  rw [extract_one s a h, toList1, show q.toList = [34] from toList1 34]
  have hb := byte_at s a h
  by_cases h34 : at_ s a = 34
  · rw [decide_eq_true h34]
    have : s[a] = 34 := by
      apply UInt8.toNat_inj.1
      have : (34 : UInt8).toNat = 34 := rfl
      omega
    rw [this]
    rfl
  · rw [decide_eq_false h34]
    rw [beq_eq_false_iff_ne]
    intro h2
    injection h2 with h2
    rw [h2] at hb
    exact h34 hb.symm
theorem qsize : (q.size : Int) = 1 := rfl
theorem cut_pre (s : ByteArray) : strings_CutPrefix.f s q = some (if 0 < s.size ∧ at_ s 0 = 34 then (s.extract 1 s.size, true) else (s, false)) := by
  unfold strings_CutPrefix.f stringslite_CutPrefix.f stringslite_HasPrefix.f
  rw [qsize]
  by_cases h : 0 < s.size
  · rw [if_pos (show (s.size : Int) ≥ 1 by omega), if_pos (by omega), if_pos (show (1 : Int) ≤ (s.size : Int) by omega)]
    have h1 : (1 : Int).toNat = 1 := rfl
    simp only [Option.bind_some, h1]
    rw [starts s 0 h]
    by_cases h34 : at_ s 0 = 34
    · rw [decide_eq_true h34, if_pos rfl, if_pos (by omega), if_pos (by omega), if_pos ⟨h, h34⟩]
      rfl
    · rw [decide_eq_false h34, if_neg (by simp), if_neg (fun hh => h34 hh.2)]
      rfl
  · rw [if_neg (show ¬ (s.size : Int) ≥ 1 by omega), Option.bind_some, if_neg (by simp), Option.bind_some, if_neg (fun hh : 0 < s.size ∧ _ => h hh.1)]
theorem cut_suf (s : ByteArray) (hs : s.size ≤ 1000000000000) : strings_CutSuffix.f s q = some (if 0 < s.size ∧ at_ s (s.size - 1) = 34 then (s.extract 0 (s.size - 1), true) else (s, false)) := by
  unfold strings_CutSuffix.f stringslite_CutSuffix.f stringslite_HasSuffix.f
  rw [qsize]
  by_cases h : 0 < s.size
  · have hw : wrap64 ((s.size : Int) - 1) = ((s.size - 1 : Nat) : Int) := by unfold wrap64; omega
    rw [if_pos (show (s.size : Int) ≥ 1 by omega), hw, if_pos (by omega), if_pos (by omega)]
    simp only [Option.bind_some, Int.toNat_natCast]
    have e := starts s (s.size - 1) (by omega)
    rw [show s.size - 1 + 1 = s.size by omega] at e
    rw [e]
    by_cases h34 : at_ s (s.size - 1) = 34
    · rw [decide_eq_true h34, if_pos rfl, if_pos (by omega), if_pos (by omega), if_pos ⟨h, h34⟩]
      rfl
    · rw [decide_eq_false h34, if_neg (by simp), if_neg (fun hh => h34 hh.2)]
      rfl
  · rw [if_neg (show ¬ (s.size : Int) ≥ 1 by omega), Option.bind_some, if_neg (by simp), Option.bind_some, if_neg (fun hh : 0 < s.size ∧ _ => h hh.1)]
theorem extract_twice (s : ByteArray) (a b i j : Nat) (h : a + j ≤ b) (hb : b ≤ s.size) : (s.extract a b).extract i j = s.extract (a + i) (a + j) := by
  rw [ByteArray.extract_extract]
  congr 1
  omega
theorem cells_of (xs : List Int) (h : ∀ c ∈ xs, 0 ≤ c ∧ c ≤ 255) : xs.map (Value.int .u8) = Lib.byteCells (xs.map fun x => UInt8.ofNat x.toNat) := by
  unfold Lib.byteCells
  rw [List.map_map]
  apply List.map_congr_left
  intro c hc
  have := h c hc
  simp only [Function.comp]
  congr 1
  have h2 : (UInt8.ofNat c.toNat).toNat = c.toNat := by
    rw [UInt8.toNat_ofNat']
    omega
  rw [h2]
  omega

theorem first_at (s : ByteArray) (k e : Nat) (hk : k < e) (he : e ≤ s.size) : match one s k e with
    | some (c, n) => asm_first.f 5 (s.extract k e) = some (c, s.extract (k + n) e, true)
    | none => ∃ x r, asm_first.f 5 (s.extract k e) = some (x, r, false) := by
  have hz := size_extract s k e he
  have h := first_f (s.extract k e) (by omega) 0
  rw [hz, one_extract s k e 0 (by omega) he] at h
  simp only [Nat.add_zero, Nat.zero_add] at h
  cases ho : one s k e with
  | none => rw [ho] at h; exact h
  | some p =>
    obtain ⟨c, n⟩ := p
    rw [ho] at h
    simp only at h ⊢
    rw [h, extract_twice s k e n (e - k) (by omega) he, show k + (e - k) = e by omega]
def szOf : Value → Nat | .string s => s.size | _ => 0

set_option maxHeartbeats 8000000 in
set_option maxRecDepth 100000 in
theorem isBlank (c : Int) (w : World) : Calls Try.prog 25 #[.int .u8 c] w fun e w' => e = .returned (.bool (Desk.blank c)) ∧ Drawn0 w w' := by
  unfold Desk.blank
  by_cases h1 : c = 32
  · have b1 : (c == 32) = true := by simpa using h1
    go_enter Try.func25, Try.ntmps25
    go_wp2
    go_ret
    exact ⟨by rw [decide_eq_true h1]; rfl, Drawn0.refl _⟩
  · have b1 : (c == 32) = false := by simpa using h1
    by_cases h2 : c = 9
    · have b2 : (c == 9) = true := by simpa using h2
      go_enter Try.func25, Try.ntmps25
      go_wp2
      go_ret
      exact ⟨by rw [decide_eq_false h1, decide_eq_true h2]; rfl, Drawn0.refl _⟩
    · have b2 : (c == 9) = false := by simpa using h2
      go_enter Try.func25, Try.ntmps25
      go_wp2
      go_ret
      refine ⟨?_, Drawn0.refl _⟩
      rw [decide_eq_false h1, decide_eq_false h2, Bool.false_or, Bool.false_or]
      congr 2

set_option maxHeartbeats 8000000 in
set_option maxRecDepth 100000 in
theorem unquote_calls (s : ByteArray) (w : World) (hs : s.size ≤ 1000000000000) :
    Calls Try.prog 27 #[.string s] w fun e w' => e = .returned (unqV s) ∧ Below w.heap.size w w' := by
  obtain ⟨V, hV⟩ : ∃ V, V = unqV s := ⟨_, rfl⟩
  rw [← hV]
  unfold unqV unquote at hV
  have HP := cut_pre s
  by_cases hp : 0 < s.size ∧ at_ s 0 = 34
  rotate_left
  · rw [if_neg hp] at HP
    have hn : V = vOf none := by
      rw [hV]
      by_cases h2 : s.size < 2
      · rw [if_pos (.inl h2)]
      · rw [if_pos (.inr (.inl (fun h => hp ⟨by omega, h⟩)))]
    have HPre := Aside0.mk (strings_CutPrefix.calls s q s false w HP)
    have HN := Aside0.mk hn
    clear hV HP hp hn
    go_enter Try.func27, Try.ntmps27
    go_wp2_with (go_at_call 52; refine HPre.out.mono ?_; rintro e w1 ⟨rfl, ⟨⟨m, rfl⟩⟩⟩)
    go_ret2
    exact ⟨by rw [HN.out]; rfl, pw_below_drewN (Below.refl _ _) _⟩
  · rw [if_pos hp] at HP
    obtain ⟨h0, hq⟩ := hp
    obtain ⟨t, ht⟩ : ∃ t, t = s.extract 1 s.size := ⟨_, rfl⟩
    have htz : t.size = s.size - 1 := by rw [ht, size_extract s 1 s.size (Nat.le_refl _)]
    have HS := cut_suf t (by omega)
    rw [← ht] at HP
    have HPre := Aside0.mk (strings_CutPrefix.calls s q t true w HP)
    by_cases hsuf : 0 < t.size ∧ at_ t (t.size - 1) = 34
    rotate_left
    · rw [if_neg hsuf] at HS
      have hn : V = vOf none := by
        rw [hV]
        by_cases h2 : s.size < 2
        · rw [if_pos (.inl h2)]
        · have hc : at_ s (s.size - 1) ≠ 34 := fun h => hsuf ⟨by omega, by
            rw [ht, at_extract s 1 s.size _ (by rw [← ht]; omega) (Nat.le_refl _), ← ht, ← h]
            congr 1
            omega⟩
          rw [if_pos (.inr (.inr hc))]
      have HSuf := Aside0.mk (fun w : World => strings_CutSuffix.calls t q t false w HS)
      have HN := Aside0.mk hn
      clear hV HP HS hn hsuf hq ht htz h0
      go_enter Try.func27, Try.ntmps27
      go_wp2_with (first | (go_at_call 52; refine HPre.out.mono ?_; rintro e w1 ⟨rfl, ⟨⟨m, rfl⟩⟩⟩) | (go_at_call 53; refine (HSuf.out _).mono ?_; rintro e w1 ⟨rfl, ⟨⟨m2, rfl⟩⟩⟩))
      go_ret2
      exact ⟨by rw [HN.out]; rfl, pw_below_drewN (Below.refl w.heap.size w) (m + m2)⟩
    · rw [if_pos hsuf] at HS
      obtain ⟨ht0, htq⟩ := hsuf
      obtain ⟨e, he⟩ : ∃ e, e = s.size - 1 := ⟨_, rfl⟩
      have hcur : t.extract 0 (t.size - 1) = s.extract 1 e := by
        rw [ht, extract_twice s 1 s.size 0 _ (by rw [← ht]; omega) (Nat.le_refl _), ← ht]
        congr 1
        omega
      rw [hcur] at HS
      have hlast : at_ s (s.size - 1) = 34 := by
        rw [ht, at_extract s 1 s.size _ (by rw [← ht]; omega) (Nat.le_refl _), ← ht] at htq
        rw [← htq]
        congr 1
        omega
      have HV : Aside0 (V = vOf ((unq s e (s.size + 1) 1).map (([] : List Int) ++ ·))) := ⟨by
        rw [hV, if_neg (by omega), ← he]
        cases unq s e (s.size + 1) 1 <;> rfl⟩
      have hes : e < s.size := by omega
      have he1 : 1 ≤ e := by omega
      have HSuf := Aside0.mk (fun w : World => strings_CutSuffix.calls t q (s.extract 1 e) true w HS)
      clear hV HP HS hcur hlast htq hq he ht htz
      go_enter Try.func27, Try.ntmps27
      go_wp2_with (first | (go_at_call 52; refine HPre.out.mono ?_; rintro e w1 ⟨rfl, ⟨⟨m, rfl⟩⟩⟩) | (go_at_call 53; refine (HSuf.out _).mono ?_; rintro e w1 ⟨rfl, ⟨⟨m2, rfl⟩⟩⟩))
      clear h0 HPre HSuf ht0
      go_loopw [4] (fun q wr => ∃ (k : Nat) (cur : ByteArray) (xs : List Int), q = .string cur ∧ cur.size + k = e ∧ 1 ≤ k ∧ xs.length ≤ k ∧ Aside0 (cur = s.extract k e) ∧ Aside0 (∀ c ∈ xs, 0 ≤ c ∧ c ≤ 255) ∧ Aside0 (V = vOf ((unq s e (s.size + 1) k).map (xs ++ ·))) ∧ Aside0 (Lib.IsBuilder 81 5 w.heap.size w.heap.size (xs.map (Value.int .u8)) wr) ∧ Aside0 (Below w.heap.size w wr)) (fun q _ => szOf q)
      case atStart =>
        exact ⟨1, s.extract 1 e, [], rfl, by rw [size_extract s 1 e (by omega)]; omega, Nat.le_refl _, by simp, ⟨rfl⟩, ⟨fun c hc => (by cases hc)⟩, HV, ⟨Lib.fresh_isBuilder 81 5 _⟩, ⟨Below.alloc (pw_below_drewN (Below.refl w.heap.size w) (m + m2)) (Nat.le_refl _) _⟩⟩
      case round =>
        clear HV
        obtain ⟨k, cur, xs, rfl, hk, hk1, hxl, HC, HX, HV, HO, HB⟩ := hrel
        by_cases hlt : k < e
        · have HF := first_at s k e hlt (by omega)
          rw [← HC.out] at HF
          have hv := HV.out
          simp only [unq] at hv
          rw [if_pos hlt] at hv
          have hpos : (0 : Int) < (cur.size : Int) := by omega
          cases ho : one s k e with
          | none =>
            rw [ho] at HF hv
            obtain ⟨x, r, HF⟩ := HF
            have HF := Aside0.mk (fun w : World => asm_first.calls 5 cur x r false w HF)
            have HV2 := Aside0.mk hv
            clear hv ho HV
            go_wp2_with (go_at_call 54; refine (HF.out _).mono ?_; rintro e w1 ⟨rfl, ⟨⟨m3, rfl⟩⟩⟩)
            go_ret2
            exact ⟨by rw [HV2.out]; rfl, pw_below_drewN HB.out _⟩
          | some p =>
            obtain ⟨c, n⟩ := p
            have hr := one_range ho hlt
            rw [ho] at HF hv
            rw [Option.bind_some] at hv
            simp only at HF hv
            rw [unq_fuel s e s.size (s.size + 1) (k + n) (by omega) (by omega)] at hv
            have HF := Aside0.mk (fun w : World => asm_first.calls 5 cur c (s.extract (k + n) e) true w HF)
            have HV2 : Aside0 (V = vOf ((unq s e (s.size + 1) (k + n)).map ((xs ++ [c]) ++ ·))) := ⟨by
              rw [hv]
              cases unq s e (s.size + 1) (k + n) <;> simp [vOf]⟩
            have HX2 : Aside0 (∀ d ∈ xs ++ [c], 0 ≤ d ∧ d ≤ 255) := ⟨fun d hd => by
              rcases List.mem_append.1 hd with hd | hd
              · exact HX.out d hd
              · rw [List.mem_singleton.1 hd]; omega⟩
            clear hv ho HV
            go_wp2_with (first | (go_at_call 54; refine (HF.out _).mono ?_; rintro e w1 ⟨rfl, ⟨⟨m3, rfl⟩⟩⟩) | (go_at_call 55; refine (DeskBuild.writeByte w.heap.size w.heap.size _ c (wr.drewN m3) HO.out (by rw [List.length_map]; omega) HB.out.size).mono ?_; rintro e w2 ⟨rfl, hb2, hw2⟩))
            go_roundw
            case rel => exact ⟨k + n, s.extract (k + n) e, xs ++ [c], rfl, by rw [size_extract s (k + n) e (by omega)]; omega, by omega, by rw [List.length_append, List.length_singleton]; omega, ⟨rfl⟩, HX2, HV2, ⟨by rw [List.map_append]; exact Or.inr hb2⟩, ⟨(pw_below_drewN HB.out m3).trans hw2⟩⟩
            case measure => simp only [szOf]; rw [size_extract s (k + n) e (by omega)]; omega
        · have hv := HV.out
          simp only [unq] at hv
          rw [if_neg hlt] at hv
          have hpos : ¬ (0 : Int) < (cur.size : Int) := by omega
          have HV2 : Aside0 (V = vOf (some xs)) := ⟨by rw [hv]; simp [vOf]⟩
          have HS := Aside0.mk (Try.Builder_String_any w.heap.size w.heap.size _ wr (cells_of xs HX.out ▸ HO.out) HB.out.size)
          clear hv HV
          go_wp2_with (go_at_call 56; refine HS.out.mono ?_; rintro e w1 ⟨rfl, hw1⟩)
          go_ret2
          refine ⟨?_, HB.out.trans hw1⟩
          rw [HV2.out]
          rfl
end Go.Proofs.Ytcgajjaaiablkaa.DeskUnq
