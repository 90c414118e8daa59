/- profile.Decode, walked. -/
import Derived.Test.YtjeaojolhdfpeaaGreatDecode
import Derived.Deep.RegionHeld3
namespace Go.Proofs.YtjeaojolhdfpeaaGreat.Decode
open Go.RowKit Go.Proofs.YtjeaojolhdfpeaaGreatW.PrintWords Go.Proofs.YtjeaojolhdfpeaaGreatW.PrintLast Go.Proofs.YtjeaojolhdfpeaaGreatW.PrintMore
open Go.Proofs.YtjeaojolhdfpeaaGreat.PProfileCut Go.Proofs.YtjeaojolhdfpeaaGreat.Reader Go.Proofs.YtjeaojolhdfpeaaGreat.Methods Go.Proofs.YtjeaojolhdfpeaaGreat.SpotOf Go.Proofs.YtjeaojolhdfpeaaGreat.Raw
set_option linter.unusedVariables false
set_option linter.unusedSimpArgs false

/-- The last of Decode's answer. -/
def fin (bs : List Int) (T : Int × List (List S51) × Nat × Int) : Int × List (List S51) :=
  if T.1 ≠ 0 then (T.1, []) else if T.2.2.2 ≠ 0 then (T.2.2.2, []) else if T.2.2.1 < bs.length then (3, []) else (0, T.2.1)
theorem dec_fin (bs : List Int) (h1 : ¬ bs.length < 4) (h2 : bs.take 4 = magic) : dec bs = fin bs (rowsA bs (countR bs 4 128 0).1.toNat [] (countR bs 4 128 0).2.1 (countR bs 4 128 0).2.2) := by
  unfold dec fin
  rw [if_neg h1, if_neg (by simp [h2])]

abbrev kr : Kd (List S51) := Kd.slice 51 k51
/-- What Decode holds in its loops: the reader at g, the profile's variable at fb, its rows u. -/
structure St (w1 : World) (g fb : Nat) (bs : List Int) (a : Nat) (e : Int) (u : Value) (ls : List (List S51)) (ok : Nat → Prop) (W : World) : Prop where
  rd : Rd w1 W g bs a e
  below : Below w1.heap.size w1 W
  bf : W.heap[fb]? = some (.cells #[u] 25 (0, 0))
  own : Kd.R kr 53 W w1.heap.size (fun k => k ≠ g ∧ ok k) u ls
  ge : w1.heap.size ≤ fb
namespace St
variable {w1 W W1 : World} {g fb : Nat} {bs : List Int} {a a' : Nat} {e e' : Int} {u v v1 : Value} {ls : List (List S51)} {ok ok' : Nat → Prop}
theorem ne (h : St w1 g fb bs a e u ls ok W) : fb ≠ g := fun he => by
  obtain ⟨A, c, hg, _⟩ := h.rd
  exact blk_ne h.bf hg (by decide) he
theorem moved (h : St w1 g fb bs a e u ls ok W) (hm : Moved w1 W W1 g bs a' e') : St w1 g fb bs a' e' u ls ok W1 :=
  ⟨hm.rd, hm.below, Reader137.Moved.blk hm h.bf h.ne, Kd.R_keep h.own hm.keep (fun k hk => hk.1), h.ge⟩
theorem alloc (h : St w1 g fb bs a e u ls ok W) (o : Obj) : St w1 g fb bs a e u ls ok (W.alloc o) := ⟨h.rd.alloc o, below_alloc h.below o, blk_alloc h.bf o, Kd.R_alloc h.own o, h.ge⟩
theorem mono (h : St w1 g fb bs a e u ls ok W) (hk : ∀ k, ok k → ok' k) : St w1 g fb bs a e u ls ok' W := ⟨h.rd, h.below, h.bf, Kd.R_mono h.own (fun _ h => ⟨h.1, hk _ h.2⟩), h.ge⟩
/-- The row of spots v grew. -/
theorem grown (h : St w1 g fb bs a e u ls (fun k => some k ≠ v.ownBlock) W) (hv : ∀ k, v.ownBlock = some k → ∃ cells, W.heap[k]? = some (.cells cells 51 (0, 0))) (hg : W.grownBy W1 v.ownBlock)
    (hat : v1.ownBlock = v.ownBlock ∨ ∃ b, v1.ownBlock = some b ∧ W.heap.size ≤ b) (hb : Below w1.heap.size w1 W1) : St w1 g fb bs a e u ls (fun k => some k ≠ v1.ownBlock) W1 := by
  have hne : ∀ {k t : Nat} {cells : Array Value}, W.heap[k]? = some (.cells cells t (0, 0)) → t ≠ 51 → some k ≠ v.ownBlock := fun hc ht he => by
    obtain ⟨cells, h2⟩ := hv _ he.symm
    exact blk_ne hc h2 ht rfl
  have hgb : some g ≠ v.ownBlock := by
    obtain ⟨A, c, hgg, _⟩ := h.rd
    exact hne hgg (by decide)
  exact ⟨h.rd.grown hg hgb, hb, blk_grown h.bf hg (hne h.bf (by decide)), Kd.R_after h.own hg hat, h.ge⟩
end St
theorem St.ltg {w1 W : World} {g fb : Nat} {bs : List Int} {a : Nat} {e : Int} {u : Value} {ls : List (List S51)} {ok : Nat → Prop} (h : St w1 g fb bs a e u ls ok W) : g < W.heap.size := by
  obtain ⟨A, c, hg, _⟩ := h.rd
  exact blk_lt hg
/-- The list of rows took one more, and the variable was stored. -/
theorem St.took {w1 W W1 : World} {g fb : Nat} {bs : List Int} {a : Nat} {e : Int} {u u1 : Value} {ls ls1 : List (List S51)} {ok : Nat → Prop} (h : St w1 g fb bs a e u ls ok W) (ho : Kd.R kr 53 W1 w1.heap.size (fun k => k ≠ g) u1 ls1) (hb : Below w1.heap.size w1 W1) (hg : W.grownBy W1 u.ownBlock) :
    W1.heap[fb]? = some (.cells #[u] 25 (0, 0)) ∧ St w1 g fb bs a e u1 ls1 (fun _ => True) (W1.setCell ⟨fb, 0, none⟩ u1) := by
  have hty := Kd.R_typed h.own
  have hne : ∀ {k t : Nat} {cells : Array Value}, W.heap[k]? = some (.cells cells t (0, 0)) → t ≠ 53 → some k ≠ u.ownBlock := fun hc ht he => by
    obtain ⟨cells, h2⟩ := hty _ he.symm
    exact blk_ne hc h2 ht rfl
  have hgb : some g ≠ u.ownBlock := by
    obtain ⟨A, c, hgg, _⟩ := h.rd
    exact hne hgg (by decide)
  have hbf := blk_grown h.bf hg (hne h.bf (by decide))
  exact ⟨hbf, ⟨(h.rd.grown hg hgb).far (p := ⟨fb, 0, none⟩) (fun he => h.ne he.symm) u1, below_set hb h.ge, blk_put hbf 0 _ rfl, Kd.R_mono (Kd.R_set ho hbf (by decide) 0 u1) (fun _ hk => ⟨hk, trivial⟩), h.ge⟩⟩
structure Hold (p : Prop) : Prop where
  out : p
/-- What Decode leaves. -/
def Decoded (w : World) (D : Int × List (List S51)) (e : Ending) (w' : World) : Prop :=
  ∃ v, e = .returned (.tuple #[.agg #[v], .int .i64 D.1]) ∧ Kd.R kr 53 w' w.heap.size (fun k => w.heap.size ≤ k) v D.2 ∧ Below w.heap.size w w'
/-- It gives up: nothing is answered. -/
theorem gives {w W : World} {k : Nat} {x : Value} {D : Int × List (List S51)} {tmps : Array Value} (hk : W.heap[k]? = some (.cells #[x] 25 (0, 0))) (ht : tmps.getD 2 undef = .pointer (some ⟨k, 0, none⟩)) (hr : tmps.getD 3 undef = .int .i64 D.1) (hD : D.2 = [])
    (hb : Below w.heap.size w W) (hw : w.heap.size ≤ k) : bodyPost Tryz.prog Tryz.f20 (Decoded w D) Exit.ret { tmps := tmps, defers := [] } (W.setCell ⟨k, 0, none⟩ (.slice none 0 0)) := by
  refine bodyPost_ret (results_ct rfl _ _ k 25 #[.slice none 0 0] (0, 0) _ ht (blk_put hk 0 _ rfl) Tryz.underlying25 rfl (by kernel_rfl)) rfl ⟨.slice none 0 0, by rw [hr], by rw [hD]; exact Kd.R_nil _ _ _ _ _, below_set hb hw⟩
theorem info53_ : (Tryz.prog.info? 53).map (fun i => (i.zero, i.size, i.bytes)) = some (some (.slice none 0 0), 1, 24) := by kernel_rfl
theorem info51_ : (Tryz.prog.info? 51).map (fun i => (i.zero, i.size, i.bytes)) = some (some (.agg #[(.int .i64 0), (.int .u16 0), (.int .u16 0), (.int .i64 0)]), 4, 24) := by kernel_rfl

theorem countR_ok (bs : List Int) (a : Nat) (most e : Int) (h : (countR bs a most e).1 ≠ 0) : (countR bs a most e).2.2 = 0 := by
  unfold countR rdNum at h ⊢
  by_cases he : e ≠ 0
  · rw [if_pos he] at h
    exact absurd rfl h
  · rw [if_neg he] at h ⊢
    by_cases h2 : (cnt bs a most).2.2 = 0
    · rw [if_pos h2]
    · rw [if_neg h2] at h
      exact absurd rfl h
theorem toList4 (a b c d : UInt8) : ByteArray.toList { data := #[a, b, c, d] } = [a, b, c, d] := by
  unfold ByteArray.toList
  unfold ByteArray.toList.loop
  unfold ByteArray.toList.loop
  unfold ByteArray.toList.loop
  unfold ByteArray.toList.loop
  unfold ByteArray.toList.loop
  simp [ByteArray.size, ByteArray.get!]
theorem magic_str (xs : List Int) (hx : Bytes xs) (hl : xs.length = 4) : ((strOfNums xs).toList == [80, 84, 70, 1]) = decide (xs = magic) := by
  match xs, hl, hx with
  | [a, b, c, d], _, hx =>
    have ha := hx a (by simp)
    have hb := hx b (by simp)
    have hc := hx c (by simp)
    have hd := hx d (by simp)
    have e : strOfNums [a, b, c, d] = { data := #[UInt8.ofNat a.toNat, UInt8.ofNat b.toNat, UInt8.ofNat c.toNat, UInt8.ofNat d.toNat] } := rfl
    rw [e, toList4]
    by_cases h : [a, b, c, d] = magic
    · rw [decide_eq_true h]
      unfold magic at h
      injection h with h0 h
      injection h with h1 h
      injection h with h2 h
      injection h with h3 h
      subst h0 h1 h2 h3
      rfl
    · rw [decide_eq_false h, beq_eq_false_iff_ne]
      intro h9
      injection h9 with e0 h9
      injection h9 with e1 h9
      injection h9 with e2 h9
      injection h9 with e3 h9
      have f0 := congrArg UInt8.toNat e0
      have f1 := congrArg UInt8.toNat e1
      have f2 := congrArg UInt8.toNat e2
      have f3 := congrArg UInt8.toNat e3
      simp at f0 f1 f2 f3
      apply h
      unfold magic
      rw [show a = 80 by omega, show b = 84 by omega, show c = 70 by omega, show d = 1 by omega]
theorem dec_short (bs : List Int) (h : bs.length < 4) : dec bs = (2, []) := by unfold dec; rw [if_pos h]
theorem dec_form (bs : List Int) (h : ¬ bs.length < 4) (h2 : bs.take 4 ≠ magic) : dec bs = (4, []) := by unfold dec; rw [if_neg h, if_pos h2]

set_option maxHeartbeats 8000000 in
set_option maxRecDepth 100000 in
theorem decode (A : Option Addr) (c : Nat) (bs : List Int) (w : World) (hr : Kd.C (Kd.int .u8) w A bs.length bs) (hl : bs.length ≤ 140737488355328) (hb : Bytes bs) :
    Calls Tryz.prog 20 #[.slice A bs.length c] w (Decoded w (dec bs)) := by
  obtain ⟨D, hD⟩ : ∃ D, D = dec bs := ⟨_, rfl⟩
  rw [← hD]
  have HD := Aside0.mk hD
  clear hD
  have HR := Aside0.mk hr
  have HBy := Aside0.mk hb
  have HB := Aside0.mk (below_alloc (Below.refl w.heap.size w) (.cells #[.slice none 0 0] 25))
  have BR : Aside0 ((w.alloc (.cells #[.slice none 0 0] 25)).heap[w.heap.size]? = some (.cells #[.slice none 0 0] 25 (0, 0))) := ⟨blk_new _ _⟩
  clear hr hb
  go_enter Tryz.func20, Tryz.ntmps20
  go_wp2_with fail
  generalize w.alloc (.cells #[.slice none 0 0] 25) = W0 at HB BR ⊢
  refine (newReader A c bs w W0 HB.out (Kd.C_below HR.out HB.out) hl).mono ?_
  rintro e w2 ⟨w1, g, A', c', rfl, hb1, hrc⟩
  have HB1 := Aside0.mk (below_step HB.out hb1)
  have BR1 := Aside0.mk (blk_below BR.out hb1)
  have HC := Aside0.mk hrc
  clear hb1 hrc HB BR HR
  go_wp2_with fail
  by_cases h4 : bs.length < 4
  · replace HD := Aside0.mk (HD.out.trans (dec_short bs h4))
    refine (raw_none g bs 0 4 w1 w2 HC.out.rd HC.out.below (by omega) (by omega)).mono ?_
    rintro e w3 ⟨rfl, hm⟩
    have HM := Aside0.mk hm
    clear hm
    have hcount := fun w (h1 : Rd w1 w g bs (0 : Nat) 2) h2 => count_ g bs 0 128 2 w1 w h1 h2 HBy.out (by omega) (by omega)
    have hz : countR bs 0 128 2 = (0, 0, 2) := by simp [countR, rdNum]
    rw [hz] at hcount
    have HCo := Aside0.mk hcount
    clear hcount hz
    go_wp2_with (first | (go_at_call 54; refine (wire_Reader_Err.calls g bs _ _ _ _ _ w1 w3 HM.out.rd HM.out.below rfl).mono ?_; rintro e w4 ⟨rfl, hi, hb2, hk⟩; have HM1 := Aside0.mk ((HM.out.trans ⟨hi, hb2, hk⟩).alloc (.cells #[.slice none 0 0] 25)); clear hi hb2 hk) | (go_at_call 55; refine (HCo.out _ HM1.out.rd HM1.out.below).mono ?_; rintro e w5 ⟨rfl, hm⟩; have HM2 := Aside0.mk (HM1.out.trans hm); clear hm))
    go_loop [26] (fun i => i = .int .i64 0) (fun _ => 0)
    case atStart => rfl
    case round =>
      subst hrel
      have BR2 := Aside0.mk (blk_below BR1.out HM2.out.below)
      have hr0 := blk_cell BR2.out 0
      replace hr0 := hr0.trans rfl
      have hf0 := blk_frozen BR2.out 0
      go_wp2_with (first | (go_at_call 57; refine (wire_Reader_End.calls g bs _ _ 2 _ _ w1 w5 HM2.out.rd HM2.out.below rfl).mono ?_; rintro e w6 ⟨rfl, hi, hb2, hk⟩; have HM3 := Aside0.mk (HM2.out.trans ⟨hi, hb2, hk⟩); clear hi hb2 hk hr0 hf0; have BR3 := Aside0.mk (blk_below BR1.out HM3.out.below); have hr0 : w6.cell? ⟨w.heap.size, 0, none⟩ = some (.slice none 0 0) := (blk_cell BR3.out 0).trans rfl; have hf0 := blk_frozen BR3.out 0))
      try simp only [Exit.inBlock, Exit.then]
      exact gives BR3.out rfl (by rw [HD.out]; rfl) (by rw [HD.out]) (below_then HB1.out HB1.out.size HM3.out.below) (Nat.le_refl _)
  · by_cases hmag : bs.take 4 = magic
    · replace HD := Aside0.mk (HD.out.trans (dec_fin bs h4 hmag))
      refine (raw_some g A' c' bs 0 4 w1 w2 HC.out (by omega) hl).mono ?_
      rintro e w3 ⟨v, rfl, hm, hcl⟩
      obtain ⟨xs, hxs⟩ : ∃ xs, xs = (bs.drop 0).take 4 := ⟨_, rfl⟩
      have hl4 : xs.length = 4 := by rw [hxs]; simp; omega
      have hb4 : Bytes xs := fun c hc => HBy.out c (by rw [hxs] at hc; simpa using List.mem_of_mem_take hc)
      unfold Cloned at hcl
      rw [← hxs] at hcl
      obtain ⟨Av, cv, hv⟩ := Kd.R_slice hcl
      rw [hl4] at hv
      subst hv
      have hgl := blk_lt HC.out.blk
      have HRv := Aside0.mk (Kd.R_mono (ok' := fun k => k ≠ g) hcl (fun k hk => by omega))
      have HM := Aside0.mk hm
      have hneq : ((strOfNums xs).toList == [80, 84, 70, 1]) = true := by
        rw [magic_str xs hb4 hl4]
        exact decide_eq_true (by rw [hxs]; simpa using hmag)
      clear hm hcl hb4 hxs
      have HCo := Aside0.mk (fun w (h1 : Rd w1 w g bs (4 : Nat) 0) h2 => count_ g bs 4 128 0 w1 w h1 h2 HBy.out (by omega) (by omega))
      have hcr := countR_range bs 4 128 0 HBy.out (by omega) (by omega)
      obtain ⟨⟨N, a0, e0⟩, hN⟩ : ∃ r, r = countR bs 4 128 0 := ⟨_, rfl⟩
      rw [← hN] at HCo hcr HD
      clear hN
      simp only at HCo hcr HD
      go_wp2_with (first | (go_at_call 54; refine (wire_Reader_Err.calls g bs _ _ _ _ _ w1 w3 HM.out.rd HM.out.below rfl).mono ?_; rintro e w4 ⟨rfl, hi, hb2, hk⟩; have HM1 := Aside0.mk (HM.out.trans ⟨hi, hb2, hk⟩); have hC4 := (Kd.R_reads' (Kd.R_keep HRv.out hk (fun k hk => hk))).2.2; rw [hl4] at hC4; have hstr := Kd.C_string (P := Tryz.prog) (src := 54) (dst := 9) (c := cv) Tryz.underlying54 Tryz.underlying5 Tryz.underlying9 hC4; clear hi hb2 hk hC4; have HM2 := Aside0.mk (HM1.out.alloc (.cells #[.slice none 0 0] 25)); have BF : Aside0 ((w4.alloc (.cells #[.slice none 0 0] 25)).heap[w4.heap.size]? = some (.cells #[.slice none 0 0] 25 (0, 0))) := ⟨blk_new _ _⟩) | (go_at_call 55; refine (HCo.out _ HM2.out.rd HM2.out.below).mono ?_; rintro e w5 ⟨rfl, hm⟩; have HM3 := Aside0.mk (HM2.out.trans hm); have BF3 := Aside0.mk (Reader137.Moved.blk hm BF.out (by have := HM1.out.keep.1; omega)); clear hm))
      have HS : Aside0 (St w1 g w4.heap.size bs a0 e0 (.slice none 0 0) [] (fun _ => True) w5) := ⟨⟨HM3.out.rd, HM3.out.below, BF3.out, Kd.R_nil _ _ _ _ _, HM1.out.below.size⟩⟩
      clear HM HM1 HM2 HM3 BF BF3 HCo HRv HC hneq hstr
      generalize w4.heap.size = fb at HS ⊢
      obtain ⟨n, rfl⟩ := Int.eq_ofNat_of_zero_le hcr.1
      rw [Int.toNat_natCast] at HD
      have ha0 := hcr.2.2
      have hn128 : n ≤ 128 := by omega
      go_loopw [26] (fun i wr => ∃ (k : Nat) (ls : List (List S51)) (a : Nat) (e : Int) (u : Value), k ≤ n ∧ ls.length = k ∧ a ≤ bs.length ∧ i = .int .i64 k ∧ Aside0 (D = fin bs (rowsA bs (n - k) ls a e)) ∧ Aside0 (St w1 g fb bs a e u ls (fun _ => True) wr)) (fun i _ => n - (intOf i).toNat)
      case atStart => exact ⟨0, [], a0, e0, _, by omega, rfl, ha0, rfl, HD, HS⟩
      case round =>
        clear HD HS hcr
        obtain ⟨k, ls, a, e, u, hk, hlk, ha, rfl, HD, HS⟩ := hrel
        by_cases hlt : k < n
        · have HCo := Aside0.mk (count_ g bs a 2000 e w1 _ HS.out.rd HS.out.below HBy.out ha (by omega))
          have hcr := countR_range bs a 2000 e HBy.out ha (by omega)
          have hok := countR_ok bs a 2000 e
          have hd := HD.out
          obtain ⟨d, hdd⟩ : ∃ d, n - k = d + 1 := ⟨n - k - 1, by omega⟩
          rw [hdd] at hd
          simp only [rowsA] at hd
          obtain ⟨⟨M, a1, e1⟩, hM⟩ : ∃ r, r = countR bs a 2000 e := ⟨_, rfl⟩
          rw [← hM] at HCo hcr hok hd
          clear hM HD
          simp only at HCo hcr hok hd
          obtain ⟨m, rfl⟩ := Int.eq_ofNat_of_zero_le hcr.1
          rw [Int.toNat_natCast] at hd
          have ha1 := hcr.2.2
          have hm2 : m ≤ 2000 := by omega
          obtain ⟨T, hT⟩ : ∃ T, T = spotsA bs m [] a1 := ⟨_, rfl⟩
          rw [← hT] at hd
          have HD := Aside0.mk hd
          have HT := Aside0.mk hT.symm
          clear hd hT hcr
          go_wp2_with (go_at_call 55; refine HCo.out.mono ?_; rintro e w6 ⟨rfl, hm⟩; have HS1 := Aside0.mk (HS.out.moved hm); clear hm)
          clear HS HCo
          replace HS1 := Aside0.mk (HS1.out.mono (ok' := fun k => some k ≠ (Value.slice none 0 0).ownBlock) (fun _ _ => by simp [Value.ownBlock]))
          have HO := Aside0.mk (Kd.R_nil k51 51 w6 w1.heap.size (fun k => k ≠ g))
          go_loopw [7, 30] (fun q i wi => ∃ (j : Nat) (l : List S51) (a : Nat) (v : Value), j ≤ m ∧ l.length = j ∧ a ≤ bs.length ∧ v = q ∧ i = .int .i64 j ∧ Aside0 (spotsA bs (m - j) l a = T) ∧ Aside0 (St w1 g fb bs a e1 u ls (fun k => some k ≠ v.ownBlock) wi) ∧ Aside0 (Kd.R k51 51 wi w1.heap.size (fun k => k ≠ g) v l)) (fun _ i _ => m - (intOf i).toNat)
          case atStart => exact ⟨0, [], a1, _, by omega, rfl, ha1, rfl, rfl, HT, HS1, HO⟩
          case round =>
            clear HT HS1 HO
            obtain ⟨j, l, a2, v, hj, hlj, ha2, rfl, rfl, HT, HS, HO⟩ := hrel
            by_cases hjm : j < m
            · have he1 : e1 = 0 := hok (by omega)
              subst he1
              have HSp := Aside0.mk (spotOf g bs a2 w1 _ HS.out.rd HS.out.below HBy.out ha2)
              have hle := spotR_le bs a2 HBy.out ha2
              have ht := HT.out
              obtain ⟨d2, hd2⟩ : ∃ d, m - j = d + 1 := ⟨m - j - 1, by omega⟩
              rw [hd2] at ht
              simp only [spotsA] at ht
              obtain ⟨⟨no, s, a3⟩, hs⟩ : ∃ r, r = spotR bs a2 := ⟨_, rfl⟩
              rw [← hs] at HSp hle ht
              clear hs HT
              simp only at hle ht
              by_cases hno : no = 0
              · rw [if_neg (by simpa using hno)] at ht
                subst hno
                have HT := Aside0.mk ht
                clear ht
                have hlb : (l.length + 1) * 24 ≤ 140737488355328 := by omega
                go_wp2_with (first | (go_at_call 56; refine HSp.out.mono ?_; rintro e w7 ⟨s', rfl, hs, a4, e4, hm, he⟩; obtain rfl := hs rfl; obtain ⟨rfl, rfl⟩ := he rfl; have HS1 := Aside0.mk ((HS.out.moved hm).alloc (cells s')); have HO1 := Aside0.mk (Kd.R_alloc (Kd.R_keep HO.out hm.keep (fun k hk => hk)) (cells s')); clear hm hs he) | (at_builtin; refine Hold.out ?_))
                constructor
                refine Kd.R_append k51 (w0 := w1) w1.heap.size rfl (.tmp 41) (.tmp 43) 53 51 (.agg #[(.int .i64 0), (.int .u16 0), (.int .u16 0), (.int .i64 0)]) 24 rfl Tryz.underlying53 info51_ rfl (by decide) (by omega) v l s' [.int .i64 s'.f0, .int .u16 s'.f1, .int .u16 s'.f2, .int .i64 s'.f3] (fun k => k ≠ g) (fun _ => False) rfl (show _ = Value.slice (some ⟨(w7.alloc (cells s')).heap.size, 0, none⟩) 1 1 by rw [show (w7.alloc (cells s')).heap.size = w7.heap.size + 1 by simp]; rfl) (k51_mkM _ _ _ s') (fun _ hk => hk.elim) (fun k hk => Nat.ne_of_gt (Nat.lt_of_lt_of_le HS1.out.ltg hk)) HO1.out HS1.out.below HS1.out.below.size hlb ?_
                intro v1 w8 ho hb hg hat
                have HS2 := Aside0.mk (HS1.out.grown (Kd.R_typed HO1.out) hg hat hb); have HO2 := Aside0.mk ho
                clear ho hb hg hat
                go_wp2_with fail
                go_roundw
                case rel => exact ⟨j + 1, l ++ [s'], a4, v1, by omega, by simp; omega, hle, rfl, by go_num, ⟨by rw [show m - (j + 1) = d2 by omega]; exact HT.out⟩, HS2, HO2⟩
                case measure => simp [intOf]; omega
              · rw [if_pos (by simpa using hno)] at ht
                have hDD : D = (no, []) := by rw [HD.out, ← ht]; simp [fin, hno]
                have HDD := Aside0.mk hDD
                have b4 : (no != 0) = true := by simpa using hno
                clear ht hDD
                go_wp2_with (go_at_call 56; refine HSp.out.mono ?_; rintro e w7 ⟨s', rfl, hs, a4, e4, hm, he⟩; have HS1 := Aside0.mk ((HS.out.moved hm).alloc (cells s')); have hm2 := hm.below; clear hm hs he; have BR3 := Aside0.mk (blk_below BR1.out HS1.out.below); have hr0 : (w7.alloc (cells s')).cell? ⟨w.heap.size, 0, none⟩ = some (.slice none 0 0) := (blk_cell BR3.out 0).trans rfl; have hf0 := blk_frozen BR3.out 0; simp only [cells] at hr0 hf0)
                all_goals try simp only [Exit.inBlock, Exit.then]
                exact gives BR3.out rfl (by rw [HDD.out]; rfl) (by rw [HDD.out]) (below_then HB1.out HB1.out.size HS1.out.below) (Nat.le_refl _)
            · obtain rfl : j = m := by omega
              subst hlj
              have ht := HT.out
              rw [Nat.sub_self] at ht
              simp only [spotsA] at ht
              have hd := HD.out
              rw [← ht, if_neg (by simp)] at hd
              simp only at hd
              have HD2 := Aside0.mk hd
              clear ht hd HT
              have hu0 : wr.cell? ⟨fb, 0, none⟩ = some u := (blk_cell HS.out.bf 0).trans rfl
              obtain ⟨Al, cl, rfl⟩ := Kd.R_slice HO.out
              have hlb : (ls.length + 1) * 24 ≤ 140737488355328 := by omega
              have hM1 := Aside0.mk (Kd.R_apart' HO.out (Kd.R_typed HS.out.own) (by decide))
              go_wp2_with (at_builtin; refine Hold.out ?_)
              constructor
              refine Kd.R_append kr (w0 := w1) w1.heap.size rfl (.tmp 47) (.tmp 49) 23 53 (.slice none 0 0) 24 rfl Tryz.underlying23 info53_ rfl (by decide) (by omega) u ls l [.slice Al l.length cl] (fun k => k ≠ g) (fun k => k ≠ g ∧ some k ≠ u.ownBlock) rfl rfl ⟨_, rfl, hM1.out⟩ (fun _ hk => hk) (fun k hk => Nat.ne_of_gt (Nat.lt_of_lt_of_le HS.out.ltg hk)) (Kd.R_mono HS.out.own (fun _ hk => hk.1)) HS.out.below HS.out.below.size hlb ?_
              intro u1 w8 ho hb hg hat
              obtain ⟨Au, cu, rfl⟩ := Kd.R_slice ho
              have htk := HS.out.took ho hb hg
              rw [show (ls ++ [l]).length = k + 1 by simp; omega] at htk
              have HS2 := Aside0.mk htk.2
              have hu8 : w8.cell? ⟨fb, 0, none⟩ = some u := (blk_cell htk.1 0).trans rfl
              have hf8 := blk_frozen htk.1 0
              clear ho hb hg hat htk hu0
              go_wp2_with fail
              go_roundw
              case rel => exact ⟨k + 1, ls ++ [l], a2, e1, _, by omega, by simp; omega, ha2, by go_num, ⟨by rw [show n - (k + 1) = d by omega]; exact HD2.out⟩, HS2⟩
              case measure => simp [intOf]; omega
        · obtain rfl : k = n := by omega
          subst hlk
          have hd := HD.out
          rw [Nat.sub_self] at hd
          simp only [rowsA] at hd
          obtain ⟨Au, cu, rfl⟩ := Kd.R_slice HS.out.own
          have HD2 := Aside0.mk hd
          clear hd HD
          have hu0 : wr.cell? ⟨fb, 0, none⟩ = some (.slice Au ls.length cu) := (blk_cell HS.out.bf 0).trans rfl
          have hmax := hl
          by_cases he : e = 0
          · subst he
            by_cases hlong : a < bs.length
            · have hDD : D = (3, []) := by rw [HD2.out]; simp [fin, hlong]
              have HDD := Aside0.mk hDD
              clear hDD HD2
              have hend : wire_Reader_End.f bs (a : Int) 0 = some (3, (a : Int), 0) := by
                unfold wire_Reader_End.f wire_Reader_Left.f
                have : wrap64 ((bs.length : Int) - (a : Int)) > 0 := by unfold wrap64; omega
                simp [this]
              go_wp2_with (go_at_call 57; refine (wire_Reader_End.calls g bs _ _ _ _ _ w1 wr HS.out.rd HS.out.below hend).mono ?_; rintro e w6 ⟨rfl, hi, hb2, hk⟩; have HS1 := Aside0.mk (HS.out.moved ⟨hi, hb2, hk⟩); clear hi hb2 hk hu0; have BR3 := Aside0.mk (blk_below BR1.out HS1.out.below); have hr0 : w6.cell? ⟨w.heap.size, 0, none⟩ = some (.slice none 0 0) := (blk_cell BR3.out 0).trans rfl; have hf0 := blk_frozen BR3.out 0)
              all_goals try simp only [Exit.inBlock, Exit.then]
              exact gives BR3.out rfl (by rw [HDD.out]; rfl) (by rw [HDD.out]) (below_then HB1.out HB1.out.size HS1.out.below) (Nat.le_refl _)
            · have hDD : D = (0, ls) := by rw [HD2.out]; simp [fin, hlong]
              have HDD := Aside0.mk hDD
              clear hDD HD2
              have hend : wire_Reader_End.f bs (a : Int) 0 = some (0, (a : Int), 0) := by
                unfold wire_Reader_End.f wire_Reader_Left.f
                have : ¬ wrap64 ((bs.length : Int) - (a : Int)) > 0 := by unfold wrap64; omega
                simp at this
                simp [this]
              go_wp2_with (go_at_call 57; refine (wire_Reader_End.calls g bs _ _ _ _ _ w1 wr HS.out.rd HS.out.below hend).mono ?_; rintro e w6 ⟨rfl, hi, hb2, hk⟩; have HS1 := Aside0.mk (HS.out.moved ⟨hi, hb2, hk⟩); clear hi hb2 hk hu0; have BR3 := Aside0.mk (blk_below BR1.out HS1.out.below); have hr0 : w6.cell? ⟨w.heap.size, 0, none⟩ = some (.slice none 0 0) := (blk_cell BR3.out 0).trans rfl; have hf0 := blk_frozen BR3.out 0; have hu1 : w6.cell? ⟨fb, 0, none⟩ = some (.slice Au ls.length cu) := (blk_cell HS1.out.bf 0).trans rfl)
              all_goals try simp only [Exit.inBlock, Exit.then]
              have hle := HB1.out.size
              refine bodyPost_ret (results_ct rfl _ _ w.heap.size 25 #[.slice Au ls.length cu] (0, 0) _ rfl (blk_put BR3.out 0 _ rfl) Tryz.underlying25 rfl (by kernel_rfl)) rfl ⟨_, by rw [HDD.out]; rfl, ?_, below_set (below_then HB1.out HB1.out.size HS1.out.below) (Nat.le_refl _)⟩
              rw [HDD.out]
              exact Kd.R_set (Kd.R_mono (Kd.R_bound (Kd.R_lower HS1.out.own hle)) (fun k hk => hk.2.1)) BR3.out (by decide) 0 _
          · have hDD : D = (e, []) := by rw [HD2.out]; simp [fin, he]
            have HDD := Aside0.mk hDD
            clear hDD HD2
            have b4 : (e != 0) = true := by simpa using he
            have hend : wire_Reader_End.f bs (a : Int) e = some (e, (a : Int), e) := by
              unfold wire_Reader_End.f
              rw [if_neg he]
            go_wp2_with (go_at_call 57; refine (wire_Reader_End.calls g bs _ _ _ _ _ w1 wr HS.out.rd HS.out.below hend).mono ?_; rintro e w6 ⟨rfl, hi, hb2, hk⟩; have HS1 := Aside0.mk (HS.out.moved ⟨hi, hb2, hk⟩); clear hi hb2 hk hu0; have BR3 := Aside0.mk (blk_below BR1.out HS1.out.below); have hr0 : w6.cell? ⟨w.heap.size, 0, none⟩ = some (.slice none 0 0) := (blk_cell BR3.out 0).trans rfl; have hf0 := blk_frozen BR3.out 0)
            all_goals try simp only [Exit.inBlock, Exit.then]
            exact gives BR3.out rfl (by rw [HDD.out]; rfl) (by rw [HDD.out]) (below_then HB1.out HB1.out.size HS1.out.below) (Nat.le_refl _)
    · replace HD := Aside0.mk (HD.out.trans (dec_form bs h4 hmag))
      refine (raw_some g A' c' bs 0 4 w1 w2 HC.out (by omega) hl).mono ?_
      rintro e w3 ⟨v, rfl, hm, hcl⟩
      obtain ⟨xs, hxs⟩ : ∃ xs, xs = (bs.drop 0).take 4 := ⟨_, rfl⟩
      have hl4 : xs.length = 4 := by rw [hxs]; simp; omega
      have hb4 : Bytes xs := fun c hc => HBy.out c (by rw [hxs] at hc; simpa using List.mem_of_mem_take hc)
      unfold Cloned at hcl
      rw [← hxs] at hcl
      obtain ⟨Av, cv, hv⟩ := Kd.R_slice hcl
      rw [hl4] at hv
      subst hv
      have hgl := blk_lt HC.out.blk
      have HRv := Aside0.mk (Kd.R_mono (ok' := fun k => k ≠ g) hcl (fun k hk => by omega))
      have HM := Aside0.mk hm
      have hneq : ((strOfNums xs).toList == [80, 84, 70, 1]) = false := by
        rw [magic_str xs hb4 hl4]
        exact decide_eq_false (fun h => hmag (by rw [hxs] at h; simpa using h))
      clear hm hcl hb4 hxs
      go_wp2_with (first | (go_at_call 54; refine (wire_Reader_Err.calls g bs _ _ _ _ _ w1 w3 HM.out.rd HM.out.below rfl).mono ?_; rintro e w4 ⟨rfl, hi, hb2, hk⟩; have HM1 := Aside0.mk (HM.out.trans ⟨hi, hb2, hk⟩); have hC4 := (Kd.R_reads' (Kd.R_keep HRv.out hk (fun k hk => hk))).2.2; rw [hl4] at hC4; have hstr := Kd.C_string (P := Tryz.prog) (src := 54) (dst := 9) (c := cv) Tryz.underlying54 Tryz.underlying5 Tryz.underlying9 hC4; clear hi hb2 hk hC4; have BR3 := Aside0.mk (blk_below BR1.out HM1.out.below); have hr0 : w4.cell? ⟨w.heap.size, 0, none⟩ = some (.slice none 0 0) := (blk_cell BR3.out 0).trans rfl; have hf0 := blk_frozen BR3.out 0))
      try simp only [Exit.inBlock, Exit.then]
      exact gives BR3.out rfl (by rw [HD.out]; rfl) (by rw [HD.out]) (below_then HB1.out HB1.out.size HM1.out.below) (Nat.le_refl _)
end Go.Proofs.YtjeaojolhdfpeaaGreat.Decode
