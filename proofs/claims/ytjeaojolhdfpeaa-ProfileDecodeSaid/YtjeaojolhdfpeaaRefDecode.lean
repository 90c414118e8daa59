/- The reference's Decode, walked: it comes to the same 'dec'. -/
import Derived.Test.YtjeaojolhdfpeaaRefSpot2
import Derived.Test.YtjeaojolhdfpeaaDecode2
namespace Go.Proofs.Ytjeaojolhdfpeaa.RefDecode
open Go.RowKit Go.Proofs.YtjeaojolhdfpeaaW.PrintWords Go.Proofs.YtjeaojolhdfpeaaW.PrintLast Go.Proofs.YtjeaojolhdfpeaaW.PrintMore
open Go.Proofs.Ytjeaojolhdfpeaa.PProfileDecode Go.Proofs.Ytjeaojolhdfpeaa.Reader Go.Proofs.Ytjeaojolhdfpeaa.Methods Go.Proofs.Ytjeaojolhdfpeaa.SpotOf Go.Proofs.Ytjeaojolhdfpeaa.Decode Go.Proofs.Ytjeaojolhdfpeaa.RefReader
set_option linter.unusedVariables false
set_option linter.unusedSimpArgs false

theorem rowsA_err (bs : List Int) (e : Int) (he : e ≠ 0) : ∀ (n : Nat) (ls : List (List S28)) (a : Nat), (rowsA bs n ls a e).1 = 0 ∧ (rowsA bs n ls a e).2.2.2 = e := by
  intro n
  induction n with
  | zero => intro ls a; exact ⟨rfl, rfl⟩
  | succ n ih =>
    intro ls a
    have hc : countR bs a 2000 e = (0, a, e) := by
      unfold countR rdNum
      rw [if_pos he]
    simp only [rowsA, hc]
    exact ih _ _
theorem fin_err (bs : List Int) (e : Int) (he : e ≠ 0) (n : Nat) (ls : List (List S28)) (a : Nat) : fin bs (rowsA bs n ls a e) = (e, []) := by
  obtain ⟨h1, h2⟩ := rowsA_err bs e he n ls a
  unfold fin
  rw [if_neg (by simp [h1]), if_pos (by rw [h2]; exact he), h2]
/-- What the reference decodes, from behind the mark on. -/
theorem dec_drop (bs : List Int) (h1 : ¬ bs.length < 4) (h2 : bs.take 4 = magic) : dec bs = fin (bs.drop 4) (rowsA (bs.drop 4) (countR (bs.drop 4) 0 128 0).1.toNat [] (countR (bs.drop 4) 0 128 0).2.1 (countR (bs.drop 4) 0 128 0).2.2) := by
  rw [dec_fin bs h1 h2]
  have hc := countR_drop bs 4 0 128 0 (by omega)
  have c1 : (countR bs 4 128 0).1 = (countR (bs.drop 4) 0 128 0).1 := by rw [show (4 : Nat) = 0 + 4 from rfl, ← hc]; rfl
  have c2 : (countR bs 4 128 0).2.1 = (countR (bs.drop 4) 0 128 0).2.1 + 4 := by rw [show (countR bs 4 128 0) = countR bs (0 + 4) 128 0 from rfl, ← hc]; rfl
  have c3 : (countR bs 4 128 0).2.2 = (countR (bs.drop 4) 0 128 0).2.2 := by rw [show (4 : Nat) = 0 + 4 from rfl, ← hc]; rfl
  rw [c1, c2, c3, ← rowsA_drop bs 4 (by omega)]
  generalize rowsA (bs.drop 4) _ _ _ _ = T
  unfold fin sh4
  have h3 : T.2.2.1 + 4 < bs.length ↔ T.2.2.1 < (bs.drop 4).length := by rw [List.length_drop]; omega
  simp only [h3]

/-- What the reference's Decode holds in its loops. -/
structure St (w1 : World) (g fb : Nat) (A : Option Addr) (c : Nat) (bs : List Int) (a : Nat) (e : Int) (u : Value) (ls : List (List S28)) (ok : Nat → Prop) (W : World) : Prop where
  rd : Rr w1 W W g A c bs a e
  bf : W.heap[fb]? = some (.cells #[u] 24 (0, 0))
  own : Kd.R kr 77 W w1.heap.size (fun k => k ≠ g ∧ ok k) u ls
  ge : w1.heap.size ≤ fb
namespace St
variable {w1 W W1 : World} {g fb c : Nat} {A : Option Addr} {bs : List Int} {a a' : Nat} {e e' : Int} {u v v1 : Value} {ls : List (List S28)} {ok ok' : Nat → Prop}
theorem ne (h : St w1 g fb A c bs a e u ls ok W) : fb ≠ g := fun he => blk_ne h.bf h.rd.blk (by decide) he
theorem moved (h : St w1 g fb A c bs a e u ls ok W) (hm : Rr w1 W W1 g A c bs a' e') : St w1 g fb A c bs a' e' u ls ok W1 :=
  ⟨hm.from_, hm.stands h.bf h.ne, Kd.R_keep h.own hm.keep (fun k hk => hk.1), h.ge⟩
theorem alloc (h : St w1 g fb A c bs a e u ls ok W) (o : Obj) : St w1 g fb A c bs a e u ls ok (W.alloc o) := ⟨(h.rd.alloc o).from_, blk_alloc h.bf o, Kd.R_alloc h.own o, h.ge⟩
theorem mono (h : St w1 g fb A c bs a e u ls ok W) (hk : ∀ k, ok k → ok' k) : St w1 g fb A c bs a e u ls ok' W := ⟨h.rd, h.bf, Kd.R_mono h.own (fun _ h => ⟨h.1, hk _ h.2⟩), h.ge⟩
theorem rd_grown (h : Rr w1 W W g A c bs a e) {row : Option Nat} (hg : W.grownBy W1 row) (hne : some g ≠ row) (hb : Below w1.heap.size w1 W1) : Rr w1 W1 W1 g A c bs a e := ⟨blk_grown h.blk hg hne, h.ge, h.row, h.room, hb, KeepBut.refl _ _ _⟩
/-- The row of spots v grew. -/
theorem grown (h : St w1 g fb A c bs a e u ls (fun k => some k ≠ v.ownBlock) W) (hv : ∀ k, v.ownBlock = some k → ∃ cells, W.heap[k]? = some (.cells cells 28 (0, 0))) (hg : W.grownBy W1 v.ownBlock)
    (hat : v1.ownBlock = v.ownBlock ∨ ∃ b, v1.ownBlock = some b ∧ W.heap.size ≤ b) (hb : Below w1.heap.size w1 W1) : St w1 g fb A c bs a e u ls (fun k => some k ≠ v1.ownBlock) W1 := by
  have hne : ∀ {k t : Nat} {cells : Array Value}, W.heap[k]? = some (.cells cells t (0, 0)) → t ≠ 28 → some k ≠ v.ownBlock := fun hc ht he => by
    obtain ⟨cells, h2⟩ := hv _ he.symm
    exact blk_ne hc h2 ht rfl
  exact ⟨rd_grown h.rd hg (hne h.rd.blk (by decide)) hb, blk_grown h.bf hg (hne h.bf (by decide)), Kd.R_after h.own hg hat, h.ge⟩
theorem took {u1 : Value} {ls1 : List (List S28)} (h : St w1 g fb A c bs a e u ls ok W) (ho : Kd.R kr 77 W1 w1.heap.size (fun k => k ≠ g) u1 ls1) (hb : Below w1.heap.size w1 W1) (hg : W.grownBy W1 u.ownBlock) :
    W1.heap[fb]? = some (.cells #[u] 24 (0, 0)) ∧ St w1 g fb A c bs a e u1 ls1 (fun _ => True) (W1.setCell ⟨fb, 0, none⟩ u1) := by
  have hty := Kd.R_typed h.own
  have hne : ∀ {k t : Nat} {cells : Array Value}, W.heap[k]? = some (.cells cells t (0, 0)) → t ≠ 77 → some k ≠ u.ownBlock := fun hc ht he => by
    obtain ⟨cells, h2⟩ := hty _ he.symm
    exact blk_ne hc h2 ht rfl
  have hbf := blk_grown h.bf hg (hne h.bf (by decide))
  have hr := rd_grown h.rd hg (hne h.rd.blk (by decide)) hb
  exact ⟨hbf, ⟨⟨blk_far hr.blk (p := ⟨fb, 0, none⟩) (fun he => h.ne he.symm) u1, hr.ge, hr.row, hr.room, below_set hb h.ge, KeepBut.refl _ _ _⟩, blk_put hbf 0 _ rfl, Kd.R_mono (Kd.R_set ho hbf (by decide) 0 u1) (fun _ hk => ⟨hk, trivial⟩), h.ge⟩⟩
theorem ltg (h : St w1 g fb A c bs a e u ls ok W) : g < W.heap.size := blk_lt h.rd.blk
end St
theorem givesR {w W : World} {k : Nat} {x : Value} {D : Int × List (List S28)} {tmps : Array Value} (hk : W.heap[k]? = some (.cells #[x] 24 (0, 0))) (ht : tmps.getD 2 undef = .pointer (some ⟨k, 0, none⟩)) (hr : tmps.getD 3 undef = .int .i64 D.1) (hD : D.2 = [])
    (hb : Below w.heap.size w W) (hw : w.heap.size ≤ k) : bodyPost Try.prog Try.f20 (Decoded w D) Exit.ret { tmps := tmps, defers := [] } (W.setCell ⟨k, 0, none⟩ (.slice none 0 0)) := by
  refine bodyPost_ret (results_ct rfl _ _ k 24 #[.slice none 0 0] (0, 0) _ ht (blk_put hk 0 _ rfl) Try.underlying24 rfl (by kernel_rfl)) rfl ⟨.slice none 0 0, by rw [hr], by rw [hD]; exact Kd.R_nil _ _ _ _ _, below_set hb hw⟩
/-- The first four bytes. -/
theorem take_four (bs : List Int) (h : ¬ bs.length < 4) : bs.take 4 = [rd bs 0, rd bs 1, rd bs 2, rd bs 3] := by
  match bs, h with
  | a :: b :: c :: d :: l, _ => rfl
  | [], h => simp at h
  | [_], h => simp at h
  | [_, _], h => simp at h
  | [_, _, _], h => simp at h
theorem not_magic (bs : List Int) (h : ¬ bs.length < 4) : decide (¬ bs.take 4 = magic) = (decide (rd bs 0 ≠ 80) || (decide (rd bs 1 ≠ 84) || (decide (rd bs 2 ≠ 70) || decide (rd bs 3 ≠ 1)))) := by
  rw [take_four bs h]
  by_cases h0 : rd bs 0 = 80 <;> by_cases h1 : rd bs 1 = 84 <;> by_cases h2 : rd bs 2 = 70 <;> by_cases h3 : rd bs 3 = 1 <;> simp [magic, h0, h1, h2, h3]

set_option maxHeartbeats 8000000 in
set_option maxRecDepth 100000 in
theorem decode (A : Option Addr) (c : Nat) (bs : List Int) (w : World) (hr : Kd.C (Kd.int .u8) w A bs.length bs) (hc : bs.length ≤ c) (hl : bs.length ≤ 140737488355328) (hb : Bytes bs) :
    Calls Try.prog 20 #[.slice A bs.length c] w (Decoded w (dec bs)) := by
  obtain ⟨D, hD⟩ : ∃ D, D = dec bs := ⟨_, rfl⟩
  rw [← hD]
  have HD := Aside0.mk hD
  clear hD
  have HR := Aside0.mk hr
  have HBy := Aside0.mk hb
  have HB := Aside0.mk (below_alloc (below_alloc (Below.refl w.heap.size w) (.cells #[.slice none 0 0] 24)) (.cells #[.slice none 0 0] 24))
  have BR : Aside0 (((w.alloc (.cells #[.slice none 0 0] 24)).alloc (.cells #[.slice none 0 0] 24)).heap[w.heap.size]? = some (.cells #[.slice none 0 0] 24 (0, 0))) := ⟨blk_alloc (blk_new _ _) _⟩
  have BN : Aside0 (((w.alloc (.cells #[.slice none 0 0] 24)).alloc (.cells #[.slice none 0 0] 24)).heap[w.heap.size + 1]? = some (.cells #[.slice none 0 0] 24 (0, 0))) := ⟨by have := blk_new (w.alloc (.cells #[.slice none 0 0] 24)) (.cells #[.slice none 0 0] 24); simpa using this⟩
  clear hr hb
  have p0 : ((bs.length : Int) < 4) = (bs.length < 4) := by rw [eq_iff_iff]; omega
  by_cases h4 : bs.length < 4
  · have hdd := HD.out
    rw [dec_short bs h4] at hdd
    have HDD := Aside0.mk hdd
    clear hdd p0
    have p1 : decide ((bs.length : Int) < 4) = true := by simp; omega
    go_enter Try.func20, Try.ntmps20
    go_upto_if 18 with fail
    generalize (w.alloc (.cells #[.slice none 0 0] 24)).alloc (.cells #[.slice none 0 0] 24) = W0 at HB BR BN ⊢
    have r0 : W0.cell? ⟨w.heap.size, 0, none⟩ = some (.slice none 0 0) := (blk_cell BR.out 0).trans rfl
    have n0 : W0.cell? ⟨w.heap.size + 1, 0, none⟩ = some (.slice none 0 0) := (blk_cell BN.out 0).trans rfl
    have rf := blk_frozen BR.out 0
    go_wp2
    try simp only [Exit.inBlock, Exit.then]
    exact givesR BR.out rfl (by rw [HDD.out]; rfl) (by rw [HDD.out]) HB.out (Nat.le_refl _)
  · clear p0
    have p1 : decide ((bs.length : Int) < 4) = false := by simp; omega
    have p2 : decide (bs.length < 4) = false := by simp; omega
    obtain ⟨ad, rfl, c0⟩ := Kd.at_int HR.out 0 (by omega) (by omega)
    obtain ⟨_, e1, c1⟩ := Kd.at_int HR.out 1 (by omega) (by omega)
    obtain ⟨_, e2, c2⟩ := Kd.at_int HR.out 2 (by omega) (by omega)
    obtain ⟨_, e3, c3⟩ := Kd.at_int HR.out 3 (by omega) (by omega)
    cases e1; cases e2; cases e3
    have C0 := Aside0.mk (show w.cell? ad = some (.int .u8 (rd bs 0)) by simpa [Addr.add] using c0)
    have C1 := Aside0.mk (show w.cell? ⟨ad.block, ad.off + 1, none⟩ = some (.int .u8 (rd bs 1)) by simpa [Addr.add] using c1)
    have C2 := Aside0.mk (show w.cell? ⟨ad.block, ad.off + 2, none⟩ = some (.int .u8 (rd bs 2)) by simpa [Addr.add] using c2)
    have C3 := Aside0.mk (show w.cell? ⟨ad.block, ad.off + 3, none⟩ = some (.int .u8 (rd bs 3)) by simpa [Addr.add] using c3)
    clear c0 c1 c2 c3
    go_enter Try.func20, Try.ntmps20
    go_upto_region 4 with fail
    generalize (w.alloc (.cells #[.slice none 0 0] 24)).alloc (.cells #[.slice none 0 0] 24) = W0 at HB BR BN ⊢
    obtain ⟨mg, hmg⟩ : ∃ mg, mg = decide (¬ bs.take 4 = magic) := ⟨_, rfl⟩
    have HMg := Aside0.mk hmg
    clear hmg
    go_cut [41] (fun t wx => t = .bool mg ∧ wx = W0)
    case first =>
      have k0 := pw_cell_below HB.out C0.out
      have k1 := pw_cell_below HB.out C1.out
      have k2 := pw_cell_below HB.out C2.out
      have k3 := pw_cell_below HB.out C3.out
      have hm := not_magic bs h4
      have l1 : (1 : Int) < (bs.length : Int) := by omega
      have l2 : (2 : Int) < (bs.length : Int) := by omega
      have l3 : (3 : Int) < (bs.length : Int) := by omega
      have l0 : (0 : Int) < (bs.length : Int) := by omega
      have hmg := HMg.out.trans hm
      clear hm
      generalize rd bs 0 = x0 at k0 hmg
      generalize rd bs 1 = x1 at k1 hmg
      generalize rd bs 2 = x2 at k2 hmg
      generalize rd bs 3 = x3 at k3 hmg
      replace hmg := Aside0.mk hmg
      by_cases h0 : x0 = 80
      · have q0 : (x0 != 80) = false := by simpa using h0
        by_cases h1 : x1 = 84
        · have q1 : (x1 != 84) = false := by simpa using h1
          by_cases h2 : x2 = 70
          · have q2 : (x2 != 70) = false := by simpa using h2
            by_cases h3 : x3 = 1
            · have q3 : (x3 != 1) = false := by simpa using h3
              go_wp2
              go_meet
              exact ⟨by rw [hmg.out]; simp [h0, h1, h2, h3], rfl⟩
            · have q3 : (x3 != 1) = true := by simpa using h3
              go_wp2
              go_meet
              exact ⟨by rw [hmg.out]; simp [h0, h1, h2, h3], rfl⟩
          · have q2 : (x2 != 70) = true := by simpa using h2
            go_wp2
            go_meet
            exact ⟨by rw [hmg.out]; simp [h0, h1, h2], rfl⟩
        · have q1 : (x1 != 84) = true := by simpa using h1
          go_wp2
          go_meet
          exact ⟨by rw [hmg.out]; simp [h0, h1], rfl⟩
      · have q0 : (x0 != 80) = true := by simpa using h0
        go_wp2
        go_meet
        exact ⟨by rw [hmg.out]; simp [h0], rfl⟩
    obtain ⟨rfl, hw⟩ := hcut
    replace hw := hw.symm
    subst hw
    clear C0 C1 C2 C3
    cases mg
    rotate_left
    · have hmag : ¬ bs.take 4 = magic := of_decide_eq_true HMg.out.symm
      have hdd := HD.out
      rw [dec_form bs h4 hmag] at hdd
      have HDD := Aside0.mk hdd
      clear hdd hmag
      have r0 : W0.cell? ⟨w.heap.size, 0, none⟩ = some (.slice none 0 0) := (blk_cell BR.out 0).trans rfl
      have n0 : W0.cell? ⟨w.heap.size + 1, 0, none⟩ = some (.slice none 0 0) := (blk_cell BN.out 0).trans rfl
      have rf := blk_frozen BR.out 0
      go_wp2
      try simp only [Exit.inBlock, Exit.then]
      exact givesR BR.out rfl (by rw [HDD.out]; rfl) (by rw [HDD.out]) HB.out (Nat.le_refl _)
    · have hmag : bs.take 4 = magic := by
        have := HMg.out
        by_cases h : bs.take 4 = magic
        · exact h
        · rw [decide_eq_true h] at this; cases this
      replace HD := Aside0.mk (HD.out.trans (dec_drop bs h4 hmag))
      clear HMg hmag
      obtain ⟨i5, hi5, _, hs5, _⟩ := info_parts info5
      have HS0 := Aside0.mk (cut_from (P := Try.prog) 32 5 .i64 Try.underlying32 hi5 1 hs5 (some ad) bs.length c 4 (by omega) (by omega))
      have HC := Aside0.mk (Kd.C_drop (m := 4) (Kd.C_below HR.out HB.out) (by omega) hc)
      obtain ⟨bt, hbt⟩ : ∃ bt, bt = bs.drop 4 := ⟨_, rfl⟩
      have hlt : bt.length = bs.length - 4 := by rw [hbt, List.length_drop]
      rw [← hbt] at HC HD
      have HBt : Aside0 (Bytes bt) := ⟨fun c hc => HBy.out c (by rw [hbt] at hc; exact List.mem_of_mem_drop hc)⟩
      obtain ⟨A4, hA4⟩ : ∃ A4, A4 = (if c = 4 then some ad else (some ad).map (·.add (4 * 1))) := ⟨_, rfl⟩
      have HC4 : Aside0 ((Kd.int .u8).C W0 A4 bt.length bt) := ⟨by rw [hA4]; exact HC.out⟩
      have hs4 : ∀ W : World, (Instr.slice 32 (.slice (some ad) bs.length c) (some (.int .i64 4)) none none).run Try.prog W = .ok (.slice A4 bt.length (c - 4)) W := by
        rw [hA4, hlt]; exact HS0.out
      have HRd := Aside0.mk (read A4 (c - 4) bt W0 HC4.out (by omega) (by omega))
      have hl2 : bt.length ≤ 140737488355328 := by omega
      clear hA4 HC HS0 HC4 hbt HBy HR hi5 hs5 hlt p1 p2
      go_upto_region 7 with (go_at_call 54; refine HRd.out.mono ?_; rintro e w2 ⟨w1, g, A', c', rfl, hb1, hrr⟩; have HB1 := Aside0.mk (below_step HB.out hb1); have BR1 := Aside0.mk (blk_below BR.out hb1); have BN1 := Aside0.mk (blk_below BN.out hb1); have HRr := Aside0.mk hrr; clear hb1 hrr)
      clear hs4 HRd HB BR BN h4
      have HCo := Aside0.mk (count g A' c' bt 0 128 0 w1 w2 w2 HRr.out HBt.out (by omega) hl2 (by omega))
      have hcr := countR_range bt 0 128 0 HBt.out (by omega) (by omega)
      obtain ⟨⟨N, a0, e0⟩, hN⟩ : ∃ r, r = countR bt 0 128 0 := ⟨_, rfl⟩
      rw [← hN] at HCo hcr HD
      clear hN
      simp only at HCo hcr HD
      go_upto_region 9 with (go_at_call 55; refine HCo.out.mono ?_; rintro e w3 ⟨rfl, hm⟩; have HM := Aside0.mk (hm.alloc (.cells #[.slice none 0 0] 24)).from_; have BF : Aside0 ((w3.alloc (.cells #[.slice none 0 0] 24)).heap[w3.heap.size]? = some (.cells #[.slice none 0 0] 24 (0, 0))) := ⟨blk_new _ _⟩; have hge3 := hm.below.size; clear hm)
      have HS : Aside0 (St w1 g w3.heap.size A' c' bt a0 e0 (.slice none 0 0) [] (fun _ => True) (w3.alloc (.cells #[.slice none 0 0] 24))) := ⟨⟨HM.out, BF.out, Kd.R_nil _ _ _ _ _, hge3⟩⟩
      clear HM BF HCo HRr hge3
      generalize w3.alloc (.cells #[.slice none 0 0] 24) = W3 at HS ⊢
      generalize w3.heap.size = fb at HS ⊢
      obtain ⟨n, rfl⟩ := Int.eq_ofNat_of_zero_le hcr.1
      rw [Int.toNat_natCast] at HD
      have ha0 := hcr.2.2
      have hn128 : n ≤ 128 := by omega
      clear hcr
      go_wp2_with fail
      go_loopw [8] (fun i wr => ∃ (k : Nat) (ls : List (List S28)) (a : Nat) (e : Int) (u : Value), k ≤ n ∧ ls.length = k ∧ a ≤ bt.length ∧ i = .int .i64 k ∧ Aside0 (D = fin bt (rowsA bt (n - k) ls a e)) ∧ Aside0 (St w1 g fb A' c' bt a e u ls (fun _ => True) wr)) (fun i _ => n - (intOf i).toNat)
      case atStart => exact ⟨0, [], a0, e0, _, by omega, rfl, ha0, rfl, HD, HS⟩
      case round =>
        clear HD HS
        obtain ⟨k, ls, a, e, u, hk, hlk, ha, rfl, HD, HS⟩ := hrel
        obtain ⟨k0, k1, k2, _, _⟩ := HS.out.rd.look
        by_cases hgo : k < n ∧ e = 0
        · obtain ⟨hlt, he⟩ := hgo
          subst he
          have HCo := Aside0.mk (count g A' c' bt a 2000 0 w1 wr wr HS.out.rd HBt.out ha hl2 (by omega))
          have hcr := countR_range bt a 2000 0 HBt.out ha (by omega)
          have hok := countR_ok bt a 2000 0
          have hd := HD.out
          obtain ⟨d, hdd⟩ : ∃ d, n - k = d + 1 := ⟨n - k - 1, by omega⟩
          rw [hdd] at hd
          simp only [rowsA] at hd
          obtain ⟨⟨M, a1, e1⟩, hM⟩ : ∃ r, r = countR bt a 2000 0 := ⟨_, rfl⟩
          rw [← hM] at HCo hcr hok hd
          clear hM HD
          simp only at HCo hcr hok hd
          obtain ⟨m, rfl⟩ := Int.eq_ofNat_of_zero_le hcr.1
          rw [Int.toNat_natCast] at hd
          have ha1 := hcr.2.2
          have hm2 : m ≤ 2000 := by omega
          obtain ⟨T, hT⟩ : ∃ T, T = spotsA bt m [] a1 := ⟨_, rfl⟩
          rw [← hT] at hd
          have HD := Aside0.mk hd
          have HT := Aside0.mk hT.symm
          clear hd hT hcr
          go_wp2_with (go_at_call 55; refine HCo.out.mono ?_; rintro e w6 ⟨rfl, hm⟩; have HS1 := Aside0.mk (HS.out.moved hm); clear hm k0 k1 k2)
          clear HS HCo
          replace HS1 := Aside0.mk (HS1.out.mono (ok' := fun k => some k ≠ (Value.slice none 0 0).ownBlock) (fun _ _ => by simp [Value.ownBlock]))
          have HO := Aside0.mk (Kd.R_nil k28 28 w6 w1.heap.size (fun k => k ≠ g))
          go_loopw [10, 11] (fun q i wi => ∃ (j : Nat) (l : List S28) (a : Nat) (v : Value), j ≤ m ∧ l.length = j ∧ a ≤ bt.length ∧ v = q ∧ i = .int .i64 j ∧ Aside0 (spotsA bt (m - j) l a = T) ∧ Aside0 (St w1 g fb A' c' bt a e1 u ls (fun k => some k ≠ v.ownBlock) wi) ∧ Aside0 (Kd.R k28 28 wi w1.heap.size (fun k => k ≠ g) v l)) (fun _ i _ => m - (intOf i).toNat)
          case atStart => exact ⟨0, [], a1, _, by omega, rfl, ha1, rfl, rfl, HT, HS1, HO⟩
          case round =>
            clear HT HS1 HO
            obtain ⟨j, l, a2, v, hj, hlj, ha2, rfl, rfl, HT, HS, HO⟩ := hrel
            obtain ⟨k0, k1, k2, _, _⟩ := HS.out.rd.look
            by_cases hjm : j < m
            · have he1 : e1 = 0 := hok (by omega)
              subst he1
              have HSp := Aside0.mk (spot g A' c' bt a2 w1 wr HS.out.rd HBt.out ha2 hl2)
              have hle := spotR_le bt a2 HBt.out ha2
              have ht := HT.out
              obtain ⟨d2, hd2⟩ : ∃ d, m - j = d + 1 := ⟨m - j - 1, by omega⟩
              rw [hd2] at ht
              simp only [spotsA] at ht
              obtain ⟨⟨no, s, a3⟩, hs⟩ : ∃ r, r = spotR bt a2 := ⟨_, rfl⟩
              rw [← hs] at HSp hle ht
              clear hs HT hok
              simp only at hle ht
              by_cases hno : no = 0
              · rw [if_neg (by simpa using hno)] at ht
                subst hno
                have HT := Aside0.mk ht
                clear ht
                have hlb : (l.length + 1) * 24 ≤ 140737488355328 := by omega
                go_wp2_with (first | (go_at_call 56; refine HSp.out.mono ?_; rintro e w7 ⟨s', rfl, hs, a4, e4, hm, he⟩; obtain rfl := hs rfl; obtain ⟨rfl, rfl⟩ := he rfl; have HS1 := Aside0.mk ((HS.out.moved hm).alloc (cells s')); have HO1 := Aside0.mk (Kd.R_alloc (Kd.R_keep HO.out hm.keep (fun k hk => hk)) (cells s')); clear hm hs he k0 k1 k2) | (at_builtin; refine Hold.out ?_))
                constructor
                refine Kd.R_append k28 (w0 := w1) w1.heap.size rfl (.tmp 83) (.tmp 85) 77 28 (.agg #[(.int .i64 0), (.int .u16 0), (.int .u16 0), (.int .i64 0)]) 24 rfl Try.underlying77 info28_ rfl (by decide) (by omega) v l s' [.int .i64 s'.f0, .int .u16 s'.f1, .int .u16 s'.f2, .int .i64 s'.f3] (fun k => k ≠ g) (fun _ => False) rfl (show _ = Value.slice (some ⟨(w7.alloc (cells s')).heap.size, 0, none⟩) 1 1 by rw [show (w7.alloc (cells s')).heap.size = w7.heap.size + 1 by simp]; rfl) (k28_mkM _ _ _ s') (fun _ hk => hk.elim) (fun k hk => Nat.ne_of_gt (Nat.lt_of_lt_of_le HS1.out.ltg hk)) HO1.out HS1.out.rd.below HS1.out.rd.below.size hlb ?_
                intro v1 w8 ho hb hg hat
                have HS2 := Aside0.mk (HS1.out.grown (Kd.R_typed HO1.out) hg hat hb)
                have HO2 := Aside0.mk ho
                clear ho hb hg hat
                go_wp2_with fail
                go_roundw
                case rel => exact ⟨j + 1, l ++ [s'], a4, v1, by omega, by simp; omega, hle, rfl, by go_num, ⟨by rw [show m - (j + 1) = d2 by omega]; exact HT.out⟩, HS2, HO2⟩
                case measure => simp [intOf]; omega
              · rw [if_pos (by simpa using hno)] at ht
                have hDD : D = (no, []) := by rw [HD.out, ← ht]; simp [fin, hno]
                have HDD := Aside0.mk hDD
                have b4 : (no != 0) = true := by simpa using hno
                clear ht hDD
                go_wp2_with (go_at_call 56; refine HSp.out.mono ?_; rintro e w7 ⟨s', rfl, hs, a4, e4, hm, he⟩; have HS1 := Aside0.mk ((HS.out.moved hm).alloc (cells s')); have hm2 := hm.below; clear hm hs he k0 k1 k2; have BR3 := Aside0.mk (blk_below BR1.out HS1.out.rd.below); have BN3 := Aside0.mk (blk_below BN1.out HS1.out.rd.below); have hr0 : (w7.alloc (cells s')).cell? ⟨w.heap.size, 0, none⟩ = some (.slice none 0 0) := (blk_cell BR3.out 0).trans rfl; have hn0 : (w7.alloc (cells s')).cell? ⟨w.heap.size + 1, 0, none⟩ = some (.slice none 0 0) := (blk_cell BN3.out 0).trans rfl; have hf0 := blk_frozen BR3.out 0; simp only [cells] at hr0 hf0 hn0)
                all_goals try simp only [Exit.inBlock, Exit.then]
                exact givesR BR3.out rfl (by rw [HDD.out]; rfl) (by rw [HDD.out]) (below_then HB1.out HB1.out.size HS1.out.rd.below) (Nat.le_refl _)
            · obtain rfl : j = m := by omega
              subst hlj
              have ht := HT.out
              rw [Nat.sub_self] at ht
              simp only [spotsA] at ht
              have hd := HD.out
              rw [← ht, if_neg (by simp)] at hd
              simp only at hd
              have HD2 := Aside0.mk hd
              clear ht hd HT hok
              have hu0 : wr.cell? ⟨fb, 0, none⟩ = some u := (blk_cell HS.out.bf 0).trans rfl
              obtain ⟨Al, cl, rfl⟩ := Kd.R_slice HO.out
              have hlb : (ls.length + 1) * 24 ≤ 140737488355328 := by omega
              have hM1 := Aside0.mk (Kd.R_apart' HO.out (Kd.R_typed HS.out.own) (by decide))
              go_wp2_with (at_builtin; refine Hold.out ?_)
              constructor
              refine Kd.R_append kr (w0 := w1) w1.heap.size rfl (.tmp 88) (.tmp 90) 22 77 (.slice none 0 0) 24 rfl Try.underlying22 info77_ rfl (by decide) (by omega) u ls l [.slice Al l.length cl] (fun k => k ≠ g) (fun k => k ≠ g ∧ some k ≠ u.ownBlock) rfl rfl ⟨_, rfl, hM1.out⟩ (fun _ hk => hk) (fun k hk => Nat.ne_of_gt (Nat.lt_of_lt_of_le HS.out.ltg hk)) (Kd.R_mono HS.out.own (fun _ hk => hk.1)) HS.out.rd.below HS.out.rd.below.size hlb ?_
              intro u1 w8 ho hb hg hat
              obtain ⟨Au, cu, rfl⟩ := Kd.R_slice ho
              have htk := HS.out.took ho hb hg
              rw [show (ls ++ [l]).length = k + 1 by simp; omega] at htk
              have HS2 := Aside0.mk htk.2
              have hu8 : w8.cell? ⟨fb, 0, none⟩ = some u := (blk_cell htk.1 0).trans rfl
              have hf8 := blk_frozen htk.1 0
              clear ho hb hg hat htk hu0 k0 k1 k2
              go_wp2_with fail
              go_roundw
              case rel => exact ⟨k + 1, ls ++ [l], a2, e1, _, by omega, by simp; omega, ha2, by go_num, ⟨by rw [show n - (k + 1) = d by omega]; exact HD2.out⟩, HS2⟩
              case measure => simp [intOf]; omega
        · have hdd : D = if e ≠ 0 then (e, []) else if a < bt.length then (3, []) else (0, ls) := by
            rw [HD.out]
            by_cases he : e = 0
            · have hkn : k = n := by
                rcases Nat.lt_or_ge k n with h | h
                · exact absurd ⟨h, he⟩ hgo
                · omega
              rw [hkn, Nat.sub_self]
              simp [rowsA, fin, he]
            · rw [fin_err bt e he, if_pos he]
          have HDD := Aside0.mk hdd
          clear hdd HD
          obtain ⟨tg, htg⟩ : ∃ tg : Bool, tg = (decide (k < n) && (e == 0)) := ⟨_, rfl⟩
          have htf : tg = false := by
            rw [htg]
            rcases Nat.lt_or_ge k n with h | h
            · have : ¬ e = 0 := fun he => hgo ⟨h, he⟩
              simp [this]
            · simp [Nat.not_lt.2 h]
          have HE := Aside0.mk (end_ g A' c' bt a e w1 wr wr HS.out.rd)
          have hER : endR bt a e = D.1 := by
            rw [HDD.out]
            unfold endR
            by_cases he : e = 0
            · rw [if_pos he, if_neg (show ¬ e ≠ 0 by simpa using he)]
              by_cases h3 : a < bt.length
              · rw [if_pos h3, if_pos h3]
              · rw [if_neg h3, if_neg h3]
            · rw [if_neg he, if_pos he]
          rw [hER] at HE
          clear hER htg htf
          subst hlk
          obtain ⟨Au, cu, rfl⟩ := Kd.R_slice HS.out.own
          by_cases hz : D.1 = 0
          · have hD2 : D.2 = ls := by
              have h := HDD.out
              by_cases he : e = 0
              · rw [if_neg (show ¬ e ≠ 0 by simpa using he)] at h
                by_cases h3 : a < bt.length
                · rw [if_pos h3] at h; rw [h] at hz; cases hz
                · rw [if_neg h3] at h; rw [h]
              · rw [if_pos he] at h; rw [h] at hz; exact absurd hz he
            have HD2 := Aside0.mk hD2
            clear hD2 HDD
            have HZ := Aside0.mk hz
            rw [hz] at HE
            clear hz
            rcases Nat.lt_or_ge ls.length n with hkn | hkn
            · have he : (e == 0) = false := by
                rw [beq_eq_false_iff_ne]
                exact fun he => hgo ⟨hkn, he⟩
              clear hgo
              go_wp2_with (go_at_call 57; refine HE.out.mono ?_; rintro e w6 ⟨rfl, e2, hm⟩; have HS1 := Aside0.mk (HS.out.moved hm); clear hm k0 k1 k2; have BR3 := Aside0.mk (blk_below BR1.out HS1.out.rd.below); have BN3 := Aside0.mk (blk_below BN1.out HS1.out.rd.below); have hr0 : w6.cell? ⟨w.heap.size, 0, none⟩ = some (.slice none 0 0) := (blk_cell BR3.out 0).trans rfl; have hn0 : w6.cell? ⟨w.heap.size + 1, 0, none⟩ = some (.slice none 0 0) := (blk_cell BN3.out 0).trans rfl; have hf0 := blk_frozen BR3.out 0; have hu1 : w6.cell? ⟨fb, 0, none⟩ = some (.slice Au ls.length cu) := (blk_cell HS1.out.bf 0).trans rfl)
              all_goals try simp only [Exit.inBlock, Exit.then]
              have hle := HB1.out.size
              refine bodyPost_ret (results_ct rfl _ _ w.heap.size 24 #[.slice Au ls.length cu] (0, 0) _ rfl (blk_put BR3.out 0 _ rfl) Try.underlying24 rfl (by kernel_rfl)) rfl ⟨_, by rw [HZ.out]; rfl, ?_, below_set (below_then HB1.out HB1.out.size HS1.out.rd.below) (Nat.le_refl _)⟩
              rw [HD2.out]
              exact Kd.R_set (Kd.R_mono (Kd.R_bound (Kd.R_lower HS1.out.own hle)) (fun k hk => hk.2.1)) BR3.out (by decide) 0 _
            · have hkn2 : ¬ ls.length < n := by omega
              clear hgo
              go_wp2_with (go_at_call 57; refine HE.out.mono ?_; rintro e w6 ⟨rfl, e2, hm⟩; have HS1 := Aside0.mk (HS.out.moved hm); clear hm k0 k1 k2; have BR3 := Aside0.mk (blk_below BR1.out HS1.out.rd.below); have BN3 := Aside0.mk (blk_below BN1.out HS1.out.rd.below); have hr0 : w6.cell? ⟨w.heap.size, 0, none⟩ = some (.slice none 0 0) := (blk_cell BR3.out 0).trans rfl; have hn0 : w6.cell? ⟨w.heap.size + 1, 0, none⟩ = some (.slice none 0 0) := (blk_cell BN3.out 0).trans rfl; have hf0 := blk_frozen BR3.out 0; have hu1 : w6.cell? ⟨fb, 0, none⟩ = some (.slice Au ls.length cu) := (blk_cell HS1.out.bf 0).trans rfl)
              all_goals try simp only [Exit.inBlock, Exit.then]
              have hle := HB1.out.size
              refine bodyPost_ret (results_ct rfl _ _ w.heap.size 24 #[.slice Au ls.length cu] (0, 0) _ rfl (blk_put BR3.out 0 _ rfl) Try.underlying24 rfl (by kernel_rfl)) rfl ⟨_, by rw [HZ.out]; rfl, ?_, below_set (below_then HB1.out HB1.out.size HS1.out.rd.below) (Nat.le_refl _)⟩
              rw [HD2.out]
              exact Kd.R_set (Kd.R_mono (Kd.R_bound (Kd.R_lower HS1.out.own hle)) (fun k hk => hk.2.1)) BR3.out (by decide) 0 _
          · have hD2 : D.2 = [] := by
              have h := HDD.out
              by_cases he : e = 0
              · rw [if_neg (show ¬ e ≠ 0 by simpa using he)] at h
                by_cases h3 : a < bt.length
                · rw [if_pos h3] at h; rw [h]
                · rw [if_neg h3] at h; rw [h] at hz; exact absurd rfl hz
              · rw [if_pos he] at h; rw [h]
            have HD2 := Aside0.mk hD2
            clear hD2 HDD
            have b4 : (D.1 != 0) = true := by simpa using hz
            clear hz
            rcases Nat.lt_or_ge ls.length n with hkn | hkn
            · have he : (e == 0) = false := by
                rw [beq_eq_false_iff_ne]
                exact fun he => hgo ⟨hkn, he⟩
              clear hgo
              go_wp2_with (go_at_call 57; refine HE.out.mono ?_; rintro e w6 ⟨rfl, e2, hm⟩; have HS1 := Aside0.mk (HS.out.moved hm); clear hm k0 k1 k2; have BR3 := Aside0.mk (blk_below BR1.out HS1.out.rd.below); have BN3 := Aside0.mk (blk_below BN1.out HS1.out.rd.below); have hr0 : w6.cell? ⟨w.heap.size, 0, none⟩ = some (.slice none 0 0) := (blk_cell BR3.out 0).trans rfl; have hn0 : w6.cell? ⟨w.heap.size + 1, 0, none⟩ = some (.slice none 0 0) := (blk_cell BN3.out 0).trans rfl; have hf0 := blk_frozen BR3.out 0)
              all_goals try simp only [Exit.inBlock, Exit.then]
              exact givesR BR3.out rfl rfl HD2.out (below_then HB1.out HB1.out.size HS1.out.rd.below) (Nat.le_refl _)
            · have hkn2 : ¬ ls.length < n := by omega
              clear hgo
              go_wp2_with (go_at_call 57; refine HE.out.mono ?_; rintro e w6 ⟨rfl, e2, hm⟩; have HS1 := Aside0.mk (HS.out.moved hm); clear hm k0 k1 k2; have BR3 := Aside0.mk (blk_below BR1.out HS1.out.rd.below); have BN3 := Aside0.mk (blk_below BN1.out HS1.out.rd.below); have hr0 : w6.cell? ⟨w.heap.size, 0, none⟩ = some (.slice none 0 0) := (blk_cell BR3.out 0).trans rfl; have hn0 : w6.cell? ⟨w.heap.size + 1, 0, none⟩ = some (.slice none 0 0) := (blk_cell BN3.out 0).trans rfl; have hf0 := blk_frozen BR3.out 0)
              all_goals try simp only [Exit.inBlock, Exit.then]
              exact givesR BR3.out rfl rfl HD2.out (below_then HB1.out HB1.out.size HS1.out.rd.below) (Nat.le_refl _)
end Go.Proofs.Ytjeaojolhdfpeaa.RefDecode
