/- Relay's reference: Sealed. -/
import Derived.Test.YtcgajjaaiablkaaRHead2
import Derived.Test.YtcgajjaaiablkaaShaRefSum
namespace Go.Proofs.Ytcgajjaaiablkaa.RSealed
open Go.RowKit Go.Proofs.YtcgajjaaiablkaaW.PrintWords Go.Proofs.YtcgajjaaiablkaaW.PrintLast Go.Proofs.YtcgajjaaiablkaaW.PrintMore
open Go.Proofs.Ytcgajjaaiablkaa.PRelaySealed Go.Proofs.Ytcgajjaaiablkaa.Reader Go.Proofs.Ytcgajjaaiablkaa.RRaw Go.Proofs.Ytcgajjaaiablkaa.ShaP Go.Proofs.Ytcgajjaaiablkaa.ShaRound Go.Proofs.Ytcgajjaaiablkaa.ShaBehind Go.Proofs.Ytcgajjaaiablkaa.ShaEnd Go.Proofs.Ytcgajjaaiablkaa.RHd Go.Proofs.Ytcgajjaaiablkaa.RHead Go.Proofs.Ytcgajjaaiablkaa.RHead2
set_option linter.unusedVariables false
set_option linter.unusedSimpArgs false

/-- Bytes behind a parcel's mark, sum and digest. -/
def signed (b : List Int) : List Int := sumOf b ++ b
def seal_ (b : List Int) : List Int := ptr4 ++ pw (tot (signed b)) 8 ++ signed b
theorem signed_length (b : List Int) : (signed b).length = 32 + b.length := by unfold signed; rw [List.length_append]; show (dig _ 32).length + _ = _; rw [dig_length]
theorem seal_length (b : List Int) : (seal_ b).length = 44 + b.length := by unfold seal_; rw [List.length_append, List.length_append, pw_length, signed_length]; show 4 + 8 + _ = _; omega
theorem bytes_app {a b : List Int} (ha : Bytes a) (hb : Bytes b) : Bytes (a ++ b) := fun c hc => by
  rcases List.mem_append.mp hc with h | h
  · exact ha c h
  · exact hb c h
theorem pw_bytes (s : Int) : ∀ i, Bytes (pw s i)
  | 0 => fun c hc => by simp [pw] at hc
  | i + 1 => bytes_app (pw_bytes s i) (fun c hc => by rw [List.mem_singleton] at hc; omega)
theorem seal_bytes (b : List Int) (hb : Bytes b) : Bytes (seal_ b) := bytes_app (bytes_app ptr4_bytes (pw_bytes _ 8)) (bytes_app (sum_bytes b) hb)
set_option maxHeartbeats 8000000 in
set_option maxRecDepth 100000 in
theorem sealed_ (A : Option Addr) (c : Nat) (b : List Int) (w : World) (hC : Kd.C (Kd.int .u8) w A b.length b) (hc : b.length ≤ c) (hl : b.length ≤ 140737488355188) :
    Calls Try.prog 18 #[.slice A b.length c] w fun e w' => ∃ v, e = .returned v ∧ Kd.R (Kd.int .u8) 5 w' w.heap.size (fun _ => True) v (seal_ b) ∧ Below w.heap.size w w' := by
  have HSUM := Aside0.mk (ShaRefSum.rsum_calls b A c w hC hc (by omega))
  have HC := Aside0.mk hC
  have HCC := Aside0.mk hc
  have hsl := signed_length b
  obtain ⟨SB, hSB⟩ : ∃ s, s = signed b := ⟨_, rfl⟩
  have E0 : seal_ b = ptr4 ++ pw (tot SB) 8 ++ SB := by rw [hSB]; rfl
  rw [E0]
  rw [← hSB] at hsl
  clear E0
  unfold signed at hSB
  obtain ⟨S, hS⟩ : ∃ S, S = sumOf b := ⟨_, rfl⟩
  have hlS : S.length = 32 := by rw [hS]; exact dig_length _ 32
  rw [← hS] at hSB HSUM
  have hTO := total_f SB 0 (by omega) (by omega)
  rw [List.drop_zero, show ((0 : Nat) : Int) = 0 from rfl] at hTO
  obtain ⟨T, hT⟩ : ∃ T, T = tot SB := ⟨_, rfl⟩
  rw [← hT] at hTO ⊢
  obtain ⟨K, hK⟩ : ∃ K, portageref30_Total.f K SB 0 = some T := ⟨_, hTO⟩
  have HTO := Aside0.mk hK
  clear hTO hK
  have HSL := Aside0.mk hsl
  clear hS hC hc hT hsl
  go_enter Try.func18, Try.ntmps18
  go_upto_region 3 with (first
    | (go_at_call 31; refine HSUM.out.mono ?_; rintro e w5 ⟨rfl, hb5⟩; have HB5 := Aside0.mk hb5; clear hb5)
    | ((with_reducible refine gate_dst (N := 3) rfl ?_); refine box_event_ 56 (u8s (List.replicate 32 0)) rfl rfl (by first | (go_simp; done) | (go_simp; rfl)) ?_; intro g7 w6 hg hA hb; have HA7 := Aside0.mk hA; have HB6 := Aside0.mk hb; have HG7 := Aside0.mk hg; clear hg hA hb)
    | ((with_reducible refine gate_store (t := 56) (p := 3) rfl ?_); refine put_row rfl rfl rfl (g := g7) (u8s S) rfl rfl HA7.out (info56.trans (by rw [size_u8s, hlS])) (by rw [size_u8s, size_u8s, hlS]; rfl) (all_one _ _) ?_; intro w7 h1 h2; have HR9 := Aside0.mk h1; have HW9 := Aside0.mk h2; clear h1 h2))
  have HB7 := Aside0.mk (below_then HB5.out HB5.out.size (HW9.out.below HB6.out HG7.out))
  have HG := Aside0.mk (Nat.le_trans HB5.out.size HG7.out)
  have HLT := Aside0.mk (blk_lt HR9.out)
  clear HW9 HB6 HG7 HB5 HSUM HA7
  go_wp2_with fail
  go_loopw [4, 5] (fun t4 t5 wr => ∃ j : Nat, t5 = .int .i64 (j : Int) ∧ j ≤ 32 ∧ Aside0 (Kd.R (Kd.int .u8) 5 wr w.heap.size (fun k => w7.heap.size ≤ k) t4 (S.take j)) ∧ Aside0 (wr.heap[g7]? = some (.cells (u8s S) 56 (0, 0))) ∧ Aside0 (Below w.heap.size w wr) ∧ Aside0 (w7.heap.size ≤ wr.heap.size)) (fun _ i _ => 32 - (intOf i).toNat)
  case atStart => exact ⟨0, rfl, by omega, ⟨Kd.R_nil _ _ _ _ _⟩, HR9, HB7, ⟨Nat.le_refl _⟩⟩
  case round =>
    clear HB7 HR9
    obtain ⟨i, rfl, hi, HO, HM, HB, HZ⟩ := hrel
    by_cases hi32 : i < 32
    · have p3 : decide ((i : Int) < 32) = true := decide_eq_true (by omega)
      have p4 : decide (i < 32) = true := decide_eq_true (by omega)
      have hy : wr.cell? ⟨g7, i, none⟩ = some (.int .u8 (rd S (i : Int))) := (blk_cell HM.out i).trans (u8s_at S i (by omega))
      have q1 : (0 ≤ (i : Int)) = True := by simp
      have q2 : ((i : Int) < 32) = True := by simp; omega
      have q3 : (i < 32) = True := by simp; omega
      have hw : wrap64 ((i : Int) + 1) = ((i + 1 : Nat) : Int) := w64 i (by omega)
      have htl : (S.take i).length = i := by rw [List.length_take]; omega
      have HTK := Aside0.mk (take_rd S i (by omega))
      go_wp2_with (at_builtin; refine Kd.R_append (Kd.int .u8) (w0 := w) w.heap.size rfl (.tmp 13) (.tmp 17) 33 5 (.int .u8 0) 1 rfl Try.underlying33 info5_ rfl (by decide) (by omega) _ (S.take i) (rd S (i : Int)) [.int .u8 (rd S (i : Int))] (fun k => w7.heap.size ≤ k) (fun _ => False) rfl rfl rfl (fun _ hk => hk.elim) (fun _ hk => Nat.le_trans HZ.out hk) HO.out HB.out HB.out.size (by rw [htl]; omega) ?_; intro v1 w9 ho hb8 hg hat; have HO9 := Aside0.mk ho; have HB9 := Aside0.mk hb8; have HG9 := Aside0.mk hg; clear ho hb8 hg hat)
      go_roundw
      case rel => exact ⟨i + 1, by first | rfl | (rw [← hw]; rfl), by omega, ⟨by rw [HTK.out]; exact HO9.out⟩, ⟨(HG9.out.block g7 (blk_lt HM.out) (fun e => by
          have h1 := HO.out.1 g7 e.symm
          have h2 := HLT.out
          omega)).trans HM.out⟩, HB9, ⟨Nat.le_trans HZ.out HG9.out.size⟩⟩
      case measure => simp [intOf]; omega
    · obtain rfl : i = 32 := by omega
      have hS32 : S.take 32 = S := List.take_of_length_le (by omega)
      rw [hS32] at HO
      clear hi hi32 hS32 HM
      have HPB := Aside0.mk (putBytes_f S b (by omega))
      rw [← hSB] at HPB
      clear hSB
      go_upto_region 8 with (go_at_call 32; refine (portageref01_PutBytes.calls _ (fun k => w7.heap.size ≤ k) _ S A c b SB w _ HB.out HO.out (Kd.C_kept_came (Kd.heap_int _) HC.out HB.out (fun k hk => by have := HLT.out; have := HG.out; omega)) HCC.out HPB.out).mono ?_; rintro e w8 ⟨v8, rfl, hR8, hb8, -⟩; have HR8 := Aside0.mk (Kd.R_bound hR8); have HB8 := Aside0.mk hb8; clear hR8 hb8)
      go_upto_region 9 with ((with_reducible refine gate_dst (N := 22) rfl ?_); refine Kd.R_lit (Kd.int .u8) (w0 := w) w.heap.size 5 rfl (N := 22) rfl (xs := ptr4) (inner := [.int .u8 80, .int .u8 84, .int .u8 82, .int .u8 1]) (ok := fun k => w8.heap.size ≤ k) (okp := fun _ => False) (by first | (go_simp; done) | (go_simp; rfl)) (Reps.front (c := [.int .u8 80]) rfl rfl (Reps.front (c := [.int .u8 84]) rfl rfl (Reps.front (c := [.int .u8 82]) rfl rfl (Reps.front (c := [.int .u8 1]) rfl rfl (Reps.none _ _) rfl) rfl) rfl) rfl) (fun _ h => h.elim) (Nat.le_refl _) HB8.out HB8.out.size (Nat.le_of_ble_eq_true rfl) ?_; intro v9 w9 ho hb hg hat; have HR9 := Aside0.mk ho; have HB9 := Aside0.mk hb; have HG9 := Aside0.mk hg; clear ho hb hg hat)
      have HS9 := Aside0.mk (Kd.R_grown HR8.out HG9.out (fun k _ => by simp))
      obtain ⟨A8, c8, rfl⟩ := Kd.R_slice HS9.out
      have HC9 := Aside0.mk (Kd.R_reads' HS9.out).2
      have HPW := Aside0.mk (putWord_f ptr4 T (Nat.le_of_ble_eq_true rfl))
      have hZ9 := Aside0.mk HG9.out.size
      go_upto_region 10 with (first
        | (go_at_call 34; refine (portageref30_Total.calls _ A8 c8 SB _ T _ HC9.out.2 HC9.out.1 HTO.out).mono ?_; rintro e w10 ⟨rfl, ⟨⟨m, rfl⟩⟩⟩)
        | (go_at_call 33; refine (portageref01_PutWord.calls _ (fun k => w8.heap.size ≤ k) _ ptr4 T (ptr4 ++ pw T 8) w _ (pw_below_drewN HB9.out m) (Kd.R_drewN HR9.out m) HPW.out).mono ?_; rintro e w11 ⟨v11, rfl, hR11, hb11, hk11⟩; have HR11 := Aside0.mk (Kd.R_mono hR11 (ok' := fun k => w8.heap.size ≤ k) (fun k hk => hk.elim id (fun h => Nat.le_trans hZ9.out h))); have HB11 := Aside0.mk hb11; have HS11 := Aside0.mk (Kd.R_kept (Kd.R_drewN HS9.out m) hk11 (fun k hk h => Nat.lt_irrefl _ (Nat.lt_of_lt_of_le hk.2.2.1 h))); clear hR11 hb11 hk11))
      have HPC := Aside0.mk (putBytes_f (ptr4 ++ pw T 8) SB (by have hsl := HSL.out; rw [List.length_append, pw_length]; show 4 + 8 + _ ≤ _; omega))
      go_wp2_with (go_at_call 32; refine (portageref01_PutBytes.calls _ (fun k => w8.heap.size ≤ k) _ (ptr4 ++ pw T 8) A8 c8 SB (ptr4 ++ pw T 8 ++ SB) w _ HB11.out HR11.out (Kd.C_kept_own HS11.out (fun k hk h => Nat.lt_irrefl _ (Nat.lt_of_lt_of_le hk.2.2.1 h))) HC9.out.1 HPC.out).mono ?_; rintro e w12 ⟨v12, rfl, hR12, hb12, -⟩; have HR12 := Aside0.mk hR12; have HB12 := Aside0.mk hb12; clear hR12 hb12)
      go_ret
      exact ⟨_, rfl, Kd.R_mono HR12.out (fun _ _ => trivial), HB12.out⟩
end Go.Proofs.Ytcgajjaaiablkaa.RSealed
