/- RelayOne, for all bytes: what Open takes is what Parcel answers for what Open answered; what it refuses has nothing beside it. -/
import Derived.Test.YtcgajjaaiablkaaRParcel
namespace Go.Proofs.Ytcgajjaaiablkaa.ROneLaw
open Go.RowKit Go.Proofs.YtcgajjaaiablkaaW.PrintWords Go.Proofs.YtcgajjaaiablkaaW.PrintLast Go.Proofs.YtcgajjaaiablkaaW.PrintMore
open Go.Proofs.Ytcgajjaaiablkaa.Reader Go.Proofs.Ytcgajjaaiablkaa.RHd Go.Proofs.Ytcgajjaaiablkaa.RSealed Go.Proofs.Ytcgajjaaiablkaa.ROpen
open Go.Proofs.Ytcgajjaaiablkaa.ROneP (nb tF rest Fits)
set_option linter.unusedVariables false
set_option linter.unusedSimpArgs false

set_option maxHeartbeats 8000000 in
set_option maxRecDepth 100000 in
theorem back_ (A A2 : Option Addr) (c c2 : Nat) (i : List Int) (o : List ByteArray) (w : World) (hC : Kd.C (Kd.int .u8) w A i.length i) (hc : i.length ≤ c) (hC2 : Kd.C Kd.string w A2 o.length o) (hc2 : o.length ≤ c2) (hf : Fits i o) (hb : Bytes (rest i o)) (ho : opn (seal_ (rest i o)) = (i, o, 0)) (k : Nat) (hk : PRelayOne.portagelaw30_fits.f k i o = some true) :
    Calls Try.prog 19 #[.slice A i.length c, .slice A2 o.length c2] w fun e w' => e = .returned (.bool true) ∧ Below w.heap.size w w' := by
  have HPA := Aside0.mk (RParcel.parcel_ A A2 c c2 i o w hC hC2 hf)
  have hrl := RParcel.rest_len hf
  have hsl := seal_length (rest i o)
  have HOP := Aside0.mk (fun A c W (h1 : Kd.C (Kd.int .u8) W A (seal_ (rest i o)).length (seal_ (rest i o))) (h2 : (seal_ (rest i o)).length ≤ c) => open_ A c (seal_ (rest i o)) W h1 h2 (by omega) (seal_bytes _ hb))
  rw [ho] at HOP
  have HC := Aside0.mk (fun W (h : Below w.heap.size w W) => Kd.C_below hC h)
  have HC2 := Aside0.mk (fun W (h : Below w.heap.size w W) => Kd.C_below hC2 h)
  have HFI := Aside0.mk hk
  have HCC := Aside0.mk (And.intro hc hc2)
  have HSB := Aside0.mk (same_f i (by have := hf.1; omega))
  have HST := Aside0.mk (sameT_f o (by have := hf.2.1; omega))
  clear hC hC2 hsl hrl hb ho hf hk hc hc2
  generalize seal_ (rest i o) = s at HPA HOP
  go_enter Try.func19, Try.ntmps19
  go_upto_region 2 with (go_at_call 21; refine HPA.out.mono ?_; rintro e w1 ⟨v5, rfl, hR, hb1⟩; obtain ⟨A5, c5, rfl⟩ := Kd.R_slice hR; have HR5 := Aside0.mk (Kd.R_reads' hR).2; have HB1 := Aside0.mk hb1; clear hR hb1)
  go_upto_region 4 with (go_at_call 35; refine (PRelayOne.portagelaw30_fits.calls k A c i A2 c2 o true _ (HC.out _ HB1.out) HCC.out.1 (HC2.out _ HB1.out) HCC.out.2 HFI.out).mono ?_; rintro e w2 ⟨rfl, hd2⟩; have HB2 := Aside0.mk (below_step HB1.out hd2.below); have HR6 := Aside0.mk (And.intro HR5.out.1 (Kd.C_below HR5.out.2 hd2.below)); clear hd2)
  go_upto_region 5 with (go_at_call 20; refine (HOP.out A5 c5 _ HR6.out.2 HR6.out.1).mono ?_; rintro e w3 ⟨v7, v8, rfl, hR7, hR8, hb3⟩; obtain ⟨A7, c7, rfl⟩ := Kd.R_slice hR7; obtain ⟨A8, c8, rfl⟩ := Kd.R_slice hR8; have HR7 := Aside0.mk (Kd.R_reads' hR7).2; have HR8 := Aside0.mk (Kd.R_reads' hR8).2; have HB3 := Aside0.mk (below_step HB2.out hb3); clear hR7 hR8 hb3)
  go_wp2_with (first
    | (go_at_call 9; refine (PRelaySealed.portagekit_Num.calls 0 0 _ rfl).mono ?_; rintro e w4 ⟨rfl, ⟨⟨m4, rfl⟩⟩⟩)
    | (go_at_call 16; refine (PRelaySealed.portageref0_SameBytes.calls _ A7 c7 i A c i true _ (Kd.C_drewN HR7.out.2 _) HR7.out.1 (Kd.C_drewN (HC.out _ HB3.out) _) HCC.out.1 HSB.out).mono ?_; rintro e w5 ⟨rfl, ⟨⟨m5, rfl⟩⟩⟩)
    | (go_at_call 10; refine (PRelaySealed.portageref0_SameTexts.calls _ A8 c8 o A2 c2 o true _ (Kd.C_drewN HR8.out.2 _) HR8.out.1 (Kd.C_drewN (HC2.out _ HB3.out) _) HCC.out.2 HST.out).mono ?_; rintro e w6 ⟨rfl, ⟨⟨m6, rfl⟩⟩⟩))
  go_ret
  exact ⟨rfl, pw_below_drewN HB3.out _⟩
def oAB : List ByteArray := [⟨#[97]⟩, ⟨#[]⟩]
theorem rest_ab : rest [] oAB = [0, 2, 1, 97, 0] := by
  have h0 : RUv.uv 0 = [0] := RUv.uv_small (by omega)
  have h1 : RUv.uv 1 = [1] := RUv.uv_small (by omega)
  have h2 : RUv.uv 2 = [2] := RUv.uv_small (by omega)
  show RUv.uv 0 ++ [] ++ RUv.uv 2 ++ ((RUv.uv 1 ++ nb ⟨#[97]⟩) ++ ((RUv.uv 0 ++ nb ⟨#[]⟩) ++ [])) = _
  rw [h0, h1, h2]
  rfl
theorem body_ab : body [0, 2, 1, 97, 0] 0 = ([], oAB, 0) := by kernel_rfl
theorem opn_ab : opn (seal_ (rest [] oAB)) = ([], oAB, 0) := by rw [ROneP.opn_seal, rest_ab, body_ab]
theorem bytes_ab : Bytes (rest [] oAB) := by rw [rest_ab]; unfold Bytes; decide
theorem fits_ab : Fits [] oAB := ⟨by simp, by show 2 ≤ 1048576; omega, fun s hs => by
  rcases List.mem_cons.1 hs with rfl | hs
  · show 1 ≤ 4096; omega
  · rcases List.mem_cons.1 hs with rfl | hs
    · show 0 ≤ 4096; omega
    · cases hs⟩
theorem kfits_ab : PRelayOne.portagelaw30_fits.f 5 [] oAB = some true := by kernel_rfl
set_option maxHeartbeats 8000000 in
set_option maxRecDepth 100000 in
theorem law (A : Option Addr) (c : Nat) (b : List Int) (w : World) (hC : Kd.C (Kd.int .u8) w A b.length b) (hc : b.length ≤ c) (hl : b.length ≤ 140737488351232) (hb : Bytes b) :
    Calls Try.prog 6 #[.slice A b.length c] w fun e w' => e = .returned (.bool true) ∧ Below w.heap.size w w' := by
  have HC := Aside0.mk (fun W (h : Below w.heap.size w W) => Kd.C_below hC h)
  have HCC := Aside0.mk hc
  have HBK := Aside0.mk (fun W A c (h : Kd.C Kd.string W A oAB.length oAB) (h2 : oAB.length ≤ c) => back_ none A 0 c [] oAB W (Kd.C_nil _ _) (Nat.le_refl _) h h2 fits_ab bytes_ab opn_ab 5 kfits_ab)
  have HOP := Aside0.mk (fun W (h : Below w.heap.size w W) => open_ A c b W (Kd.C_below hC h) hc (by omega) hb)
  have HSB := Aside0.mk (same_f b (by omega))
  have HER := Aside0.mk (ROneP.opn_er b)
  have HIV := Aside0.mk (fun h => ROneP.opn_inv hb h)
  obtain ⟨R, hR⟩ : ∃ R, R = opn b := ⟨_, rfl⟩
  rw [← hR] at HOP HER HIV
  clear hC hc hR
  have HT : Aside0 (Kd.C Kd.string (w.alloc (.cells #[.string ⟨#[97]⟩, .string ⟨#[]⟩] 9)) (some ⟨w.heap.size, 0, none⟩) 2 oAB) := ⟨by
    have h0 := blk_new w (.cells #[.string ⟨#[97]⟩, .string ⟨#[]⟩] 9)
    refine ⟨rfl, by decide, fun _ => ⟨_, rfl, fun j p hj => ⟨[.string p], rfl, rfl, fun i u hu => ?_⟩⟩⟩
    have hu' : i = 0 ∧ u = .string p := by
      cases i with
      | zero => simpa using hu.symm
      | succ i => simp at hu
    obtain ⟨rfl, rfl⟩ := hu'
    have h1 := blk_cell h0 (j * 1 + 0)
    have h2 : (#[Value.string ⟨#[97]⟩, .string ⟨#[]⟩])[j * 1 + 0]? = some (.string p) := by
      have h3 : (#[Value.string ⟨#[97]⟩, .string ⟨#[]⟩]) = (oAB.map fun x => Value.string x).toArray := rfl
      rw [h3]
      simp [hj]
    rw [h2] at h1
    have e : (⟨w.heap.size, 0, none⟩ : Addr).add (j * 1 + 0) = ⟨w.heap.size, j * 1 + 0, none⟩ := by cases j <;> simp [Addr.add]
    show (w.alloc _).cell? ((⟨w.heap.size, 0, none⟩ : Addr).add (j * 1 + 0)) = _
    rw [e]
    exact h1⟩
  have HB0 := Aside0.mk (below_alloc (Below.refl w.heap.size w) (.cells #[.string ⟨#[97]⟩, .string ⟨#[]⟩] 9))
  go_enter Try.func6, Try.ntmps6
  go_upto_region 3 with (go_at_call 19; refine (HBK.out _ (some ⟨w.heap.size, 0, none⟩) 2 HT.out (Nat.le_refl _)).mono ?_; rintro e w1 ⟨rfl, hb1⟩; have HB1 := Aside0.mk (below_step HB0.out hb1); clear hb1)
  go_upto_region 4 with (go_at_call 20; refine (HOP.out _ HB1.out).mono ?_; rintro e w2 ⟨v3, v4, rfl, hR3, hR4, hb2⟩; obtain ⟨A3, c3, rfl⟩ := Kd.R_slice hR3; obtain ⟨A4, c4, rfl⟩ := Kd.R_slice hR4; have HR3 := Aside0.mk (Kd.R_reads' hR3).2; have HR4 := Aside0.mk (Kd.R_reads' hR4).2; have HB2 := Aside0.mk (below_step HB1.out hb2); clear hR3 hR4 hb2)
  obtain ⟨e, he⟩ : ∃ e, e = R.2.2 := ⟨_, rfl⟩
  rw [← he] at HER HIV ⊢
  clear he
  by_cases h0 : e = 0
  · subst h0
    obtain ⟨h1, hf⟩ := HIV.out rfl
    have HPA := Aside0.mk (fun W (h1 : Kd.C (Kd.int .u8) W A3 R.1.length R.1) (h2 : Kd.C Kd.string W A4 R.2.1.length R.2.1) => RParcel.parcel_ A3 A4 c3 c4 R.1 R.2.1 W h1 h2 hf)
    rw [h1] at HPA
    clear h1 hf HER HIV
    go_upto_region 6 with (go_at_call 9; refine (PRelaySealed.portagekit_Num.calls 0 0 _ rfl).mono ?_; rintro e w4 ⟨rfl, ⟨⟨m4, rfl⟩⟩⟩)
    go_upto_region 7 with (go_at_call 21; refine (HPA.out _ (Kd.C_drewN HR3.out.2 _) (Kd.C_drewN HR4.out.2 _)).mono ?_; rintro e w5 ⟨v5, rfl, hR, hb5⟩; obtain ⟨A5, c5, rfl⟩ := Kd.R_slice hR; have HR5 := Aside0.mk (Kd.R_reads' hR).2; have HB5 := Aside0.mk (below_step (pw_below_drewN HB2.out _) hb5); clear hR hb5)
    go_wp2_with (first
      | (go_at_call 9; refine (PRelaySealed.portagekit_Num.calls 0 0 _ rfl).mono ?_; rintro e w6 ⟨rfl, ⟨⟨m6, rfl⟩⟩⟩)
      | (go_at_call 16; refine (PRelaySealed.portageref0_SameBytes.calls _ A c b A5 c5 b true _ (Kd.C_drewN (HC.out _ HB5.out) _) HCC.out (Kd.C_drewN HR5.out.2 _) HR5.out.1 HSB.out).mono ?_; rintro e w7 ⟨rfl, ⟨⟨m7, rfl⟩⟩⟩))
    go_ret
    exact ⟨rfl, pw_below_drewN HB5.out _⟩
  · obtain ⟨h1, h2, h3, h4⟩ := HER.out h0
    have p1 : (e != 0) = true := by simpa using h0
    have p2 : decide ((2 : Int) ≤ e) = true := decide_eq_true h3
    have p3 : decide (e ≤ (5 : Int)) = true := decide_eq_true h4
    have HN := Aside0.mk (show PRelaySealed.portagekit_Num.f e = some e from rfl)
    rw [h1, h2]
    clear h1 h2 HER HIV
    go_wp2_with (go_at_call 9; refine (PRelaySealed.portagekit_Num.calls e e _ HN.out).mono ?_; rintro e' w4 ⟨rfl, ⟨⟨m4, rfl⟩⟩⟩)
    go_ret
    exact ⟨rfl, pw_below_drewN HB2.out _⟩
end Go.Proofs.Ytcgajjaaiablkaa.ROneLaw
