/- Relay: Parcel, of an image and an output for which there is a parcel. -/
import Derived.Test.YtcgajjaaiablkaaRWriter
import Derived.Test.YtcgajjaaiablkaaROpen
import Derived.Lib.SlBytesConst
import Derived.Lib.SmallJoins
namespace Go.Proofs.Ytcgajjaaiablkaa.RParcel
open Go.RowKit Go.Proofs.YtcgajjaaiablkaaW.PrintWords Go.Proofs.YtcgajjaaiablkaaW.PrintLast Go.Proofs.YtcgajjaaiablkaaW.PrintMore
open Go.Proofs.Ytcgajjaaiablkaa.PRelayOne Go.Proofs.Ytcgajjaaiablkaa.Reader Go.Proofs.Ytcgajjaaiablkaa.ShaP Go.Proofs.Ytcgajjaaiablkaa.ShaRound Go.Proofs.Ytcgajjaaiablkaa.ShaBehind Go.Proofs.Ytcgajjaaiablkaa.ShaEnd Go.Proofs.Ytcgajjaaiablkaa.RHd Go.Proofs.Ytcgajjaaiablkaa.RHead Go.Proofs.Ytcgajjaaiablkaa.RHead2 Go.Proofs.Ytcgajjaaiablkaa.RSealed Go.Proofs.Ytcgajjaaiablkaa.RWriter
open Go.Proofs.Ytcgajjaaiablkaa.ROneP (nb tF rest Fits)
open Go.Proofs.Ytcgajjaaiablkaa.RUv (uv uv_length)
set_option linter.unusedVariables false
set_option linter.unusedSimpArgs false

theorem str_cell {W : World} {A : Option Addr} {n : Nat} {l : List ByteArray} (h : Kd.C Kd.string W A n l) (i : Nat) (hi : i < n) (x : ByteArray) (hx : l[i]? = some x) : ∃ ad, A = some ad ∧ W.cell? (ad.add i) = some (.string x) := by
  obtain ⟨ad, c, e, _, hK, hc0⟩ := Kd.C_get h (⟨#[]⟩ : ByteArray) (i : Int) (by omega) (by omega)
  have hc : ∀ j u, c[j]? = some u → W.cell? (ad.add (i * 1 + j)) = some u := hc0
  have hgx : l.getD (i : Int).toNat ⟨#[]⟩ = x := by simp [List.getD_eq_getElem?_getD, hx]
  rw [hgx] at hK
  have hKc : c = [.string x] := hK
  subst hKc
  exact ⟨ad, e, by have hq := hc 0 _ rfl; rwa [Nat.mul_one, Nat.add_zero] at hq⟩
theorem word_f (bs : List Int) (T : Int) (hl : bs.length + 8 ≤ 140737488355328) : wire_bytesOf_uint64.f 9 bs T 8 = some (bs ++ pw T 8) := by
  have h := RUv.word_go T (pw T) rfl (fun _ => rfl) bs hl (pw_length T) 8 0 rfl
  have h2 : wrap64 (8 - 1) = (8 : Int) - ((0 : Nat) : Int) - 1 := by unfold wrap64; omega
  unfold wire_bytesOf_uint64.f
  rw [h2]
  simpa [pw] using h
theorem flat_len (o : List ByteArray) (h : ∀ s ∈ o, s.size ≤ 4096) : (o.flatMap tF).length ≤ 4106 * o.length := by
  induction o with
  | nil => simp
  | cons s o ih =>
    have h1 := ih (fun t ht => h t (List.mem_cons_of_mem _ ht))
    have h2 := h s (List.mem_cons_self ..)
    have h3 := uv_length (n := s.size) (by omega)
    have h4 : (tF s).length ≤ 4106 := by unfold tF; rw [List.length_append, nb_length]; omega
    rw [List.flatMap_cons, List.length_append, List.length_cons]
    omega
theorem rest_len {i : List Int} {o : List ByteArray} (hf : Fits i o) : (rest i o).length ≤ 4500000000 := by
  obtain ⟨h1, h2, h3⟩ := hf
  have h4 := flat_len o h3
  have h5 := uv_length (n := i.length) (by omega)
  have h6 := uv_length (n := o.length) (by omega)
  unfold rest
  rw [List.length_append, List.length_append, List.length_append]
  omega
theorem C_mark (w : World) (fr : Nat × Nat) : Kd.C (Kd.int .u8) (w.alloc (.cells #[.int .u8 80, .int .u8 84, .int .u8 82, .int .u8 1] 5 fr)) (some ⟨w.heap.size, 0, none⟩) 4 ptr4 := by
  refine ⟨rfl, by decide, fun _ => ⟨_, rfl, fun j p hj => ⟨[.int .u8 p], rfl, rfl, fun i u hu => ?_⟩⟩⟩
  have hu' : i = 0 ∧ u = .int .u8 p := by
    cases i with
    | zero => simpa using hu.symm
    | succ i => simp at hu
  obtain ⟨rfl, rfl⟩ := hu'
  have h1 := World.cell?_alloc_mark w #[.int .u8 80, .int .u8 84, .int .u8 82, .int .u8 1] 5 fr (j * 1 + 0)
  have h2 : (#[Value.int .u8 80, .int .u8 84, .int .u8 82, .int .u8 1])[j * 1 + 0]? = some (.int .u8 p) := by
    have h3 : (#[Value.int .u8 80, .int .u8 84, .int .u8 82, .int .u8 1]) = (ptr4.map fun x => Value.int .u8 x).toArray := rfl
    rw [h3]
    simp [hj]
  rw [h2] at h1
  have e : (⟨w.heap.size, 0, none⟩ : Addr).add (j * 1 + 0) = ⟨w.heap.size, j * 1 + 0, none⟩ := by cases j <;> simp [Addr.add]
  show (w.alloc _).cell? ((⟨w.heap.size, 0, none⟩ : Addr).add (j * 1 + 0)) = _
  rw [e]
  exact h1
/-- What Parcel answers. -/
def Parceled (w : World) (r : List Int) (e : Ending) (w' : World) : Prop := ∃ v, e = .returned (.tuple #[v, .int .i64 0]) ∧ Kd.R (Kd.int .u8) 5 w' w.heap.size (fun _ => True) v r ∧ Below w.heap.size w w'
set_option maxHeartbeats 8000000 in
set_option maxRecDepth 100000 in
theorem parcel_ (A A2 : Option Addr) (c c2 : Nat) (i : List Int) (o : List ByteArray) (w : World) (hC : Kd.C (Kd.int .u8) w A i.length i) (hC2 : Kd.C Kd.string w A2 o.length o) (hf : Fits i o) :
    Calls Try.prog 21 #[.slice A i.length c, .slice A2 o.length c2] w (Parceled w (seal_ (rest i o))) := by
  have hrl := rest_len hf
  obtain ⟨hi, ho, hos⟩ := hf
  have HOS := Aside0.mk hos
  have HC := Aside0.mk hC
  have HC2 := Aside0.mk hC2
  have HRL := Aside0.mk hrl
  clear hC hC2 hrl
  have p1 : decide ((67108864 : Int) < (i.length : Int)) = false := decide_eq_false (by omega)
  have p2 : decide (67108864 < i.length) = false := decide_eq_false (by omega)
  have p3 : decide ((1048576 : Int) < (o.length : Int)) = false := decide_eq_false (by omega)
  have p4 : decide (1048576 < o.length) = false := decide_eq_false (by omega)
  have wz1 : IntKind.u64.wrap (i.length : Int) = (i.length : Int) := by rw [IntKind.wrap_u64]; omega
  have wz2 : IntKind.u64.wrap (o.length : Int) = (o.length : Int) := by rw [IntKind.wrap_u64]; omega
  have hu1 := uv_length (n := i.length) (by omega)
  have hu2 := uv_length (n := o.length) (by omega)
  obtain ⟨k1, hk1⟩ := RUv.digits_some i.length [] (by omega) (by simp)
  rw [List.nil_append] at hk1
  have HK1 := Aside0.mk hk1
  have HL1 : Aside0 ((uv i.length).length + i.length ≤ 140737488355328) := ⟨by omega⟩
  have hl2 : (uv i.length ++ i).length ≤ 140737488355000 := by rw [List.length_append]; omega
  obtain ⟨k2, hk2⟩ := RUv.digits_some o.length (uv i.length ++ i) (by omega) hl2
  have HK2 := Aside0.mk hk2
  have HFL : Aside0 (∀ j, j ≤ o.length → (uv i.length ++ i ++ uv o.length ++ (o.take j).flatMap tF).length ≤ 70368744177664) := ⟨fun j hj => by
    have h1 := flat_len (o.take j) (fun s hs => hos s (List.mem_of_mem_take hs))
    rw [List.length_take] at h1
    rw [List.length_append, List.length_append, List.length_append]
    omega⟩
  clear hk1 hk2 hu1 hu2 hl2 hos
  go_enter Try.func21, Try.ntmps21
  go_wp2_with fail
  go_loopw [24] (fun t wr => ∃ j : Nat, t = .int .i64 (j : Int) ∧ j ≤ o.length ∧ Aside0 (Below w.heap.size w wr)) (fun t _ => o.length - (intOf t).toNat)
  case atStart => exact ⟨0, rfl, by omega, ⟨Below.refl _ _⟩⟩
  case round =>
    obtain ⟨j, rfl, hj, HB⟩ := hrel
    by_cases hlt : j < o.length
    · obtain ⟨x, hx⟩ : ∃ x, o[j]? = some x := ⟨_, List.getElem?_eq_getElem hlt⟩
      have hxs := HOS.out x (List.mem_of_getElem? hx)
      obtain ⟨ad, rfl, hcell0⟩ := str_cell HC2.out j hlt x hx
      have hcell := pw_cell_below HB.out hcell0
      have q1 : decide ((j : Int) < (o.length : Int)) = true := decide_eq_true (by omega)
      have q2 : decide (j < o.length) = true := decide_eq_true hlt
      have q3 : (0 ≤ (j : Int)) = True := by simp
      have q4 : ((j : Int) < (o.length : Int)) = True := by simp; omega
      have q5 : decide ((4096 : Int) < (x.size : Int)) = false := decide_eq_false (by omega)
      have q6 : decide (4096 < x.size) = false := decide_eq_false (by omega)
      have hw : wrap64 ((j : Int) + 1) = ((j + 1 : Nat) : Int) := w64 j (by omega)
      clear hcell0 hx
      go_wp2
      go_roundw
      case rel => exact ⟨j + 1, by first | rfl | (rw [← hw]; rfl), by omega, HB⟩
      case measure => simp [intOf]; omega
    · obtain rfl : j = o.length := by omega
      have q1 : decide ((o.length : Int) < (o.length : Int)) = false := decide_eq_false (by omega)
      have q2 : decide (o.length < o.length) = false := decide_eq_false (by omega)
      clear hlt hj p1 p2 p3 p4
      go_upto_region 10 with (go_at_call 43; refine (newWriter w wr HB.out).mono ?_; rintro e w1 ⟨rfl, hw1, hb1⟩; have HW1 := Aside0.mk hw1; clear hw1 hb1)
      have HX1 := Aside0.mk HW1.out.ge
      generalize wr.heap.size = g8 at HW1 HX1 ⊢
      clear HB
      go_upto_region 11 with (go_at_call 44; refine (uint w _ g8 [] _ _ k1 HW1.out HK1.out).mono ?_; rintro e w2 ⟨rfl, hw, -⟩; have HW2 := Aside0.mk hw; clear hw)
      go_upto_region 12 with (go_at_call 45; refine (raw w _ g8 _ i A i.length c HW2.out (Kd.C_below HC.out HW2.out.below) HL1.out).mono ?_; rintro e w3 ⟨rfl, hw, -⟩; have HW3 := Aside0.mk hw; clear hw)
      go_upto_region 13 with (go_at_call 44; refine (uint w _ g8 _ _ _ k2 HW3.out HK2.out).mono ?_; rintro e w4 ⟨rfl, hw, -⟩; have HW4 := Aside0.mk hw; clear hw)
      clear HW1 HW2 HW3
      go_wp2_with fail
      go_loopw [48] (fun t wr => ∃ j : Nat, t = .int .i64 (j : Int) ∧ j ≤ o.length ∧ Aside0 (Wr w wr g8 (uv i.length ++ i ++ uv o.length ++ (o.take j).flatMap tF))) (fun t _ => o.length - (intOf t).toNat)
      case atStart => exact ⟨0, rfl, by omega, ⟨by simpa using HW4.out⟩⟩
      case round =>
        clear HW4
        obtain ⟨j, rfl, hj, HW⟩ := hrel
        by_cases hlt : j < o.length
        · obtain ⟨x, hx⟩ : ∃ x, o[j]? = some x := ⟨_, List.getElem?_eq_getElem hlt⟩
          have hxs := HOS.out x (List.mem_of_getElem? hx)
          have htk : (o.take (j + 1)).flatMap tF = (o.take j).flatMap tF ++ tF x := by rw [List.take_add_one, hx, List.flatMap_append]; simp
          have HTK := Aside0.mk htk
          obtain ⟨ad, rfl, hcell0⟩ := str_cell HC2.out j hlt x hx
          have hcell := pw_cell_below HW.out.below hcell0
          have q3 : (0 ≤ (j : Int)) = True := by simp
          have q4 : ((j : Int) < (o.length : Int)) = True := by simp; omega
          have q7 : decide ((j : Int) < (o.length : Int)) = true := decide_eq_true (by omega)
          have q8 : decide (j < o.length) = true := decide_eq_true hlt
          have hw : wrap64 ((j : Int) + 1) = ((j + 1 : Nat) : Int) := w64 j (by omega)
          have HXS := Aside0.mk hxs
          clear hcell0 hx htk q1 q2 hxs
          go_wp2_with (go_at_call 46; refine (text w _ g8 _ x HW.out HXS.out (HFL.out j hj)).mono ?_; rintro e w5 ⟨rfl, hw, -⟩; have HW5 := Aside0.mk hw; clear hw)
          go_roundw
          case rel => exact ⟨j + 1, by first | rfl | (rw [← hw]; rfl), by omega, ⟨by rw [HTK.out, ← List.append_assoc]; exact HW5.out⟩⟩
          case measure => simp [intOf]; omega
        · obtain rfl : j = o.length := by omega
          rw [List.take_length] at HW
          have hR : uv i.length ++ i ++ uv o.length ++ o.flatMap tF = rest i o := rfl
          rw [hR] at HW
          clear hR HFL HK1 HK2 HL1 wz1 wz2 hj hlt HC HC2 HOS
          obtain ⟨R, hR⟩ : ∃ R, R = rest i o := ⟨_, rfl⟩
          rw [← hR] at HW HRL
          have HRR := Aside0.mk hR
          clear hR
          have hrl := HRL.out
          obtain ⟨S, hS⟩ : ∃ S, S = sumOf R := ⟨_, rfl⟩
          have hlS : S.length = 32 := by rw [hS]; exact dig_length _ 32
          have HSS := Aside0.mk hS
          have HSUM := Aside0.mk (fun A c W (h1 : Kd.C (Kd.int .u8) W A R.length R) (h2 : R.length ≤ c) => ShaSum.sum_calls R A c W h1 h2 (by omega))
          rw [← hS] at HSUM
          have HDN := Aside0.mk (fun W (h : Wr w W g8 R) => done w W g8 R h (by omega))
          have HRB : Aside0 (S.length + R.length ≤ 140737488355328) := ⟨by omega⟩
          clear hS hrl q1 q2
          go_upto_region 19 with (first
            | (go_at_call 48; refine (HDN.out _ HW.out).mono ?_; rintro e w6 ⟨v57, rfl, hR6, hb6⟩; obtain ⟨A6, c6, rfl⟩ := Kd.R_slice hR6; have HC6 := Aside0.mk (Kd.R_reads' hR6).2; have HB6 := Aside0.mk hb6; clear hR6 hb6)
            | (go_at_call 47; refine (HSUM.out A6 c6 w6 HC6.out.2 HC6.out.1).mono ?_; rintro e w7 ⟨rfl, hb7⟩; have HB7 := Aside0.mk hb7; clear hb7)
            | ((with_reducible refine gate_dst (N := 11) rfl ?_); refine box_event_ 56 (u8s (List.replicate 32 0)) rfl rfl (by first | (go_simp; done) | (go_simp; rfl)) ?_; intro g11 w8 hg hA hb; have HA8 := Aside0.mk hA; have HB8 := Aside0.mk hb; have HG8 := Aside0.mk hg; clear hg hA hb)
            | ((with_reducible refine gate_store (t := 56) (p := 11) rfl ?_); refine put_row rfl rfl rfl (g := g11) (u8s S) rfl rfl HA8.out (info56.trans (by rw [size_u8s, hlS])) (by rw [size_u8s, size_u8s, hlS]; rfl) (all_one _ _) ?_; intro w9 h1 h2; have HR9 := Aside0.mk h1; have HW9 := Aside0.mk h2; clear h1 h2))
          have HBA := Aside0.mk (HW9.out.below (below_step (below_step HB6.out HB7.out) HB8.out) (Nat.le_trans (Nat.le_trans HB6.out.size HB7.out.size) HG8.out))
          have HWA := Aside0.mk (HW.out.step HBA.out)
          clear HB6 HB7 HA8 HB8 HG8 HW9 HC6 HSUM
          go_upto_region 20 with (go_at_call 43; refine (newWriter w9 w9 (Below.refl _ _)).mono ?_; rintro e w10 ⟨rfl, hw10, hb10⟩; have HS10 := Aside0.mk hw10; clear hw10 hb10)
          generalize hg12 : w9.heap.size = g12 at HS10 ⊢
          have HC11 := Aside0.mk (C_blk (blk_below HR9.out HS10.out.below) (by omega))
          rw [hlS] at HC11
          go_upto_region 21 with (go_at_call 45; refine (raw w9 _ g12 [] S (some ⟨g11, 0, none⟩) 32 32 HS10.out HC11.out (by simp)).mono ?_; rintro e w11 ⟨rfl, hw, -⟩; have HS11 := Aside0.mk hw; clear hw)
          rw [List.nil_append] at HS11
          go_upto_region 22 with (first
            | (go_at_call 48; refine (HDN.out _ (HWA.out.step HS11.out.below)).mono ?_; rintro e w12 ⟨v65, rfl, hR6, hb6⟩; obtain ⟨A12, c12, rfl⟩ := Kd.R_slice hR6; have HC12 := Aside0.mk (Kd.R_reads' hR6).2; have HS12 := Aside0.mk (HS11.out.step hb6); clear hR6 hb6)
            | (go_at_call 45; refine (raw w9 _ g12 S R A12 R.length c12 HS12.out HC12.out.2 HRB.out).mono ?_; rintro e w13 ⟨rfl, hw, -⟩; have HS13 := Aside0.mk hw; clear hw))
          have hSG : signed R = S ++ R := by unfold signed; rw [← HSS.out]
          rw [← hSG] at HS13
          have hsl := signed_length R
          have hrl := HRL.out
          have HSD := Aside0.mk (fun W (h : Wr w9 W g12 (signed R)) => done w9 W g12 (signed R) h (by omega))
          have HTF := Aside0.mk (sum_f (signed R) (by omega))
          obtain ⟨T, hT⟩ : ∃ T, T = tot (signed R) := ⟨_, rfl⟩
          rw [← hT] at HTF
          have HTT := Aside0.mk hT
          obtain ⟨SG, hSGe⟩ : ∃ SG, SG = signed R := ⟨_, rfl⟩
          rw [← hSGe] at HSD HTF HS13 hsl
          have HSE := Aside0.mk hSGe
          have HSL := Aside0.mk (show SG.length ≤ 4500000032 by omega)
          clear hT hSG hsl hrl hSGe HS10 HS11 HS12 HC11 HC12 HWA HDN
          go_upto_region 23 with (go_at_call 43; refine (newWriter w13 w13 (Below.refl _ _)).mono ?_; rintro e w14 ⟨rfl, hw14, hb14⟩; have HT14 := Aside0.mk hw14; clear hw14 hb14)
          generalize hg13 : w13.heap.size = g13 at HT14 ⊢
          have HT15 := Aside0.mk (HT14.out.alloc (.cells #[.int .u8 80, .int .u8 84, .int .u8 82, .int .u8 1] 5 (4, 5)))
          have HCM := Aside0.mk (C_mark w14 (4, 5))
          have kc : (convert 33 33 (.slice (some ⟨w14.heap.size, 0, none⟩) 4 4)).run Try.prog (w14.alloc (.cells #[.int .u8 80, .int .u8 84, .int .u8 82, .int .u8 1] 5)) = .ok (.slice (some ⟨w14.heap.size, 0, none⟩) 4 4) (w14.alloc (.cells #[.int .u8 80, .int .u8 84, .int .u8 82, .int .u8 1] 5 (4, 5))) := Lib.run_convert_bytes_const w14 33 5 #[.int .u8 80, .int .u8 84, .int .u8 82, .int .u8 1] 4 4 Try.underlying33 Try.underlying5
          go_upto_region 24 with (go_at_call 45; refine (raw w13 _ g13 [] ptr4 (some ⟨w14.heap.size, 0, none⟩) 4 4 HT15.out HCM.out (by simp)).mono ?_; rintro e w15 ⟨rfl, hw, -⟩; have HT16 := Aside0.mk hw; clear hw)
          rw [List.nil_append] at HT16
          have hp4 : ptr4.length = 4 := rfl
          have HWF := Aside0.mk (word_f ptr4 T (by omega))
          have hpl : (ptr4 ++ pw T 8).length = 12 := by rw [List.length_append, pw_length]; rfl
          have HPL := Aside0.mk hpl
          have hsl := HSL.out
          have HRB2 : Aside0 ((ptr4 ++ pw T 8).length + SG.length ≤ 140737488355328) := ⟨by omega⟩
          have HRB3 : Aside0 ((ptr4 ++ pw T 8 ++ SG).length ≤ 140737488355328) := ⟨by rw [List.length_append]; omega⟩
          obtain ⟨P4, hP4⟩ : ∃ P4, P4 = ptr4 := ⟨_, rfl⟩
          rw [← hP4] at HT16 HWF HRB2 HRB3
          have HP4 := Aside0.mk hP4
          clear hp4 hpl hsl hP4 HPL HT14 HT15 HCM kc
          go_upto_region 25 with (first
            | (go_at_call 48; refine (HSD.out _ (HS13.out.step HT16.out.below)).mono ?_; rintro e w16 ⟨v74, rfl, hR6, hb6⟩; obtain ⟨A16, c16, rfl⟩ := Kd.R_slice hR6; have HC16 := Aside0.mk (Kd.R_reads' hR6).2; have HT17 := Aside0.mk (HT16.out.step hb6); clear hR6 hb6)
            | (go_at_call 50; refine (PRelaySealed.relay_sum.calls _ A16 c16 SG T _ HC16.out.2 HC16.out.1 HTF.out).mono ?_; rintro e w17 ⟨rfl, hd17⟩; have HT18 := Aside0.mk (HT17.out.step hd17.below); clear hd17)
            | (go_at_call 49; refine (word w13 _ g13 P4 _ T 9 HT18.out HWF.out).mono ?_; rintro e w18 ⟨rfl, hw, -⟩; have HT19 := Aside0.mk hw; clear hw))
          go_upto_region 26 with (first
            | (go_at_call 48; refine (HSD.out _ (HS13.out.step HT19.out.below)).mono ?_; rintro e w20 ⟨v79, rfl, hR6, hb6⟩; obtain ⟨A20, c20, rfl⟩ := Kd.R_slice hR6; have HC20 := Aside0.mk (Kd.R_reads' hR6).2; have HT20 := Aside0.mk (HT19.out.step hb6); clear hR6 hb6)
            | (go_at_call 45; refine (raw w13 _ g13 _ SG A20 SG.length c20 HT20.out HC20.out.2 HRB2.out).mono ?_; rintro e w21 ⟨rfl, hw, -⟩; have HT21 := Aside0.mk hw; clear hw))
          go_wp2_with (go_at_call 48; refine (done w13 _ g13 _ HT21.out HRB3.out).mono ?_; rintro e w22 ⟨v82, rfl, hR6, hb6⟩; have HR22 := Aside0.mk hR6; have HT22 := Aside0.mk (HT21.out.step hb6); clear hR6 hb6)
          go_ret2
          have e1 : seal_ (rest i o) = P4 ++ pw T 8 ++ SG := by rw [← HRR.out, HP4.out, HTT.out, HSE.out]; rfl
          rw [e1]
          have hA : Below w.heap.size w w9 := below_then HW.out.below HW.out.below.size HBA.out
          have hB : Below w.heap.size w w13 := below_then hA hA.size HS13.out.below
          exact ⟨_, rfl, ROpen.int_down HR22.out hB.size, below_then hB hB.size HT22.out.below⟩
end Go.Proofs.Ytcgajjaaiablkaa.RParcel
