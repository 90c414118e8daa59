/- digest: bytes laid behind those that are there. -/
import Derived.Test.YtcgajjaaiablkaaShaBehind
import Derived.Test.YtcgajjaaiablkaaShaM
namespace Go.Proofs.Ytcgajjaaiablkaa.ShaWrite
open Go.RowKit Go.Proofs.YtcgajjaaiablkaaW.PrintWords Go.Proofs.YtcgajjaaiablkaaW.PrintLast Go.Proofs.YtcgajjaaiablkaaW.PrintMore
open Go.Proofs.Ytcgajjaaiablkaa.PRelaySealed Go.Proofs.Ytcgajjaaiablkaa.ShaP Go.Proofs.Ytcgajjaaiablkaa.ShaM Go.Proofs.Ytcgajjaaiablkaa.ShaRound Go.Proofs.Ytcgajjaaiablkaa.ShaBehind
set_option linter.unusedVariables false
set_option linter.unusedSimpArgs false

section
variable {P : Program} {ops : Array Oper} {rest : List Oper} {o : Oper} {a : Act} {Q : Exit → Act → World → Prop} {W : World}
theorem storeVar_mid (g off : Nat) (ty t : TypeId) (cur cs : List Value) (hg : W.heap[g]? = some (.cells cur.toArray t (0, 0))) (hi : (P.info? ty).map (·.size) = some cs.length) (hfit : off + cs.length ≤ cur.length) (h1 : ∀ v ∈ cs, v.oneCell' = true) :
    (storeVar ty ⟨g, off, none⟩ (.agg cs.toArray)).run P W = .ok () (W.setRow g (splice cur off cs).toArray) := by
  have := run_storeCells_at (P := P) g off t cs 0 cur.toArray W hg (by simpa using hfit) h1
  cases hq : P.info? ty with
  | none => simp [hq] at hi
  | some i =>
    have hs : cs.length = i.size := by simp [hq] at hi; omega
    simp only [Nat.add_zero] at this
    simp [storeVar, sizeOf, typeInfo, hq, Value.cells, hs, this, splice]
theorem run_put_mid {ty : TypeId} {p : Tmp} {v : Operand} (ho : o.op = .store ty (.tmp p) v) {g off : Nat} {cur : List Value} {t : TypeId} (cs : List Value) (hx : a.eval (.tmp p) = .pointer (some ⟨g, off, none⟩)) (hy : a.eval v = .agg cs.toArray)
    (hg : W.heap[g]? = some (.cells cur.toArray t (0, 0))) (hi : (P.info? ty).map (·.size) = some cs.length) (hfit : off + cs.length ≤ cur.length) (h1 : ∀ v ∈ cs, v.oneCell' = true) : (execOp a.eval o).run P W = .ok .skip (W.setRow g (splice cur off cs).toArray) := by
  unfold execOp
  simp only [ho, hx, hy, Instr.storeAt, Instr.sureAddr, Sem.run_bind, Sem.run_pure, Result.andThen_ok, storeVar_mid g off ty t cur cs hg hi hfit h1]
theorem put_mid {ty : TypeId} {p : Tmp} {v : Operand} (ho : o.op = .store ty (.tmp p) v) (hgd : o.guard = none) (hN : o.dst = none) {g off : Nat} {cur : List Value} {t : TypeId} (cs : List Value) (hx : a.eval (.tmp p) = .pointer (some ⟨g, off, none⟩)) (hy : a.eval v = .agg cs.toArray)
    (hg : W.heap[g]? = some (.cells cur.toArray t (0, 0))) (hi : (P.info? ty).map (·.size) = some cs.length) (hfit : off + cs.length ≤ cur.length) (h1 : ∀ v ∈ cs, v.oneCell' = true)
    (h : ∀ W1, W1.heap[g]? = some (.cells (splice cur off cs).toArray t (0, 0)) → Wrote W W1 g → wpList P ops Q rest a W1) : wpList P ops Q (o :: rest) a W :=
  store_event hgd ho hN (run_put_mid ho cs hx hy hg hi hfit h1) (fun w' e => by subst e; exact h _ (setRow_heap W g _ _ t (0, 0) hg) ⟨_, rfl⟩)
theorem copy_mid (hgd : o.guard = none) {N : Tmp} (hN : o.dst = some N) (d s : Operand) (dT sT : TypeId) (ho : o.op = .call { callee := .builtin .copy, args := #[d, s], argTypes := #[dT, sT] }) (elem : TypeId) (hu : P.underlying dT = some (.slice elem)) (hsz : (P.info? elem).map (·.size) = some 1)
    (g off dLen dCap : Nat) (ad : Addr) (sLen sCap : Nat) (hd : a.eval d = .slice (some ⟨g, off, none⟩) dLen dCap) (hs : a.eval s = .slice (some ad) sLen sCap)
    (cur : List Value) (t : TypeId) (hg : W.heap[g]? = some (.cells cur.toArray t (0, 0))) (cs : List Value) (m : Nat) (hm : cs.length = m) (hn : m = Nat.min sLen dLen)
    (hsrc : ∀ j v, cs[j]? = some v → W.cell? (ad.add j) = some v) (hfit : off + m ≤ cur.length) (h1 : ∀ v ∈ cs, v.oneCell' = true)
    (h : ∀ W1, W1 = W.setRow g (splice cur off cs).toArray → wpList P ops Q rest (a.put (some N) (.int .i64 m)) W1) : wpList P ops Q (o :: rest) a W := by
  refine wpList_copy_own hgd d s dT sT ho elem hu hsz g off dLen dCap ad sLen sCap hd hs cur.toArray t hg cs (hm.trans hn) hsrc (by rw [hm]; simpa using hfit) h1 ?_
  have h2 := h _ rfl
  rw [hN, hm]
  have e : cur.toArray.toList = cur := rfl
  rw [e]
  have e2 : splice cur off cs = cur.take off ++ (cs ++ cur.drop (off + m)) := by rw [splice, hm]
  rw [e2] at h2
  exact h2
end
theorem one_u32 (l : List Int) : ∀ v ∈ l.map (fun x => Value.int .u32 x), v.oneCell' = true := by
  intro v hv
  obtain ⟨x, _, rfl⟩ := List.mem_map.mp hv
  rfl
theorem one_u8 (l : List Int) : ∀ v ∈ l.map (fun x => Value.int .u8 x), v.oneCell' = true := by
  intro v hv
  obtain ⟨x, _, rfl⟩ := List.mem_map.mp hv
  rfl
theorem run_get_mid {P : Program} {o : Oper} {a : Act} {W : World} {ty : TypeId} {p : Tmp} (ho : o.op = .load ty (.tmp p)) {g off : Nat} {cs : List Value} (hx : a.eval (.tmp p) = .pointer (some ⟨g, off, none⟩)) (hc : W.rangeAt g off cs) {d : TypeDesc} (hu : P.underlying ty = some d) (hd : d.isRow = true) (hi : (P.info? ty).map (·.size) = some cs.length) :
    (execOp a.eval o).run P W = .ok (.value (.agg cs.toArray)) W := by
  unfold execOp
  simp only [ho, hx, Instr.loadAt, Instr.sureAddr, Sem.run_bind, Sem.run_pure, Result.andThen_ok, run_loadVar_mid W g off ty cs d hc hu hd hi]
/-- A mark, as it stands. -/
structure MW (w0 w w' : World) (g : Nat) (v r : List Int) (tot : Int) : Prop where
  blk : w'.heap[g]? = some (.cells (mkL v r tot).toArray 114 (0, 0))
  ge : w0.heap.size ≤ g
  below : Below w0.heap.size w0 w'
  keep : KeepBut w w' g none
  lv : v.length = 8
  lr : r.length = 64
abbrev MK (w0 w w' : World) (g : Nat) (M : List Int) (tot : Int) : Prop := MW w0 w w' g (hv M) (hr M) tot
theorem keep_row {w W : World} {g : Nat} (h : KeepBut w W g none) (cs : Array Value) : KeepBut w (W.setRow g cs) g none :=
  h.trans ⟨by simp [World.setRow], fun k hk hne _ => setRow_other W g k cs hne⟩ (.inl rfl)
section
variable {w0 w W W1 : World} {g : Nat} {v r : List Int} {tot : Int}
theorem MW.next (h : MW w0 w W g v r tot) (hb : Below W.heap.size W W1) : MW w0 w W1 g v r tot :=
  ⟨(hb.block g (blk_lt h.blk)).trans h.blk, h.ge, below_step h.below hb, h.keep.trans (KeepBut.of_below hb g none) (.inl rfl), h.lv, h.lr⟩
theorem MW.drew (h : MW w0 w W g v r tot) : MW w0 w W.drew g v r tot := h.next (below_drew1 (Below.refl _ W))
theorem MW.at72 (h : MW w0 w W g v r tot) : W.cell? ⟨g, 72, none⟩ = some (.int .u64 tot) := (blk_cell h.blk 72).trans (by simpa using mkL_tot v r tot h.lv h.lr)
theorem MW.set72 (h : MW w0 w W g v r tot) (t' : Int) : MW w0 w (W.setCell ⟨g, 72, none⟩ (.int .u64 t')) g v r t' :=
  ⟨by have := blk_set h.blk 72 (.int .u64 t'); rw [List.setIfInBounds_toArray, mkL_set _ _ _ _ h.lv h.lr] at this; exact this, h.ge, below_set h.below h.ge, h.keep.set_ 72 _, h.lv, h.lr⟩
theorem MW.row (h : MW w0 w W g v r tot) {v' r' : List Int} (hv : v'.length = 8) (hr : r'.length = 64) : MW w0 w (W.setRow g (mkL v' r' tot).toArray) g v' r' tot :=
  ⟨setRow_heap W g _ _ 114 (0, 0) h.blk, h.ge, below_setRow h.below h.ge _, keep_row h.keep _, hv, hr⟩
theorem MW.wrote (h : MW w0 w W g v r tot) {v' r' : List Int} (hv : v'.length = 8) (hr : r'.length = 64) (hb : W1.heap[g]? = some (.cells (mkL v' r' tot).toArray 114 (0, 0))) (hw : Wrote W W1 g) : MW w0 w W1 g v' r' tot := by
  refine ⟨hb, h.ge, hw.below h.below h.ge, ?_, hv, hr⟩
  obtain ⟨cs, rfl⟩ := hw
  exact keep_row h.keep cs
theorem MW.rangeV (h : W.heap[g]? = some (.cells (mkL v r tot).toArray 114 (0, 0))) (hv : v.length = 8) : W.rangeAt g 0 (v.map fun x => Value.int .u32 x) := fun j x hj => by
  have hl : j < 8 := by have := (List.getElem?_eq_some_iff.mp hj).1; simpa [hv] using this
  have h1 : W.cell? ⟨g, 0 + j, none⟩ = some (.int .u32 (rd v (j : Int))) := by rw [blk_cell h, Nat.zero_add, List.getElem?_toArray]; exact mkL_v v r tot hv j hl
  rw [h1]
  simpa [rd, List.getD_eq_getElem?_getD, hv, hl] using hj
theorem MW.rangeR (h : W.heap[g]? = some (.cells (mkL v r tot).toArray 114 (0, 0))) (hv : v.length = 8) (hr : r.length = 64) : W.rangeAt g 8 (r.map fun x => Value.int .u8 x) := fun j x hj => by
  have hl : j < 64 := by have := (List.getElem?_eq_some_iff.mp hj).1; simpa [hr] using this
  have h1 : W.cell? ⟨g, 8 + j, none⟩ = some (.int .u8 (rd r (j : Int))) := by rw [blk_cell h, List.getElem?_toArray]; exact mkL_r v r tot hv hr j hl
  rw [h1]
  simpa [rd, List.getD_eq_getElem?_getD, hr, hl] using hj
end
theorem arr112 : Try.prog.arrayLen 112 = 64 := by kernel_rfl
theorem elem112 : Try.prog.elem 112 = 5 := by kernel_rfl
theorem und112 : Try.prog.underlying 112 = some (.array (Try.prog.arrayLen 112) (Try.prog.elem 112)) := by kernel_rfl
theorem size5 (W : World) : (sizeOf 5).run Try.prog W = .ok 1 W := by
  obtain ⟨i5, hi5, _, hs5, _⟩ := info_parts info5
  simp [sizeOf, typeInfo, hi5, hs5]
theorem cut_rest (g n : Nat) (hn : n < 64) (W : World) : (Instr.sliceAt 112 (.pointer (some ⟨g, 8, none⟩)) (some (.int .i64 n)) none none).run Try.prog W = .ok (.slice (some ⟨g, 8 + n, none⟩) (64 - n) (64 - n)) W := by
  rw [run_sliceAt_array_l W 112 ⟨g, 8, none⟩ und112 .i64 n (by omega) (by rw [arr112]; omega), elem112, size5]
  simp only [Result.andThen, slicedAt, arr112, Int.toNat_natCast]
  rw [if_neg (by omega), Nat.mul_one, Addr.add_mid]
def lenOf : Value → Nat
  | .slice _ n _ => n
  | _ => 0
/-- A source that lies elsewhere reads on. -/
theorem keep_C {w W : World} {g : Nat} {A : Option Addr} {l : List Int} (hk : KeepBut w W g none) (hA : ∀ ad, A = some ad → ad.block ≠ g) (h : Kd.C (Kd.int .u8) w A l.length l) (j : Nat) (hj : j < l.length) : ∃ ad, A = some ad ∧ W.cell? (ad.add j) = some (.int .u8 (rd l (j : Int))) := by
  obtain ⟨ad, e, hx⟩ := Kd.at_int h (j : Int) (by omega) (by omega)
  refine ⟨ad, e, ?_⟩
  have hx : w.cell? (ad.add j) = some (.int .u8 (rd l (j : Int))) := by simpa using hx
  have hlt := World.block_lt_of_cell? w _ hx
  have hb : (ad.add j).block = ad.block := by unfold Addr.add; split <;> rfl
  have hh : W.heap[(ad.add j).block]? = w.heap[(ad.add j).block]? := hk.2 _ hlt (by rw [hb]; exact hA ad e) (by simp)
  rw [World.cell?, hh]
  exact hx
theorem info110m : (Try.prog.info? 110).map (·.size) = some 8 := by kernel_rfl
theorem info112 : (Try.prog.info? 112).map (·.size) = some 64 := by kernel_rfl
theorem infoE : (Try.prog.info? 5).map (·.size) = some 1 := by kernel_rfl
def r80_7_T : Bool × List (List Nat × List Nat) := (true, [([], []), ([], []), ([1], [1]), ([2], [2]), ([3], [3]), ([], []), ([5], [5]), ([6], [6]), ([7], [7]), ([4, 8], [4, 8]), ([0, 0, 1, 2, 3, 4, 5, 6, 7, 8, 9], [0]), ([10, 0, 1, 2, 3, 4, 5, 6, 7, 8, 9], [10]), ([11, 9, 9, 0, 1, 2, 3, 4, 5, 6, 7, 8, 9], [9, 11])])
def r80_7_B : List Nat := [0, 0, 2, 6, 14, 0, 32, 96, 224, 510, 1023, 2047, 4095]
theorem r80_7_tab : rtab .any (opsOf Try.f80 7) = r80_7_T := by kernel_rfl
theorem r80_7_bits : waitsOk r80_7_T.2 r80_7_B = true := by kernel_rfl
set_option maxHeartbeats 8000000 in
set_option maxRecDepth 100000 in
theorem write_calls (w0 w : World) (g : Nat) (M b : List Int) (A : Option Addr) (c : Nat) (hI : MK w0 w w g M M.length) (hC : Kd.C (Kd.int .u8) w A b.length b) (hc : b.length ≤ c) (hA : 0 < b.length → ∀ ad, A = some ad → ad.block ≠ g) (hl : M.length + b.length ≤ 281474976710656) :
    Calls Try.prog 80 #[.pointer (some ⟨g, 0, none⟩), .slice A b.length c] w fun e w' => e = .returned (.tuple #[]) ∧ MK w0 w w' g (M ++ b) ((M ++ b).length : Int) := by
  have HI := Aside0.mk hI
  have HC := Aside0.mk hC
  have HCC := Aside0.mk hc
  have HA := Aside0.mk hA
  have u72 := hI.at72
  have f72 := blk_frozen hI.blk 72
  clear hI hC hc hA
  go_enter Try.func80, Try.ntmps80
  go_wp2_with fail
  have H0 : Aside0 (MK w0 w (w.setCell ⟨g, 72, none⟩ (.int .u64 ((M.length : Int) + b.length))) g (M ++ []) ((M.length : Int) + b.length)) := ⟨by rw [List.append_nil]; exact HI.out.set72 _⟩
  clear HI u72 f72
  generalize w.setCell ⟨g, 72, none⟩ (.int .u64 ((M.length : Int) + b.length)) = w1 at H0 ⊢
  go_loopw [1, 4] (fun v1 v4 wi => ∃ (p q : List Int) (A' : Option Addr) (c' n : Nat), n = (M ++ p).length % 64 ∧ v1 = .slice A' q.length c' ∧ v4 = .int .i64 n ∧ Aside0 (b = p ++ q) ∧ Aside0 (MK w0 w wi g (M ++ p) ((M.length : Int) + b.length)) ∧ Aside0 (Kd.C (Kd.int .u8) w A' q.length q) ∧ Aside0 (q.length ≤ c') ∧ Aside0 (0 < q.length → ∀ ad, A' = some ad → ad.block ≠ g)) (fun v1 _ _ => lenOf v1)
  case atStart => exact ⟨[], b, A, c, M.length % 64, by simp, rfl, by simp, ⟨rfl⟩, H0, HC, HCC, HA⟩
  case round =>
  clear H0 HC HCC HA
  obtain ⟨p, q, A', c', n, hn, rfl, rfl, HP, HM, HC, HCC, HA⟩ := hrel
  have hn64 : n < 64 := by omega
  by_cases hq : 0 < q.length
  · have HN := Aside0.mk hn
    clear hn
    have hqi : (0 < (q.length : Int)) = True := by simp; omega
    have hcut := cut_rest g n hn64
    obtain ⟨m, hm⟩ : ∃ m, m = Nat.min q.length (64 - n) := ⟨_, rfl⟩
    have hm1 : 0 < m := by rw [hm]; exact Nat.lt_min.mpr ⟨hq, by omega⟩
    have hm2 : m ≤ q.length := by rw [hm]; exact Nat.min_le_left _ _
    have hm3 : m ≤ 64 - n := by rw [hm]; exact Nat.min_le_right _ _
    have hfl : n + m = 64 ∨ m = q.length := by
      rcases Nat.le_total q.length (64 - n) with h | h
      · exact .inr (by rw [hm]; exact Nat.min_eq_left h)
      · exact .inl (by rw [hm]; have := Nat.min_eq_right h; have h2 : Nat.min q.length (64 - n) = 64 - n := this; omega)
    have HMM := Aside0.mk hm
    clear hm
    obtain ⟨i5, hi5, _, hs5, _⟩ := info_parts info5
    have hcut2 := cut_from (P := Try.prog) 33 5 .i64 Try.underlying33 hi5 1 hs5 A' q.length c' (m : Int) (by omega) (by omega)
    have hC2 := Kd.C_drop (c := c') (m := m) HC.out hm2 HCC.out
    have hA2 : ∀ ad, (if c' = (m : Int).toNat then A' else A'.map (·.add ((m : Int).toNat * 1))) = some ad → ad.block ≠ g := by
      intro ad had
      split at had
      · exact HA.out hq ad had
      · obtain ⟨a0, h0, h1⟩ := Option.map_eq_some_iff.mp had
        have hb : (a0.add ((m : Int).toNat * 1)).block = a0.block := by unfold Addr.add; split <;> rfl
        rw [← h1, hb]
        exact HA.out hq a0 h0
    have hC2 : Kd.C (Kd.int .u8) w (if c' = (m : Int).toNat then A' else A'.map (·.add ((m : Int).toNat * 1))) (q.drop m).length (q.drop m) := by
      have e : (Kd.int .u8).sz = 1 := rfl
      rw [e] at hC2
      simpa using hC2
    generalize (if c' = (m : Int).toNat then A' else A'.map (·.add ((m : Int).toNat * 1))) = A2 at hcut2 hC2 hA2
    have HC2 := Aside0.mk hC2
    have HA2 := Aside0.mk hA2
    clear hC2 hA2
    simp only [Int.toNat_natCast] at hcut2
    obtain ⟨ad, hAd, hsrc0⟩ := keep_C HM.out.keep (HA.out hq) HC.out 0 hq
    subst hAd
    have HSRC : Aside0 (∀ (j : Nat) (v : Value), ((q.take m).map fun x => Value.int .u8 x)[j]? = some v → wr.cell? (ad.add j) = some v) := ⟨fun j v hj => by
      have hl : j < m := by have := (List.getElem?_eq_some_iff.mp hj).1; rw [List.length_map, List.length_take] at this; omega
      obtain ⟨ad', e, hx⟩ := keep_C HM.out.keep (HA.out hq) HC.out j (by omega)
      cases e
      rw [hx]
      have hl2 : j < q.length := by omega
      rw [List.getElem?_map, List.getElem?_take, if_pos hl, List.getElem?_eq_getElem hl2] at hj
      simpa [rd, List.getD_eq_getElem?_getD, hl2] using hj⟩
    clear hsrc0
    have HTL : Aside0 ((q.take m).length = m) := ⟨by rw [List.length_take]; omega⟩
    go_upto_region 4 with ((with_reducible refine gate_dst (N := 31) rfl ?_); refine copy_mid rfl rfl (.tmp 29) (.tmp 30) 33 33 rfl 5 Try.underlying33 infoE g (8 + n) (64 - n) (64 - n) ad q.length c' rfl rfl _ 114 HM.out.blk ((q.take m).map fun x => Value.int .u8 x) m (by rw [List.length_map, HTL.out]) HMM.out HSRC.out (by rw [mkL_length _ _ _ HM.out.lv HM.out.lr]; omega) (one_u8 _) ?_; intro W2 hW2; have HW2 := Aside0.mk hW2; clear hW2)
    have HX : Aside0 (MW w0 w W2 g (hv (M ++ p)) (splice (hr (M ++ p)) n (q.take m)) ((M.length : Int) + b.length)) := ⟨by
      rw [HW2.out, splice_r _ _ _ _ _ HM.out.lv HM.out.lr (by rw [HTL.out]; omega)]
      exact HM.out.row HM.out.lv (by rw [splice, List.length_append, List.length_append, List.length_take, List.length_drop, HTL.out, HM.out.lr]; omega)⟩
    have HMC := Aside0.mk HCC.out
    clear HW2 HM HSRC HC HCC HA hcut
    by_cases hfull : n + m = 64
    · go_upto_region 7 with fail
      have HV2 := Aside0.mk (step_full (M ++ p) (q.take m) (by rw [HTL.out, ← HN.out]; exact hfull))
      rw [← HN.out, List.append_assoc] at HV2
      have HD := Aside0.mk HX.out.drew
      have HTV := Aside0.mk (hv_length (M ++ p))
      have HTR := Aside0.mk HX.out.lr
      clear HX hcut2
      generalize hv (M ++ p) = v at HV2 HD HTV
      generalize splice (hr (M ++ p)) n (q.take m) = r at HV2 HD HTR
      refine start_ (n := 13) (S := fun w' => w'.heap[g]? = some (.cells (mkL v r ((M.length : Int) + b.length)).toArray 114 (0, 0))) (ds := [12]) #[false, false, false, false, false, false, false, false, false, false, false, false, false] (by kernel_rfl) rfl rfl HD.out.blk (fun hHeld => ?_)
      refine with_tabW r80_7_tab r80_7_bits (fun HT_ HW_ => ?_)
      generalize World.drew W2 = W3 at HD hHeld ⊢
      refine pure_ (i := 0) (N := some 40) (v := ?_) (a' := ?_) #[true, false, false, false, false, false, false, false, false, false, false, false, false] rfl rfl (any_of HT_.out (by kernel_rfl)) (fun _ _ _ h => h) (Or.inl ⟨by rfl, ?_⟩) ?_ ?_
      rotate_left
      · intro w'
        go_simp
        with_reducible rfl
      rotate_left
      · simp only [Act.put, List.setIfInBounds_toArray, List.set_cons_zero, List.set_cons_succ, i64_w, i32_w]
        rfl
      refine pure_ (i := 1) (N := some 41) (v := ?_) (a' := ?_) #[true, true, false, false, false, false, false, false, false, false, false, false, false] rfl rfl (any_of HT_.out (by kernel_rfl)) (fun _ _ _ h => h) (Or.inl ⟨by rfl, ?_⟩) ?_ ?_
      rotate_left
      · intro w'
        go_simp
        with_reducible rfl
      rotate_left
      · simp only [Act.put, List.setIfInBounds_toArray, List.set_cons_zero, List.set_cons_succ, i64_w, i32_w]
        rfl
      refine pure_ (i := 2) (N := some 42) (v := ?_) (a' := ?_) #[true, true, true, false, false, false, false, false, false, false, false, false, false] rfl rfl (any_of HT_.out (by kernel_rfl)) (fun _ _ _ h => h) (Or.inl ⟨by rfl, ?_⟩) ?_ ?_
      rotate_left
      · intro w'
        go_simp
        with_reducible rfl
      rotate_left
      · simp only [Act.put, List.setIfInBounds_toArray, List.set_cons_zero, List.set_cons_succ, i64_w, i32_w]
        rfl
      refine pure_ (i := 3) (N := some 43) (v := ?_) (a' := ?_) #[true, true, true, true, false, false, false, false, false, false, false, false, false] rfl rfl (any_of HT_.out (by kernel_rfl)) (fun _ _ _ h => h) (Or.inl ⟨by rfl, ?_⟩) ?_ ?_
      rotate_left
      · intro w'
        go_simp
        with_reducible rfl
      rotate_left
      · simp only [Act.put, List.setIfInBounds_toArray, List.set_cons_zero, List.set_cons_succ, i64_w, i32_w]
        rfl
      refine take_ (i := 4) (N := some 44) (v := ?_) (a' := ?_) #[true, true, true, true, true, false, false, false, false, false, false, false, false] rfl rfl (take_ofW HT_.out HW_.out (by kernel_rfl)) (fun _ _ _ h => h) (Or.inl ⟨by rfl, ?_⟩) hHeld ?_ ?_
      rotate_left
      · (rintro w' s0; refine run_get_mid (ty := 110) (p := 43) (cs := v.map fun x => Value.int .u32 x) ?_ ?_ (MW.rangeV s0 HTV.out) Try.underlying110 rfl (info110m.trans (by rw [List.length_map, HTV.out])); rfl; rfl)
      rotate_left
      · simp only [Act.put, List.setIfInBounds_toArray, List.set_cons_zero, List.set_cons_succ, i64_w, i32_w]
        rfl
      refine pure_ (i := 5) (N := some 45) (v := ?_) (a' := ?_) #[true, true, true, true, true, true, false, false, false, false, false, false, false] rfl rfl (any_of HT_.out (by kernel_rfl)) (fun _ _ _ h => h) (Or.inl ⟨by rfl, ?_⟩) ?_ ?_
      rotate_left
      · intro w'
        go_simp
        with_reducible rfl
      rotate_left
      · simp only [Act.put, List.setIfInBounds_toArray, List.set_cons_zero, List.set_cons_succ, i64_w, i32_w]
        rfl
      refine pure_ (i := 6) (N := some 46) (v := ?_) (a' := ?_) #[true, true, true, true, true, true, true, false, false, false, false, false, false] rfl rfl (any_of HT_.out (by kernel_rfl)) (fun _ _ _ h => h) (Or.inl ⟨by rfl, ?_⟩) ?_ ?_
      rotate_left
      · intro w'
        go_simp
        with_reducible rfl
      rotate_left
      · simp only [Act.put, List.setIfInBounds_toArray, List.set_cons_zero, List.set_cons_succ, i64_w, i32_w]
        rfl
      refine pure_ (i := 7) (N := some 47) (v := ?_) (a' := ?_) #[true, true, true, true, true, true, true, true, false, false, false, false, false] rfl rfl (any_of HT_.out (by kernel_rfl)) (fun _ _ _ h => h) (Or.inl ⟨by rfl, ?_⟩) ?_ ?_
      rotate_left
      · intro w'
        go_simp
        with_reducible rfl
      rotate_left
      · simp only [Act.put, List.setIfInBounds_toArray, List.set_cons_zero, List.set_cons_succ, i64_w, i32_w]
        rfl
      refine take_ (i := 8) (N := some 48) (v := ?_) (a' := ?_) #[true, true, true, true, true, true, true, true, true, false, false, false, false] rfl rfl (take_ofW HT_.out HW_.out (by kernel_rfl)) (fun _ _ _ h => h) (Or.inl ⟨by rfl, ?_⟩) hHeld ?_ ?_
      rotate_left
      · (rintro w' s0; refine run_get_mid (ty := 112) (p := 47) (cs := r.map fun x => Value.int .u8 x) ?_ ?_ (MW.rangeR s0 HTV.out HTR.out) Try.underlying112 rfl (info112.trans (by rw [List.length_map, HTR.out])); rfl; rfl)
      rotate_left
      · simp only [Act.put, List.setIfInBounds_toArray, List.set_cons_zero, List.set_cons_succ, i64_w, i32_w]
        rfl
      refine one_ (i := 9) (N := some 49) #[true, true, true, true, true, true, true, true, true, true, false, false, false] rfl rfl (one_of HT_.out (by kernel_rfl)) (by decide) (fun K hK => ?_)
      refine goes_ Try.func99 (by kernel_rfl) rfl #[.agg (u32s v), .agg (u8s r)] (by rfl) rfl rfl (by (try simp only [List.map_toArray, List.map_cons, List.map_nil]); first | done | rfl) ?_
      refine (behind_calls v r HTV.out HTR.out W3).mono ?_
      rintro e W4 ⟨rfl, hb4⟩
      refine ⟨_, rfl, ?_⟩
      have HD4 := Aside0.mk (HD.out.next hb4)
      refine hK.out _ _ HD4.out.blk (fun hHeld => ?_)
      clear hK K
      refine norm_ (a' := ?_) ?_ ?_
      rotate_left
      · show Act.put _ (some 49) _ = _
        simp only [Act.put, List.setIfInBounds_toArray, List.set_cons_zero, List.set_cons_succ, i64_w, i32_w]
        rfl
      clear hb4 HD
      refine pure_ (i := 10) (N := some 50) (v := ?_) (a' := ?_) #[true, true, true, true, true, true, true, true, true, true, true, false, false] rfl rfl (any_of HT_.out (by kernel_rfl)) (fun _ _ _ h => h) (Or.inl ⟨by rfl, ?_⟩) ?_ ?_
      rotate_left
      · intro w'
        go_simp
        with_reducible rfl
      rotate_left
      · simp only [Act.put, List.setIfInBounds_toArray, List.set_cons_zero, List.set_cons_succ, i64_w, i32_w]
        rfl
      refine pure_ (i := 11) (N := some 51) (v := ?_) (a' := ?_) #[true, true, true, true, true, true, true, true, true, true, true, true, false] rfl rfl (any_of HT_.out (by kernel_rfl)) (fun _ _ _ h => h) (Or.inl ⟨by rfl, ?_⟩) ?_ ?_
      rotate_left
      · intro w'
        go_simp
        with_reducible rfl
      rotate_left
      · simp only [Act.put, List.setIfInBounds_toArray, List.set_cons_zero, List.set_cons_succ, i64_w, i32_w]
        rfl
      refine last_ (i := 12) (N := none) #[true, true, true, true, true, true, true, true, true, true, true, true, true] rfl rfl (one_of HT_.out (by kernel_rfl)) (by decide) (fun K hK => ?_)
      refine skip_ (by rfl) rfl (run_put_mid rfl (g := g) (off := 0) ((comp v r).map fun x => Value.int .u32 x) rfl rfl HD4.out.blk (info110m.trans (by rw [List.length_map, comp_length v r HTV.out])) (by rw [mkL_length _ _ _ HTV.out HTR.out, List.length_map, comp_length v r HTV.out]; omega) (one_u32 _)) ?_
      refine hK.out _ _ ?_
      clear hK K
      refine done_ (done_of HT_.out (by kernel_rfl)) ?_
      have HY : Aside0 (MW w0 w (W4.setRow g (splice (mkL v r ((M.length : Int) + b.length)) 0 ((comp v r).map fun x => Value.int .u32 x)).toArray) g (comp v r) r ((M.length : Int) + b.length)) := ⟨by
        rw [splice_v _ _ _ _ HTV.out (comp_length v r HTV.out)]
        exact HD4.out.row (comp_length v r HTV.out) HTR.out⟩
      clear HD4 hHeld
      generalize W4.setRow g (splice (mkL v r ((M.length : Int) + b.length)) 0 ((comp v r).map fun x => Value.int .u32 x)).toArray = W5 at HY ⊢
      go_wp2_with ((with_reducible refine gate_store (t := 112) (p := 55) rfl ?_); refine put_mid rfl rfl rfl (g := g) (off := 8) (cur := mkL (comp v r) r ((M.length : Int) + b.length)) ((List.replicate 64 (0 : Int)).map fun x => Value.int .u8 x) rfl rfl HY.out.blk info112 (by rw [mkL_length _ _ _ (comp_length v r HTV.out) HTR.out]; decide) (one_u8 _) ?_; intro W6 h1 h2; have HB6 := Aside0.mk h1; have HW6 := Aside0.mk h2; clear h1 h2)
      have HZ : Aside0 (MK w0 w W6 g (M ++ (p ++ q.take m)) ((M.length : Int) + b.length)) := ⟨by
        have h6 := HB6.out
        have e := splice_r (comp v r) r (List.replicate 64 0) ((M.length : Int) + b.length) 0 (comp_length v r HTV.out) HTR.out (by decide)
        rw [Nat.add_zero] at e
        rw [e] at h6
        have e2 : splice r 0 (List.replicate 64 (0 : Int)) = List.replicate 64 0 := by
          rw [splice, List.take_zero, List.nil_append, Nat.zero_add, List.length_replicate, List.drop_of_length_le (by rw [HTR.out]; omega), List.append_nil]
        rw [e2] at h6
        show MW w0 w W6 g (hv (M ++ (p ++ q.take m))) (hr (M ++ (p ++ q.take m))) _
        rw [HV2.out.1, HV2.out.2]
        exact HY.out.wrote (comp_length v r HTV.out) List.length_replicate h6 HW6.out⟩
      refine ⟨⟨p ++ q.take m, q.drop m, A2, c' - m, 0, ?_, by rw [List.length_drop], rfl, ⟨by rw [List.append_assoc, List.take_append_drop]; exact HP.out⟩, HZ, HC2, ⟨?_⟩, ⟨fun _ => HA2.out⟩⟩, ?_⟩
      · rw [← List.append_assoc, List.length_append, HTL.out]
        have := HN.out
        omega
      · rw [List.length_drop]
        have := HMC.out
        omega
      · show q.length - m < q.length
        omega
    · go_wp2_with fail
      have hmq : m = q.length := hfl.resolve_left hfull
      have HV2 := Aside0.mk (step_less (M ++ p) (q.take m) (by rw [HTL.out, ← HN.out]; omega))
      rw [← HN.out, List.append_assoc] at HV2
      have HZ : Aside0 (MK w0 w W2 g (M ++ (p ++ q.take m)) ((M.length : Int) + b.length)) := ⟨by
        show MW w0 w W2 g (hv (M ++ (p ++ q.take m))) (hr (M ++ (p ++ q.take m))) _
        rw [HV2.out.1, HV2.out.2]
        exact HX.out⟩
      refine ⟨⟨p ++ q.take m, q.drop m, A2, c' - m, n + m, ?_, by rw [List.length_drop], by go_num, ⟨by rw [List.append_assoc, List.take_append_drop]; exact HP.out⟩, HZ, HC2, ⟨?_⟩, ⟨fun _ => HA2.out⟩⟩, ?_⟩
      · rw [← List.append_assoc, List.length_append, HTL.out]
        have := HN.out
        omega
      · rw [List.length_drop]
        have := HMC.out
        omega
      · show q.length - m < q.length
        omega
  · obtain rfl : q = [] := List.length_eq_zero_iff.mp (by omega)
    have hq0 : ([] : List Int).length = 0 := rfl
    go_wp2_with fail
    go_end0
    have hp := HP.out
    rw [List.append_nil] at hp
    subst hp
    refine ⟨rfl, ?_⟩
    rw [List.length_append]
    have := HM.out
    exact_mod_cast this
end Go.Proofs.Ytcgajjaaiablkaa.ShaWrite
