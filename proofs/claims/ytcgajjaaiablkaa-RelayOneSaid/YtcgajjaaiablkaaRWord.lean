/- wire's Reader: Word. -/
import Derived.Test.YtcgajjaaiablkaaCatch103
import Derived.Test.YtcgajjaaiablkaaRRaw
import Derived.Deep.MidRow
import Derived.Laws.Cover3
namespace Go.Proofs.Ytcgajjaaiablkaa.RWord
open Go.RowKit Go.Proofs.YtcgajjaaiablkaaW.PrintWords Go.Proofs.YtcgajjaaiablkaaW.PrintLast Go.Proofs.YtcgajjaaiablkaaW.PrintMore
open Go.Proofs.Ytcgajjaaiablkaa.PRelaySealed Go.Proofs.Ytcgajjaaiablkaa.Reader Go.Proofs.Ytcgajjaaiablkaa.RRaw
set_option linter.unusedVariables false
set_option linter.unusedSimpArgs false

theorem loadVar_any {P : Program} (w : World) (ad : Addr) (ty : TypeId) (cs : List Value) (d : TypeDesc) (hc : ∀ j v, cs[j]? = some v → w.cell? (ad.add j) = some v)
    (hu : P.underlying ty = some d) (hd : d.isRow = true) (hi : (P.info? ty).map (·.size) = some cs.length) : (loadVar ty ad).run P w = .ok (.agg cs.toArray) w := by
  have hl : (loadCells ad cs.length).run P w = .ok cs.toArray w := run_loadCells_list (P := P) w ad cs hc
  cases hq : P.info? ty with
  | none => simp [hq] at hi
  | some i =>
    have hs : i.size = cs.length := by simpa [hq] using hi
    have hagg : (isAgg ty).run P w = .ok true w := by
      unfold isAgg
      rw [Sem.run_bind, run_underlying hu w]
      cases d <;> simp_all
    simp [loadVar, Sem.run_bind, hagg, sizeOf, typeInfo, hq, hs, hl]
theorem get_any {P : Program} {ops : Array Oper} {rest : List Oper} {o : Oper} {a : Act} {Q : Exit → Act → World → Prop} {W : World} {ty : TypeId} {p N : Tmp} (ho : o.op = .load ty (.tmp p)) (hgd : o.guard = none) (hN : o.dst = some N) {ad : Addr} (cs : List Value) (hx : a.eval (.tmp p) = .pointer (some ad)) (hc : ∀ j v, cs[j]? = some v → W.cell? (ad.add j) = some v) {d : TypeDesc} (hu : P.underlying ty = some d) (hd : d.isRow = true) (hi : (P.info? ty).map (·.size) = some cs.length)
    (h : wpList P ops Q rest (a.put (some N) (.agg cs.toArray)) W) : wpList P ops Q (o :: rest) a W := by
  refine Kd.event_run hgd (v := .agg cs.toArray) (w1 := W) ?_ (by rw [hN]; exact h)
  unfold execOp
  simp only [ho, hx, Instr.loadAt, Instr.sureAddr, Sem.run_bind, Sem.run_pure, Result.andThen_ok, loadVar_any W ad ty cs d hc hu hd hi]
theorem cells_of {w : World} {ad : Addr} {l : List Int} {n : Nat} (h : Kd.C (Kd.int .u8) w (some ad) n l) (hn : n = l.length) : ∀ j v, (l.map fun x => Value.int .u8 x)[j]? = some v → w.cell? (ad.add j) = some v := by
  intro j v hj
  have hjl : j < l.length := by have := (List.getElem?_eq_some_iff.mp hj).1; simpa using this
  obtain ⟨ad2, e2, hx⟩ := Kd.at_int h (j : Int) (by omega) (by omega)
  cases e2
  rw [Int.toNat_natCast] at hx
  rw [hx]
  simpa [rd, List.getD_eq_getElem?_getD, hjl] using hj
theorem info129 : (Try.prog.info? 129).map (·.size) = some 8 := by kernel_rfl
theorem index129 (l : List Int) (hl : l.length = 8) (i : Nat) (hi : i < 8) (W : World) : (Instr.index 129 (.agg (l.map fun x => Value.int .u8 x).toArray) (.int .i64 (i : Int))).run Try.prog W = .ok (.int .u8 (rd l (i : Int))) W := by
  obtain ⟨i5, hi5, _, hs5, _⟩ := info_parts info5_
  have hb : (l.map fun x => Value.int .u8 x)[i]? = some (.int .u8 (rd l (i : Int))) := by simp [rd, List.getD_eq_getElem?_getD, show i < l.length by omega]
  have hagg : (isAgg 5).run Try.prog W = .ok false W := by
    unfold isAgg
    rw [Sem.run_bind, run_underlying Try.underlying5 W]
    rfl
  have h1 : (0 : Int) ≤ (i : Int) ∧ (i : Int) < ((8 : Nat) : Int) := by omega
  have hp : (part 5 (l.map fun x => Value.int .u8 x).toArray i).run Try.prog W = .ok (.int .u8 (rd l (i : Int))) W := by
    unfold part
    simp [Sem.run_bind, hagg] at hb ⊢
    simp [hb]
  simp only [Instr.index, asIntOf, Sem.run_bind, Sem.run_pure, Result.andThen_ok, run_underlying Try.underlying129, if_pos h1, sizeOf, typeInfo, hi5, hs5, Int.toNat_natCast, Nat.mul_one]
  simpa [Sem.run_bind, hi5, hs5] using hp
/-- The number that eight bytes are. -/
def wordN (l : List Int) : Nat → Int
  | 0 => 0
  | i + 1 => Go.bits .or .u64 (IntKind.u64.wrap (wordN l i * 256)) (IntKind.u64.wrap (rd l (i : Int)))
set_option maxHeartbeats 8000000 in
set_option maxRecDepth 100000 in
theorem wording (g rb : Nat) (A : Option Addr) (c : Nat) (bs : List Int) (a : Nat) (w0 w : World) (hI : Rc w0 w g A c bs a 0) (hn : a + 8 ≤ bs.length) (hl : bs.length ≤ 140737488355328)
    (hr : w.cell? ⟨rb, 0, none⟩ = some (.pointer (some ⟨g, 0, none⟩))) :
    Calls Try.prog 94 #[.pointer (some ⟨rb, 0, none⟩)] w fun e w' => e = .returned (.int .u64 (wordN ((bs.drop a).take 8) 8)) ∧ Moved w0 w w' g bs ((a + 8 : Nat) : Int) 0 := by
  have H := Aside0.mk (take_some g A c bs a 8 0 w0 w hI hn)
  clear hI
  go_enter Try.func94, Try.ntmps94
  have HL : Aside0 (((bs.drop a).take 8).length = 8) := ⟨by rw [List.length_take, List.length_drop]; omega⟩
  obtain ⟨l, hle⟩ : ∃ l, (bs.drop a).take 8 = l := ⟨_, rfl⟩
  rw [hle] at HL
  have HLE := Aside0.mk hle
  clear hle
  go_wp2_with (first
    | (go_at_call 72; refine H.out.mono ?_; rintro e w1 ⟨A', c', rfl, hm, hc⟩; rw [HLE.out] at hc; have HM1 := Aside0.mk hm; have HC1 := Aside0.mk hc; obtain ⟨ad, hA', _⟩ := Kd.at_int hc 0 (by omega) (by omega); subst hA'; have harr := fun W => run_arrayAt (P := Try.prog) W 129 5 8 (some ad) 8 c' Try.underlying129 (Nat.le_refl 8); clear hm hc)
    | ((with_reducible refine gate_dst (N := 8) rfl ?_); refine get_any rfl rfl rfl (l.map fun x => Value.int .u8 x) rfl (cells_of HC1.out HL.out.symm) Try.underlying129 rfl (info129.trans (by rw [List.length_map, HL.out])) ?_))
  go_loopw [2, 9] (fun v2 v9 wi => ∃ (i : Nat), i ≤ 8 ∧ v2 = .int .u64 (wordN l i) ∧ v9 = .int .i64 i ∧ wi = w1) (fun _ v9 _ => 8 - (intOf v9).toNat)
  case atStart => exact ⟨0, by omega, rfl, rfl, rfl⟩
  case round =>
  obtain ⟨i, hi, rfl, rfl, rfl⟩ := hrel
  by_cases hlt : i < 8
  · have r0 : ((i : Int) < 8) = True := by simp; omega
    have hls := HL.out
    have hil : i < l.length := by omega
    have hix := fun W => index129 l hls i hlt W
    go_wp2_with fail
    go_roundw
    all_goals first | exact ⟨i + 1, by omega, rfl, by simp, trivial⟩ | (simp only [intOf]; omega)
  · have hi8 : i = 8 := by omega
    subst hi8
    go_wp2_with fail
    go_ret
    rw [HLE.out]
    exact ⟨rfl, HM1.out⟩
set_option maxHeartbeats 8000000 in
set_option maxRecDepth 100000 in
theorem wording_no (g rb : Nat) (bs : List Int) (a : Nat) (w0 w : World) (hI : Rd w0 w g bs a 0) (hB : Below w0.heap.size w0 w) (ha : a ≤ bs.length) (hn : bs.length < a + 8)
    (hr : w.cell? ⟨rb, 0, none⟩ = some (.pointer (some ⟨g, 0, none⟩))) :
    Calls Try.prog 94 #[.pointer (some ⟨rb, 0, none⟩)] w fun e w' => e = .panicked [fault 2] ∧ ∃ m, Moved w0 w w' g bs m 0 := by
  have H := Aside0.mk (take_none g bs a 8 0 w0 w hI hB ha hn)
  clear hI hB
  go_enter Try.func94, Try.ntmps94
  go_wp2_with (go_at_call 72; refine H.out.mono ?_; rintro e w1 ⟨rfl, hm⟩; have HM1 := Aside0.mk hm; clear hm)
  exact ⟨rfl, rfl, _, HM1.out⟩

/-- What Word reads: the number, the place, the error. -/
def wordR (bs : List Int) (a : Nat) (err : Int) : Int × Nat × Int := if err ≠ 0 then (0, a, err) else if a + 8 ≤ bs.length then (wordN ((bs.drop a).take 8) 8, a + 8, 0) else (0, a, 2)
set_option maxHeartbeats 8000000 in
set_option maxRecDepth 100000 in
theorem word_ (g : Nat) (bs : List Int) (a : Nat) (err : Int) (w0 w : World) (hI : Rd w0 w g bs a err) (hB : Below w0.heap.size w0 w) (ha : a ≤ bs.length) (hl : bs.length ≤ 140737488355328) :
    Calls Try.prog 68 #[.pointer (some ⟨g, 0, none⟩)] w fun e w' => e = .returned (.int .u64 (wordR bs a err).1) ∧ Moved w0 w w' g bs (wordR bs a err).2.1 (wordR bs a err).2.2 := by
  have hmf : ∀ (fn : Fn) (first cap : Array Value) (w : World), (Instr.makeFunc fn first cap).run Try.prog w = .ok (.func fn first cap) w := fun _ _ _ _ => rfl
  have hlt : g < w.heap.size := hI.lt
  have HM := Aside0.mk ((Moved.refl hI hB).alloc (.cells #[.pointer (some ⟨g, 0, none⟩)] 62))
  have BB : Aside0 ((w.alloc (.cells #[.pointer (some ⟨g, 0, none⟩)] 62)).heap[w.heap.size]? = some (.cells #[.pointer (some ⟨g, 0, none⟩)] 62 (0, 0))) := ⟨blk_new _ _⟩
  have HX : Aside0 (Calls Try.prog 93 #[.pointer (some ⟨g, 0, none⟩), .func (.func 94) #[] #[.pointer (some ⟨w.heap.size, 0, none⟩)]] (w.alloc (.cells #[.pointer (some ⟨g, 0, none⟩)] 62))
      (fun e w' => e = .returned (.int .u64 (wordR bs a err).1) ∧ Moved w0 (w.alloc (.cells #[.pointer (some ⟨g, 0, none⟩)] 62)) w' g bs (wordR bs a err).2.1 (wordR bs a err).2.2)) := ⟨by
    unfold wordR
    by_cases he : err = 0
    · subst he
      rw [if_neg (by simp)]
      by_cases hno : a + 8 ≤ bs.length
      · rw [if_pos hno]
        refine (Reader103.went g bs a (a + 8) w0 _ #[] #[.pointer (some ⟨w.heap.size, 0, none⟩)] (fun v _ => v = .int .u64 (wordN ((bs.drop a).take 8) 8)) HM.out.rd HM.out.below (fun w1 hm1 hb1 => ?_)).mono (fun e w' ⟨v, h1, h2, h3⟩ => ⟨by rw [h1, h3], h2⟩)
        obtain ⟨A, c, hc⟩ := Rc.of hm1.rd hm1.below
        exact (wording g w.heap.size A c bs a w0 w1 hc hno hl ((blk_cell (Reader103.Moved.blk hm1 BB.out (by omega)) 0).trans rfl)).mono (fun e w' ⟨h1, h2⟩ => ⟨_, h1, h2, rfl⟩)
      · rw [if_neg hno]
        exact (Reader103.gave g bs a 2 w0 _ #[] #[.pointer (some ⟨w.heap.size, 0, none⟩)] HM.out.rd HM.out.below (fun w1 hm1 => wording_no g w.heap.size bs a w0 w1 hm1.rd hm1.below ha (by omega)
          ((blk_cell (Reader103.Moved.blk hm1 BB.out (by omega)) 0).trans rfl)))
    · rw [if_pos he]
      exact Reader103.spent g bs a err w0 _ _ HM.out.rd HM.out.below he⟩
  clear hI hB BB
  go_enter Try.func68, Try.ntmps68
  go_wp2_with (go_at_call 93; refine HX.out.mono ?_; rintro e w1 ⟨rfl, hm1⟩; have HM1 := Aside0.mk (HM.out.trans hm1); clear hm1)
  go_ret
  exact ⟨rfl, HM1.out⟩
end Go.Proofs.Ytcgajjaaiablkaa.RWord
