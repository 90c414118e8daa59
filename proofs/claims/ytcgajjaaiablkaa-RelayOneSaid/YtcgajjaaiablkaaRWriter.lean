/- wire's Writer: its state in memory, and what each of its methods does to the bytes that it holds. -/
import Derived.Test.YtcgajjaaiablkaaPRelayOnex0
import Derived.Test.YtcgajjaaiablkaaPRelayOnex1
import Derived.Test.YtcgajjaaiablkaaPRelayOnex2
import Derived.Test.YtcgajjaaiablkaaRUv
import Derived.Test.YtcgajjaaiablkaaROneP
import Derived.Test.YtcgajjaaiablkaaClone
import Derived.Lib.AppendStr
namespace Go.Proofs.Ytcgajjaaiablkaa.RWriter
open Go.RowKit Go.Proofs.YtcgajjaaiablkaaW.PrintWords Go.Proofs.YtcgajjaaiablkaaW.PrintLast Go.Proofs.YtcgajjaaiablkaaW.PrintMore
open Go.Proofs.Ytcgajjaaiablkaa.PRelayOne
open Go.Proofs.Ytcgajjaaiablkaa.ROneP (nb)
set_option linter.unusedVariables false
set_option linter.unusedSimpArgs false

/-- A writer at block g, that has written bs; all since the world w0. -/
structure Wr (w0 W : World) (g : Nat) (bs : List Int) : Prop where
  ge : w0.heap.size ≤ g
  below : Below w0.heap.size w0 W
  held : ∃ v, W.heap[g]? = some (.cells #[v] 109 (0, 0)) ∧ Kd.R (Kd.int .u8) 5 W w0.heap.size (fun k => w0.heap.size ≤ k) v bs
/-- What is no byte's row and not block g stands. -/
def Stands (g : Nat) (w w' : World) : Prop := w.heap.size ≤ w'.heap.size ∧ ∀ (k t : Nat) (cs : Array Value), k ≠ g → t ≠ 5 → w.heap[k]? = some (.cells cs t (0, 0)) → w'.heap[k]? = some (.cells cs t (0, 0))
theorem Stands.refl (g : Nat) (w : World) : Stands g w w := ⟨Nat.le_refl _, fun _ _ _ _ _ h => h⟩
theorem Stands.trans {g : Nat} {a b c : World} (h : Stands g a b) (k : Stands g b c) : Stands g a c := ⟨Nat.le_trans h.1 k.1, fun i t cs hi ht hc => k.2 i t cs hi ht (h.2 i t cs hi ht hc)⟩
theorem Wr.drew {w0 W : World} {g : Nat} {bs : List Int} (h : Wr w0 W g bs) : Wr w0 W.drew g bs := by
  obtain ⟨v, h1, h2⟩ := h.held
  exact ⟨h.ge, below_drew h.below, v, h1, Kd.R_drew h2⟩
theorem Wr.alloc {w0 W : World} {g : Nat} {bs : List Int} (h : Wr w0 W g bs) (o : Obj) : Wr w0 (W.alloc o) g bs := by
  obtain ⟨v, h1, h2⟩ := h.held
  exact ⟨h.ge, below_alloc h.below o, v, blk_alloc h1 o, Kd.R_alloc h2 o⟩
theorem Wr.step {w0 W W' : World} {g : Nat} {bs : List Int} (h : Wr w0 W g bs) (hb : Below W.heap.size W W') : Wr w0 W' g bs := by
  obtain ⟨v, h1, h2⟩ := h.held
  exact ⟨h.ge, below_step h.below hb, v, blk_below h1 hb, Kd.R_below h2 hb⟩
theorem Stands.alloc (g : Nat) (w : World) (o : Obj) : Stands g w (w.alloc o) := ⟨by simp, fun _ _ _ _ _ h => blk_alloc h o⟩
theorem Stands.drew (g : Nat) (w : World) : Stands g w w.drew := ⟨Nat.le_refl _, fun _ _ _ _ _ h => h⟩
theorem Stands.below (g : Nat) {w w' : World} (hb : Below w.heap.size w w') : Stands g w w' := ⟨hb.size, fun _ _ _ _ _ h => blk_below h hb⟩

theorem newWriter (w0 w : World) (hB : Below w0.heap.size w0 w) :
    Calls Try.prog 43 #[] w fun e w' => e = .returned (.pointer (some ⟨w.heap.size, 0, none⟩)) ∧ Wr w0 w' w.heap.size [] ∧ Below w.heap.size w w' := by
  have HB := Aside0.mk hB
  clear hB
  go_enter Try.func43, Try.ntmps43
  go_wp2
  go_ret
  exact ⟨rfl, ⟨HB.out.size, below_alloc HB.out _, _, blk_new _ _, Kd.R_nil _ _ _ _ _⟩, below_alloc (Below.refl _ _) _⟩

/-- Behind a callee that made the row anew, the writer's field is stored. -/
theorem stored {w0 w W : World} {g : Nat} {v v' : Value} {bs bs' : List Int} (ge : w0.heap.size ≤ g) (hg : w.heap[g]? = some (.cells #[v] 109 (0, 0))) (hv : Kd.R (Kd.int .u8) 5 w w0.heap.size (fun k => w0.heap.size ≤ k) v bs)
    (hR : Kd.R (Kd.int .u8) 5 W w0.heap.size (fun k => (some k = v.ownBlock ∨ w.heap.size ≤ k)) v' bs') (hb : Below w0.heap.size w0 W) (hK : Kept w W (fun k => some k = v.ownBlock)) :
    W.heap[g]? = some (.cells #[v] 109 (0, 0)) ∧ Wr w0 (W.setCell ⟨g, 0, none⟩ v') g bs' ∧ Stands g w (W.setCell ⟨g, 0, none⟩ v') := by
  have hne : ∀ {k t : Nat} {cs : Array Value}, t ≠ 5 → w.heap[k]? = some (.cells cs t (0, 0)) → ¬ some k = v.ownBlock := fun ht hk he => by
    obtain ⟨cs2, h2⟩ := Kd.R_typed hv _ he.symm
    exact blk_ne hk h2 ht rfl
  have hg' := blk_kept hg hK (hne (by decide) hg)
  refine ⟨hg', ⟨ge, below_set hb ge, v', blk_put hg' 0 v' rfl, ?_⟩, ?_, ?_⟩
  · exact Kd.R_mono (Kd.R_set hR hg' (by decide) 0 v') (fun k hk => by
      rcases hk with hk | hk
      · exact Kd.R_base hv k hk.symm
      · exact Nat.le_trans (Nat.le_trans ge (Nat.le_of_lt (blk_lt hg))) hk)
  · have := hK.1
    simpa [World.setCell] using this
  · intro k t cs hk ht hc
    exact blk_far (blk_kept hc hK (hne ht hc)) hk v'

theorem uint (w0 w : World) (g : Nat) (bs r : List Int) (x : Int) (k : Nat) (hW : Wr w0 w g bs) (h : wire_digits_uint64.f k bs x = some r) :
    Calls Try.prog 44 #[.pointer (some ⟨g, 0, none⟩), .int .u64 x] w fun e w' => e = .returned (.tuple #[]) ∧ Wr w0 w' g r ∧ Stands g w w' := by
  obtain ⟨ge, hb, v, hg, hv⟩ := hW
  have HB := Aside0.mk hb
  have HG := Aside0.mk hg
  have HV := Aside0.mk hv
  have HF := Aside0.mk h
  have hc := (blk_cell hg 0).trans (rfl : #[v][0]? = some v)
  clear hb hg hv h
  go_enter Try.func44, Try.ntmps44
  go_wp2_with fail
  refine (wire_digits_uint64.calls k (fun i => some i = v.ownBlock) v bs x r w0 w HB.out (Kd.R_tight rfl HV.out) HF.out).mono ?_
  rintro e w1 ⟨v1, rfl, hR, hb1, hK⟩
  obtain ⟨hg1, hW1, hS1⟩ := stored ge HG.out HV.out hR hb1 hK
  have hc1 := (blk_cell hg1 0).trans (rfl : #[v][0]? = some v)
  have hf1 := blk_frozen hg1 0
  have HW := Aside0.mk hW1
  have HS := Aside0.mk hS1
  obtain ⟨A1, c1, rfl⟩ := Kd.R_slice hR
  clear hR hb1 hK hg1 hW1 hS1
  go_wp2_with fail
  go_end0
  exact ⟨rfl, HW.out, HS.out⟩

theorem raw (w0 w : World) (g : Nat) (bs ys : List Int) (A : Option Addr) (n c : Nat) (hW : Wr w0 w g bs) (hr : Kd.C (Kd.int .u8) w A n ys) (hl : bs.length + n ≤ 140737488355328) :
    Calls Try.prog 45 #[.pointer (some ⟨g, 0, none⟩), .slice A n c] w fun e w' => e = .returned (.tuple #[]) ∧ Wr w0 w' g (bs ++ ys) ∧ Stands g w w' := by
  obtain ⟨ge, hb, v, hg, hv⟩ := hW
  have HB := Aside0.mk hb
  have HG := Aside0.mk hg
  have HV := Aside0.mk hv
  have HR := Aside0.mk hr
  have hc := (blk_cell hg 0).trans (rfl : #[v][0]? = some v)
  obtain ⟨zs, hz⟩ : ∃ zs, zs = bs ++ ys := ⟨_, rfl⟩
  rw [← hz]
  have HZ := Aside0.mk hz
  clear hb hg hv hr hz
  go_enter Try.func45, Try.ntmps45
  go_wp2_with (at_builtin; refine Kd.R_append_rows (Kd.int .u8) (w0 := w0) w0.heap.size rfl (.tmp 8) (.tmp 9) 33 5 (.int .u8 0) 1 rfl Try.underlying33 info5 rfl (by decide) (by omega) v bs ys _ _ _ (fun k_ => some k_ = v.ownBlock ∨ w.heap.size ≤ k_) (fun _ => False) rfl rfl (Kd.R_mono (Kd.R_tight rfl HV.out) (fun _ hk => .inl hk)) HR.out (fun _ _ h => h) (fun _ h => h.elim) (fun k_ hk => .inr hk) HB.out HB.out.size (by omega) ?_; intro v1 w1 ho hb1 hg1 hat; rw [← HZ.out] at ho; have HO := Aside0.mk ho; have HB1 := Aside0.mk hb1; have HK := Aside0.mk (Kept.of_grown (S := fun k => some k = v.ownBlock) hg1 (Kept.refl w _) (fun k hk => .inl hk.symm)); clear ho hb1 hg1 hat; obtain ⟨hg1, hW1, hS1⟩ := stored ge HG.out HV.out HO.out HB1.out HK.out; have hc1 := (blk_cell hg1 0).trans (rfl : #[v][0]? = some v); have hf1 := blk_frozen hg1 0; have HW := Aside0.mk hW1; have HS := Aside0.mk hS1; obtain ⟨A1, c1, rfl⟩ := Kd.R_slice HO.out; clear hg1 hW1 hS1)
  go_end0
  exact ⟨rfl, HW.out, HS.out⟩

theorem done (w0 w : World) (g : Nat) (bs : List Int) (hW : Wr w0 w g bs) (hl : bs.length ≤ 140737488355328) :
    Calls Try.prog 48 #[.pointer (some ⟨g, 0, none⟩)] w fun e w' => ∃ v, e = .returned v ∧ Kd.R (Kd.int .u8) 5 w' w0.heap.size (fun k => w.heap.size ≤ k) v bs ∧ Below w.heap.size w w' := by
  obtain ⟨ge, hb, v, hg, hv⟩ := hW
  obtain ⟨A, c, rfl, _, hr⟩ := Kd.R_reads hv
  have HB := Aside0.mk hb
  have HR := Aside0.mk hr
  have hc := (blk_cell hg 0).trans (rfl : #[Value.slice A bs.length c][0]? = some (.slice A bs.length c))
  clear hb hg hv hr
  go_enter Try.func48, Try.ntmps48
  go_wp2_with fail
  refine (Clone.clone w0 w bs A bs.length c HB.out HR.out hl).mono ?_
  rintro e w1 ⟨v1, rfl, hR, hb1⟩
  have HO := Aside0.mk hR
  have HB1 := Aside0.mk hb1
  clear hR hb1
  go_wp2_with fail
  go_ret
  exact ⟨_, rfl, HO.out, HB1.out⟩
theorem word (w0 w : World) (g : Nat) (bs r : List Int) (x : Int) (k : Nat) (hW : Wr w0 w g bs) (h : wire_bytesOf_uint64.f k bs x 8 = some r) :
    Calls Try.prog 49 #[.pointer (some ⟨g, 0, none⟩), .int .u64 x] w fun e w' => e = .returned (.tuple #[]) ∧ Wr w0 w' g r ∧ Stands g w w' := by
  obtain ⟨ge, hb, v, hg, hv⟩ := hW
  have HB := Aside0.mk hb
  have HG := Aside0.mk hg
  have HV := Aside0.mk hv
  have HF := Aside0.mk h
  have hc := (blk_cell hg 0).trans (rfl : #[v][0]? = some v)
  clear hb hg hv h
  go_enter Try.func49, Try.ntmps49
  go_wp2_with fail
  refine (wire_bytesOf_uint64.calls k (fun i => some i = v.ownBlock) v bs x 8 r w0 w HB.out (Kd.R_tight rfl HV.out) HF.out).mono ?_
  rintro e w1 ⟨v1, rfl, hR, hb1, hK⟩
  obtain ⟨hg1, hW1, hS1⟩ := stored ge HG.out HV.out hR hb1 hK
  have hc1 := (blk_cell hg1 0).trans (rfl : #[v][0]? = some v)
  have hf1 := blk_frozen hg1 0
  have HW := Aside0.mk hW1
  have HS := Aside0.mk hS1
  obtain ⟨A1, c1, rfl⟩ := Kd.R_slice hR
  clear hR hb1 hK hg1 hW1 hS1
  go_wp2_with fail
  go_end0
  exact ⟨rfl, HW.out, HS.out⟩


theorem encs_nb (s : ByteArray) (xs : List Int) : encs (Value.int .u8) (xs ++ nb s) = encs (Value.int .u8) xs ++ Lib.strCells s := by
  unfold encs
  rw [List.map_append]
  congr 1
  simp [nb, Lib.strCells, List.map_map, Function.comp_def]
theorem nb_length (s : ByteArray) : (nb s).length = s.size := by
  unfold nb
  rw [List.length_map, Array.length_toList]
  rfl
theorem R_append_string {P : Program} {ops : Array Oper} {rest : List Oper} {o : Oper} {a : Act} {Q : Exit → Act → World → Prop} {w0 W : World} (base : Nat) (hgd : o.guard = none) (sl x : Operand) (t u e : TypeId) (ho : o.op = .call { callee := .builtin .append, args := #[sl, x], argTypes := #[t, u] })
    (ht : P.underlying t = some (.slice e)) (hu : P.underlying u = some .string) (hinfo : (P.info? e).map (fun i => (i.zero, i.size, i.bytes)) = some (some (.int .u8 0), 1, 1)) (v : Value) (xs : List Int) (s : ByteArray) {ok : Nat → Prop} (hs : a.eval sl = v) (hx : a.eval x = .string s)
    (HO : Kd.R (Kd.int .u8) e W base ok v xs) (HB : Below base w0 W) (hbase : base ≤ W.heap.size) (hl : xs.length + s.size ≤ 140737488355328)
    (h : ∀ v1 w1, Kd.R (Kd.int .u8) e w1 base (fun _ => True) v1 (xs ++ nb s) → Below base w0 w1 → W.grownBy w1 v.ownBlock → wpList P ops Q rest (a.put o.dst v1) w1) : wpList P ops Q (o :: rest) a W := by
  obtain ⟨i0, hi, hzz⟩ := Option.map_eq_some_iff.1 hinfo
  simp only [Prod.mk.injEq] at hzz
  have hown := Kd.own_of_R HO
  refine Lib.wpList_append_own_string W hgd sl x t u ho base e i0 ht hu hi hzz.1 hzz.2.1 hzz.2.2 v xs.length _ hs hown s hx (by unfold maxLen; omega) hl hbase (fun v' w' h1 h2 _ => h v' w' ?_ (HB.grown h2 hbase (own_base hown)) h2)
  refine Kd.R_of_own ?_ (fun _ _ => trivial)
  rw [List.length_append, nb_length]
  have h3 := h1
  rw [← encs_nb] at h3
  exact h3
/-- The same as 'stored', of a row of which less is told. -/
theorem stored2 {w0 w W : World} {g : Nat} {v v' : Value} {bs bs' : List Int} (ge : w0.heap.size ≤ g) (hg : w.heap[g]? = some (.cells #[v] 109 (0, 0))) (hv : Kd.R (Kd.int .u8) 5 w w0.heap.size (fun k => w0.heap.size ≤ k) v bs)
    (hR : Kd.R (Kd.int .u8) 5 W w0.heap.size (fun _ => True) v' bs') (hb : Below w0.heap.size w0 W) (hK : Kept w W (fun k => some k = v.ownBlock)) :
    W.heap[g]? = some (.cells #[v] 109 (0, 0)) ∧ Wr w0 (W.setCell ⟨g, 0, none⟩ v') g bs' ∧ Stands g w (W.setCell ⟨g, 0, none⟩ v') := by
  have hne : ∀ {k t : Nat} {cs : Array Value}, t ≠ 5 → w.heap[k]? = some (.cells cs t (0, 0)) → ¬ some k = v.ownBlock := fun ht hk he => by
    obtain ⟨cs2, h2⟩ := Kd.R_typed hv _ he.symm
    exact blk_ne hk h2 ht rfl
  have hg' := blk_kept hg hK (hne (by decide) hg)
  refine ⟨hg', ⟨ge, below_set hb ge, v', blk_put hg' 0 v' rfl, ?_⟩, ?_, ?_⟩
  · exact Kd.R_mono (Kd.R_bound (Kd.R_set hR hg' (by decide) 0 v')) (fun k hk => hk.2.1)
  · have := hK.1
    simpa [World.setCell] using this
  · intro k t cs hk ht hc
    exact blk_far (blk_kept hc hK (hne ht hc)) hk v'
theorem text (w0 w : World) (g : Nat) (bs : List Int) (s : ByteArray) (hW : Wr w0 w g bs) (hs : s.size ≤ 4096) (hl : bs.length ≤ 70368744177664) :
    Calls Try.prog 46 #[.pointer (some ⟨g, 0, none⟩), .string s] w fun e w' => e = .returned (.tuple #[]) ∧ Wr w0 w' g (bs ++ ROneP.tF s) ∧ Stands g w w' := by
  obtain ⟨k, hk⟩ := RUv.digits_some s.size bs (by omega) (by omega)
  have hul := RUv.uv_length (n := s.size) (by omega)
  obtain ⟨ge, hb, v, hg, hv⟩ := hW
  have HB := Aside0.mk hb
  have HG := Aside0.mk hg
  have HV := Aside0.mk hv
  have HF := Aside0.mk hk
  have hc := (blk_cell hg 0).trans (rfl : #[v][0]? = some v)
  have hwz : IntKind.u64.wrap (s.size : Int) = (s.size : Int) := by rw [IntKind.wrap_u64]; omega
  have E : bs ++ ROneP.tF s = bs ++ RUv.uv s.size ++ nb s := by unfold ROneP.tF; rw [List.append_assoc]
  rw [E]
  have HLN : Aside0 ((bs ++ RUv.uv s.size).length + s.size ≤ 140737488355328) := ⟨by rw [List.length_append]; omega⟩
  generalize bs ++ RUv.uv s.size = zs at HF HLN ⊢
  clear hb hg hv hk E hul
  go_enter Try.func46, Try.ntmps46
  go_wp2_with fail
  refine (wire_digits_uint64.calls k (fun i => some i = v.ownBlock) v bs (s.size : Int) _ w0 w HB.out (Kd.R_tight rfl HV.out) HF.out).mono ?_
  rintro e w1 ⟨v1, rfl, hR, hb1, hK⟩
  have HR1 := Aside0.mk hR
  have HB1 := Aside0.mk hb1
  have HK1 := Aside0.mk hK
  clear hR hb1 hK
  obtain ⟨A1, c1, rfl⟩ := Kd.R_slice HR1.out
  go_wp2_with (at_builtin; refine R_append_string (w0 := w0) w0.heap.size rfl (.tmp 12) (.tmp 13) 33 9 5 rfl Try.underlying33 Try.underlying9 info5 _ zs s rfl rfl HR1.out HB1.out HB1.out.size HLN.out ?_; intro v2 w2 ho hb2 hg2; obtain ⟨hg1, hW1, hS1⟩ := stored2 ge HG.out HV.out ho hb2 (Kept.of_grown hg2 HK1.out (fun k hk => HR1.out.1 k hk)); have hc1 := (blk_cell hg1 0).trans (rfl : #[v][0]? = some v); have hf1 := blk_frozen hg1 0; have HW := Aside0.mk hW1; have HS := Aside0.mk hS1; obtain ⟨A2, c2, rfl⟩ := Kd.R_slice ho; clear hg1 hW1 hS1 ho hb2 hg2)
  go_end0
  rw [← List.length_append]
  exact ⟨rfl, HW.out, HS.out⟩
end Go.Proofs.Ytcgajjaaiablkaa.RWriter
