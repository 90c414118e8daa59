/- wire's Writer: its state in memory, and what each of its methods does to the bytes that it holds. -/
import Derived.Test.YtjeaojolhdfpeaaGreatPProfileCutx2
import Derived.Test.YtjeaojolhdfpeaaGreatCutT
import Derived.Test.YtjeaojolhdfpeaaGreatPProfileCutx4
import Derived.Test.YtjeaojolhdfpeaaGreatPProfileCutx5
import Derived.Test.YtjeaojolhdfpeaaGreatCutK
import Derived.Test.YtjeaojolhdfpeaaGreatNums
import Derived.Lib.SliceRun
namespace Go.Proofs.YtjeaojolhdfpeaaGreat.Writer
open Go.RowKit Go.Proofs.YtjeaojolhdfpeaaGreatW.PrintWords Go.Proofs.YtjeaojolhdfpeaaGreatW.PrintLast Go.Proofs.YtjeaojolhdfpeaaGreatW.PrintMore
open Go.Proofs.YtjeaojolhdfpeaaGreat.PProfileCut
set_option linter.unusedVariables false
set_option linter.unusedSimpArgs false

/-- A writer at block g, that has written bs; all since the world w0. -/
structure Wr (w0 W : World) (g : Nat) (bs : List Int) : Prop where
  ge : w0.heap.size ≤ g
  below : Below w0.heap.size w0 W
  held : ∃ v, W.heap[g]? = some (.cells #[v] 156 (0, 0)) ∧ Kd.R (Kd.int .u8) 5 W w0.heap.size (fun k => w0.heap.size ≤ k) v bs
/-- What is no byte's row and not block g stands. -/
def Stands (g : Nat) (w w' : World) : Prop := w.heap.size ≤ w'.heap.size ∧ ∀ (k t : Nat) (cs : Array Value), k ≠ g → t ≠ 5 → w.heap[k]? = some (.cells cs t (0, 0)) → w'.heap[k]? = some (.cells cs t (0, 0))
theorem Stands.refl (g : Nat) (w : World) : Stands g w w := ⟨Nat.le_refl _, fun _ _ _ _ _ h => h⟩
theorem Stands.trans {g : Nat} {a b c : World} (h : Stands g a b) (k : Stands g b c) : Stands g a c := ⟨Nat.le_trans h.1 k.1, fun i t cs hi ht hc => k.2 i t cs hi ht (h.2 i t cs hi ht hc)⟩
theorem Wr.drew {w0 W : World} {g : Nat} {bs : List Int} (h : Wr w0 W g bs) : Wr w0 W.drew g bs := by
  obtain ⟨v, h1, h2⟩ := h.held
  exact ⟨h.ge, below_drew h.below, v, h1, Kd.R_drew h2⟩
theorem Wr.alloc {w0 W : World} {g : Nat} {bs : List Int} (h : Wr w0 W g bs) (o : Obj) : Wr w0 (W.alloc o) g bs := by
  obtain ⟨v, h1, h2⟩ := h.held
  exact ⟨h.ge, below_alloc h.below o, v, blk_alloc h1 o, Kd.R_alloc h2 o⟩
theorem Wr.step {w0 W W' : World} {g : Nat} {bs : List Int} (h : Wr w0 W g bs) (hb : Below W.heap.size W W') : Wr w0 W' g bs := by
  obtain ⟨v, h1, h2⟩ := h.held
  exact ⟨h.ge, below_step h.below hb, v, blk_below h1 hb, Kd.R_below h2 hb⟩
theorem Stands.alloc (g : Nat) (w : World) (o : Obj) : Stands g w (w.alloc o) := ⟨by simp, fun _ _ _ _ _ h => blk_alloc h o⟩
theorem Stands.drew (g : Nat) (w : World) : Stands g w w.drew := ⟨Nat.le_refl _, fun _ _ _ _ _ h => h⟩
theorem Stands.below (g : Nat) {w w' : World} (hb : Below w.heap.size w w') : Stands g w w' := ⟨hb.size, fun _ _ _ _ _ h => blk_below h hb⟩

theorem newWriter (w0 w : World) (hB : Below w0.heap.size w0 w) :
    Calls Tryz.prog 46 #[] w fun e w' => e = .returned (.pointer (some ⟨w.heap.size, 0, none⟩)) ∧ Wr w0 w' w.heap.size [] ∧ Below w.heap.size w w' := by
  have HB := Aside0.mk hB
  clear hB
  go_enter Tryz.func46, Tryz.ntmps46
  go_wp2
  go_ret
  exact ⟨rfl, ⟨HB.out.size, below_alloc HB.out _, _, blk_new _ _, Kd.R_nil _ _ _ _ _⟩, below_alloc (Below.refl _ _) _⟩

/-- Behind a callee that made the row anew, the writer's field is stored. -/
theorem stored {w0 w W : World} {g : Nat} {v v' : Value} {bs bs' : List Int} (ge : w0.heap.size ≤ g) (hg : w.heap[g]? = some (.cells #[v] 156 (0, 0))) (hv : Kd.R (Kd.int .u8) 5 w w0.heap.size (fun k => w0.heap.size ≤ k) v bs)
    (hR : Kd.R (Kd.int .u8) 5 W w0.heap.size (fun k => (some k = v.ownBlock ∨ w.heap.size ≤ k)) v' bs') (hb : Below w0.heap.size w0 W) (hK : Kept w W (fun k => some k = v.ownBlock)) :
    W.heap[g]? = some (.cells #[v] 156 (0, 0)) ∧ Wr w0 (W.setCell ⟨g, 0, none⟩ v') g bs' ∧ Stands g w (W.setCell ⟨g, 0, none⟩ v') := by
  have hne : ∀ {k t : Nat} {cs : Array Value}, t ≠ 5 → w.heap[k]? = some (.cells cs t (0, 0)) → ¬ some k = v.ownBlock := fun ht hk he => by
    obtain ⟨cs2, h2⟩ := Kd.R_typed hv _ he.symm
    exact blk_ne hk h2 ht rfl
  have hg' := blk_kept hg hK (hne (by decide) hg)
  refine ⟨hg', ⟨ge, below_set hb ge, v', blk_put hg' 0 v' rfl, ?_⟩, ?_, ?_⟩
  · exact Kd.R_mono (Kd.R_set hR hg' (by decide) 0 v') (fun k hk => by
      rcases hk with hk | hk
      · exact Kd.R_base hv k hk.symm
      · exact Nat.le_trans (Nat.le_trans ge (Nat.le_of_lt (blk_lt hg))) hk)
  · have := hK.1
    simpa [World.setCell] using this
  · intro k t cs hk ht hc
    exact blk_far (blk_kept hc hK (hne ht hc)) hk v'

theorem uint (w0 w : World) (g : Nat) (bs r : List Int) (x : Int) (k : Nat) (hW : Wr w0 w g bs) (h : wire_digits_uint64.f k bs x = some r) :
    Calls Tryz.prog 48 #[.pointer (some ⟨g, 0, none⟩), .int .u64 x] w fun e w' => e = .returned (.tuple #[]) ∧ Wr w0 w' g r ∧ Stands g w w' := by
  obtain ⟨ge, hb, v, hg, hv⟩ := hW
  have HB := Aside0.mk hb
  have HG := Aside0.mk hg
  have HV := Aside0.mk hv
  have HF := Aside0.mk h
  have hc := (blk_cell hg 0).trans (rfl : #[v][0]? = some v)
  clear hb hg hv h
  go_enter Tryz.func48, Tryz.ntmps48
  go_wp2_with fail
  refine (wire_digits_uint64.calls k (fun i => some i = v.ownBlock) v bs x r w0 w HB.out (Kd.R_tight rfl HV.out) HF.out).mono ?_
  rintro e w1 ⟨v1, rfl, hR, hb1, hK⟩
  obtain ⟨hg1, hW1, hS1⟩ := stored ge HG.out HV.out hR hb1 hK
  have hc1 := (blk_cell hg1 0).trans (rfl : #[v][0]? = some v)
  have hf1 := blk_frozen hg1 0
  have HW := Aside0.mk hW1
  have HS := Aside0.mk hS1
  obtain ⟨A1, c1, rfl⟩ := Kd.R_slice hR
  clear hR hb1 hK hg1 hW1 hS1
  go_wp2_with fail
  go_end0
  exact ⟨rfl, HW.out, HS.out⟩

theorem byte (w0 w : World) (g : Nat) (bs r : List Int) (x : Int) (k : Nat) (hW : Wr w0 w g bs) (h : wire_bytesOf_byte.f k bs x 1 = some r) :
    Calls Tryz.prog 94 #[.pointer (some ⟨g, 0, none⟩), .int .u8 x] w fun e w' => e = .returned (.tuple #[]) ∧ Wr w0 w' g r ∧ Stands g w w' := by
  obtain ⟨ge, hb, v, hg, hv⟩ := hW
  have HB := Aside0.mk hb
  have HG := Aside0.mk hg
  have HV := Aside0.mk hv
  have HF := Aside0.mk h
  have hc := (blk_cell hg 0).trans (rfl : #[v][0]? = some v)
  clear hb hg hv h
  go_enter Tryz.func94, Tryz.ntmps94
  go_wp2_with fail
  refine (wire_bytesOf_byte.calls k (fun i => some i = v.ownBlock) v bs x 1 r w0 w HB.out (Kd.R_tight rfl HV.out) HF.out).mono ?_
  rintro e w1 ⟨v1, rfl, hR, hb1, hK⟩
  obtain ⟨hg1, hW1, hS1⟩ := stored ge HG.out HV.out hR hb1 hK
  have hc1 := (blk_cell hg1 0).trans (rfl : #[v][0]? = some v)
  have hf1 := blk_frozen hg1 0
  have HW := Aside0.mk hW1
  have HS := Aside0.mk hS1
  obtain ⟨A1, c1, rfl⟩ := Kd.R_slice hR
  clear hR hb1 hK hg1 hW1 hS1
  go_wp2_with fail
  go_end0
  exact ⟨rfl, HW.out, HS.out⟩

theorem int_ (w0 w : World) (g : Nat) (bs r : List Int) (x : Int) (k : Nat) (hW : Wr w0 w g bs) (hx : -9223372036854775808 ≤ x ∧ x ≤ 9223372036854775807) (h : wire_digits_uint64.f k bs (if x ≥ 0 then 2 * x else -2 * x - 1) = some r) :
    Calls Tryz.prog 95 #[.pointer (some ⟨g, 0, none⟩), .int .i64 x] w fun e w' => e = .returned (.tuple #[]) ∧ Wr w0 w' g r ∧ Stands g w w' := by
  obtain ⟨ge, hb, v, hg, hv⟩ := hW
  have HB := Aside0.mk hb
  have HG := Aside0.mk hg
  have HV := Aside0.mk hv
  have HF := Aside0.mk h
  have hc := (blk_cell hg 0).trans (rfl : #[v][0]? = some v)
  clear hb hg hv h
  go_enter Tryz.func95, Tryz.ntmps95
  go_wp2_with fail
  rw [Nums.zig x hx]
  refine (wire_digits_uint64.calls k (fun i => some i = v.ownBlock) v bs _ r w0 w HB.out (Kd.R_tight rfl HV.out) HF.out).mono ?_
  rintro e w1 ⟨v1, rfl, hR, hb1, hK⟩
  obtain ⟨hg1, hW1, hS1⟩ := stored ge HG.out HV.out hR hb1 hK
  have hc1 := (blk_cell hg1 0).trans (rfl : #[v][0]? = some v)
  have hf1 := blk_frozen hg1 0
  have HW := Aside0.mk hW1
  have HS := Aside0.mk hS1
  obtain ⟨A1, c1, rfl⟩ := Kd.R_slice hR
  clear hR hb1 hK hg1 hW1 hS1
  go_wp2_with fail
  all_goals (go_end0; exact ⟨rfl, HW.out, HS.out⟩)

theorem raw (w0 w : World) (g : Nat) (bs ys : List Int) (A : Option Addr) (n c : Nat) (hW : Wr w0 w g bs) (hr : Kd.C (Kd.int .u8) w A n ys) (hl : bs.length + n ≤ 140737488355328) :
    Calls Tryz.prog 47 #[.pointer (some ⟨g, 0, none⟩), .slice A n c] w fun e w' => e = .returned (.tuple #[]) ∧ Wr w0 w' g (bs ++ ys) ∧ Stands g w w' := by
  obtain ⟨ge, hb, v, hg, hv⟩ := hW
  have HB := Aside0.mk hb
  have HG := Aside0.mk hg
  have HV := Aside0.mk hv
  have HR := Aside0.mk hr
  have hc := (blk_cell hg 0).trans (rfl : #[v][0]? = some v)
  obtain ⟨zs, hz⟩ : ∃ zs, zs = bs ++ ys := ⟨_, rfl⟩
  rw [← hz]
  have HZ := Aside0.mk hz
  clear hb hg hv hr hz
  go_enter Tryz.func47, Tryz.ntmps47
  go_wp2_with (at_builtin; refine Kd.R_append_rows (Kd.int .u8) (w0 := w0) w0.heap.size rfl (.tmp 8) (.tmp 9) 54 5 (.int .u8 0) 1 rfl Tryz.underlying54 info5 rfl (by decide) (by omega) v bs ys _ _ _ (fun k_ => some k_ = v.ownBlock ∨ w.heap.size ≤ k_) (fun _ => False) rfl rfl (Kd.R_mono (Kd.R_tight rfl HV.out) (fun _ hk => .inl hk)) HR.out (fun _ _ h => h) (fun _ h => h.elim) (fun k_ hk => .inr hk) HB.out HB.out.size (by omega) ?_; intro v1 w1 ho hb1 hg1 hat; rw [← HZ.out] at ho; have HO := Aside0.mk ho; have HB1 := Aside0.mk hb1; have HK := Aside0.mk (Kept.of_grown (S := fun k => some k = v.ownBlock) hg1 (Kept.refl w _) (fun k hk => .inl hk.symm)); clear ho hb1 hg1 hat; obtain ⟨hg1, hW1, hS1⟩ := stored ge HG.out HV.out HO.out HB1.out HK.out; have hc1 := (blk_cell hg1 0).trans (rfl : #[v][0]? = some v); have hf1 := blk_frozen hg1 0; have HW := Aside0.mk hW1; have HS := Aside0.mk hS1; obtain ⟨A1, c1, rfl⟩ := Kd.R_slice HO.out; clear hg1 hW1 hS1)
  go_end0
  exact ⟨rfl, HW.out, HS.out⟩

/-- What was appended to a block that is new leaves what was. -/
theorem below_new {w w1 : World} {t : TypeId} {cs : Array Value} (hg : (w.alloc (.cells cs t)).grownBy w1 (Value.slice (some ⟨w.heap.size, 0, none⟩) 0 0).ownBlock) : Below w.heap.size w w1 :=
  (below_alloc (Below.refl _ _) _).grown hg (by simp) (fun k hk => by simp [Value.ownBlock] at hk; omega)
theorem own_empty (w : World) (base : Nat) (hb : base ≤ w.heap.size) (ok : Nat → Prop) (hok : ok w.heap.size) : Kd.R (Kd.int .u8) 5 (w.alloc (.cells #[] 5)) base ok (.slice (some ⟨w.heap.size, 0, none⟩) 0 0) [] :=
  Kd.R_of_own (enc := Value.int .u8) (xs := []) (World.ownsRow_lit (base := base) (e := 5) (size := 1) w #[] 0 hb (by simp [maxLen]) (by simp)) (fun k hk => by
    have : w.heap.size = k := by simpa [Value.ownBlock] using hk
    subst this
    exact hok)

set_option maxRecDepth 100000 in
/-- A clone of bytes: a row of one's own. -/
theorem clone (w0 w : World) (ys : List Int) (A : Option Addr) (n c : Nat) (hB : Below w0.heap.size w0 w) (hr : Kd.C (Kd.int .u8) w A n ys) (hl : n ≤ 140737488355328) :
    Calls Tryz.prog 96 #[.slice A n c] w fun e w' => ∃ v, e = .returned v ∧ Kd.R (Kd.int .u8) 5 w' w0.heap.size (fun k => w.heap.size ≤ k) v ys ∧ Below w.heap.size w w' := by
  have heq := fun w : World => Lib.run_eql_slice_nil (P := Tryz.prog) w 54 5 A n c 0 0 Tryz.underlying54
  have HB := Aside0.mk hB
  have HR := Aside0.mk hr
  clear hB hr
  rcases A with _ | ad
  · have hn : n = 0 := by
      rcases Nat.eq_zero_or_pos n with h | h
      · exact h
      · obtain ⟨ad, h1, _⟩ := HR.out.2.2 h
        cases h1
    subst hn
    have hy : ys = [] := List.eq_nil_of_length_eq_zero HR.out.1
    subst hy
    go_enter Tryz.func96, Tryz.ntmps96
    go_wp2_with fail
    go_ret
    exact ⟨_, rfl, Kd.R_nil _ _ _ _ _, Below.refl _ _⟩
  · have HE := Aside0.mk (own_empty w w0.heap.size HB.out.size (fun k => w.heap.size ≤ k) (Nat.le_refl _))
    have HB1 := Aside0.mk (below_alloc HB.out (.cells #[] 5))
    have HR1 := Aside0.mk (Kd.C_alloc HR.out (.cells #[] 5))
    go_enter Tryz.func96, Tryz.ntmps96
    go_wp2_with (at_builtin; refine Kd.R_append_rows (Kd.int .u8) (w0 := w0) w0.heap.size rfl (.tmp 5) (.tmp 6) 54 5 (.int .u8 0) 1 rfl Tryz.underlying54 info5 rfl (by decide) (by omega) (.slice (some ⟨w.heap.size, 0, none⟩) 0 0) ([] : List Int) ys _ _ _ (fun k_ => w.heap.size ≤ k_) (fun _ => False) rfl rfl HE.out HR1.out (fun _ _ h => h) (fun _ h => h.elim) (fun k_ hk => by simp at hk; omega) HB1.out HB1.out.size (by simp; omega) ?_; intro v1 w1 ho hb1 hg1 hat; have HO := Aside0.mk ho; have HK := Aside0.mk (below_new hg1); clear ho hb1 hg1 hat)
    go_ret
    exact ⟨_, rfl, HO.out, HK.out⟩

theorem done (w0 w : World) (g : Nat) (bs : List Int) (hW : Wr w0 w g bs) (hl : bs.length ≤ 140737488355328) :
    Calls Tryz.prog 51 #[.pointer (some ⟨g, 0, none⟩)] w fun e w' => ∃ v, e = .returned v ∧ Kd.R (Kd.int .u8) 5 w' w0.heap.size (fun k => w.heap.size ≤ k) v bs ∧ Below w.heap.size w w' := by
  obtain ⟨ge, hb, v, hg, hv⟩ := hW
  obtain ⟨A, c, rfl, _, hr⟩ := Kd.R_reads hv
  have HB := Aside0.mk hb
  have HR := Aside0.mk hr
  have hc := (blk_cell hg 0).trans (rfl : #[Value.slice A bs.length c][0]? = some (.slice A bs.length c))
  clear hb hg hv hr
  go_enter Tryz.func51, Tryz.ntmps51
  go_wp2_with fail
  refine (clone w0 w bs A bs.length c HB.out HR.out hl).mono ?_
  rintro e w1 ⟨v1, rfl, hR, hb1⟩
  have HO := Aside0.mk hR
  have HB1 := Aside0.mk hb1
  clear hR hb1
  go_wp2_with fail
  go_ret
  exact ⟨_, rfl, HO.out, HB1.out⟩
end Go.Proofs.YtjeaojolhdfpeaaGreat.Writer
