/- A clone of bytes: a row of one's own. -/
import Derived.Test.YtjeaojolhdfpeaaGreatPProfileCutx2
import Derived.Test.YtjeaojolhdfpeaaGreatCutT
import Derived.Test.YtjeaojolhdfpeaaGreatPProfileCutx4
import Derived.Test.YtjeaojolhdfpeaaGreatPProfileCutx5
import Derived.Test.YtjeaojolhdfpeaaGreatCutK
import Derived.Lib.SliceRun
namespace Go.Proofs.YtjeaojolhdfpeaaGreat.Clone
open Go.RowKit Go.Proofs.YtjeaojolhdfpeaaGreatW.PrintWords Go.Proofs.YtjeaojolhdfpeaaGreatW.PrintLast Go.Proofs.YtjeaojolhdfpeaaGreatW.PrintMore
open Go.Proofs.YtjeaojolhdfpeaaGreat.PProfileCut
set_option linter.unusedVariables false
set_option linter.unusedSimpArgs false

theorem below_new {w w1 : World} {t : TypeId} {cs : Array Value} (hg : (w.alloc (.cells cs t)).grownBy w1 (Value.slice (some ⟨w.heap.size, 0, none⟩) 0 0).ownBlock) : Below w.heap.size w w1 :=
  (below_alloc (Below.refl _ _) _).grown hg (by simp) (fun k hk => by simp [Value.ownBlock] at hk; omega)
theorem own_empty (w : World) (base : Nat) (hb : base ≤ w.heap.size) (ok : Nat → Prop) (hok : ok w.heap.size) : Kd.R (Kd.int .u8) 5 (w.alloc (.cells #[] 5)) base ok (.slice (some ⟨w.heap.size, 0, none⟩) 0 0) [] :=
  Kd.R_of_own (enc := Value.int .u8) (xs := []) (World.ownsRow_lit (base := base) (e := 5) (size := 1) w #[] 0 hb (by simp [maxLen]) (by simp)) (fun k hk => by
    have : w.heap.size = k := by simpa [Value.ownBlock] using hk
    subst this
    exact hok)

set_option maxRecDepth 100000 in
/-- A clone of bytes: a row of one's own. -/
theorem clone (w0 w : World) (ys : List Int) (A : Option Addr) (n c : Nat) (hB : Below w0.heap.size w0 w) (hr : Kd.C (Kd.int .u8) w A n ys) (hl : n ≤ 140737488355328) :
    Calls Tryz.prog 96 #[.slice A n c] w fun e w' => ∃ v, e = .returned v ∧ Kd.R (Kd.int .u8) 5 w' w0.heap.size (fun k => w.heap.size ≤ k) v ys ∧ Below w.heap.size w w' := by
  have heq := fun w : World => Lib.run_eql_slice_nil (P := Tryz.prog) w 54 5 A n c 0 0 Tryz.underlying54
  have HB := Aside0.mk hB
  have HR := Aside0.mk hr
  clear hB hr
  rcases A with _ | ad
  · have hn : n = 0 := by
      rcases Nat.eq_zero_or_pos n with h | h
      · exact h
      · obtain ⟨ad, h1, _⟩ := HR.out.2.2 h
        cases h1
    subst hn
    have hy : ys = [] := List.eq_nil_of_length_eq_zero HR.out.1
    subst hy
    go_enter Tryz.func96, Tryz.ntmps96
    go_wp2_with fail
    go_ret
    exact ⟨_, rfl, Kd.R_nil _ _ _ _ _, Below.refl _ _⟩
  · have HE := Aside0.mk (own_empty w w0.heap.size HB.out.size (fun k => w.heap.size ≤ k) (Nat.le_refl _))
    have HB1 := Aside0.mk (below_alloc HB.out (.cells #[] 5))
    have HR1 := Aside0.mk (Kd.C_alloc HR.out (.cells #[] 5))
    go_enter Tryz.func96, Tryz.ntmps96
    go_wp2_with (at_builtin; refine Kd.R_append_rows (Kd.int .u8) (w0 := w0) w0.heap.size rfl (.tmp 5) (.tmp 6) 54 5 (.int .u8 0) 1 rfl Tryz.underlying54 info5 rfl (by decide) (by omega) (.slice (some ⟨w.heap.size, 0, none⟩) 0 0) ([] : List Int) ys _ _ _ (fun k_ => w.heap.size ≤ k_) (fun _ => False) rfl rfl HE.out HR1.out (fun _ _ h => h) (fun _ h => h.elim) (fun k_ hk => by simp at hk; omega) HB1.out HB1.out.size (by simp; omega) ?_; intro v1 w1 ho hb1 hg1 hat; have HO := Aside0.mk ho; have HK := Aside0.mk (below_new hg1); clear ho hb1 hg1 hat)
    go_ret
    exact ⟨_, rfl, HO.out, HK.out⟩
end Go.Proofs.YtjeaojolhdfpeaaGreat.Clone
