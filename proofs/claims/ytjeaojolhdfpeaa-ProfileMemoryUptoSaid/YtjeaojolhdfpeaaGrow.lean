/- append of one element to a row of one's own: where it moved, the old row's block is as it was. Families of rows that lie apart: marked, grown, looked at. -/
import Derived.Test.YtjeaojolhdfpeaaWMore
import Derived.Test.YtjeaojolhdfpeaaWN
import Derived.Maps.AppendAt
import Derived.Deep.DeepAppendRoom
namespace Go.Proofs.Ytjeaojolhdfpeaa.Grow
open Go.RowKit Go.Proofs.YtjeaojolhdfpeaaW.PrintWords
set_option linter.unusedVariables false

section
variable {P : Program}
theorem run_moved (w : World) (base : Nat) (t ty e : TypeId) (i : TypeInfo) (z : Value) (size bytes : Nat) (ht : P.underlying t = some (.slice e)) (hi : P.info? e = some i) (hz : i.zero = some z)
    (hsize : i.size = size) (hby : i.bytes = bytes) (hzs : z.cells.size = size) (hsz : 0 < size)
    (v : Value) (n : Nat) (xs : List Value) (hown : w.ownsRow base e size v n xs) (hfull : ∀ A m cap, v = .slice A m cap → cap < n + 1)
    (a : Addr) (news : List Value) (hl : news.length = 1 * size) (hnews : ∀ j u, news[j]? = some u → w.cell? (a.add j) = some u)
    (h63 : n + 1 ≤ maxLen) (hbytes : (n + 1) * bytes ≤ 140737488355328) (hbase : base ≤ w.heap.size) :
    ∃ v' w', (Builtin.append_ #[t, t] ty #[v, .slice (some a) 1 1]).run P w = .ok v' w' ∧ w'.ownsRow base e size v' (n + 1) (xs ++ news) ∧ w.grownBy w' none ∧ v'.ownBlock = some w.heap.size := by
  subst hsize
  subst hby
  have hsmall : n + 1 ≤ 9223372036854775807 := by simp only [maxLen] at h63; omega
  have hlen : (xs ++ news).length = (n + 1) * i.size := by rw [List.length_append, hown.1, hl, Nat.add_mul]
  have made : ∀ (old : Nat), old < n + 1 →
      (w.drew.alloc (.cells (xs.toArray ++ news.toArray ++ Builtin.zeroCells z.cells (grownCap w (n + 1) old e - (n + 1))) e)).ownsRow base e i.size
        (.slice (some ⟨w.heap.size, 0, none⟩) (n + 1) (grownCap w (n + 1) old e)) (n + 1) (xs ++ news) ∧
      w.grownBy (w.drew.alloc (.cells (xs.toArray ++ news.toArray ++ Builtin.zeroCells z.cells (grownCap w (n + 1) old e - (n + 1))) e)) none := by
    intro old ho
    refine ⟨⟨hlen, .inr ⟨w.heap.size, _, _, rfl, hbase, Go.heap_alloc_new w.drew _, grownCap_ge w (n + 1) old e, grownCap_le_maxLen w (n + 1) old e h63, ?_, ?_⟩⟩, ⟨rfl, rfl, rfl, by simp, fun k hk _ => Go.heap_alloc_old w.drew _ hk⟩⟩
    · have hge := grownCap_ge w (n + 1) old e
      simp only [Array.size_append, List.size_toArray, size_zeroCells, hzs, hown.1, hl, ← Nat.add_mul]
      congr 1
      omega
    · simp only [Array.toList_append, List.append_assoc]
      rw [← List.append_assoc, ← hlen]
      exact List.take_left
  rcases hown.2 with ⟨rfl, rfl⟩ | ⟨g, cap, cur, rfl, hbg, hg, hnc, hcm, hcs, htake⟩
  · have hx : xs = [] := List.eq_nil_of_length_eq_zero (by simpa using hown.1)
    subst hx
    have hr := run_append_nil (P := P) w t ty e i z ht hi hz a 1 1 news hl hnews (by omega) (by omega) (by have hb := hbytes; simp only [Nat.zero_add] at hb; omega)
    have hgr := made 0 (by omega)
    simp only [Nat.zero_add, List.nil_append, Array.empty_append] at hgr ⊢
    exact ⟨_, _, hr, hgr.1, hgr.2, rfl⟩
  · have holds : ∀ j u, xs[j]? = some u → w.cell? ((⟨g, 0, none⟩ : Addr).add j) = some u := hown.cells (g := g) rfl
    have hf := hfull _ _ _ rfl
    have hr := run_append_grow (P := P) w t ty e i z ht hi hz ⟨g, 0, none⟩ n cap xs hown.1 holds a 1 1 news hl hnews hf (by omega) (growslice_fits (by omega) hbytes)
    have hgr := made cap (by omega)
    exact ⟨_, _, hr, hgr.1, hgr.2, rfl⟩
end

section
variable {P : Program} {ops : Array Oper} {rest : List Oper} {o : Oper} {a : Act} {Q : Exit → Act → World → Prop} {α : Type}
theorem weaken {w w1 : World} {row : Option Nat} (h : w.grownBy w1 none) : w.grownBy w1 row := ⟨h.os, h.tape, h.output, h.size, fun k hk _ => h.block k hk (by simp)⟩
/-- As R_append of the print's words, with what became of the old block. -/
theorem append_keep (d : Kd α) {w0 W : World} (base : Nat) (hgd : o.guard = none) (s x : Operand) (t e : TypeId) (z : Value) (bytes : Nat)
    (ho : o.op = .call { callee := .builtin .append, args := #[s, x], argTypes := #[t, t] })
    (ht : P.underlying t = some (.slice e)) (hinfo : (P.info? e).map (fun i => (i.zero, i.size, i.bytes)) = some (some z, d.sz, bytes)) (hz : z.cells.size = d.sz) (hs0 : 0 < d.sz) (hb0 : 0 < bytes)
    (v : Value) (xs : List α) (p : α) (cs : List Value) (ok okp : Nat → Prop) (hs : a.eval s = v) (hx : a.eval x = .slice (some ⟨W.heap.size, 0, none⟩) 1 1) (hp : d.M W base okp p cs) (hokp : ∀ k, okp k → ok k ∧ some k ≠ v.ownBlock) (hfresh : ∀ k, W.heap.size ≤ k → ok k)
    (HO : d.R e W base ok v xs) (HB : Below base w0 W) (hbase : base ≤ W.heap.size) (hl : (xs.length + 1) * bytes ≤ 140737488355328)
    (h : ∀ v1 w1, d.R e w1 base ok v1 (xs ++ [p]) → Below base w0 w1 → W.grownBy w1 v.ownBlock → (v1.ownBlock = v.ownBlock ∨ (∃ b, v1.ownBlock = some b ∧ W.heap.size ≤ b) ∧ W.grownBy w1 none) → wpList P ops Q rest (a.put o.dst v1) w1) :
    wpList P ops Q (o :: rest) a (W.alloc (.cells cs.toArray e)) := by
  obtain ⟨i0, hi, hzz⟩ := Option.map_eq_some_iff.1 hinfo
  simp only [Prod.mk.injEq] at hzz
  obtain ⟨hz0, hz1, hz2⟩ := hzz
  have hlen : xs.length + 1 ≤ 140737488355328 := Nat.le_trans (Nat.le_mul_of_pos_right _ hb0) hl
  obtain ⟨h0, inner, hown, hr⟩ := HO
  have hcl := d.K_len (d.K_of_M hp)
  have hc1 := d.K_one (d.K_of_M hp)
  have hnews : ∀ j u, cs[j]? = some u → (W.alloc (.cells cs.toArray e)).cell? ((⟨W.heap.size, 0, none⟩ : Addr).add j) = some u := by
    simpa using World.news_of_block (cs := cs.toArray) (t := e) (fr := (0, 0)) (Go.heap_alloc_new W (.cells cs.toArray e))
  have hga : W.grownBy (W.alloc (.cells cs.toArray e)) none := World.grownBy_alloc W _ _
  have hown1 : (W.alloc (.cells cs.toArray e)).ownsRow base e d.sz v xs.length inner := hown.alloc _
  by_cases hroom : ∃ g cap, v = .slice (some ⟨g, 0, none⟩) xs.length cap ∧ xs.length + 1 ≤ cap
  · obtain ⟨g, cap, rfl, hc⟩ := hroom
    refine wpList_append_own_spare (W.alloc (.cells cs.toArray e)) hgd s x t ho base e i0 d.sz ht hi hz1 g xs.length cap inner hs hown1 ⟨W.heap.size, 0, none⟩ 1 1 cs hx (by rw [hcl]; simp) hnews hc1 hc ?_
    intro w1 hown2 hg
    have hg2 : W.grownBy w1 (some g) := World.grownBy.trans (weaken hga) hg
    have hat : (Value.slice (some ⟨g, 0, none⟩) (xs.length + 1) cap).ownBlock = (Value.slice (some ⟨g, 0, none⟩) xs.length cap).ownBlock := rfl
    exact h _ w1 (Kd.R_appended h0 hr hp hokp hfresh hown2 hg2 (.inl hat)) ((HB.alloc hbase _).grown hg (by simp; omega) (fun k hk => by have := own_base hown k (by simpa [Value.ownBlock] using hk); exact this)) hg2 (.inl hat)
  · have hfull : ∀ A m cap, v = .slice A m cap → cap < xs.length + 1 := by
      intro A m cap hv
      subst hv
      rcases hown.2 with ⟨hv, h0⟩ | ⟨g, cap', cur, hv, _⟩
      · injection hv with _ _ h3
        omega
      · injection hv with h1 h2 h3
        subst h1; subst h2; subst h3
        exact Nat.lt_of_not_le (fun hle => hroom ⟨g, cap, rfl, hle⟩)
    obtain ⟨v1, w1, hrun, hown2, hg, hat⟩ := run_moved (P := P) (W.alloc (.cells cs.toArray e)) base t o.type e i0 z d.sz bytes ht hi hz0 hz1 hz2 hz hs0 v xs.length inner hown1 hfull ⟨W.heap.size, 0, none⟩ cs (by rw [hcl]; simp) hnews (by simp only [maxLen]; omega) hl (by simp; omega)
    have hg2 : W.grownBy w1 none := World.grownBy.trans hga hg
    have hat2 : ∃ b, v1.ownBlock = some b ∧ W.heap.size ≤ b := ⟨_, hat, by simp⟩
    refine wpList_plain hgd fun K hK => ?_
    unfold Oper.wp execOp
    simp only [ho, resolve, invoke, builtin, Sem.run_bind, Sem.run_pure, Result.andThen_ok, List.map_toArray, List.map_cons, List.map_nil, hs, hx, hrun]
    exact hK _ _ (h v1 w1 (Kd.R_appended h0 hr hp hokp hfresh hown2 (weaken hg2) (.inr hat2)) ((HB.alloc hbase _).grown hg (by simp; omega) (fun k hk => by cases hk)) (weaken hg2) (.inr ⟨hat2, hg2⟩))
end
end Go.Proofs.Ytjeaojolhdfpeaa.Grow
