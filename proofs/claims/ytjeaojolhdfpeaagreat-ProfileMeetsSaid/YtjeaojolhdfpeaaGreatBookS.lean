/- Profile's book: its map's keys (places) and elements (pointers). -/
/- Profile's book: the atomic counter's Load and Store. -/
import Derived.Test.YtjeaojolhdfpeaaGreatProg
import Derived.Test.YtjeaojolhdfpeaaGreatWMore
import Derived.Maps.RangeWalk
import Derived.Maps.OwnOps
import Derived.Maps.Views
import Derived.DeepKeys4
import Derived.KernelRfl
import Derived.Laws.LoneSync
namespace Go.Proofs.YtjeaojolhdfpeaaGreat.BookK
open Go.RowKit Go.Maps Go.Proofs.YtjeaojolhdfpeaaGreatW.PrintWords
set_option linter.unusedVariables false
set_option linter.unusedSimpArgs false

theorem laidOut : laidOutB Tryz.prog = true := by kernel_rfl
theorem row90 : (90 : TypeId) < Tryz.prog.types.size := of_decide_eq_true (by kernel_rfl)
theorem wide130 : (match Tryz.prog.underlying 90 with | some (.array _ _) | some (.struct _) => true | _ => false) = true := by kernel_rfl
set_option maxRecDepth 100000 in
theorem keyed : Keyed Tryz.prog 90 := Keyed.of_law (deep_law_laid laidOut (m := 2) (by omega) row90 (by kernel_rfl) wide130)
theorem cells130 : Tryz.prog.cellsOf 90 = 2 := by kernel_rfl
theorem cells3 : Tryz.prog.cellsOf 3 = 1 := by kernel_rfl
theorem keyT : Tryz.prog.keyType 90 = true := by kernel_rfl
/-- A place as a value, and as a key. -/
abbrev pv (a b : Int) : Value := .agg #[.int .i64 a, .int .i64 b]
def kp (a b : Int) : Lit := .string (keyBytes [.int .i64 a, .int .i64 b])
abbrev I64 (a : Int) : Prop := (Lit.int .i64 a).wf = true
theorem key_lits (a b : Int) (ha : I64 a) (hb : I64 b) (d : Nat) : Tryz.prog.keyLits (d + 2) 90 [.int .i64 a, .int .i64 b] = some [.int .i64 a, .int .i64 b] := by
  have h1 : ∀ x : Int, I64 x → Tryz.prog.keyLits (d + 1) 3 [.int .i64 x] = some [.int .i64 x] := fun x hx => by
    unfold Program.keyLits
    simp only [Tryz.underlying3]
    rw [if_pos ⟨trivial, hx⟩]
  unfold Program.keyLits
  simp only [Tryz.underlying90, cells130]
  rw [if_pos ⟨rfl, by kernel_rfl⟩]
  simp [cells3, h1 a ha, h1 b hb]
theorem keyOf_mk (a b : Int) (ha : I64 a) (hb : I64 b) : keyOf Tryz.prog 90 (pv a b) = some (kp a b) := by
  unfold keyOf
  simp only [Tryz.underlying90]
  have hf : (pv a b).formed Tryz.prog 90 = true := by simp [Value.formed, Tryz.underlying90, cells130]
  rw [if_pos (by rw [keyT, hf]; rfl)]
  obtain ⟨d, hd⟩ : ∃ d, Tryz.prog.types.size + 1 = d + 2 := ⟨Tryz.prog.types.size - 1, by have h : 90 < Tryz.prog.types.size := row90; omega⟩
  rw [hd]
  show (Tryz.prog.keyLits (d + 2) 90 [.int .i64 a, .int .i64 b]).map _ = _
  rw [key_lits a b ha hb d]
  rfl
set_option maxRecDepth 100000 in
theorem keyOf_inv {v : Value} {kl : Lit} (h : keyOf Tryz.prog 90 v = some kl) : ∃ a b, v = pv a b ∧ I64 a ∧ I64 b ∧ kl = kp a b := by
  have h3 : ∀ (d : Nat) (cs : List Value) (ls : List Lit), Tryz.prog.keyLits d 3 cs = some ls → ∃ x : Int, cs = [.int .i64 x] ∧ ls = [.int .i64 x] ∧ I64 x := fun d cs ls hl => by
    cases d with
    | zero => simp [Program.keyLits] at hl
    | succ d =>
      unfold Program.keyLits at hl
      simp only [Tryz.underlying3] at hl
      match cs, hl with
      | [.int q n], hl =>
        simp at hl
        obtain ⟨⟨rfl, hw⟩, rfl⟩ := hl
        exact ⟨n, rfl, rfl, hw⟩
  unfold keyOf at h
  simp only [Tryz.underlying90] at h
  split at h
  · rename_i hc
    rw [keyT, Bool.true_and] at hc
    obtain ⟨ls, hls, rfl⟩ := Option.map_eq_some_iff.1 h
    unfold Program.keyLits at hls
    simp only [Tryz.underlying90, cells130] at hls
    split at hls
    · rename_i hcs
      simp only [Value.formed, Tryz.underlying90, cells130] at hc
      cases v with
      | agg cs =>
        obtain ⟨l⟩ := cs
        have hl : l.length = 2 := by simpa using hc
        match l, hl with
        | [x, y], _ =>
          generalize Tryz.prog.types.size = D at hls
          cases hx : Tryz.prog.keyLits D 3 [x] with
          | none => simp [cells3, Value.cells, hx] at hls
          | some p =>
            cases hy : Tryz.prog.keyLits D 3 [y] with
            | none => simp [cells3, Value.cells, hx, hy] at hls
            | some q =>
              obtain ⟨a, e1, rfl, ha⟩ := h3 _ _ _ hx
              obtain ⟨b, e2, rfl, hb⟩ := h3 _ _ _ hy
              cases e1
              cases e2
              simp [cells3, Value.cells, hx, hy] at hls
              exact ⟨a, b, rfl, ha, hb, by rw [← hls]; rfl⟩
      | _ => cases hc
    · cases hls
  · cases h
theorem kp_inj {a b c d : Int} (ha : I64 a) (hb : I64 b) (hc : I64 c) (hd : I64 d) (h : kp a b = kp c d) : a = c ∧ b = d := by
  have h1 := keyed.inj (keyOf_mk a b ha hb) (h ▸ keyOf_mk c d hc hd)
  simp [pv] at h1
  exact h1
/-- A pointer to a spot, as it reads. -/
def rp : Value → Option (DataW Unit × List MemPlace)
  | .pointer none => some (.lit (.int .i64 (-1)), [])
  | .pointer (some ⟨b, 0, none⟩) => some (.lit (.int .i64 b), [])
  | _ => none
abbrev pz (n : Int) : DataW Unit := .lit (.int .i64 n)
theorem rp_inv {v : Value} {y : DataW Unit × List MemPlace} (h : rp v = some y) : (v = .pointer none ∧ y = (pz (-1), [])) ∨ ∃ b : Nat, v = .pointer (some ⟨b, 0, none⟩) ∧ y = (pz b, []) := by
  unfold rp at h
  split at h
  · exact .inl ⟨rfl, (Option.some.inj h).symm⟩
  · exact .inr ⟨_, rfl, (Option.some.inj h).symm⟩
  · cases h
theorem zero120 (w : World) : (zeroValue 80).run Tryz.prog w = .ok (.pointer none) w := by kernel_rfl
end Go.Proofs.YtjeaojolhdfpeaaGreat.BookK

namespace Go.Proofs.YtjeaojolhdfpeaaGreat.BookS
open Go.RowKit Go.Proofs.YtjeaojolhdfpeaaGreatW.PrintWords
set_option linter.unusedVariables false
set_option linter.unusedSimpArgs false

theorem load_calls (g : Nat) (v : Int) (w : World) (h : w.cell? ⟨g, 0, none⟩ = some (.int .i64 v)) : Calls Tryz.prog 42 #[.pointer (some ⟨g, 0, none⟩)] w fun e w' => e = .returned (.int .i64 v) ∧ w' = w := by
  have hl := run_call_load (P := Tryz.prog) Tryz.func91 (by kernel_rfl) (by kernel_rfl) (by kernel_rfl) .i64 (by kernel_rfl) h
  go_enter Tryz.func42, Tryz.ntmps42
  go_wp2
  go_ret
  exact ⟨rfl, rfl⟩
theorem store_calls (g : Nat) (v : Int) (u : Value) (w : World) (h : w.cell? ⟨g, 0, none⟩ = some u) (hz : w.frozen? ⟨g, 0, none⟩ = false) : Calls Tryz.prog 35 #[.pointer (some ⟨g, 0, none⟩), .int .i64 v] w fun e w' => e = .returned (.tuple #[]) ∧ w' = w.setCell ⟨g, 0, none⟩ (.int .i64 v) := by
  have hl := run_call_store (P := Tryz.prog) Tryz.func87 (by kernel_rfl) (by kernel_rfl) (by kernel_rfl) (by kernel_rfl) (k := .i64) (y := v) h hz
  go_enter Tryz.func35, Tryz.ntmps35
  go_wp2
  go_end0
  exact ⟨rfl, rfl⟩
end Go.Proofs.YtjeaojolhdfpeaaGreat.BookS
