-- printed by print.sh 35421559b90ae4d0a3588c463048766b98c2df88dd9212a6774a882060cdf62d, cut by a program to what the claim asks for
/- Profile's book: its map's keys (places) and elements (pointers). -/
/- Profile's book: the atomic counter's Load and Store. -/
import Derived.Test.YtjeaojolhdfpeaaGreatWWords
import Derived.Test.YtjeaojolhdfpeaaGreatWLast
import Derived.Test.YtjeaojolhdfpeaaGreatWApart
import Derived.Test.YtjeaojolhdfpeaaGreatWShare
import Derived.Test.YtjeaojolhdfpeaaGreatWNEv
import Derived.Test.YtjeaojolhdfpeaaGreatProg
import Derived.Maps.RangeWalk
import Derived.Maps.OwnOps
import Derived.Maps.Views
import Derived.DeepKeys4
import Derived.KernelRfl
import Derived.Laws.LoneSync
-- PRINTED WORDS (module Derived/Print/More.lean): go-gate-2's additions: an AI agent of Go's test side, Tue Nov 17 2026; no person has read it. Lean checks it.
namespace Go.Proofs.YtjeaojolhdfpeaaGreatW.PrintMore
open Go.RowKit Go.Proofs.YtjeaojolhdfpeaaGreatW.PrintWords
namespace Kd
open Go.Proofs.YtjeaojolhdfpeaaGreatW.PrintWords.Kd
end Kd

namespace Kd
open Go.Proofs.YtjeaojolhdfpeaaGreatW.PrintWords.Kd
section
variable {α : Type} {d : Kd α} {e base g N : Nat} {ok : Nat → Prop} {W w1 : World} {u v : Value} {xs : List α}
end
end Kd
/-- 'max' and 'min' of two whole numbers. -/
theorem max2_int (k k' : IntKind) (x y : Int) : Builtin.max2 (.int k x) (.int k' y) = pure (.int k (if x < y then y else x)) := by simp only [Builtin.max2, gt_iff_lt]
theorem min2_int (k k' : IntKind) (x y : Int) : Builtin.min2 (.int k x) (.int k' y) = pure (.int k (if y < x then y else x)) := by simp only [Builtin.min2]
theorem max_two (ats : Array TypeId) (ty : TypeId) (a b : Value) : Builtin.max_ ats ty #[a, b] = (Builtin.max2 a b >>= fun s => pure s) := by simp only [Builtin.max_, List.foldlM_cons, List.foldlM_nil]
theorem min_two (ats : Array TypeId) (ty : TypeId) (a b : Value) : Builtin.min_ ats ty #[a, b] = (Builtin.min2 a b >>= fun s => pure s) := by simp only [Builtin.min_, List.foldlM_cons, List.foldlM_nil]
theorem max_three (ats : Array TypeId) (ty : TypeId) (a b c : Value) : Builtin.max_ ats ty #[a, b, c] = (Builtin.max2 a b >>= fun s => Builtin.max2 s c >>= fun s => pure s) := by simp only [Builtin.max_, List.foldlM_cons, List.foldlM_nil]
theorem min_three (ats : Array TypeId) (ty : TypeId) (a b c : Value) : Builtin.min_ ats ty #[a, b, c] = (Builtin.min2 a b >>= fun s => Builtin.min2 s c >>= fun s => pure s) := by simp only [Builtin.min_, List.foldlM_cons, List.foldlM_nil]
theorem max_four (ats : Array TypeId) (ty : TypeId) (a b c d : Value) : Builtin.max_ ats ty #[a, b, c, d] = (Builtin.max2 a b >>= fun s => Builtin.max2 s c >>= fun s => Builtin.max2 s d >>= fun s => pure s) := by simp only [Builtin.max_, List.foldlM_cons, List.foldlM_nil]
theorem min_four (ats : Array TypeId) (ty : TypeId) (a b c d : Value) : Builtin.min_ ats ty #[a, b, c, d] = (Builtin.min2 a b >>= fun s => Builtin.min2 s c >>= fun s => Builtin.min2 s d >>= fun s => pure s) := by simp only [Builtin.min_, List.foldlM_cons, List.foldlM_nil]
end Go.Proofs.YtjeaojolhdfpeaaGreatW.PrintMore
namespace Go.Proofs.YtjeaojolhdfpeaaGreatW.PrintWords
open Go.RowKit
section
variable {P : Program} {ops : Array Oper} {rest : List Oper} {o : Oper} {a : Act} {Q : Exit → Act → World → Prop} {W : World}
/-- The operation is a builtin over these places. -/
theorem gate_builtin {b : Builtin} {xs : Array Operand} {ts : Array TypeId} (_ho : o.op = .call { callee := .builtin b, args := xs, argTypes := ts }) (h : wpList P ops Q (o :: rest) a W) : wpList P ops Q (o :: rest) a W := h
end
/-- The greater of two whole numbers, as Go's max tells it. -/
def mx (a b : Int) : Int := if a < b then b else a
/-- A shift to the left, as Go tells it: a count beyond the width leaves nothing. -/
def shl (k : IntKind) (x y : Int) : Int := k.wrap (x * 2 ^ min y.toNat k.bits)
/-- A shift to the right: a count beyond the width leaves the sign. -/
def shr (k : IntKind) (x y : Int) : Int := x / 2 ^ min y.toNat k.bits
theorem shl_small {k : IntKind} {x y j : Int} (h : shl k x y = j) (hy : y ≤ k.bits) : k.wrap (x * 2 ^ y.toNat) = j := by rw [← h]; unfold shl; rw [Nat.min_eq_left (by omega)]
theorem shr_small {k : IntKind} {x y j : Int} (h : shr k x y = j) (hy : y ≤ k.bits) : x / 2 ^ y.toNat = j := by rw [← h]; unfold shr; rw [Nat.min_eq_left (by omega)]
namespace Kd
section
variable {α : Type} {d : Kd α} {e base : Nat} {ok : Nat → Prop} {W w1 : World} {v : Value} {xs : List α}
/-- The same, where the row that was written may be none. -/
theorem R_grown2 (h : d.R e W base ok v xs) (hE : d.E = []) {row : Option Nat} (hg : W.grownBy w1 row) (hne : ∀ k, row = some k → some k ≠ v.ownBlock) : d.R e w1 base ok v xs :=
  R_mono (R_grown (R_tight hE h) hg (fun k hk e_ => hne k e_.symm hk)) (fun k hk => h.1 k hk.symm)
end
section
variable {α : Type} {d : Kd α} {e base g n cap : Nat} {ok oki okp : Nat → Prop} {W : World} {xs : List α} {i : Int} {c : List Value}
end
section
variable {α : Type} {d : Kd α} {e base b b' g N : Nat} {ok ok1 : Nat → Prop} {W W2 w1 : World} {u v : Value} {xs ys : List α} {S : Nat → Prop}
theorem own_raise {n size : Nat} {cs : List Value} (h : W.ownsRow b e size v n cs) (hb : ∀ k, v.ownBlock = some k → b' ≤ k) : W.ownsRow b' e size v n cs := by
  obtain ⟨h1, h2⟩ := h
  refine ⟨h1, ?_⟩
  rcases h2 with h2 | ⟨g, cap, cur, rfl, _, r⟩
  · exact .inl h2
  · exact .inr ⟨g, cap, cur, rfl, hb g (by simp [Value.ownBlock]), r⟩
/-- A row whose elements lead to nothing, and whose block is younger than was told. -/
theorem R_raise (hM : ∀ w ok x cs, d.M w b ok x cs → d.M w b' ok x cs) (h : d.R e W b ok v xs) (hb : ∀ k, v.ownBlock = some k → b' ≤ k) : d.R e W b' ok v xs := by
  obtain ⟨h0, inner, ho, hr⟩ := h
  exact ⟨h0, inner, own_raise ho hb, hr.imp_ (fun _ _ hp => hM _ _ _ _ hp)⟩
end
end Kd
end Go.Proofs.YtjeaojolhdfpeaaGreatW.PrintWords
namespace Go.Proofs.YtjeaojolhdfpeaaGreatW.PrintWords
open Go.RowKit
namespace Kd
/-- A row that is only read, told by its value: its form, its length, what it leads to (in ok). e and base say nothing; they make it as the others are. -/
def V {α : Type} (d : Kd α) (_e : Nat) (W : World) (_base : Nat) (ok : Nat → Prop) (v : Value) (xs : List α) : Prop := ∃ A c, v = .slice A xs.length c ∧ xs.length ≤ c ∧ F d W ok A xs.length xs
section
variable {α β : Type} {d : Kd α} {e base base' n m c g N' lo hi : Nat} {ok ok' S : Nat → Prop} {w W w1 : World} {A : Option Addr} {ad : Addr} {u v v1 : Value} {xs : List α}
theorem V_nil (d : Kd α) (e : Nat) (W : World) (base : Nat) (ok : Nat → Prop) : V d e W base ok (.slice none 0 0) [] := ⟨none, 0, rfl, Nat.le_refl _, F_nil d W ok⟩
theorem R_newM {M : Nat → Prop} (h : d.R e w1 W.heap.size ok v xs) (hle : w.heap.size ≤ W.heap.size) (hM : ∀ k, w.heap.size ≤ k → M k) : d.R e w1 W.heap.size (fun k => M k ∧ ok k) v xs := R_mono (R_bound h) (fun k hk => ⟨hM k (Nat.le_trans hle hk.2.1), hk.1⟩)
end
end Kd
end Go.Proofs.YtjeaojolhdfpeaaGreatW.PrintWords

namespace Go.Proofs.YtjeaojolhdfpeaaGreat.BookK
open Go.RowKit Go.Maps Go.Proofs.YtjeaojolhdfpeaaGreatW.PrintWords
set_option linter.unusedVariables false
set_option linter.unusedSimpArgs false

theorem laidOut : laidOutB Tryz.prog = true := by kernel_rfl
theorem row90 : (90 : TypeId) < Tryz.prog.types.size := of_decide_eq_true (by kernel_rfl)
theorem wide130 : (match Tryz.prog.underlying 90 with | some (.array _ _) | some (.struct _) => true | _ => false) = true := by kernel_rfl
set_option maxRecDepth 100000 in
theorem keyed : Keyed Tryz.prog 90 := Keyed.of_law (deep_law_laid laidOut (m := 2) (by omega) row90 (by kernel_rfl) wide130)
theorem cells130 : Tryz.prog.cellsOf 90 = 2 := by kernel_rfl
theorem cells3 : Tryz.prog.cellsOf 3 = 1 := by kernel_rfl
theorem keyT : Tryz.prog.keyType 90 = true := by kernel_rfl
/-- A place as a value, and as a key. -/
abbrev pv (a b : Int) : Value := .agg #[.int .i64 a, .int .i64 b]
def kp (a b : Int) : Lit := .string (keyBytes [.int .i64 a, .int .i64 b])
abbrev I64 (a : Int) : Prop := (Lit.int .i64 a).wf = true
theorem key_lits (a b : Int) (ha : I64 a) (hb : I64 b) (d : Nat) : Tryz.prog.keyLits (d + 2) 90 [.int .i64 a, .int .i64 b] = some [.int .i64 a, .int .i64 b] := by
  have h1 : ∀ x : Int, I64 x → Tryz.prog.keyLits (d + 1) 3 [.int .i64 x] = some [.int .i64 x] := fun x hx => by
    unfold Program.keyLits
    simp only [Tryz.underlying3]
    rw [if_pos ⟨trivial, hx⟩]
  unfold Program.keyLits
  simp only [Tryz.underlying90, cells130]
  rw [if_pos ⟨rfl, by kernel_rfl⟩]
  simp [cells3, h1 a ha, h1 b hb]
theorem keyOf_mk (a b : Int) (ha : I64 a) (hb : I64 b) : keyOf Tryz.prog 90 (pv a b) = some (kp a b) := by
  unfold keyOf
  simp only [Tryz.underlying90]
  have hf : (pv a b).formed Tryz.prog 90 = true := by simp [Value.formed, Tryz.underlying90, cells130]
  rw [if_pos (by rw [keyT, hf]; rfl)]
  obtain ⟨d, hd⟩ : ∃ d, Tryz.prog.types.size + 1 = d + 2 := ⟨Tryz.prog.types.size - 1, by have h : 90 < Tryz.prog.types.size := row90; omega⟩
  rw [hd]
  show (Tryz.prog.keyLits (d + 2) 90 [.int .i64 a, .int .i64 b]).map _ = _
  rw [key_lits a b ha hb d]
  rfl
set_option maxRecDepth 100000 in
theorem keyOf_inv {v : Value} {kl : Lit} (h : keyOf Tryz.prog 90 v = some kl) : ∃ a b, v = pv a b ∧ I64 a ∧ I64 b ∧ kl = kp a b := by
  have h3 : ∀ (d : Nat) (cs : List Value) (ls : List Lit), Tryz.prog.keyLits d 3 cs = some ls → ∃ x : Int, cs = [.int .i64 x] ∧ ls = [.int .i64 x] ∧ I64 x := fun d cs ls hl => by
    cases d with
    | zero => simp [Program.keyLits] at hl
    | succ d =>
      unfold Program.keyLits at hl
      simp only [Tryz.underlying3] at hl
      match cs, hl with
      | [.int q n], hl =>
        simp at hl
        obtain ⟨⟨rfl, hw⟩, rfl⟩ := hl
        exact ⟨n, rfl, rfl, hw⟩
  unfold keyOf at h
  simp only [Tryz.underlying90] at h
  split at h
  · rename_i hc
    rw [keyT, Bool.true_and] at hc
    obtain ⟨ls, hls, rfl⟩ := Option.map_eq_some_iff.1 h
    unfold Program.keyLits at hls
    simp only [Tryz.underlying90, cells130] at hls
    split at hls
    · rename_i hcs
      simp only [Value.formed, Tryz.underlying90, cells130] at hc
      cases v with
      | agg cs =>
        obtain ⟨l⟩ := cs
        have hl : l.length = 2 := by simpa using hc
        match l, hl with
        | [x, y], _ =>
          generalize Tryz.prog.types.size = D at hls
          cases hx : Tryz.prog.keyLits D 3 [x] with
          | none => simp [cells3, Value.cells, hx] at hls
          | some p =>
            cases hy : Tryz.prog.keyLits D 3 [y] with
            | none => simp [cells3, Value.cells, hx, hy] at hls
            | some q =>
              obtain ⟨a, e1, rfl, ha⟩ := h3 _ _ _ hx
              obtain ⟨b, e2, rfl, hb⟩ := h3 _ _ _ hy
              cases e1
              cases e2
              simp [cells3, Value.cells, hx, hy] at hls
              exact ⟨a, b, rfl, ha, hb, by rw [← hls]; rfl⟩
      | _ => cases hc
    · cases hls
  · cases h
theorem kp_inj {a b c d : Int} (ha : I64 a) (hb : I64 b) (hc : I64 c) (hd : I64 d) (h : kp a b = kp c d) : a = c ∧ b = d := by
  have h1 := keyed.inj (keyOf_mk a b ha hb) (h ▸ keyOf_mk c d hc hd)
  simp [pv] at h1
  exact h1
/-- A pointer to a spot, as it reads. -/
def rp : Value → Option (DataW Unit × List MemPlace)
  | .pointer none => some (.lit (.int .i64 (-1)), [])
  | .pointer (some ⟨b, 0, none⟩) => some (.lit (.int .i64 b), [])
  | _ => none
abbrev pz (n : Int) : DataW Unit := .lit (.int .i64 n)
theorem rp_inv {v : Value} {y : DataW Unit × List MemPlace} (h : rp v = some y) : (v = .pointer none ∧ y = (pz (-1), [])) ∨ ∃ b : Nat, v = .pointer (some ⟨b, 0, none⟩) ∧ y = (pz b, []) := by
  unfold rp at h
  split at h
  · exact .inl ⟨rfl, (Option.some.inj h).symm⟩
  · exact .inr ⟨_, rfl, (Option.some.inj h).symm⟩
  · cases h
theorem zero120 (w : World) : (zeroValue 80).run Tryz.prog w = .ok (.pointer none) w := by kernel_rfl
end Go.Proofs.YtjeaojolhdfpeaaGreat.BookK

namespace Go.Proofs.YtjeaojolhdfpeaaGreat.BookS
open Go.RowKit Go.Proofs.YtjeaojolhdfpeaaGreatW.PrintWords
set_option linter.unusedVariables false
set_option linter.unusedSimpArgs false

theorem load_calls (g : Nat) (v : Int) (w : World) (h : w.cell? ⟨g, 0, none⟩ = some (.int .i64 v)) : Calls Tryz.prog 42 #[.pointer (some ⟨g, 0, none⟩)] w fun e w' => e = .returned (.int .i64 v) ∧ w' = w := by
  have hl := run_call_load (P := Tryz.prog) Tryz.func91 (by kernel_rfl) (by kernel_rfl) (by kernel_rfl) .i64 (by kernel_rfl) h
  go_enter Tryz.func42, Tryz.ntmps42
  go_wp2
  go_ret
  exact ⟨rfl, rfl⟩
theorem store_calls (g : Nat) (v : Int) (u : Value) (w : World) (h : w.cell? ⟨g, 0, none⟩ = some u) (hz : w.frozen? ⟨g, 0, none⟩ = false) : Calls Tryz.prog 35 #[.pointer (some ⟨g, 0, none⟩), .int .i64 v] w fun e w' => e = .returned (.tuple #[]) ∧ w' = w.setCell ⟨g, 0, none⟩ (.int .i64 v) := by
  have hl := run_call_store (P := Tryz.prog) Tryz.func87 (by kernel_rfl) (by kernel_rfl) (by kernel_rfl) (by kernel_rfl) (k := .i64) (y := v) h hz
  go_enter Tryz.func35, Tryz.ntmps35
  go_wp2
  go_end0
  exact ⟨rfl, rfl⟩
end Go.Proofs.YtjeaojolhdfpeaaGreat.BookS
