/- A family of books, each of its own blocks; a note told to one of them. -/
/- A spot's first field. -/
/-
  DERIVED: THE SHELF's CONTRACTS AT THIS DUMP, IN PLAIN WORDS (tools/lay-plain.mjs out of 'YtjeaojolhdfpeaaGreatShelf.lean', which tools/lay-shelf.mjs wrote): THE SAME DECLARATIONS UNDER THE SAME NAMES: 'import', 'namespace', 'open', 'def', 'theorem' AND NOTHING ELSE: no command of the shelf's: FOR A HAND-IN. Each laying: the table of numbers ('.._ren') and one theorem, a field a fact of the dump's own or the kernel's comparison; each contract: ONE APPLICATION.
-/
import Derived.Test.YtjeaojolhdfpeaaGreatCutP
import Derived.Test.YtjeaojolhdfpeaaGreatBookP
import Derived.Test.YtjeaojolhdfpeaaGreatPProfileCutx2
import Derived.Test.YtjeaojolhdfpeaaGreatCutT
import Derived.Test.YtjeaojolhdfpeaaGreatPProfileCutx4
import Derived.Test.YtjeaojolhdfpeaaGreatPProfileCutx5
import Derived.Test.YtjeaojolhdfpeaaGreatCutK
import Derived.Shelf.SlIterI.Collect
import Derived.Shelf.SlSortCmp.Whole1
import Derived.Test.YtjeaojolhdfpeaaGreatProg
namespace Go.Proofs.YtjeaojolhdfpeaaGreat.CutB
open Go.RowKit Go.Maps Go.Proofs.YtjeaojolhdfpeaaGreatW.PrintWords Go.Proofs.YtjeaojolhdfpeaaGreatW.PrintLast Go.Proofs.YtjeaojolhdfpeaaGreatW.PrintMore
open Go.Proofs.YtjeaojolhdfpeaaGreat.PProfileCut Go.Proofs.YtjeaojolhdfpeaaGreat.BookB Go.Proofs.YtjeaojolhdfpeaaGreat.BookN Go.Proofs.YtjeaojolhdfpeaaGreat.BookO Go.Proofs.YtjeaojolhdfpeaaGreat.BookT Go.Proofs.YtjeaojolhdfpeaaGreat.MergeP Go.Proofs.YtjeaojolhdfpeaaGreat.MeetsP Go.Proofs.YtjeaojolhdfpeaaGreat.CutP
set_option linter.unusedVariables false
set_option linter.unusedSimpArgs false

def upd {α : Type} (f : Nat → α) (t : Nat) (x : α) : Nat → α := fun u => if u = t then x else f u
theorem upd_same {α : Type} (f : Nat → α) (t : Nat) (x : α) : upd f t x t = x := if_pos rfl
theorem upd_other {α : Type} (f : Nat → α) {t u : Nat} (x : α) (h : u ≠ t) : upd f t x u = f u := if_neg h
structure BS (w0 W : World) (bp : Nat → Nat) (S : Nat → Nat → Prop) (F : Nat → List (List S51)) (N : Nat → Nat) (n : Nat) : Prop where
  below : Below w0.heap.size w0 W
  book : ∀ t, t < n → Bk W (S t) (bp t) (F t) (N t)
  sub : ∀ t, t < n → ∀ k, S t k → w0.heap.size ≤ k ∧ k < W.heap.size
  apart : ∀ t, t < n → ∀ u, u < n → t ≠ u → ∀ k, S t k → ¬ S u k
section
variable {w0 W W1 : World} {bp : Nat → Nat} {S : Nat → Nat → Prop} {F : Nat → List (List S51)} {N : Nat → Nat} {n : Nat}
theorem BS.next (h : BS w0 W bp S F N n) (hb : Below W.heap.size W W1) : BS w0 W1 bp S F N n :=
  ⟨below_step h.below hb, fun t ht => (h.book t ht).turn (Turn.of_below hb (fun _ => False)) (fun _ _ h => h), fun t ht k hk => ⟨(h.sub t ht k hk).1, Nat.lt_of_lt_of_le (h.sub t ht k hk).2 hb.size⟩, h.apart⟩
theorem BS.nil (hb : Below w0.heap.size w0 W) : BS w0 W bp S F N 0 := ⟨hb, fun t h => absurd h (Nat.not_lt_zero _), fun t h => absurd h (Nat.not_lt_zero _), fun t h => absurd h (Nat.not_lt_zero _)⟩
/-- One more. -/
theorem BS.add (h : BS w0 W bp S F N n) (hb : Below W.heap.size W W1) {q M : Nat} {S' : Nat → Prop} {F' : List (List S51)} (hB : Bk W1 S' q F' M) (hs : ∀ k, S' k → W.heap.size ≤ k) :
    BS w0 W1 (upd bp n q) (upd S n (fun k => S' k ∧ k < W1.heap.size)) (upd F n F') (upd N n M) (n + 1) := by
  have h1 := h.next hb
  have hw := h.below.size
  refine ⟨h1.below, fun t ht => ?_, fun t ht k hk => ?_, fun t ht u hu htu k hk hk2 => ?_⟩
  · by_cases e : t = n
    · subst e
      simp only [upd_same]
      exact Bk.shrink hB
    · simp only [upd_other _ _ e]
      exact h1.book t (by omega)
  · by_cases e : t = n
    · subst e
      simp only [upd_same] at hk
      exact ⟨by have := hs k hk.1; omega, hk.2⟩
    · simp only [upd_other _ _ e] at hk
      exact h1.sub t (by omega) k hk
  · by_cases e : t = n
    · subst e
      simp only [upd_same] at hk
      simp only [upd_other _ _ (Ne.symm htu)] at hk2
      have := (h.sub u (by omega) k hk2).2
      have := hs k hk.1
      omega
    · simp only [upd_other _ _ e] at hk
      by_cases e2 : u = n
      · subst e2
        simp only [upd_same] at hk2
        have := (h.sub t (by omega) k hk).2
        have := hs k hk2.1
        omega
      · simp only [upd_other _ _ e2] at hk2
        exact h.apart t (by omega) u (by omega) htu k hk hk2
/-- One of them has been told a note. -/
theorem BS.told (h : BS w0 W bp S F N n) {t : Nat} (ht : t < n) {M : Nat} {S' : Nat → Prop} {F' : List (List S51)} (hB : Bk W1 S' (bp t) F' M) (hs : ∀ k, S' k → S t k ∨ W.heap.size ≤ k) (hT : Turn W W1 (S t)) :
    BS w0 W1 bp (upd S t (fun k => S' k ∧ k < W1.heap.size)) (upd F t F') (upd N t M) n := by
  have hw := h.below.size
  have hlt : ∀ u, u < n → ∀ k, S u k → k < W.heap.size := fun u hu k hk => (h.sub u hu k hk).2
  refine ⟨h.below.trans (hT.below (fun k hk => (h.sub t ht k hk).1) hw), fun u hu => ?_, fun u hu k hk => ?_, fun u hu v hv huv k hk hk2 => ?_⟩
  · by_cases e : u = t
    · subst e
      simp only [upd_same]
      exact Bk.shrink hB
    · simp only [upd_other _ _ e]
      exact (h.book u hu).turn hT (fun k hk e2 => h.apart u hu t ht e k hk e2)
  · by_cases e : u = t
    · subst e
      simp only [upd_same] at hk
      exact ⟨(hs k hk.1).elim (fun h2 => (h.sub u hu k h2).1) (fun h2 => by omega), hk.2⟩
    · simp only [upd_other _ _ e] at hk
      exact ⟨(h.sub u hu k hk).1, Nat.lt_of_lt_of_le (hlt u hu k hk) hT.size⟩
  · by_cases e : u = t
    · subst e
      simp only [upd_same] at hk
      simp only [upd_other _ _ (Ne.symm huv)] at hk2
      exact (hs k hk.1).elim (fun h2 => h.apart u hu v hv huv k h2 hk2) (fun h2 => by have := hlt v hv k hk2; omega)
    · simp only [upd_other _ _ e] at hk
      by_cases e2 : v = t
      · subst e2
        simp only [upd_same] at hk2
        exact (hs k hk2.1).elim (fun h2 => h.apart u hu v hv huv k hk h2) (fun h2 => by have := hlt u hu k hk; omega)
      · simp only [upd_other _ _ e2] at hk2
        exact h.apart u hu v hv huv k hk hk2
theorem tells (h : BS w0 W bp S F N n) {t : Nat} (ht : t < n) (m : Nt) {A : Option Addr} {c : Nat} (hv : Kd.C k48 w0 A m.args.length m.args) (hc : m.args.length ≤ c) (hl : m.args.length < 4398046511104) (hN : N t < 1099511627776) (hQ : QP (F t)) :
    Calls Tryz.prog 13 #[.pointer (some ⟨bp t, 0, none⟩), .agg #[.int .i64 m.on, .int .i64 m.fn, .int .i64 m.pc, .slice A m.args.length c, .int .i64 m.callee, .bool m.ask]] W fun e w' => e = .returned (.bool true) ∧ ∃ S', BS w0 w' bp S' (upd F t (nt (F t) m)) (upd N t (N t + 1)) n := by
  refine (tell_calls w0 (bp t) (N t) (S t) (F t) m.on m.fn m.pc A c m.args m.callee m.ask W (h.book t ht) (h.sub t ht) h.below hv hc hl hN hQ.rg).mono ?_
  rintro e w' ⟨rfl, S', hB, hs, hT⟩
  exact ⟨rfl, _, h.told ht hB hs hT⟩
theorem bk_lens {S : Nat → Prop} {q M : Nat} {F : List (List S51)} (h : Bk W S q F M) : F.length ≤ 1099511627776 ∧ ∀ x ∈ F, x.length ≤ 1099511627776 := by
  obtain ⟨mp, A, c, D, h⟩ := h
  refine ⟨h.len.1, fun x hx => ?_⟩
  obtain ⟨i, hi, rfl⟩ := List.getElem_of_mem hx
  have := h.len.2 i
  simpa [rw_, List.getD_eq_getElem?_getD, hi] using this
end
theorem rd_mem {ns : List Nt} {k : Nat} (h : k < ns.length) : rdN ns (k : Int) ∈ ns := by
  simp only [rdN, Int.toNat_natCast, List.getD_eq_getElem?_getD, List.getElem?_eq_getElem h, Option.getD_some]
  exact List.getElem_mem h
end Go.Proofs.YtjeaojolhdfpeaaGreat.CutB

namespace Go.Proofs.YtjeaojolhdfpeaaGreat.PProfileCut
open Go.RowKit Go.Proofs.YtjeaojolhdfpeaaGreatW.PrintWords
theorem f28 {w : World} {a b c d : Value} : (Instr.field 51 (.agg #[a, b, c, d]) 0).run Tryz.prog w = .ok a w := by
  have h28 := Tryz.underlying51
  have i0 := Tryz.sizeOf2
  have i1 := Tryz.isAgg2
  simp [Instr.field, run_underlying h28, asAgg, part, i0, i1]
end Go.Proofs.YtjeaojolhdfpeaaGreat.PProfileCut

namespace Go.Proofs
open Go.Shelf
def Tryz.hotKeys_ren : Go.Shelf.Ren := ⟨fun | 7 => 59 | 10 => 109 | n => n, fun | 23 => 118 | 26 => 3 | 3 => 2 | 28 => 121 | 0 => 0 | 27 => 120 | 33 => 152 | 4 => 4 | n => n, fun | n => n⟩
theorem Tryz.hotKeys : Go.Proofs.SlLaysZI.n7 Tryz.prog Tryz.hotKeys_ren := {
  mixed := by kernel_rfl
  f7 := ⟨Tryz.f59.name, by decide, Tryz.func59.trans (congrArg some (by kernel_rfl))⟩
  f10 := ⟨Tryz.f109.name, by decide, Tryz.func109.trans (congrArg some (by kernel_rfl))⟩
  t0 := Tryz.underlying0
  a0 := Tryz.isAgg0
  z0 := Tryz.sizeOf0
  v0 := Tryz.zeroValue0
  t4 := Tryz.underlying4
  a4 := Tryz.isAgg4
  z4 := Tryz.sizeOf4
  v4 := Tryz.zeroValue4
  t23 := Tryz.underlying118
  a23 := Tryz.isAgg118
  z23 := Tryz.sizeOf118
  v23 := Tryz.zeroValue118
  t26 := Tryz.underlying3
  a26 := Tryz.isAgg3
  z26 := Tryz.sizeOf3
  v26 := Tryz.zeroValue3
  t27 := Tryz.underlying120
  a27 := Tryz.isAgg120
  z27 := Tryz.sizeOf120
  v27 := Tryz.zeroValue120
  t28 := Tryz.underlying121
  a28 := Tryz.isAgg121
  z28 := Tryz.sizeOf121
  v28 := Tryz.zeroValue121
  t33 := Tryz.underlying152
  a33 := Tryz.isAgg152
  z33 := Tryz.sizeOf152
  v33 := Tryz.zeroValue152 }
def Tryz.hotCollect_ren : Go.Shelf.Ren := ⟨fun | 8 => 107 | 11 => 136 | n => n, fun | 26 => 3 | 28 => 121 | 24 => 60 | 0 => 0 | 33 => 152 | 4 => 4 | n => n, fun | n => n⟩
theorem Tryz.hotCollect : Go.Proofs.SlLaysZI.n8 Tryz.prog Tryz.hotCollect_ren := {
  mixed := by kernel_rfl
  f8 := ⟨Tryz.f107.name, by decide, Tryz.func107.trans (congrArg some (by kernel_rfl))⟩
  f11 := ⟨Tryz.f136.name, by decide, Tryz.func136.trans (congrArg some (by kernel_rfl))⟩
  t0 := Tryz.underlying0
  a0 := Tryz.isAgg0
  z0 := Tryz.sizeOf0
  v0 := Tryz.zeroValue0
  t24 := Tryz.underlying60
  a24 := Tryz.isAgg60
  z24 := Tryz.sizeOf60
  v24 := Tryz.zeroValue60
  t26 := Tryz.underlying3
  a26 := Tryz.isAgg3
  z26 := Tryz.sizeOf3
  v26 := Tryz.zeroValue3
  t28 := Tryz.underlying121
  a28 := Tryz.isAgg121
  z28 := Tryz.sizeOf121
  v28 := Tryz.zeroValue121
  i26 := by kernel_rfl }
def Tryz.hotSort_ren : Go.Shelf.Ren := ⟨fun | 6 => 108 | 15 => 89 | 14 => 137 | 28 => 127 | 29 => 128 | 20 => 153 | 21 => 154 | 22 => 155 | 23 => 156 | 24 => 157 | 25 => 158 | 26 => 159 | 27 => 160 | 46 => 165 | 47 => 147 | 48 => 148 | 49 => 166 | 50 => 167 | 57 => 168 | n => n, fun | 22 => 60 | 24 => 3 | 25 => 42 | 3 => 3 | 39 => 126 | 0 => 0 | 53 => 191 | 55 => 107 | 4 => 4 | 46 => 184 | 45 => 183 | 50 => 188 | 5 => 5 | 9 => 9 | 66 => 205 | 70 => 208 | 76 => 217 | 77 => 218 | n => n, fun | n => n⟩
theorem Tryz.hotSort : Go.Proofs.SlLaysF.n6 Tryz.prog Tryz.hotSort_ren := {
  mixed := by kernel_rfl
  f6 := ⟨Tryz.f108.name, by decide, Tryz.func108.trans (congrArg some (by kernel_rfl))⟩
  f14 := ⟨Tryz.f137.name, by decide, Tryz.func137.trans (congrArg some (by kernel_rfl))⟩
  f15 := Tryz.func89.trans (congrArg some (by kernel_rfl))
  f20 := ⟨Tryz.f153.name, by decide, Tryz.func153.trans (congrArg some (by kernel_rfl))⟩
  f21 := ⟨Tryz.f154.name, by decide, Tryz.func154.trans (congrArg some (by kernel_rfl))⟩
  f22 := ⟨Tryz.f155.name, by decide, Tryz.func155.trans (congrArg some (by kernel_rfl))⟩
  f23 := ⟨Tryz.f156.name, by decide, Tryz.func156.trans (congrArg some (by kernel_rfl))⟩
  f24 := ⟨Tryz.f157.name, by decide, Tryz.func157.trans (congrArg some (by kernel_rfl))⟩
  f25 := ⟨Tryz.f158.name, by decide, Tryz.func158.trans (congrArg some (by kernel_rfl))⟩
  f26 := ⟨Tryz.f159.name, by decide, Tryz.func159.trans (congrArg some (by kernel_rfl))⟩
  f27 := ⟨Tryz.f160.name, by decide, Tryz.func160.trans (congrArg some (by kernel_rfl))⟩
  f28 := Tryz.func127.trans (congrArg some (by kernel_rfl))
  f29 := Tryz.func128.trans (congrArg some (by kernel_rfl))
  f46 := ⟨Tryz.f165.name, by decide, Tryz.func165.trans (congrArg some (by kernel_rfl))⟩
  f47 := Tryz.func147.trans (congrArg some (by kernel_rfl))
  f48 := Tryz.func148.trans (congrArg some (by kernel_rfl))
  f49 := ⟨Tryz.f166.name, by decide, Tryz.func166.trans (congrArg some (by kernel_rfl))⟩
  f50 := ⟨Tryz.f167.name, by decide, Tryz.func167.trans (congrArg some (by kernel_rfl))⟩
  f57 := ⟨Tryz.f168.name, by decide, Tryz.func168.trans (congrArg some (by kernel_rfl))⟩
  t0 := Tryz.underlying0
  a0 := Tryz.isAgg0
  z0 := Tryz.sizeOf0
  v0 := Tryz.zeroValue0
  t3 := Tryz.underlying3
  a3 := Tryz.isAgg3
  z3 := Tryz.sizeOf3
  v3 := Tryz.zeroValue3
  t4 := Tryz.underlying4
  a4 := Tryz.isAgg4
  z4 := Tryz.sizeOf4
  v4 := Tryz.zeroValue4
  t5 := Tryz.underlying5
  a5 := Tryz.isAgg5
  z5 := Tryz.sizeOf5
  v5 := Tryz.zeroValue5
  t9 := Tryz.underlying9
  a9 := Tryz.isAgg9
  z9 := Tryz.sizeOf9
  v9 := Tryz.zeroValue9
  t22 := Tryz.underlying60
  a22 := Tryz.isAgg60
  z22 := Tryz.sizeOf60
  v22 := Tryz.zeroValue60
  a24 := Tryz.isAgg3
  z24 := Tryz.sizeOf3
  t25 := Tryz.underlying42
  a25 := Tryz.isAgg42
  z25 := Tryz.sizeOf42
  v25 := Tryz.zeroValue42
  t39 := Tryz.underlying126
  a39 := Tryz.isAgg126
  z39 := Tryz.sizeOf126
  v39 := Tryz.zeroValue126
  t45 := Tryz.underlying183
  a45 := Tryz.isAgg183
  z45 := Tryz.sizeOf183
  v45 := Tryz.zeroValue183
  t46 := Tryz.underlying184
  a46 := Tryz.isAgg184
  z46 := Tryz.sizeOf184
  v46 := Tryz.zeroValue184
  t50 := Tryz.underlying188
  a50 := Tryz.isAgg188
  z50 := Tryz.sizeOf188
  v50 := Tryz.zeroValue188
  t53 := Tryz.underlying191
  a53 := Tryz.isAgg191
  z53 := Tryz.sizeOf191
  v53 := Tryz.zeroValue191
  t55 := Tryz.underlying107
  a55 := Tryz.isAgg107
  z55 := Tryz.sizeOf107
  v55 := Tryz.zeroValue107
  t66 := Tryz.underlying205
  a66 := Tryz.isAgg205
  z66 := Tryz.sizeOf205
  v66 := Tryz.zeroValue205
  t70 := Tryz.underlying208
  a70 := Tryz.isAgg208
  z70 := Tryz.sizeOf208
  v70 := Tryz.zeroValue208
  t76 := Tryz.underlying217
  a76 := Tryz.isAgg217
  z76 := Tryz.sizeOf217
  v76 := Tryz.zeroValue217
  t77 := Tryz.underlying218
  a77 := Tryz.isAgg218
  z77 := Tryz.sizeOf218
  v77 := Tryz.zeroValue218 }
end Go.Proofs
