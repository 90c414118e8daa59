/- SHA-256 in plain words: what both programs come to. -/
import Derived.Test.YtcgajjaaiablkaaWMore
import Derived.Laws.CopyOwn
import Derived.Test.YtcgajjaaiablkaaPRelaySealedx0
namespace Go.Proofs.Ytcgajjaaiablkaa.ShaP
open Go.RowKit Go.Proofs.YtcgajjaaiablkaaW.PrintWords Go.Proofs.YtcgajjaaiablkaaW.PrintLast Go.Proofs.YtcgajjaaiablkaaW.PrintMore
set_option linter.unusedVariables false
set_option linter.unusedSimpArgs false

/-- A row of 32-bit words as cells. -/
def u32s (l : List Int) : Array Value := (l.map fun x => Value.int .u32 x).toArray
def u8s (l : List Int) : Array Value := (l.map fun x => Value.int .u8 x).toArray
abbrev ad (x y : Int) : Int := IntKind.u32.wrap (x + y)
abbrev xo (x y : Int) : Int := Go.bits .xor .u32 x y
abbrev an (x y : Int) : Int := Go.bits .and .u32 x y
def ro (x n : Int) : Int := Go.bits .or .u32 (shr .u32 x n) (shl .u32 x (IntKind.u64.wrap (32 - n)))
def no (x : Int) : Int := Go.bits .xor .u32 (if IntKind.u32.signed = true then -1 else IntKind.u32.max) x
def t1 (e f g h : Int) : Int := h + xo (xo (ro e 6) (ro e 11)) (ro e 25) + xo (an e f) (an (no e) g)
def t2 (a b c : Int) : Int := xo (xo (ro a 2) (ro a 13)) (ro a 22) + xo (xo (an a b) (an a c)) (an b c)
/-- One of the 64 rounds. -/
def rnd (a b c d e f g h kw : Int) : List Int := [(t1 e f g h + kw + t2 a b c) % 4294967296, a, b, c, (d + (t1 e f g h + kw)) % 4294967296, e, f, g]
def rndL (x : List Int) (kw : Int) : List Int := rnd (rd x 0) (rd x 1) (rd x 2) (rd x 3) (rd x 4) (rd x 5) (rd x 6) (rd x 7) kw
def s0 (x : Int) : Int := xo (xo (ro x 7) (ro x 18)) (x / 8)
def s1 (x : Int) : Int := xo (xo (ro x 17) (ro x 19)) (x / 1024)
def or32 (x y : Int) : Int := Go.bits .or .u32 x y
/-- A block's word. -/
def asm (b : List Int) (t : Nat) : Int := or32 (or32 (or32 (IntKind.u32.wrap (IntKind.u32.wrap (rd b (4 * (t : Int))) * 16777216)) (IntKind.u32.wrap (IntKind.u32.wrap (rd b (4 * (t : Int) + 1)) * 65536))) (IntKind.u32.wrap (IntKind.u32.wrap (rd b (4 * (t : Int) + 2)) * 256))) (IntKind.u32.wrap (rd b (4 * (t : Int) + 3)))
def w16 (b : List Int) : Nat → List Int
  | 0 => List.replicate 64 0
  | t + 1 => (w16 b t).set t (asm b t)
def nx (w : List Int) (t : Int) : Int := (((s1 (rd w (t - 2)) + rd w (t - 7)) % 4294967296 + s0 (rd w (t - 15))) % 4294967296 + rd w (t - 16)) % 4294967296
def w64 (b : List Int) : Nat → List Int
  | 0 => w16 b 16
  | t + 1 => (w64 b t).set (16 + t) (nx (w64 b t) ((16 + t : Nat) : Int))
theorem w16_length (b : List Int) : ∀ t, (w16 b t).length = 64
  | 0 => rfl
  | t + 1 => by rw [w16, List.length_set]; exact w16_length b t
theorem w64_length (b : List Int) : ∀ t, (w64 b t).length = 64
  | 0 => w16_length b 16
  | t + 1 => by rw [w64, List.length_set]; exact w64_length b t
def kT : List Int := [0x428a2f98, 0x71374491, 0xb5c0fbcf, 0xe9b5dba5, 0x3956c25b, 0x59f111f1, 0x923f82a4, 0xab1c5ed5,
  0xd807aa98, 0x12835b01, 0x243185be, 0x550c7dc3, 0x72be5d74, 0x80deb1fe, 0x9bdc06a7, 0xc19bf174,
  0xe49b69c1, 0xefbe4786, 0x0fc19dc6, 0x240ca1cc, 0x2de92c6f, 0x4a7484aa, 0x5cb0a9dc, 0x76f988da,
  0x983e5152, 0xa831c66d, 0xb00327c8, 0xbf597fc7, 0xc6e00bf3, 0xd5a79147, 0x06ca6351, 0x14292967,
  0x27b70a85, 0x2e1b2138, 0x4d2c6dfc, 0x53380d13, 0x650a7354, 0x766a0abb, 0x81c2c92e, 0x92722c85,
  0xa2bfe8a1, 0xa81a664b, 0xc24b8b70, 0xc76c51a3, 0xd192e819, 0xd6990624, 0xf40e3585, 0x106aa070,
  0x19a4c116, 0x1e376c08, 0x2748774c, 0x34b0bcb5, 0x391c0cb3, 0x4ed8aa4a, 0x5b9cca4f, 0x682e6ff3,
  0x748f82ee, 0x78a5636f, 0x84c87814, 0x8cc70208, 0x90befffa, 0xa4506ceb, 0xbef9a3f7, 0xc67178f2]
def iv : List Int := [0x6a09e667, 0xbb67ae85, 0x3c6ef372, 0xa54ff53a, 0x510e527f, 0x9b05688c, 0x1f83d9ab, 0x5be0cd19]
def rounds (ws s : List Int) : Nat → List Int
  | 0 => s
  | t + 1 => rndL (rounds ws s t) ((rd kT (t : Int) + rd ws (t : Int)) % 4294967296)
theorem rounds_length (ws s : List Int) (h : s.length = 8) : ∀ t, (rounds ws s t).length = 8
  | 0 => h
  | t + 1 => rfl
def sums (x s : List Int) : Nat → List Int
  | 0 => x
  | i + 1 => (sums x s i).set i ((rd (sums x s i) (i : Int) + rd s (i : Int)) % 4294967296)
theorem sums_length (x s : List Int) : ∀ t, (sums x s t).length = x.length
  | 0 => rfl
  | t + 1 => by rw [sums, List.length_set]; exact sums_length x s t
/-- The words behind one more block. -/
def comp (s b : List Int) : List Int := sums (rounds (w64 b 48) s 64) s 8
theorem comp_length (s b : List Int) (h : s.length = 8) : (comp s b).length = 8 := by
  unfold comp; rw [sums_length]; exact rounds_length _ _ h 64
theorem eight (x : List Int) (h : x.length = 8) : x = [rd x 0, rd x 1, rd x 2, rd x 3, rd x 4, rd x 5, rd x 6, rd x 7] := by
  match x, h with
  | [_, _, _, _, _, _, _, _], _ => rfl
theorem u32s_at (l : List Int) (j : Nat) (h : j < l.length) : (u32s l)[j]? = some (.int .u32 (rd l (j : Int))) := by
  simp [u32s, rd, List.getD_eq_getElem?_getD, h]
theorem u8s_at (l : List Int) (j : Nat) (h : j < l.length) : (u8s l)[j]? = some (.int .u8 (rd l (j : Int))) := by
  simp [u8s, rd, List.getD_eq_getElem?_getD, h]
theorem u32s_set (l : List Int) (j : Nat) (x : Int) : (u32s l).setIfInBounds j (.int .u32 x) = u32s (l.set j x) := by
  simp [u32s, List.map_set]
/-! ### Rows of cells, written and read whole -/
def Wrote (W W1 : World) (g : Nat) : Prop := ∃ cs, W1 = W.setRow g cs
theorem Wrote.below {W W1 w0 : World} {g n : Nat} (h : Wrote W W1 g) (hb : Below n w0 W) (hl : n ≤ g) : Below n w0 W1 := by
  obtain ⟨cs, rfl⟩ := h
  exact below_setRow hb hl cs
theorem Wrote.other {W W1 : World} {g k : Nat} {o : Obj} (h : Wrote W W1 g) (hb : W.heap[k]? = some o) (hne : k ≠ g) : W1.heap[k]? = some o := by
  obtain ⟨cs, rfl⟩ := h
  rw [setRow_other W g k cs hne]
  exact hb
theorem all_one (k : IntKind) (l : List Int) : ((l.map fun x => Value.int k x).toArray).all (·.oneCell') = true := by
  simp [Value.oneCell']
theorem size_u32s (l : List Int) : (u32s l).size = l.length := by simp [u32s]
theorem size_u8s (l : List Int) : (u8s l).size = l.length := by simp [u8s]
section
variable {P : Program} {ops : Array Oper} {rest : List Oper} {o : Oper} {a : Act} {Q : Exit → Act → World → Prop} {W : World}
theorem put_row {ty : TypeId} {p : Tmp} {v : Operand} (ho : o.op = .store ty (.tmp p) v) (hgd : o.guard = none) (hN : o.dst = none) {g : Nat} (cs : Array Value) {old : Array Value} {t : TypeId} (hx : a.eval (.tmp p) = .pointer (some ⟨g, 0, none⟩)) (hy : a.eval v = .agg cs)
    (hg : W.heap[g]? = some (.cells old t (0, 0))) (hi : (P.info? ty).map (·.size) = some cs.size) (hold : old.size = cs.size) (h1 : cs.all (·.oneCell') = true)
    (h : ∀ W1, W1.heap[g]? = some (.cells cs t (0, 0)) → Wrote W W1 g → wpList P ops Q rest a W1) : wpList P ops Q (o :: rest) a W := by
  refine wpList_store_row hgd ty (.tmp p) v ho g cs hx hy t old hg hi hold h1 ?_
  rw [hN]
  exact h _ (setRow_heap W g old cs t (0, 0) hg) ⟨cs, rfl⟩
theorem get_row {ty : TypeId} {p N : Tmp} (ho : o.op = .load ty (.tmp p)) (hgd : o.guard = none) (hN : o.dst = some N) {g : Nat} {cs : Array Value} {t : TypeId} (hg : W.heap[g]? = some (.cells cs t (0, 0))) {d : TypeDesc} (hu : P.underlying ty = some d) (hd : (match d with | .struct _ | .array _ _ => true | _ => false) = true) (hi : (P.info? ty).map (·.size) = some cs.size)
    (hx : a.eval (.tmp p) = .pointer (some ⟨g, 0, none⟩)) (h : wpList P ops Q rest (a.put (some N) (.agg cs)) W) : wpList P ops Q (o :: rest) a W := by
  refine wpList_load_row hgd ty (.tmp p) ho g hx t cs (0, 0) d hg hu hd hi ?_
  rw [hN]
  exact h
theorem run_put_row {o : Oper} {a : Act} {W : World} {ty : TypeId} {p : Tmp} {v : Operand} (ho : o.op = .store ty (.tmp p) v) {g : Nat} (cs : Array Value) {old : Array Value} {t : TypeId} (hx : a.eval (.tmp p) = .pointer (some ⟨g, 0, none⟩)) (hy : a.eval v = .agg cs)
    (hg : W.heap[g]? = some (.cells old t (0, 0))) (hi : (P.info? ty).map (·.size) = some cs.size) (hold : old.size = cs.size) (h1 : cs.all (·.oneCell') = true) : (execOp a.eval o).run P W = .ok .skip (W.setRow g cs) := by
  unfold execOp
  simp only [ho, hx, hy, Instr.storeAt, Instr.sureAddr, Sem.run_bind, Sem.run_pure, Result.andThen_ok, run_storeVar_row W g t ty old cs hg hi hold h1]
theorem run_get_row {o : Oper} {a : Act} {W : World} {ty : TypeId} {p : Tmp} (ho : o.op = .load ty (.tmp p)) {g : Nat} {cs : Array Value} {t : TypeId} (hx : a.eval (.tmp p) = .pointer (some ⟨g, 0, none⟩)) (hg : W.heap[g]? = some (.cells cs t (0, 0))) {d : TypeDesc} (hu : P.underlying ty = some d) (hd : (match d with | .struct _ | .array _ _ => true | _ => false) = true) (hi : (P.info? ty).map (·.size) = some cs.size) :
    (execOp a.eval o).run P W = .ok (.value (.agg cs)) W := by
  unfold execOp
  simp only [ho, hx, Instr.loadAt, Instr.sureAddr, Sem.run_bind, Sem.run_pure, Result.andThen_ok, run_loadVar_row W g t ty cs (0, 0) d hg hu hd hi]
end
end Go.Proofs.Ytcgajjaaiablkaa.ShaP
