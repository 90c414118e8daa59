/- Profile: the order of the hot functions, and that a list which is sorted so is one. Plain lists. -/
/- Profile: the counts that Hot keeps, as a map that is read. Plain lists. -/
/- Profile: the comparison that Hot hands to the sort. -/
import Derived.Sort.LotA
import Derived.RowKit
import Derived.Maps.Views
import Derived.Lib.SlKeysI
import Derived.Test.YtjeaojolhdfpeaaProg
import Derived.Test.YtjeaojolhdfpeaaWMore
import Derived.Maps.OwnOps
import Derived.Sort.Grow
import Derived.WalkKit
namespace Go.Proofs.Ytjeaojolhdfpeaa.HotP
open Go.Sort
set_option linter.unusedVariables false
set_option linter.unusedSimpArgs false

def cmpI (a b : Int) : Int := if a < b then -1 else if b < a then 1 else 0
def orI (a b : Int) : Int := if a ≠ 0 then a else b
/-- The more often first; of as many the smaller number. -/
def cf (c : Int → Int) (x y : Int) : Int := orI (cmpI (c y) (c x)) (cmpI x y)
def lt (c : Int → Int) (x y : Int) : Bool := decide (cf c x y < 0)
end Go.Proofs.Ytjeaojolhdfpeaa.HotP

namespace Go.Proofs.Ytjeaojolhdfpeaa.HotM
open Go.RowKit Go.Maps
set_option linter.unusedVariables false
set_option linter.unusedSimpArgs false

/-- What is read at a key. -/
def val (c : Nat → Int) (least : Int) : Nat → Int → Int
  | 0, _ => 0
  | k + 1, x => if least ≤ c k ∧ x = (k : Int) then c k else val c least k x
variable (c : Nat → Int) (least : Int)
end Go.Proofs.Ytjeaojolhdfpeaa.HotM

namespace Go.Proofs.Ytjeaojolhdfpeaa.HotC
open Go.RowKit Go.Maps Go.Sort Go.Proofs.YtjeaojolhdfpeaaW.PrintWords
open Go.Proofs.Ytjeaojolhdfpeaa.HotP Go.Proofs.Ytjeaojolhdfpeaa.HotM
set_option linter.unusedVariables false
set_option linter.unusedSimpArgs false

theorem isNaNInt (x : Int) (w : World) : Calls Try.prog 107 #[.int .i64 x] w fun e w' => e = .returned (.bool false) ∧ w' = w := by
  go_enter Try.func107, Try.ntmps107
  go_wp2
  go_ret
  exact ⟨by simp, rfl⟩
set_option maxHeartbeats 1000000 in
theorem cmpInt (x y : Int) (w : World) : Calls Try.prog 69 #[.int .i64 x, .int .i64 y] w fun e w' => e = .returned (.int .i64 (cmpI x y)) ∧ w' = w := by
  go_enter Try.func69, Try.ntmps69
  go_wp2_with (go_at_call 107; refine (isNaNInt _ _).mono ?_; rintro e w' ⟨rfl, hw⟩; rw [hw])
  all_goals (go_ret; refine ⟨?_, rfl⟩; unfold cmpI; (repeat' split) <;> first | rfl | (exfalso; omega))

set_option maxHeartbeats 1000000 in
theorem or2 (a b : Int) (g : Nat) (w : World) (h0 : w.cell? ⟨g, 0, none⟩ = some (.int .i64 a)) (h1 : w.cell? ⟨g, 1, none⟩ = some (.int .i64 b)) :
    Calls Try.prog 67 #[.slice (some ⟨g, 0, none⟩) 2 2] w fun e w' => e = .returned (.int .i64 (orI a b)) ∧ w' = w := by
  go_enter Try.func67, Try.ntmps67
  go_wp2
  refine wp_loop_rounds 3 ?_
  rw [rounds_succ]
  go_wp2
  · go_ret
    refine ⟨?_, rfl⟩
    unfold orI
    simp_all
  · rw [rounds_succ]
    go_wp2
    · go_ret
      refine ⟨?_, rfl⟩
      unfold orI
      simp_all
    · rw [rounds_succ]
      go_wp2
      go_ret
      refine ⟨?_, rfl⟩
      unfold orI
      simp_all

end Go.Proofs.Ytjeaojolhdfpeaa.HotC
