/- What Pick answers for the bounds 10 and 70. Conditions: none. -/
import Derived.Test.YtibhfcbgmlhojaaGreatDoorProg
import Derived.WalkKit
namespace Go.Proofs.YtibhfcbgmlhojaaGreatDoor
open Go.RowKit
/-- what is left over, from 0 on -/
def pickV (x m : Int) : Int := if Int.tmod x m < 0 then Int.tmod x m + m else Int.tmod x m
theorem tmod_ge (x m : Int) (hm : 0 < m) : -m < Int.tmod x m ∧ Int.tmod x m < m := by
  rcases Int.le_total 0 x with h | h
  · have h1 := Int.tmod_nonneg m h
    have h2 := Int.tmod_lt_of_pos x hm
    omega
  · have h1 := Int.tmod_nonneg m (show 0 ≤ -x by omega)
    have h2 := Int.tmod_lt_of_pos (-x) hm
    rw [Int.neg_tmod] at h1 h2
    omega
theorem pickV_in (x m : Int) (hm : 0 < m) : 0 ≤ pickV x m ∧ pickV x m < m := by
  have := tmod_ge x m hm
  unfold pickV
  split <;> omega
theorem pick10 (x : Int) (w : World) : Calls Tryz.prog 6 #[.int .i64 x, .int .i64 10] w fun e w' => e = .returned (.int .i64 (pickV x 10)) ∧ w' = w := by
  have hb := tmod_ge x 10 (by omega)
  unfold pickV
  go_enter Tryz.func6, Tryz.ntmps6
  go_wp2
  all_goals go_ret
  all_goals exact ⟨rfl, rfl⟩
theorem pick70 (x : Int) (w : World) : Calls Tryz.prog 6 #[.int .i64 x, .int .i64 70] w fun e w' => e = .returned (.int .i64 (pickV x 70)) ∧ w' = w := by
  have hb := tmod_ge x 70 (by omega)
  unfold pickV
  go_enter Tryz.func6, Tryz.ntmps6
  go_wp2
  all_goals go_ret
  all_goals exact ⟨rfl, rfl⟩
end Go.Proofs.YtibhfcbgmlhojaaGreatDoor
