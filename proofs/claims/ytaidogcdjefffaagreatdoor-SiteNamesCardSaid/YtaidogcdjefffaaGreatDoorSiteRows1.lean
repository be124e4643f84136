/- Closed calls of arctan and pi, by evaluation. No condition. -/
import Derived.Test.YtaidogcdjefffaaGreatDoorSiteTold
import Derived.Test.YtaidogcdjefffaaGreatDoorEvF
set_option linter.unusedVariables false
open Go Go.Ev Go.Proofs.Tryz
set_option maxRecDepth 100000
namespace SiteTold
/-- whole numbers of 32 bits -/
def u32s (l : List Nat) : List Value := l.map fun n => .int .u32 (.ofNat n)
/-- a wide number that is not negative, with a bound of its error, in a block of its own -/
def ball (n c : Nat) (e : Int) : Nat → Value := fun b => .agg ([fun _ => .bool false, fun b => .slice (some ⟨b, 0, none⟩) n c, fun _ => .int .i64 e].map fun x : Nat → Value => x b).toArray
theorem ball_moves (n c : Nat) (e : Int) : Moves (ball n c e) := moves_agg (fun x hx => by
  simp only [List.mem_cons, List.not_mem_nil, or_false] at hx
  rcases hx with rfl | rfl | rfl
  · exact moves_const rfl
  · exact moves_slice n c
  · exact moves_const rfl)
theorem arctan_18_180 : RowHOK prog 178 [.int .i64 18, .int .i64 180] (ball 6 14 46) (u32s [213057292, 1138997237, 2449471733, 3685780022, 1720720805, 58194, 0]) :=
  told.rowH 20000 200 (by rfl) (fun φ l h => scals_same (by rfl) h) (ball_moves _ _ _) (by rfl) (by kernel_rfl)
theorem arctan_18_90 : RowHOK prog 178 [.int .i64 18, .int .i64 90] (ball 3 6 24) (u32s [3961687460, 2751949174, 3724441]) :=
  told.rowH 20000 200 (by rfl) (fun φ l h => scals_same (by rfl) h) (ball_moves _ _ _) (by rfl) (by kernel_rfl)
theorem arctan_239_180 : RowHOK prog 178 [.int .i64 239, .int .i64 180] (ball 6 14 26) (u32s [837436162, 1326289953, 4153847215, 2409669612, 1381596281, 4387, 0]) :=
  told.rowH 20000 200 (by rfl) (fun φ l h => scals_same (by rfl) h) (ball_moves _ _ _) (by rfl) (by kernel_rfl)
theorem arctan_239_90 : RowHOK prog 178 [.int .i64 239, .int .i64 90] (ball 3 8 14) (u32s [3894999869, 2522816099, 280788, 0]) :=
  told.rowH 20000 200 (by rfl) (fun φ l h => scals_same (by rfl) h) (ball_moves _ _ _) (by rfl) (by kernel_rfl)
theorem arctan_57_180 : RowHOK prog 178 [.int .i64 57, .int .i64 180] (ball 6 14 34) (u32s [3359047709, 3845470889, 81082581, 3030720687, 786695204, 18394, 0]) :=
  told.rowH 20000 200 (by rfl) (fun φ l h => scals_same (by rfl) h) (ball_moves _ _ _) (by rfl) (by kernel_rfl)
theorem arctan_57_90 : RowHOK prog 178 [.int .i64 57, .int .i64 90] (ball 3 8 18) (u32s [692595650, 3103852845, 1177227, 0]) :=
  told.rowH 20000 200 (by rfl) (fun φ l h => scals_same (by rfl) h) (ball_moves _ _ _) (by rfl) (by kernel_rfl)
noncomputable def told1 : Told prog := told.rowsX [RowX.heap arctan_18_180, RowX.heap arctan_18_90, RowX.heap arctan_239_180, RowX.heap arctan_239_90, RowX.heap arctan_57_180, RowX.heap arctan_57_90] (fun f => Nat.beq f 178) 20000 200
theorem pi_180 : RowHOK prog 157 [.int .i64 180] (ball 6 12 3816) (u32s [2183305656, 877281427, 2732603143, 2368811416, 2827508272, 3294198]) :=
  told1.rowH 20000 200 (by rfl) (fun φ l h => scals_same (by rfl) h) (ball_moves _ _ _) (by rfl) (by kernel_rfl)
theorem pi_90 : RowHOK prog 157 [.int .i64 90] (ball 3 6 2008) (u32s [1280075324, 571903011, 210828714]) :=
  told1.rowH 20000 200 (by rfl) (fun φ l h => scals_same (by rfl) h) (ball_moves _ _ _) (by rfl) (by kernel_rfl)
noncomputable def told2 : Told prog := told.rowsX [RowX.heap pi_180, RowX.heap pi_90] (fun f => Nat.beq f 157) 20000 200
end SiteTold
