/- Closed calls, by evaluation. No condition. -/
import Derived.Test.YtkijegdjefjnjaaGreatDoorCalibG2a
import Derived.Test.YtkijegdjefjnjaaGreatDoorCalibG2b
set_option linter.unusedVariables false
open Go Go.Ev Go.Proofs.Tryz
set_option maxRecDepth 100000
namespace CalibTold
noncomputable def told2 : Told prog := told1.rowsG [g2_4_0, g2_4_1, g2_4_2, g2_4_3, g2_4_4, g2_4_5, g2_4_6, g2_4_7, g2_4_8, g2_4_9, g2_4_10, g2_4_11, g2_4_12, g2_4_13, g2_4_14, g2_4_15, g2_4_16, g2_39_17, g2_39_18, g2_39_19, g2_39_20, g2_39_21, g2_39_22, g2_39_23, g2_39_24, g2_39_25, g2_41_26, g2_41_27, g2_41_28, g2_41_29, g2_41_30, g2_41_31, g2_41_32, g2_41_33, g2_41_34, g2_41_35, g2_41_36, g2_47_37, g2_47_38, g2_47_39, g2_60_40, g2_60_41, g2_60_42, g2_60_43, g2_60_44, g2_60_45, g2_60_46, g2_60_47, g2_60_48, g2_60_49, g2_60_50, g2_60_51, g2_60_52, g2_60_53, g2_60_54, g2_60_55, g2_60_56, g2_60_57, g2_60_58, g2_60_59, g2_60_60, g2_120_61, g2_120_62] (fun f => Nat.beq f 4 || Nat.beq f 39 || Nat.beq f 41 || Nat.beq f 47 || Nat.beq f 60 || Nat.beq f 120) 20000 200
end CalibTold
