/- lemmas: ZzK1 ZzK2 -/
import Derived.Test.YtfkfjebiaelniaaGreatMdM
set_option linter.all false
set_option linter.unusedSectionVars false
set_option linter.unusedVariables false
set_option linter.unusedSimpArgs false
noncomputable section
variable {ρ : Type}
set_option maxRecDepth 100000
namespace Go.Proofs.ZzM
open Go Go.Am
theorem m_s_Index_int_int_L0_ok : (m_s_Index_int_int_L0_e ρ).Ok (m_s_Index_int_int_E ρ) := ⟨by kernel_rfl, fun p v kn kx => by kernel_rfl⟩
theorem m_s_Index_int_int_law (x : Val (.pair (.slice tI) tI)) (k : Int → Option ρ) :
    topK (m_s_Index_int_int_E ρ) 150 (encL [(.slice tI), tI] x) (fun h v => bindF (resH [tI] h v) k) = m_s_Index_int_int x.1 x.2 k := by kernel_rfl
theorem m_s_Contains_int_int_law (x : Val (.pair (.slice tI) tI)) (k : Bool → Option ρ) :
    topK (m_s_Contains_int_int_E ρ) 103 (encL [(.slice tI), tI] x) (fun h v => bindF (resH [.bool] h v) k) = m_s_Contains_int_int x.1 x.2 k := by kernel_rfl
theorem m_c_days_L0_ok : (m_c_days_L0_e ρ).Ok (m_c_days_E ρ) := ⟨by kernel_rfl, fun p v kn kx => by kernel_rfl⟩
theorem m_c_days_L1_ok : (m_c_days_L1_e ρ).Ok (m_c_days_E ρ) := ⟨by kernel_rfl, fun p v kn kx => by kernel_rfl⟩
theorem m_c_days_law (x : Val (.pair tyBook tyGauge)) (k : (Val (.slice tI)) → Option ρ) :
    topK (m_c_days_E ρ) 137 (encL [tyBook, tyGauge] x) (fun h v => bindF (resH [(.slice tI)] h v) k) = m_c_days x.1 x.2 k := by kernel_rfl
theorem m_c_nodes_L1_ok : (m_c_nodes_L1_e ρ).Ok (m_c_nodes_E ρ) := ⟨by kernel_rfl, fun p v kn kx => by kernel_rfl⟩
theorem m_c_nodes_L0_ok : (m_c_nodes_L0_e ρ).Ok (m_c_nodes_E ρ) := ⟨by kernel_rfl, fun p v kn kx => by kernel_rfl⟩
theorem m_c_nodes_law (x : Val tyBook) (k : (Val (.slice tySpan)) → Option ρ) :
    topK (m_c_nodes_E ρ) 99 (encL [tyBook] x) (fun h v => bindF (resH [(.slice tySpan)] h v) k) = m_c_nodes x k := by kernel_rfl
theorem m_c_shelved_L0_ok : (m_c_shelved_L0_e ρ).Ok (m_c_shelved_E ρ) := ⟨by kernel_rfl, fun p v kn kx => by kernel_rfl⟩
theorem m_c_shelved_law (x : Val tyBook) (k : (Val (.map tI tyGauge)) → Option ρ) :
    topK (m_c_shelved_E ρ) 106 (encL [tyBook] x) (fun h v => bindF (resH [(.map tI tyGauge)] h v) k) = m_c_shelved x k := by kernel_rfl
theorem m_c_inside_law (x : Val tyRange) (k : Bool → Option ρ) :
    topK (m_c_inside_E ρ) 121 (encL [tySpan, tI, tI] x) (fun h v => bindF (resH [.bool] h v) k) = m_c_inside x.1 x.2.1 x.2.2 k := by kernel_rfl
theorem m_c_within_law (x : Val tyLink) (k : Bool → Option ρ) :
    topK (m_c_within_E ρ) 147 (encL [tI, tI, tI] x) (fun h v => bindF (resH [.bool] h v) k) = m_c_within x.1 x.2.1 x.2.2 k := by kernel_rfl
theorem m_c_isDay_law (x : Val tI) (k : Bool → Option ρ) :
    topK (m_c_isDay_E ρ) 105 (encL [tI] x) (fun h v => bindF (resH [.bool] h v) k) = m_c_isDay x k := by kernel_rfl
theorem m_e_size_law (x : Val tI) (k : Int → Option ρ) :
    topK (m_e_size_E ρ) 207 (encL [tI] x) (fun h v => bindF (resH [(.int .u64)] h v) k) = m_e_size x k := by kernel_rfl
theorem m_e_gcd_L0_ok : (m_e_gcd_L0_e ρ).Ok (m_e_gcd_E ρ) := ⟨by kernel_rfl, fun p v kn kx => by kernel_rfl⟩
theorem m_e_gcd_law (x : Val (.pair (.int .u64) (.int .u64))) (k : Int → Option ρ) :
    topK (m_e_gcd_E ρ) 208 (encL [(.int .u64), (.int .u64)] x) (fun h v => bindF (resH [(.int .u64)] h v) k) = m_e_gcd x.1 x.2 k := by kernel_rfl
theorem m_e_Valid_law (x : Val tySpan) (k : Bool → Option ρ) :
    topK (m_e_Valid_E ρ) 188 (encL [tySpan] x) (fun h v => bindF (resH [.bool] h v) k) = m_e_Valid x k := by kernel_rfl
theorem m_c_isGauge_law (x : Val tyGauge) (k : Bool → Option ρ) :
    topK (m_c_isGauge_E ρ) 163 (encL [tyGauge] x) (fun h v => bindF (resH [.bool] h v) k) = m_c_isGauge x k := by kernel_rfl
theorem m_c_checkGauges_L0_ok : (m_c_checkGauges_L0_e ρ).Ok (m_c_checkGauges_E ρ) := ⟨by kernel_rfl, fun p v kn kx => by kernel_rfl⟩
theorem m_c_checkGauges_law (x : Val tyBook) (k : Int → Option ρ) :
    topK (m_c_checkGauges_E ρ) 122 (encL [tyBook] x) (fun h v => bindF (resH [tI] h v) k) = m_c_checkGauges x k := by kernel_rfl
theorem m_c_shelf_made_law (x : Val (.pair (.map tI tyGauge) tySpan)) (k : Int → Option ρ) :
    topK (m_c_shelf_made_E ρ) 109 (encL [(.map tI tyGauge), tI, tI] x) (fun h v => bindF (resH [tI] h v) k) = m_c_shelf_made x.1 x.2.1 x.2.2 k := by kernel_rfl
theorem m_c_parts_1_law (x : Val (.pair tI (.pair tI (.ptr (.map tI tyGauge))))) (k : Int → Option ρ) :
    topK (m_c_parts_1_E ρ) 164 (encL [tI, tI, (.ptr (.map tI tyGauge))] x) (fun h v => bindF (resH [tI] h v) k) = m_c_parts_1 x.1 x.2.1 x.2.2 k := by kernel_rfl
theorem m_c_checkLoan_L0_ok : (m_c_checkLoan_L0_e ρ).Ok (m_c_checkLoan_E ρ) := ⟨by kernel_rfl, fun p v kn kx => by kernel_rfl⟩
theorem m_c_checkLoan_L1_ok : (m_c_checkLoan_L1_e ρ).Ok (m_c_checkLoan_E ρ) := ⟨by kernel_rfl, fun p v kn kx => by kernel_rfl⟩
theorem m_c_checkLoan_law (x : Val (.pair tyBook (.pair (.map tI tyGauge) tI))) (k : Int → Option ρ) :
    topK (m_c_checkLoan_E ρ) 166 (encL [tyBook, (.map tI tyGauge), tI] x) (fun h v => bindF (resH [tI] h v) k) = m_c_checkLoan x.1 x.2.1 x.2.2 k := by kernel_rfl
theorem m_c_left_L0_ok : (m_c_left_L0_e ρ).Ok (m_c_left_E ρ) := ⟨by kernel_rfl, fun p v kn kx => by kernel_rfl⟩
theorem m_c_left_L1_ok : (m_c_left_L1_e ρ).Ok (m_c_left_E ρ) := ⟨by kernel_rfl, fun p v kn kx => by kernel_rfl⟩
theorem m_c_left_law (x : Val (.pair (.slice tI) (.slice tI))) (k : (Val (.slice tI)) → Option ρ) :
    topK (m_c_left_E ρ) 78 (encL [(.slice tI), (.slice tI)] x) (fun h v => bindF (resH [(.slice tI)] h v) k) = m_c_left x.1 x.2 k := by kernel_rfl
theorem m_c_isPile_L0_ok : (m_c_isPile_L0_e ρ).Ok (m_c_isPile_E ρ) := ⟨by kernel_rfl, fun p v kn kx => by kernel_rfl⟩
theorem m_c_isPile_law (x : Val (.slice tI)) (k : Bool → Option ρ) :
    topK (m_c_isPile_E ρ) 104 (encL [(.slice tI)] x) (fun h v => bindF (resH [.bool] h v) k) = m_c_isPile x k := by kernel_rfl
theorem m_s_Concat_int_int_L0_ok : (m_s_Concat_int_int_L0_e ρ).Ok (m_s_Concat_int_int_E ρ) := ⟨by kernel_rfl, fun p v kn kx => by kernel_rfl⟩
theorem m_s_Concat_int_int_L1_ok : (m_s_Concat_int_int_L1_e ρ).Ok (m_s_Concat_int_int_E ρ) := ⟨by kernel_rfl, fun p v kn kx => by kernel_rfl⟩
theorem m_s_Concat_int_int_law (x : Val (.slice (.slice tI))) (k : (Val (.slice tI)) → Option ρ) :
    topK (m_s_Concat_int_int_E ρ) 107 (encL [(.slice (.slice tI))] x) (fun h v => bindF (resH [(.slice tI)] h v) k) = m_s_Concat_int_int x k := by kernel_rfl
theorem m_c_away_L0_ok : (m_c_away_L0_e ρ).Ok (m_c_away_E ρ) := ⟨by kernel_rfl, fun p v kn kx => by kernel_rfl⟩
theorem m_c_away_law (x : Val (.pair tyBook tySpan)) (k : (Val (.pair tyLoan .bool)) → Option ρ) :
    topK (m_c_away_E ρ) 108 (encL [tyBook, tI, tI] x) (fun h v => bindF (resH [tyLoan, .bool] h v) k) = m_c_away x.1 x.2.1 x.2.2 k := by kernel_rfl
theorem m_c_checkCompare_L0_ok : (m_c_checkCompare_L0_e ρ).Ok (m_c_checkCompare_E ρ) := ⟨by kernel_rfl, fun p v kn kx => by kernel_rfl⟩
theorem m_c_checkCompare_L2_ok : (m_c_checkCompare_L2_e ρ).Ok (m_c_checkCompare_E ρ) := ⟨by kernel_rfl, fun p v kn kx => by kernel_rfl⟩
theorem m_c_checkCompare_L1_ok : (m_c_checkCompare_L1_e ρ).Ok (m_c_checkCompare_E ρ) := ⟨by kernel_rfl, fun p v kn kx => by kernel_rfl⟩
theorem m_c_checkCompare_L3_ok : (m_c_checkCompare_L3_e ρ).Ok (m_c_checkCompare_E ρ) := ⟨by kernel_rfl, fun p v kn kx => by kernel_rfl⟩
theorem m_c_checkCompare_law (x : Val (.pair tyBook (.pair (.map tI tyGauge) tI))) (k : Int → Option ρ) :
    topK (m_c_checkCompare_E ρ) 167 (encL [tyBook, (.map tI tyGauge), tI] x) (fun h v => bindF (resH [tI] h v) k) = m_c_checkCompare x.1 x.2.1 x.2.2 k := by kernel_rfl
end Go.Proofs.ZzM
end

noncomputable section
variable {ρ : Type}
set_option maxRecDepth 100000
namespace Go.Proofs.ZzM
open Go Go.Am
theorem m_w5_small_L0_ok : (m_w5_small_L0_e ρ).Ok (m_w5_small_E ρ) := ⟨by kernel_rfl, fun p v kn kx => by kernel_rfl⟩
theorem m_w5_small_law (x : Val tyBook) (k : Bool → Option ρ) :
    topK (m_w5_small_E ρ) 17 (encL [tyBook] x) (fun h v => bindF (resH [.bool] h v) k) = m_w5_small x k := by kernel_rfl
theorem m_w5_brief_law (x : Val tyCompare) (k : Bool → Option ρ) :
    topK (m_w5_brief_E ρ) 18 (encL [tyCompare] x) (fun h v => bindF (resH [.bool] h v) k) = m_w5_brief x k := by kernel_rfl
theorem m_c_With_L0_ok : (m_c_With_L0_e ρ).Ok (m_c_With_E ρ) := ⟨by kernel_rfl, fun p v kn kx => by kernel_rfl⟩
theorem m_c_With_law (x : Val (.pair tyBook tyCompare)) (k : (Val (.pair tyBook tI)) → Option ρ) :
    topK (m_c_With_E ρ) 26 (encL [tyBook, tyCompare] x) (fun h v => bindF (resH [tyBook, tI] h v) k) = m_c_With x.1 x.2 k := by kernel_rfl
theorem m_s_Index_api_Node_api_Node_L0_ok : (m_s_Index_api_Node_api_Node_L0_e ρ).Ok (m_s_Index_api_Node_api_Node_E ρ) := ⟨by kernel_rfl, fun p v kn kx => by kernel_rfl⟩
theorem m_s_Index_api_Node_api_Node_law (x : Val (.pair (.slice tySpan) tySpan)) (k : Int → Option ρ) :
    topK (m_s_Index_api_Node_api_Node_E ρ) 125 (encL [(.slice tySpan), tySpan] x) (fun h v => bindF (resH [tI] h v) k) = m_s_Index_api_Node_api_Node x.1 x.2 k := by kernel_rfl
theorem m_c_maker_at_law (x : Val (.pair (.ptr tymaker) (.pair (.slice tI) tI))) (k : Int → Option ρ) :
    topK (m_c_maker_at_E ρ) 77 (encL [(.ptr tymaker), (.slice tI), tI] x) (fun h v => bindF (resH [tI] h v) k) = m_c_maker_at x.1 x.2.1 x.2.2 k := by kernel_rfl
theorem m_c_shelf_rateOf_law (x : Val (.pair (.map tI tyGauge) (.slice tI))) (k : Val tySpan → Option ρ) :
    topK (m_c_shelf_rateOf_E ρ) 154 (encL [(.map tI tyGauge), (.slice tI)] x) (fun h v => bindF (resH [tySpan] h v) k) = m_c_shelf_rateOf x.1 x.2 k := by kernel_rfl
theorem m_e_valid_L0_ok : (m_e_valid_L0_e ρ).Ok (m_e_valid_E ρ) := ⟨by kernel_rfl, fun p v kn kx => by kernel_rfl⟩
theorem m_e_valid_law (x : Val (.slice tySpan)) (k : Int → Option ρ) :
    topK (m_e_valid_E ρ) 176 (encL [(.slice tySpan)] x) (fun h v => bindF (resH [tI] h v) k) = m_e_valid x k := by kernel_rfl
theorem m_e_reduced_law (x : Val tySpan) (k : Val tyNum → Option ρ) :
    topK (m_e_reduced_E ρ) 202 (encL [tI, tI] x) (fun h v => bindF (resH [tySpan, tI] h v) k) = m_e_reduced x.1 x.2 k := by kernel_rfl
theorem m_e_Sub_law (x : Val tyRange) (k : Val tyNum → Option ρ) :
    topK (m_e_Sub_E ρ) 185 (encL [tySpan, tySpan] x) (fun h v => bindF (resH [tySpan, tI] h v) k) = m_e_Sub x.1 x.2 k := by kernel_rfl
theorem m_c_rate_less_law (x : Val tyRange) (k : Val tySpan → Option ρ) :
    topK (m_c_rate_less_E ρ) 155 (encL [tySpan, tySpan] x) (fun h v => bindF (resH [tySpan] h v) k) = m_c_rate_less x.1 x.2 k := by kernel_rfl
theorem m_e_cmp_law (x : Val tyRange) (k : Int → Option ρ) :
    topK (m_e_cmp_E ρ) 221 (encL [tySpan, tySpan] x) (fun h v => bindF (resH [tI] h v) k) = m_e_cmp x.1 x.2 k := by kernel_rfl
theorem m_e_ValidRange_law (x : Val tyRange) (k : Bool → Option ρ) :
    topK (m_e_ValidRange_E ρ) 203 (encL [tyRange] x) (fun h v => bindF (resH [.bool] h v) k) = m_e_ValidRange x k := by kernel_rfl
theorem m_e_Mul_law (x : Val tyRange) (k : Val tyNum → Option ρ) :
    topK (m_e_Mul_E ρ) 206 (encL [tySpan, tySpan] x) (fun h v => bindF (resH [tySpan, tI] h v) k) = m_e_Mul x.1 x.2 k := by kernel_rfl
theorem m_e_Scale_law (x : Val (.pair tyRange tySpan)) (k : Val tyEnds → Option ρ) :
    topK (m_e_Scale_E ρ) 186 (encL [tyRange, tySpan] x) (fun h v => bindF (resH [tyRange, tI] h v) k) = m_e_Scale x.1 x.2 k := by kernel_rfl
theorem m_c_rate_over_law (x : Val tyRange) (k : Val tyRange → Option ρ) :
    topK (m_c_rate_over_E ρ) 156 (encL [tySpan, tySpan] x) (fun h v => bindF (resH [tyRange] h v) k) = m_c_rate_over x.1 x.2 k := by kernel_rfl
theorem m_c_growth_law (x : Val (.pair tyBook tyCompare)) (k : Val tyRange → Option ρ) :
    topK (m_c_growth_E ρ) 112 (encL [tyBook, tyCompare] x) (fun h v => bindF (resH [tyRange] h v) k) = m_c_growth x.1 x.2 k := by kernel_rfl
theorem m_c_films_law (x : Val (.pair tyBook tyCompare)) (k : Val tySpan → Option ρ) :
    topK (m_c_films_E ρ) 113 (encL [tyBook, tyCompare] x) (fun h v => bindF (resH [tySpan] h v) k) = m_c_films x.1 x.2 k := by kernel_rfl
theorem m_e_floor_law (x : Val tySpan) (k : Int → Option ρ) :
    topK (m_e_floor_E ρ) 177 (encL [tI, tI] x) (fun h v => bindF (resH [tI] h v) k) = m_e_floor x.1 x.2 k := by kernel_rfl
theorem m_e_Ceil_law (x : Val tySpan) (k : Val tySpan → Option ρ) :
    topK (m_e_Ceil_E ρ) 143 (encL [tySpan] x) (fun h v => bindF (resH [tI, tI] h v) k) = m_e_Ceil x k := by kernel_rfl
theorem m_e_Floor_law (x : Val tySpan) (k : Val tySpan → Option ρ) :
    topK (m_e_Floor_E ρ) 144 (encL [tySpan] x) (fun h v => bindF (resH [tI, tI] h v) k) = m_e_Floor x k := by kernel_rfl
theorem m_c_says_law (x : Val (.pair tyBook tyCompare)) (k : Val tySpan → Option ρ) :
    topK (m_c_says_E ρ) 114 (encL [tyBook, tyCompare] x) (fun h v => bindF (resH [tySpan] h v) k) = m_c_says x.1 x.2 k := by kernel_rfl
theorem m_c_loss_L0_ok : (m_c_loss_L0_e ρ).Ok (m_c_loss_E ρ) := ⟨by kernel_rfl, fun p v kn kx => by kernel_rfl⟩
theorem m_c_loss_L1_ok : (m_c_loss_L1_e ρ).Ok (m_c_loss_E ρ) := ⟨by kernel_rfl, fun p v kn kx => by kernel_rfl⟩
theorem m_c_loss_law (x : Val (.pair tyBook (.pair tyGauge tySpan))) (k : Int → Option ρ) :
    topK (m_c_loss_E ρ) 129 (encL [tyBook, tyGauge, tI, tI] x) (fun h v => bindF (resH [tI] h v) k) = m_c_loss x.1 x.2.1 x.2.2.1 x.2.2.2 k := by kernel_rfl
theorem m_c_made_L1_ok : (m_c_made_L1_e ρ).Ok (m_c_made_E ρ) := ⟨by kernel_rfl, fun p v kn kx => by kernel_rfl⟩
theorem m_c_made_L0_ok : (m_c_made_L0_e ρ).Ok (m_c_made_E ρ) := ⟨by kernel_rfl, fun p v kn kx => by kernel_rfl⟩
theorem m_c_made_L2_ok : (m_c_made_L2_e ρ).Ok (m_c_made_E ρ) := ⟨by kernel_rfl, fun p v kn kx => by kernel_rfl⟩
theorem m_c_made_law (x : Val tyBook) (k : (Val (.ptr tymaker)) → Option ρ) :
    topK (m_c_made_E ρ) 76 (encL [tyBook] x) (fun h v => bindF (resH [(.ptr tymaker)] h v) k) = m_c_made x k := by kernel_rfl
theorem m_h_node_law (x : Val (.pair tySystem tI)) (k : Bool → Option ρ) :
    topK (m_h_node_E ρ) 172 (encL [tySystem, tI] x) (fun h v => bindF (resH [.bool] h v) k) = m_h_node x.1 x.2 k := by kernel_rfl
theorem m_h_Check_L0_ok : (m_h_Check_L0_e ρ).Ok (m_h_Check_E ρ) := ⟨by kernel_rfl, fun p v kn kx => by kernel_rfl⟩
theorem m_h_Check_law (x : Val tySystem) (k : Val tySpan → Option ρ) :
    topK (m_h_Check_E ρ) 130 (encL [tySystem] x) (fun h v => bindF (resH [tI, tI] h v) k) = m_h_Check x k := by kernel_rfl
theorem m_h_solution_L0_ok : (m_h_solution_L0_e ρ).Ok (m_h_solution_E ρ) := ⟨by kernel_rfl, fun p v kn kx => by kernel_rfl⟩
theorem m_h_solution_L1_ok : (m_h_solution_L1_e ρ).Ok (m_h_solution_E ρ) := ⟨by kernel_rfl, fun p v kn kx => by kernel_rfl⟩
theorem m_h_solution_L3_ok : (m_h_solution_L3_e ρ).Ok (m_h_solution_E ρ) := ⟨by kernel_rfl, fun p v kn kx => by kernel_rfl⟩
theorem m_h_solution_L2_ok : (m_h_solution_L2_e ρ).Ok (m_h_solution_E ρ) := ⟨by kernel_rfl, fun p v kn kx => by kernel_rfl⟩
theorem m_h_solution_L4_ok : (m_h_solution_L4_e ρ).Ok (m_h_solution_E ρ) := ⟨by kernel_rfl, fun p v kn kx => by kernel_rfl⟩
theorem m_h_solution_law (x : Val (.pair tySystem (.map tI .bool))) (k : (Val (.pair (.slice tI) .bool)) → Option ρ) :
    topK (m_h_solution_E ρ) 131 (encL [tySystem, (.map tI .bool)] x) (fun h v => bindF (resH [(.slice tI), .bool] h v) k) = m_h_solution x.1 x.2 k := by kernel_rfl
theorem m_h_asked_L0_ok : (m_h_asked_L0_e ρ).Ok (m_h_asked_E ρ) := ⟨by kernel_rfl, fun p v kn kx => by kernel_rfl⟩
theorem m_h_asked_law (x : Val (.pair tySystem (.slice tI))) (k : Int → Option ρ) :
    topK (m_h_asked_E ρ) 134 (encL [tySystem, (.slice tI)] x) (fun h v => bindF (resH [tI] h v) k) = m_h_asked x.1 x.2 k := by kernel_rfl
theorem m_h_bounds_L0_ok : (m_h_bounds_L0_e ρ).Ok (m_h_bounds_E ρ) := ⟨by kernel_rfl, fun p v kn kx => by kernel_rfl⟩
theorem m_h_bounds_L1_ok : (m_h_bounds_L1_e ρ).Ok (m_h_bounds_E ρ) := ⟨by kernel_rfl, fun p v kn kx => by kernel_rfl⟩
theorem m_h_bounds_L2_ok : (m_h_bounds_L2_e ρ).Ok (m_h_bounds_E ρ) := ⟨by kernel_rfl, fun p v kn kx => by kernel_rfl⟩
theorem m_h_bounds_L4_ok : (m_h_bounds_L4_e ρ).Ok (m_h_bounds_E ρ) := ⟨by kernel_rfl, fun p v kn kx => by kernel_rfl⟩
theorem m_h_bounds_L3_ok : (m_h_bounds_L3_e ρ).Ok (m_h_bounds_E ρ) := ⟨by kernel_rfl, fun p v kn kx => by kernel_rfl⟩
theorem m_h_bounds_law (x : Val (.pair tySystem (.pair (.map tI .bool) tI))) (k : (Val (.slice tI)) → Option ρ) :
    topK (m_h_bounds_E ρ) 135 (encL [tySystem, (.map tI .bool), tI] x) (fun h v => bindF (resH [(.slice tI)] h v) k) = m_h_bounds x.1 x.2.1 x.2.2 k := by kernel_rfl
theorem m_h_Bound_law (x : Val (.pair tySystem tySpan)) (k : Val tySpan → Option ρ) :
    topK (m_h_Bound_E ρ) 79 (encL [tySystem, tI, tI] x) (fun h v => bindF (resH [tI, tI] h v) k) = m_h_Bound x.1 x.2.1 x.2.2 k := by kernel_rfl
theorem m_c_shown_law (x : Val (.pair tyBook (.pair tyCompare tySpan))) (k : Val tyNum → Option ρ) :
    topK (m_c_shown_E ρ) 80 (encL [tyBook, tyCompare, tySpan] x) (fun h v => bindF (resH [tySpan, tI] h v) k) = m_c_shown x.1 x.2.1 x.2.2 k := by kernel_rfl
theorem m_c_Predict_law (x : Val (.pair tyBook tyCompare)) (k : Val tyNum → Option ρ) :
    topK (m_c_Predict_E ρ) 20 (encL [tyBook, tyCompare] x) (fun h v => bindF (resH [tySpan, tI] h v) k) = m_c_Predict x.1 x.2 k := by kernel_rfl
theorem m_c_maker_lengths_L0_ok : (m_c_maker_lengths_L0_e ρ).Ok (m_c_maker_lengths_E ρ) := ⟨by kernel_rfl, fun p v kn kx => by kernel_rfl⟩
theorem m_c_maker_lengths_law (x : Val (.pair (.ptr tymaker) (.slice tI))) (k : Int → Option ρ) :
    topK (m_c_maker_lengths_E ρ) 93 (encL [(.ptr tymaker), (.slice tI)] x) (fun h v => bindF (resH [tI] h v) k) = m_c_maker_lengths x.1 x.2 k := by kernel_rfl
theorem m_h_Fits_L0_ok : (m_h_Fits_L0_e ρ).Ok (m_h_Fits_E ρ) := ⟨by kernel_rfl, fun p v kn kx => by kernel_rfl⟩
theorem m_h_Fits_L1_ok : (m_h_Fits_L1_e ρ).Ok (m_h_Fits_E ρ) := ⟨by kernel_rfl, fun p v kn kx => by kernel_rfl⟩
theorem m_h_Fits_law (x : Val (.pair tySystem (.slice tI))) (k : (Val (.pair .bool tI)) → Option ρ) :
    topK (m_h_Fits_E ρ) 65 (encL [tySystem, (.slice tI)] x) (fun h v => bindF (resH [.bool, tI] h v) k) = m_h_Fits x.1 x.2 k := by kernel_rfl
theorem m_c_maker_fits_law (x : Val (.pair (.ptr tymaker) (.slice tI))) (k : Bool → Option ρ) :
    topK (m_c_maker_fits_E ρ) 94 (encL [(.ptr tymaker), (.slice tI)] x) (fun h v => bindF (resH [.bool] h v) k) = m_c_maker_fits x.1 x.2 k := by kernel_rfl
theorem m_c_Fits_law (x : Val (.pair tyBook (.slice tI))) (k : (Val (.pair .bool tI)) → Option ρ) :
    topK (m_c_Fits_E ρ) 24 (encL [tyBook, (.slice tI)] x) (fun h v => bindF (resH [.bool, tI] h v) k) = m_c_Fits x.1 x.2 k := by kernel_rfl
theorem m_c_Nodes_law (x : Val tyBook) (k : (Val (.pair (.slice tySpan) tI)) → Option ρ) :
    topK (m_c_Nodes_E ρ) 28 (encL [tyBook] x) (fun h v => bindF (resH [(.slice tySpan), tI] h v) k) = m_c_Nodes x k := by kernel_rfl
theorem m_c_Can_L0_ok : (m_c_Can_L0_e ρ).Ok (m_c_Can_E ρ) := ⟨by kernel_rfl, fun p v kn kx => by kernel_rfl⟩
theorem m_c_Can_law (x : Val (.pair tyBook (.pair tI (.pair (.slice tI) (.slice tI))))) (k : (Val (.pair .bool tI)) → Option ρ) :
    topK (m_c_Can_E ρ) 32 (encL [tyBook, tI, (.slice tI), (.slice tI)] x) (fun h v => bindF (resH [.bool, tI] h v) k) = m_c_Can x.1 x.2.1 x.2.2.1 x.2.2.2 k := by kernel_rfl
theorem m_c_which_law (x : Val (.pair tyBook tI)) (k : (Val (.pair tyCompare tI)) → Option ρ) :
    topK (m_c_which_E ρ) 111 (encL [tyBook, tI] x) (fun h v => bindF (resH [tyCompare, tI] h v) k) = m_c_which x.1 x.2 k := by kernel_rfl
theorem m_c_Growth_law (x : Val (.pair tyBook tI)) (k : Val tyEnds → Option ρ) :
    topK (m_c_Growth_E ρ) 38 (encL [tyBook, tI] x) (fun h v => bindF (resH [tyRange, tI] h v) k) = m_c_Growth x.1 x.2 k := by kernel_rfl
theorem m_c_Says_law (x : Val (.pair tyBook tI)) (k : Val tyNum → Option ρ) :
    topK (m_c_Says_E ρ) 40 (encL [tyBook, tI] x) (fun h v => bindF (resH [tySpan, tI] h v) k) = m_c_Says x.1 x.2 k := by kernel_rfl
theorem m_c_System_law (x : Val tyBook) (k : (Val (.pair tySystem (.pair (.slice tySpan) tI))) → Option ρ) :
    topK (m_c_System_E ρ) 51 (encL [tyBook] x) (fun h v => bindF (resH [tySystem, (.slice tySpan), tI] h v) k) = m_c_System x k := by kernel_rfl
theorem m_c_asked_L0_ok : (m_c_asked_L0_e ρ).Ok (m_c_asked_E ρ) := ⟨by kernel_rfl, fun p v kn kx => by kernel_rfl⟩
theorem m_c_asked_law (x : Val (.pair tyBook (.pair tI (.slice tI)))) (k : Int → Option ρ) :
    topK (m_c_asked_E ρ) 127 (encL [tyBook, tI, (.slice tI)] x) (fun h v => bindF (resH [tI] h v) k) = m_c_asked x.1 x.2.1 x.2.2 k := by kernel_rfl
theorem m_c_Loss_law (x : Val (.pair tyBook tyLink)) (k : Val tySpan → Option ρ) :
    topK (m_c_Loss_E ρ) 57 (encL [tyBook, tI, tI, tI] x) (fun h v => bindF (resH [tI, tI] h v) k) = m_c_Loss x.1 x.2.1 x.2.2.1 x.2.2.2 k := by kernel_rfl
theorem m_w5_example_law (x : Unit) (k : Val tyBook → Option ρ) :
    topK (m_w5_example_E ρ) 75 (encL [] x) (fun h v => bindF (resH [tyBook] h v) k) = m_w5_example k := by kernel_rfl
theorem m_w5_sanity_law (x : Unit) (k : Bool → Option ρ) :
    topK (m_w5_sanity_E ρ) 19 (encL [] x) (fun h v => bindF (resH [.bool] h v) k) = m_w5_sanity k := by kernel_rfl
theorem m_r5_In_law (x : Val tyLink) (k : Bool → Option ρ) :
    topK (m_r5_In_E ρ) 41 (encL [tI, tI, tI] x) (fun h v => bindF (resH [.bool] h v) k) = m_r5_In x.1 x.2.1 x.2.2 k := by kernel_rfl
theorem m_r5_Day_law (x : Val tI) (k : Bool → Option ρ) :
    topK (m_r5_Day_E ρ) 36 (encL [tI] x) (fun h v => bindF (resH [.bool] h v) k) = m_r5_Day x k := by kernel_rfl
theorem m_r5_Has_L0_ok : (m_r5_Has_L0_e ρ).Ok (m_r5_Has_E ρ) := ⟨by kernel_rfl, fun p v kn kx => by kernel_rfl⟩
theorem m_r5_Has_law (x : Val (.pair (.slice tI) tI)) (k : Bool → Option ρ) :
    topK (m_r5_Has_E ρ) 110 (encL [(.slice tI), tI] x) (fun h v => bindF (resH [.bool] h v) k) = m_r5_Has x.1 x.2 k := by kernel_rfl
theorem m_r5_Left_L0_ok : (m_r5_Left_L0_e ρ).Ok (m_r5_Left_E ρ) := ⟨by kernel_rfl, fun p v kn kx => by kernel_rfl⟩
theorem m_r5_Left_law (x : Val (.pair (.slice tI) (.slice tI))) (k : (Val (.slice tI)) → Option ρ) :
    topK (m_r5_Left_E ρ) 35 (encL [(.slice tI), (.slice tI)] x) (fun h v => bindF (resH [(.slice tI)] h v) k) = m_r5_Left x.1 x.2 k := by kernel_rfl
theorem m_r5_one_law (x : Val (.pair (.slice tI) (.slice tI))) (k : Int → Option ρ) :
    topK (m_r5_one_E ρ) 91 (encL [(.slice tI), (.slice tI)] x) (fun h v => bindF (resH [tI] h v) k) = m_r5_one x.1 x.2 k := by kernel_rfl
theorem m_r1_Gcd_L0_ok : (m_r1_Gcd_L0_e ρ).Ok (m_r1_Gcd_E ρ) := ⟨by kernel_rfl, fun p v kn kx => by kernel_rfl⟩
theorem m_r1_Gcd_law (x : Val tySpan) (k : Int → Option ρ) :
    topK (m_r1_Gcd_E ρ) 178 (encL [tI, tI] x) (fun h v => bindF (resH [tI] h v) k) = m_r1_Gcd x.1 x.2 k := by kernel_rfl
theorem m_r1_Abs_law (x : Val tI) (k : Int → Option ρ) :
    topK (m_r1_Abs_E ρ) 179 (encL [tI] x) (fun h v => bindF (resH [tI] h v) k) = m_r1_Abs x k := by kernel_rfl
theorem m_r1_lowest_law (x : Val tySpan) (k : Val tyNum → Option ρ) :
    topK (m_r1_lowest_E ρ) 187 (encL [tI, tI] x) (fun h v => bindF (resH [tyNum] h v) k) = m_r1_lowest x.1 x.2 k := by kernel_rfl
theorem m_r1_Add_law (x : Val tyRange) (k : Val tyNum → Option ρ) :
    topK (m_r1_Add_E ρ) 157 (encL [tySpan, tySpan] x) (fun h v => bindF (resH [tyNum] h v) k) = m_r1_Add x.1 x.2 k := by kernel_rfl
theorem m_r1_Neg_law (x : Val tySpan) (k : Val tySpan → Option ρ) :
    topK (m_r1_Neg_E ρ) 158 (encL [tySpan] x) (fun h v => bindF (resH [tySpan] h v) k) = m_r1_Neg x k := by kernel_rfl
theorem m_r1_Sub_law (x : Val tyRange) (k : Val tyNum → Option ρ) :
    topK (m_r1_Sub_E ρ) 115 (encL [tySpan, tySpan] x) (fun h v => bindF (resH [tyNum] h v) k) = m_r1_Sub x.1 x.2 k := by kernel_rfl
theorem m_r5_Find_L0_ok : (m_r5_Find_L0_e ρ).Ok (m_r5_Find_E ρ) := ⟨by kernel_rfl, fun p v kn kx => by kernel_rfl⟩
theorem m_r5_Find_law (x : Val (.pair tyBook tI)) (k : Int → Option ρ) :
    topK (m_r5_Find_E ρ) 61 (encL [tyBook, tI] x) (fun h v => bindF (resH [tI] h v) k) = m_r5_Find x.1 x.2 k := by kernel_rfl
theorem m_r5_grows_law (x : Val (.pair tyBook tI)) (k : Val tySpan → Option ρ) :
    topK (m_r5_grows_E ρ) 116 (encL [tyBook, tI] x) (fun h v => bindF (resH [tySpan] h v) k) = m_r5_grows x.1 x.2 k := by kernel_rfl
theorem m_r1_both_law (x : Val (.pair tyNum tyNum)) (k : Val tyEnds → Option ρ) :
    topK (m_r1_both_E ρ) 159 (encL [tyNum, tyNum] x) (fun h v => bindF (resH [tyEnds] h v) k) = m_r1_both x.1 x.2 k := by kernel_rfl
theorem m_r1_Mul_law (x : Val tyRange) (k : Val tyNum → Option ρ) :
    topK (m_r1_Mul_E ρ) 160 (encL [tySpan, tySpan] x) (fun h v => bindF (resH [tyNum] h v) k) = m_r1_Mul x.1 x.2 k := by kernel_rfl
theorem m_r1_Scale_law (x : Val (.pair tyRange tySpan)) (k : Val tyEnds → Option ρ) :
    topK (m_r1_Scale_E ρ) 117 (encL [tyRange, tySpan] x) (fun h v => bindF (resH [tyEnds] h v) k) = m_r1_Scale x.1 x.2 k := by kernel_rfl
theorem m_r5_Growth_law (x : Val (.pair tyBook tyCompare)) (k : Val tyRange → Option ρ) :
    topK (m_r5_Growth_E ρ) 42 (encL [tyBook, tyCompare] x) (fun h v => bindF (resH [tyRange] h v) k) = m_r5_Growth x.1 x.2 k := by kernel_rfl
theorem m_r5_Films_law (x : Val (.pair tyBook tyCompare)) (k : Val tySpan → Option ρ) :
    topK (m_r5_Films_E ρ) 43 (encL [tyBook, tyCompare] x) (fun h v => bindF (resH [tySpan] h v) k) = m_r5_Films x.1 x.2 k := by kernel_rfl
theorem m_r1_down_law (x : Val tySpan) (k : Int → Option ρ) :
    topK (m_r1_down_E ρ) 161 (encL [tI, tI] x) (fun h v => bindF (resH [tI] h v) k) = m_r1_down x.1 x.2 k := by kernel_rfl
theorem m_r1_Floor_law (x : Val tySpan) (k : Int → Option ρ) :
    topK (m_r1_Floor_E ρ) 118 (encL [tySpan] x) (fun h v => bindF (resH [tI] h v) k) = m_r1_Floor x k := by kernel_rfl
theorem m_r1_up_law (x : Val tySpan) (k : Int → Option ρ) :
    topK (m_r1_up_E ρ) 162 (encL [tI, tI] x) (fun h v => bindF (resH [tI] h v) k) = m_r1_up x.1 x.2 k := by kernel_rfl
theorem m_r1_Ceil_law (x : Val tySpan) (k : Int → Option ρ) :
    topK (m_r1_Ceil_E ρ) 119 (encL [tySpan] x) (fun h v => bindF (resH [tI] h v) k) = m_r1_Ceil x k := by kernel_rfl
theorem m_r5_Says_law (x : Val (.pair tyBook tyCompare)) (k : Val tySpan → Option ρ) :
    topK (m_r5_Says_E ρ) 44 (encL [tyBook, tyCompare] x) (fun h v => bindF (resH [tySpan] h v) k) = m_r5_Says x.1 x.2 k := by kernel_rfl
theorem m_r5_asks_L0_ok : (m_r5_asks_L0_e ρ).Ok (m_r5_asks_E ρ) := ⟨by kernel_rfl, fun p v kn kx => by kernel_rfl⟩
theorem m_r5_asks_L1_ok : (m_r5_asks_L1_e ρ).Ok (m_r5_asks_E ρ) := ⟨by kernel_rfl, fun p v kn kx => by kernel_rfl⟩
theorem m_r5_asks_law (x : Val (.pair tyBook (.pair tyGauge tI))) (k : Bool → Option ρ) :
    topK (m_r5_asks_E ρ) 126 (encL [tyBook, tyGauge, tI] x) (fun h v => bindF (resH [.bool] h v) k) = m_r5_asks x.1 x.2.1 x.2.2 k := by kernel_rfl
theorem m_r5_Nodes_L0_ok : (m_r5_Nodes_L0_e ρ).Ok (m_r5_Nodes_E ρ) := ⟨by kernel_rfl, fun p v kn kx => by kernel_rfl⟩
theorem m_r5_Nodes_L1_ok : (m_r5_Nodes_L1_e ρ).Ok (m_r5_Nodes_E ρ) := ⟨by kernel_rfl, fun p v kn kx => by kernel_rfl⟩
theorem m_r5_Nodes_L2_ok : (m_r5_Nodes_L2_e ρ).Ok (m_r5_Nodes_E ρ) := ⟨by kernel_rfl, fun p v kn kx => by kernel_rfl⟩
theorem m_r5_Nodes_L5_ok : (m_r5_Nodes_L5_e ρ).Ok (m_r5_Nodes_E ρ) := ⟨by kernel_rfl, fun p v kn kx => by kernel_rfl⟩
theorem m_r5_Nodes_L4_ok : (m_r5_Nodes_L4_e ρ).Ok (m_r5_Nodes_E ρ) := ⟨by kernel_rfl, fun p v kn kx => by kernel_rfl⟩
theorem m_r5_Nodes_L3_ok : (m_r5_Nodes_L3_e ρ).Ok (m_r5_Nodes_E ρ) := ⟨by kernel_rfl, fun p v kn kx => by kernel_rfl⟩
theorem m_r5_Nodes_law (x : Val tyBook) (k : (Val (.slice tySpan)) → Option ρ) :
    topK (m_r5_Nodes_E ρ) 54 (encL [tyBook] x) (fun h v => bindF (resH [(.slice tySpan)] h v) k) = m_r5_Nodes x k := by kernel_rfl
theorem m_r5_Index_L0_ok : (m_r5_Index_L0_e ρ).Ok (m_r5_Index_E ρ) := ⟨by kernel_rfl, fun p v kn kx => by kernel_rfl⟩
theorem m_r5_Index_law (x : Val (.pair tyBook tySpan)) (k : Int → Option ρ) :
    topK (m_r5_Index_E ρ) 52 (encL [tyBook, tySpan] x) (fun h v => bindF (resH [tI] h v) k) = m_r5_Index x.1 x.2 k := by kernel_rfl
theorem m_r5_Lent_L0_ok : (m_r5_Lent_L0_e ρ).Ok (m_r5_Lent_E ρ) := ⟨by kernel_rfl, fun p v kn kx => by kernel_rfl⟩
theorem m_r5_Lent_law (x : Val (.pair tyBook tySpan)) (k : (Val (.pair tyLoan .bool)) → Option ρ) :
    topK (m_r5_Lent_E ρ) 59 (encL [tyBook, tI, tI] x) (fun h v => bindF (resH [tyLoan, .bool] h v) k) = m_r5_Lent x.1 x.2.1 x.2.2 k := by kernel_rfl
theorem m_r5_Used_L0_ok : (m_r5_Used_L0_e ρ).Ok (m_r5_Used_E ρ) := ⟨by kernel_rfl, fun p v kn kx => by kernel_rfl⟩
theorem m_r5_Used_law (x : Val (.pair tyBook tySpan)) (k : Bool → Option ρ) :
    topK (m_r5_Used_E ρ) 60 (encL [tyBook, tI, tI] x) (fun h v => bindF (resH [.bool] h v) k) = m_r5_Used x.1 x.2.1 x.2.2 k := by kernel_rfl
theorem m_r5_Loss_L0_ok : (m_r5_Loss_L0_e ρ).Ok (m_r5_Loss_E ρ) := ⟨by kernel_rfl, fun p v kn kx => by kernel_rfl⟩
theorem m_r5_Loss_law (x : Val (.pair tyBook tyLink)) (k : Int → Option ρ) :
    topK (m_r5_Loss_E ρ) 62 (encL [tyBook, tI, tI, tI] x) (fun h v => bindF (resH [tI] h v) k) = m_r5_Loss x.1 x.2.1 x.2.2.1 x.2.2.2 k := by kernel_rfl
theorem m_r5_Tie_L1_ok : (m_r5_Tie_L1_e ρ).Ok (m_r5_Tie_E ρ) := ⟨by kernel_rfl, fun p v kn kx => by kernel_rfl⟩
theorem m_r5_Tie_L0_ok : (m_r5_Tie_L0_e ρ).Ok (m_r5_Tie_E ρ) := ⟨by kernel_rfl, fun p v kn kx => by kernel_rfl⟩
theorem m_r5_Tie_L2_ok : (m_r5_Tie_L2_e ρ).Ok (m_r5_Tie_E ρ) := ⟨by kernel_rfl, fun p v kn kx => by kernel_rfl⟩
theorem m_r5_Tie_law (x : Val tyBook) (k : Val tyTied → Option ρ) :
    topK (m_r5_Tie_E ρ) 53 (encL [tyBook] x) (fun h v => bindF (resH [tyTied] h v) k) = m_r5_Tie x k := by kernel_rfl
theorem m_r5_spanned_law (x : Val tyRange) (k : Bool → Option ρ) :
    topK (m_r5_spanned_E ρ) 81 (encL [tySpan, tI, tI] x) (fun h v => bindF (resH [.bool] h v) k) = m_r5_spanned x.1 x.2.1 x.2.2 k := by kernel_rfl
theorem m_r1_Valid_law (x : Val tySpan) (k : Bool → Option ρ) :
    topK (m_r1_Valid_E ρ) 145 (encL [tySpan] x) (fun h v => bindF (resH [.bool] h v) k) = m_r1_Valid x k := by kernel_rfl
theorem m_r5_gauge_law (x : Val tyGauge) (k : Bool → Option ρ) :
    topK (m_r5_gauge_E ρ) 82 (encL [tyGauge] x) (fun h v => bindF (resH [.bool] h v) k) = m_r5_gauge x k := by kernel_rfl
theorem m_r5_Since_law (x : Val (.pair tyBook tySpan)) (k : Int → Option ρ) :
    topK (m_r5_Since_E ρ) 87 (encL [tyBook, tI, tI] x) (fun h v => bindF (resH [tI] h v) k) = m_r5_Since x.1 x.2.1 x.2.2 k := by kernel_rfl
theorem m_r5_uses_L0_ok : (m_r5_uses_L0_e ρ).Ok (m_r5_uses_E ρ) := ⟨by kernel_rfl, fun p v kn kx => by kernel_rfl⟩
theorem m_r5_uses_law (x : Val tyBook) (k : Int → Option ρ) :
    topK (m_r5_uses_E ρ) 83 (encL [tyBook] x) (fun h v => bindF (resH [tI] h v) k) = m_r5_uses x k := by kernel_rfl
theorem m_r5_loans_L1_ok : (m_r5_loans_L1_e ρ).Ok (m_r5_loans_E ρ) := ⟨by kernel_rfl, fun p v kn kx => by kernel_rfl⟩
theorem m_r5_loans_L2_ok : (m_r5_loans_L2_e ρ).Ok (m_r5_loans_E ρ) := ⟨by kernel_rfl, fun p v kn kx => by kernel_rfl⟩
theorem m_r5_loans_L0_ok : (m_r5_loans_L0_e ρ).Ok (m_r5_loans_E ρ) := ⟨by kernel_rfl, fun p v kn kx => by kernel_rfl⟩
theorem m_r5_loans_law (x : Val tyBook) (k : Int → Option ρ) :
    topK (m_r5_loans_E ρ) 84 (encL [tyBook] x) (fun h v => bindF (resH [tI] h v) k) = m_r5_loans x k := by kernel_rfl
theorem m_r5_Pile_L0_ok : (m_r5_Pile_L0_e ρ).Ok (m_r5_Pile_E ρ) := ⟨by kernel_rfl, fun p v kn kx => by kernel_rfl⟩
theorem m_r5_Pile_law (x : Val (.slice tI)) (k : Bool → Option ρ) :
    topK (m_r5_Pile_E ρ) 33 (encL [(.slice tI)] x) (fun h v => bindF (resH [.bool] h v) k) = m_r5_Pile x k := by kernel_rfl
theorem m_r5_plain_law (x : Val tyCompare) (k : Bool → Option ρ) :
    topK (m_r5_plain_E ρ) 85 (encL [tyCompare] x) (fun h v => bindF (resH [.bool] h v) k) = m_r5_plain x k := by kernel_rfl
theorem m_r5_compared_L0_ok : (m_r5_compared_L0_e ρ).Ok (m_r5_compared_E ρ) := ⟨by kernel_rfl, fun p v kn kx => by kernel_rfl⟩
theorem m_r5_compared_L1_ok : (m_r5_compared_L1_e ρ).Ok (m_r5_compared_E ρ) := ⟨by kernel_rfl, fun p v kn kx => by kernel_rfl⟩
theorem m_r5_compared_L2_ok : (m_r5_compared_L2_e ρ).Ok (m_r5_compared_E ρ) := ⟨by kernel_rfl, fun p v kn kx => by kernel_rfl⟩
theorem m_r5_compared_law (x : Val (.pair tyBook tyCompare)) (k : Int → Option ρ) :
    topK (m_r5_compared_E ρ) 86 (encL [tyBook, tyCompare] x) (fun h v => bindF (resH [tI] h v) k) = m_r5_compared x.1 x.2 k := by kernel_rfl
theorem m_r5_Check_L0_ok : (m_r5_Check_L0_e ρ).Ok (m_r5_Check_E ρ) := ⟨by kernel_rfl, fun p v kn kx => by kernel_rfl⟩
theorem m_r5_Check_L2_ok : (m_r5_Check_L2_e ρ).Ok (m_r5_Check_E ρ) := ⟨by kernel_rfl, fun p v kn kx => by kernel_rfl⟩
theorem m_r5_Check_L1_ok : (m_r5_Check_L1_e ρ).Ok (m_r5_Check_E ρ) := ⟨by kernel_rfl, fun p v kn kx => by kernel_rfl⟩
theorem m_r5_Check_L3_ok : (m_r5_Check_L3_e ρ).Ok (m_r5_Check_E ρ) := ⟨by kernel_rfl, fun p v kn kx => by kernel_rfl⟩
theorem m_r5_Check_law (x : Val tyBook) (k : Int → Option ρ) :
    topK (m_r5_Check_E ρ) 21 (encL [tyBook] x) (fun h v => bindF (resH [tI] h v) k) = m_r5_Check x k := by kernel_rfl
theorem m_r5_more_law (x : Val (.pair tyBook tyCompare)) (k : Val tyBook → Option ρ) :
    topK (m_r5_more_E ρ) 88 (encL [tyBook, tyCompare] x) (fun h v => bindF (resH [tyBook] h v) k) = m_r5_more x.1 x.2 k := by kernel_rfl
theorem m_r5_With_law (x : Val (.pair tyBook tyCompare)) (k : (Val (.pair tyBook tI)) → Option ρ) :
    topK (m_r5_With_E ρ) 22 (encL [tyBook, tyCompare] x) (fun h v => bindF (resH [tyBook, tI] h v) k) = m_r5_With x.1 x.2 k := by kernel_rfl
theorem m_r5_Shown_law (x : Val (.pair tyBook (.pair tyCompare tI))) (k : Val tySpan → Option ρ) :
    topK (m_r5_Shown_E ρ) 73 (encL [tyBook, tyCompare, tI] x) (fun h v => bindF (resH [tySpan] h v) k) = m_r5_Shown x.1 x.2.1 x.2.2 k := by kernel_rfl
theorem m_r5_Open_L1_ok : (m_r5_Open_L1_e ρ).Ok (m_r5_Open_E ρ) := ⟨by kernel_rfl, fun p v kn kx => by kernel_rfl⟩
theorem m_r5_Open_L0_ok : (m_r5_Open_L0_e ρ).Ok (m_r5_Open_E ρ) := ⟨by kernel_rfl, fun p v kn kx => by kernel_rfl⟩
theorem m_r5_Open_law (x : Val tySystem) (k : Bool → Option ρ) :
    topK (m_r5_Open_E ρ) 89 (encL [tySystem] x) (fun h v => bindF (resH [.bool] h v) k) = m_r5_Open x k := by kernel_rfl
theorem m_r5_System_law (x : Val tyBook) (k : Val tySystem → Option ρ) :
    topK (m_r5_System_E ρ) 90 (encL [tyBook] x) (fun h v => bindF (resH [tySystem] h v) k) = m_r5_System x k := by kernel_rfl
theorem m_r5_Bounds_L0_ok : (m_r5_Bounds_L0_e ρ).Ok (m_r5_Bounds_E ρ) := ⟨by kernel_rfl, fun p v kn kx => by kernel_rfl⟩
theorem m_r5_Bounds_L2_ok : (m_r5_Bounds_L2_e ρ).Ok (m_r5_Bounds_E ρ) := ⟨by kernel_rfl, fun p v kn kx => by kernel_rfl⟩
theorem m_r5_Bounds_L1_ok : (m_r5_Bounds_L1_e ρ).Ok (m_r5_Bounds_E ρ) := ⟨by kernel_rfl, fun p v kn kx => by kernel_rfl⟩
theorem m_r5_Bounds_law (x : Val (.pair tySystem tI)) (k : (Val (.slice tI)) → Option ρ) :
    topK (m_r5_Bounds_E ρ) 92 (encL [tySystem, tI] x) (fun h v => bindF (resH [(.slice tI)] h v) k) = m_r5_Bounds x.1 x.2 k := by kernel_rfl
theorem m_r5_Predict_law (x : Val (.pair tyBook tyCompare)) (k : Val tyNum → Option ρ) :
    topK (m_r5_Predict_E ρ) 23 (encL [tyBook, tyCompare] x) (fun h v => bindF (resH [tySpan, tI] h v) k) = m_r5_Predict x.1 x.2 k := by kernel_rfl
theorem m_w5_ComparePredicts_law (x : Val (.pair tyBook tyCompare)) (k : Bool → Option ρ) :
    topK (m_w5_ComparePredicts_E ρ) 3 (encL [tyBook, tyCompare] x) (fun h v => bindF (resH [.bool] h v) k) = m_w5_ComparePredicts x.1 x.2 k := by kernel_rfl
end Go.Proofs.ZzM
end
