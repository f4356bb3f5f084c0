/- A part of the table for HardestToBeat: the best answer's chance is the same on both sides. -/
import Derived.Test.YtliiljjeebnfeaaHbBase
namespace Go.Proofs.Ytliiljjeebnfeaa.PFnExactHardestToBeat
set_option maxRecDepth 1000000
theorem hb_1_3_hh : hbChk 1 3 ⟨#[104, 104]⟩ = true := by decide +kernel
theorem hb_1_3_ht : hbChk 1 3 ⟨#[104, 116]⟩ = true := by decide +kernel
theorem hb_1_3_th : hbChk 1 3 ⟨#[116, 104]⟩ = true := by decide +kernel
theorem hb_1_3_tt : hbChk 1 3 ⟨#[116, 116]⟩ = true := by decide +kernel
theorem hb_1_3_hhh : hbChk 1 3 ⟨#[104, 104, 104]⟩ = true := by decide +kernel
theorem hb_1_3_hht : hbChk 1 3 ⟨#[104, 104, 116]⟩ = true := by decide +kernel
theorem hb_1_3_hth : hbChk 1 3 ⟨#[104, 116, 104]⟩ = true := by decide +kernel
theorem hb_1_3_htt : hbChk 1 3 ⟨#[104, 116, 116]⟩ = true := by decide +kernel
theorem hb_1_3_thh : hbChk 1 3 ⟨#[116, 104, 104]⟩ = true := by decide +kernel
theorem hb_1_3_tht : hbChk 1 3 ⟨#[116, 104, 116]⟩ = true := by decide +kernel
theorem hb_1_3_tth : hbChk 1 3 ⟨#[116, 116, 104]⟩ = true := by decide +kernel
theorem hb_1_3_ttt : hbChk 1 3 ⟨#[116, 116, 116]⟩ = true := by decide +kernel
theorem hb_1_3_hhhh : hbChk 1 3 ⟨#[104, 104, 104, 104]⟩ = true := by decide +kernel
theorem hb_1_3_hhht : hbChk 1 3 ⟨#[104, 104, 104, 116]⟩ = true := by decide +kernel
theorem hb_1_3_hhth : hbChk 1 3 ⟨#[104, 104, 116, 104]⟩ = true := by decide +kernel
theorem hb_1_3_hhtt : hbChk 1 3 ⟨#[104, 104, 116, 116]⟩ = true := by decide +kernel
theorem hb_1_3_hthh : hbChk 1 3 ⟨#[104, 116, 104, 104]⟩ = true := by decide +kernel
theorem hb_1_3_htht : hbChk 1 3 ⟨#[104, 116, 104, 116]⟩ = true := by decide +kernel
theorem hb_1_3_htth : hbChk 1 3 ⟨#[104, 116, 116, 104]⟩ = true := by decide +kernel
theorem hb_1_3_httt : hbChk 1 3 ⟨#[104, 116, 116, 116]⟩ = true := by decide +kernel
theorem hb_1_3_thhh : hbChk 1 3 ⟨#[116, 104, 104, 104]⟩ = true := by decide +kernel
theorem hb_1_3_thht : hbChk 1 3 ⟨#[116, 104, 104, 116]⟩ = true := by decide +kernel
theorem hb_1_3_thth : hbChk 1 3 ⟨#[116, 104, 116, 104]⟩ = true := by decide +kernel
theorem hb_1_3_thtt : hbChk 1 3 ⟨#[116, 104, 116, 116]⟩ = true := by decide +kernel
theorem hb_1_3_tthh : hbChk 1 3 ⟨#[116, 116, 104, 104]⟩ = true := by decide +kernel
theorem hb_1_3_ttht : hbChk 1 3 ⟨#[116, 116, 104, 116]⟩ = true := by decide +kernel
theorem hb_1_3_ttth : hbChk 1 3 ⟨#[116, 116, 116, 104]⟩ = true := by decide +kernel
theorem hb_1_3_tttt : hbChk 1 3 ⟨#[116, 116, 116, 116]⟩ = true := by decide +kernel
end Go.Proofs.Ytliiljjeebnfeaa.PFnExactHardestToBeat
