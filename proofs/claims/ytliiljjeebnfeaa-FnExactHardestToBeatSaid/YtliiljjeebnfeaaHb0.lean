/- A part of the table for HardestToBeat: the best answer's chance is the same on both sides. -/
import Derived.Test.YtliiljjeebnfeaaHbBase
namespace Go.Proofs.Ytliiljjeebnfeaa.PFnExactHardestToBeat
set_option maxRecDepth 1000000
theorem hb_1_2_hh : hbChk 1 2 ⟨#[104, 104]⟩ = true := by decide +kernel
theorem hb_1_2_ht : hbChk 1 2 ⟨#[104, 116]⟩ = true := by decide +kernel
theorem hb_1_2_th : hbChk 1 2 ⟨#[116, 104]⟩ = true := by decide +kernel
theorem hb_1_2_tt : hbChk 1 2 ⟨#[116, 116]⟩ = true := by decide +kernel
theorem hb_1_2_hhh : hbChk 1 2 ⟨#[104, 104, 104]⟩ = true := by decide +kernel
theorem hb_1_2_hht : hbChk 1 2 ⟨#[104, 104, 116]⟩ = true := by decide +kernel
theorem hb_1_2_hth : hbChk 1 2 ⟨#[104, 116, 104]⟩ = true := by decide +kernel
theorem hb_1_2_htt : hbChk 1 2 ⟨#[104, 116, 116]⟩ = true := by decide +kernel
theorem hb_1_2_thh : hbChk 1 2 ⟨#[116, 104, 104]⟩ = true := by decide +kernel
theorem hb_1_2_tht : hbChk 1 2 ⟨#[116, 104, 116]⟩ = true := by decide +kernel
theorem hb_1_2_tth : hbChk 1 2 ⟨#[116, 116, 104]⟩ = true := by decide +kernel
theorem hb_1_2_ttt : hbChk 1 2 ⟨#[116, 116, 116]⟩ = true := by decide +kernel
theorem hb_1_2_hhhh : hbChk 1 2 ⟨#[104, 104, 104, 104]⟩ = true := by decide +kernel
theorem hb_1_2_hhht : hbChk 1 2 ⟨#[104, 104, 104, 116]⟩ = true := by decide +kernel
theorem hb_1_2_hhth : hbChk 1 2 ⟨#[104, 104, 116, 104]⟩ = true := by decide +kernel
theorem hb_1_2_hhtt : hbChk 1 2 ⟨#[104, 104, 116, 116]⟩ = true := by decide +kernel
theorem hb_1_2_hthh : hbChk 1 2 ⟨#[104, 116, 104, 104]⟩ = true := by decide +kernel
theorem hb_1_2_htht : hbChk 1 2 ⟨#[104, 116, 104, 116]⟩ = true := by decide +kernel
theorem hb_1_2_htth : hbChk 1 2 ⟨#[104, 116, 116, 104]⟩ = true := by decide +kernel
theorem hb_1_2_httt : hbChk 1 2 ⟨#[104, 116, 116, 116]⟩ = true := by decide +kernel
theorem hb_1_2_thhh : hbChk 1 2 ⟨#[116, 104, 104, 104]⟩ = true := by decide +kernel
theorem hb_1_2_thht : hbChk 1 2 ⟨#[116, 104, 104, 116]⟩ = true := by decide +kernel
theorem hb_1_2_thth : hbChk 1 2 ⟨#[116, 104, 116, 104]⟩ = true := by decide +kernel
theorem hb_1_2_thtt : hbChk 1 2 ⟨#[116, 104, 116, 116]⟩ = true := by decide +kernel
theorem hb_1_2_tthh : hbChk 1 2 ⟨#[116, 116, 104, 104]⟩ = true := by decide +kernel
theorem hb_1_2_ttht : hbChk 1 2 ⟨#[116, 116, 104, 116]⟩ = true := by decide +kernel
theorem hb_1_2_ttth : hbChk 1 2 ⟨#[116, 116, 116, 104]⟩ = true := by decide +kernel
theorem hb_1_2_tttt : hbChk 1 2 ⟨#[116, 116, 116, 116]⟩ = true := by decide +kernel
end Go.Proofs.Ytliiljjeebnfeaa.PFnExactHardestToBeat
