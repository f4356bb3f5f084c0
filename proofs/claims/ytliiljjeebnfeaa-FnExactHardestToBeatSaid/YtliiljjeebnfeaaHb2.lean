/- A part of the table for HardestToBeat: the best answer's chance is the same on both sides. -/
import Derived.Test.YtliiljjeebnfeaaHbBase
namespace Go.Proofs.Ytliiljjeebnfeaa.PFnExactHardestToBeat
set_option maxRecDepth 1000000
theorem hb_1_2_thhhh : hbChk 1 2 ⟨#[116, 104, 104, 104, 104]⟩ = true := by decide +kernel
theorem hb_1_2_thhht : hbChk 1 2 ⟨#[116, 104, 104, 104, 116]⟩ = true := by decide +kernel
theorem hb_1_2_thhth : hbChk 1 2 ⟨#[116, 104, 104, 116, 104]⟩ = true := by decide +kernel
theorem hb_1_2_thhtt : hbChk 1 2 ⟨#[116, 104, 104, 116, 116]⟩ = true := by decide +kernel
theorem hb_1_2_ththh : hbChk 1 2 ⟨#[116, 104, 116, 104, 104]⟩ = true := by decide +kernel
theorem hb_1_2_ththt : hbChk 1 2 ⟨#[116, 104, 116, 104, 116]⟩ = true := by decide +kernel
theorem hb_1_2_thtth : hbChk 1 2 ⟨#[116, 104, 116, 116, 104]⟩ = true := by decide +kernel
theorem hb_1_2_thttt : hbChk 1 2 ⟨#[116, 104, 116, 116, 116]⟩ = true := by decide +kernel
theorem hb_1_2_tthhh : hbChk 1 2 ⟨#[116, 116, 104, 104, 104]⟩ = true := by decide +kernel
theorem hb_1_2_tthht : hbChk 1 2 ⟨#[116, 116, 104, 104, 116]⟩ = true := by decide +kernel
theorem hb_1_2_tthth : hbChk 1 2 ⟨#[116, 116, 104, 116, 104]⟩ = true := by decide +kernel
theorem hb_1_2_tthtt : hbChk 1 2 ⟨#[116, 116, 104, 116, 116]⟩ = true := by decide +kernel
theorem hb_1_2_ttthh : hbChk 1 2 ⟨#[116, 116, 116, 104, 104]⟩ = true := by decide +kernel
theorem hb_1_2_tttht : hbChk 1 2 ⟨#[116, 116, 116, 104, 116]⟩ = true := by decide +kernel
theorem hb_1_2_tttth : hbChk 1 2 ⟨#[116, 116, 116, 116, 104]⟩ = true := by decide +kernel
theorem hb_1_2_ttttt : hbChk 1 2 ⟨#[116, 116, 116, 116, 116]⟩ = true := by decide +kernel
end Go.Proofs.Ytliiljjeebnfeaa.PFnExactHardestToBeat
