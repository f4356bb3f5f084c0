/- A part of the table for HardestToBeat: the best answer's chance is the same on both sides. -/
import Derived.Test.YtliiljjeebnfeaaHbBase
namespace Go.Proofs.Ytliiljjeebnfeaa.PFnExactHardestToBeat
set_option maxRecDepth 1000000
theorem hb_1_3_thhhh : hbChk 1 3 ⟨#[116, 104, 104, 104, 104]⟩ = true := by decide +kernel
theorem hb_1_3_thhht : hbChk 1 3 ⟨#[116, 104, 104, 104, 116]⟩ = true := by decide +kernel
theorem hb_1_3_thhth : hbChk 1 3 ⟨#[116, 104, 104, 116, 104]⟩ = true := by decide +kernel
theorem hb_1_3_thhtt : hbChk 1 3 ⟨#[116, 104, 104, 116, 116]⟩ = true := by decide +kernel
theorem hb_1_3_ththh : hbChk 1 3 ⟨#[116, 104, 116, 104, 104]⟩ = true := by decide +kernel
theorem hb_1_3_ththt : hbChk 1 3 ⟨#[116, 104, 116, 104, 116]⟩ = true := by decide +kernel
theorem hb_1_3_thtth : hbChk 1 3 ⟨#[116, 104, 116, 116, 104]⟩ = true := by decide +kernel
theorem hb_1_3_thttt : hbChk 1 3 ⟨#[116, 104, 116, 116, 116]⟩ = true := by decide +kernel
theorem hb_1_3_tthhh : hbChk 1 3 ⟨#[116, 116, 104, 104, 104]⟩ = true := by decide +kernel
theorem hb_1_3_tthht : hbChk 1 3 ⟨#[116, 116, 104, 104, 116]⟩ = true := by decide +kernel
theorem hb_1_3_tthth : hbChk 1 3 ⟨#[116, 116, 104, 116, 104]⟩ = true := by decide +kernel
theorem hb_1_3_tthtt : hbChk 1 3 ⟨#[116, 116, 104, 116, 116]⟩ = true := by decide +kernel
theorem hb_1_3_ttthh : hbChk 1 3 ⟨#[116, 116, 116, 104, 104]⟩ = true := by decide +kernel
theorem hb_1_3_tttht : hbChk 1 3 ⟨#[116, 116, 116, 104, 116]⟩ = true := by decide +kernel
theorem hb_1_3_tttth : hbChk 1 3 ⟨#[116, 116, 116, 116, 104]⟩ = true := by decide +kernel
theorem hb_1_3_ttttt : hbChk 1 3 ⟨#[116, 116, 116, 116, 116]⟩ = true := by decide +kernel
end Go.Proofs.Ytliiljjeebnfeaa.PFnExactHardestToBeat
