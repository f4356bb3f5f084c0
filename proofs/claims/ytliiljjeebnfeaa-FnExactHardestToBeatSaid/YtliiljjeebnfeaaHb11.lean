/- A part of the table for HardestToBeat: the best answer's chance is the same on both sides. -/
import Derived.Test.YtliiljjeebnfeaaHbBase
namespace Go.Proofs.Ytliiljjeebnfeaa.PFnExactHardestToBeat
set_option maxRecDepth 1000000
theorem hb_1_4_thhhh : hbChk 1 4 ⟨#[116, 104, 104, 104, 104]⟩ = true := by decide +kernel
theorem hb_1_4_thhht : hbChk 1 4 ⟨#[116, 104, 104, 104, 116]⟩ = true := by decide +kernel
theorem hb_1_4_thhth : hbChk 1 4 ⟨#[116, 104, 104, 116, 104]⟩ = true := by decide +kernel
theorem hb_1_4_thhtt : hbChk 1 4 ⟨#[116, 104, 104, 116, 116]⟩ = true := by decide +kernel
theorem hb_1_4_ththh : hbChk 1 4 ⟨#[116, 104, 116, 104, 104]⟩ = true := by decide +kernel
theorem hb_1_4_ththt : hbChk 1 4 ⟨#[116, 104, 116, 104, 116]⟩ = true := by decide +kernel
theorem hb_1_4_thtth : hbChk 1 4 ⟨#[116, 104, 116, 116, 104]⟩ = true := by decide +kernel
theorem hb_1_4_thttt : hbChk 1 4 ⟨#[116, 104, 116, 116, 116]⟩ = true := by decide +kernel
theorem hb_1_4_tthhh : hbChk 1 4 ⟨#[116, 116, 104, 104, 104]⟩ = true := by decide +kernel
theorem hb_1_4_tthht : hbChk 1 4 ⟨#[116, 116, 104, 104, 116]⟩ = true := by decide +kernel
theorem hb_1_4_tthth : hbChk 1 4 ⟨#[116, 116, 104, 116, 104]⟩ = true := by decide +kernel
theorem hb_1_4_tthtt : hbChk 1 4 ⟨#[116, 116, 104, 116, 116]⟩ = true := by decide +kernel
theorem hb_1_4_ttthh : hbChk 1 4 ⟨#[116, 116, 116, 104, 104]⟩ = true := by decide +kernel
theorem hb_1_4_tttht : hbChk 1 4 ⟨#[116, 116, 116, 104, 116]⟩ = true := by decide +kernel
theorem hb_1_4_tttth : hbChk 1 4 ⟨#[116, 116, 116, 116, 104]⟩ = true := by decide +kernel
theorem hb_1_4_ttttt : hbChk 1 4 ⟨#[116, 116, 116, 116, 116]⟩ = true := by decide +kernel
end Go.Proofs.Ytliiljjeebnfeaa.PFnExactHardestToBeat
