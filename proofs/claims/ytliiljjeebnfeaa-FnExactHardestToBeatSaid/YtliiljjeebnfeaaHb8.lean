/- A part of the table for HardestToBeat: the best answer's chance is the same on both sides. -/
import Derived.Test.YtliiljjeebnfeaaHbBase
namespace Go.Proofs.Ytliiljjeebnfeaa.PFnExactHardestToBeat
set_option maxRecDepth 1000000
theorem hb_2_3_thhhh : hbChk 2 3 ⟨#[116, 104, 104, 104, 104]⟩ = true := by decide +kernel
theorem hb_2_3_thhht : hbChk 2 3 ⟨#[116, 104, 104, 104, 116]⟩ = true := by decide +kernel
theorem hb_2_3_thhth : hbChk 2 3 ⟨#[116, 104, 104, 116, 104]⟩ = true := by decide +kernel
theorem hb_2_3_thhtt : hbChk 2 3 ⟨#[116, 104, 104, 116, 116]⟩ = true := by decide +kernel
theorem hb_2_3_ththh : hbChk 2 3 ⟨#[116, 104, 116, 104, 104]⟩ = true := by decide +kernel
theorem hb_2_3_ththt : hbChk 2 3 ⟨#[116, 104, 116, 104, 116]⟩ = true := by decide +kernel
theorem hb_2_3_thtth : hbChk 2 3 ⟨#[116, 104, 116, 116, 104]⟩ = true := by decide +kernel
theorem hb_2_3_thttt : hbChk 2 3 ⟨#[116, 104, 116, 116, 116]⟩ = true := by decide +kernel
theorem hb_2_3_tthhh : hbChk 2 3 ⟨#[116, 116, 104, 104, 104]⟩ = true := by decide +kernel
theorem hb_2_3_tthht : hbChk 2 3 ⟨#[116, 116, 104, 104, 116]⟩ = true := by decide +kernel
theorem hb_2_3_tthth : hbChk 2 3 ⟨#[116, 116, 104, 116, 104]⟩ = true := by decide +kernel
theorem hb_2_3_tthtt : hbChk 2 3 ⟨#[116, 116, 104, 116, 116]⟩ = true := by decide +kernel
theorem hb_2_3_ttthh : hbChk 2 3 ⟨#[116, 116, 116, 104, 104]⟩ = true := by decide +kernel
theorem hb_2_3_tttht : hbChk 2 3 ⟨#[116, 116, 116, 104, 116]⟩ = true := by decide +kernel
theorem hb_2_3_tttth : hbChk 2 3 ⟨#[116, 116, 116, 116, 104]⟩ = true := by decide +kernel
theorem hb_2_3_ttttt : hbChk 2 3 ⟨#[116, 116, 116, 116, 116]⟩ = true := by decide +kernel
end Go.Proofs.Ytliiljjeebnfeaa.PFnExactHardestToBeat
