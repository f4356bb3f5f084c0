/- A part of the table for HardestToBeat: the best answer's chance is the same on both sides. -/
import Derived.Test.YtliiljjeebnfeaaHbBase
namespace Go.Proofs.Ytliiljjeebnfeaa.PFnExactHardestToBeat
set_option maxRecDepth 1000000
theorem hb_3_4_thhhh : hbChk 3 4 ⟨#[116, 104, 104, 104, 104]⟩ = true := by decide +kernel
theorem hb_3_4_thhht : hbChk 3 4 ⟨#[116, 104, 104, 104, 116]⟩ = true := by decide +kernel
theorem hb_3_4_thhth : hbChk 3 4 ⟨#[116, 104, 104, 116, 104]⟩ = true := by decide +kernel
theorem hb_3_4_thhtt : hbChk 3 4 ⟨#[116, 104, 104, 116, 116]⟩ = true := by decide +kernel
theorem hb_3_4_ththh : hbChk 3 4 ⟨#[116, 104, 116, 104, 104]⟩ = true := by decide +kernel
theorem hb_3_4_ththt : hbChk 3 4 ⟨#[116, 104, 116, 104, 116]⟩ = true := by decide +kernel
theorem hb_3_4_thtth : hbChk 3 4 ⟨#[116, 104, 116, 116, 104]⟩ = true := by decide +kernel
theorem hb_3_4_thttt : hbChk 3 4 ⟨#[116, 104, 116, 116, 116]⟩ = true := by decide +kernel
theorem hb_3_4_tthhh : hbChk 3 4 ⟨#[116, 116, 104, 104, 104]⟩ = true := by decide +kernel
theorem hb_3_4_tthht : hbChk 3 4 ⟨#[116, 116, 104, 104, 116]⟩ = true := by decide +kernel
theorem hb_3_4_tthth : hbChk 3 4 ⟨#[116, 116, 104, 116, 104]⟩ = true := by decide +kernel
theorem hb_3_4_tthtt : hbChk 3 4 ⟨#[116, 116, 104, 116, 116]⟩ = true := by decide +kernel
theorem hb_3_4_ttthh : hbChk 3 4 ⟨#[116, 116, 116, 104, 104]⟩ = true := by decide +kernel
theorem hb_3_4_tttht : hbChk 3 4 ⟨#[116, 116, 116, 104, 116]⟩ = true := by decide +kernel
theorem hb_3_4_tttth : hbChk 3 4 ⟨#[116, 116, 116, 116, 104]⟩ = true := by decide +kernel
theorem hb_3_4_ttttt : hbChk 3 4 ⟨#[116, 116, 116, 116, 116]⟩ = true := by decide +kernel
end Go.Proofs.Ytliiljjeebnfeaa.PFnExactHardestToBeat
