/- A part of the table for HardestToBeat: the best answer's chance is the same on both sides. -/
import Derived.Test.YtliiljjeebnfeaaHbBase
namespace Go.Proofs.Ytliiljjeebnfeaa.PFnExactHardestToBeat
set_option maxRecDepth 1000000
theorem hb_2_4_thhhh : hbChk 2 4 ⟨#[116, 104, 104, 104, 104]⟩ = true := by decide +kernel
theorem hb_2_4_thhht : hbChk 2 4 ⟨#[116, 104, 104, 104, 116]⟩ = true := by decide +kernel
theorem hb_2_4_thhth : hbChk 2 4 ⟨#[116, 104, 104, 116, 104]⟩ = true := by decide +kernel
theorem hb_2_4_thhtt : hbChk 2 4 ⟨#[116, 104, 104, 116, 116]⟩ = true := by decide +kernel
theorem hb_2_4_ththh : hbChk 2 4 ⟨#[116, 104, 116, 104, 104]⟩ = true := by decide +kernel
theorem hb_2_4_ththt : hbChk 2 4 ⟨#[116, 104, 116, 104, 116]⟩ = true := by decide +kernel
theorem hb_2_4_thtth : hbChk 2 4 ⟨#[116, 104, 116, 116, 104]⟩ = true := by decide +kernel
theorem hb_2_4_thttt : hbChk 2 4 ⟨#[116, 104, 116, 116, 116]⟩ = true := by decide +kernel
theorem hb_2_4_tthhh : hbChk 2 4 ⟨#[116, 116, 104, 104, 104]⟩ = true := by decide +kernel
theorem hb_2_4_tthht : hbChk 2 4 ⟨#[116, 116, 104, 104, 116]⟩ = true := by decide +kernel
theorem hb_2_4_tthth : hbChk 2 4 ⟨#[116, 116, 104, 116, 104]⟩ = true := by decide +kernel
theorem hb_2_4_tthtt : hbChk 2 4 ⟨#[116, 116, 104, 116, 116]⟩ = true := by decide +kernel
theorem hb_2_4_ttthh : hbChk 2 4 ⟨#[116, 116, 116, 104, 104]⟩ = true := by decide +kernel
theorem hb_2_4_tttht : hbChk 2 4 ⟨#[116, 116, 116, 104, 116]⟩ = true := by decide +kernel
theorem hb_2_4_tttth : hbChk 2 4 ⟨#[116, 116, 116, 116, 104]⟩ = true := by decide +kernel
theorem hb_2_4_ttttt : hbChk 2 4 ⟨#[116, 116, 116, 116, 116]⟩ = true := by decide +kernel
end Go.Proofs.Ytliiljjeebnfeaa.PFnExactHardestToBeat
