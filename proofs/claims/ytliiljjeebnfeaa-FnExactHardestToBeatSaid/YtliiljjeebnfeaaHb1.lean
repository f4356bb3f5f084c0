/- A part of the table for HardestToBeat: the best answer's chance is the same on both sides. -/
import Derived.Test.YtliiljjeebnfeaaHbBase
namespace Go.Proofs.Ytliiljjeebnfeaa.PFnExactHardestToBeat
set_option maxRecDepth 1000000
theorem hb_1_2_hhhhh : hbChk 1 2 ⟨#[104, 104, 104, 104, 104]⟩ = true := by decide +kernel
theorem hb_1_2_hhhht : hbChk 1 2 ⟨#[104, 104, 104, 104, 116]⟩ = true := by decide +kernel
theorem hb_1_2_hhhth : hbChk 1 2 ⟨#[104, 104, 104, 116, 104]⟩ = true := by decide +kernel
theorem hb_1_2_hhhtt : hbChk 1 2 ⟨#[104, 104, 104, 116, 116]⟩ = true := by decide +kernel
theorem hb_1_2_hhthh : hbChk 1 2 ⟨#[104, 104, 116, 104, 104]⟩ = true := by decide +kernel
theorem hb_1_2_hhtht : hbChk 1 2 ⟨#[104, 104, 116, 104, 116]⟩ = true := by decide +kernel
theorem hb_1_2_hhtth : hbChk 1 2 ⟨#[104, 104, 116, 116, 104]⟩ = true := by decide +kernel
theorem hb_1_2_hhttt : hbChk 1 2 ⟨#[104, 104, 116, 116, 116]⟩ = true := by decide +kernel
theorem hb_1_2_hthhh : hbChk 1 2 ⟨#[104, 116, 104, 104, 104]⟩ = true := by decide +kernel
theorem hb_1_2_hthht : hbChk 1 2 ⟨#[104, 116, 104, 104, 116]⟩ = true := by decide +kernel
theorem hb_1_2_hthth : hbChk 1 2 ⟨#[104, 116, 104, 116, 104]⟩ = true := by decide +kernel
theorem hb_1_2_hthtt : hbChk 1 2 ⟨#[104, 116, 104, 116, 116]⟩ = true := by decide +kernel
theorem hb_1_2_htthh : hbChk 1 2 ⟨#[104, 116, 116, 104, 104]⟩ = true := by decide +kernel
theorem hb_1_2_httht : hbChk 1 2 ⟨#[104, 116, 116, 104, 116]⟩ = true := by decide +kernel
theorem hb_1_2_httth : hbChk 1 2 ⟨#[104, 116, 116, 116, 104]⟩ = true := by decide +kernel
theorem hb_1_2_htttt : hbChk 1 2 ⟨#[104, 116, 116, 116, 116]⟩ = true := by decide +kernel
end Go.Proofs.Ytliiljjeebnfeaa.PFnExactHardestToBeat
