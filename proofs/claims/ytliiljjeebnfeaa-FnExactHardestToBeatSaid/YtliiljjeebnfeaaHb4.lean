/- A part of the table for HardestToBeat: the best answer's chance is the same on both sides. -/
import Derived.Test.YtliiljjeebnfeaaHbBase
namespace Go.Proofs.Ytliiljjeebnfeaa.PFnExactHardestToBeat
set_option maxRecDepth 1000000
theorem hb_1_3_hhhhh : hbChk 1 3 ⟨#[104, 104, 104, 104, 104]⟩ = true := by decide +kernel
theorem hb_1_3_hhhht : hbChk 1 3 ⟨#[104, 104, 104, 104, 116]⟩ = true := by decide +kernel
theorem hb_1_3_hhhth : hbChk 1 3 ⟨#[104, 104, 104, 116, 104]⟩ = true := by decide +kernel
theorem hb_1_3_hhhtt : hbChk 1 3 ⟨#[104, 104, 104, 116, 116]⟩ = true := by decide +kernel
theorem hb_1_3_hhthh : hbChk 1 3 ⟨#[104, 104, 116, 104, 104]⟩ = true := by decide +kernel
theorem hb_1_3_hhtht : hbChk 1 3 ⟨#[104, 104, 116, 104, 116]⟩ = true := by decide +kernel
theorem hb_1_3_hhtth : hbChk 1 3 ⟨#[104, 104, 116, 116, 104]⟩ = true := by decide +kernel
theorem hb_1_3_hhttt : hbChk 1 3 ⟨#[104, 104, 116, 116, 116]⟩ = true := by decide +kernel
theorem hb_1_3_hthhh : hbChk 1 3 ⟨#[104, 116, 104, 104, 104]⟩ = true := by decide +kernel
theorem hb_1_3_hthht : hbChk 1 3 ⟨#[104, 116, 104, 104, 116]⟩ = true := by decide +kernel
theorem hb_1_3_hthth : hbChk 1 3 ⟨#[104, 116, 104, 116, 104]⟩ = true := by decide +kernel
theorem hb_1_3_hthtt : hbChk 1 3 ⟨#[104, 116, 104, 116, 116]⟩ = true := by decide +kernel
theorem hb_1_3_htthh : hbChk 1 3 ⟨#[104, 116, 116, 104, 104]⟩ = true := by decide +kernel
theorem hb_1_3_httht : hbChk 1 3 ⟨#[104, 116, 116, 104, 116]⟩ = true := by decide +kernel
theorem hb_1_3_httth : hbChk 1 3 ⟨#[104, 116, 116, 116, 104]⟩ = true := by decide +kernel
theorem hb_1_3_htttt : hbChk 1 3 ⟨#[104, 116, 116, 116, 116]⟩ = true := by decide +kernel
end Go.Proofs.Ytliiljjeebnfeaa.PFnExactHardestToBeat
