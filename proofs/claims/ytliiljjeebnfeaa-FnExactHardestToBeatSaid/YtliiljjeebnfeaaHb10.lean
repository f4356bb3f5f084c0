/- A part of the table for HardestToBeat: the best answer's chance is the same on both sides. -/
import Derived.Test.YtliiljjeebnfeaaHbBase
namespace Go.Proofs.Ytliiljjeebnfeaa.PFnExactHardestToBeat
set_option maxRecDepth 1000000
theorem hb_1_4_hhhhh : hbChk 1 4 ⟨#[104, 104, 104, 104, 104]⟩ = true := by decide +kernel
theorem hb_1_4_hhhht : hbChk 1 4 ⟨#[104, 104, 104, 104, 116]⟩ = true := by decide +kernel
theorem hb_1_4_hhhth : hbChk 1 4 ⟨#[104, 104, 104, 116, 104]⟩ = true := by decide +kernel
theorem hb_1_4_hhhtt : hbChk 1 4 ⟨#[104, 104, 104, 116, 116]⟩ = true := by decide +kernel
theorem hb_1_4_hhthh : hbChk 1 4 ⟨#[104, 104, 116, 104, 104]⟩ = true := by decide +kernel
theorem hb_1_4_hhtht : hbChk 1 4 ⟨#[104, 104, 116, 104, 116]⟩ = true := by decide +kernel
theorem hb_1_4_hhtth : hbChk 1 4 ⟨#[104, 104, 116, 116, 104]⟩ = true := by decide +kernel
theorem hb_1_4_hhttt : hbChk 1 4 ⟨#[104, 104, 116, 116, 116]⟩ = true := by decide +kernel
theorem hb_1_4_hthhh : hbChk 1 4 ⟨#[104, 116, 104, 104, 104]⟩ = true := by decide +kernel
theorem hb_1_4_hthht : hbChk 1 4 ⟨#[104, 116, 104, 104, 116]⟩ = true := by decide +kernel
theorem hb_1_4_hthth : hbChk 1 4 ⟨#[104, 116, 104, 116, 104]⟩ = true := by decide +kernel
theorem hb_1_4_hthtt : hbChk 1 4 ⟨#[104, 116, 104, 116, 116]⟩ = true := by decide +kernel
theorem hb_1_4_htthh : hbChk 1 4 ⟨#[104, 116, 116, 104, 104]⟩ = true := by decide +kernel
theorem hb_1_4_httht : hbChk 1 4 ⟨#[104, 116, 116, 104, 116]⟩ = true := by decide +kernel
theorem hb_1_4_httth : hbChk 1 4 ⟨#[104, 116, 116, 116, 104]⟩ = true := by decide +kernel
theorem hb_1_4_htttt : hbChk 1 4 ⟨#[104, 116, 116, 116, 116]⟩ = true := by decide +kernel
end Go.Proofs.Ytliiljjeebnfeaa.PFnExactHardestToBeat
