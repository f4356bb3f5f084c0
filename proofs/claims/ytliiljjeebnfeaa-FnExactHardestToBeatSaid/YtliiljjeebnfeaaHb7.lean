/- A part of the table for HardestToBeat: the best answer's chance is the same on both sides. -/
import Derived.Test.YtliiljjeebnfeaaHbBase
namespace Go.Proofs.Ytliiljjeebnfeaa.PFnExactHardestToBeat
set_option maxRecDepth 1000000
theorem hb_2_3_hhhhh : hbChk 2 3 ⟨#[104, 104, 104, 104, 104]⟩ = true := by decide +kernel
theorem hb_2_3_hhhht : hbChk 2 3 ⟨#[104, 104, 104, 104, 116]⟩ = true := by decide +kernel
theorem hb_2_3_hhhth : hbChk 2 3 ⟨#[104, 104, 104, 116, 104]⟩ = true := by decide +kernel
theorem hb_2_3_hhhtt : hbChk 2 3 ⟨#[104, 104, 104, 116, 116]⟩ = true := by decide +kernel
theorem hb_2_3_hhthh : hbChk 2 3 ⟨#[104, 104, 116, 104, 104]⟩ = true := by decide +kernel
theorem hb_2_3_hhtht : hbChk 2 3 ⟨#[104, 104, 116, 104, 116]⟩ = true := by decide +kernel
theorem hb_2_3_hhtth : hbChk 2 3 ⟨#[104, 104, 116, 116, 104]⟩ = true := by decide +kernel
theorem hb_2_3_hhttt : hbChk 2 3 ⟨#[104, 104, 116, 116, 116]⟩ = true := by decide +kernel
theorem hb_2_3_hthhh : hbChk 2 3 ⟨#[104, 116, 104, 104, 104]⟩ = true := by decide +kernel
theorem hb_2_3_hthht : hbChk 2 3 ⟨#[104, 116, 104, 104, 116]⟩ = true := by decide +kernel
theorem hb_2_3_hthth : hbChk 2 3 ⟨#[104, 116, 104, 116, 104]⟩ = true := by decide +kernel
theorem hb_2_3_hthtt : hbChk 2 3 ⟨#[104, 116, 104, 116, 116]⟩ = true := by decide +kernel
theorem hb_2_3_htthh : hbChk 2 3 ⟨#[104, 116, 116, 104, 104]⟩ = true := by decide +kernel
theorem hb_2_3_httht : hbChk 2 3 ⟨#[104, 116, 116, 104, 116]⟩ = true := by decide +kernel
theorem hb_2_3_httth : hbChk 2 3 ⟨#[104, 116, 116, 116, 104]⟩ = true := by decide +kernel
theorem hb_2_3_htttt : hbChk 2 3 ⟨#[104, 116, 116, 116, 116]⟩ = true := by decide +kernel
end Go.Proofs.Ytliiljjeebnfeaa.PFnExactHardestToBeat
