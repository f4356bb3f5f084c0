/- A part of the table for HardestToBeat: the best answer's chance is the same on both sides. -/
import Derived.Test.YtliiljjeebnfeaaHbBase
namespace Go.Proofs.Ytliiljjeebnfeaa.PFnExactHardestToBeat
set_option maxRecDepth 1000000
theorem hb_3_4_hhhhh : hbChk 3 4 ⟨#[104, 104, 104, 104, 104]⟩ = true := by decide +kernel
theorem hb_3_4_hhhht : hbChk 3 4 ⟨#[104, 104, 104, 104, 116]⟩ = true := by decide +kernel
theorem hb_3_4_hhhth : hbChk 3 4 ⟨#[104, 104, 104, 116, 104]⟩ = true := by decide +kernel
theorem hb_3_4_hhhtt : hbChk 3 4 ⟨#[104, 104, 104, 116, 116]⟩ = true := by decide +kernel
theorem hb_3_4_hhthh : hbChk 3 4 ⟨#[104, 104, 116, 104, 104]⟩ = true := by decide +kernel
theorem hb_3_4_hhtht : hbChk 3 4 ⟨#[104, 104, 116, 104, 116]⟩ = true := by decide +kernel
theorem hb_3_4_hhtth : hbChk 3 4 ⟨#[104, 104, 116, 116, 104]⟩ = true := by decide +kernel
theorem hb_3_4_hhttt : hbChk 3 4 ⟨#[104, 104, 116, 116, 116]⟩ = true := by decide +kernel
theorem hb_3_4_hthhh : hbChk 3 4 ⟨#[104, 116, 104, 104, 104]⟩ = true := by decide +kernel
theorem hb_3_4_hthht : hbChk 3 4 ⟨#[104, 116, 104, 104, 116]⟩ = true := by decide +kernel
theorem hb_3_4_hthth : hbChk 3 4 ⟨#[104, 116, 104, 116, 104]⟩ = true := by decide +kernel
theorem hb_3_4_hthtt : hbChk 3 4 ⟨#[104, 116, 104, 116, 116]⟩ = true := by decide +kernel
theorem hb_3_4_htthh : hbChk 3 4 ⟨#[104, 116, 116, 104, 104]⟩ = true := by decide +kernel
theorem hb_3_4_httht : hbChk 3 4 ⟨#[104, 116, 116, 104, 116]⟩ = true := by decide +kernel
theorem hb_3_4_httth : hbChk 3 4 ⟨#[104, 116, 116, 116, 104]⟩ = true := by decide +kernel
theorem hb_3_4_htttt : hbChk 3 4 ⟨#[104, 116, 116, 116, 116]⟩ = true := by decide +kernel
end Go.Proofs.Ytliiljjeebnfeaa.PFnExactHardestToBeat
