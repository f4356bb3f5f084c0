/- A part of the table for HardestToBeat: the best answer's chance is the same on both sides. -/
import Derived.Test.YtliiljjeebnfeaaHbBase
namespace Go.Proofs.Ytliiljjeebnfeaa.PFnExactHardestToBeat
set_option maxRecDepth 1000000
theorem hb_2_4_hhhhh : hbChk 2 4 ⟨#[104, 104, 104, 104, 104]⟩ = true := by decide +kernel
theorem hb_2_4_hhhht : hbChk 2 4 ⟨#[104, 104, 104, 104, 116]⟩ = true := by decide +kernel
theorem hb_2_4_hhhth : hbChk 2 4 ⟨#[104, 104, 104, 116, 104]⟩ = true := by decide +kernel
theorem hb_2_4_hhhtt : hbChk 2 4 ⟨#[104, 104, 104, 116, 116]⟩ = true := by decide +kernel
theorem hb_2_4_hhthh : hbChk 2 4 ⟨#[104, 104, 116, 104, 104]⟩ = true := by decide +kernel
theorem hb_2_4_hhtht : hbChk 2 4 ⟨#[104, 104, 116, 104, 116]⟩ = true := by decide +kernel
theorem hb_2_4_hhtth : hbChk 2 4 ⟨#[104, 104, 116, 116, 104]⟩ = true := by decide +kernel
theorem hb_2_4_hhttt : hbChk 2 4 ⟨#[104, 104, 116, 116, 116]⟩ = true := by decide +kernel
theorem hb_2_4_hthhh : hbChk 2 4 ⟨#[104, 116, 104, 104, 104]⟩ = true := by decide +kernel
theorem hb_2_4_hthht : hbChk 2 4 ⟨#[104, 116, 104, 104, 116]⟩ = true := by decide +kernel
theorem hb_2_4_hthth : hbChk 2 4 ⟨#[104, 116, 104, 116, 104]⟩ = true := by decide +kernel
theorem hb_2_4_hthtt : hbChk 2 4 ⟨#[104, 116, 104, 116, 116]⟩ = true := by decide +kernel
theorem hb_2_4_htthh : hbChk 2 4 ⟨#[104, 116, 116, 104, 104]⟩ = true := by decide +kernel
theorem hb_2_4_httht : hbChk 2 4 ⟨#[104, 116, 116, 104, 116]⟩ = true := by decide +kernel
theorem hb_2_4_httth : hbChk 2 4 ⟨#[104, 116, 116, 116, 104]⟩ = true := by decide +kernel
theorem hb_2_4_htttt : hbChk 2 4 ⟨#[104, 116, 116, 116, 116]⟩ = true := by decide +kernel
end Go.Proofs.Ytliiljjeebnfeaa.PFnExactHardestToBeat
