/- A part of the table for HardestToBeat: the best answer's chance is the same on both sides. -/
import Derived.Test.YtliiljjeebnfeaaHbBase
namespace Go.Proofs.Ytliiljjeebnfeaa.PFnExactHardestToBeat
set_option maxRecDepth 1000000
theorem hb_1_4_hh : hbChk 1 4 ⟨#[104, 104]⟩ = true := by decide +kernel
theorem hb_1_4_ht : hbChk 1 4 ⟨#[104, 116]⟩ = true := by decide +kernel
theorem hb_1_4_th : hbChk 1 4 ⟨#[116, 104]⟩ = true := by decide +kernel
theorem hb_1_4_tt : hbChk 1 4 ⟨#[116, 116]⟩ = true := by decide +kernel
theorem hb_1_4_hhh : hbChk 1 4 ⟨#[104, 104, 104]⟩ = true := by decide +kernel
theorem hb_1_4_hht : hbChk 1 4 ⟨#[104, 104, 116]⟩ = true := by decide +kernel
theorem hb_1_4_hth : hbChk 1 4 ⟨#[104, 116, 104]⟩ = true := by decide +kernel
theorem hb_1_4_htt : hbChk 1 4 ⟨#[104, 116, 116]⟩ = true := by decide +kernel
theorem hb_1_4_thh : hbChk 1 4 ⟨#[116, 104, 104]⟩ = true := by decide +kernel
theorem hb_1_4_tht : hbChk 1 4 ⟨#[116, 104, 116]⟩ = true := by decide +kernel
theorem hb_1_4_tth : hbChk 1 4 ⟨#[116, 116, 104]⟩ = true := by decide +kernel
theorem hb_1_4_ttt : hbChk 1 4 ⟨#[116, 116, 116]⟩ = true := by decide +kernel
theorem hb_1_4_hhhh : hbChk 1 4 ⟨#[104, 104, 104, 104]⟩ = true := by decide +kernel
theorem hb_1_4_hhht : hbChk 1 4 ⟨#[104, 104, 104, 116]⟩ = true := by decide +kernel
theorem hb_1_4_hhth : hbChk 1 4 ⟨#[104, 104, 116, 104]⟩ = true := by decide +kernel
theorem hb_1_4_hhtt : hbChk 1 4 ⟨#[104, 104, 116, 116]⟩ = true := by decide +kernel
theorem hb_1_4_hthh : hbChk 1 4 ⟨#[104, 116, 104, 104]⟩ = true := by decide +kernel
theorem hb_1_4_htht : hbChk 1 4 ⟨#[104, 116, 104, 116]⟩ = true := by decide +kernel
theorem hb_1_4_htth : hbChk 1 4 ⟨#[104, 116, 116, 104]⟩ = true := by decide +kernel
theorem hb_1_4_httt : hbChk 1 4 ⟨#[104, 116, 116, 116]⟩ = true := by decide +kernel
theorem hb_1_4_thhh : hbChk 1 4 ⟨#[116, 104, 104, 104]⟩ = true := by decide +kernel
theorem hb_1_4_thht : hbChk 1 4 ⟨#[116, 104, 104, 116]⟩ = true := by decide +kernel
theorem hb_1_4_thth : hbChk 1 4 ⟨#[116, 104, 116, 104]⟩ = true := by decide +kernel
theorem hb_1_4_thtt : hbChk 1 4 ⟨#[116, 104, 116, 116]⟩ = true := by decide +kernel
theorem hb_1_4_tthh : hbChk 1 4 ⟨#[116, 116, 104, 104]⟩ = true := by decide +kernel
theorem hb_1_4_ttht : hbChk 1 4 ⟨#[116, 116, 104, 116]⟩ = true := by decide +kernel
theorem hb_1_4_ttth : hbChk 1 4 ⟨#[116, 116, 116, 104]⟩ = true := by decide +kernel
theorem hb_1_4_tttt : hbChk 1 4 ⟨#[116, 116, 116, 116]⟩ = true := by decide +kernel
end Go.Proofs.Ytliiljjeebnfeaa.PFnExactHardestToBeat
