/- A part of the table for HardestToBeat: the best answer's chance is the same on both sides. -/
import Derived.Test.YtliiljjeebnfeaaHbBase
namespace Go.Proofs.Ytliiljjeebnfeaa.PFnExactHardestToBeat
set_option maxRecDepth 1000000
theorem hb_2_3_hh : hbChk 2 3 ⟨#[104, 104]⟩ = true := by decide +kernel
theorem hb_2_3_ht : hbChk 2 3 ⟨#[104, 116]⟩ = true := by decide +kernel
theorem hb_2_3_th : hbChk 2 3 ⟨#[116, 104]⟩ = true := by decide +kernel
theorem hb_2_3_tt : hbChk 2 3 ⟨#[116, 116]⟩ = true := by decide +kernel
theorem hb_2_3_hhh : hbChk 2 3 ⟨#[104, 104, 104]⟩ = true := by decide +kernel
theorem hb_2_3_hht : hbChk 2 3 ⟨#[104, 104, 116]⟩ = true := by decide +kernel
theorem hb_2_3_hth : hbChk 2 3 ⟨#[104, 116, 104]⟩ = true := by decide +kernel
theorem hb_2_3_htt : hbChk 2 3 ⟨#[104, 116, 116]⟩ = true := by decide +kernel
theorem hb_2_3_thh : hbChk 2 3 ⟨#[116, 104, 104]⟩ = true := by decide +kernel
theorem hb_2_3_tht : hbChk 2 3 ⟨#[116, 104, 116]⟩ = true := by decide +kernel
theorem hb_2_3_tth : hbChk 2 3 ⟨#[116, 116, 104]⟩ = true := by decide +kernel
theorem hb_2_3_ttt : hbChk 2 3 ⟨#[116, 116, 116]⟩ = true := by decide +kernel
theorem hb_2_3_hhhh : hbChk 2 3 ⟨#[104, 104, 104, 104]⟩ = true := by decide +kernel
theorem hb_2_3_hhht : hbChk 2 3 ⟨#[104, 104, 104, 116]⟩ = true := by decide +kernel
theorem hb_2_3_hhth : hbChk 2 3 ⟨#[104, 104, 116, 104]⟩ = true := by decide +kernel
theorem hb_2_3_hhtt : hbChk 2 3 ⟨#[104, 104, 116, 116]⟩ = true := by decide +kernel
theorem hb_2_3_hthh : hbChk 2 3 ⟨#[104, 116, 104, 104]⟩ = true := by decide +kernel
theorem hb_2_3_htht : hbChk 2 3 ⟨#[104, 116, 104, 116]⟩ = true := by decide +kernel
theorem hb_2_3_htth : hbChk 2 3 ⟨#[104, 116, 116, 104]⟩ = true := by decide +kernel
theorem hb_2_3_httt : hbChk 2 3 ⟨#[104, 116, 116, 116]⟩ = true := by decide +kernel
theorem hb_2_3_thhh : hbChk 2 3 ⟨#[116, 104, 104, 104]⟩ = true := by decide +kernel
theorem hb_2_3_thht : hbChk 2 3 ⟨#[116, 104, 104, 116]⟩ = true := by decide +kernel
theorem hb_2_3_thth : hbChk 2 3 ⟨#[116, 104, 116, 104]⟩ = true := by decide +kernel
theorem hb_2_3_thtt : hbChk 2 3 ⟨#[116, 104, 116, 116]⟩ = true := by decide +kernel
theorem hb_2_3_tthh : hbChk 2 3 ⟨#[116, 116, 104, 104]⟩ = true := by decide +kernel
theorem hb_2_3_ttht : hbChk 2 3 ⟨#[116, 116, 104, 116]⟩ = true := by decide +kernel
theorem hb_2_3_ttth : hbChk 2 3 ⟨#[116, 116, 116, 104]⟩ = true := by decide +kernel
theorem hb_2_3_tttt : hbChk 2 3 ⟨#[116, 116, 116, 116]⟩ = true := by decide +kernel
end Go.Proofs.Ytliiljjeebnfeaa.PFnExactHardestToBeat
