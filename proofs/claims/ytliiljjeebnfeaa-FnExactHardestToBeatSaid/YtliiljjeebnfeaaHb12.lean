/- A part of the table for HardestToBeat: the best answer's chance is the same on both sides. -/
import Derived.Test.YtliiljjeebnfeaaHbBase
namespace Go.Proofs.Ytliiljjeebnfeaa.PFnExactHardestToBeat
set_option maxRecDepth 1000000
theorem hb_2_4_hh : hbChk 2 4 ⟨#[104, 104]⟩ = true := by decide +kernel
theorem hb_2_4_ht : hbChk 2 4 ⟨#[104, 116]⟩ = true := by decide +kernel
theorem hb_2_4_th : hbChk 2 4 ⟨#[116, 104]⟩ = true := by decide +kernel
theorem hb_2_4_tt : hbChk 2 4 ⟨#[116, 116]⟩ = true := by decide +kernel
theorem hb_2_4_hhh : hbChk 2 4 ⟨#[104, 104, 104]⟩ = true := by decide +kernel
theorem hb_2_4_hht : hbChk 2 4 ⟨#[104, 104, 116]⟩ = true := by decide +kernel
theorem hb_2_4_hth : hbChk 2 4 ⟨#[104, 116, 104]⟩ = true := by decide +kernel
theorem hb_2_4_htt : hbChk 2 4 ⟨#[104, 116, 116]⟩ = true := by decide +kernel
theorem hb_2_4_thh : hbChk 2 4 ⟨#[116, 104, 104]⟩ = true := by decide +kernel
theorem hb_2_4_tht : hbChk 2 4 ⟨#[116, 104, 116]⟩ = true := by decide +kernel
theorem hb_2_4_tth : hbChk 2 4 ⟨#[116, 116, 104]⟩ = true := by decide +kernel
theorem hb_2_4_ttt : hbChk 2 4 ⟨#[116, 116, 116]⟩ = true := by decide +kernel
theorem hb_2_4_hhhh : hbChk 2 4 ⟨#[104, 104, 104, 104]⟩ = true := by decide +kernel
theorem hb_2_4_hhht : hbChk 2 4 ⟨#[104, 104, 104, 116]⟩ = true := by decide +kernel
theorem hb_2_4_hhth : hbChk 2 4 ⟨#[104, 104, 116, 104]⟩ = true := by decide +kernel
theorem hb_2_4_hhtt : hbChk 2 4 ⟨#[104, 104, 116, 116]⟩ = true := by decide +kernel
theorem hb_2_4_hthh : hbChk 2 4 ⟨#[104, 116, 104, 104]⟩ = true := by decide +kernel
theorem hb_2_4_htht : hbChk 2 4 ⟨#[104, 116, 104, 116]⟩ = true := by decide +kernel
theorem hb_2_4_htth : hbChk 2 4 ⟨#[104, 116, 116, 104]⟩ = true := by decide +kernel
theorem hb_2_4_httt : hbChk 2 4 ⟨#[104, 116, 116, 116]⟩ = true := by decide +kernel
theorem hb_2_4_thhh : hbChk 2 4 ⟨#[116, 104, 104, 104]⟩ = true := by decide +kernel
theorem hb_2_4_thht : hbChk 2 4 ⟨#[116, 104, 104, 116]⟩ = true := by decide +kernel
theorem hb_2_4_thth : hbChk 2 4 ⟨#[116, 104, 116, 104]⟩ = true := by decide +kernel
theorem hb_2_4_thtt : hbChk 2 4 ⟨#[116, 104, 116, 116]⟩ = true := by decide +kernel
theorem hb_2_4_tthh : hbChk 2 4 ⟨#[116, 116, 104, 104]⟩ = true := by decide +kernel
theorem hb_2_4_ttht : hbChk 2 4 ⟨#[116, 116, 104, 116]⟩ = true := by decide +kernel
theorem hb_2_4_ttth : hbChk 2 4 ⟨#[116, 116, 116, 104]⟩ = true := by decide +kernel
theorem hb_2_4_tttt : hbChk 2 4 ⟨#[116, 116, 116, 116]⟩ = true := by decide +kernel
end Go.Proofs.Ytliiljjeebnfeaa.PFnExactHardestToBeat
