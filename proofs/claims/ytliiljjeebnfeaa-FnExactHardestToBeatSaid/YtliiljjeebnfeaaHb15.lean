/- A part of the table for HardestToBeat: the best answer's chance is the same on both sides. -/
import Derived.Test.YtliiljjeebnfeaaHbBase
namespace Go.Proofs.Ytliiljjeebnfeaa.PFnExactHardestToBeat
set_option maxRecDepth 1000000
theorem hb_3_4_hh : hbChk 3 4 ⟨#[104, 104]⟩ = true := by decide +kernel
theorem hb_3_4_ht : hbChk 3 4 ⟨#[104, 116]⟩ = true := by decide +kernel
theorem hb_3_4_th : hbChk 3 4 ⟨#[116, 104]⟩ = true := by decide +kernel
theorem hb_3_4_tt : hbChk 3 4 ⟨#[116, 116]⟩ = true := by decide +kernel
theorem hb_3_4_hhh : hbChk 3 4 ⟨#[104, 104, 104]⟩ = true := by decide +kernel
theorem hb_3_4_hht : hbChk 3 4 ⟨#[104, 104, 116]⟩ = true := by decide +kernel
theorem hb_3_4_hth : hbChk 3 4 ⟨#[104, 116, 104]⟩ = true := by decide +kernel
theorem hb_3_4_htt : hbChk 3 4 ⟨#[104, 116, 116]⟩ = true := by decide +kernel
theorem hb_3_4_thh : hbChk 3 4 ⟨#[116, 104, 104]⟩ = true := by decide +kernel
theorem hb_3_4_tht : hbChk 3 4 ⟨#[116, 104, 116]⟩ = true := by decide +kernel
theorem hb_3_4_tth : hbChk 3 4 ⟨#[116, 116, 104]⟩ = true := by decide +kernel
theorem hb_3_4_ttt : hbChk 3 4 ⟨#[116, 116, 116]⟩ = true := by decide +kernel
theorem hb_3_4_hhhh : hbChk 3 4 ⟨#[104, 104, 104, 104]⟩ = true := by decide +kernel
theorem hb_3_4_hhht : hbChk 3 4 ⟨#[104, 104, 104, 116]⟩ = true := by decide +kernel
theorem hb_3_4_hhth : hbChk 3 4 ⟨#[104, 104, 116, 104]⟩ = true := by decide +kernel
theorem hb_3_4_hhtt : hbChk 3 4 ⟨#[104, 104, 116, 116]⟩ = true := by decide +kernel
theorem hb_3_4_hthh : hbChk 3 4 ⟨#[104, 116, 104, 104]⟩ = true := by decide +kernel
theorem hb_3_4_htht : hbChk 3 4 ⟨#[104, 116, 104, 116]⟩ = true := by decide +kernel
theorem hb_3_4_htth : hbChk 3 4 ⟨#[104, 116, 116, 104]⟩ = true := by decide +kernel
theorem hb_3_4_httt : hbChk 3 4 ⟨#[104, 116, 116, 116]⟩ = true := by decide +kernel
theorem hb_3_4_thhh : hbChk 3 4 ⟨#[116, 104, 104, 104]⟩ = true := by decide +kernel
theorem hb_3_4_thht : hbChk 3 4 ⟨#[116, 104, 104, 116]⟩ = true := by decide +kernel
theorem hb_3_4_thth : hbChk 3 4 ⟨#[116, 104, 116, 104]⟩ = true := by decide +kernel
theorem hb_3_4_thtt : hbChk 3 4 ⟨#[116, 104, 116, 116]⟩ = true := by decide +kernel
theorem hb_3_4_tthh : hbChk 3 4 ⟨#[116, 116, 104, 104]⟩ = true := by decide +kernel
theorem hb_3_4_ttht : hbChk 3 4 ⟨#[116, 116, 104, 116]⟩ = true := by decide +kernel
theorem hb_3_4_ttth : hbChk 3 4 ⟨#[116, 116, 116, 104]⟩ = true := by decide +kernel
theorem hb_3_4_tttt : hbChk 3 4 ⟨#[116, 116, 116, 116]⟩ = true := by decide +kernel
end Go.Proofs.Ytliiljjeebnfeaa.PFnExactHardestToBeat
