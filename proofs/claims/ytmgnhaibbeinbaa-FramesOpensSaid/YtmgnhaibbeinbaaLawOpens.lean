/-
  The plain law of FramesOpens.
-/
import Derived.Test.YtmgnhaibbeinbaaPfd
import Derived.Test.YtmgnhaibbeinbaaOpn
namespace Go.Proofs.Ytmgnhaibbeinbaa
open Go Go.RowKit Go.Dec
theorem law_FramesOpens (f : Frame) (x : Int) (_ : W_Frame f) (_ : I64 x) : ∃ n, F_law01_FramesOpens n f x = some true := by
  obtain ⟨n, hn, hw⟩ := works_at
  refine ⟨n, ?_⟩
  simp only [F_law01_FramesOpens]
  rcases p_Far hn f with h | ⟨h, hs, _⟩
  · simp [h, hw]
  · have hl : f.Sections.length ≤ 1000 := by omega
    simp only [h, Option.bind_some, p_Copy01 hn hl, p_First hn hl, p_First01 hn hl, p_Opens hn hl, p_Opens01 hn hl, p_Turns hn hl, p_Turns01 hn hl, p_Blame hn hl, p_Blame01 hn hl, p_Closes hn hl, p_Closes01 hn hl, p_sameInts hn _ (blame_len f hl), hw]
    simp
end Go.Proofs.Ytmgnhaibbeinbaa
