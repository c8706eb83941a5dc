/-
  The plain law of FramesCosine.
-/
import Derived.Test.YtmgnhaibbeinbaaPfd
import Derived.Test.YtmgnhaibbeinbaaOpn
namespace Go.Proofs.Ytmgnhaibbeinbaa
open Go Go.RowKit Go.Dec
theorem law_FramesCosine (f : Frame) (x : law01_Ask) (_ : W_Frame f) (_ : W_law01_Ask x) : ∃ n, F_law01_FramesCosine n f x = some true := by
  obtain ⟨n, hn, hw⟩ := works_at
  refine ⟨n, ?_⟩
  simp only [F_law01_FramesCosine]
  rcases p_Far hn f with h | ⟨h, hs, _⟩
  · simp [h, hw]
  · have hl : f.Sections.length ≤ 1000 := by omega
    simp only [h, Option.bind_some, p_Copy01 hn hl, p_Check hn hl, p_Check01 hn hl, p_Distance hn hl, p_Distance01 hn hl, p_Cosine hn hl, p_Cosine01 hn hl, p_Binds hn hl, p_Binds01 hn hl, p_same hn hl, hw]
    simp
end Go.Proofs.Ytmgnhaibbeinbaa
