/- For every row of bytes, every offset and range, Frame and Resync return what the reference returns, and the chapter's examples hold. -/
import Derived.Test.YtjajknghcbpblaaQx8
import Derived.Test.YtjajknghcbpblaaFrames
namespace Go.Proofs.Ytjajknghcbpblaa.Pure
open Go.RowKit Go.Proofs.Ytjajknghcbpblaa.Q Go.Proofs.Ytjajknghcbpblaa.Arith Go.Proofs.YtjajknghcbpblaaW.PrintWords Go.Proofs.YtjajknghcbpblaaW.PrintLast
theorem PacketFrames : waveletlaw27_PacketFrames.Pure := by
  intro l a low high hm _ hb ha _ _
  refine ⟨11 * l.length + 401, ?_⟩
  unfold waveletlaw27_PacketFrames.f
  obtain ⟨h0, h1⟩ := i64_bounds ha
  have hm' : l.length ≤ 140737488351232 := by omega
  rw [frame_code (By.of hb) hm' a h0 h1 (by omega), frame_ref (By.of hb) hm' a h0 h1 (by omega), resync_code (By.of hb) hm' a low high (by omega), resync_ref (By.of hb) hm' a low high (by omega), example_at (by omega)]
  simp
end Go.Proofs.Ytjajknghcbpblaa.Pure
