/- For every row of bytes, Checksum returns the reference's CRC-16, and the chapter's examples hold. -/
import Derived.Test.YtjajknghcbpblaaQx6
import Derived.Test.YtjajknghcbpblaaSums
namespace Go.Proofs.Ytjajknghcbpblaa.Pure
open Go.RowKit Go.Proofs.Ytjajknghcbpblaa.Q Go.Proofs.Ytjajknghcbpblaa.Arith Go.Proofs.YtjajknghcbpblaaW.PrintWords Go.Proofs.YtjajknghcbpblaaW.PrintLast
theorem PacketChecksum : waveletlaw27_PacketChecksum.Pure := by
  intro l hm _ hb
  refine ⟨10 * l.length + 401, ?_⟩
  unfold waveletlaw27_PacketChecksum.f
  have hm' : l.length ≤ 140737488351232 := by omega
  rw [checksum_f (By.of hb) (by omega) (by omega), ref_checksum_f (By.of hb) (by omega) (by omega), example_at (by omega)]
  simp
end Go.Proofs.Ytjajknghcbpblaa.Pure
