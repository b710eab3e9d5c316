/- The law SectNames of the sections' chapter: its examples come out as they are told; for every input (it has none). -/
import Derived.Test.YtjdlochffpikbaaKx4
namespace Go.Proofs.Ytjdlochffpikbaa.Pure
open Go.RowKit Go.Proofs.Ytjdlochffpikbaa.K Go.Proofs.YtjdlochffpikbaaW.PrintWords Go.Proofs.YtjdlochffpikbaaW.PrintLast

theorem SectNames : reedpipelaw19_SectNames.Pure := ⟨100, by decide +kernel⟩

end Go.Proofs.Ytjdlochffpikbaa.Pure
