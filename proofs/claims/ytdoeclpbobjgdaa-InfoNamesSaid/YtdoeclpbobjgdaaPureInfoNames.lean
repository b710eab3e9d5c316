/- The law InfoNames of the windows' chapter: its examples come out as they are told; for every input (it has none). -/
import Derived.Test.YtdoeclpbobjgdaaKx6
namespace Go.Proofs.Ytdoeclpbobjgdaa.Pure
open Go.RowKit Go.Proofs.Ytdoeclpbobjgdaa.K Go.Proofs.YtdoeclpbobjgdaaW.PrintWords Go.Proofs.YtdoeclpbobjgdaaW.PrintLast

theorem InfoNames : reedpipelaw10_InfoNames.Pure := ⟨40, by decide +kernel⟩

end Go.Proofs.Ytdoeclpbobjgdaa.Pure
