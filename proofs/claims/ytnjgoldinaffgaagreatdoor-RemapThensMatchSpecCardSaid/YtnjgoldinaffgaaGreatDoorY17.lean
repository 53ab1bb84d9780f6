/- Notes: what is wrong with one, and the walks of that. -/
import Derived.Test.YtnjgoldinaffgaaGreatDoorY14
namespace Go.Proofs.YtnjgoldinaffgaaGreatDoor
set_option linter.unusedSimpArgs false
set_option linter.unusedVariables false
open Go.RowKit
set_option maxRecDepth 100000
set_option maxHeartbeats 1000000
theorem zHj {g:Nat} (hG:GB g=some zNT) {S:Sig} {w:World} (h:GL S w):∃ n,w.cell? ⟨g,0,none⟩=some (.int .i64 n):=by
 obtain ⟨_,o,h2,cs,e,fz,n,rfl,hn⟩:=h g _ hG
 exact ⟨n,by rw [cell_of_row w g 0 cs e fz h2];exact hn⟩
end Go.Proofs.YtnjgoldinaffgaaGreatDoor
