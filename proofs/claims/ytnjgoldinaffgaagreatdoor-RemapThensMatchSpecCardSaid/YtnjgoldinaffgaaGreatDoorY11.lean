/- The data of the chapter on partners, and what its functions compute: plain definitions. -/
import Derived.Test.YtnjgoldinaffgaaGreatDoorY2
namespace Go.Proofs.YtnjgoldinaffgaaGreatDoor
set_option linter.unusedSimpArgs false
set_option linter.unusedVariables false
open Go.RowKit
abbrev Str:=List UInt8
abbrev sv (s:Str):Value:=.string ⟨s.toArray⟩
@[go_sem] theorem zQ5 (l:List UInt8) (k:Nat) (h:k < (ByteArray.mk l.toArray).size):(ByteArray.mk l.toArray)[k]'h=l[k]'(by simpa [ByteArray.size] using h):=rfl
structure Agr where
 fr:Str
 tgt:Str
 msg:Str
 ver:Str
 first:Int
 last:Int
 test:Bool
 reply:Int
 inOrder:Bool
abbrev Agr.cells (a:Agr):List Value := [sv a.fr,sv a.tgt,sv a.msg,sv a.ver,.int .i64 a.first,.int .i64 a.last,.bool a.test,.int .i64 a.reply,.bool a.inOrder]
abbrev Agr.v (a:Agr):Value:=.agg #[sv a.fr,sv a.tgt,sv a.msg,sv a.ver,.int .i64 a.first,.int .i64 a.last,.bool a.test,.int .i64 a.reply,.bool a.inOrder]
structure Cas where
 fr:Str
 tgt:Str
 msg:Str
 ver:Str
 day:Int
 test:Bool
abbrev Cas.v (a:Cas):Value:=.agg #[sv a.fr,sv a.tgt,sv a.msg,sv a.ver,.int .i64 a.day,.bool a.test]
def Str.Ok (s:Str):Prop:=s.length≤9223372036854775807
def oD (c:UInt8):Bool:=decide (97≤c.toNat) && decide (c.toNat≤122)
def fO (c:UInt8):Bool:=oD c || (decide (48≤c.toNat) && decide (c.toNat≤57)) || decide (c.toNat=45)
def aR:Str→Bool
 |[]=>false
 |c::s=>decide (s.length < 40) && oD c && (c::s).all fO
structure Agr.Ok (a:Agr):Prop where
 msg:Str.Ok a.msg
 ver:Str.Ok a.ver
structure Ser where
 first:Int
 last:Int
abbrev Ser.v (s:Ser):Value:=.agg #[.int .i64 s.first,.int .i64 s.last]
end Go.Proofs.YtnjgoldinaffgaaGreatDoor
