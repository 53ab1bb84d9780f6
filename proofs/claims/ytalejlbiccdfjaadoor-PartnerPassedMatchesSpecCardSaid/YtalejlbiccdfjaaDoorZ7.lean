/- What the types and functions of this translation are, one instance each. (Written by wip/inst.py.). -/
import Derived.Test.YtalejlbiccdfjaaDoorZ1
import Derived.Test.YtalejlbiccdfjaaDoorProg
namespace Go.Proofs.YtalejlbiccdfjaaDoor
set_option linter.unusedVariables false
theorem isz0:(Tryd.prog.info? 0).map (·.size)=some 1:=by kernel_rfl
theorem isz1:(Tryd.prog.info? 1).map (·.size)=some 1:=by kernel_rfl
theorem isz2:(Tryd.prog.info? 2).map (·.size)=some 1:=by kernel_rfl
theorem isz3:(Tryd.prog.info? 3).map (·.size)=some 1:=by kernel_rfl
theorem isz4:(Tryd.prog.info? 4).map (·.size)=some 1:=by kernel_rfl
theorem isz5:(Tryd.prog.info? 5).map (·.size)=some 1:=by kernel_rfl
theorem isz6:(Tryd.prog.info? 6).map (·.size)=some 1:=by kernel_rfl
theorem isz7:(Tryd.prog.info? 7).map (·.size)=some 4:=by kernel_rfl
theorem isz8:(Tryd.prog.info? 8).map (·.size)=some 4:=by kernel_rfl
theorem isz9:(Tryd.prog.info? 9).map (·.size)=some 1:=by kernel_rfl
theorem isz21:(Tryd.prog.info? 21).map (·.size)=some 1:=by kernel_rfl
theorem isz23:(Tryd.prog.info? 23).map (·.size)=some 2:=by kernel_rfl
theorem isz24:(Tryd.prog.info? 24).map (·.size)=some 1:=by kernel_rfl
theorem isz25:(Tryd.prog.info? 25).map (·.size)=some 1:=by kernel_rfl
theorem isz26:(Tryd.prog.info? 26).map (·.size)=some 1:=by kernel_rfl
theorem isz27:(Tryd.prog.info? 27).map (·.size)=some 1:=by kernel_rfl
theorem isz31:(Tryd.prog.info? 31).map (·.size)=some 2:=by kernel_rfl
theorem isz33:(Tryd.prog.info? 33).map (·.size)=some 3:=by kernel_rfl
theorem isz34:(Tryd.prog.info? 34).map (·.size)=some 1:=by kernel_rfl
theorem isz35:(Tryd.prog.info? 35).map (·.size)=some 1:=by kernel_rfl
theorem isz42:(Tryd.prog.info? 42).map (·.size)=some 1:=by kernel_rfl
theorem isz43:(Tryd.prog.info? 43).map (·.size)=some 1:=by kernel_rfl
theorem isz47:(Tryd.prog.info? 47).map (·.size)=some 2:=by kernel_rfl
theorem isz48:(Tryd.prog.info? 48).map (·.size)=some 1:=by kernel_rfl
theorem isz49:(Tryd.prog.info? 49).map (·.size)=some 1:=by kernel_rfl
theorem isz50:(Tryd.prog.info? 50).map (·.size)=some 1:=by kernel_rfl
theorem isz51:(Tryd.prog.info? 51).map (·.size)=some 1:=by kernel_rfl
theorem isz52:(Tryd.prog.info? 52).map (·.size)=some 1:=by kernel_rfl
theorem isz53:(Tryd.prog.info? 53).map (·.size)=some 9:=by kernel_rfl
theorem isz54:(Tryd.prog.info? 54).map (·.size)=some 9:=by kernel_rfl
theorem isz55:(Tryd.prog.info? 55).map (·.size)=some 1:=by kernel_rfl
theorem isz56:(Tryd.prog.info? 56).map (·.size)=some 1:=by kernel_rfl
theorem isz57:(Tryd.prog.info? 57).map (·.size)=some 1:=by kernel_rfl
theorem isz58:(Tryd.prog.info? 58).map (·.size)=some 1:=by kernel_rfl
theorem isz60:(Tryd.prog.info? 60).map (·.size)=some 8:=by kernel_rfl
theorem isz61:(Tryd.prog.info? 61).map (·.size)=some 1:=by kernel_rfl
theorem isz67:(Tryd.prog.info? 67).map (·.size)=some 2:=by kernel_rfl
theorem isz76:(Tryd.prog.info? 76).map (·.size)=some 1:=by kernel_rfl
theorem isz79:(Tryd.prog.info? 79).map (·.size)=some 1:=by kernel_rfl
theorem isz87:(Tryd.prog.info? 87).map (·.size)=some 256:=by kernel_rfl
theorem isz88:(Tryd.prog.info? 88).map (·.size)=some 1:=by kernel_rfl
theorem isz91:(Tryd.prog.info? 91).map (·.size)=some 1:=by kernel_rfl
theorem isz96:(Tryd.prog.info? 96).map (·.size)=some 1:=by kernel_rfl
theorem isz97:(Tryd.prog.info? 97).map (·.size)=some 1:=by kernel_rfl
theorem isz98:(Tryd.prog.info? 98).map (·.size)=some 1:=by kernel_rfl
theorem isz99:(Tryd.prog.info? 99).map (·.size)=some 1:=by kernel_rfl
theorem isz100:(Tryd.prog.info? 100).map (·.size)=some 256:=by kernel_rfl
theorem isz101:(Tryd.prog.info? 101).map (·.size)=some 1:=by kernel_rfl
theorem isz102:(Tryd.prog.info? 102).map (·.size)=some 2:=by kernel_rfl
theorem isz103:(Tryd.prog.info? 103).map (·.size)=some 2:=by kernel_rfl
theorem isz104:(Tryd.prog.info? 104).map (·.size)=some 32:=by kernel_rfl
instance:TSize Tryd.prog 0 1:=⟨isz0⟩
instance:TOne Tryd.prog 0:=⟨⟨_,Tryd.underlying0,rfl⟩,isz0⟩
instance:TSize Tryd.prog 1 1:=⟨isz1⟩
instance:TOne Tryd.prog 1:=⟨⟨_,Tryd.underlying1,rfl⟩,isz1⟩
instance:TZer Tryd.prog 1 [.nilFunc]:=⟨by kernel_rfl⟩
instance:TSize Tryd.prog 2 1:=⟨isz2⟩
instance:TOne Tryd.prog 2:=⟨⟨_,Tryd.underlying2,rfl⟩,isz2⟩
instance:TInt Tryd.prog 2 .i64:=⟨Tryd.underlying2⟩
instance:TZer Tryd.prog 2 [.int .i64 0]:=⟨by kernel_rfl⟩
instance:TSize Tryd.prog 3 1:=⟨isz3⟩
instance:TOne Tryd.prog 3:=⟨⟨_,Tryd.underlying3,rfl⟩,isz3⟩
instance:TInt Tryd.prog 3 .i64:=⟨Tryd.underlying3⟩
instance:TZer Tryd.prog 3 [.int .i64 0]:=⟨by kernel_rfl⟩
instance:TSize Tryd.prog 4 1:=⟨isz4⟩
instance:TOne Tryd.prog 4:=⟨⟨_,Tryd.underlying4,rfl⟩,isz4⟩
instance:TBool Tryd.prog 4:=⟨Tryd.underlying4⟩
instance:TZer Tryd.prog 4 [.bool false]:=⟨by kernel_rfl⟩
instance:TSize Tryd.prog 5 1:=⟨isz5⟩
instance:TOne Tryd.prog 5:=⟨⟨_,Tryd.underlying5,rfl⟩,isz5⟩
instance:TInt Tryd.prog 5 .u8:=⟨Tryd.underlying5⟩
instance:TZer Tryd.prog 5 [.int .u8 0]:=⟨by kernel_rfl⟩
instance:TSize Tryd.prog 6 1:=⟨isz6⟩
instance:TOne Tryd.prog 6:=⟨⟨_,Tryd.underlying6,rfl⟩,isz6⟩
instance:TInt Tryd.prog 6 .u8:=⟨Tryd.underlying6⟩
instance:TZer Tryd.prog 6 [.int .u8 0]:=⟨by kernel_rfl⟩
instance:TSize Tryd.prog 7 4:=⟨isz7⟩
instance:TRow Tryd.prog 7 4:=⟨⟨_,Tryd.underlying7,rfl⟩,isz7⟩
instance:TZer Tryd.prog 7 [.int .i64 0,.int .i64 0,.bool false,.int .u8 0]:=⟨by kernel_rfl⟩
instance:TStruct Tryd.prog 7 [(0,1),(1,1),(2,1),(3,1)]:=⟨⟨_,Tryd.underlying7,by kernel_rfl⟩⟩
instance:TFld Tryd.prog 7 0 0 0 false:=⟨⟨_,_,_,Tryd.underlying7,rfl,rfl,Tryd.underlying2,rfl,isz2⟩⟩
instance:TFld Tryd.prog 7 1 1 0 false:=⟨⟨_,_,_,Tryd.underlying7,rfl,rfl,Tryd.underlying3,rfl,isz3⟩⟩
instance:TFld Tryd.prog 7 2 2 0 false:=⟨⟨_,_,_,Tryd.underlying7,rfl,rfl,Tryd.underlying4,rfl,isz4⟩⟩
instance:TFld Tryd.prog 7 3 3 0 false:=⟨⟨_,_,_,Tryd.underlying7,rfl,rfl,Tryd.underlying6,rfl,isz6⟩⟩
instance:TSize Tryd.prog 8 4:=⟨isz8⟩
instance:TRow Tryd.prog 8 4:=⟨⟨_,Tryd.underlying8,rfl⟩,isz8⟩
instance:TZer Tryd.prog 8 [.int .i64 0,.int .i64 0,.bool false,.int .u8 0]:=⟨by kernel_rfl⟩
instance:TStruct Tryd.prog 8 [(0,1),(1,1),(2,1),(3,1)]:=⟨⟨_,Tryd.underlying8,by kernel_rfl⟩⟩
instance:TFld Tryd.prog 8 0 0 0 false:=⟨⟨_,_,_,Tryd.underlying8,rfl,rfl,Tryd.underlying2,rfl,isz2⟩⟩
instance:TFld Tryd.prog 8 1 1 0 false:=⟨⟨_,_,_,Tryd.underlying8,rfl,rfl,Tryd.underlying3,rfl,isz3⟩⟩
instance:TFld Tryd.prog 8 2 2 0 false:=⟨⟨_,_,_,Tryd.underlying8,rfl,rfl,Tryd.underlying4,rfl,isz4⟩⟩
instance:TFld Tryd.prog 8 3 3 0 false:=⟨⟨_,_,_,Tryd.underlying8,rfl,rfl,Tryd.underlying6,rfl,isz6⟩⟩
instance:TSize Tryd.prog 9 1:=⟨isz9⟩
instance:TOne Tryd.prog 9:=⟨⟨_,Tryd.underlying9,rfl⟩,isz9⟩
instance:TStr Tryd.prog 9:=⟨Tryd.underlying9⟩
instance:TZer Tryd.prog 9 [.string ⟨#[]⟩]:=⟨by kernel_rfl⟩
instance:TSize Tryd.prog 21 1:=⟨isz21⟩
instance:TOne Tryd.prog 21:=⟨⟨_,Tryd.underlying21,rfl⟩,isz21⟩
instance:TInt Tryd.prog 21 .i32:=⟨Tryd.underlying21⟩
instance:TZer Tryd.prog 21 [.int .i32 0]:=⟨by kernel_rfl⟩
instance:TSize Tryd.prog 23 2:=⟨isz23⟩
instance:TRow Tryd.prog 23 2:=⟨⟨_,Tryd.underlying23,rfl⟩,isz23⟩
instance:TZer Tryd.prog 23 [.int .i64 0,.int .i64 0]:=⟨by kernel_rfl⟩
instance:TStruct Tryd.prog 23 [(0,1),(1,1)]:=⟨⟨_,Tryd.underlying23,by kernel_rfl⟩⟩
instance:TFld Tryd.prog 23 0 0 0 false:=⟨⟨_,_,_,Tryd.underlying23,rfl,rfl,Tryd.underlying3,rfl,isz3⟩⟩
instance:TFld Tryd.prog 23 1 1 0 false:=⟨⟨_,_,_,Tryd.underlying23,rfl,rfl,Tryd.underlying3,rfl,isz3⟩⟩
instance:TSize Tryd.prog 24 1:=⟨isz24⟩
instance:TOne Tryd.prog 24:=⟨⟨_,Tryd.underlying24,rfl⟩,isz24⟩
instance:TSlice Tryd.prog 24 33:=⟨Tryd.underlying24⟩
instance:TZer Tryd.prog 24 [.slice none 0 0]:=⟨by kernel_rfl⟩
instance:TSize Tryd.prog 25 1:=⟨isz25⟩
instance:TOne Tryd.prog 25:=⟨⟨_,Tryd.underlying25,rfl⟩,isz25⟩
instance:TSlice Tryd.prog 25 31:=⟨Tryd.underlying25⟩
instance:TZer Tryd.prog 25 [.slice none 0 0]:=⟨by kernel_rfl⟩
instance:TSize Tryd.prog 26 1:=⟨isz26⟩
instance:TOne Tryd.prog 26:=⟨⟨_,Tryd.underlying26,rfl⟩,isz26⟩
instance:TInt Tryd.prog 26 .i64:=⟨Tryd.underlying26⟩
instance:TZer Tryd.prog 26 [.int .i64 0]:=⟨by kernel_rfl⟩
instance:TSize Tryd.prog 27 1:=⟨isz27⟩
instance:TOne Tryd.prog 27:=⟨⟨_,Tryd.underlying27,rfl⟩,isz27⟩
instance:TSize Tryd.prog 31 2:=⟨isz31⟩
instance:TRow Tryd.prog 31 2:=⟨⟨_,Tryd.underlying31,rfl⟩,isz31⟩
instance:TZer Tryd.prog 31 [.int .i64 0,.int .i64 0]:=⟨by kernel_rfl⟩
instance:TStruct Tryd.prog 31 [(0,1),(1,1)]:=⟨⟨_,Tryd.underlying31,by kernel_rfl⟩⟩
instance:TFld Tryd.prog 31 0 0 0 false:=⟨⟨_,_,_,Tryd.underlying31,rfl,rfl,Tryd.underlying3,rfl,isz3⟩⟩
instance:TFld Tryd.prog 31 1 1 0 false:=⟨⟨_,_,_,Tryd.underlying31,rfl,rfl,Tryd.underlying3,rfl,isz3⟩⟩
instance:TSize Tryd.prog 33 3:=⟨isz33⟩
instance:TRow Tryd.prog 33 3:=⟨⟨_,Tryd.underlying33,rfl⟩,isz33⟩
instance:TZer Tryd.prog 33 [.int .i64 0,.int .i64 0,.string ⟨#[]⟩]:=⟨by kernel_rfl⟩
instance:TStruct Tryd.prog 33 [(0,1),(1,1),(2,1)]:=⟨⟨_,Tryd.underlying33,by kernel_rfl⟩⟩
instance:TFld Tryd.prog 33 0 0 0 false:=⟨⟨_,_,_,Tryd.underlying33,rfl,rfl,Tryd.underlying3,rfl,isz3⟩⟩
instance:TFld Tryd.prog 33 1 1 0 false:=⟨⟨_,_,_,Tryd.underlying33,rfl,rfl,Tryd.underlying3,rfl,isz3⟩⟩
instance:TFld Tryd.prog 33 2 2 0 false:=⟨⟨_,_,_,Tryd.underlying33,rfl,rfl,Tryd.underlying9,rfl,isz9⟩⟩
instance:TSize Tryd.prog 34 1:=⟨isz34⟩
instance:TOne Tryd.prog 34:=⟨⟨_,Tryd.underlying34,rfl⟩,isz34⟩
instance:TSlice Tryd.prog 34 3:=⟨Tryd.underlying34⟩
instance:TZer Tryd.prog 34 [.slice none 0 0]:=⟨by kernel_rfl⟩
instance:TSize Tryd.prog 35 1:=⟨isz35⟩
instance:TOne Tryd.prog 35:=⟨⟨_,Tryd.underlying35,rfl⟩,isz35⟩
instance:TSize Tryd.prog 42 1:=⟨isz42⟩
instance:TOne Tryd.prog 42:=⟨⟨_,Tryd.underlying42,rfl⟩,isz42⟩
instance:TSlice Tryd.prog 42 47:=⟨Tryd.underlying42⟩
instance:TZer Tryd.prog 42 [.slice none 0 0]:=⟨by kernel_rfl⟩
instance:TSize Tryd.prog 43 1:=⟨isz43⟩
instance:TOne Tryd.prog 43:=⟨⟨_,Tryd.underlying43,rfl⟩,isz43⟩
instance:TSize Tryd.prog 47 2:=⟨isz47⟩
instance:TRow Tryd.prog 47 2:=⟨⟨_,Tryd.underlying47,rfl⟩,isz47⟩
instance:TZer Tryd.prog 47 [.int .i64 0,.int .i64 0]:=⟨by kernel_rfl⟩
instance:TStruct Tryd.prog 47 [(0,1),(1,1)]:=⟨⟨_,Tryd.underlying47,by kernel_rfl⟩⟩
instance:TFld Tryd.prog 47 0 0 0 false:=⟨⟨_,_,_,Tryd.underlying47,rfl,rfl,Tryd.underlying3,rfl,isz3⟩⟩
instance:TFld Tryd.prog 47 1 1 0 false:=⟨⟨_,_,_,Tryd.underlying47,rfl,rfl,Tryd.underlying3,rfl,isz3⟩⟩
instance:TSize Tryd.prog 48 1:=⟨isz48⟩
instance:TOne Tryd.prog 48:=⟨⟨_,Tryd.underlying48,rfl⟩,isz48⟩
instance:TZer Tryd.prog 48 [.nilFunc]:=⟨by kernel_rfl⟩
instance:TSize Tryd.prog 49 1:=⟨isz49⟩
instance:TOne Tryd.prog 49:=⟨⟨_,Tryd.underlying49,rfl⟩,isz49⟩
instance:TZer Tryd.prog 49 [.pointer none]:=⟨by kernel_rfl⟩
instance:TSize Tryd.prog 50 1:=⟨isz50⟩
instance:TOne Tryd.prog 50:=⟨⟨_,Tryd.underlying50,rfl⟩,isz50⟩
instance:TSize Tryd.prog 51 1:=⟨isz51⟩
instance:TOne Tryd.prog 51:=⟨⟨_,Tryd.underlying51,rfl⟩,isz51⟩
instance:TZer Tryd.prog 51 [.nilFunc]:=⟨by kernel_rfl⟩
instance:TSize Tryd.prog 52 1:=⟨isz52⟩
instance:TOne Tryd.prog 52:=⟨⟨_,Tryd.underlying52,rfl⟩,isz52⟩
instance:TZer Tryd.prog 52 [.map none]:=⟨by kernel_rfl⟩
instance:TSize Tryd.prog 53 9:=⟨isz53⟩
instance:TRow Tryd.prog 53 9:=⟨⟨_,Tryd.underlying53,rfl⟩,isz53⟩
instance:TZer Tryd.prog 53 [.int .i64 0,.int .i64 0,.int .i64 0,.slice none 0 0,.int .i64 0,.map none,.map none,.slice none 0 0,.slice none 0 0]:=⟨by kernel_rfl⟩
instance:TStruct Tryd.prog 53 [(0,2),(2,1),(3,1),(4,1),(5,1),(6,1),(7,1),(8,1)]:=⟨⟨_,Tryd.underlying53,by kernel_rfl⟩⟩
instance:TFld Tryd.prog 53 0 0 1 true:=⟨⟨_,_,_,Tryd.underlying53,rfl,rfl,Tryd.underlying23,rfl,isz23⟩⟩
instance:TFld Tryd.prog 53 1 2 0 false:=⟨⟨_,_,_,Tryd.underlying53,rfl,rfl,Tryd.underlying3,rfl,isz3⟩⟩
instance:TFld Tryd.prog 53 2 3 0 false:=⟨⟨_,_,_,Tryd.underlying53,rfl,rfl,Tryd.underlying24,rfl,isz24⟩⟩
instance:TFld Tryd.prog 53 3 4 0 false:=⟨⟨_,_,_,Tryd.underlying53,rfl,rfl,Tryd.underlying3,rfl,isz3⟩⟩
instance:TFld Tryd.prog 53 4 5 0 false:=⟨⟨_,_,_,Tryd.underlying53,rfl,rfl,Tryd.underlying52,rfl,isz52⟩⟩
instance:TFld Tryd.prog 53 5 6 0 false:=⟨⟨_,_,_,Tryd.underlying53,rfl,rfl,Tryd.underlying52,rfl,isz52⟩⟩
instance:TFld Tryd.prog 53 6 7 0 false:=⟨⟨_,_,_,Tryd.underlying53,rfl,rfl,Tryd.underlying25,rfl,isz25⟩⟩
instance:TFld Tryd.prog 53 7 8 0 false:=⟨⟨_,_,_,Tryd.underlying53,rfl,rfl,Tryd.underlying34,rfl,isz34⟩⟩
instance:TSize Tryd.prog 54 9:=⟨isz54⟩
instance:TRow Tryd.prog 54 9:=⟨⟨_,Tryd.underlying54,rfl⟩,isz54⟩
instance:TZer Tryd.prog 54 [.int .i64 0,.int .i64 0,.int .i64 0,.slice none 0 0,.int .i64 0,.map none,.map none,.slice none 0 0,.slice none 0 0]:=⟨by kernel_rfl⟩
instance:TStruct Tryd.prog 54 [(0,2),(2,1),(3,1),(4,1),(5,1),(6,1),(7,1),(8,1)]:=⟨⟨_,Tryd.underlying54,by kernel_rfl⟩⟩
instance:TFld Tryd.prog 54 0 0 1 true:=⟨⟨_,_,_,Tryd.underlying54,rfl,rfl,Tryd.underlying23,rfl,isz23⟩⟩
instance:TFld Tryd.prog 54 1 2 0 false:=⟨⟨_,_,_,Tryd.underlying54,rfl,rfl,Tryd.underlying3,rfl,isz3⟩⟩
instance:TFld Tryd.prog 54 2 3 0 false:=⟨⟨_,_,_,Tryd.underlying54,rfl,rfl,Tryd.underlying24,rfl,isz24⟩⟩
instance:TFld Tryd.prog 54 3 4 0 false:=⟨⟨_,_,_,Tryd.underlying54,rfl,rfl,Tryd.underlying3,rfl,isz3⟩⟩
instance:TFld Tryd.prog 54 4 5 0 false:=⟨⟨_,_,_,Tryd.underlying54,rfl,rfl,Tryd.underlying52,rfl,isz52⟩⟩
instance:TFld Tryd.prog 54 5 6 0 false:=⟨⟨_,_,_,Tryd.underlying54,rfl,rfl,Tryd.underlying52,rfl,isz52⟩⟩
instance:TFld Tryd.prog 54 6 7 0 false:=⟨⟨_,_,_,Tryd.underlying54,rfl,rfl,Tryd.underlying25,rfl,isz25⟩⟩
instance:TFld Tryd.prog 54 7 8 0 false:=⟨⟨_,_,_,Tryd.underlying54,rfl,rfl,Tryd.underlying34,rfl,isz34⟩⟩
instance:TSize Tryd.prog 55 1:=⟨isz55⟩
instance:TOne Tryd.prog 55:=⟨⟨_,Tryd.underlying55,rfl⟩,isz55⟩
instance:TSize Tryd.prog 56 1:=⟨isz56⟩
instance:TOne Tryd.prog 56:=⟨⟨_,Tryd.underlying56,rfl⟩,isz56⟩
instance:TZer Tryd.prog 56 [.nilFunc]:=⟨by kernel_rfl⟩
instance:TSize Tryd.prog 57 1:=⟨isz57⟩
instance:TOne Tryd.prog 57:=⟨⟨_,Tryd.underlying57,rfl⟩,isz57⟩
instance:TZer Tryd.prog 57 [.nilFunc]:=⟨by kernel_rfl⟩
instance:TSize Tryd.prog 58 1:=⟨isz58⟩
instance:TOne Tryd.prog 58:=⟨⟨_,Tryd.underlying58,rfl⟩,isz58⟩
instance:TSlice Tryd.prog 58 67:=⟨Tryd.underlying58⟩
instance:TZer Tryd.prog 58 [.slice none 0 0]:=⟨by kernel_rfl⟩
instance:TSize Tryd.prog 60 8:=⟨isz60⟩
instance:TRow Tryd.prog 60 8:=⟨⟨_,Tryd.underlying60,rfl⟩,isz60⟩
instance:TZer Tryd.prog 60 [.int .i64 0,.int .i64 0,.int .i64 0,.slice none 0 0,.slice none 0 0,.int .i64 0,.slice none 0 0,.slice none 0 0]:=⟨by kernel_rfl⟩
instance:TStruct Tryd.prog 60 [(0,2),(2,1),(3,1),(4,1),(5,1),(6,1),(7,1)]:=⟨⟨_,Tryd.underlying60,by kernel_rfl⟩⟩
instance:TFld Tryd.prog 60 0 0 1 true:=⟨⟨_,_,_,Tryd.underlying60,rfl,rfl,Tryd.underlying23,rfl,isz23⟩⟩
instance:TFld Tryd.prog 60 1 2 0 false:=⟨⟨_,_,_,Tryd.underlying60,rfl,rfl,Tryd.underlying3,rfl,isz3⟩⟩
instance:TFld Tryd.prog 60 2 3 0 false:=⟨⟨_,_,_,Tryd.underlying60,rfl,rfl,Tryd.underlying24,rfl,isz24⟩⟩
instance:TFld Tryd.prog 60 3 4 0 false:=⟨⟨_,_,_,Tryd.underlying60,rfl,rfl,Tryd.underlying25,rfl,isz25⟩⟩
instance:TFld Tryd.prog 60 4 5 0 false:=⟨⟨_,_,_,Tryd.underlying60,rfl,rfl,Tryd.underlying3,rfl,isz3⟩⟩
instance:TFld Tryd.prog 60 5 6 0 false:=⟨⟨_,_,_,Tryd.underlying60,rfl,rfl,Tryd.underlying58,rfl,isz58⟩⟩
instance:TFld Tryd.prog 60 6 7 0 false:=⟨⟨_,_,_,Tryd.underlying60,rfl,rfl,Tryd.underlying58,rfl,isz58⟩⟩
instance:TSize Tryd.prog 61 1:=⟨isz61⟩
instance:TOne Tryd.prog 61:=⟨⟨_,Tryd.underlying61,rfl⟩,isz61⟩
instance:TZer Tryd.prog 61 [.pointer none]:=⟨by kernel_rfl⟩
instance:TSize Tryd.prog 67 2:=⟨isz67⟩
instance:TRow Tryd.prog 67 2:=⟨⟨_,Tryd.underlying67,rfl⟩,isz67⟩
instance:TZer Tryd.prog 67 [.int .i64 0,.int .i64 0]:=⟨by kernel_rfl⟩
instance:TStruct Tryd.prog 67 [(0,1),(1,1)]:=⟨⟨_,Tryd.underlying67,by kernel_rfl⟩⟩
instance:TFld Tryd.prog 67 0 0 0 false:=⟨⟨_,_,_,Tryd.underlying67,rfl,rfl,Tryd.underlying3,rfl,isz3⟩⟩
instance:TFld Tryd.prog 67 1 1 0 false:=⟨⟨_,_,_,Tryd.underlying67,rfl,rfl,Tryd.underlying3,rfl,isz3⟩⟩
instance:TSize Tryd.prog 76 1:=⟨isz76⟩
instance:TOne Tryd.prog 76:=⟨⟨_,Tryd.underlying76,rfl⟩,isz76⟩
instance:TSize Tryd.prog 79 1:=⟨isz79⟩
instance:TOne Tryd.prog 79:=⟨⟨_,Tryd.underlying79,rfl⟩,isz79⟩
instance:TZer Tryd.prog 79 [.pointer none]:=⟨by kernel_rfl⟩
instance:TSize Tryd.prog 87 256:=⟨isz87⟩
instance:TRow Tryd.prog 87 256:=⟨⟨_,Tryd.underlying87,rfl⟩,isz87⟩
instance:TSize Tryd.prog 88 1:=⟨isz88⟩
instance:TOne Tryd.prog 88:=⟨⟨_,Tryd.underlying88,rfl⟩,isz88⟩
instance:TSize Tryd.prog 91 1:=⟨isz91⟩
instance:TOne Tryd.prog 91:=⟨⟨_,Tryd.underlying91,rfl⟩,isz91⟩
instance:TZer Tryd.prog 91 [.pointer none]:=⟨by kernel_rfl⟩
instance:TSize Tryd.prog 96 1:=⟨isz96⟩
instance:TOne Tryd.prog 96:=⟨⟨_,Tryd.underlying96,rfl⟩,isz96⟩
instance:TSize Tryd.prog 97 1:=⟨isz97⟩
instance:TOne Tryd.prog 97:=⟨⟨_,Tryd.underlying97,rfl⟩,isz97⟩
instance:TZer Tryd.prog 97 [.nilFunc]:=⟨by kernel_rfl⟩
instance:TSize Tryd.prog 98 1:=⟨isz98⟩
instance:TOne Tryd.prog 98:=⟨⟨_,Tryd.underlying98,rfl⟩,isz98⟩
instance:TZer Tryd.prog 98 [.nilFunc]:=⟨by kernel_rfl⟩
instance:TSize Tryd.prog 99 1:=⟨isz99⟩
instance:TOne Tryd.prog 99:=⟨⟨_,Tryd.underlying99,rfl⟩,isz99⟩
instance:TZer Tryd.prog 99 [.nilFunc]:=⟨by kernel_rfl⟩
instance:TSize Tryd.prog 100 256:=⟨isz100⟩
instance:TRow Tryd.prog 100 256:=⟨⟨_,Tryd.underlying100,rfl⟩,isz100⟩
instance:TSize Tryd.prog 101 1:=⟨isz101⟩
instance:TOne Tryd.prog 101:=⟨⟨_,Tryd.underlying101,rfl⟩,isz101⟩
instance:TInt Tryd.prog 101 .u64:=⟨Tryd.underlying101⟩
instance:TZer Tryd.prog 101 [.int .u64 0]:=⟨by kernel_rfl⟩
instance:TSize Tryd.prog 102 2:=⟨isz102⟩
instance:TRow Tryd.prog 102 2:=⟨⟨_,Tryd.underlying102,rfl⟩,isz102⟩
instance:TZer Tryd.prog 102 [.int .u8 0,.int .u8 0]:=⟨by kernel_rfl⟩
instance:TStruct Tryd.prog 102 [(0,1),(1,1)]:=⟨⟨_,Tryd.underlying102,by kernel_rfl⟩⟩
instance:TFld Tryd.prog 102 0 0 0 false:=⟨⟨_,_,_,Tryd.underlying102,rfl,rfl,Tryd.underlying5,rfl,isz5⟩⟩
instance:TFld Tryd.prog 102 1 1 0 false:=⟨⟨_,_,_,Tryd.underlying102,rfl,rfl,Tryd.underlying5,rfl,isz5⟩⟩
instance:TSize Tryd.prog 103 2:=⟨isz103⟩
instance:TRow Tryd.prog 103 2:=⟨⟨_,Tryd.underlying103,rfl⟩,isz103⟩
instance:TZer Tryd.prog 103 [.int .u8 0,.int .u8 0]:=⟨by kernel_rfl⟩
instance:TStruct Tryd.prog 103 [(0,1),(1,1)]:=⟨⟨_,Tryd.underlying103,by kernel_rfl⟩⟩
instance:TFld Tryd.prog 103 0 0 0 false:=⟨⟨_,_,_,Tryd.underlying103,rfl,rfl,Tryd.underlying5,rfl,isz5⟩⟩
instance:TFld Tryd.prog 103 1 1 0 false:=⟨⟨_,_,_,Tryd.underlying103,rfl,rfl,Tryd.underlying5,rfl,isz5⟩⟩
instance:TSize Tryd.prog 104 32:=⟨isz104⟩
instance:TRow Tryd.prog 104 32:=⟨⟨_,Tryd.underlying104,rfl⟩,isz104⟩
instance:Enters Tryd.prog 4:=⟨⟨_,Tryd.func4,by kernel_rfl,by kernel_rfl⟩⟩
instance:Enters Tryd.prog 5:=⟨⟨_,Tryd.func5,by kernel_rfl,by kernel_rfl⟩⟩
instance:Enters Tryd.prog 28:=⟨⟨_,Tryd.func28,by kernel_rfl,by kernel_rfl⟩⟩
instance:Enters Tryd.prog 35:=⟨⟨_,Tryd.func35,by kernel_rfl,by kernel_rfl⟩⟩
instance:Enters Tryd.prog 36:=⟨⟨_,Tryd.func36,by kernel_rfl,by kernel_rfl⟩⟩
instance:Enters Tryd.prog 39:=⟨⟨_,Tryd.func39,by kernel_rfl,by kernel_rfl⟩⟩
instance:Enters Tryd.prog 40:=⟨⟨_,Tryd.func40,by kernel_rfl,by kernel_rfl⟩⟩
instance:Enters Tryd.prog 41:=⟨⟨_,Tryd.func41,by kernel_rfl,by kernel_rfl⟩⟩
instance:Enters Tryd.prog 43:=⟨⟨_,Tryd.func43,by kernel_rfl,by kernel_rfl⟩⟩
instance:Enters Tryd.prog 44:=⟨⟨_,Tryd.func44,by kernel_rfl,by kernel_rfl⟩⟩
instance:Enters Tryd.prog 46:=⟨⟨_,Tryd.func46,by kernel_rfl,by kernel_rfl⟩⟩
instance:Enters Tryd.prog 50:=⟨⟨_,Tryd.func50,by kernel_rfl,by kernel_rfl⟩⟩
instance:Enters Tryd.prog 51:=⟨⟨_,Tryd.func51,by kernel_rfl,by kernel_rfl⟩⟩
instance:Enters Tryd.prog 63:=⟨⟨_,Tryd.func63,by kernel_rfl,by kernel_rfl⟩⟩
instance:Enters Tryd.prog 64:=⟨⟨_,Tryd.func64,by kernel_rfl,by kernel_rfl⟩⟩
end Go.Proofs.YtalejlbiccdfjaaDoor
