/- What the types and functions of this translation are, one instance each. (Written by wip/inst.py.). -/
import Derived.Test.YtnlbekongmkmjaaGreatDoorZ1
import Derived.Test.YtnlbekongmkmjaaGreatDoorProg
namespace Go.Proofs.YtnlbekongmkmjaaGreatDoor
set_option linter.unusedVariables false
theorem isz0:(Tryz.prog.info? 0).map (·.size)=some 1:=by kernel_rfl
theorem isz1:(Tryz.prog.info? 1).map (·.size)=some 1:=by kernel_rfl
theorem isz2:(Tryz.prog.info? 2).map (·.size)=some 1:=by kernel_rfl
theorem isz3:(Tryz.prog.info? 3).map (·.size)=some 1:=by kernel_rfl
theorem isz4:(Tryz.prog.info? 4).map (·.size)=some 1:=by kernel_rfl
theorem isz5:(Tryz.prog.info? 5).map (·.size)=some 1:=by kernel_rfl
theorem isz6:(Tryz.prog.info? 6).map (·.size)=some 1:=by kernel_rfl
theorem isz7:(Tryz.prog.info? 7).map (·.size)=some 4:=by kernel_rfl
theorem isz8:(Tryz.prog.info? 8).map (·.size)=some 4:=by kernel_rfl
theorem isz9:(Tryz.prog.info? 9).map (·.size)=some 1:=by kernel_rfl
theorem isz10:(Tryz.prog.info? 10).map (·.size)=some 1:=by kernel_rfl
theorem isz11:(Tryz.prog.info? 11).map (·.size)=some 1:=by kernel_rfl
theorem isz20:(Tryz.prog.info? 20).map (·.size)=some 1:=by kernel_rfl
theorem isz21:(Tryz.prog.info? 21).map (·.size)=some 1:=by kernel_rfl
theorem isz22:(Tryz.prog.info? 22).map (·.size)=some 1:=by kernel_rfl
theorem isz23:(Tryz.prog.info? 23).map (·.size)=some 1:=by kernel_rfl
theorem isz24:(Tryz.prog.info? 24).map (·.size)=some 1:=by kernel_rfl
theorem isz25:(Tryz.prog.info? 25).map (·.size)=some 1:=by kernel_rfl
theorem isz30:(Tryz.prog.info? 30).map (·.size)=some 1:=by kernel_rfl
theorem isz32:(Tryz.prog.info? 32).map (·.size)=some 6:=by kernel_rfl
theorem isz33:(Tryz.prog.info? 33).map (·.size)=some 1:=by kernel_rfl
theorem isz34:(Tryz.prog.info? 34).map (·.size)=some 1:=by kernel_rfl
theorem isz40:(Tryz.prog.info? 40).map (·.size)=some 1:=by kernel_rfl
theorem isz41:(Tryz.prog.info? 41).map (·.size)=some 7:=by kernel_rfl
theorem isz42:(Tryz.prog.info? 42).map (·.size)=some 7:=by kernel_rfl
theorem isz43:(Tryz.prog.info? 43).map (·.size)=some 1:=by kernel_rfl
theorem isz44:(Tryz.prog.info? 44).map (·.size)=some 1:=by kernel_rfl
theorem isz45:(Tryz.prog.info? 45).map (·.size)=some 1:=by kernel_rfl
theorem isz46:(Tryz.prog.info? 46).map (·.size)=some 1:=by kernel_rfl
theorem isz47:(Tryz.prog.info? 47).map (·.size)=some 3:=by kernel_rfl
theorem isz48:(Tryz.prog.info? 48).map (·.size)=some 3:=by kernel_rfl
theorem isz49:(Tryz.prog.info? 49).map (·.size)=some 1:=by kernel_rfl
theorem isz50:(Tryz.prog.info? 50).map (·.size)=some 1:=by kernel_rfl
theorem isz51:(Tryz.prog.info? 51).map (·.size)=some 1:=by kernel_rfl
theorem isz52:(Tryz.prog.info? 52).map (·.size)=some 1:=by kernel_rfl
theorem isz53:(Tryz.prog.info? 53).map (·.size)=some 1:=by kernel_rfl
theorem isz54:(Tryz.prog.info? 54).map (·.size)=some 1:=by kernel_rfl
theorem isz55:(Tryz.prog.info? 55).map (·.size)=some 1:=by kernel_rfl
theorem isz56:(Tryz.prog.info? 56).map (·.size)=some 1:=by kernel_rfl
theorem isz57:(Tryz.prog.info? 57).map (·.size)=some 1:=by kernel_rfl
theorem isz58:(Tryz.prog.info? 58).map (·.size)=some 1:=by kernel_rfl
theorem isz64:(Tryz.prog.info? 64).map (·.size)=some 1:=by kernel_rfl
theorem isz65:(Tryz.prog.info? 65).map (·.size)=some 1:=by kernel_rfl
theorem isz66:(Tryz.prog.info? 66).map (·.size)=some 1:=by kernel_rfl
theorem isz67:(Tryz.prog.info? 67).map (·.size)=some 1:=by kernel_rfl
theorem isz68:(Tryz.prog.info? 68).map (·.size)=some 1:=by kernel_rfl
theorem isz69:(Tryz.prog.info? 69).map (·.size)=some 1:=by kernel_rfl
theorem isz70:(Tryz.prog.info? 70).map (·.size)=some 1:=by kernel_rfl
theorem isz71:(Tryz.prog.info? 71).map (·.size)=some 1:=by kernel_rfl
theorem isz72:(Tryz.prog.info? 72).map (·.size)=some 1:=by kernel_rfl
theorem isz73:(Tryz.prog.info? 73).map (·.size)=some 1:=by kernel_rfl
theorem isz74:(Tryz.prog.info? 74).map (·.size)=some 1:=by kernel_rfl
theorem isz75:(Tryz.prog.info? 75).map (·.size)=some 1:=by kernel_rfl
theorem isz76:(Tryz.prog.info? 76).map (·.size)=some 1:=by kernel_rfl
theorem isz77:(Tryz.prog.info? 77).map (·.size)=some 1:=by kernel_rfl
theorem isz78:(Tryz.prog.info? 78).map (·.size)=some 1:=by kernel_rfl
theorem isz79:(Tryz.prog.info? 79).map (·.size)=some 1:=by kernel_rfl
theorem isz80:(Tryz.prog.info? 80).map (·.size)=some 1:=by kernel_rfl
theorem isz81:(Tryz.prog.info? 81).map (·.size)=some 1:=by kernel_rfl
theorem isz82:(Tryz.prog.info? 82).map (·.size)=some 4:=by kernel_rfl
theorem isz83:(Tryz.prog.info? 83).map (·.size)=some 4:=by kernel_rfl
theorem isz84:(Tryz.prog.info? 84).map (·.size)=some 1:=by kernel_rfl
theorem isz85:(Tryz.prog.info? 85).map (·.size)=some 1:=by kernel_rfl
theorem isz86:(Tryz.prog.info? 86).map (·.size)=some 1:=by kernel_rfl
theorem isz87:(Tryz.prog.info? 87).map (·.size)=some 1:=by kernel_rfl
theorem isz88:(Tryz.prog.info? 88).map (·.size)=some 1:=by kernel_rfl
theorem isz89:(Tryz.prog.info? 89).map (·.size)=some 1:=by kernel_rfl
theorem isz90:(Tryz.prog.info? 90).map (·.size)=some 1:=by kernel_rfl
theorem isz95:(Tryz.prog.info? 95).map (·.size)=some 4:=by kernel_rfl
theorem isz96:(Tryz.prog.info? 96).map (·.size)=some 1:=by kernel_rfl
theorem isz97:(Tryz.prog.info? 97).map (·.size)=some 1:=by kernel_rfl
theorem isz98:(Tryz.prog.info? 98).map (·.size)=some 1:=by kernel_rfl
theorem isz99:(Tryz.prog.info? 99).map (·.size)=some 1:=by kernel_rfl
theorem isz100:(Tryz.prog.info? 100).map (·.size)=some 1:=by kernel_rfl
theorem isz101:(Tryz.prog.info? 101).map (·.size)=some 1:=by kernel_rfl
theorem isz102:(Tryz.prog.info? 102).map (·.size)=some 1:=by kernel_rfl
theorem isz103:(Tryz.prog.info? 103).map (·.size)=some 1:=by kernel_rfl
theorem isz104:(Tryz.prog.info? 104).map (·.size)=some 1:=by kernel_rfl
theorem isz105:(Tryz.prog.info? 105).map (·.size)=some 1:=by kernel_rfl
theorem isz106:(Tryz.prog.info? 106).map (·.size)=some 1:=by kernel_rfl
theorem isz107:(Tryz.prog.info? 107).map (·.size)=some 1:=by kernel_rfl
theorem isz108:(Tryz.prog.info? 108).map (·.size)=some 1:=by kernel_rfl
theorem isz109:(Tryz.prog.info? 109).map (·.size)=some 1:=by kernel_rfl
theorem isz110:(Tryz.prog.info? 110).map (·.size)=some 2:=by kernel_rfl
theorem isz111:(Tryz.prog.info? 111).map (·.size)=some 2:=by kernel_rfl
theorem isz112:(Tryz.prog.info? 112).map (·.size)=some 4:=by kernel_rfl
theorem isz113:(Tryz.prog.info? 113).map (·.size)=some 4:=by kernel_rfl
theorem isz114:(Tryz.prog.info? 114).map (·.size)=some 1:=by kernel_rfl
theorem isz115:(Tryz.prog.info? 115).map (·.size)=some 1:=by kernel_rfl
theorem isz116:(Tryz.prog.info? 116).map (·.size)=some 1:=by kernel_rfl
theorem isz117:(Tryz.prog.info? 117).map (·.size)=some 1:=by kernel_rfl
theorem isz118:(Tryz.prog.info? 118).map (·.size)=some 1:=by kernel_rfl
theorem isz119:(Tryz.prog.info? 119).map (·.size)=some 1:=by kernel_rfl
theorem isz120:(Tryz.prog.info? 120).map (·.size)=some 1:=by kernel_rfl
theorem isz121:(Tryz.prog.info? 121).map (·.size)=some 1:=by kernel_rfl
theorem isz122:(Tryz.prog.info? 122).map (·.size)=some 1:=by kernel_rfl
theorem isz123:(Tryz.prog.info? 123).map (·.size)=some 1:=by kernel_rfl
theorem isz125:(Tryz.prog.info? 125).map (·.size)=some 1:=by kernel_rfl
theorem isz127:(Tryz.prog.info? 127).map (·.size)=some 3:=by kernel_rfl
theorem isz128:(Tryz.prog.info? 128).map (·.size)=some 1:=by kernel_rfl
theorem isz132:(Tryz.prog.info? 132).map (·.size)=some 2:=by kernel_rfl
theorem isz133:(Tryz.prog.info? 133).map (·.size)=some 1:=by kernel_rfl
theorem isz135:(Tryz.prog.info? 135).map (·.size)=some 1:=by kernel_rfl
theorem isz137:(Tryz.prog.info? 137).map (·.size)=some 2:=by kernel_rfl
theorem isz147:(Tryz.prog.info? 147).map (·.size)=some 256:=by kernel_rfl
theorem isz148:(Tryz.prog.info? 148).map (·.size)=some 1:=by kernel_rfl
theorem isz151:(Tryz.prog.info? 151).map (·.size)=some 1:=by kernel_rfl
theorem isz158:(Tryz.prog.info? 158).map (·.size)=some 1:=by kernel_rfl
theorem isz163:(Tryz.prog.info? 163).map (·.size)=some 1:=by kernel_rfl
theorem isz164:(Tryz.prog.info? 164).map (·.size)=some 1:=by kernel_rfl
theorem isz168:(Tryz.prog.info? 168).map (·.size)=some 4:=by kernel_rfl
theorem isz174:(Tryz.prog.info? 174).map (·.size)=some 1:=by kernel_rfl
theorem isz177:(Tryz.prog.info? 177).map (·.size)=some 1:=by kernel_rfl
theorem isz182:(Tryz.prog.info? 182).map (·.size)=some 1:=by kernel_rfl
theorem isz184:(Tryz.prog.info? 184).map (·.size)=some 1:=by kernel_rfl
theorem isz185:(Tryz.prog.info? 185).map (·.size)=some 1:=by kernel_rfl
theorem isz191:(Tryz.prog.info? 191).map (·.size)=some 2:=by kernel_rfl
theorem isz194:(Tryz.prog.info? 194).map (·.size)=some 1:=by kernel_rfl
theorem isz213:(Tryz.prog.info? 213).map (·.size)=some 1:=by kernel_rfl
theorem isz233:(Tryz.prog.info? 233).map (·.size)=some 1:=by kernel_rfl
theorem isz234:(Tryz.prog.info? 234).map (·.size)=some 1:=by kernel_rfl
theorem isz236:(Tryz.prog.info? 236).map (·.size)=some 1:=by kernel_rfl
theorem isz245:(Tryz.prog.info? 245).map (·.size)=some 256:=by kernel_rfl
theorem isz247:(Tryz.prog.info? 247).map (·.size)=some 2:=by kernel_rfl
theorem isz248:(Tryz.prog.info? 248).map (·.size)=some 32:=by kernel_rfl
theorem isz251:(Tryz.prog.info? 251).map (·.size)=some 24:=by kernel_rfl
theorem isz254:(Tryz.prog.info? 254).map (·.size)=some 1:=by kernel_rfl
theorem isz270:(Tryz.prog.info? 270).map (·.size)=some 1:=by kernel_rfl
theorem isz273:(Tryz.prog.info? 273).map (·.size)=some 3:=by kernel_rfl
theorem isz276:(Tryz.prog.info? 276).map (·.size)=some 20:=by kernel_rfl
theorem isz277:(Tryz.prog.info? 277).map (·.size)=some 65:=by kernel_rfl
theorem isz293:(Tryz.prog.info? 293).map (·.size)=some 1:=by kernel_rfl
theorem isz296:(Tryz.prog.info? 296).map (·.size)=some 1:=by kernel_rfl
theorem isz298:(Tryz.prog.info? 298).map (·.size)=some 1:=by kernel_rfl
theorem isz309:(Tryz.prog.info? 309).map (·.size)=some 32:=by kernel_rfl
theorem isz310:(Tryz.prog.info? 310).map (·.size)=some 64:=by kernel_rfl
instance:TSize Tryz.prog 0 1:=⟨isz0⟩
instance:TOne Tryz.prog 0:=⟨⟨_,Tryz.underlying0,rfl⟩,isz0⟩
instance:TSize Tryz.prog 1 1:=⟨isz1⟩
instance:TOne Tryz.prog 1:=⟨⟨_,Tryz.underlying1,rfl⟩,isz1⟩
instance:TZer Tryz.prog 1 [.nilFunc]:=⟨by kernel_rfl⟩
instance:TSize Tryz.prog 2 1:=⟨isz2⟩
instance:TOne Tryz.prog 2:=⟨⟨_,Tryz.underlying2,rfl⟩,isz2⟩
instance:TInt Tryz.prog 2 .i64:=⟨Tryz.underlying2⟩
instance:TZer Tryz.prog 2 [.int .i64 0]:=⟨by kernel_rfl⟩
instance:TSize Tryz.prog 3 1:=⟨isz3⟩
instance:TOne Tryz.prog 3:=⟨⟨_,Tryz.underlying3,rfl⟩,isz3⟩
instance:TInt Tryz.prog 3 .i64:=⟨Tryz.underlying3⟩
instance:TZer Tryz.prog 3 [.int .i64 0]:=⟨by kernel_rfl⟩
instance:TSize Tryz.prog 4 1:=⟨isz4⟩
instance:TOne Tryz.prog 4:=⟨⟨_,Tryz.underlying4,rfl⟩,isz4⟩
instance:TBool Tryz.prog 4:=⟨Tryz.underlying4⟩
instance:TZer Tryz.prog 4 [.bool false]:=⟨by kernel_rfl⟩
instance:TSize Tryz.prog 5 1:=⟨isz5⟩
instance:TOne Tryz.prog 5:=⟨⟨_,Tryz.underlying5,rfl⟩,isz5⟩
instance:TInt Tryz.prog 5 .u8:=⟨Tryz.underlying5⟩
instance:TZer Tryz.prog 5 [.int .u8 0]:=⟨by kernel_rfl⟩
instance:TSize Tryz.prog 6 1:=⟨isz6⟩
instance:TOne Tryz.prog 6:=⟨⟨_,Tryz.underlying6,rfl⟩,isz6⟩
instance:TInt Tryz.prog 6 .u8:=⟨Tryz.underlying6⟩
instance:TZer Tryz.prog 6 [.int .u8 0]:=⟨by kernel_rfl⟩
instance:TSize Tryz.prog 7 4:=⟨isz7⟩
instance:TRow Tryz.prog 7 4:=⟨⟨_,Tryz.underlying7,rfl⟩,isz7⟩
instance:TZer Tryz.prog 7 [.int .i64 0,.int .i64 0,.bool false,.int .u8 0]:=⟨by kernel_rfl⟩
instance:TStruct Tryz.prog 7 [(0,1),(1,1),(2,1),(3,1)]:=⟨⟨_,Tryz.underlying7,by kernel_rfl⟩⟩
instance:TFld Tryz.prog 7 0 0 0 false:=⟨⟨_,_,_,Tryz.underlying7,rfl,rfl,Tryz.underlying2,rfl,isz2⟩⟩
instance:TFld Tryz.prog 7 1 1 0 false:=⟨⟨_,_,_,Tryz.underlying7,rfl,rfl,Tryz.underlying3,rfl,isz3⟩⟩
instance:TFld Tryz.prog 7 2 2 0 false:=⟨⟨_,_,_,Tryz.underlying7,rfl,rfl,Tryz.underlying4,rfl,isz4⟩⟩
instance:TFld Tryz.prog 7 3 3 0 false:=⟨⟨_,_,_,Tryz.underlying7,rfl,rfl,Tryz.underlying6,rfl,isz6⟩⟩
instance:TSize Tryz.prog 8 4:=⟨isz8⟩
instance:TRow Tryz.prog 8 4:=⟨⟨_,Tryz.underlying8,rfl⟩,isz8⟩
instance:TZer Tryz.prog 8 [.int .i64 0,.int .i64 0,.bool false,.int .u8 0]:=⟨by kernel_rfl⟩
instance:TStruct Tryz.prog 8 [(0,1),(1,1),(2,1),(3,1)]:=⟨⟨_,Tryz.underlying8,by kernel_rfl⟩⟩
instance:TFld Tryz.prog 8 0 0 0 false:=⟨⟨_,_,_,Tryz.underlying8,rfl,rfl,Tryz.underlying2,rfl,isz2⟩⟩
instance:TFld Tryz.prog 8 1 1 0 false:=⟨⟨_,_,_,Tryz.underlying8,rfl,rfl,Tryz.underlying3,rfl,isz3⟩⟩
instance:TFld Tryz.prog 8 2 2 0 false:=⟨⟨_,_,_,Tryz.underlying8,rfl,rfl,Tryz.underlying4,rfl,isz4⟩⟩
instance:TFld Tryz.prog 8 3 3 0 false:=⟨⟨_,_,_,Tryz.underlying8,rfl,rfl,Tryz.underlying6,rfl,isz6⟩⟩
instance:TSize Tryz.prog 9 1:=⟨isz9⟩
instance:TOne Tryz.prog 9:=⟨⟨_,Tryz.underlying9,rfl⟩,isz9⟩
instance:TStr Tryz.prog 9:=⟨Tryz.underlying9⟩
instance:TZer Tryz.prog 9 [.string ⟨#[]⟩]:=⟨by kernel_rfl⟩
instance:TSize Tryz.prog 10 1:=⟨isz10⟩
instance:TOne Tryz.prog 10:=⟨⟨_,Tryz.underlying10,rfl⟩,isz10⟩
instance:TStr Tryz.prog 10:=⟨Tryz.underlying10⟩
instance:TZer Tryz.prog 10 [.string ⟨#[]⟩]:=⟨by kernel_rfl⟩
instance:TSize Tryz.prog 11 1:=⟨isz11⟩
instance:TOne Tryz.prog 11:=⟨⟨_,Tryz.underlying11,rfl⟩,isz11⟩
instance:TStr Tryz.prog 11:=⟨Tryz.underlying11⟩
instance:TZer Tryz.prog 11 [.string ⟨#[]⟩]:=⟨by kernel_rfl⟩
instance:TSize Tryz.prog 20 1:=⟨isz20⟩
instance:TOne Tryz.prog 20:=⟨⟨_,Tryz.underlying20,rfl⟩,isz20⟩
instance:TIfc Tryz.prog 20:=⟨_,Tryz.underlying20⟩
instance:TZer Tryz.prog 20 [.nilIface]:=⟨by kernel_rfl⟩
instance:TSize Tryz.prog 21 1:=⟨isz21⟩
instance:TOne Tryz.prog 21:=⟨⟨_,Tryz.underlying21,rfl⟩,isz21⟩
instance:TInt Tryz.prog 21 .i32:=⟨Tryz.underlying21⟩
instance:TZer Tryz.prog 21 [.int .i32 0]:=⟨by kernel_rfl⟩
instance:TSize Tryz.prog 22 1:=⟨isz22⟩
instance:TOne Tryz.prog 22:=⟨⟨_,Tryz.underlying22,rfl⟩,isz22⟩
instance:TSlice Tryz.prog 22 42:=⟨Tryz.underlying22⟩
instance:TZer Tryz.prog 22 [.slice none 0 0]:=⟨by kernel_rfl⟩
instance:TSize Tryz.prog 23 1:=⟨isz23⟩
instance:TOne Tryz.prog 23:=⟨⟨_,Tryz.underlying23,rfl⟩,isz23⟩
instance:TSlice Tryz.prog 23 9:=⟨Tryz.underlying23⟩
instance:TZer Tryz.prog 23 [.slice none 0 0]:=⟨by kernel_rfl⟩
instance:TSize Tryz.prog 24 1:=⟨isz24⟩
instance:TOne Tryz.prog 24:=⟨⟨_,Tryz.underlying24,rfl⟩,isz24⟩
instance:TInt Tryz.prog 24 .i64:=⟨Tryz.underlying24⟩
instance:TZer Tryz.prog 24 [.int .i64 0]:=⟨by kernel_rfl⟩
instance:TSize Tryz.prog 25 1:=⟨isz25⟩
instance:TOne Tryz.prog 25:=⟨⟨_,Tryz.underlying25,rfl⟩,isz25⟩
instance:TSize Tryz.prog 30 1:=⟨isz30⟩
instance:TOne Tryz.prog 30:=⟨⟨_,Tryz.underlying30,rfl⟩,isz30⟩
instance:TSlice Tryz.prog 30 32:=⟨Tryz.underlying30⟩
instance:TZer Tryz.prog 30 [.slice none 0 0]:=⟨by kernel_rfl⟩
instance:TSize Tryz.prog 32 6:=⟨isz32⟩
instance:TRow Tryz.prog 32 6:=⟨⟨_,Tryz.underlying32,rfl⟩,isz32⟩
instance:TZer Tryz.prog 32 [.int .i64 0,.slice none 0 0,.string ⟨#[]⟩,.slice none 0 0,.int .i64 0,.int .i64 0]:=⟨by kernel_rfl⟩
instance:TStruct Tryz.prog 32 [(0,1),(1,1),(2,1),(3,1),(4,1),(5,1)]:=⟨⟨_,Tryz.underlying32,by kernel_rfl⟩⟩
instance:TFld Tryz.prog 32 0 0 0 false:=⟨⟨_,_,_,Tryz.underlying32,rfl,rfl,Tryz.underlying3,rfl,isz3⟩⟩
instance:TFld Tryz.prog 32 1 1 0 false:=⟨⟨_,_,_,Tryz.underlying32,rfl,rfl,Tryz.underlying30,rfl,isz30⟩⟩
instance:TFld Tryz.prog 32 2 2 0 false:=⟨⟨_,_,_,Tryz.underlying32,rfl,rfl,Tryz.underlying9,rfl,isz9⟩⟩
instance:TFld Tryz.prog 32 3 3 0 false:=⟨⟨_,_,_,Tryz.underlying32,rfl,rfl,Tryz.underlying23,rfl,isz23⟩⟩
instance:TFld Tryz.prog 32 4 4 0 false:=⟨⟨_,_,_,Tryz.underlying32,rfl,rfl,Tryz.underlying3,rfl,isz3⟩⟩
instance:TFld Tryz.prog 32 5 5 0 false:=⟨⟨_,_,_,Tryz.underlying32,rfl,rfl,Tryz.underlying3,rfl,isz3⟩⟩
instance:TSize Tryz.prog 33 1:=⟨isz33⟩
instance:TOne Tryz.prog 33:=⟨⟨_,Tryz.underlying33,rfl⟩,isz33⟩
instance:TSlice Tryz.prog 33 113:=⟨Tryz.underlying33⟩
instance:TZer Tryz.prog 33 [.slice none 0 0]:=⟨by kernel_rfl⟩
instance:TSize Tryz.prog 34 1:=⟨isz34⟩
instance:TOne Tryz.prog 34:=⟨⟨_,Tryz.underlying34,rfl⟩,isz34⟩
instance:TSize Tryz.prog 40 1:=⟨isz40⟩
instance:TOne Tryz.prog 40:=⟨⟨_,Tryz.underlying40,rfl⟩,isz40⟩
instance:TZer Tryz.prog 40 [.nilFunc]:=⟨by kernel_rfl⟩
instance:TSize Tryz.prog 41 7:=⟨isz41⟩
instance:TRow Tryz.prog 41 7:=⟨⟨_,Tryz.underlying41,rfl⟩,isz41⟩
instance:TZer Tryz.prog 41 [.string ⟨#[]⟩,.int .i64 0,.slice none 0 0,.string ⟨#[]⟩,.slice none 0 0,.int .i64 0,.int .i64 0]:=⟨by kernel_rfl⟩
instance:TStruct Tryz.prog 41 [(0,1),(1,6)]:=⟨⟨_,Tryz.underlying41,by kernel_rfl⟩⟩
instance:TFld Tryz.prog 41 0 0 0 false:=⟨⟨_,_,_,Tryz.underlying41,rfl,rfl,Tryz.underlying9,rfl,isz9⟩⟩
instance:TFld Tryz.prog 41 1 1 5 true:=⟨⟨_,_,_,Tryz.underlying41,rfl,rfl,Tryz.underlying32,rfl,isz32⟩⟩
instance:TSize Tryz.prog 42 7:=⟨isz42⟩
instance:TRow Tryz.prog 42 7:=⟨⟨_,Tryz.underlying42,rfl⟩,isz42⟩
instance:TZer Tryz.prog 42 [.string ⟨#[]⟩,.int .i64 0,.slice none 0 0,.string ⟨#[]⟩,.slice none 0 0,.int .i64 0,.int .i64 0]:=⟨by kernel_rfl⟩
instance:TStruct Tryz.prog 42 [(0,1),(1,6)]:=⟨⟨_,Tryz.underlying42,by kernel_rfl⟩⟩
instance:TFld Tryz.prog 42 0 0 0 false:=⟨⟨_,_,_,Tryz.underlying42,rfl,rfl,Tryz.underlying9,rfl,isz9⟩⟩
instance:TFld Tryz.prog 42 1 1 5 true:=⟨⟨_,_,_,Tryz.underlying42,rfl,rfl,Tryz.underlying32,rfl,isz32⟩⟩
instance:TSize Tryz.prog 43 1:=⟨isz43⟩
instance:TOne Tryz.prog 43:=⟨⟨_,Tryz.underlying43,rfl⟩,isz43⟩
instance:TSlice Tryz.prog 43 48:=⟨Tryz.underlying43⟩
instance:TZer Tryz.prog 43 [.slice none 0 0]:=⟨by kernel_rfl⟩
instance:TSize Tryz.prog 44 1:=⟨isz44⟩
instance:TOne Tryz.prog 44:=⟨⟨_,Tryz.underlying44,rfl⟩,isz44⟩
instance:TSize Tryz.prog 45 1:=⟨isz45⟩
instance:TOne Tryz.prog 45:=⟨⟨_,Tryz.underlying45,rfl⟩,isz45⟩
instance:TZer Tryz.prog 45 [.nilFunc]:=⟨by kernel_rfl⟩
instance:TSize Tryz.prog 46 1:=⟨isz46⟩
instance:TOne Tryz.prog 46:=⟨⟨_,Tryz.underlying46,rfl⟩,isz46⟩
instance:TSlice Tryz.prog 46 49:=⟨Tryz.underlying46⟩
instance:TZer Tryz.prog 46 [.slice none 0 0]:=⟨by kernel_rfl⟩
instance:TSize Tryz.prog 47 3:=⟨isz47⟩
instance:TRow Tryz.prog 47 3:=⟨⟨_,Tryz.underlying47,rfl⟩,isz47⟩
instance:TZer Tryz.prog 47 [.int .i64 0,.int .i64 0,.slice none 0 0]:=⟨by kernel_rfl⟩
instance:TStruct Tryz.prog 47 [(0,1),(1,1),(2,1)]:=⟨⟨_,Tryz.underlying47,by kernel_rfl⟩⟩
instance:TFld Tryz.prog 47 0 0 0 false:=⟨⟨_,_,_,Tryz.underlying47,rfl,rfl,Tryz.underlying3,rfl,isz3⟩⟩
instance:TFld Tryz.prog 47 1 1 0 false:=⟨⟨_,_,_,Tryz.underlying47,rfl,rfl,Tryz.underlying3,rfl,isz3⟩⟩
instance:TFld Tryz.prog 47 2 2 0 false:=⟨⟨_,_,_,Tryz.underlying47,rfl,rfl,Tryz.underlying43,rfl,isz43⟩⟩
instance:TSize Tryz.prog 48 3:=⟨isz48⟩
instance:TRow Tryz.prog 48 3:=⟨⟨_,Tryz.underlying48,rfl⟩,isz48⟩
instance:TZer Tryz.prog 48 [.int .i64 0,.int .i64 0,.slice none 0 0]:=⟨by kernel_rfl⟩
instance:TStruct Tryz.prog 48 [(0,1),(1,1),(2,1)]:=⟨⟨_,Tryz.underlying48,by kernel_rfl⟩⟩
instance:TFld Tryz.prog 48 0 0 0 false:=⟨⟨_,_,_,Tryz.underlying48,rfl,rfl,Tryz.underlying3,rfl,isz3⟩⟩
instance:TFld Tryz.prog 48 1 1 0 false:=⟨⟨_,_,_,Tryz.underlying48,rfl,rfl,Tryz.underlying3,rfl,isz3⟩⟩
instance:TFld Tryz.prog 48 2 2 0 false:=⟨⟨_,_,_,Tryz.underlying48,rfl,rfl,Tryz.underlying43,rfl,isz43⟩⟩
instance:TSize Tryz.prog 49 1:=⟨isz49⟩
instance:TOne Tryz.prog 49:=⟨⟨_,Tryz.underlying49,rfl⟩,isz49⟩
instance:TSlice Tryz.prog 49 4:=⟨Tryz.underlying49⟩
instance:TZer Tryz.prog 49 [.slice none 0 0]:=⟨by kernel_rfl⟩
instance:TSize Tryz.prog 50 1:=⟨isz50⟩
instance:TOne Tryz.prog 50:=⟨⟨_,Tryz.underlying50,rfl⟩,isz50⟩
instance:TZer Tryz.prog 50 [.nilFunc]:=⟨by kernel_rfl⟩
instance:TSize Tryz.prog 51 1:=⟨isz51⟩
instance:TOne Tryz.prog 51:=⟨⟨_,Tryz.underlying51,rfl⟩,isz51⟩
instance:TZer Tryz.prog 51 [.nilFunc]:=⟨by kernel_rfl⟩
instance:TSize Tryz.prog 52 1:=⟨isz52⟩
instance:TOne Tryz.prog 52:=⟨⟨_,Tryz.underlying52,rfl⟩,isz52⟩
instance:TZer Tryz.prog 52 [.nilFunc]:=⟨by kernel_rfl⟩
instance:TSize Tryz.prog 53 1:=⟨isz53⟩
instance:TOne Tryz.prog 53:=⟨⟨_,Tryz.underlying53,rfl⟩,isz53⟩
instance:TZer Tryz.prog 53 [.nilFunc]:=⟨by kernel_rfl⟩
instance:TSize Tryz.prog 54 1:=⟨isz54⟩
instance:TOne Tryz.prog 54:=⟨⟨_,Tryz.underlying54,rfl⟩,isz54⟩
instance:TSize Tryz.prog 55 1:=⟨isz55⟩
instance:TOne Tryz.prog 55:=⟨⟨_,Tryz.underlying55,rfl⟩,isz55⟩
instance:TZer Tryz.prog 55 [.nilFunc]:=⟨by kernel_rfl⟩
instance:TSize Tryz.prog 56 1:=⟨isz56⟩
instance:TOne Tryz.prog 56:=⟨⟨_,Tryz.underlying56,rfl⟩,isz56⟩
instance:TZer Tryz.prog 56 [.nilFunc]:=⟨by kernel_rfl⟩
instance:TSize Tryz.prog 57 1:=⟨isz57⟩
instance:TOne Tryz.prog 57:=⟨⟨_,Tryz.underlying57,rfl⟩,isz57⟩
instance:TZer Tryz.prog 57 [.nilFunc]:=⟨by kernel_rfl⟩
instance:TSize Tryz.prog 58 1:=⟨isz58⟩
instance:TOne Tryz.prog 58:=⟨⟨_,Tryz.underlying58,rfl⟩,isz58⟩
instance:TZer Tryz.prog 58 [.nilFunc]:=⟨by kernel_rfl⟩
instance:TSize Tryz.prog 64 1:=⟨isz64⟩
instance:TOne Tryz.prog 64:=⟨⟨_,Tryz.underlying64,rfl⟩,isz64⟩
instance:TZer Tryz.prog 64 [.nilFunc]:=⟨by kernel_rfl⟩
instance:TSize Tryz.prog 65 1:=⟨isz65⟩
instance:TOne Tryz.prog 65:=⟨⟨_,Tryz.underlying65,rfl⟩,isz65⟩
instance:TZer Tryz.prog 65 [.nilFunc]:=⟨by kernel_rfl⟩
instance:TSize Tryz.prog 66 1:=⟨isz66⟩
instance:TOne Tryz.prog 66:=⟨⟨_,Tryz.underlying66,rfl⟩,isz66⟩
instance:TZer Tryz.prog 66 [.nilFunc]:=⟨by kernel_rfl⟩
instance:TSize Tryz.prog 67 1:=⟨isz67⟩
instance:TOne Tryz.prog 67:=⟨⟨_,Tryz.underlying67,rfl⟩,isz67⟩
instance:TZer Tryz.prog 67 [.nilFunc]:=⟨by kernel_rfl⟩
instance:TSize Tryz.prog 68 1:=⟨isz68⟩
instance:TOne Tryz.prog 68:=⟨⟨_,Tryz.underlying68,rfl⟩,isz68⟩
instance:TZer Tryz.prog 68 [.nilFunc]:=⟨by kernel_rfl⟩
instance:TSize Tryz.prog 69 1:=⟨isz69⟩
instance:TOne Tryz.prog 69:=⟨⟨_,Tryz.underlying69,rfl⟩,isz69⟩
instance:TZer Tryz.prog 69 [.pointer none]:=⟨by kernel_rfl⟩
instance:TSize Tryz.prog 70 1:=⟨isz70⟩
instance:TRow Tryz.prog 70 1:=⟨⟨_,Tryz.underlying70,rfl⟩,isz70⟩
instance:TZer Tryz.prog 70 [.int .i64 0]:=⟨by kernel_rfl⟩
instance:TStruct Tryz.prog 70 [(0,1)]:=⟨⟨_,Tryz.underlying70,by kernel_rfl⟩⟩
instance:TFld Tryz.prog 70 0 0 0 false:=⟨⟨_,_,_,Tryz.underlying70,rfl,rfl,Tryz.underlying3,rfl,isz3⟩⟩
instance:TSize Tryz.prog 71 1:=⟨isz71⟩
instance:TRow Tryz.prog 71 1:=⟨⟨_,Tryz.underlying71,rfl⟩,isz71⟩
instance:TZer Tryz.prog 71 [.int .i64 0]:=⟨by kernel_rfl⟩
instance:TStruct Tryz.prog 71 [(0,1)]:=⟨⟨_,Tryz.underlying71,by kernel_rfl⟩⟩
instance:TFld Tryz.prog 71 0 0 0 false:=⟨⟨_,_,_,Tryz.underlying71,rfl,rfl,Tryz.underlying3,rfl,isz3⟩⟩
instance:TSize Tryz.prog 72 1:=⟨isz72⟩
instance:TOne Tryz.prog 72:=⟨⟨_,Tryz.underlying72,rfl⟩,isz72⟩
instance:TZer Tryz.prog 72 [.nilFunc]:=⟨by kernel_rfl⟩
instance:TSize Tryz.prog 73 1:=⟨isz73⟩
instance:TOne Tryz.prog 73:=⟨⟨_,Tryz.underlying73,rfl⟩,isz73⟩
instance:TZer Tryz.prog 73 [.pointer none]:=⟨by kernel_rfl⟩
instance:TSize Tryz.prog 74 1:=⟨isz74⟩
instance:TRow Tryz.prog 74 1:=⟨⟨_,Tryz.underlying74,rfl⟩,isz74⟩
instance:TZer Tryz.prog 74 [.int .i64 0]:=⟨by kernel_rfl⟩
instance:TStruct Tryz.prog 74 [(0,1)]:=⟨⟨_,Tryz.underlying74,by kernel_rfl⟩⟩
instance:TFld Tryz.prog 74 0 0 0 false:=⟨⟨_,_,_,Tryz.underlying74,rfl,rfl,Tryz.underlying3,rfl,isz3⟩⟩
instance:TSize Tryz.prog 75 1:=⟨isz75⟩
instance:TRow Tryz.prog 75 1:=⟨⟨_,Tryz.underlying75,rfl⟩,isz75⟩
instance:TZer Tryz.prog 75 [.int .i64 0]:=⟨by kernel_rfl⟩
instance:TStruct Tryz.prog 75 [(0,1)]:=⟨⟨_,Tryz.underlying75,by kernel_rfl⟩⟩
instance:TFld Tryz.prog 75 0 0 0 false:=⟨⟨_,_,_,Tryz.underlying75,rfl,rfl,Tryz.underlying3,rfl,isz3⟩⟩
instance:TSize Tryz.prog 76 1:=⟨isz76⟩
instance:TOne Tryz.prog 76:=⟨⟨_,Tryz.underlying76,rfl⟩,isz76⟩
instance:TZer Tryz.prog 76 [.nilFunc]:=⟨by kernel_rfl⟩
instance:TSize Tryz.prog 77 1:=⟨isz77⟩
instance:TOne Tryz.prog 77:=⟨⟨_,Tryz.underlying77,rfl⟩,isz77⟩
instance:TZer Tryz.prog 77 [.nilFunc]:=⟨by kernel_rfl⟩
instance:TSize Tryz.prog 78 1:=⟨isz78⟩
instance:TOne Tryz.prog 78:=⟨⟨_,Tryz.underlying78,rfl⟩,isz78⟩
instance:TZer Tryz.prog 78 [.nilFunc]:=⟨by kernel_rfl⟩
instance:TSize Tryz.prog 79 1:=⟨isz79⟩
instance:TOne Tryz.prog 79:=⟨⟨_,Tryz.underlying79,rfl⟩,isz79⟩
instance:TSlice Tryz.prog 79 33:=⟨Tryz.underlying79⟩
instance:TZer Tryz.prog 79 [.slice none 0 0]:=⟨by kernel_rfl⟩
instance:TSize Tryz.prog 80 1:=⟨isz80⟩
instance:TOne Tryz.prog 80:=⟨⟨_,Tryz.underlying80,rfl⟩,isz80⟩
instance:TZer Tryz.prog 80 [.nilFunc]:=⟨by kernel_rfl⟩
instance:TSize Tryz.prog 81 1:=⟨isz81⟩
instance:TOne Tryz.prog 81:=⟨⟨_,Tryz.underlying81,rfl⟩,isz81⟩
instance:TZer Tryz.prog 81 [.nilFunc]:=⟨by kernel_rfl⟩
instance:TSize Tryz.prog 82 4:=⟨isz82⟩
instance:TRow Tryz.prog 82 4:=⟨⟨_,Tryz.underlying82,rfl⟩,isz82⟩
instance:TZer Tryz.prog 82 [.slice none 0 0,.string ⟨#[]⟩,.int .i64 0,.int .i64 0]:=⟨by kernel_rfl⟩
instance:TStruct Tryz.prog 82 [(0,1),(1,1),(2,1),(3,1)]:=⟨⟨_,Tryz.underlying82,by kernel_rfl⟩⟩
instance:TFld Tryz.prog 82 0 0 0 false:=⟨⟨_,_,_,Tryz.underlying82,rfl,rfl,Tryz.underlying23,rfl,isz23⟩⟩
instance:TFld Tryz.prog 82 1 1 0 false:=⟨⟨_,_,_,Tryz.underlying82,rfl,rfl,Tryz.underlying9,rfl,isz9⟩⟩
instance:TFld Tryz.prog 82 2 2 0 false:=⟨⟨_,_,_,Tryz.underlying82,rfl,rfl,Tryz.underlying3,rfl,isz3⟩⟩
instance:TFld Tryz.prog 82 3 3 0 false:=⟨⟨_,_,_,Tryz.underlying82,rfl,rfl,Tryz.underlying3,rfl,isz3⟩⟩
instance:TSize Tryz.prog 83 4:=⟨isz83⟩
instance:TRow Tryz.prog 83 4:=⟨⟨_,Tryz.underlying83,rfl⟩,isz83⟩
instance:TZer Tryz.prog 83 [.slice none 0 0,.string ⟨#[]⟩,.int .i64 0,.int .i64 0]:=⟨by kernel_rfl⟩
instance:TStruct Tryz.prog 83 [(0,1),(1,1),(2,1),(3,1)]:=⟨⟨_,Tryz.underlying83,by kernel_rfl⟩⟩
instance:TFld Tryz.prog 83 0 0 0 false:=⟨⟨_,_,_,Tryz.underlying83,rfl,rfl,Tryz.underlying23,rfl,isz23⟩⟩
instance:TFld Tryz.prog 83 1 1 0 false:=⟨⟨_,_,_,Tryz.underlying83,rfl,rfl,Tryz.underlying9,rfl,isz9⟩⟩
instance:TFld Tryz.prog 83 2 2 0 false:=⟨⟨_,_,_,Tryz.underlying83,rfl,rfl,Tryz.underlying3,rfl,isz3⟩⟩
instance:TFld Tryz.prog 83 3 3 0 false:=⟨⟨_,_,_,Tryz.underlying83,rfl,rfl,Tryz.underlying3,rfl,isz3⟩⟩
instance:TSize Tryz.prog 84 1:=⟨isz84⟩
instance:TOne Tryz.prog 84:=⟨⟨_,Tryz.underlying84,rfl⟩,isz84⟩
instance:TSize Tryz.prog 85 1:=⟨isz85⟩
instance:TOne Tryz.prog 85:=⟨⟨_,Tryz.underlying85,rfl⟩,isz85⟩
instance:TZer Tryz.prog 85 [.nilFunc]:=⟨by kernel_rfl⟩
instance:TSize Tryz.prog 86 1:=⟨isz86⟩
instance:TOne Tryz.prog 86:=⟨⟨_,Tryz.underlying86,rfl⟩,isz86⟩
instance:TZer Tryz.prog 86 [.nilFunc]:=⟨by kernel_rfl⟩
instance:TSize Tryz.prog 87 1:=⟨isz87⟩
instance:TOne Tryz.prog 87:=⟨⟨_,Tryz.underlying87,rfl⟩,isz87⟩
instance:TZer Tryz.prog 87 [.nilFunc]:=⟨by kernel_rfl⟩
instance:TSize Tryz.prog 88 1:=⟨isz88⟩
instance:TOne Tryz.prog 88:=⟨⟨_,Tryz.underlying88,rfl⟩,isz88⟩
instance:TZer Tryz.prog 88 [.nilFunc]:=⟨by kernel_rfl⟩
instance:TSize Tryz.prog 89 1:=⟨isz89⟩
instance:TOne Tryz.prog 89:=⟨⟨_,Tryz.underlying89,rfl⟩,isz89⟩
instance:TZer Tryz.prog 89 [.nilFunc]:=⟨by kernel_rfl⟩
instance:TSize Tryz.prog 90 1:=⟨isz90⟩
instance:TOne Tryz.prog 90:=⟨⟨_,Tryz.underlying90,rfl⟩,isz90⟩
instance:TSize Tryz.prog 95 4:=⟨isz95⟩
instance:TRow Tryz.prog 95 4:=⟨⟨_,Tryz.underlying95,rfl⟩,isz95⟩
instance:TZer Tryz.prog 95 [.slice none 0 0,.string ⟨#[]⟩,.int .i64 0,.int .i64 0]:=⟨by kernel_rfl⟩
instance:TStruct Tryz.prog 95 [(0,1),(1,1),(2,1),(3,1)]:=⟨⟨_,Tryz.underlying95,by kernel_rfl⟩⟩
instance:TFld Tryz.prog 95 0 0 0 false:=⟨⟨_,_,_,Tryz.underlying95,rfl,rfl,Tryz.underlying23,rfl,isz23⟩⟩
instance:TFld Tryz.prog 95 1 1 0 false:=⟨⟨_,_,_,Tryz.underlying95,rfl,rfl,Tryz.underlying9,rfl,isz9⟩⟩
instance:TFld Tryz.prog 95 2 2 0 false:=⟨⟨_,_,_,Tryz.underlying95,rfl,rfl,Tryz.underlying3,rfl,isz3⟩⟩
instance:TFld Tryz.prog 95 3 3 0 false:=⟨⟨_,_,_,Tryz.underlying95,rfl,rfl,Tryz.underlying3,rfl,isz3⟩⟩
instance:TSize Tryz.prog 96 1:=⟨isz96⟩
instance:TOne Tryz.prog 96:=⟨⟨_,Tryz.underlying96,rfl⟩,isz96⟩
instance:TSize Tryz.prog 97 1:=⟨isz97⟩
instance:TOne Tryz.prog 97:=⟨⟨_,Tryz.underlying97,rfl⟩,isz97⟩
instance:TZer Tryz.prog 97 [.nilFunc]:=⟨by kernel_rfl⟩
instance:TSize Tryz.prog 98 1:=⟨isz98⟩
instance:TOne Tryz.prog 98:=⟨⟨_,Tryz.underlying98,rfl⟩,isz98⟩
instance:TZer Tryz.prog 98 [.nilFunc]:=⟨by kernel_rfl⟩
instance:TSize Tryz.prog 99 1:=⟨isz99⟩
instance:TOne Tryz.prog 99:=⟨⟨_,Tryz.underlying99,rfl⟩,isz99⟩
instance:TZer Tryz.prog 99 [.nilFunc]:=⟨by kernel_rfl⟩
instance:TSize Tryz.prog 100 1:=⟨isz100⟩
instance:TOne Tryz.prog 100:=⟨⟨_,Tryz.underlying100,rfl⟩,isz100⟩
instance:TZer Tryz.prog 100 [.nilFunc]:=⟨by kernel_rfl⟩
instance:TSize Tryz.prog 101 1:=⟨isz101⟩
instance:TOne Tryz.prog 101:=⟨⟨_,Tryz.underlying101,rfl⟩,isz101⟩
instance:TZer Tryz.prog 101 [.nilFunc]:=⟨by kernel_rfl⟩
instance:TSize Tryz.prog 102 1:=⟨isz102⟩
instance:TOne Tryz.prog 102:=⟨⟨_,Tryz.underlying102,rfl⟩,isz102⟩
instance:TZer Tryz.prog 102 [.nilFunc]:=⟨by kernel_rfl⟩
instance:TSize Tryz.prog 103 1:=⟨isz103⟩
instance:TOne Tryz.prog 103:=⟨⟨_,Tryz.underlying103,rfl⟩,isz103⟩
instance:TZer Tryz.prog 103 [.nilFunc]:=⟨by kernel_rfl⟩
instance:TSize Tryz.prog 104 1:=⟨isz104⟩
instance:TOne Tryz.prog 104:=⟨⟨_,Tryz.underlying104,rfl⟩,isz104⟩
instance:TZer Tryz.prog 104 [.nilFunc]:=⟨by kernel_rfl⟩
instance:TSize Tryz.prog 105 1:=⟨isz105⟩
instance:TOne Tryz.prog 105:=⟨⟨_,Tryz.underlying105,rfl⟩,isz105⟩
instance:TZer Tryz.prog 105 [.nilFunc]:=⟨by kernel_rfl⟩
instance:TSize Tryz.prog 106 1:=⟨isz106⟩
instance:TOne Tryz.prog 106:=⟨⟨_,Tryz.underlying106,rfl⟩,isz106⟩
instance:TZer Tryz.prog 106 [.nilFunc]:=⟨by kernel_rfl⟩
instance:TSize Tryz.prog 107 1:=⟨isz107⟩
instance:TOne Tryz.prog 107:=⟨⟨_,Tryz.underlying107,rfl⟩,isz107⟩
instance:TZer Tryz.prog 107 [.nilFunc]:=⟨by kernel_rfl⟩
instance:TSize Tryz.prog 108 1:=⟨isz108⟩
instance:TOne Tryz.prog 108:=⟨⟨_,Tryz.underlying108,rfl⟩,isz108⟩
instance:TZer Tryz.prog 108 [.nilFunc]:=⟨by kernel_rfl⟩
instance:TSize Tryz.prog 109 1:=⟨isz109⟩
instance:TOne Tryz.prog 109:=⟨⟨_,Tryz.underlying109,rfl⟩,isz109⟩
instance:TSlice Tryz.prog 109 125:=⟨Tryz.underlying109⟩
instance:TZer Tryz.prog 109 [.slice none 0 0]:=⟨by kernel_rfl⟩
instance:TSize Tryz.prog 110 2:=⟨isz110⟩
instance:TRow Tryz.prog 110 2:=⟨⟨_,Tryz.underlying110,rfl⟩,isz110⟩
instance:TZer Tryz.prog 110 [.string ⟨#[]⟩,.slice none 0 0]:=⟨by kernel_rfl⟩
instance:TStruct Tryz.prog 110 [(0,1),(1,1)]:=⟨⟨_,Tryz.underlying110,by kernel_rfl⟩⟩
instance:TFld Tryz.prog 110 0 0 0 false:=⟨⟨_,_,_,Tryz.underlying110,rfl,rfl,Tryz.underlying9,rfl,isz9⟩⟩
instance:TFld Tryz.prog 110 1 1 0 false:=⟨⟨_,_,_,Tryz.underlying110,rfl,rfl,Tryz.underlying109,rfl,isz109⟩⟩
instance:TSize Tryz.prog 111 2:=⟨isz111⟩
instance:TRow Tryz.prog 111 2:=⟨⟨_,Tryz.underlying111,rfl⟩,isz111⟩
instance:TZer Tryz.prog 111 [.string ⟨#[]⟩,.slice none 0 0]:=⟨by kernel_rfl⟩
instance:TStruct Tryz.prog 111 [(0,1),(1,1)]:=⟨⟨_,Tryz.underlying111,by kernel_rfl⟩⟩
instance:TFld Tryz.prog 111 0 0 0 false:=⟨⟨_,_,_,Tryz.underlying111,rfl,rfl,Tryz.underlying9,rfl,isz9⟩⟩
instance:TFld Tryz.prog 111 1 1 0 false:=⟨⟨_,_,_,Tryz.underlying111,rfl,rfl,Tryz.underlying109,rfl,isz109⟩⟩
instance:TSize Tryz.prog 112 4:=⟨isz112⟩
instance:TRow Tryz.prog 112 4:=⟨⟨_,Tryz.underlying112,rfl⟩,isz112⟩
instance:TZer Tryz.prog 112 [.string ⟨#[]⟩,.string ⟨#[]⟩,.slice none 0 0,.slice none 0 0]:=⟨by kernel_rfl⟩
instance:TStruct Tryz.prog 112 [(0,1),(1,2),(3,1)]:=⟨⟨_,Tryz.underlying112,by kernel_rfl⟩⟩
instance:TFld Tryz.prog 112 0 0 0 false:=⟨⟨_,_,_,Tryz.underlying112,rfl,rfl,Tryz.underlying9,rfl,isz9⟩⟩
instance:TFld Tryz.prog 112 1 1 1 true:=⟨⟨_,_,_,Tryz.underlying112,rfl,rfl,Tryz.underlying111,rfl,isz111⟩⟩
instance:TFld Tryz.prog 112 2 3 0 false:=⟨⟨_,_,_,Tryz.underlying112,rfl,rfl,Tryz.underlying33,rfl,isz33⟩⟩
instance:TSize Tryz.prog 113 4:=⟨isz113⟩
instance:TRow Tryz.prog 113 4:=⟨⟨_,Tryz.underlying113,rfl⟩,isz113⟩
instance:TZer Tryz.prog 113 [.string ⟨#[]⟩,.string ⟨#[]⟩,.slice none 0 0,.slice none 0 0]:=⟨by kernel_rfl⟩
instance:TStruct Tryz.prog 113 [(0,1),(1,2),(3,1)]:=⟨⟨_,Tryz.underlying113,by kernel_rfl⟩⟩
instance:TFld Tryz.prog 113 0 0 0 false:=⟨⟨_,_,_,Tryz.underlying113,rfl,rfl,Tryz.underlying9,rfl,isz9⟩⟩
instance:TFld Tryz.prog 113 1 1 1 true:=⟨⟨_,_,_,Tryz.underlying113,rfl,rfl,Tryz.underlying111,rfl,isz111⟩⟩
instance:TFld Tryz.prog 113 2 3 0 false:=⟨⟨_,_,_,Tryz.underlying113,rfl,rfl,Tryz.underlying33,rfl,isz33⟩⟩
instance:TSize Tryz.prog 114 1:=⟨isz114⟩
instance:TOne Tryz.prog 114:=⟨⟨_,Tryz.underlying114,rfl⟩,isz114⟩
instance:TZer Tryz.prog 114 [.nilFunc]:=⟨by kernel_rfl⟩
instance:TSize Tryz.prog 115 1:=⟨isz115⟩
instance:TOne Tryz.prog 115:=⟨⟨_,Tryz.underlying115,rfl⟩,isz115⟩
instance:TZer Tryz.prog 115 [.nilFunc]:=⟨by kernel_rfl⟩
instance:TSize Tryz.prog 116 1:=⟨isz116⟩
instance:TOne Tryz.prog 116:=⟨⟨_,Tryz.underlying116,rfl⟩,isz116⟩
instance:TSize Tryz.prog 117 1:=⟨isz117⟩
instance:TOne Tryz.prog 117:=⟨⟨_,Tryz.underlying117,rfl⟩,isz117⟩
instance:TZer Tryz.prog 117 [.nilFunc]:=⟨by kernel_rfl⟩
instance:TSize Tryz.prog 118 1:=⟨isz118⟩
instance:TOne Tryz.prog 118:=⟨⟨_,Tryz.underlying118,rfl⟩,isz118⟩
instance:TZer Tryz.prog 118 [.nilFunc]:=⟨by kernel_rfl⟩
instance:TSize Tryz.prog 119 1:=⟨isz119⟩
instance:TOne Tryz.prog 119:=⟨⟨_,Tryz.underlying119,rfl⟩,isz119⟩
instance:TZer Tryz.prog 119 [.nilFunc]:=⟨by kernel_rfl⟩
instance:TSize Tryz.prog 120 1:=⟨isz120⟩
instance:TOne Tryz.prog 120:=⟨⟨_,Tryz.underlying120,rfl⟩,isz120⟩
instance:TSize Tryz.prog 121 1:=⟨isz121⟩
instance:TOne Tryz.prog 121:=⟨⟨_,Tryz.underlying121,rfl⟩,isz121⟩
instance:TZer Tryz.prog 121 [.nilFunc]:=⟨by kernel_rfl⟩
instance:TSize Tryz.prog 122 1:=⟨isz122⟩
instance:TOne Tryz.prog 122:=⟨⟨_,Tryz.underlying122,rfl⟩,isz122⟩
instance:TSlice Tryz.prog 122 3:=⟨Tryz.underlying122⟩
instance:TZer Tryz.prog 122 [.slice none 0 0]:=⟨by kernel_rfl⟩
instance:TSize Tryz.prog 123 1:=⟨isz123⟩
instance:TOne Tryz.prog 123:=⟨⟨_,Tryz.underlying123,rfl⟩,isz123⟩
instance:TSlice Tryz.prog 123 23:=⟨Tryz.underlying123⟩
instance:TZer Tryz.prog 123 [.slice none 0 0]:=⟨by kernel_rfl⟩
instance:TSize Tryz.prog 125 1:=⟨isz125⟩
instance:TRow Tryz.prog 125 1:=⟨⟨_,Tryz.underlying125,rfl⟩,isz125⟩
instance:TZer Tryz.prog 125 [.slice none 0 0]:=⟨by kernel_rfl⟩
instance:TStruct Tryz.prog 125 [(0,1)]:=⟨⟨_,Tryz.underlying125,by kernel_rfl⟩⟩
instance:TFld Tryz.prog 125 0 0 0 false:=⟨⟨_,_,_,Tryz.underlying125,rfl,rfl,Tryz.underlying123,rfl,isz123⟩⟩
instance:TSize Tryz.prog 127 3:=⟨isz127⟩
instance:TRow Tryz.prog 127 3:=⟨⟨_,Tryz.underlying127,rfl⟩,isz127⟩
instance:TZer Tryz.prog 127 [.int .i64 0,.int .i64 0,.int .i64 0]:=⟨by kernel_rfl⟩
instance:TStruct Tryz.prog 127 [(0,1),(1,1),(2,1)]:=⟨⟨_,Tryz.underlying127,by kernel_rfl⟩⟩
instance:TFld Tryz.prog 127 0 0 0 false:=⟨⟨_,_,_,Tryz.underlying127,rfl,rfl,Tryz.underlying3,rfl,isz3⟩⟩
instance:TFld Tryz.prog 127 1 1 0 false:=⟨⟨_,_,_,Tryz.underlying127,rfl,rfl,Tryz.underlying3,rfl,isz3⟩⟩
instance:TFld Tryz.prog 127 2 2 0 false:=⟨⟨_,_,_,Tryz.underlying127,rfl,rfl,Tryz.underlying3,rfl,isz3⟩⟩
instance:TSize Tryz.prog 128 1:=⟨isz128⟩
instance:TOne Tryz.prog 128:=⟨⟨_,Tryz.underlying128,rfl⟩,isz128⟩
instance:TSize Tryz.prog 132 2:=⟨isz132⟩
instance:TRow Tryz.prog 132 2:=⟨⟨_,Tryz.underlying132,rfl⟩,isz132⟩
instance:TZer Tryz.prog 132 [.int .i64 0,.int .i64 0]:=⟨by kernel_rfl⟩
instance:TStruct Tryz.prog 132 [(0,1),(1,1)]:=⟨⟨_,Tryz.underlying132,by kernel_rfl⟩⟩
instance:TFld Tryz.prog 132 0 0 0 false:=⟨⟨_,_,_,Tryz.underlying132,rfl,rfl,Tryz.underlying3,rfl,isz3⟩⟩
instance:TFld Tryz.prog 132 1 1 0 false:=⟨⟨_,_,_,Tryz.underlying132,rfl,rfl,Tryz.underlying3,rfl,isz3⟩⟩
instance:TSize Tryz.prog 133 1:=⟨isz133⟩
instance:TOne Tryz.prog 133:=⟨⟨_,Tryz.underlying133,rfl⟩,isz133⟩
instance:TSize Tryz.prog 135 1:=⟨isz135⟩
instance:TOne Tryz.prog 135:=⟨⟨_,Tryz.underlying135,rfl⟩,isz135⟩
instance:TSlice Tryz.prog 135 184:=⟨Tryz.underlying135⟩
instance:TZer Tryz.prog 135 [.slice none 0 0]:=⟨by kernel_rfl⟩
instance:TSize Tryz.prog 137 2:=⟨isz137⟩
instance:TRow Tryz.prog 137 2:=⟨⟨_,Tryz.underlying137,rfl⟩,isz137⟩
instance:TZer Tryz.prog 137 [.bool false,.slice none 0 0]:=⟨by kernel_rfl⟩
instance:TStruct Tryz.prog 137 [(0,1),(1,1)]:=⟨⟨_,Tryz.underlying137,by kernel_rfl⟩⟩
instance:TFld Tryz.prog 137 0 0 0 false:=⟨⟨_,_,_,Tryz.underlying137,rfl,rfl,Tryz.underlying4,rfl,isz4⟩⟩
instance:TFld Tryz.prog 137 1 1 0 false:=⟨⟨_,_,_,Tryz.underlying137,rfl,rfl,Tryz.underlying135,rfl,isz135⟩⟩
instance:TSize Tryz.prog 147 256:=⟨isz147⟩
instance:TRow Tryz.prog 147 256:=⟨⟨_,Tryz.underlying147,rfl⟩,isz147⟩
instance:TSize Tryz.prog 148 1:=⟨isz148⟩
instance:TOne Tryz.prog 148:=⟨⟨_,Tryz.underlying148,rfl⟩,isz148⟩
instance:TSize Tryz.prog 151 1:=⟨isz151⟩
instance:TOne Tryz.prog 151:=⟨⟨_,Tryz.underlying151,rfl⟩,isz151⟩
instance:TZer Tryz.prog 151 [.pointer none]:=⟨by kernel_rfl⟩
instance:TSize Tryz.prog 158 1:=⟨isz158⟩
instance:TOne Tryz.prog 158:=⟨⟨_,Tryz.underlying158,rfl⟩,isz158⟩
instance:TSlice Tryz.prog 158 5:=⟨Tryz.underlying158⟩
instance:TZer Tryz.prog 158 [.slice none 0 0]:=⟨by kernel_rfl⟩
instance:TSize Tryz.prog 163 1:=⟨isz163⟩
instance:TOne Tryz.prog 163:=⟨⟨_,Tryz.underlying163,rfl⟩,isz163⟩
instance:TIfc Tryz.prog 163:=⟨_,Tryz.underlying163⟩
instance:TZer Tryz.prog 163 [.nilIface]:=⟨by kernel_rfl⟩
instance:TSize Tryz.prog 164 1:=⟨isz164⟩
instance:TOne Tryz.prog 164:=⟨⟨_,Tryz.underlying164,rfl⟩,isz164⟩
instance:TSize Tryz.prog 168 4:=⟨isz168⟩
instance:TRow Tryz.prog 168 4:=⟨⟨_,Tryz.underlying168,rfl⟩,isz168⟩
instance:TZer Tryz.prog 168 [.bool false,.bool false,.bool false,.bool false]:=⟨by kernel_rfl⟩
instance:TStruct Tryz.prog 168 [(0,1),(1,1),(2,1),(3,1)]:=⟨⟨_,Tryz.underlying168,by kernel_rfl⟩⟩
instance:TFld Tryz.prog 168 0 0 0 false:=⟨⟨_,_,_,Tryz.underlying168,rfl,rfl,Tryz.underlying4,rfl,isz4⟩⟩
instance:TFld Tryz.prog 168 1 1 0 false:=⟨⟨_,_,_,Tryz.underlying168,rfl,rfl,Tryz.underlying4,rfl,isz4⟩⟩
instance:TFld Tryz.prog 168 2 2 0 false:=⟨⟨_,_,_,Tryz.underlying168,rfl,rfl,Tryz.underlying4,rfl,isz4⟩⟩
instance:TFld Tryz.prog 168 3 3 0 false:=⟨⟨_,_,_,Tryz.underlying168,rfl,rfl,Tryz.underlying4,rfl,isz4⟩⟩
instance:TSize Tryz.prog 174 1:=⟨isz174⟩
instance:TOne Tryz.prog 174:=⟨⟨_,Tryz.underlying174,rfl⟩,isz174⟩
instance:TSlice Tryz.prog 174 111:=⟨Tryz.underlying174⟩
instance:TZer Tryz.prog 174 [.slice none 0 0]:=⟨by kernel_rfl⟩
instance:TSize Tryz.prog 177 1:=⟨isz177⟩
instance:TOne Tryz.prog 177:=⟨⟨_,Tryz.underlying177,rfl⟩,isz177⟩
instance:TSize Tryz.prog 182 1:=⟨isz182⟩
instance:TOne Tryz.prog 182:=⟨⟨_,Tryz.underlying182,rfl⟩,isz182⟩
instance:TInt Tryz.prog 182 .u64:=⟨Tryz.underlying182⟩
instance:TZer Tryz.prog 182 [.int .u64 0]:=⟨by kernel_rfl⟩
instance:TSize Tryz.prog 184 1:=⟨isz184⟩
instance:TOne Tryz.prog 184:=⟨⟨_,Tryz.underlying184,rfl⟩,isz184⟩
instance:TInt Tryz.prog 184 .u32:=⟨Tryz.underlying184⟩
instance:TZer Tryz.prog 184 [.int .u32 0]:=⟨by kernel_rfl⟩
instance:TSize Tryz.prog 185 1:=⟨isz185⟩
instance:TOne Tryz.prog 185:=⟨⟨_,Tryz.underlying185,rfl⟩,isz185⟩
instance:TInt Tryz.prog 185 .u64:=⟨Tryz.underlying185⟩
instance:TZer Tryz.prog 185 [.int .u64 0]:=⟨by kernel_rfl⟩
instance:TSize Tryz.prog 191 2:=⟨isz191⟩
instance:TRow Tryz.prog 191 2:=⟨⟨_,Tryz.underlying191,rfl⟩,isz191⟩
instance:TZer Tryz.prog 191 [.bool false,.slice none 0 0]:=⟨by kernel_rfl⟩
instance:TStruct Tryz.prog 191 [(0,1),(1,1)]:=⟨⟨_,Tryz.underlying191,by kernel_rfl⟩⟩
instance:TFld Tryz.prog 191 0 0 0 false:=⟨⟨_,_,_,Tryz.underlying191,rfl,rfl,Tryz.underlying4,rfl,isz4⟩⟩
instance:TFld Tryz.prog 191 1 1 0 false:=⟨⟨_,_,_,Tryz.underlying191,rfl,rfl,Tryz.underlying122,rfl,isz122⟩⟩
instance:TSize Tryz.prog 194 1:=⟨isz194⟩
instance:TOne Tryz.prog 194:=⟨⟨_,Tryz.underlying194,rfl⟩,isz194⟩
instance:TSize Tryz.prog 213 1:=⟨isz213⟩
instance:TOne Tryz.prog 213:=⟨⟨_,Tryz.underlying213,rfl⟩,isz213⟩
instance:TZer Tryz.prog 213 [.pointer none]:=⟨by kernel_rfl⟩
instance:TSize Tryz.prog 233 1:=⟨isz233⟩
instance:TOne Tryz.prog 233:=⟨⟨_,Tryz.underlying233,rfl⟩,isz233⟩
instance:TInt Tryz.prog 233 .i64:=⟨Tryz.underlying233⟩
instance:TZer Tryz.prog 233 [.int .i64 0]:=⟨by kernel_rfl⟩
instance:TSize Tryz.prog 234 1:=⟨isz234⟩
instance:TOne Tryz.prog 234:=⟨⟨_,Tryz.underlying234,rfl⟩,isz234⟩
instance:TSize Tryz.prog 236 1:=⟨isz236⟩
instance:TOne Tryz.prog 236:=⟨⟨_,Tryz.underlying236,rfl⟩,isz236⟩
instance:TZer Tryz.prog 236 [.pointer none]:=⟨by kernel_rfl⟩
instance:TSize Tryz.prog 245 256:=⟨isz245⟩
instance:TRow Tryz.prog 245 256:=⟨⟨_,Tryz.underlying245,rfl⟩,isz245⟩
instance:TSize Tryz.prog 247 2:=⟨isz247⟩
instance:TRow Tryz.prog 247 2:=⟨⟨_,Tryz.underlying247,rfl⟩,isz247⟩
instance:TZer Tryz.prog 247 [.int .u8 0,.int .u8 0]:=⟨by kernel_rfl⟩
instance:TStruct Tryz.prog 247 [(0,1),(1,1)]:=⟨⟨_,Tryz.underlying247,by kernel_rfl⟩⟩
instance:TFld Tryz.prog 247 0 0 0 false:=⟨⟨_,_,_,Tryz.underlying247,rfl,rfl,Tryz.underlying5,rfl,isz5⟩⟩
instance:TFld Tryz.prog 247 1 1 0 false:=⟨⟨_,_,_,Tryz.underlying247,rfl,rfl,Tryz.underlying5,rfl,isz5⟩⟩
instance:TSize Tryz.prog 248 32:=⟨isz248⟩
instance:TRow Tryz.prog 248 32:=⟨⟨_,Tryz.underlying248,rfl⟩,isz248⟩
instance:TSize Tryz.prog 251 24:=⟨isz251⟩
instance:TRow Tryz.prog 251 24:=⟨⟨_,Tryz.underlying251,rfl⟩,isz251⟩
instance:TSize Tryz.prog 254 1:=⟨isz254⟩
instance:TOne Tryz.prog 254:=⟨⟨_,Tryz.underlying254,rfl⟩,isz254⟩
instance:TSize Tryz.prog 270 1:=⟨isz270⟩
instance:TOne Tryz.prog 270:=⟨⟨_,Tryz.underlying270,rfl⟩,isz270⟩
instance:TSize Tryz.prog 273 3:=⟨isz273⟩
instance:TRow Tryz.prog 273 3:=⟨⟨_,Tryz.underlying273,rfl⟩,isz273⟩
instance:TZer Tryz.prog 273 [.string ⟨#[]⟩,.string ⟨#[]⟩,.nilIface]:=⟨by kernel_rfl⟩
instance:TStruct Tryz.prog 273 [(0,1),(1,1),(2,1)]:=⟨⟨_,Tryz.underlying273,by kernel_rfl⟩⟩
instance:TFld Tryz.prog 273 0 0 0 false:=⟨⟨_,_,_,Tryz.underlying273,rfl,rfl,Tryz.underlying9,rfl,isz9⟩⟩
instance:TFld Tryz.prog 273 1 1 0 false:=⟨⟨_,_,_,Tryz.underlying273,rfl,rfl,Tryz.underlying9,rfl,isz9⟩⟩
instance:TFld Tryz.prog 273 2 2 0 false:=⟨⟨_,_,_,Tryz.underlying273,rfl,rfl,Tryz.underlying163,rfl,isz163⟩⟩
instance:TSize Tryz.prog 276 20:=⟨isz276⟩
instance:TRow Tryz.prog 276 20:=⟨⟨_,Tryz.underlying276,rfl⟩,isz276⟩
instance:TSize Tryz.prog 277 65:=⟨isz277⟩
instance:TRow Tryz.prog 277 65:=⟨⟨_,Tryz.underlying277,rfl⟩,isz277⟩
instance:TSize Tryz.prog 293 1:=⟨isz293⟩
instance:TOne Tryz.prog 293:=⟨⟨_,Tryz.underlying293,rfl⟩,isz293⟩
instance:TSize Tryz.prog 296 1:=⟨isz296⟩
instance:TOne Tryz.prog 296:=⟨⟨_,Tryz.underlying296,rfl⟩,isz296⟩
instance:TZer Tryz.prog 296 [.pointer none]:=⟨by kernel_rfl⟩
instance:TSize Tryz.prog 298 1:=⟨isz298⟩
instance:TRow Tryz.prog 298 1:=⟨⟨_,Tryz.underlying298,rfl⟩,isz298⟩
instance:TZer Tryz.prog 298 [.string ⟨#[]⟩]:=⟨by kernel_rfl⟩
instance:TStruct Tryz.prog 298 [(0,1)]:=⟨⟨_,Tryz.underlying298,by kernel_rfl⟩⟩
instance:TFld Tryz.prog 298 0 0 0 false:=⟨⟨_,_,_,Tryz.underlying298,rfl,rfl,Tryz.underlying9,rfl,isz9⟩⟩
instance:TSize Tryz.prog 309 32:=⟨isz309⟩
instance:TRow Tryz.prog 309 32:=⟨⟨_,Tryz.underlying309,rfl⟩,isz309⟩
instance:TSize Tryz.prog 310 64:=⟨isz310⟩
instance:TRow Tryz.prog 310 64:=⟨⟨_,Tryz.underlying310,rfl⟩,isz310⟩
instance:Enters Tryz.prog 9:=⟨⟨_,Tryz.func9,by kernel_rfl,by kernel_rfl⟩⟩
instance:Enters Tryz.prog 22:=⟨⟨_,Tryz.func22,by kernel_rfl,by kernel_rfl⟩⟩
instance:Enters Tryz.prog 30:=⟨⟨_,Tryz.func30,by kernel_rfl,by kernel_rfl⟩⟩
instance:Enters Tryz.prog 33:=⟨⟨_,Tryz.func33,by kernel_rfl,by kernel_rfl⟩⟩
instance:Enters Tryz.prog 71:=⟨⟨_,Tryz.func71,by kernel_rfl,by kernel_rfl⟩⟩
instance:Enters Tryz.prog 85:=⟨⟨_,Tryz.func85,by kernel_rfl,by kernel_rfl⟩⟩
instance:Enters Tryz.prog 93:=⟨⟨_,Tryz.func93,by kernel_rfl,by kernel_rfl⟩⟩
instance:Enters Tryz.prog 128:=⟨⟨_,Tryz.func128,by kernel_rfl,by kernel_rfl⟩⟩
instance:Enters Tryz.prog 149:=⟨⟨_,Tryz.func149,by kernel_rfl,by kernel_rfl⟩⟩
instance:Enters Tryz.prog 150:=⟨⟨_,Tryz.func150,by kernel_rfl,by kernel_rfl⟩⟩
instance:Enters Tryz.prog 169:=⟨⟨_,Tryz.func169,by kernel_rfl,by kernel_rfl⟩⟩
instance:Enters Tryz.prog 4:=⟨⟨_,Tryz.func4,by kernel_rfl,by kernel_rfl⟩⟩
instance:Enters Tryz.prog 5:=⟨⟨_,Tryz.func5,by kernel_rfl,by kernel_rfl⟩⟩
instance:Enters Tryz.prog 44:=⟨⟨_,Tryz.func44,by kernel_rfl,by kernel_rfl⟩⟩
instance:Enters Tryz.prog 45:=⟨⟨_,Tryz.func45,by kernel_rfl,by kernel_rfl⟩⟩
instance:Enters Tryz.prog 68:=⟨⟨_,Tryz.func68,by kernel_rfl,by kernel_rfl⟩⟩
instance:Enters Tryz.prog 84:=⟨⟨_,Tryz.func84,by kernel_rfl,by kernel_rfl⟩⟩
instance:Enters Tryz.prog 88:=⟨⟨_,Tryz.func88,by kernel_rfl,by kernel_rfl⟩⟩
instance:Enters Tryz.prog 89:=⟨⟨_,Tryz.func89,by kernel_rfl,by kernel_rfl⟩⟩
instance:Enters Tryz.prog 135:=⟨⟨_,Tryz.func135,by kernel_rfl,by kernel_rfl⟩⟩
instance:Enters Tryz.prog 138:=⟨⟨_,Tryz.func138,by kernel_rfl,by kernel_rfl⟩⟩
instance:Enters Tryz.prog 140:=⟨⟨_,Tryz.func140,by kernel_rfl,by kernel_rfl⟩⟩
end Go.Proofs.YtnlbekongmkmjaaGreatDoor
