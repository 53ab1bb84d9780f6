/- What the types and functions of this translation are, one instance each. (Written by wip/inst.py.). -/
import Derived.Test.YtindehjiaknokaaGreatDoorY1
import Derived.Test.YtindehjiaknokaaGreatDoorProg
namespace Go.Proofs.YtindehjiaknokaaGreatDoor
set_option linter.unusedVariables false
theorem isz0:(Tryz.prog.info? 0).map (·.size)=some 1:=by kernel_rfl
theorem isz1:(Tryz.prog.info? 1).map (·.size)=some 1:=by kernel_rfl
theorem isz2:(Tryz.prog.info? 2).map (·.size)=some 1:=by kernel_rfl
theorem isz3:(Tryz.prog.info? 3).map (·.size)=some 1:=by kernel_rfl
theorem isz4:(Tryz.prog.info? 4).map (·.size)=some 1:=by kernel_rfl
theorem isz5:(Tryz.prog.info? 5).map (·.size)=some 1:=by kernel_rfl
theorem isz6:(Tryz.prog.info? 6).map (·.size)=some 1:=by kernel_rfl
theorem isz7:(Tryz.prog.info? 7).map (·.size)=some 4:=by kernel_rfl
theorem isz8:(Tryz.prog.info? 8).map (·.size)=some 4:=by kernel_rfl
theorem isz9:(Tryz.prog.info? 9).map (·.size)=some 1:=by kernel_rfl
theorem isz10:(Tryz.prog.info? 10).map (·.size)=some 1:=by kernel_rfl
theorem isz11:(Tryz.prog.info? 11).map (·.size)=some 1:=by kernel_rfl
theorem isz20:(Tryz.prog.info? 20).map (·.size)=some 1:=by kernel_rfl
theorem isz21:(Tryz.prog.info? 21).map (·.size)=some 1:=by kernel_rfl
theorem isz22:(Tryz.prog.info? 22).map (·.size)=some 1:=by kernel_rfl
theorem isz23:(Tryz.prog.info? 23).map (·.size)=some 1:=by kernel_rfl
theorem isz25:(Tryz.prog.info? 25).map (·.size)=some 6:=by kernel_rfl
theorem isz26:(Tryz.prog.info? 26).map (·.size)=some 1:=by kernel_rfl
theorem isz27:(Tryz.prog.info? 27).map (·.size)=some 1:=by kernel_rfl
theorem isz32:(Tryz.prog.info? 32).map (·.size)=some 1:=by kernel_rfl
theorem isz34:(Tryz.prog.info? 34).map (·.size)=some 1:=by kernel_rfl
theorem isz36:(Tryz.prog.info? 36).map (·.size)=some 1:=by kernel_rfl
theorem isz38:(Tryz.prog.info? 38).map (·.size)=some 1:=by kernel_rfl
theorem isz40:(Tryz.prog.info? 40).map (·.size)=some 1:=by kernel_rfl
theorem isz41:(Tryz.prog.info? 41).map (·.size)=some 1:=by kernel_rfl
theorem isz44:(Tryz.prog.info? 44).map (·.size)=some 1:=by kernel_rfl
theorem isz45:(Tryz.prog.info? 45).map (·.size)=some 3:=by kernel_rfl
theorem isz46:(Tryz.prog.info? 46).map (·.size)=some 3:=by kernel_rfl
theorem isz47:(Tryz.prog.info? 47).map (·.size)=some 1:=by kernel_rfl
theorem isz48:(Tryz.prog.info? 48).map (·.size)=some 1:=by kernel_rfl
theorem isz49:(Tryz.prog.info? 49).map (·.size)=some 3:=by kernel_rfl
theorem isz50:(Tryz.prog.info? 50).map (·.size)=some 3:=by kernel_rfl
theorem isz51:(Tryz.prog.info? 51).map (·.size)=some 1:=by kernel_rfl
theorem isz52:(Tryz.prog.info? 52).map (·.size)=some 1:=by kernel_rfl
theorem isz53:(Tryz.prog.info? 53).map (·.size)=some 1:=by kernel_rfl
theorem isz54:(Tryz.prog.info? 54).map (·.size)=some 1:=by kernel_rfl
theorem isz55:(Tryz.prog.info? 55).map (·.size)=some 1:=by kernel_rfl
theorem isz56:(Tryz.prog.info? 56).map (·.size)=some 1:=by kernel_rfl
theorem isz57:(Tryz.prog.info? 57).map (·.size)=some 1:=by kernel_rfl
theorem isz58:(Tryz.prog.info? 58).map (·.size)=some 1:=by kernel_rfl
theorem isz59:(Tryz.prog.info? 59).map (·.size)=some 1:=by kernel_rfl
theorem isz63:(Tryz.prog.info? 63).map (·.size)=some 1:=by kernel_rfl
theorem isz65:(Tryz.prog.info? 65).map (·.size)=some 1:=by kernel_rfl
theorem isz66:(Tryz.prog.info? 66).map (·.size)=some 1:=by kernel_rfl
theorem isz67:(Tryz.prog.info? 67).map (·.size)=some 2:=by kernel_rfl
theorem isz68:(Tryz.prog.info? 68).map (·.size)=some 2:=by kernel_rfl
theorem isz69:(Tryz.prog.info? 69).map (·.size)=some 1:=by kernel_rfl
theorem isz70:(Tryz.prog.info? 70).map (·.size)=some 1:=by kernel_rfl
theorem isz71:(Tryz.prog.info? 71).map (·.size)=some 1:=by kernel_rfl
theorem isz72:(Tryz.prog.info? 72).map (·.size)=some 1:=by kernel_rfl
theorem isz73:(Tryz.prog.info? 73).map (·.size)=some 1:=by kernel_rfl
theorem isz74:(Tryz.prog.info? 74).map (·.size)=some 1:=by kernel_rfl
theorem isz75:(Tryz.prog.info? 75).map (·.size)=some 4:=by kernel_rfl
theorem isz76:(Tryz.prog.info? 76).map (·.size)=some 4:=by kernel_rfl
theorem isz77:(Tryz.prog.info? 77).map (·.size)=some 1:=by kernel_rfl
theorem isz78:(Tryz.prog.info? 78).map (·.size)=some 1:=by kernel_rfl
theorem isz79:(Tryz.prog.info? 79).map (·.size)=some 1:=by kernel_rfl
theorem isz80:(Tryz.prog.info? 80).map (·.size)=some 1:=by kernel_rfl
theorem isz81:(Tryz.prog.info? 81).map (·.size)=some 1:=by kernel_rfl
theorem isz82:(Tryz.prog.info? 82).map (·.size)=some 1:=by kernel_rfl
theorem isz83:(Tryz.prog.info? 83).map (·.size)=some 1:=by kernel_rfl
theorem isz84:(Tryz.prog.info? 84).map (·.size)=some 1:=by kernel_rfl
theorem isz85:(Tryz.prog.info? 85).map (·.size)=some 1:=by kernel_rfl
theorem isz86:(Tryz.prog.info? 86).map (·.size)=some 1:=by kernel_rfl
theorem isz90:(Tryz.prog.info? 90).map (·.size)=some 1:=by kernel_rfl
theorem isz92:(Tryz.prog.info? 92).map (·.size)=some 1:=by kernel_rfl
theorem isz94:(Tryz.prog.info? 94).map (·.size)=some 2:=by kernel_rfl
theorem isz96:(Tryz.prog.info? 96).map (·.size)=some 2:=by kernel_rfl
theorem isz97:(Tryz.prog.info? 97).map (·.size)=some 3:=by kernel_rfl
theorem isz98:(Tryz.prog.info? 98).map (·.size)=some 3:=by kernel_rfl
theorem isz99:(Tryz.prog.info? 99).map (·.size)=some 1:=by kernel_rfl
theorem isz100:(Tryz.prog.info? 100).map (·.size)=some 1:=by kernel_rfl
theorem isz101:(Tryz.prog.info? 101).map (·.size)=some 5:=by kernel_rfl
theorem isz102:(Tryz.prog.info? 102).map (·.size)=some 5:=by kernel_rfl
theorem isz103:(Tryz.prog.info? 103).map (·.size)=some 1:=by kernel_rfl
theorem isz104:(Tryz.prog.info? 104).map (·.size)=some 1:=by kernel_rfl
theorem isz105:(Tryz.prog.info? 105).map (·.size)=some 1:=by kernel_rfl
theorem isz106:(Tryz.prog.info? 106).map (·.size)=some 4:=by kernel_rfl
theorem isz107:(Tryz.prog.info? 107).map (·.size)=some 4:=by kernel_rfl
theorem isz108:(Tryz.prog.info? 108).map (·.size)=some 1:=by kernel_rfl
theorem isz109:(Tryz.prog.info? 109).map (·.size)=some 1:=by kernel_rfl
theorem isz110:(Tryz.prog.info? 110).map (·.size)=some 1:=by kernel_rfl
theorem isz111:(Tryz.prog.info? 111).map (·.size)=some 4:=by kernel_rfl
theorem isz112:(Tryz.prog.info? 112).map (·.size)=some 1:=by kernel_rfl
theorem isz113:(Tryz.prog.info? 113).map (·.size)=some 1:=by kernel_rfl
theorem isz114:(Tryz.prog.info? 114).map (·.size)=some 1:=by kernel_rfl
theorem isz115:(Tryz.prog.info? 115).map (·.size)=some 1:=by kernel_rfl
theorem isz116:(Tryz.prog.info? 116).map (·.size)=some 1:=by kernel_rfl
theorem isz117:(Tryz.prog.info? 117).map (·.size)=some 1:=by kernel_rfl
theorem isz118:(Tryz.prog.info? 118).map (·.size)=some 1:=by kernel_rfl
theorem isz119:(Tryz.prog.info? 119).map (·.size)=some 1:=by kernel_rfl
theorem isz120:(Tryz.prog.info? 120).map (·.size)=some 1:=by kernel_rfl
theorem isz121:(Tryz.prog.info? 121).map (·.size)=some 1:=by kernel_rfl
theorem isz122:(Tryz.prog.info? 122).map (·.size)=some 1:=by kernel_rfl
theorem isz124:(Tryz.prog.info? 124).map (·.size)=some 1:=by kernel_rfl
theorem isz126:(Tryz.prog.info? 126).map (·.size)=some 1:=by kernel_rfl
theorem isz131:(Tryz.prog.info? 131).map (·.size)=some 1:=by kernel_rfl
theorem isz133:(Tryz.prog.info? 133).map (·.size)=some 24:=by kernel_rfl
theorem isz134:(Tryz.prog.info? 134).map (·.size)=some 1:=by kernel_rfl
theorem isz137:(Tryz.prog.info? 137).map (·.size)=some 1:=by kernel_rfl
theorem isz139:(Tryz.prog.info? 139).map (·.size)=some 1:=by kernel_rfl
theorem isz141:(Tryz.prog.info? 141).map (·.size)=some 1:=by kernel_rfl
theorem isz143:(Tryz.prog.info? 143).map (·.size)=some 1:=by kernel_rfl
theorem isz145:(Tryz.prog.info? 145).map (·.size)=some 1:=by kernel_rfl
theorem isz147:(Tryz.prog.info? 147).map (·.size)=some 256:=by kernel_rfl
theorem isz148:(Tryz.prog.info? 148).map (·.size)=some 256:=by kernel_rfl
theorem isz149:(Tryz.prog.info? 149).map (·.size)=some 1:=by kernel_rfl
theorem isz150:(Tryz.prog.info? 150).map (·.size)=some 256:=by kernel_rfl
theorem isz152:(Tryz.prog.info? 152).map (·.size)=some 257:=by kernel_rfl
theorem isz153:(Tryz.prog.info? 153).map (·.size)=some 1:=by kernel_rfl
theorem isz157:(Tryz.prog.info? 157).map (·.size)=some 1:=by kernel_rfl
theorem isz158:(Tryz.prog.info? 158).map (·.size)=some 1:=by kernel_rfl
theorem isz160:(Tryz.prog.info? 160).map (·.size)=some 1:=by kernel_rfl
theorem isz164:(Tryz.prog.info? 164).map (·.size)=some 20:=by kernel_rfl
theorem isz165:(Tryz.prog.info? 165).map (·.size)=some 65:=by kernel_rfl
theorem isz167:(Tryz.prog.info? 167).map (·.size)=some 1:=by kernel_rfl
theorem isz183:(Tryz.prog.info? 183).map (·.size)=some 256:=by kernel_rfl
theorem isz184:(Tryz.prog.info? 184).map (·.size)=some 1:=by kernel_rfl
theorem isz187:(Tryz.prog.info? 187).map (·.size)=some 1:=by kernel_rfl
theorem isz189:(Tryz.prog.info? 189).map (·.size)=some 1:=by kernel_rfl
theorem isz191:(Tryz.prog.info? 191).map (·.size)=some 1:=by kernel_rfl
theorem isz194:(Tryz.prog.info? 194).map (·.size)=some 3:=by kernel_rfl
theorem isz196:(Tryz.prog.info? 196).map (·.size)=some 1:=by kernel_rfl
theorem isz199:(Tryz.prog.info? 199).map (·.size)=some 1:=by kernel_rfl
theorem isz201:(Tryz.prog.info? 201).map (·.size)=some 1:=by kernel_rfl
theorem isz210:(Tryz.prog.info? 210).map (·.size)=some 1:=by kernel_rfl
theorem isz212:(Tryz.prog.info? 212).map (·.size)=some 1:=by kernel_rfl
theorem isz213:(Tryz.prog.info? 213).map (·.size)=some 32:=by kernel_rfl
theorem isz214:(Tryz.prog.info? 214).map (·.size)=some 64:=by kernel_rfl
theorem isz218:(Tryz.prog.info? 218).map (·.size)=some 2:=by kernel_rfl
theorem isz219:(Tryz.prog.info? 219).map (·.size)=some 32:=by kernel_rfl
instance:TSize Tryz.prog 0 1:=⟨isz0⟩
instance:TOne Tryz.prog 0:=⟨⟨_,Tryz.underlying0,rfl⟩,isz0⟩
instance:TSize Tryz.prog 1 1:=⟨isz1⟩
instance:TOne Tryz.prog 1:=⟨⟨_,Tryz.underlying1,rfl⟩,isz1⟩
instance:TZer Tryz.prog 1 [.nilFunc]:=⟨by kernel_rfl⟩
instance:TSize Tryz.prog 2 1:=⟨isz2⟩
instance:TOne Tryz.prog 2:=⟨⟨_,Tryz.underlying2,rfl⟩,isz2⟩
instance:TInt Tryz.prog 2 .i64:=⟨Tryz.underlying2⟩
instance:TZer Tryz.prog 2 [.int .i64 0]:=⟨by kernel_rfl⟩
instance:TSize Tryz.prog 3 1:=⟨isz3⟩
instance:TOne Tryz.prog 3:=⟨⟨_,Tryz.underlying3,rfl⟩,isz3⟩
instance:TInt Tryz.prog 3 .i64:=⟨Tryz.underlying3⟩
instance:TZer Tryz.prog 3 [.int .i64 0]:=⟨by kernel_rfl⟩
instance:TSize Tryz.prog 4 1:=⟨isz4⟩
instance:TOne Tryz.prog 4:=⟨⟨_,Tryz.underlying4,rfl⟩,isz4⟩
instance:TBool Tryz.prog 4:=⟨Tryz.underlying4⟩
instance:TZer Tryz.prog 4 [.bool false]:=⟨by kernel_rfl⟩
instance:TSize Tryz.prog 5 1:=⟨isz5⟩
instance:TOne Tryz.prog 5:=⟨⟨_,Tryz.underlying5,rfl⟩,isz5⟩
instance:TInt Tryz.prog 5 .u8:=⟨Tryz.underlying5⟩
instance:TZer Tryz.prog 5 [.int .u8 0]:=⟨by kernel_rfl⟩
instance:TSize Tryz.prog 6 1:=⟨isz6⟩
instance:TOne Tryz.prog 6:=⟨⟨_,Tryz.underlying6,rfl⟩,isz6⟩
instance:TInt Tryz.prog 6 .u8:=⟨Tryz.underlying6⟩
instance:TZer Tryz.prog 6 [.int .u8 0]:=⟨by kernel_rfl⟩
instance:TSize Tryz.prog 7 4:=⟨isz7⟩
instance:TRow Tryz.prog 7 4:=⟨⟨_,Tryz.underlying7,rfl⟩,isz7⟩
instance:TZer Tryz.prog 7 [.int .i64 0,.int .i64 0,.bool false,.int .u8 0]:=⟨by kernel_rfl⟩
instance:TStruct Tryz.prog 7 [(0,1),(1,1),(2,1),(3,1)]:=⟨⟨_,Tryz.underlying7,by kernel_rfl⟩⟩
instance:TFld Tryz.prog 7 0 0 0 false:=⟨⟨_,_,_,Tryz.underlying7,rfl,rfl,Tryz.underlying2,rfl,isz2⟩⟩
instance:TFld Tryz.prog 7 1 1 0 false:=⟨⟨_,_,_,Tryz.underlying7,rfl,rfl,Tryz.underlying3,rfl,isz3⟩⟩
instance:TFld Tryz.prog 7 2 2 0 false:=⟨⟨_,_,_,Tryz.underlying7,rfl,rfl,Tryz.underlying4,rfl,isz4⟩⟩
instance:TFld Tryz.prog 7 3 3 0 false:=⟨⟨_,_,_,Tryz.underlying7,rfl,rfl,Tryz.underlying6,rfl,isz6⟩⟩
instance:TSize Tryz.prog 8 4:=⟨isz8⟩
instance:TRow Tryz.prog 8 4:=⟨⟨_,Tryz.underlying8,rfl⟩,isz8⟩
instance:TZer Tryz.prog 8 [.int .i64 0,.int .i64 0,.bool false,.int .u8 0]:=⟨by kernel_rfl⟩
instance:TStruct Tryz.prog 8 [(0,1),(1,1),(2,1),(3,1)]:=⟨⟨_,Tryz.underlying8,by kernel_rfl⟩⟩
instance:TFld Tryz.prog 8 0 0 0 false:=⟨⟨_,_,_,Tryz.underlying8,rfl,rfl,Tryz.underlying2,rfl,isz2⟩⟩
instance:TFld Tryz.prog 8 1 1 0 false:=⟨⟨_,_,_,Tryz.underlying8,rfl,rfl,Tryz.underlying3,rfl,isz3⟩⟩
instance:TFld Tryz.prog 8 2 2 0 false:=⟨⟨_,_,_,Tryz.underlying8,rfl,rfl,Tryz.underlying4,rfl,isz4⟩⟩
instance:TFld Tryz.prog 8 3 3 0 false:=⟨⟨_,_,_,Tryz.underlying8,rfl,rfl,Tryz.underlying6,rfl,isz6⟩⟩
instance:TSize Tryz.prog 9 1:=⟨isz9⟩
instance:TOne Tryz.prog 9:=⟨⟨_,Tryz.underlying9,rfl⟩,isz9⟩
instance:TStr Tryz.prog 9:=⟨Tryz.underlying9⟩
instance:TZer Tryz.prog 9 [.string ⟨#[]⟩]:=⟨by kernel_rfl⟩
instance:TSize Tryz.prog 10 1:=⟨isz10⟩
instance:TOne Tryz.prog 10:=⟨⟨_,Tryz.underlying10,rfl⟩,isz10⟩
instance:TStr Tryz.prog 10:=⟨Tryz.underlying10⟩
instance:TZer Tryz.prog 10 [.string ⟨#[]⟩]:=⟨by kernel_rfl⟩
instance:TSize Tryz.prog 11 1:=⟨isz11⟩
instance:TOne Tryz.prog 11:=⟨⟨_,Tryz.underlying11,rfl⟩,isz11⟩
instance:TStr Tryz.prog 11:=⟨Tryz.underlying11⟩
instance:TZer Tryz.prog 11 [.string ⟨#[]⟩]:=⟨by kernel_rfl⟩
instance:TSize Tryz.prog 20 1:=⟨isz20⟩
instance:TOne Tryz.prog 20:=⟨⟨_,Tryz.underlying20,rfl⟩,isz20⟩
instance:TIfc Tryz.prog 20:=⟨_,Tryz.underlying20⟩
instance:TZer Tryz.prog 20 [.nilIface]:=⟨by kernel_rfl⟩
instance:TSize Tryz.prog 21 1:=⟨isz21⟩
instance:TOne Tryz.prog 21:=⟨⟨_,Tryz.underlying21,rfl⟩,isz21⟩
instance:TInt Tryz.prog 21 .i32:=⟨Tryz.underlying21⟩
instance:TZer Tryz.prog 21 [.int .i32 0]:=⟨by kernel_rfl⟩
instance:TSize Tryz.prog 22 1:=⟨isz22⟩
instance:TOne Tryz.prog 22:=⟨⟨_,Tryz.underlying22,rfl⟩,isz22⟩
instance:TSlice Tryz.prog 22 25:=⟨Tryz.underlying22⟩
instance:TZer Tryz.prog 22 [.slice none 0 0]:=⟨by kernel_rfl⟩
instance:TSize Tryz.prog 23 1:=⟨isz23⟩
instance:TOne Tryz.prog 23:=⟨⟨_,Tryz.underlying23,rfl⟩,isz23⟩
instance:TSlice Tryz.prog 23 9:=⟨Tryz.underlying23⟩
instance:TZer Tryz.prog 23 [.slice none 0 0]:=⟨by kernel_rfl⟩
instance:TSize Tryz.prog 25 6:=⟨isz25⟩
instance:TRow Tryz.prog 25 6:=⟨⟨_,Tryz.underlying25,rfl⟩,isz25⟩
instance:TZer Tryz.prog 25 [.int .i64 0,.slice none 0 0,.string ⟨#[]⟩,.slice none 0 0,.int .i64 0,.int .i64 0]:=⟨by kernel_rfl⟩
instance:TStruct Tryz.prog 25 [(0,1),(1,1),(2,1),(3,1),(4,1),(5,1)]:=⟨⟨_,Tryz.underlying25,by kernel_rfl⟩⟩
instance:TFld Tryz.prog 25 0 0 0 false:=⟨⟨_,_,_,Tryz.underlying25,rfl,rfl,Tryz.underlying3,rfl,isz3⟩⟩
instance:TFld Tryz.prog 25 1 1 0 false:=⟨⟨_,_,_,Tryz.underlying25,rfl,rfl,Tryz.underlying22,rfl,isz22⟩⟩
instance:TFld Tryz.prog 25 2 2 0 false:=⟨⟨_,_,_,Tryz.underlying25,rfl,rfl,Tryz.underlying9,rfl,isz9⟩⟩
instance:TFld Tryz.prog 25 3 3 0 false:=⟨⟨_,_,_,Tryz.underlying25,rfl,rfl,Tryz.underlying23,rfl,isz23⟩⟩
instance:TFld Tryz.prog 25 4 4 0 false:=⟨⟨_,_,_,Tryz.underlying25,rfl,rfl,Tryz.underlying3,rfl,isz3⟩⟩
instance:TFld Tryz.prog 25 5 5 0 false:=⟨⟨_,_,_,Tryz.underlying25,rfl,rfl,Tryz.underlying3,rfl,isz3⟩⟩
instance:TSize Tryz.prog 26 1:=⟨isz26⟩
instance:TOne Tryz.prog 26:=⟨⟨_,Tryz.underlying26,rfl⟩,isz26⟩
instance:TInt Tryz.prog 26 .i64:=⟨Tryz.underlying26⟩
instance:TZer Tryz.prog 26 [.int .i64 0]:=⟨by kernel_rfl⟩
instance:TSize Tryz.prog 27 1:=⟨isz27⟩
instance:TOne Tryz.prog 27:=⟨⟨_,Tryz.underlying27,rfl⟩,isz27⟩
instance:TSize Tryz.prog 32 1:=⟨isz32⟩
instance:TOne Tryz.prog 32:=⟨⟨_,Tryz.underlying32,rfl⟩,isz32⟩
instance:TSize Tryz.prog 34 1:=⟨isz34⟩
instance:TOne Tryz.prog 34:=⟨⟨_,Tryz.underlying34,rfl⟩,isz34⟩
instance:TZer Tryz.prog 34 [.nilFunc]:=⟨by kernel_rfl⟩
instance:TSize Tryz.prog 36 1:=⟨isz36⟩
instance:TOne Tryz.prog 36:=⟨⟨_,Tryz.underlying36,rfl⟩,isz36⟩
instance:TZer Tryz.prog 36 [.nilFunc]:=⟨by kernel_rfl⟩
instance:TSize Tryz.prog 38 1:=⟨isz38⟩
instance:TOne Tryz.prog 38:=⟨⟨_,Tryz.underlying38,rfl⟩,isz38⟩
instance:TZer Tryz.prog 38 [.pointer none]:=⟨by kernel_rfl⟩
instance:TSize Tryz.prog 40 1:=⟨isz40⟩
instance:TRow Tryz.prog 40 1:=⟨⟨_,Tryz.underlying40,rfl⟩,isz40⟩
instance:TZer Tryz.prog 40 [.int .i64 0]:=⟨by kernel_rfl⟩
instance:TStruct Tryz.prog 40 [(0,1)]:=⟨⟨_,Tryz.underlying40,by kernel_rfl⟩⟩
instance:TFld Tryz.prog 40 0 0 0 false:=⟨⟨_,_,_,Tryz.underlying40,rfl,rfl,Tryz.underlying3,rfl,isz3⟩⟩
instance:TSize Tryz.prog 41 1:=⟨isz41⟩
instance:TOne Tryz.prog 41:=⟨⟨_,Tryz.underlying41,rfl⟩,isz41⟩
instance:TZer Tryz.prog 41 [.nilFunc]:=⟨by kernel_rfl⟩
instance:TSize Tryz.prog 44 1:=⟨isz44⟩
instance:TOne Tryz.prog 44:=⟨⟨_,Tryz.underlying44,rfl⟩,isz44⟩
instance:TZer Tryz.prog 44 [.pointer none]:=⟨by kernel_rfl⟩
instance:TSize Tryz.prog 45 3:=⟨isz45⟩
instance:TRow Tryz.prog 45 3:=⟨⟨_,Tryz.underlying45,rfl⟩,isz45⟩
instance:TZer Tryz.prog 45 [.string ⟨#[]⟩,.int .i64 0,.bool false]:=⟨by kernel_rfl⟩
instance:TStruct Tryz.prog 45 [(0,1),(1,1),(2,1)]:=⟨⟨_,Tryz.underlying45,by kernel_rfl⟩⟩
instance:TFld Tryz.prog 45 0 0 0 false:=⟨⟨_,_,_,Tryz.underlying45,rfl,rfl,Tryz.underlying9,rfl,isz9⟩⟩
instance:TFld Tryz.prog 45 1 1 0 false:=⟨⟨_,_,_,Tryz.underlying45,rfl,rfl,Tryz.underlying3,rfl,isz3⟩⟩
instance:TFld Tryz.prog 45 2 2 0 false:=⟨⟨_,_,_,Tryz.underlying45,rfl,rfl,Tryz.underlying4,rfl,isz4⟩⟩
instance:TSize Tryz.prog 46 3:=⟨isz46⟩
instance:TRow Tryz.prog 46 3:=⟨⟨_,Tryz.underlying46,rfl⟩,isz46⟩
instance:TZer Tryz.prog 46 [.string ⟨#[]⟩,.int .i64 0,.bool false]:=⟨by kernel_rfl⟩
instance:TStruct Tryz.prog 46 [(0,1),(1,1),(2,1)]:=⟨⟨_,Tryz.underlying46,by kernel_rfl⟩⟩
instance:TFld Tryz.prog 46 0 0 0 false:=⟨⟨_,_,_,Tryz.underlying46,rfl,rfl,Tryz.underlying9,rfl,isz9⟩⟩
instance:TFld Tryz.prog 46 1 1 0 false:=⟨⟨_,_,_,Tryz.underlying46,rfl,rfl,Tryz.underlying3,rfl,isz3⟩⟩
instance:TFld Tryz.prog 46 2 2 0 false:=⟨⟨_,_,_,Tryz.underlying46,rfl,rfl,Tryz.underlying4,rfl,isz4⟩⟩
instance:TSize Tryz.prog 47 1:=⟨isz47⟩
instance:TOne Tryz.prog 47:=⟨⟨_,Tryz.underlying47,rfl⟩,isz47⟩
instance:TZer Tryz.prog 47 [.nilFunc]:=⟨by kernel_rfl⟩
instance:TSize Tryz.prog 48 1:=⟨isz48⟩
instance:TOne Tryz.prog 48:=⟨⟨_,Tryz.underlying48,rfl⟩,isz48⟩
instance:TZer Tryz.prog 48 [.pointer none]:=⟨by kernel_rfl⟩
instance:TSize Tryz.prog 49 3:=⟨isz49⟩
instance:TRow Tryz.prog 49 3:=⟨⟨_,Tryz.underlying49,rfl⟩,isz49⟩
instance:TZer Tryz.prog 49 [.string ⟨#[]⟩,.int .i64 0,.int .i64 0]:=⟨by kernel_rfl⟩
instance:TStruct Tryz.prog 49 [(0,1),(1,1),(2,1)]:=⟨⟨_,Tryz.underlying49,by kernel_rfl⟩⟩
instance:TFld Tryz.prog 49 0 0 0 false:=⟨⟨_,_,_,Tryz.underlying49,rfl,rfl,Tryz.underlying9,rfl,isz9⟩⟩
instance:TFld Tryz.prog 49 1 1 0 false:=⟨⟨_,_,_,Tryz.underlying49,rfl,rfl,Tryz.underlying3,rfl,isz3⟩⟩
instance:TFld Tryz.prog 49 2 2 0 false:=⟨⟨_,_,_,Tryz.underlying49,rfl,rfl,Tryz.underlying3,rfl,isz3⟩⟩
instance:TSize Tryz.prog 50 3:=⟨isz50⟩
instance:TRow Tryz.prog 50 3:=⟨⟨_,Tryz.underlying50,rfl⟩,isz50⟩
instance:TZer Tryz.prog 50 [.string ⟨#[]⟩,.int .i64 0,.int .i64 0]:=⟨by kernel_rfl⟩
instance:TStruct Tryz.prog 50 [(0,1),(1,1),(2,1)]:=⟨⟨_,Tryz.underlying50,by kernel_rfl⟩⟩
instance:TFld Tryz.prog 50 0 0 0 false:=⟨⟨_,_,_,Tryz.underlying50,rfl,rfl,Tryz.underlying9,rfl,isz9⟩⟩
instance:TFld Tryz.prog 50 1 1 0 false:=⟨⟨_,_,_,Tryz.underlying50,rfl,rfl,Tryz.underlying3,rfl,isz3⟩⟩
instance:TFld Tryz.prog 50 2 2 0 false:=⟨⟨_,_,_,Tryz.underlying50,rfl,rfl,Tryz.underlying3,rfl,isz3⟩⟩
instance:TSize Tryz.prog 51 1:=⟨isz51⟩
instance:TOne Tryz.prog 51:=⟨⟨_,Tryz.underlying51,rfl⟩,isz51⟩
instance:TZer Tryz.prog 51 [.nilFunc]:=⟨by kernel_rfl⟩
instance:TSize Tryz.prog 52 1:=⟨isz52⟩
instance:TOne Tryz.prog 52:=⟨⟨_,Tryz.underlying52,rfl⟩,isz52⟩
instance:TZer Tryz.prog 52 [.nilFunc]:=⟨by kernel_rfl⟩
instance:TSize Tryz.prog 53 1:=⟨isz53⟩
instance:TOne Tryz.prog 53:=⟨⟨_,Tryz.underlying53,rfl⟩,isz53⟩
instance:TZer Tryz.prog 53 [.nilFunc]:=⟨by kernel_rfl⟩
instance:TSize Tryz.prog 54 1:=⟨isz54⟩
instance:TOne Tryz.prog 54:=⟨⟨_,Tryz.underlying54,rfl⟩,isz54⟩
instance:TZer Tryz.prog 54 [.nilFunc]:=⟨by kernel_rfl⟩
instance:TSize Tryz.prog 55 1:=⟨isz55⟩
instance:TOne Tryz.prog 55:=⟨⟨_,Tryz.underlying55,rfl⟩,isz55⟩
instance:TZer Tryz.prog 55 [.nilFunc]:=⟨by kernel_rfl⟩
instance:TSize Tryz.prog 56 1:=⟨isz56⟩
instance:TOne Tryz.prog 56:=⟨⟨_,Tryz.underlying56,rfl⟩,isz56⟩
instance:TZer Tryz.prog 56 [.nilFunc]:=⟨by kernel_rfl⟩
instance:TSize Tryz.prog 57 1:=⟨isz57⟩
instance:TOne Tryz.prog 57:=⟨⟨_,Tryz.underlying57,rfl⟩,isz57⟩
instance:TZer Tryz.prog 57 [.nilFunc]:=⟨by kernel_rfl⟩
instance:TSize Tryz.prog 58 1:=⟨isz58⟩
instance:TOne Tryz.prog 58:=⟨⟨_,Tryz.underlying58,rfl⟩,isz58⟩
instance:TZer Tryz.prog 58 [.nilFunc]:=⟨by kernel_rfl⟩
instance:TSize Tryz.prog 59 1:=⟨isz59⟩
instance:TOne Tryz.prog 59:=⟨⟨_,Tryz.underlying59,rfl⟩,isz59⟩
instance:TZer Tryz.prog 59 [.pointer none]:=⟨by kernel_rfl⟩
instance:TSize Tryz.prog 63 1:=⟨isz63⟩
instance:TOne Tryz.prog 63:=⟨⟨_,Tryz.underlying63,rfl⟩,isz63⟩
instance:TZer Tryz.prog 63 [.pointer none]:=⟨by kernel_rfl⟩
instance:TSize Tryz.prog 65 1:=⟨isz65⟩
instance:TOne Tryz.prog 65:=⟨⟨_,Tryz.underlying65,rfl⟩,isz65⟩
instance:TZer Tryz.prog 65 [.pointer none]:=⟨by kernel_rfl⟩
instance:TSize Tryz.prog 66 1:=⟨isz66⟩
instance:TOne Tryz.prog 66:=⟨⟨_,Tryz.underlying66,rfl⟩,isz66⟩
instance:TSlice Tryz.prog 66 5:=⟨Tryz.underlying66⟩
instance:TZer Tryz.prog 66 [.slice none 0 0]:=⟨by kernel_rfl⟩
instance:TSize Tryz.prog 67 2:=⟨isz67⟩
instance:TRow Tryz.prog 67 2:=⟨⟨_,Tryz.underlying67,rfl⟩,isz67⟩
instance:TZer Tryz.prog 67 [.pointer none,.slice none 0 0]:=⟨by kernel_rfl⟩
instance:TStruct Tryz.prog 67 [(0,1),(1,1)]:=⟨⟨_,Tryz.underlying67,by kernel_rfl⟩⟩
instance:TFld Tryz.prog 67 0 0 0 false:=⟨⟨_,_,_,Tryz.underlying67,rfl,rfl,Tryz.underlying65,rfl,isz65⟩⟩
instance:TFld Tryz.prog 67 1 1 0 false:=⟨⟨_,_,_,Tryz.underlying67,rfl,rfl,Tryz.underlying66,rfl,isz66⟩⟩
instance:TSize Tryz.prog 68 2:=⟨isz68⟩
instance:TRow Tryz.prog 68 2:=⟨⟨_,Tryz.underlying68,rfl⟩,isz68⟩
instance:TZer Tryz.prog 68 [.pointer none,.slice none 0 0]:=⟨by kernel_rfl⟩
instance:TStruct Tryz.prog 68 [(0,1),(1,1)]:=⟨⟨_,Tryz.underlying68,by kernel_rfl⟩⟩
instance:TFld Tryz.prog 68 0 0 0 false:=⟨⟨_,_,_,Tryz.underlying68,rfl,rfl,Tryz.underlying65,rfl,isz65⟩⟩
instance:TFld Tryz.prog 68 1 1 0 false:=⟨⟨_,_,_,Tryz.underlying68,rfl,rfl,Tryz.underlying66,rfl,isz66⟩⟩
instance:TSize Tryz.prog 69 1:=⟨isz69⟩
instance:TOne Tryz.prog 69:=⟨⟨_,Tryz.underlying69,rfl⟩,isz69⟩
instance:TZer Tryz.prog 69 [.nilFunc]:=⟨by kernel_rfl⟩
instance:TSize Tryz.prog 70 1:=⟨isz70⟩
instance:TOne Tryz.prog 70:=⟨⟨_,Tryz.underlying70,rfl⟩,isz70⟩
instance:TIfc Tryz.prog 70:=⟨_,Tryz.underlying70⟩
instance:TZer Tryz.prog 70 [.nilIface]:=⟨by kernel_rfl⟩
instance:TSize Tryz.prog 71 1:=⟨isz71⟩
instance:TOne Tryz.prog 71:=⟨⟨_,Tryz.underlying71,rfl⟩,isz71⟩
instance:TIfc Tryz.prog 71:=⟨_,Tryz.underlying71⟩
instance:TZer Tryz.prog 71 [.nilIface]:=⟨by kernel_rfl⟩
instance:TSize Tryz.prog 72 1:=⟨isz72⟩
instance:TOne Tryz.prog 72:=⟨⟨_,Tryz.underlying72,rfl⟩,isz72⟩
instance:TSize Tryz.prog 73 1:=⟨isz73⟩
instance:TOne Tryz.prog 73:=⟨⟨_,Tryz.underlying73,rfl⟩,isz73⟩
instance:TZer Tryz.prog 73 [.nilFunc]:=⟨by kernel_rfl⟩
instance:TSize Tryz.prog 74 1:=⟨isz74⟩
instance:TOne Tryz.prog 74:=⟨⟨_,Tryz.underlying74,rfl⟩,isz74⟩
instance:TZer Tryz.prog 74 [.nilFunc]:=⟨by kernel_rfl⟩
instance:TSize Tryz.prog 75 4:=⟨isz75⟩
instance:TRow Tryz.prog 75 4:=⟨⟨_,Tryz.underlying75,rfl⟩,isz75⟩
instance:TZer Tryz.prog 75 [.bool false,.bool false,.bool false,.bool false]:=⟨by kernel_rfl⟩
instance:TStruct Tryz.prog 75 [(0,1),(1,1),(2,1),(3,1)]:=⟨⟨_,Tryz.underlying75,by kernel_rfl⟩⟩
instance:TFld Tryz.prog 75 0 0 0 false:=⟨⟨_,_,_,Tryz.underlying75,rfl,rfl,Tryz.underlying4,rfl,isz4⟩⟩
instance:TFld Tryz.prog 75 1 1 0 false:=⟨⟨_,_,_,Tryz.underlying75,rfl,rfl,Tryz.underlying4,rfl,isz4⟩⟩
instance:TFld Tryz.prog 75 2 2 0 false:=⟨⟨_,_,_,Tryz.underlying75,rfl,rfl,Tryz.underlying4,rfl,isz4⟩⟩
instance:TFld Tryz.prog 75 3 3 0 false:=⟨⟨_,_,_,Tryz.underlying75,rfl,rfl,Tryz.underlying4,rfl,isz4⟩⟩
instance:TSize Tryz.prog 76 4:=⟨isz76⟩
instance:TRow Tryz.prog 76 4:=⟨⟨_,Tryz.underlying76,rfl⟩,isz76⟩
instance:TZer Tryz.prog 76 [.bool false,.bool false,.bool false,.bool false]:=⟨by kernel_rfl⟩
instance:TStruct Tryz.prog 76 [(0,1),(1,1),(2,1),(3,1)]:=⟨⟨_,Tryz.underlying76,by kernel_rfl⟩⟩
instance:TFld Tryz.prog 76 0 0 0 false:=⟨⟨_,_,_,Tryz.underlying76,rfl,rfl,Tryz.underlying4,rfl,isz4⟩⟩
instance:TFld Tryz.prog 76 1 1 0 false:=⟨⟨_,_,_,Tryz.underlying76,rfl,rfl,Tryz.underlying4,rfl,isz4⟩⟩
instance:TFld Tryz.prog 76 2 2 0 false:=⟨⟨_,_,_,Tryz.underlying76,rfl,rfl,Tryz.underlying4,rfl,isz4⟩⟩
instance:TFld Tryz.prog 76 3 3 0 false:=⟨⟨_,_,_,Tryz.underlying76,rfl,rfl,Tryz.underlying4,rfl,isz4⟩⟩
instance:TSize Tryz.prog 77 1:=⟨isz77⟩
instance:TOne Tryz.prog 77:=⟨⟨_,Tryz.underlying77,rfl⟩,isz77⟩
instance:TZer Tryz.prog 77 [.nilFunc]:=⟨by kernel_rfl⟩
instance:TSize Tryz.prog 78 1:=⟨isz78⟩
instance:TOne Tryz.prog 78:=⟨⟨_,Tryz.underlying78,rfl⟩,isz78⟩
instance:TZer Tryz.prog 78 [.nilFunc]:=⟨by kernel_rfl⟩
instance:TSize Tryz.prog 79 1:=⟨isz79⟩
instance:TOne Tryz.prog 79:=⟨⟨_,Tryz.underlying79,rfl⟩,isz79⟩
instance:TZer Tryz.prog 79 [.nilFunc]:=⟨by kernel_rfl⟩
instance:TSize Tryz.prog 80 1:=⟨isz80⟩
instance:TOne Tryz.prog 80:=⟨⟨_,Tryz.underlying80,rfl⟩,isz80⟩
instance:TZer Tryz.prog 80 [.nilFunc]:=⟨by kernel_rfl⟩
instance:TSize Tryz.prog 81 1:=⟨isz81⟩
instance:TOne Tryz.prog 81:=⟨⟨_,Tryz.underlying81,rfl⟩,isz81⟩
instance:TSize Tryz.prog 82 1:=⟨isz82⟩
instance:TOne Tryz.prog 82:=⟨⟨_,Tryz.underlying82,rfl⟩,isz82⟩
instance:TZer Tryz.prog 82 [.nilFunc]:=⟨by kernel_rfl⟩
instance:TSize Tryz.prog 83 1:=⟨isz83⟩
instance:TOne Tryz.prog 83:=⟨⟨_,Tryz.underlying83,rfl⟩,isz83⟩
instance:TZer Tryz.prog 83 [.nilFunc]:=⟨by kernel_rfl⟩
instance:TSize Tryz.prog 84 1:=⟨isz84⟩
instance:TOne Tryz.prog 84:=⟨⟨_,Tryz.underlying84,rfl⟩,isz84⟩
instance:TZer Tryz.prog 84 [.nilFunc]:=⟨by kernel_rfl⟩
instance:TSize Tryz.prog 85 1:=⟨isz85⟩
instance:TOne Tryz.prog 85:=⟨⟨_,Tryz.underlying85,rfl⟩,isz85⟩
instance:TZer Tryz.prog 85 [.nilFunc]:=⟨by kernel_rfl⟩
instance:TSize Tryz.prog 86 1:=⟨isz86⟩
instance:TOne Tryz.prog 86:=⟨⟨_,Tryz.underlying86,rfl⟩,isz86⟩
instance:TZer Tryz.prog 86 [.nilFunc]:=⟨by kernel_rfl⟩
instance:TSize Tryz.prog 90 1:=⟨isz90⟩
instance:TOne Tryz.prog 90:=⟨⟨_,Tryz.underlying90,rfl⟩,isz90⟩
instance:TInt Tryz.prog 90 .u32:=⟨Tryz.underlying90⟩
instance:TZer Tryz.prog 90 [.int .u32 0]:=⟨by kernel_rfl⟩
instance:TSize Tryz.prog 92 1:=⟨isz92⟩
instance:TRow Tryz.prog 92 1:=⟨⟨_,Tryz.underlying92,rfl⟩,isz92⟩
instance:TZer Tryz.prog 92 [.int .u32 0]:=⟨by kernel_rfl⟩
instance:TFld Tryz.prog 92 1 0 0 false:=⟨⟨_,_,_,Tryz.underlying92,rfl,rfl,Tryz.underlying90,rfl,isz90⟩⟩
instance:TSize Tryz.prog 94 2:=⟨isz94⟩
instance:TRow Tryz.prog 94 2:=⟨⟨_,Tryz.underlying94,rfl⟩,isz94⟩
instance:TZer Tryz.prog 94 [.int .i32 0,.int .u32 0]:=⟨by kernel_rfl⟩
instance:TStruct Tryz.prog 94 [(0,1),(1,1)]:=⟨⟨_,Tryz.underlying94,by kernel_rfl⟩⟩
instance:TFld Tryz.prog 94 0 0 0 false:=⟨⟨_,_,_,Tryz.underlying94,rfl,rfl,Tryz.underlying21,rfl,isz21⟩⟩
instance:TFld Tryz.prog 94 1 1 0 false:=⟨⟨_,_,_,Tryz.underlying94,rfl,rfl,Tryz.underlying90,rfl,isz90⟩⟩
instance:TSize Tryz.prog 96 2:=⟨isz96⟩
instance:TRow Tryz.prog 96 2:=⟨⟨_,Tryz.underlying96,rfl⟩,isz96⟩
instance:TZer Tryz.prog 96 [.int .i32 0,.int .u32 0]:=⟨by kernel_rfl⟩
instance:TFld Tryz.prog 96 1 0 1 true:=⟨⟨_,_,_,Tryz.underlying96,rfl,rfl,Tryz.underlying94,rfl,isz94⟩⟩
instance:TSize Tryz.prog 97 3:=⟨isz97⟩
instance:TRow Tryz.prog 97 3:=⟨⟨_,Tryz.underlying97,rfl⟩,isz97⟩
instance:TZer Tryz.prog 97 [.int .u32 0,.int .i32 0,.int .u32 0]:=⟨by kernel_rfl⟩
instance:TFld Tryz.prog 97 1 0 0 true:=⟨⟨_,_,_,Tryz.underlying97,rfl,rfl,Tryz.underlying92,rfl,isz92⟩⟩
instance:TFld Tryz.prog 97 2 1 1 true:=⟨⟨_,_,_,Tryz.underlying97,rfl,rfl,Tryz.underlying96,rfl,isz96⟩⟩
instance:TSize Tryz.prog 98 3:=⟨isz98⟩
instance:TRow Tryz.prog 98 3:=⟨⟨_,Tryz.underlying98,rfl⟩,isz98⟩
instance:TZer Tryz.prog 98 [.int .u32 0,.int .i32 0,.int .u32 0]:=⟨by kernel_rfl⟩
instance:TFld Tryz.prog 98 1 0 0 true:=⟨⟨_,_,_,Tryz.underlying98,rfl,rfl,Tryz.underlying92,rfl,isz92⟩⟩
instance:TFld Tryz.prog 98 2 1 1 true:=⟨⟨_,_,_,Tryz.underlying98,rfl,rfl,Tryz.underlying96,rfl,isz96⟩⟩
instance:TSize Tryz.prog 99 1:=⟨isz99⟩
instance:TOne Tryz.prog 99:=⟨⟨_,Tryz.underlying99,rfl⟩,isz99⟩
instance:TIfc Tryz.prog 99:=⟨_,Tryz.underlying99⟩
instance:TZer Tryz.prog 99 [.nilIface]:=⟨by kernel_rfl⟩
instance:TSize Tryz.prog 100 1:=⟨isz100⟩
instance:TOne Tryz.prog 100:=⟨⟨_,Tryz.underlying100,rfl⟩,isz100⟩
instance:TIfc Tryz.prog 100:=⟨_,Tryz.underlying100⟩
instance:TZer Tryz.prog 100 [.nilIface]:=⟨by kernel_rfl⟩
instance:TSize Tryz.prog 101 5:=⟨isz101⟩
instance:TRow Tryz.prog 101 5:=⟨⟨_,Tryz.underlying101,rfl⟩,isz101⟩
instance:TZer Tryz.prog 101 [.int .u32 0,.int .i32 0,.int .u32 0,.nilIface,.slice none 0 0]:=⟨by kernel_rfl⟩
instance:TStruct Tryz.prog 101 [(0,3),(3,1),(4,1)]:=⟨⟨_,Tryz.underlying101,by kernel_rfl⟩⟩
instance:TFld Tryz.prog 101 0 0 2 true:=⟨⟨_,_,_,Tryz.underlying101,rfl,rfl,Tryz.underlying98,rfl,isz98⟩⟩
instance:TFld Tryz.prog 101 1 3 0 false:=⟨⟨_,_,_,Tryz.underlying101,rfl,rfl,Tryz.underlying100,rfl,isz100⟩⟩
instance:TFld Tryz.prog 101 2 4 0 false:=⟨⟨_,_,_,Tryz.underlying101,rfl,rfl,Tryz.underlying23,rfl,isz23⟩⟩
instance:TSize Tryz.prog 102 5:=⟨isz102⟩
instance:TRow Tryz.prog 102 5:=⟨⟨_,Tryz.underlying102,rfl⟩,isz102⟩
instance:TZer Tryz.prog 102 [.int .u32 0,.int .i32 0,.int .u32 0,.nilIface,.slice none 0 0]:=⟨by kernel_rfl⟩
instance:TStruct Tryz.prog 102 [(0,3),(3,1),(4,1)]:=⟨⟨_,Tryz.underlying102,by kernel_rfl⟩⟩
instance:TFld Tryz.prog 102 0 0 2 true:=⟨⟨_,_,_,Tryz.underlying102,rfl,rfl,Tryz.underlying98,rfl,isz98⟩⟩
instance:TFld Tryz.prog 102 1 3 0 false:=⟨⟨_,_,_,Tryz.underlying102,rfl,rfl,Tryz.underlying100,rfl,isz100⟩⟩
instance:TFld Tryz.prog 102 2 4 0 false:=⟨⟨_,_,_,Tryz.underlying102,rfl,rfl,Tryz.underlying23,rfl,isz23⟩⟩
instance:TSize Tryz.prog 103 1:=⟨isz103⟩
instance:TOne Tryz.prog 103:=⟨⟨_,Tryz.underlying103,rfl⟩,isz103⟩
instance:TZer Tryz.prog 103 [.pointer none]:=⟨by kernel_rfl⟩
instance:TSize Tryz.prog 104 1:=⟨isz104⟩
instance:TOne Tryz.prog 104:=⟨⟨_,Tryz.underlying104,rfl⟩,isz104⟩
instance:TSize Tryz.prog 105 1:=⟨isz105⟩
instance:TOne Tryz.prog 105:=⟨⟨_,Tryz.underlying105,rfl⟩,isz105⟩
instance:TZer Tryz.prog 105 [.nilFunc]:=⟨by kernel_rfl⟩
instance:TSize Tryz.prog 106 4:=⟨isz106⟩
instance:TRow Tryz.prog 106 4:=⟨⟨_,Tryz.underlying106,rfl⟩,isz106⟩
instance:TZer Tryz.prog 106 [.slice none 0 0,.string ⟨#[]⟩,.int .i64 0,.int .i64 0]:=⟨by kernel_rfl⟩
instance:TStruct Tryz.prog 106 [(0,1),(1,1),(2,1),(3,1)]:=⟨⟨_,Tryz.underlying106,by kernel_rfl⟩⟩
instance:TFld Tryz.prog 106 0 0 0 false:=⟨⟨_,_,_,Tryz.underlying106,rfl,rfl,Tryz.underlying23,rfl,isz23⟩⟩
instance:TFld Tryz.prog 106 1 1 0 false:=⟨⟨_,_,_,Tryz.underlying106,rfl,rfl,Tryz.underlying9,rfl,isz9⟩⟩
instance:TFld Tryz.prog 106 2 2 0 false:=⟨⟨_,_,_,Tryz.underlying106,rfl,rfl,Tryz.underlying3,rfl,isz3⟩⟩
instance:TFld Tryz.prog 106 3 3 0 false:=⟨⟨_,_,_,Tryz.underlying106,rfl,rfl,Tryz.underlying3,rfl,isz3⟩⟩
instance:TSize Tryz.prog 107 4:=⟨isz107⟩
instance:TRow Tryz.prog 107 4:=⟨⟨_,Tryz.underlying107,rfl⟩,isz107⟩
instance:TZer Tryz.prog 107 [.slice none 0 0,.string ⟨#[]⟩,.int .i64 0,.int .i64 0]:=⟨by kernel_rfl⟩
instance:TStruct Tryz.prog 107 [(0,1),(1,1),(2,1),(3,1)]:=⟨⟨_,Tryz.underlying107,by kernel_rfl⟩⟩
instance:TFld Tryz.prog 107 0 0 0 false:=⟨⟨_,_,_,Tryz.underlying107,rfl,rfl,Tryz.underlying23,rfl,isz23⟩⟩
instance:TFld Tryz.prog 107 1 1 0 false:=⟨⟨_,_,_,Tryz.underlying107,rfl,rfl,Tryz.underlying9,rfl,isz9⟩⟩
instance:TFld Tryz.prog 107 2 2 0 false:=⟨⟨_,_,_,Tryz.underlying107,rfl,rfl,Tryz.underlying3,rfl,isz3⟩⟩
instance:TFld Tryz.prog 107 3 3 0 false:=⟨⟨_,_,_,Tryz.underlying107,rfl,rfl,Tryz.underlying3,rfl,isz3⟩⟩
instance:TSize Tryz.prog 108 1:=⟨isz108⟩
instance:TOne Tryz.prog 108:=⟨⟨_,Tryz.underlying108,rfl⟩,isz108⟩
instance:TSize Tryz.prog 109 1:=⟨isz109⟩
instance:TOne Tryz.prog 109:=⟨⟨_,Tryz.underlying109,rfl⟩,isz109⟩
instance:TZer Tryz.prog 109 [.nilFunc]:=⟨by kernel_rfl⟩
instance:TSize Tryz.prog 110 1:=⟨isz110⟩
instance:TOne Tryz.prog 110:=⟨⟨_,Tryz.underlying110,rfl⟩,isz110⟩
instance:TZer Tryz.prog 110 [.nilFunc]:=⟨by kernel_rfl⟩
instance:TSize Tryz.prog 111 4:=⟨isz111⟩
instance:TRow Tryz.prog 111 4:=⟨⟨_,Tryz.underlying111,rfl⟩,isz111⟩
instance:TZer Tryz.prog 111 [.slice none 0 0,.string ⟨#[]⟩,.int .i64 0,.int .i64 0]:=⟨by kernel_rfl⟩
instance:TStruct Tryz.prog 111 [(0,1),(1,1),(2,1),(3,1)]:=⟨⟨_,Tryz.underlying111,by kernel_rfl⟩⟩
instance:TFld Tryz.prog 111 0 0 0 false:=⟨⟨_,_,_,Tryz.underlying111,rfl,rfl,Tryz.underlying23,rfl,isz23⟩⟩
instance:TFld Tryz.prog 111 1 1 0 false:=⟨⟨_,_,_,Tryz.underlying111,rfl,rfl,Tryz.underlying9,rfl,isz9⟩⟩
instance:TFld Tryz.prog 111 2 2 0 false:=⟨⟨_,_,_,Tryz.underlying111,rfl,rfl,Tryz.underlying3,rfl,isz3⟩⟩
instance:TFld Tryz.prog 111 3 3 0 false:=⟨⟨_,_,_,Tryz.underlying111,rfl,rfl,Tryz.underlying3,rfl,isz3⟩⟩
instance:TSize Tryz.prog 112 1:=⟨isz112⟩
instance:TOne Tryz.prog 112:=⟨⟨_,Tryz.underlying112,rfl⟩,isz112⟩
instance:TSize Tryz.prog 113 1:=⟨isz113⟩
instance:TOne Tryz.prog 113:=⟨⟨_,Tryz.underlying113,rfl⟩,isz113⟩
instance:TZer Tryz.prog 113 [.nilFunc]:=⟨by kernel_rfl⟩
instance:TSize Tryz.prog 114 1:=⟨isz114⟩
instance:TOne Tryz.prog 114:=⟨⟨_,Tryz.underlying114,rfl⟩,isz114⟩
instance:TZer Tryz.prog 114 [.nilFunc]:=⟨by kernel_rfl⟩
instance:TSize Tryz.prog 115 1:=⟨isz115⟩
instance:TOne Tryz.prog 115:=⟨⟨_,Tryz.underlying115,rfl⟩,isz115⟩
instance:TZer Tryz.prog 115 [.nilFunc]:=⟨by kernel_rfl⟩
instance:TSize Tryz.prog 116 1:=⟨isz116⟩
instance:TOne Tryz.prog 116:=⟨⟨_,Tryz.underlying116,rfl⟩,isz116⟩
instance:TZer Tryz.prog 116 [.nilFunc]:=⟨by kernel_rfl⟩
instance:TSize Tryz.prog 117 1:=⟨isz117⟩
instance:TOne Tryz.prog 117:=⟨⟨_,Tryz.underlying117,rfl⟩,isz117⟩
instance:TZer Tryz.prog 117 [.pointer none]:=⟨by kernel_rfl⟩
instance:TSize Tryz.prog 118 1:=⟨isz118⟩
instance:TOne Tryz.prog 118:=⟨⟨_,Tryz.underlying118,rfl⟩,isz118⟩
instance:TZer Tryz.prog 118 [.nilFunc]:=⟨by kernel_rfl⟩
instance:TSize Tryz.prog 119 1:=⟨isz119⟩
instance:TOne Tryz.prog 119:=⟨⟨_,Tryz.underlying119,rfl⟩,isz119⟩
instance:TSize Tryz.prog 120 1:=⟨isz120⟩
instance:TOne Tryz.prog 120:=⟨⟨_,Tryz.underlying120,rfl⟩,isz120⟩
instance:TZer Tryz.prog 120 [.nilFunc]:=⟨by kernel_rfl⟩
instance:TSize Tryz.prog 121 1:=⟨isz121⟩
instance:TOne Tryz.prog 121:=⟨⟨_,Tryz.underlying121,rfl⟩,isz121⟩
instance:TZer Tryz.prog 121 [.nilFunc]:=⟨by kernel_rfl⟩
instance:TSize Tryz.prog 122 1:=⟨isz122⟩
instance:TOne Tryz.prog 122:=⟨⟨_,Tryz.underlying122,rfl⟩,isz122⟩
instance:TZer Tryz.prog 122 [.nilFunc]:=⟨by kernel_rfl⟩
instance:TSize Tryz.prog 124 1:=⟨isz124⟩
instance:TOne Tryz.prog 124:=⟨⟨_,Tryz.underlying124,rfl⟩,isz124⟩
instance:TSize Tryz.prog 126 1:=⟨isz126⟩
instance:TOne Tryz.prog 126:=⟨⟨_,Tryz.underlying126,rfl⟩,isz126⟩
instance:TSlice Tryz.prog 126 3:=⟨Tryz.underlying126⟩
instance:TZer Tryz.prog 126 [.slice none 0 0]:=⟨by kernel_rfl⟩
instance:TSize Tryz.prog 131 1:=⟨isz131⟩
instance:TOne Tryz.prog 131:=⟨⟨_,Tryz.underlying131,rfl⟩,isz131⟩
instance:TInt Tryz.prog 131 .u64:=⟨Tryz.underlying131⟩
instance:TZer Tryz.prog 131 [.int .u64 0]:=⟨by kernel_rfl⟩
instance:TSize Tryz.prog 133 24:=⟨isz133⟩
instance:TRow Tryz.prog 133 24:=⟨⟨_,Tryz.underlying133,rfl⟩,isz133⟩
instance:TSize Tryz.prog 134 1:=⟨isz134⟩
instance:TOne Tryz.prog 134:=⟨⟨_,Tryz.underlying134,rfl⟩,isz134⟩
instance:TInt Tryz.prog 134 .u64:=⟨Tryz.underlying134⟩
instance:TZer Tryz.prog 134 [.int .u64 0]:=⟨by kernel_rfl⟩
instance:TSize Tryz.prog 137 1:=⟨isz137⟩
instance:TOne Tryz.prog 137:=⟨⟨_,Tryz.underlying137,rfl⟩,isz137⟩
instance:TSize Tryz.prog 139 1:=⟨isz139⟩
instance:TOne Tryz.prog 139:=⟨⟨_,Tryz.underlying139,rfl⟩,isz139⟩
instance:TZer Tryz.prog 139 [.pointer none]:=⟨by kernel_rfl⟩
instance:TSize Tryz.prog 141 1:=⟨isz141⟩
instance:TOne Tryz.prog 141:=⟨⟨_,Tryz.underlying141,rfl⟩,isz141⟩
instance:TZer Tryz.prog 141 [.pointer none]:=⟨by kernel_rfl⟩
instance:TSize Tryz.prog 143 1:=⟨isz143⟩
instance:TOne Tryz.prog 143:=⟨⟨_,Tryz.underlying143,rfl⟩,isz143⟩
instance:TZer Tryz.prog 143 [.pointer none]:=⟨by kernel_rfl⟩
instance:TSize Tryz.prog 145 1:=⟨isz145⟩
instance:TOne Tryz.prog 145:=⟨⟨_,Tryz.underlying145,rfl⟩,isz145⟩
instance:TZer Tryz.prog 145 [.pointer none]:=⟨by kernel_rfl⟩
instance:TSize Tryz.prog 147 256:=⟨isz147⟩
instance:TRow Tryz.prog 147 256:=⟨⟨_,Tryz.underlying147,rfl⟩,isz147⟩
instance:TSize Tryz.prog 148 256:=⟨isz148⟩
instance:TRow Tryz.prog 148 256:=⟨⟨_,Tryz.underlying148,rfl⟩,isz148⟩
instance:TSize Tryz.prog 149 1:=⟨isz149⟩
instance:TOne Tryz.prog 149:=⟨⟨_,Tryz.underlying149,rfl⟩,isz149⟩
instance:TZer Tryz.prog 149 [.pointer none]:=⟨by kernel_rfl⟩
instance:TSize Tryz.prog 150 256:=⟨isz150⟩
instance:TRow Tryz.prog 150 256:=⟨⟨_,Tryz.underlying150,rfl⟩,isz150⟩
instance:TSize Tryz.prog 152 257:=⟨isz152⟩
instance:TRow Tryz.prog 152 257:=⟨⟨_,Tryz.underlying152,rfl⟩,isz152⟩
instance:TStruct Tryz.prog 152 [(0,256),(256,1)]:=⟨⟨_,Tryz.underlying152,by kernel_rfl⟩⟩
instance:TFld Tryz.prog 152 0 0 255 true:=⟨⟨_,_,_,Tryz.underlying152,rfl,rfl,Tryz.underlying150,rfl,isz150⟩⟩
instance:TFld Tryz.prog 152 1 256 0 false:=⟨⟨_,_,_,Tryz.underlying152,rfl,rfl,Tryz.underlying23,rfl,isz23⟩⟩
instance:TSize Tryz.prog 153 1:=⟨isz153⟩
instance:TOne Tryz.prog 153:=⟨⟨_,Tryz.underlying153,rfl⟩,isz153⟩
instance:TZer Tryz.prog 153 [.pointer none]:=⟨by kernel_rfl⟩
instance:TSize Tryz.prog 157 1:=⟨isz157⟩
instance:TOne Tryz.prog 157:=⟨⟨_,Tryz.underlying157,rfl⟩,isz157⟩
instance:TInt Tryz.prog 157 .i64:=⟨Tryz.underlying157⟩
instance:TZer Tryz.prog 157 [.int .i64 0]:=⟨by kernel_rfl⟩
instance:TSize Tryz.prog 158 1:=⟨isz158⟩
instance:TOne Tryz.prog 158:=⟨⟨_,Tryz.underlying158,rfl⟩,isz158⟩
instance:TSize Tryz.prog 160 1:=⟨isz160⟩
instance:TOne Tryz.prog 160:=⟨⟨_,Tryz.underlying160,rfl⟩,isz160⟩
instance:TZer Tryz.prog 160 [.pointer none]:=⟨by kernel_rfl⟩
instance:TSize Tryz.prog 164 20:=⟨isz164⟩
instance:TRow Tryz.prog 164 20:=⟨⟨_,Tryz.underlying164,rfl⟩,isz164⟩
instance:TSize Tryz.prog 165 65:=⟨isz165⟩
instance:TRow Tryz.prog 165 65:=⟨⟨_,Tryz.underlying165,rfl⟩,isz165⟩
instance:TSize Tryz.prog 167 1:=⟨isz167⟩
instance:TOne Tryz.prog 167:=⟨⟨_,Tryz.underlying167,rfl⟩,isz167⟩
instance:TZer Tryz.prog 167 [.pointer none]:=⟨by kernel_rfl⟩
instance:TSize Tryz.prog 183 256:=⟨isz183⟩
instance:TRow Tryz.prog 183 256:=⟨⟨_,Tryz.underlying183,rfl⟩,isz183⟩
instance:TSize Tryz.prog 184 1:=⟨isz184⟩
instance:TOne Tryz.prog 184:=⟨⟨_,Tryz.underlying184,rfl⟩,isz184⟩
instance:TSize Tryz.prog 187 1:=⟨isz187⟩
instance:TOne Tryz.prog 187:=⟨⟨_,Tryz.underlying187,rfl⟩,isz187⟩
instance:TZer Tryz.prog 187 [.pointer none]:=⟨by kernel_rfl⟩
instance:TSize Tryz.prog 189 1:=⟨isz189⟩
instance:TOne Tryz.prog 189:=⟨⟨_,Tryz.underlying189,rfl⟩,isz189⟩
instance:TSize Tryz.prog 191 1:=⟨isz191⟩
instance:TOne Tryz.prog 191:=⟨⟨_,Tryz.underlying191,rfl⟩,isz191⟩
instance:TSize Tryz.prog 194 3:=⟨isz194⟩
instance:TRow Tryz.prog 194 3:=⟨⟨_,Tryz.underlying194,rfl⟩,isz194⟩
instance:TZer Tryz.prog 194 [.string ⟨#[]⟩,.string ⟨#[]⟩,.nilIface]:=⟨by kernel_rfl⟩
instance:TStruct Tryz.prog 194 [(0,1),(1,1),(2,1)]:=⟨⟨_,Tryz.underlying194,by kernel_rfl⟩⟩
instance:TFld Tryz.prog 194 0 0 0 false:=⟨⟨_,_,_,Tryz.underlying194,rfl,rfl,Tryz.underlying9,rfl,isz9⟩⟩
instance:TFld Tryz.prog 194 1 1 0 false:=⟨⟨_,_,_,Tryz.underlying194,rfl,rfl,Tryz.underlying9,rfl,isz9⟩⟩
instance:TFld Tryz.prog 194 2 2 0 false:=⟨⟨_,_,_,Tryz.underlying194,rfl,rfl,Tryz.underlying71,rfl,isz71⟩⟩
instance:TSize Tryz.prog 196 1:=⟨isz196⟩
instance:TOne Tryz.prog 196:=⟨⟨_,Tryz.underlying196,rfl⟩,isz196⟩
instance:TSize Tryz.prog 199 1:=⟨isz199⟩
instance:TOne Tryz.prog 199:=⟨⟨_,Tryz.underlying199,rfl⟩,isz199⟩
instance:TZer Tryz.prog 199 [.pointer none]:=⟨by kernel_rfl⟩
instance:TSize Tryz.prog 201 1:=⟨isz201⟩
instance:TOne Tryz.prog 201:=⟨⟨_,Tryz.underlying201,rfl⟩,isz201⟩
instance:TZer Tryz.prog 201 [.pointer none]:=⟨by kernel_rfl⟩
instance:TSize Tryz.prog 210 1:=⟨isz210⟩
instance:TOne Tryz.prog 210:=⟨⟨_,Tryz.underlying210,rfl⟩,isz210⟩
instance:TZer Tryz.prog 210 [.pointer none]:=⟨by kernel_rfl⟩
instance:TSize Tryz.prog 212 1:=⟨isz212⟩
instance:TRow Tryz.prog 212 1:=⟨⟨_,Tryz.underlying212,rfl⟩,isz212⟩
instance:TZer Tryz.prog 212 [.string ⟨#[]⟩]:=⟨by kernel_rfl⟩
instance:TStruct Tryz.prog 212 [(0,1)]:=⟨⟨_,Tryz.underlying212,by kernel_rfl⟩⟩
instance:TFld Tryz.prog 212 0 0 0 false:=⟨⟨_,_,_,Tryz.underlying212,rfl,rfl,Tryz.underlying9,rfl,isz9⟩⟩
instance:TSize Tryz.prog 213 32:=⟨isz213⟩
instance:TRow Tryz.prog 213 32:=⟨⟨_,Tryz.underlying213,rfl⟩,isz213⟩
instance:TSize Tryz.prog 214 64:=⟨isz214⟩
instance:TRow Tryz.prog 214 64:=⟨⟨_,Tryz.underlying214,rfl⟩,isz214⟩
instance:TSize Tryz.prog 218 2:=⟨isz218⟩
instance:TRow Tryz.prog 218 2:=⟨⟨_,Tryz.underlying218,rfl⟩,isz218⟩
instance:TZer Tryz.prog 218 [.int .u8 0,.int .u8 0]:=⟨by kernel_rfl⟩
instance:TStruct Tryz.prog 218 [(0,1),(1,1)]:=⟨⟨_,Tryz.underlying218,by kernel_rfl⟩⟩
instance:TFld Tryz.prog 218 0 0 0 false:=⟨⟨_,_,_,Tryz.underlying218,rfl,rfl,Tryz.underlying5,rfl,isz5⟩⟩
instance:TFld Tryz.prog 218 1 1 0 false:=⟨⟨_,_,_,Tryz.underlying218,rfl,rfl,Tryz.underlying5,rfl,isz5⟩⟩
instance:TSize Tryz.prog 219 32:=⟨isz219⟩
instance:TRow Tryz.prog 219 32:=⟨⟨_,Tryz.underlying219,rfl⟩,isz219⟩
instance:Enters Tryz.prog 4:=⟨⟨_,Tryz.func4,by kernel_rfl,by kernel_rfl⟩⟩
instance:Enters Tryz.prog 12:=⟨⟨_,Tryz.func12,by kernel_rfl,by kernel_rfl⟩⟩
instance:Enters Tryz.prog 23:=⟨⟨_,Tryz.func23,by kernel_rfl,by kernel_rfl⟩⟩
instance:Enters Tryz.prog 24:=⟨⟨_,Tryz.func24,by kernel_rfl,by kernel_rfl⟩⟩
instance:Enters Tryz.prog 30:=⟨⟨_,Tryz.func30,by kernel_rfl,by kernel_rfl⟩⟩
instance:Enters Tryz.prog 34:=⟨⟨_,Tryz.func34,by kernel_rfl,by kernel_rfl⟩⟩
instance:Enters Tryz.prog 35:=⟨⟨_,Tryz.func35,by kernel_rfl,by kernel_rfl⟩⟩
instance:Enters Tryz.prog 37:=⟨⟨_,Tryz.func37,by kernel_rfl,by kernel_rfl⟩⟩
instance:Enters Tryz.prog 45:=⟨⟨_,Tryz.func45,by kernel_rfl,by kernel_rfl⟩⟩
instance:Enters Tryz.prog 46:=⟨⟨_,Tryz.func46,by kernel_rfl,by kernel_rfl⟩⟩
instance:Enters Tryz.prog 47:=⟨⟨_,Tryz.func47,by kernel_rfl,by kernel_rfl⟩⟩
instance:Enters Tryz.prog 57:=⟨⟨_,Tryz.func57,by kernel_rfl,by kernel_rfl⟩⟩
instance:Enters Tryz.prog 65:=⟨⟨_,Tryz.func65,by kernel_rfl,by kernel_rfl⟩⟩
instance:Enters Tryz.prog 66:=⟨⟨_,Tryz.func66,by kernel_rfl,by kernel_rfl⟩⟩
instance:Enters Tryz.prog 67:=⟨⟨_,Tryz.func67,by kernel_rfl,by kernel_rfl⟩⟩
instance:Enters Tryz.prog 69:=⟨⟨_,Tryz.func69,by kernel_rfl,by kernel_rfl⟩⟩
instance:Enters Tryz.prog 75:=⟨⟨_,Tryz.func75,by kernel_rfl,by kernel_rfl⟩⟩
instance:Enters Tryz.prog 76:=⟨⟨_,Tryz.func76,by kernel_rfl,by kernel_rfl⟩⟩
instance:Enters Tryz.prog 82:=⟨⟨_,Tryz.func82,by kernel_rfl,by kernel_rfl⟩⟩
instance:Enters Tryz.prog 87:=⟨⟨_,Tryz.func87,by kernel_rfl,by kernel_rfl⟩⟩
instance:Enters Tryz.prog 89:=⟨⟨_,Tryz.func89,by kernel_rfl,by kernel_rfl⟩⟩
instance:Enters Tryz.prog 94:=⟨⟨_,Tryz.func94,by kernel_rfl,by kernel_rfl⟩⟩
instance:Enters Tryz.prog 95:=⟨⟨_,Tryz.func95,by kernel_rfl,by kernel_rfl⟩⟩
instance:Enters Tryz.prog 101:=⟨⟨_,Tryz.func101,by kernel_rfl,by kernel_rfl⟩⟩
instance:Enters Tryz.prog 108:=⟨⟨_,Tryz.func108,by kernel_rfl,by kernel_rfl⟩⟩
instance:Enters Tryz.prog 109:=⟨⟨_,Tryz.func109,by kernel_rfl,by kernel_rfl⟩⟩
instance:Enters Tryz.prog 120:=⟨⟨_,Tryz.func120,by kernel_rfl,by kernel_rfl⟩⟩
instance:Enters Tryz.prog 126:=⟨⟨_,Tryz.func126,by kernel_rfl,by kernel_rfl⟩⟩
instance:Enters Tryz.prog 131:=⟨⟨_,Tryz.func131,by kernel_rfl,by kernel_rfl⟩⟩
instance:Enters Tryz.prog 217:=⟨⟨_,Tryz.func217,by kernel_rfl,by kernel_rfl⟩⟩
end Go.Proofs.YtindehjiaknokaaGreatDoor
