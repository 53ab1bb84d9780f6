/- What the types and functions of this translation are, one instance each. (Written by wip/inst.py.). -/
import Derived.Test.YtfolfppcadjccaaGreatDoorZ1
import Derived.Test.YtfolfppcadjccaaGreatDoorProg
namespace Go.Proofs.YtfolfppcadjccaaGreatDoor
set_option linter.unusedVariables false
theorem isz0:(Tryz.prog.info? 0).map (·.size)=some 1:=by kernel_rfl
theorem isz1:(Tryz.prog.info? 1).map (·.size)=some 1:=by kernel_rfl
theorem isz2:(Tryz.prog.info? 2).map (·.size)=some 1:=by kernel_rfl
theorem isz3:(Tryz.prog.info? 3).map (·.size)=some 1:=by kernel_rfl
theorem isz4:(Tryz.prog.info? 4).map (·.size)=some 1:=by kernel_rfl
theorem isz5:(Tryz.prog.info? 5).map (·.size)=some 1:=by kernel_rfl
theorem isz6:(Tryz.prog.info? 6).map (·.size)=some 1:=by kernel_rfl
theorem isz7:(Tryz.prog.info? 7).map (·.size)=some 4:=by kernel_rfl
theorem isz8:(Tryz.prog.info? 8).map (·.size)=some 4:=by kernel_rfl
theorem isz9:(Tryz.prog.info? 9).map (·.size)=some 1:=by kernel_rfl
theorem isz10:(Tryz.prog.info? 10).map (·.size)=some 1:=by kernel_rfl
theorem isz11:(Tryz.prog.info? 11).map (·.size)=some 1:=by kernel_rfl
theorem isz20:(Tryz.prog.info? 20).map (·.size)=some 1:=by kernel_rfl
theorem isz21:(Tryz.prog.info? 21).map (·.size)=some 1:=by kernel_rfl
theorem isz22:(Tryz.prog.info? 22).map (·.size)=some 1:=by kernel_rfl
theorem isz23:(Tryz.prog.info? 23).map (·.size)=some 1:=by kernel_rfl
theorem isz25:(Tryz.prog.info? 25).map (·.size)=some 6:=by kernel_rfl
theorem isz26:(Tryz.prog.info? 26).map (·.size)=some 1:=by kernel_rfl
theorem isz27:(Tryz.prog.info? 27).map (·.size)=some 1:=by kernel_rfl
theorem isz28:(Tryz.prog.info? 28).map (·.size)=some 1:=by kernel_rfl
theorem isz32:(Tryz.prog.info? 32).map (·.size)=some 1:=by kernel_rfl
theorem isz38:(Tryz.prog.info? 38).map (·.size)=some 1:=by kernel_rfl
theorem isz40:(Tryz.prog.info? 40).map (·.size)=some 1:=by kernel_rfl
theorem isz41:(Tryz.prog.info? 41).map (·.size)=some 1:=by kernel_rfl
theorem isz44:(Tryz.prog.info? 44).map (·.size)=some 1:=by kernel_rfl
theorem isz45:(Tryz.prog.info? 45).map (·.size)=some 1:=by kernel_rfl
theorem isz46:(Tryz.prog.info? 46).map (·.size)=some 2:=by kernel_rfl
theorem isz47:(Tryz.prog.info? 47).map (·.size)=some 2:=by kernel_rfl
theorem isz48:(Tryz.prog.info? 48).map (·.size)=some 1:=by kernel_rfl
theorem isz49:(Tryz.prog.info? 49).map (·.size)=some 4:=by kernel_rfl
theorem isz50:(Tryz.prog.info? 50).map (·.size)=some 4:=by kernel_rfl
theorem isz51:(Tryz.prog.info? 51).map (·.size)=some 1:=by kernel_rfl
theorem isz52:(Tryz.prog.info? 52).map (·.size)=some 1:=by kernel_rfl
theorem isz53:(Tryz.prog.info? 53).map (·.size)=some 1:=by kernel_rfl
theorem isz54:(Tryz.prog.info? 54).map (·.size)=some 1:=by kernel_rfl
theorem isz55:(Tryz.prog.info? 55).map (·.size)=some 1:=by kernel_rfl
theorem isz56:(Tryz.prog.info? 56).map (·.size)=some 1:=by kernel_rfl
theorem isz57:(Tryz.prog.info? 57).map (·.size)=some 1:=by kernel_rfl
theorem isz58:(Tryz.prog.info? 58).map (·.size)=some 1:=by kernel_rfl
theorem isz63:(Tryz.prog.info? 63).map (·.size)=some 7:=by kernel_rfl
theorem isz65:(Tryz.prog.info? 65).map (·.size)=some 1:=by kernel_rfl
theorem isz66:(Tryz.prog.info? 66).map (·.size)=some 1:=by kernel_rfl
theorem isz67:(Tryz.prog.info? 67).map (·.size)=some 1:=by kernel_rfl
theorem isz68:(Tryz.prog.info? 68).map (·.size)=some 1:=by kernel_rfl
theorem isz69:(Tryz.prog.info? 69).map (·.size)=some 1:=by kernel_rfl
theorem isz70:(Tryz.prog.info? 70).map (·.size)=some 1:=by kernel_rfl
theorem isz71:(Tryz.prog.info? 71).map (·.size)=some 1:=by kernel_rfl
theorem isz72:(Tryz.prog.info? 72).map (·.size)=some 1:=by kernel_rfl
theorem isz73:(Tryz.prog.info? 73).map (·.size)=some 1:=by kernel_rfl
theorem isz74:(Tryz.prog.info? 74).map (·.size)=some 1:=by kernel_rfl
theorem isz75:(Tryz.prog.info? 75).map (·.size)=some 1:=by kernel_rfl
theorem isz76:(Tryz.prog.info? 76).map (·.size)=some 1:=by kernel_rfl
theorem isz77:(Tryz.prog.info? 77).map (·.size)=some 1:=by kernel_rfl
theorem isz78:(Tryz.prog.info? 78).map (·.size)=some 1:=by kernel_rfl
theorem isz79:(Tryz.prog.info? 79).map (·.size)=some 1:=by kernel_rfl
theorem isz80:(Tryz.prog.info? 80).map (·.size)=some 1:=by kernel_rfl
theorem isz81:(Tryz.prog.info? 81).map (·.size)=some 3:=by kernel_rfl
theorem isz82:(Tryz.prog.info? 82).map (·.size)=some 3:=by kernel_rfl
theorem isz83:(Tryz.prog.info? 83).map (·.size)=some 1:=by kernel_rfl
theorem isz84:(Tryz.prog.info? 84).map (·.size)=some 1:=by kernel_rfl
theorem isz85:(Tryz.prog.info? 85).map (·.size)=some 1:=by kernel_rfl
theorem isz86:(Tryz.prog.info? 86).map (·.size)=some 1:=by kernel_rfl
theorem isz87:(Tryz.prog.info? 87).map (·.size)=some 1:=by kernel_rfl
theorem isz88:(Tryz.prog.info? 88).map (·.size)=some 1:=by kernel_rfl
theorem isz89:(Tryz.prog.info? 89).map (·.size)=some 1:=by kernel_rfl
theorem isz90:(Tryz.prog.info? 90).map (·.size)=some 1:=by kernel_rfl
theorem isz91:(Tryz.prog.info? 91).map (·.size)=some 1:=by kernel_rfl
theorem isz93:(Tryz.prog.info? 93).map (·.size)=some 1:=by kernel_rfl
theorem isz95:(Tryz.prog.info? 95).map (·.size)=some 1:=by kernel_rfl
theorem isz97:(Tryz.prog.info? 97).map (·.size)=some 1:=by kernel_rfl
theorem isz98:(Tryz.prog.info? 98).map (·.size)=some 1:=by kernel_rfl
theorem isz99:(Tryz.prog.info? 99).map (·.size)=some 4:=by kernel_rfl
theorem isz100:(Tryz.prog.info? 100).map (·.size)=some 4:=by kernel_rfl
theorem isz101:(Tryz.prog.info? 101).map (·.size)=some 1:=by kernel_rfl
theorem isz102:(Tryz.prog.info? 102).map (·.size)=some 1:=by kernel_rfl
theorem isz103:(Tryz.prog.info? 103).map (·.size)=some 1:=by kernel_rfl
theorem isz104:(Tryz.prog.info? 104).map (·.size)=some 1:=by kernel_rfl
theorem isz105:(Tryz.prog.info? 105).map (·.size)=some 1:=by kernel_rfl
theorem isz106:(Tryz.prog.info? 106).map (·.size)=some 1:=by kernel_rfl
theorem isz107:(Tryz.prog.info? 107).map (·.size)=some 1:=by kernel_rfl
theorem isz108:(Tryz.prog.info? 108).map (·.size)=some 1:=by kernel_rfl
theorem isz109:(Tryz.prog.info? 109).map (·.size)=some 1:=by kernel_rfl
theorem isz110:(Tryz.prog.info? 110).map (·.size)=some 1:=by kernel_rfl
theorem isz111:(Tryz.prog.info? 111).map (·.size)=some 1:=by kernel_rfl
theorem isz112:(Tryz.prog.info? 112).map (·.size)=some 4:=by kernel_rfl
theorem isz113:(Tryz.prog.info? 113).map (·.size)=some 1:=by kernel_rfl
theorem isz114:(Tryz.prog.info? 114).map (·.size)=some 1:=by kernel_rfl
theorem isz115:(Tryz.prog.info? 115).map (·.size)=some 1:=by kernel_rfl
theorem isz116:(Tryz.prog.info? 116).map (·.size)=some 1:=by kernel_rfl
theorem isz117:(Tryz.prog.info? 117).map (·.size)=some 1:=by kernel_rfl
theorem isz118:(Tryz.prog.info? 118).map (·.size)=some 1:=by kernel_rfl
theorem isz119:(Tryz.prog.info? 119).map (·.size)=some 1:=by kernel_rfl
theorem isz120:(Tryz.prog.info? 120).map (·.size)=some 1:=by kernel_rfl
theorem isz121:(Tryz.prog.info? 121).map (·.size)=some 1:=by kernel_rfl
theorem isz122:(Tryz.prog.info? 122).map (·.size)=some 1:=by kernel_rfl
theorem isz136:(Tryz.prog.info? 136).map (·.size)=some 1:=by kernel_rfl
theorem isz139:(Tryz.prog.info? 139).map (·.size)=some 3:=by kernel_rfl
theorem isz140:(Tryz.prog.info? 140).map (·.size)=some 1:=by kernel_rfl
theorem isz144:(Tryz.prog.info? 144).map (·.size)=some 2:=by kernel_rfl
theorem isz145:(Tryz.prog.info? 145).map (·.size)=some 1:=by kernel_rfl
theorem isz147:(Tryz.prog.info? 147).map (·.size)=some 1:=by kernel_rfl
theorem isz149:(Tryz.prog.info? 149).map (·.size)=some 2:=by kernel_rfl
theorem isz162:(Tryz.prog.info? 162).map (·.size)=some 256:=by kernel_rfl
theorem isz163:(Tryz.prog.info? 163).map (·.size)=some 1:=by kernel_rfl
theorem isz166:(Tryz.prog.info? 166).map (·.size)=some 1:=by kernel_rfl
theorem isz177:(Tryz.prog.info? 177).map (·.size)=some 4:=by kernel_rfl
theorem isz182:(Tryz.prog.info? 182).map (·.size)=some 1:=by kernel_rfl
theorem isz185:(Tryz.prog.info? 185).map (·.size)=some 1:=by kernel_rfl
theorem isz186:(Tryz.prog.info? 186).map (·.size)=some 1:=by kernel_rfl
theorem isz189:(Tryz.prog.info? 189).map (·.size)=some 1:=by kernel_rfl
theorem isz194:(Tryz.prog.info? 194).map (·.size)=some 1:=by kernel_rfl
theorem isz196:(Tryz.prog.info? 196).map (·.size)=some 1:=by kernel_rfl
theorem isz197:(Tryz.prog.info? 197).map (·.size)=some 1:=by kernel_rfl
theorem isz208:(Tryz.prog.info? 208).map (·.size)=some 1:=by kernel_rfl
theorem isz214:(Tryz.prog.info? 214).map (·.size)=some 1:=by kernel_rfl
theorem isz217:(Tryz.prog.info? 217).map (·.size)=some 24:=by kernel_rfl
theorem isz220:(Tryz.prog.info? 220).map (·.size)=some 1:=by kernel_rfl
theorem isz249:(Tryz.prog.info? 249).map (·.size)=some 1:=by kernel_rfl
theorem isz253:(Tryz.prog.info? 253).map (·.size)=some 20:=by kernel_rfl
theorem isz254:(Tryz.prog.info? 254).map (·.size)=some 65:=by kernel_rfl
theorem isz257:(Tryz.prog.info? 257).map (·.size)=some 1:=by kernel_rfl
theorem isz258:(Tryz.prog.info? 258).map (·.size)=some 1:=by kernel_rfl
theorem isz260:(Tryz.prog.info? 260).map (·.size)=some 1:=by kernel_rfl
theorem isz272:(Tryz.prog.info? 272).map (·.size)=some 256:=by kernel_rfl
theorem isz274:(Tryz.prog.info? 274).map (·.size)=some 2:=by kernel_rfl
theorem isz275:(Tryz.prog.info? 275).map (·.size)=some 32:=by kernel_rfl
theorem isz277:(Tryz.prog.info? 277).map (·.size)=some 1:=by kernel_rfl
theorem isz280:(Tryz.prog.info? 280).map (·.size)=some 1:=by kernel_rfl
theorem isz283:(Tryz.prog.info? 283).map (·.size)=some 3:=by kernel_rfl
theorem isz299:(Tryz.prog.info? 299).map (·.size)=some 32:=by kernel_rfl
theorem isz300:(Tryz.prog.info? 300).map (·.size)=some 64:=by kernel_rfl
theorem isz302:(Tryz.prog.info? 302).map (·.size)=some 1:=by kernel_rfl
theorem isz304:(Tryz.prog.info? 304).map (·.size)=some 1:=by kernel_rfl
instance:TSize Tryz.prog 0 1:=⟨isz0⟩
instance:TOne Tryz.prog 0:=⟨⟨_,Tryz.underlying0,rfl⟩,isz0⟩
instance:TSize Tryz.prog 1 1:=⟨isz1⟩
instance:TOne Tryz.prog 1:=⟨⟨_,Tryz.underlying1,rfl⟩,isz1⟩
instance:TZer Tryz.prog 1 [.nilFunc]:=⟨by kernel_rfl⟩
instance:TSize Tryz.prog 2 1:=⟨isz2⟩
instance:TOne Tryz.prog 2:=⟨⟨_,Tryz.underlying2,rfl⟩,isz2⟩
instance:TInt Tryz.prog 2 .i64:=⟨Tryz.underlying2⟩
instance:TZer Tryz.prog 2 [.int .i64 0]:=⟨by kernel_rfl⟩
instance:TSize Tryz.prog 3 1:=⟨isz3⟩
instance:TOne Tryz.prog 3:=⟨⟨_,Tryz.underlying3,rfl⟩,isz3⟩
instance:TInt Tryz.prog 3 .i64:=⟨Tryz.underlying3⟩
instance:TZer Tryz.prog 3 [.int .i64 0]:=⟨by kernel_rfl⟩
instance:TSize Tryz.prog 4 1:=⟨isz4⟩
instance:TOne Tryz.prog 4:=⟨⟨_,Tryz.underlying4,rfl⟩,isz4⟩
instance:TBool Tryz.prog 4:=⟨Tryz.underlying4⟩
instance:TZer Tryz.prog 4 [.bool false]:=⟨by kernel_rfl⟩
instance:TSize Tryz.prog 5 1:=⟨isz5⟩
instance:TOne Tryz.prog 5:=⟨⟨_,Tryz.underlying5,rfl⟩,isz5⟩
instance:TInt Tryz.prog 5 .u8:=⟨Tryz.underlying5⟩
instance:TZer Tryz.prog 5 [.int .u8 0]:=⟨by kernel_rfl⟩
instance:TSize Tryz.prog 6 1:=⟨isz6⟩
instance:TOne Tryz.prog 6:=⟨⟨_,Tryz.underlying6,rfl⟩,isz6⟩
instance:TInt Tryz.prog 6 .u8:=⟨Tryz.underlying6⟩
instance:TZer Tryz.prog 6 [.int .u8 0]:=⟨by kernel_rfl⟩
instance:TSize Tryz.prog 7 4:=⟨isz7⟩
instance:TRow Tryz.prog 7 4:=⟨⟨_,Tryz.underlying7,rfl⟩,isz7⟩
instance:TZer Tryz.prog 7 [.int .i64 0,.int .i64 0,.bool false,.int .u8 0]:=⟨by kernel_rfl⟩
instance:TStruct Tryz.prog 7 [(0,1),(1,1),(2,1),(3,1)]:=⟨⟨_,Tryz.underlying7,by kernel_rfl⟩⟩
instance:TFld Tryz.prog 7 0 0 0 false:=⟨⟨_,_,_,Tryz.underlying7,rfl,rfl,Tryz.underlying2,rfl,isz2⟩⟩
instance:TFld Tryz.prog 7 1 1 0 false:=⟨⟨_,_,_,Tryz.underlying7,rfl,rfl,Tryz.underlying3,rfl,isz3⟩⟩
instance:TFld Tryz.prog 7 2 2 0 false:=⟨⟨_,_,_,Tryz.underlying7,rfl,rfl,Tryz.underlying4,rfl,isz4⟩⟩
instance:TFld Tryz.prog 7 3 3 0 false:=⟨⟨_,_,_,Tryz.underlying7,rfl,rfl,Tryz.underlying6,rfl,isz6⟩⟩
instance:TSize Tryz.prog 8 4:=⟨isz8⟩
instance:TRow Tryz.prog 8 4:=⟨⟨_,Tryz.underlying8,rfl⟩,isz8⟩
instance:TZer Tryz.prog 8 [.int .i64 0,.int .i64 0,.bool false,.int .u8 0]:=⟨by kernel_rfl⟩
instance:TStruct Tryz.prog 8 [(0,1),(1,1),(2,1),(3,1)]:=⟨⟨_,Tryz.underlying8,by kernel_rfl⟩⟩
instance:TFld Tryz.prog 8 0 0 0 false:=⟨⟨_,_,_,Tryz.underlying8,rfl,rfl,Tryz.underlying2,rfl,isz2⟩⟩
instance:TFld Tryz.prog 8 1 1 0 false:=⟨⟨_,_,_,Tryz.underlying8,rfl,rfl,Tryz.underlying3,rfl,isz3⟩⟩
instance:TFld Tryz.prog 8 2 2 0 false:=⟨⟨_,_,_,Tryz.underlying8,rfl,rfl,Tryz.underlying4,rfl,isz4⟩⟩
instance:TFld Tryz.prog 8 3 3 0 false:=⟨⟨_,_,_,Tryz.underlying8,rfl,rfl,Tryz.underlying6,rfl,isz6⟩⟩
instance:TSize Tryz.prog 9 1:=⟨isz9⟩
instance:TOne Tryz.prog 9:=⟨⟨_,Tryz.underlying9,rfl⟩,isz9⟩
instance:TStr Tryz.prog 9:=⟨Tryz.underlying9⟩
instance:TZer Tryz.prog 9 [.string ⟨#[]⟩]:=⟨by kernel_rfl⟩
instance:TSize Tryz.prog 10 1:=⟨isz10⟩
instance:TOne Tryz.prog 10:=⟨⟨_,Tryz.underlying10,rfl⟩,isz10⟩
instance:TStr Tryz.prog 10:=⟨Tryz.underlying10⟩
instance:TZer Tryz.prog 10 [.string ⟨#[]⟩]:=⟨by kernel_rfl⟩
instance:TSize Tryz.prog 11 1:=⟨isz11⟩
instance:TOne Tryz.prog 11:=⟨⟨_,Tryz.underlying11,rfl⟩,isz11⟩
instance:TStr Tryz.prog 11:=⟨Tryz.underlying11⟩
instance:TZer Tryz.prog 11 [.string ⟨#[]⟩]:=⟨by kernel_rfl⟩
instance:TSize Tryz.prog 20 1:=⟨isz20⟩
instance:TOne Tryz.prog 20:=⟨⟨_,Tryz.underlying20,rfl⟩,isz20⟩
instance:TIfc Tryz.prog 20:=⟨_,Tryz.underlying20⟩
instance:TZer Tryz.prog 20 [.nilIface]:=⟨by kernel_rfl⟩
instance:TSize Tryz.prog 21 1:=⟨isz21⟩
instance:TOne Tryz.prog 21:=⟨⟨_,Tryz.underlying21,rfl⟩,isz21⟩
instance:TInt Tryz.prog 21 .i32:=⟨Tryz.underlying21⟩
instance:TZer Tryz.prog 21 [.int .i32 0]:=⟨by kernel_rfl⟩
instance:TSize Tryz.prog 22 1:=⟨isz22⟩
instance:TOne Tryz.prog 22:=⟨⟨_,Tryz.underlying22,rfl⟩,isz22⟩
instance:TSlice Tryz.prog 22 25:=⟨Tryz.underlying22⟩
instance:TZer Tryz.prog 22 [.slice none 0 0]:=⟨by kernel_rfl⟩
instance:TSize Tryz.prog 23 1:=⟨isz23⟩
instance:TOne Tryz.prog 23:=⟨⟨_,Tryz.underlying23,rfl⟩,isz23⟩
instance:TSlice Tryz.prog 23 9:=⟨Tryz.underlying23⟩
instance:TZer Tryz.prog 23 [.slice none 0 0]:=⟨by kernel_rfl⟩
instance:TSize Tryz.prog 25 6:=⟨isz25⟩
instance:TRow Tryz.prog 25 6:=⟨⟨_,Tryz.underlying25,rfl⟩,isz25⟩
instance:TZer Tryz.prog 25 [.int .i64 0,.slice none 0 0,.string ⟨#[]⟩,.slice none 0 0,.int .i64 0,.int .i64 0]:=⟨by kernel_rfl⟩
instance:TStruct Tryz.prog 25 [(0,1),(1,1),(2,1),(3,1),(4,1),(5,1)]:=⟨⟨_,Tryz.underlying25,by kernel_rfl⟩⟩
instance:TFld Tryz.prog 25 0 0 0 false:=⟨⟨_,_,_,Tryz.underlying25,rfl,rfl,Tryz.underlying3,rfl,isz3⟩⟩
instance:TFld Tryz.prog 25 1 1 0 false:=⟨⟨_,_,_,Tryz.underlying25,rfl,rfl,Tryz.underlying22,rfl,isz22⟩⟩
instance:TFld Tryz.prog 25 2 2 0 false:=⟨⟨_,_,_,Tryz.underlying25,rfl,rfl,Tryz.underlying9,rfl,isz9⟩⟩
instance:TFld Tryz.prog 25 3 3 0 false:=⟨⟨_,_,_,Tryz.underlying25,rfl,rfl,Tryz.underlying23,rfl,isz23⟩⟩
instance:TFld Tryz.prog 25 4 4 0 false:=⟨⟨_,_,_,Tryz.underlying25,rfl,rfl,Tryz.underlying3,rfl,isz3⟩⟩
instance:TFld Tryz.prog 25 5 5 0 false:=⟨⟨_,_,_,Tryz.underlying25,rfl,rfl,Tryz.underlying3,rfl,isz3⟩⟩
instance:TSize Tryz.prog 26 1:=⟨isz26⟩
instance:TOne Tryz.prog 26:=⟨⟨_,Tryz.underlying26,rfl⟩,isz26⟩
instance:TSlice Tryz.prog 26 50:=⟨Tryz.underlying26⟩
instance:TZer Tryz.prog 26 [.slice none 0 0]:=⟨by kernel_rfl⟩
instance:TSize Tryz.prog 27 1:=⟨isz27⟩
instance:TOne Tryz.prog 27:=⟨⟨_,Tryz.underlying27,rfl⟩,isz27⟩
instance:TInt Tryz.prog 27 .i64:=⟨Tryz.underlying27⟩
instance:TZer Tryz.prog 27 [.int .i64 0]:=⟨by kernel_rfl⟩
instance:TSize Tryz.prog 28 1:=⟨isz28⟩
instance:TOne Tryz.prog 28:=⟨⟨_,Tryz.underlying28,rfl⟩,isz28⟩
instance:TSize Tryz.prog 32 1:=⟨isz32⟩
instance:TOne Tryz.prog 32:=⟨⟨_,Tryz.underlying32,rfl⟩,isz32⟩
instance:TSlice Tryz.prog 32 63:=⟨Tryz.underlying32⟩
instance:TZer Tryz.prog 32 [.slice none 0 0]:=⟨by kernel_rfl⟩
instance:TSize Tryz.prog 38 1:=⟨isz38⟩
instance:TOne Tryz.prog 38:=⟨⟨_,Tryz.underlying38,rfl⟩,isz38⟩
instance:TSize Tryz.prog 40 1:=⟨isz40⟩
instance:TOne Tryz.prog 40:=⟨⟨_,Tryz.underlying40,rfl⟩,isz40⟩
instance:TSlice Tryz.prog 40 26:=⟨Tryz.underlying40⟩
instance:TZer Tryz.prog 40 [.slice none 0 0]:=⟨by kernel_rfl⟩
instance:TSize Tryz.prog 41 1:=⟨isz41⟩
instance:TOne Tryz.prog 41:=⟨⟨_,Tryz.underlying41,rfl⟩,isz41⟩
instance:TSize Tryz.prog 44 1:=⟨isz44⟩
instance:TOne Tryz.prog 44:=⟨⟨_,Tryz.underlying44,rfl⟩,isz44⟩
instance:TSlice Tryz.prog 44 3:=⟨Tryz.underlying44⟩
instance:TZer Tryz.prog 44 [.slice none 0 0]:=⟨by kernel_rfl⟩
instance:TSize Tryz.prog 45 1:=⟨isz45⟩
instance:TOne Tryz.prog 45:=⟨⟨_,Tryz.underlying45,rfl⟩,isz45⟩
instance:TSlice Tryz.prog 45 53:=⟨Tryz.underlying45⟩
instance:TZer Tryz.prog 45 [.slice none 0 0]:=⟨by kernel_rfl⟩
instance:TSize Tryz.prog 46 2:=⟨isz46⟩
instance:TRow Tryz.prog 46 2:=⟨⟨_,Tryz.underlying46,rfl⟩,isz46⟩
instance:TZer Tryz.prog 46 [.string ⟨#[]⟩,.slice none 0 0]:=⟨by kernel_rfl⟩
instance:TStruct Tryz.prog 46 [(0,1),(1,1)]:=⟨⟨_,Tryz.underlying46,by kernel_rfl⟩⟩
instance:TFld Tryz.prog 46 0 0 0 false:=⟨⟨_,_,_,Tryz.underlying46,rfl,rfl,Tryz.underlying9,rfl,isz9⟩⟩
instance:TFld Tryz.prog 46 1 1 0 false:=⟨⟨_,_,_,Tryz.underlying46,rfl,rfl,Tryz.underlying45,rfl,isz45⟩⟩
instance:TSize Tryz.prog 47 2:=⟨isz47⟩
instance:TRow Tryz.prog 47 2:=⟨⟨_,Tryz.underlying47,rfl⟩,isz47⟩
instance:TZer Tryz.prog 47 [.string ⟨#[]⟩,.slice none 0 0]:=⟨by kernel_rfl⟩
instance:TStruct Tryz.prog 47 [(0,1),(1,1)]:=⟨⟨_,Tryz.underlying47,by kernel_rfl⟩⟩
instance:TFld Tryz.prog 47 0 0 0 false:=⟨⟨_,_,_,Tryz.underlying47,rfl,rfl,Tryz.underlying9,rfl,isz9⟩⟩
instance:TFld Tryz.prog 47 1 1 0 false:=⟨⟨_,_,_,Tryz.underlying47,rfl,rfl,Tryz.underlying45,rfl,isz45⟩⟩
instance:TSize Tryz.prog 48 1:=⟨isz48⟩
instance:TOne Tryz.prog 48:=⟨⟨_,Tryz.underlying48,rfl⟩,isz48⟩
instance:TZer Tryz.prog 48 [.nilFunc]:=⟨by kernel_rfl⟩
instance:TSize Tryz.prog 49 4:=⟨isz49⟩
instance:TRow Tryz.prog 49 4:=⟨⟨_,Tryz.underlying49,rfl⟩,isz49⟩
instance:TZer Tryz.prog 49 [.string ⟨#[]⟩,.string ⟨#[]⟩,.slice none 0 0,.slice none 0 0]:=⟨by kernel_rfl⟩
instance:TStruct Tryz.prog 49 [(0,1),(1,2),(3,1)]:=⟨⟨_,Tryz.underlying49,by kernel_rfl⟩⟩
instance:TFld Tryz.prog 49 0 0 0 false:=⟨⟨_,_,_,Tryz.underlying49,rfl,rfl,Tryz.underlying9,rfl,isz9⟩⟩
instance:TFld Tryz.prog 49 1 1 1 true:=⟨⟨_,_,_,Tryz.underlying49,rfl,rfl,Tryz.underlying47,rfl,isz47⟩⟩
instance:TFld Tryz.prog 49 2 3 0 false:=⟨⟨_,_,_,Tryz.underlying49,rfl,rfl,Tryz.underlying26,rfl,isz26⟩⟩
instance:TSize Tryz.prog 50 4:=⟨isz50⟩
instance:TRow Tryz.prog 50 4:=⟨⟨_,Tryz.underlying50,rfl⟩,isz50⟩
instance:TZer Tryz.prog 50 [.string ⟨#[]⟩,.string ⟨#[]⟩,.slice none 0 0,.slice none 0 0]:=⟨by kernel_rfl⟩
instance:TStruct Tryz.prog 50 [(0,1),(1,2),(3,1)]:=⟨⟨_,Tryz.underlying50,by kernel_rfl⟩⟩
instance:TFld Tryz.prog 50 0 0 0 false:=⟨⟨_,_,_,Tryz.underlying50,rfl,rfl,Tryz.underlying9,rfl,isz9⟩⟩
instance:TFld Tryz.prog 50 1 1 1 true:=⟨⟨_,_,_,Tryz.underlying50,rfl,rfl,Tryz.underlying47,rfl,isz47⟩⟩
instance:TFld Tryz.prog 50 2 3 0 false:=⟨⟨_,_,_,Tryz.underlying50,rfl,rfl,Tryz.underlying26,rfl,isz26⟩⟩
instance:TSize Tryz.prog 51 1:=⟨isz51⟩
instance:TOne Tryz.prog 51:=⟨⟨_,Tryz.underlying51,rfl⟩,isz51⟩
instance:TSlice Tryz.prog 51 23:=⟨Tryz.underlying51⟩
instance:TZer Tryz.prog 51 [.slice none 0 0]:=⟨by kernel_rfl⟩
instance:TSize Tryz.prog 52 1:=⟨isz52⟩
instance:TRow Tryz.prog 52 1:=⟨⟨_,Tryz.underlying52,rfl⟩,isz52⟩
instance:TZer Tryz.prog 52 [.slice none 0 0]:=⟨by kernel_rfl⟩
instance:TStruct Tryz.prog 52 [(0,1)]:=⟨⟨_,Tryz.underlying52,by kernel_rfl⟩⟩
instance:TFld Tryz.prog 52 0 0 0 false:=⟨⟨_,_,_,Tryz.underlying52,rfl,rfl,Tryz.underlying51,rfl,isz51⟩⟩
instance:TSize Tryz.prog 53 1:=⟨isz53⟩
instance:TRow Tryz.prog 53 1:=⟨⟨_,Tryz.underlying53,rfl⟩,isz53⟩
instance:TZer Tryz.prog 53 [.slice none 0 0]:=⟨by kernel_rfl⟩
instance:TStruct Tryz.prog 53 [(0,1)]:=⟨⟨_,Tryz.underlying53,by kernel_rfl⟩⟩
instance:TFld Tryz.prog 53 0 0 0 false:=⟨⟨_,_,_,Tryz.underlying53,rfl,rfl,Tryz.underlying51,rfl,isz51⟩⟩
instance:TSize Tryz.prog 54 1:=⟨isz54⟩
instance:TOne Tryz.prog 54:=⟨⟨_,Tryz.underlying54,rfl⟩,isz54⟩
instance:TZer Tryz.prog 54 [.nilFunc]:=⟨by kernel_rfl⟩
instance:TSize Tryz.prog 55 1:=⟨isz55⟩
instance:TOne Tryz.prog 55:=⟨⟨_,Tryz.underlying55,rfl⟩,isz55⟩
instance:TZer Tryz.prog 55 [.nilFunc]:=⟨by kernel_rfl⟩
instance:TSize Tryz.prog 56 1:=⟨isz56⟩
instance:TOne Tryz.prog 56:=⟨⟨_,Tryz.underlying56,rfl⟩,isz56⟩
instance:TZer Tryz.prog 56 [.nilFunc]:=⟨by kernel_rfl⟩
instance:TSize Tryz.prog 57 1:=⟨isz57⟩
instance:TOne Tryz.prog 57:=⟨⟨_,Tryz.underlying57,rfl⟩,isz57⟩
instance:TZer Tryz.prog 57 [.nilFunc]:=⟨by kernel_rfl⟩
instance:TSize Tryz.prog 58 1:=⟨isz58⟩
instance:TOne Tryz.prog 58:=⟨⟨_,Tryz.underlying58,rfl⟩,isz58⟩
instance:TZer Tryz.prog 58 [.nilFunc]:=⟨by kernel_rfl⟩
instance:TSize Tryz.prog 63 7:=⟨isz63⟩
instance:TRow Tryz.prog 63 7:=⟨⟨_,Tryz.underlying63,rfl⟩,isz63⟩
instance:TZer Tryz.prog 63 [.string ⟨#[]⟩,.int .i64 0,.slice none 0 0,.string ⟨#[]⟩,.slice none 0 0,.int .i64 0,.int .i64 0]:=⟨by kernel_rfl⟩
instance:TStruct Tryz.prog 63 [(0,1),(1,6)]:=⟨⟨_,Tryz.underlying63,by kernel_rfl⟩⟩
instance:TFld Tryz.prog 63 0 0 0 false:=⟨⟨_,_,_,Tryz.underlying63,rfl,rfl,Tryz.underlying9,rfl,isz9⟩⟩
instance:TFld Tryz.prog 63 1 1 5 true:=⟨⟨_,_,_,Tryz.underlying63,rfl,rfl,Tryz.underlying25,rfl,isz25⟩⟩
instance:TSize Tryz.prog 65 1:=⟨isz65⟩
instance:TOne Tryz.prog 65:=⟨⟨_,Tryz.underlying65,rfl⟩,isz65⟩
instance:TZer Tryz.prog 65 [.nilFunc]:=⟨by kernel_rfl⟩
instance:TSize Tryz.prog 66 1:=⟨isz66⟩
instance:TOne Tryz.prog 66:=⟨⟨_,Tryz.underlying66,rfl⟩,isz66⟩
instance:TSize Tryz.prog 67 1:=⟨isz67⟩
instance:TOne Tryz.prog 67:=⟨⟨_,Tryz.underlying67,rfl⟩,isz67⟩
instance:TZer Tryz.prog 67 [.nilFunc]:=⟨by kernel_rfl⟩
instance:TSize Tryz.prog 68 1:=⟨isz68⟩
instance:TOne Tryz.prog 68:=⟨⟨_,Tryz.underlying68,rfl⟩,isz68⟩
instance:TZer Tryz.prog 68 [.nilFunc]:=⟨by kernel_rfl⟩
instance:TSize Tryz.prog 69 1:=⟨isz69⟩
instance:TOne Tryz.prog 69:=⟨⟨_,Tryz.underlying69,rfl⟩,isz69⟩
instance:TZer Tryz.prog 69 [.nilFunc]:=⟨by kernel_rfl⟩
instance:TSize Tryz.prog 70 1:=⟨isz70⟩
instance:TOne Tryz.prog 70:=⟨⟨_,Tryz.underlying70,rfl⟩,isz70⟩
instance:TZer Tryz.prog 70 [.nilFunc]:=⟨by kernel_rfl⟩
instance:TSize Tryz.prog 71 1:=⟨isz71⟩
instance:TOne Tryz.prog 71:=⟨⟨_,Tryz.underlying71,rfl⟩,isz71⟩
instance:TZer Tryz.prog 71 [.nilFunc]:=⟨by kernel_rfl⟩
instance:TSize Tryz.prog 72 1:=⟨isz72⟩
instance:TOne Tryz.prog 72:=⟨⟨_,Tryz.underlying72,rfl⟩,isz72⟩
instance:TZer Tryz.prog 72 [.nilFunc]:=⟨by kernel_rfl⟩
instance:TSize Tryz.prog 73 1:=⟨isz73⟩
instance:TOne Tryz.prog 73:=⟨⟨_,Tryz.underlying73,rfl⟩,isz73⟩
instance:TZer Tryz.prog 73 [.nilFunc]:=⟨by kernel_rfl⟩
instance:TSize Tryz.prog 74 1:=⟨isz74⟩
instance:TOne Tryz.prog 74:=⟨⟨_,Tryz.underlying74,rfl⟩,isz74⟩
instance:TZer Tryz.prog 74 [.nilFunc]:=⟨by kernel_rfl⟩
instance:TSize Tryz.prog 75 1:=⟨isz75⟩
instance:TOne Tryz.prog 75:=⟨⟨_,Tryz.underlying75,rfl⟩,isz75⟩
instance:TZer Tryz.prog 75 [.nilFunc]:=⟨by kernel_rfl⟩
instance:TSize Tryz.prog 76 1:=⟨isz76⟩
instance:TOne Tryz.prog 76:=⟨⟨_,Tryz.underlying76,rfl⟩,isz76⟩
instance:TSlice Tryz.prog 76 82:=⟨Tryz.underlying76⟩
instance:TZer Tryz.prog 76 [.slice none 0 0]:=⟨by kernel_rfl⟩
instance:TSize Tryz.prog 77 1:=⟨isz77⟩
instance:TOne Tryz.prog 77:=⟨⟨_,Tryz.underlying77,rfl⟩,isz77⟩
instance:TSize Tryz.prog 78 1:=⟨isz78⟩
instance:TOne Tryz.prog 78:=⟨⟨_,Tryz.underlying78,rfl⟩,isz78⟩
instance:TZer Tryz.prog 78 [.nilFunc]:=⟨by kernel_rfl⟩
instance:TSize Tryz.prog 79 1:=⟨isz79⟩
instance:TOne Tryz.prog 79:=⟨⟨_,Tryz.underlying79,rfl⟩,isz79⟩
instance:TZer Tryz.prog 79 [.nilFunc]:=⟨by kernel_rfl⟩
instance:TSize Tryz.prog 80 1:=⟨isz80⟩
instance:TOne Tryz.prog 80:=⟨⟨_,Tryz.underlying80,rfl⟩,isz80⟩
instance:TSlice Tryz.prog 80 4:=⟨Tryz.underlying80⟩
instance:TZer Tryz.prog 80 [.slice none 0 0]:=⟨by kernel_rfl⟩
instance:TSize Tryz.prog 81 3:=⟨isz81⟩
instance:TRow Tryz.prog 81 3:=⟨⟨_,Tryz.underlying81,rfl⟩,isz81⟩
instance:TZer Tryz.prog 81 [.int .i64 0,.int .i64 0,.slice none 0 0]:=⟨by kernel_rfl⟩
instance:TStruct Tryz.prog 81 [(0,1),(1,1),(2,1)]:=⟨⟨_,Tryz.underlying81,by kernel_rfl⟩⟩
instance:TFld Tryz.prog 81 0 0 0 false:=⟨⟨_,_,_,Tryz.underlying81,rfl,rfl,Tryz.underlying3,rfl,isz3⟩⟩
instance:TFld Tryz.prog 81 1 1 0 false:=⟨⟨_,_,_,Tryz.underlying81,rfl,rfl,Tryz.underlying3,rfl,isz3⟩⟩
instance:TFld Tryz.prog 81 2 2 0 false:=⟨⟨_,_,_,Tryz.underlying81,rfl,rfl,Tryz.underlying76,rfl,isz76⟩⟩
instance:TSize Tryz.prog 82 3:=⟨isz82⟩
instance:TRow Tryz.prog 82 3:=⟨⟨_,Tryz.underlying82,rfl⟩,isz82⟩
instance:TZer Tryz.prog 82 [.int .i64 0,.int .i64 0,.slice none 0 0]:=⟨by kernel_rfl⟩
instance:TStruct Tryz.prog 82 [(0,1),(1,1),(2,1)]:=⟨⟨_,Tryz.underlying82,by kernel_rfl⟩⟩
instance:TFld Tryz.prog 82 0 0 0 false:=⟨⟨_,_,_,Tryz.underlying82,rfl,rfl,Tryz.underlying3,rfl,isz3⟩⟩
instance:TFld Tryz.prog 82 1 1 0 false:=⟨⟨_,_,_,Tryz.underlying82,rfl,rfl,Tryz.underlying3,rfl,isz3⟩⟩
instance:TFld Tryz.prog 82 2 2 0 false:=⟨⟨_,_,_,Tryz.underlying82,rfl,rfl,Tryz.underlying76,rfl,isz76⟩⟩
instance:TSize Tryz.prog 83 1:=⟨isz83⟩
instance:TOne Tryz.prog 83:=⟨⟨_,Tryz.underlying83,rfl⟩,isz83⟩
instance:TZer Tryz.prog 83 [.nilFunc]:=⟨by kernel_rfl⟩
instance:TSize Tryz.prog 84 1:=⟨isz84⟩
instance:TOne Tryz.prog 84:=⟨⟨_,Tryz.underlying84,rfl⟩,isz84⟩
instance:TSlice Tryz.prog 84 80:=⟨Tryz.underlying84⟩
instance:TZer Tryz.prog 84 [.slice none 0 0]:=⟨by kernel_rfl⟩
instance:TSize Tryz.prog 85 1:=⟨isz85⟩
instance:TOne Tryz.prog 85:=⟨⟨_,Tryz.underlying85,rfl⟩,isz85⟩
instance:TZer Tryz.prog 85 [.nilFunc]:=⟨by kernel_rfl⟩
instance:TSize Tryz.prog 86 1:=⟨isz86⟩
instance:TOne Tryz.prog 86:=⟨⟨_,Tryz.underlying86,rfl⟩,isz86⟩
instance:TZer Tryz.prog 86 [.nilFunc]:=⟨by kernel_rfl⟩
instance:TSize Tryz.prog 87 1:=⟨isz87⟩
instance:TOne Tryz.prog 87:=⟨⟨_,Tryz.underlying87,rfl⟩,isz87⟩
instance:TZer Tryz.prog 87 [.pointer none]:=⟨by kernel_rfl⟩
instance:TSize Tryz.prog 88 1:=⟨isz88⟩
instance:TRow Tryz.prog 88 1:=⟨⟨_,Tryz.underlying88,rfl⟩,isz88⟩
instance:TZer Tryz.prog 88 [.int .i64 0]:=⟨by kernel_rfl⟩
instance:TStruct Tryz.prog 88 [(0,1)]:=⟨⟨_,Tryz.underlying88,by kernel_rfl⟩⟩
instance:TFld Tryz.prog 88 0 0 0 false:=⟨⟨_,_,_,Tryz.underlying88,rfl,rfl,Tryz.underlying3,rfl,isz3⟩⟩
instance:TSize Tryz.prog 89 1:=⟨isz89⟩
instance:TRow Tryz.prog 89 1:=⟨⟨_,Tryz.underlying89,rfl⟩,isz89⟩
instance:TZer Tryz.prog 89 [.int .i64 0]:=⟨by kernel_rfl⟩
instance:TStruct Tryz.prog 89 [(0,1)]:=⟨⟨_,Tryz.underlying89,by kernel_rfl⟩⟩
instance:TFld Tryz.prog 89 0 0 0 false:=⟨⟨_,_,_,Tryz.underlying89,rfl,rfl,Tryz.underlying3,rfl,isz3⟩⟩
instance:TSize Tryz.prog 90 1:=⟨isz90⟩
instance:TOne Tryz.prog 90:=⟨⟨_,Tryz.underlying90,rfl⟩,isz90⟩
instance:TZer Tryz.prog 90 [.nilFunc]:=⟨by kernel_rfl⟩
instance:TSize Tryz.prog 91 1:=⟨isz91⟩
instance:TOne Tryz.prog 91:=⟨⟨_,Tryz.underlying91,rfl⟩,isz91⟩
instance:TZer Tryz.prog 91 [.pointer none]:=⟨by kernel_rfl⟩
instance:TSize Tryz.prog 93 1:=⟨isz93⟩
instance:TRow Tryz.prog 93 1:=⟨⟨_,Tryz.underlying93,rfl⟩,isz93⟩
instance:TZer Tryz.prog 93 [.int .i64 0]:=⟨by kernel_rfl⟩
instance:TStruct Tryz.prog 93 [(0,1)]:=⟨⟨_,Tryz.underlying93,by kernel_rfl⟩⟩
instance:TFld Tryz.prog 93 0 0 0 false:=⟨⟨_,_,_,Tryz.underlying93,rfl,rfl,Tryz.underlying3,rfl,isz3⟩⟩
instance:TSize Tryz.prog 95 1:=⟨isz95⟩
instance:TOne Tryz.prog 95:=⟨⟨_,Tryz.underlying95,rfl⟩,isz95⟩
instance:TZer Tryz.prog 95 [.nilFunc]:=⟨by kernel_rfl⟩
instance:TSize Tryz.prog 97 1:=⟨isz97⟩
instance:TOne Tryz.prog 97:=⟨⟨_,Tryz.underlying97,rfl⟩,isz97⟩
instance:TZer Tryz.prog 97 [.nilFunc]:=⟨by kernel_rfl⟩
instance:TSize Tryz.prog 98 1:=⟨isz98⟩
instance:TOne Tryz.prog 98:=⟨⟨_,Tryz.underlying98,rfl⟩,isz98⟩
instance:TZer Tryz.prog 98 [.nilFunc]:=⟨by kernel_rfl⟩
instance:TSize Tryz.prog 99 4:=⟨isz99⟩
instance:TRow Tryz.prog 99 4:=⟨⟨_,Tryz.underlying99,rfl⟩,isz99⟩
instance:TZer Tryz.prog 99 [.slice none 0 0,.string ⟨#[]⟩,.int .i64 0,.int .i64 0]:=⟨by kernel_rfl⟩
instance:TStruct Tryz.prog 99 [(0,1),(1,1),(2,1),(3,1)]:=⟨⟨_,Tryz.underlying99,by kernel_rfl⟩⟩
instance:TFld Tryz.prog 99 0 0 0 false:=⟨⟨_,_,_,Tryz.underlying99,rfl,rfl,Tryz.underlying23,rfl,isz23⟩⟩
instance:TFld Tryz.prog 99 1 1 0 false:=⟨⟨_,_,_,Tryz.underlying99,rfl,rfl,Tryz.underlying9,rfl,isz9⟩⟩
instance:TFld Tryz.prog 99 2 2 0 false:=⟨⟨_,_,_,Tryz.underlying99,rfl,rfl,Tryz.underlying3,rfl,isz3⟩⟩
instance:TFld Tryz.prog 99 3 3 0 false:=⟨⟨_,_,_,Tryz.underlying99,rfl,rfl,Tryz.underlying3,rfl,isz3⟩⟩
instance:TSize Tryz.prog 100 4:=⟨isz100⟩
instance:TRow Tryz.prog 100 4:=⟨⟨_,Tryz.underlying100,rfl⟩,isz100⟩
instance:TZer Tryz.prog 100 [.slice none 0 0,.string ⟨#[]⟩,.int .i64 0,.int .i64 0]:=⟨by kernel_rfl⟩
instance:TStruct Tryz.prog 100 [(0,1),(1,1),(2,1),(3,1)]:=⟨⟨_,Tryz.underlying100,by kernel_rfl⟩⟩
instance:TFld Tryz.prog 100 0 0 0 false:=⟨⟨_,_,_,Tryz.underlying100,rfl,rfl,Tryz.underlying23,rfl,isz23⟩⟩
instance:TFld Tryz.prog 100 1 1 0 false:=⟨⟨_,_,_,Tryz.underlying100,rfl,rfl,Tryz.underlying9,rfl,isz9⟩⟩
instance:TFld Tryz.prog 100 2 2 0 false:=⟨⟨_,_,_,Tryz.underlying100,rfl,rfl,Tryz.underlying3,rfl,isz3⟩⟩
instance:TFld Tryz.prog 100 3 3 0 false:=⟨⟨_,_,_,Tryz.underlying100,rfl,rfl,Tryz.underlying3,rfl,isz3⟩⟩
instance:TSize Tryz.prog 101 1:=⟨isz101⟩
instance:TOne Tryz.prog 101:=⟨⟨_,Tryz.underlying101,rfl⟩,isz101⟩
instance:TSize Tryz.prog 102 1:=⟨isz102⟩
instance:TOne Tryz.prog 102:=⟨⟨_,Tryz.underlying102,rfl⟩,isz102⟩
instance:TZer Tryz.prog 102 [.nilFunc]:=⟨by kernel_rfl⟩
instance:TSize Tryz.prog 103 1:=⟨isz103⟩
instance:TOne Tryz.prog 103:=⟨⟨_,Tryz.underlying103,rfl⟩,isz103⟩
instance:TZer Tryz.prog 103 [.nilFunc]:=⟨by kernel_rfl⟩
instance:TSize Tryz.prog 104 1:=⟨isz104⟩
instance:TOne Tryz.prog 104:=⟨⟨_,Tryz.underlying104,rfl⟩,isz104⟩
instance:TZer Tryz.prog 104 [.nilFunc]:=⟨by kernel_rfl⟩
instance:TSize Tryz.prog 105 1:=⟨isz105⟩
instance:TOne Tryz.prog 105:=⟨⟨_,Tryz.underlying105,rfl⟩,isz105⟩
instance:TZer Tryz.prog 105 [.nilFunc]:=⟨by kernel_rfl⟩
instance:TSize Tryz.prog 106 1:=⟨isz106⟩
instance:TOne Tryz.prog 106:=⟨⟨_,Tryz.underlying106,rfl⟩,isz106⟩
instance:TZer Tryz.prog 106 [.nilFunc]:=⟨by kernel_rfl⟩
instance:TSize Tryz.prog 107 1:=⟨isz107⟩
instance:TOne Tryz.prog 107:=⟨⟨_,Tryz.underlying107,rfl⟩,isz107⟩
instance:TSize Tryz.prog 108 1:=⟨isz108⟩
instance:TOne Tryz.prog 108:=⟨⟨_,Tryz.underlying108,rfl⟩,isz108⟩
instance:TZer Tryz.prog 108 [.nilFunc]:=⟨by kernel_rfl⟩
instance:TSize Tryz.prog 109 1:=⟨isz109⟩
instance:TOne Tryz.prog 109:=⟨⟨_,Tryz.underlying109,rfl⟩,isz109⟩
instance:TZer Tryz.prog 109 [.nilFunc]:=⟨by kernel_rfl⟩
instance:TSize Tryz.prog 110 1:=⟨isz110⟩
instance:TOne Tryz.prog 110:=⟨⟨_,Tryz.underlying110,rfl⟩,isz110⟩
instance:TZer Tryz.prog 110 [.nilFunc]:=⟨by kernel_rfl⟩
instance:TSize Tryz.prog 111 1:=⟨isz111⟩
instance:TOne Tryz.prog 111:=⟨⟨_,Tryz.underlying111,rfl⟩,isz111⟩
instance:TZer Tryz.prog 111 [.nilFunc]:=⟨by kernel_rfl⟩
instance:TSize Tryz.prog 112 4:=⟨isz112⟩
instance:TRow Tryz.prog 112 4:=⟨⟨_,Tryz.underlying112,rfl⟩,isz112⟩
instance:TZer Tryz.prog 112 [.slice none 0 0,.string ⟨#[]⟩,.int .i64 0,.int .i64 0]:=⟨by kernel_rfl⟩
instance:TStruct Tryz.prog 112 [(0,1),(1,1),(2,1),(3,1)]:=⟨⟨_,Tryz.underlying112,by kernel_rfl⟩⟩
instance:TFld Tryz.prog 112 0 0 0 false:=⟨⟨_,_,_,Tryz.underlying112,rfl,rfl,Tryz.underlying23,rfl,isz23⟩⟩
instance:TFld Tryz.prog 112 1 1 0 false:=⟨⟨_,_,_,Tryz.underlying112,rfl,rfl,Tryz.underlying9,rfl,isz9⟩⟩
instance:TFld Tryz.prog 112 2 2 0 false:=⟨⟨_,_,_,Tryz.underlying112,rfl,rfl,Tryz.underlying3,rfl,isz3⟩⟩
instance:TFld Tryz.prog 112 3 3 0 false:=⟨⟨_,_,_,Tryz.underlying112,rfl,rfl,Tryz.underlying3,rfl,isz3⟩⟩
instance:TSize Tryz.prog 113 1:=⟨isz113⟩
instance:TOne Tryz.prog 113:=⟨⟨_,Tryz.underlying113,rfl⟩,isz113⟩
instance:TSize Tryz.prog 114 1:=⟨isz114⟩
instance:TOne Tryz.prog 114:=⟨⟨_,Tryz.underlying114,rfl⟩,isz114⟩
instance:TZer Tryz.prog 114 [.nilFunc]:=⟨by kernel_rfl⟩
instance:TSize Tryz.prog 115 1:=⟨isz115⟩
instance:TOne Tryz.prog 115:=⟨⟨_,Tryz.underlying115,rfl⟩,isz115⟩
instance:TZer Tryz.prog 115 [.nilFunc]:=⟨by kernel_rfl⟩
instance:TSize Tryz.prog 116 1:=⟨isz116⟩
instance:TOne Tryz.prog 116:=⟨⟨_,Tryz.underlying116,rfl⟩,isz116⟩
instance:TZer Tryz.prog 116 [.nilFunc]:=⟨by kernel_rfl⟩
instance:TSize Tryz.prog 117 1:=⟨isz117⟩
instance:TOne Tryz.prog 117:=⟨⟨_,Tryz.underlying117,rfl⟩,isz117⟩
instance:TZer Tryz.prog 117 [.nilFunc]:=⟨by kernel_rfl⟩
instance:TSize Tryz.prog 118 1:=⟨isz118⟩
instance:TOne Tryz.prog 118:=⟨⟨_,Tryz.underlying118,rfl⟩,isz118⟩
instance:TSize Tryz.prog 119 1:=⟨isz119⟩
instance:TOne Tryz.prog 119:=⟨⟨_,Tryz.underlying119,rfl⟩,isz119⟩
instance:TZer Tryz.prog 119 [.nilFunc]:=⟨by kernel_rfl⟩
instance:TSize Tryz.prog 120 1:=⟨isz120⟩
instance:TOne Tryz.prog 120:=⟨⟨_,Tryz.underlying120,rfl⟩,isz120⟩
instance:TZer Tryz.prog 120 [.nilFunc]:=⟨by kernel_rfl⟩
instance:TSize Tryz.prog 121 1:=⟨isz121⟩
instance:TOne Tryz.prog 121:=⟨⟨_,Tryz.underlying121,rfl⟩,isz121⟩
instance:TZer Tryz.prog 121 [.nilFunc]:=⟨by kernel_rfl⟩
instance:TSize Tryz.prog 122 1:=⟨isz122⟩
instance:TOne Tryz.prog 122:=⟨⟨_,Tryz.underlying122,rfl⟩,isz122⟩
instance:TZer Tryz.prog 122 [.nilFunc]:=⟨by kernel_rfl⟩
instance:TSize Tryz.prog 136 1:=⟨isz136⟩
instance:TOne Tryz.prog 136:=⟨⟨_,Tryz.underlying136,rfl⟩,isz136⟩
instance:TSize Tryz.prog 139 3:=⟨isz139⟩
instance:TRow Tryz.prog 139 3:=⟨⟨_,Tryz.underlying139,rfl⟩,isz139⟩
instance:TZer Tryz.prog 139 [.int .i64 0,.int .i64 0,.int .i64 0]:=⟨by kernel_rfl⟩
instance:TStruct Tryz.prog 139 [(0,1),(1,1),(2,1)]:=⟨⟨_,Tryz.underlying139,by kernel_rfl⟩⟩
instance:TFld Tryz.prog 139 0 0 0 false:=⟨⟨_,_,_,Tryz.underlying139,rfl,rfl,Tryz.underlying3,rfl,isz3⟩⟩
instance:TFld Tryz.prog 139 1 1 0 false:=⟨⟨_,_,_,Tryz.underlying139,rfl,rfl,Tryz.underlying3,rfl,isz3⟩⟩
instance:TFld Tryz.prog 139 2 2 0 false:=⟨⟨_,_,_,Tryz.underlying139,rfl,rfl,Tryz.underlying3,rfl,isz3⟩⟩
instance:TSize Tryz.prog 140 1:=⟨isz140⟩
instance:TOne Tryz.prog 140:=⟨⟨_,Tryz.underlying140,rfl⟩,isz140⟩
instance:TSize Tryz.prog 144 2:=⟨isz144⟩
instance:TRow Tryz.prog 144 2:=⟨⟨_,Tryz.underlying144,rfl⟩,isz144⟩
instance:TZer Tryz.prog 144 [.int .i64 0,.int .i64 0]:=⟨by kernel_rfl⟩
instance:TStruct Tryz.prog 144 [(0,1),(1,1)]:=⟨⟨_,Tryz.underlying144,by kernel_rfl⟩⟩
instance:TFld Tryz.prog 144 0 0 0 false:=⟨⟨_,_,_,Tryz.underlying144,rfl,rfl,Tryz.underlying3,rfl,isz3⟩⟩
instance:TFld Tryz.prog 144 1 1 0 false:=⟨⟨_,_,_,Tryz.underlying144,rfl,rfl,Tryz.underlying3,rfl,isz3⟩⟩
instance:TSize Tryz.prog 145 1:=⟨isz145⟩
instance:TOne Tryz.prog 145:=⟨⟨_,Tryz.underlying145,rfl⟩,isz145⟩
instance:TSize Tryz.prog 147 1:=⟨isz147⟩
instance:TOne Tryz.prog 147:=⟨⟨_,Tryz.underlying147,rfl⟩,isz147⟩
instance:TSlice Tryz.prog 147 196:=⟨Tryz.underlying147⟩
instance:TZer Tryz.prog 147 [.slice none 0 0]:=⟨by kernel_rfl⟩
instance:TSize Tryz.prog 149 2:=⟨isz149⟩
instance:TRow Tryz.prog 149 2:=⟨⟨_,Tryz.underlying149,rfl⟩,isz149⟩
instance:TZer Tryz.prog 149 [.bool false,.slice none 0 0]:=⟨by kernel_rfl⟩
instance:TStruct Tryz.prog 149 [(0,1),(1,1)]:=⟨⟨_,Tryz.underlying149,by kernel_rfl⟩⟩
instance:TFld Tryz.prog 149 0 0 0 false:=⟨⟨_,_,_,Tryz.underlying149,rfl,rfl,Tryz.underlying4,rfl,isz4⟩⟩
instance:TFld Tryz.prog 149 1 1 0 false:=⟨⟨_,_,_,Tryz.underlying149,rfl,rfl,Tryz.underlying147,rfl,isz147⟩⟩
instance:TSize Tryz.prog 162 256:=⟨isz162⟩
instance:TRow Tryz.prog 162 256:=⟨⟨_,Tryz.underlying162,rfl⟩,isz162⟩
instance:TSize Tryz.prog 163 1:=⟨isz163⟩
instance:TOne Tryz.prog 163:=⟨⟨_,Tryz.underlying163,rfl⟩,isz163⟩
instance:TSize Tryz.prog 166 1:=⟨isz166⟩
instance:TOne Tryz.prog 166:=⟨⟨_,Tryz.underlying166,rfl⟩,isz166⟩
instance:TZer Tryz.prog 166 [.pointer none]:=⟨by kernel_rfl⟩
instance:TSize Tryz.prog 177 4:=⟨isz177⟩
instance:TRow Tryz.prog 177 4:=⟨⟨_,Tryz.underlying177,rfl⟩,isz177⟩
instance:TZer Tryz.prog 177 [.bool false,.bool false,.bool false,.bool false]:=⟨by kernel_rfl⟩
instance:TStruct Tryz.prog 177 [(0,1),(1,1),(2,1),(3,1)]:=⟨⟨_,Tryz.underlying177,by kernel_rfl⟩⟩
instance:TFld Tryz.prog 177 0 0 0 false:=⟨⟨_,_,_,Tryz.underlying177,rfl,rfl,Tryz.underlying4,rfl,isz4⟩⟩
instance:TFld Tryz.prog 177 1 1 0 false:=⟨⟨_,_,_,Tryz.underlying177,rfl,rfl,Tryz.underlying4,rfl,isz4⟩⟩
instance:TFld Tryz.prog 177 2 2 0 false:=⟨⟨_,_,_,Tryz.underlying177,rfl,rfl,Tryz.underlying4,rfl,isz4⟩⟩
instance:TFld Tryz.prog 177 3 3 0 false:=⟨⟨_,_,_,Tryz.underlying177,rfl,rfl,Tryz.underlying4,rfl,isz4⟩⟩
instance:TSize Tryz.prog 182 1:=⟨isz182⟩
instance:TOne Tryz.prog 182:=⟨⟨_,Tryz.underlying182,rfl⟩,isz182⟩
instance:TSlice Tryz.prog 182 47:=⟨Tryz.underlying182⟩
instance:TZer Tryz.prog 182 [.slice none 0 0]:=⟨by kernel_rfl⟩
instance:TSize Tryz.prog 185 1:=⟨isz185⟩
instance:TOne Tryz.prog 185:=⟨⟨_,Tryz.underlying185,rfl⟩,isz185⟩
instance:TIfc Tryz.prog 185:=⟨_,Tryz.underlying185⟩
instance:TZer Tryz.prog 185 [.nilIface]:=⟨by kernel_rfl⟩
instance:TSize Tryz.prog 186 1:=⟨isz186⟩
instance:TOne Tryz.prog 186:=⟨⟨_,Tryz.underlying186,rfl⟩,isz186⟩
instance:TSize Tryz.prog 189 1:=⟨isz189⟩
instance:TOne Tryz.prog 189:=⟨⟨_,Tryz.underlying189,rfl⟩,isz189⟩
instance:TSize Tryz.prog 194 1:=⟨isz194⟩
instance:TOne Tryz.prog 194:=⟨⟨_,Tryz.underlying194,rfl⟩,isz194⟩
instance:TInt Tryz.prog 194 .u64:=⟨Tryz.underlying194⟩
instance:TZer Tryz.prog 194 [.int .u64 0]:=⟨by kernel_rfl⟩
instance:TSize Tryz.prog 196 1:=⟨isz196⟩
instance:TOne Tryz.prog 196:=⟨⟨_,Tryz.underlying196,rfl⟩,isz196⟩
instance:TInt Tryz.prog 196 .u32:=⟨Tryz.underlying196⟩
instance:TZer Tryz.prog 196 [.int .u32 0]:=⟨by kernel_rfl⟩
instance:TSize Tryz.prog 197 1:=⟨isz197⟩
instance:TOne Tryz.prog 197:=⟨⟨_,Tryz.underlying197,rfl⟩,isz197⟩
instance:TInt Tryz.prog 197 .u64:=⟨Tryz.underlying197⟩
instance:TZer Tryz.prog 197 [.int .u64 0]:=⟨by kernel_rfl⟩
instance:TSize Tryz.prog 208 1:=⟨isz208⟩
instance:TOne Tryz.prog 208:=⟨⟨_,Tryz.underlying208,rfl⟩,isz208⟩
instance:TSlice Tryz.prog 208 5:=⟨Tryz.underlying208⟩
instance:TZer Tryz.prog 208 [.slice none 0 0]:=⟨by kernel_rfl⟩
instance:TSize Tryz.prog 214 1:=⟨isz214⟩
instance:TOne Tryz.prog 214:=⟨⟨_,Tryz.underlying214,rfl⟩,isz214⟩
instance:TSize Tryz.prog 217 24:=⟨isz217⟩
instance:TRow Tryz.prog 217 24:=⟨⟨_,Tryz.underlying217,rfl⟩,isz217⟩
instance:TSize Tryz.prog 220 1:=⟨isz220⟩
instance:TOne Tryz.prog 220:=⟨⟨_,Tryz.underlying220,rfl⟩,isz220⟩
instance:TSize Tryz.prog 249 1:=⟨isz249⟩
instance:TOne Tryz.prog 249:=⟨⟨_,Tryz.underlying249,rfl⟩,isz249⟩
instance:TZer Tryz.prog 249 [.pointer none]:=⟨by kernel_rfl⟩
instance:TSize Tryz.prog 253 20:=⟨isz253⟩
instance:TRow Tryz.prog 253 20:=⟨⟨_,Tryz.underlying253,rfl⟩,isz253⟩
instance:TSize Tryz.prog 254 65:=⟨isz254⟩
instance:TRow Tryz.prog 254 65:=⟨⟨_,Tryz.underlying254,rfl⟩,isz254⟩
instance:TSize Tryz.prog 257 1:=⟨isz257⟩
instance:TOne Tryz.prog 257:=⟨⟨_,Tryz.underlying257,rfl⟩,isz257⟩
instance:TInt Tryz.prog 257 .i64:=⟨Tryz.underlying257⟩
instance:TZer Tryz.prog 257 [.int .i64 0]:=⟨by kernel_rfl⟩
instance:TSize Tryz.prog 258 1:=⟨isz258⟩
instance:TOne Tryz.prog 258:=⟨⟨_,Tryz.underlying258,rfl⟩,isz258⟩
instance:TSize Tryz.prog 260 1:=⟨isz260⟩
instance:TOne Tryz.prog 260:=⟨⟨_,Tryz.underlying260,rfl⟩,isz260⟩
instance:TZer Tryz.prog 260 [.pointer none]:=⟨by kernel_rfl⟩
instance:TSize Tryz.prog 272 256:=⟨isz272⟩
instance:TRow Tryz.prog 272 256:=⟨⟨_,Tryz.underlying272,rfl⟩,isz272⟩
instance:TSize Tryz.prog 274 2:=⟨isz274⟩
instance:TRow Tryz.prog 274 2:=⟨⟨_,Tryz.underlying274,rfl⟩,isz274⟩
instance:TZer Tryz.prog 274 [.int .u8 0,.int .u8 0]:=⟨by kernel_rfl⟩
instance:TStruct Tryz.prog 274 [(0,1),(1,1)]:=⟨⟨_,Tryz.underlying274,by kernel_rfl⟩⟩
instance:TFld Tryz.prog 274 0 0 0 false:=⟨⟨_,_,_,Tryz.underlying274,rfl,rfl,Tryz.underlying5,rfl,isz5⟩⟩
instance:TFld Tryz.prog 274 1 1 0 false:=⟨⟨_,_,_,Tryz.underlying274,rfl,rfl,Tryz.underlying5,rfl,isz5⟩⟩
instance:TSize Tryz.prog 275 32:=⟨isz275⟩
instance:TRow Tryz.prog 275 32:=⟨⟨_,Tryz.underlying275,rfl⟩,isz275⟩
instance:TSize Tryz.prog 277 1:=⟨isz277⟩
instance:TOne Tryz.prog 277:=⟨⟨_,Tryz.underlying277,rfl⟩,isz277⟩
instance:TSize Tryz.prog 280 1:=⟨isz280⟩
instance:TOne Tryz.prog 280:=⟨⟨_,Tryz.underlying280,rfl⟩,isz280⟩
instance:TSize Tryz.prog 283 3:=⟨isz283⟩
instance:TRow Tryz.prog 283 3:=⟨⟨_,Tryz.underlying283,rfl⟩,isz283⟩
instance:TZer Tryz.prog 283 [.string ⟨#[]⟩,.string ⟨#[]⟩,.nilIface]:=⟨by kernel_rfl⟩
instance:TStruct Tryz.prog 283 [(0,1),(1,1),(2,1)]:=⟨⟨_,Tryz.underlying283,by kernel_rfl⟩⟩
instance:TFld Tryz.prog 283 0 0 0 false:=⟨⟨_,_,_,Tryz.underlying283,rfl,rfl,Tryz.underlying9,rfl,isz9⟩⟩
instance:TFld Tryz.prog 283 1 1 0 false:=⟨⟨_,_,_,Tryz.underlying283,rfl,rfl,Tryz.underlying9,rfl,isz9⟩⟩
instance:TFld Tryz.prog 283 2 2 0 false:=⟨⟨_,_,_,Tryz.underlying283,rfl,rfl,Tryz.underlying185,rfl,isz185⟩⟩
instance:TSize Tryz.prog 299 32:=⟨isz299⟩
instance:TRow Tryz.prog 299 32:=⟨⟨_,Tryz.underlying299,rfl⟩,isz299⟩
instance:TSize Tryz.prog 300 64:=⟨isz300⟩
instance:TRow Tryz.prog 300 64:=⟨⟨_,Tryz.underlying300,rfl⟩,isz300⟩
instance:TSize Tryz.prog 302 1:=⟨isz302⟩
instance:TOne Tryz.prog 302:=⟨⟨_,Tryz.underlying302,rfl⟩,isz302⟩
instance:TZer Tryz.prog 302 [.pointer none]:=⟨by kernel_rfl⟩
instance:TSize Tryz.prog 304 1:=⟨isz304⟩
instance:TRow Tryz.prog 304 1:=⟨⟨_,Tryz.underlying304,rfl⟩,isz304⟩
instance:TZer Tryz.prog 304 [.string ⟨#[]⟩]:=⟨by kernel_rfl⟩
instance:TStruct Tryz.prog 304 [(0,1)]:=⟨⟨_,Tryz.underlying304,by kernel_rfl⟩⟩
instance:TFld Tryz.prog 304 0 0 0 false:=⟨⟨_,_,_,Tryz.underlying304,rfl,rfl,Tryz.underlying9,rfl,isz9⟩⟩
instance:Enters Tryz.prog 6:=⟨⟨_,Tryz.func6,by kernel_rfl,by kernel_rfl⟩⟩
instance:Enters Tryz.prog 10:=⟨⟨_,Tryz.func10,by kernel_rfl,by kernel_rfl⟩⟩
instance:Enters Tryz.prog 12:=⟨⟨_,Tryz.func12,by kernel_rfl,by kernel_rfl⟩⟩
instance:Enters Tryz.prog 17:=⟨⟨_,Tryz.func17,by kernel_rfl,by kernel_rfl⟩⟩
instance:Enters Tryz.prog 18:=⟨⟨_,Tryz.func18,by kernel_rfl,by kernel_rfl⟩⟩
instance:Enters Tryz.prog 20:=⟨⟨_,Tryz.func20,by kernel_rfl,by kernel_rfl⟩⟩
instance:Enters Tryz.prog 22:=⟨⟨_,Tryz.func22,by kernel_rfl,by kernel_rfl⟩⟩
instance:Enters Tryz.prog 26:=⟨⟨_,Tryz.func26,by kernel_rfl,by kernel_rfl⟩⟩
instance:Enters Tryz.prog 27:=⟨⟨_,Tryz.func27,by kernel_rfl,by kernel_rfl⟩⟩
instance:Enters Tryz.prog 28:=⟨⟨_,Tryz.func28,by kernel_rfl,by kernel_rfl⟩⟩
instance:Enters Tryz.prog 29:=⟨⟨_,Tryz.func29,by kernel_rfl,by kernel_rfl⟩⟩
instance:Enters Tryz.prog 30:=⟨⟨_,Tryz.func30,by kernel_rfl,by kernel_rfl⟩⟩
instance:Enters Tryz.prog 33:=⟨⟨_,Tryz.func33,by kernel_rfl,by kernel_rfl⟩⟩
instance:Enters Tryz.prog 34:=⟨⟨_,Tryz.func34,by kernel_rfl,by kernel_rfl⟩⟩
instance:Enters Tryz.prog 35:=⟨⟨_,Tryz.func35,by kernel_rfl,by kernel_rfl⟩⟩
instance:Enters Tryz.prog 36:=⟨⟨_,Tryz.func36,by kernel_rfl,by kernel_rfl⟩⟩
instance:Enters Tryz.prog 37:=⟨⟨_,Tryz.func37,by kernel_rfl,by kernel_rfl⟩⟩
instance:Enters Tryz.prog 38:=⟨⟨_,Tryz.func38,by kernel_rfl,by kernel_rfl⟩⟩
instance:Enters Tryz.prog 40:=⟨⟨_,Tryz.func40,by kernel_rfl,by kernel_rfl⟩⟩
instance:Enters Tryz.prog 41:=⟨⟨_,Tryz.func41,by kernel_rfl,by kernel_rfl⟩⟩
instance:Enters Tryz.prog 42:=⟨⟨_,Tryz.func42,by kernel_rfl,by kernel_rfl⟩⟩
instance:Enters Tryz.prog 43:=⟨⟨_,Tryz.func43,by kernel_rfl,by kernel_rfl⟩⟩
instance:Enters Tryz.prog 44:=⟨⟨_,Tryz.func44,by kernel_rfl,by kernel_rfl⟩⟩
instance:Enters Tryz.prog 50:=⟨⟨_,Tryz.func50,by kernel_rfl,by kernel_rfl⟩⟩
instance:Enters Tryz.prog 51:=⟨⟨_,Tryz.func51,by kernel_rfl,by kernel_rfl⟩⟩
instance:Enters Tryz.prog 52:=⟨⟨_,Tryz.func52,by kernel_rfl,by kernel_rfl⟩⟩
instance:Enters Tryz.prog 53:=⟨⟨_,Tryz.func53,by kernel_rfl,by kernel_rfl⟩⟩
instance:Enters Tryz.prog 54:=⟨⟨_,Tryz.func54,by kernel_rfl,by kernel_rfl⟩⟩
instance:Enters Tryz.prog 55:=⟨⟨_,Tryz.func55,by kernel_rfl,by kernel_rfl⟩⟩
instance:Enters Tryz.prog 56:=⟨⟨_,Tryz.func56,by kernel_rfl,by kernel_rfl⟩⟩
instance:Enters Tryz.prog 57:=⟨⟨_,Tryz.func57,by kernel_rfl,by kernel_rfl⟩⟩
instance:Enters Tryz.prog 58:=⟨⟨_,Tryz.func58,by kernel_rfl,by kernel_rfl⟩⟩
instance:Enters Tryz.prog 59:=⟨⟨_,Tryz.func59,by kernel_rfl,by kernel_rfl⟩⟩
instance:Enters Tryz.prog 60:=⟨⟨_,Tryz.func60,by kernel_rfl,by kernel_rfl⟩⟩
instance:Enters Tryz.prog 61:=⟨⟨_,Tryz.func61,by kernel_rfl,by kernel_rfl⟩⟩
instance:Enters Tryz.prog 62:=⟨⟨_,Tryz.func62,by kernel_rfl,by kernel_rfl⟩⟩
instance:Enters Tryz.prog 63:=⟨⟨_,Tryz.func63,by kernel_rfl,by kernel_rfl⟩⟩
instance:Enters Tryz.prog 64:=⟨⟨_,Tryz.func64,by kernel_rfl,by kernel_rfl⟩⟩
instance:Enters Tryz.prog 65:=⟨⟨_,Tryz.func65,by kernel_rfl,by kernel_rfl⟩⟩
instance:Enters Tryz.prog 66:=⟨⟨_,Tryz.func66,by kernel_rfl,by kernel_rfl⟩⟩
instance:Enters Tryz.prog 68:=⟨⟨_,Tryz.func68,by kernel_rfl,by kernel_rfl⟩⟩
instance:Enters Tryz.prog 70:=⟨⟨_,Tryz.func70,by kernel_rfl,by kernel_rfl⟩⟩
instance:Enters Tryz.prog 72:=⟨⟨_,Tryz.func72,by kernel_rfl,by kernel_rfl⟩⟩
instance:Enters Tryz.prog 75:=⟨⟨_,Tryz.func75,by kernel_rfl,by kernel_rfl⟩⟩
instance:Enters Tryz.prog 76:=⟨⟨_,Tryz.func76,by kernel_rfl,by kernel_rfl⟩⟩
instance:Enters Tryz.prog 77:=⟨⟨_,Tryz.func77,by kernel_rfl,by kernel_rfl⟩⟩
instance:Enters Tryz.prog 78:=⟨⟨_,Tryz.func78,by kernel_rfl,by kernel_rfl⟩⟩
instance:Enters Tryz.prog 79:=⟨⟨_,Tryz.func79,by kernel_rfl,by kernel_rfl⟩⟩
instance:Enters Tryz.prog 80:=⟨⟨_,Tryz.func80,by kernel_rfl,by kernel_rfl⟩⟩
instance:Enters Tryz.prog 83:=⟨⟨_,Tryz.func83,by kernel_rfl,by kernel_rfl⟩⟩
instance:Enters Tryz.prog 84:=⟨⟨_,Tryz.func84,by kernel_rfl,by kernel_rfl⟩⟩
instance:Enters Tryz.prog 85:=⟨⟨_,Tryz.func85,by kernel_rfl,by kernel_rfl⟩⟩
instance:Enters Tryz.prog 86:=⟨⟨_,Tryz.func86,by kernel_rfl,by kernel_rfl⟩⟩
instance:Enters Tryz.prog 95:=⟨⟨_,Tryz.func95,by kernel_rfl,by kernel_rfl⟩⟩
instance:Enters Tryz.prog 96:=⟨⟨_,Tryz.func96,by kernel_rfl,by kernel_rfl⟩⟩
instance:Enters Tryz.prog 97:=⟨⟨_,Tryz.func97,by kernel_rfl,by kernel_rfl⟩⟩
instance:Enters Tryz.prog 98:=⟨⟨_,Tryz.func98,by kernel_rfl,by kernel_rfl⟩⟩
instance:Enters Tryz.prog 99:=⟨⟨_,Tryz.func99,by kernel_rfl,by kernel_rfl⟩⟩
instance:Enters Tryz.prog 100:=⟨⟨_,Tryz.func100,by kernel_rfl,by kernel_rfl⟩⟩
instance:Enters Tryz.prog 101:=⟨⟨_,Tryz.func101,by kernel_rfl,by kernel_rfl⟩⟩
instance:Enters Tryz.prog 102:=⟨⟨_,Tryz.func102,by kernel_rfl,by kernel_rfl⟩⟩
instance:Enters Tryz.prog 103:=⟨⟨_,Tryz.func103,by kernel_rfl,by kernel_rfl⟩⟩
instance:Enters Tryz.prog 104:=⟨⟨_,Tryz.func104,by kernel_rfl,by kernel_rfl⟩⟩
instance:Enters Tryz.prog 105:=⟨⟨_,Tryz.func105,by kernel_rfl,by kernel_rfl⟩⟩
instance:Enters Tryz.prog 106:=⟨⟨_,Tryz.func106,by kernel_rfl,by kernel_rfl⟩⟩
instance:Enters Tryz.prog 107:=⟨⟨_,Tryz.func107,by kernel_rfl,by kernel_rfl⟩⟩
instance:Enters Tryz.prog 108:=⟨⟨_,Tryz.func108,by kernel_rfl,by kernel_rfl⟩⟩
instance:Enters Tryz.prog 109:=⟨⟨_,Tryz.func109,by kernel_rfl,by kernel_rfl⟩⟩
instance:Enters Tryz.prog 110:=⟨⟨_,Tryz.func110,by kernel_rfl,by kernel_rfl⟩⟩
instance:Enters Tryz.prog 112:=⟨⟨_,Tryz.func112,by kernel_rfl,by kernel_rfl⟩⟩
instance:Enters Tryz.prog 113:=⟨⟨_,Tryz.func113,by kernel_rfl,by kernel_rfl⟩⟩
instance:Enters Tryz.prog 121:=⟨⟨_,Tryz.func121,by kernel_rfl,by kernel_rfl⟩⟩
instance:Enters Tryz.prog 122:=⟨⟨_,Tryz.func122,by kernel_rfl,by kernel_rfl⟩⟩
instance:Enters Tryz.prog 123:=⟨⟨_,Tryz.func123,by kernel_rfl,by kernel_rfl⟩⟩
instance:Enters Tryz.prog 124:=⟨⟨_,Tryz.func124,by kernel_rfl,by kernel_rfl⟩⟩
instance:Enters Tryz.prog 125:=⟨⟨_,Tryz.func125,by kernel_rfl,by kernel_rfl⟩⟩
instance:Enters Tryz.prog 126:=⟨⟨_,Tryz.func126,by kernel_rfl,by kernel_rfl⟩⟩
instance:Enters Tryz.prog 127:=⟨⟨_,Tryz.func127,by kernel_rfl,by kernel_rfl⟩⟩
instance:Enters Tryz.prog 128:=⟨⟨_,Tryz.func128,by kernel_rfl,by kernel_rfl⟩⟩
instance:Enters Tryz.prog 131:=⟨⟨_,Tryz.func131,by kernel_rfl,by kernel_rfl⟩⟩
instance:Enters Tryz.prog 132:=⟨⟨_,Tryz.func132,by kernel_rfl,by kernel_rfl⟩⟩
instance:Enters Tryz.prog 133:=⟨⟨_,Tryz.func133,by kernel_rfl,by kernel_rfl⟩⟩
instance:Enters Tryz.prog 134:=⟨⟨_,Tryz.func134,by kernel_rfl,by kernel_rfl⟩⟩
instance:Enters Tryz.prog 135:=⟨⟨_,Tryz.func135,by kernel_rfl,by kernel_rfl⟩⟩
instance:Enters Tryz.prog 136:=⟨⟨_,Tryz.func136,by kernel_rfl,by kernel_rfl⟩⟩
instance:Enters Tryz.prog 137:=⟨⟨_,Tryz.func137,by kernel_rfl,by kernel_rfl⟩⟩
instance:Enters Tryz.prog 140:=⟨⟨_,Tryz.func140,by kernel_rfl,by kernel_rfl⟩⟩
instance:Enters Tryz.prog 143:=⟨⟨_,Tryz.func143,by kernel_rfl,by kernel_rfl⟩⟩
instance:Enters Tryz.prog 144:=⟨⟨_,Tryz.func144,by kernel_rfl,by kernel_rfl⟩⟩
instance:Enters Tryz.prog 145:=⟨⟨_,Tryz.func145,by kernel_rfl,by kernel_rfl⟩⟩
instance:Enters Tryz.prog 146:=⟨⟨_,Tryz.func146,by kernel_rfl,by kernel_rfl⟩⟩
instance:Enters Tryz.prog 147:=⟨⟨_,Tryz.func147,by kernel_rfl,by kernel_rfl⟩⟩
instance:Enters Tryz.prog 148:=⟨⟨_,Tryz.func148,by kernel_rfl,by kernel_rfl⟩⟩
instance:Enters Tryz.prog 149:=⟨⟨_,Tryz.func149,by kernel_rfl,by kernel_rfl⟩⟩
instance:Enters Tryz.prog 150:=⟨⟨_,Tryz.func150,by kernel_rfl,by kernel_rfl⟩⟩
instance:Enters Tryz.prog 151:=⟨⟨_,Tryz.func151,by kernel_rfl,by kernel_rfl⟩⟩
instance:Enters Tryz.prog 152:=⟨⟨_,Tryz.func152,by kernel_rfl,by kernel_rfl⟩⟩
instance:Enters Tryz.prog 153:=⟨⟨_,Tryz.func153,by kernel_rfl,by kernel_rfl⟩⟩
instance:Enters Tryz.prog 154:=⟨⟨_,Tryz.func154,by kernel_rfl,by kernel_rfl⟩⟩
instance:Enters Tryz.prog 155:=⟨⟨_,Tryz.func155,by kernel_rfl,by kernel_rfl⟩⟩
instance:Enters Tryz.prog 156:=⟨⟨_,Tryz.func156,by kernel_rfl,by kernel_rfl⟩⟩
instance:Enters Tryz.prog 157:=⟨⟨_,Tryz.func157,by kernel_rfl,by kernel_rfl⟩⟩
instance:Enters Tryz.prog 158:=⟨⟨_,Tryz.func158,by kernel_rfl,by kernel_rfl⟩⟩
instance:Enters Tryz.prog 159:=⟨⟨_,Tryz.func159,by kernel_rfl,by kernel_rfl⟩⟩
instance:Enters Tryz.prog 160:=⟨⟨_,Tryz.func160,by kernel_rfl,by kernel_rfl⟩⟩
instance:Enters Tryz.prog 161:=⟨⟨_,Tryz.func161,by kernel_rfl,by kernel_rfl⟩⟩
instance:Enters Tryz.prog 162:=⟨⟨_,Tryz.func162,by kernel_rfl,by kernel_rfl⟩⟩
instance:Enters Tryz.prog 163:=⟨⟨_,Tryz.func163,by kernel_rfl,by kernel_rfl⟩⟩
instance:Enters Tryz.prog 164:=⟨⟨_,Tryz.func164,by kernel_rfl,by kernel_rfl⟩⟩
instance:Enters Tryz.prog 165:=⟨⟨_,Tryz.func165,by kernel_rfl,by kernel_rfl⟩⟩
instance:Enters Tryz.prog 167:=⟨⟨_,Tryz.func167,by kernel_rfl,by kernel_rfl⟩⟩
instance:Enters Tryz.prog 168:=⟨⟨_,Tryz.func168,by kernel_rfl,by kernel_rfl⟩⟩
instance:Enters Tryz.prog 169:=⟨⟨_,Tryz.func169,by kernel_rfl,by kernel_rfl⟩⟩
instance:Enters Tryz.prog 180:=⟨⟨_,Tryz.func180,by kernel_rfl,by kernel_rfl⟩⟩
instance:Enters Tryz.prog 181:=⟨⟨_,Tryz.func181,by kernel_rfl,by kernel_rfl⟩⟩
instance:Enters Tryz.prog 182:=⟨⟨_,Tryz.func182,by kernel_rfl,by kernel_rfl⟩⟩
instance:Enters Tryz.prog 183:=⟨⟨_,Tryz.func183,by kernel_rfl,by kernel_rfl⟩⟩
instance:Enters Tryz.prog 184:=⟨⟨_,Tryz.func184,by kernel_rfl,by kernel_rfl⟩⟩
instance:Enters Tryz.prog 185:=⟨⟨_,Tryz.func185,by kernel_rfl,by kernel_rfl⟩⟩
instance:Enters Tryz.prog 186:=⟨⟨_,Tryz.func186,by kernel_rfl,by kernel_rfl⟩⟩
instance:Enters Tryz.prog 187:=⟨⟨_,Tryz.func187,by kernel_rfl,by kernel_rfl⟩⟩
instance:Enters Tryz.prog 188:=⟨⟨_,Tryz.func188,by kernel_rfl,by kernel_rfl⟩⟩
instance:Enters Tryz.prog 189:=⟨⟨_,Tryz.func189,by kernel_rfl,by kernel_rfl⟩⟩
instance:Enters Tryz.prog 190:=⟨⟨_,Tryz.func190,by kernel_rfl,by kernel_rfl⟩⟩
instance:Enters Tryz.prog 191:=⟨⟨_,Tryz.func191,by kernel_rfl,by kernel_rfl⟩⟩
instance:Enters Tryz.prog 192:=⟨⟨_,Tryz.func192,by kernel_rfl,by kernel_rfl⟩⟩
instance:Enters Tryz.prog 193:=⟨⟨_,Tryz.func193,by kernel_rfl,by kernel_rfl⟩⟩
instance:Enters Tryz.prog 194:=⟨⟨_,Tryz.func194,by kernel_rfl,by kernel_rfl⟩⟩
instance:Enters Tryz.prog 195:=⟨⟨_,Tryz.func195,by kernel_rfl,by kernel_rfl⟩⟩
instance:Enters Tryz.prog 196:=⟨⟨_,Tryz.func196,by kernel_rfl,by kernel_rfl⟩⟩
instance:Enters Tryz.prog 197:=⟨⟨_,Tryz.func197,by kernel_rfl,by kernel_rfl⟩⟩
instance:Enters Tryz.prog 198:=⟨⟨_,Tryz.func198,by kernel_rfl,by kernel_rfl⟩⟩
instance:Enters Tryz.prog 199:=⟨⟨_,Tryz.func199,by kernel_rfl,by kernel_rfl⟩⟩
instance:Enters Tryz.prog 200:=⟨⟨_,Tryz.func200,by kernel_rfl,by kernel_rfl⟩⟩
instance:Enters Tryz.prog 201:=⟨⟨_,Tryz.func201,by kernel_rfl,by kernel_rfl⟩⟩
instance:Enters Tryz.prog 202:=⟨⟨_,Tryz.func202,by kernel_rfl,by kernel_rfl⟩⟩
instance:Enters Tryz.prog 203:=⟨⟨_,Tryz.func203,by kernel_rfl,by kernel_rfl⟩⟩
instance:Enters Tryz.prog 204:=⟨⟨_,Tryz.func204,by kernel_rfl,by kernel_rfl⟩⟩
instance:Enters Tryz.prog 205:=⟨⟨_,Tryz.func205,by kernel_rfl,by kernel_rfl⟩⟩
instance:Enters Tryz.prog 206:=⟨⟨_,Tryz.func206,by kernel_rfl,by kernel_rfl⟩⟩
instance:Enters Tryz.prog 219:=⟨⟨_,Tryz.func219,by kernel_rfl,by kernel_rfl⟩⟩
instance:Enters Tryz.prog 220:=⟨⟨_,Tryz.func220,by kernel_rfl,by kernel_rfl⟩⟩
instance:Enters Tryz.prog 221:=⟨⟨_,Tryz.func221,by kernel_rfl,by kernel_rfl⟩⟩
instance:Enters Tryz.prog 224:=⟨⟨_,Tryz.func224,by kernel_rfl,by kernel_rfl⟩⟩
instance:Enters Tryz.prog 225:=⟨⟨_,Tryz.func225,by kernel_rfl,by kernel_rfl⟩⟩
instance:Enters Tryz.prog 226:=⟨⟨_,Tryz.func226,by kernel_rfl,by kernel_rfl⟩⟩
instance:Enters Tryz.prog 227:=⟨⟨_,Tryz.func227,by kernel_rfl,by kernel_rfl⟩⟩
instance:Enters Tryz.prog 228:=⟨⟨_,Tryz.func228,by kernel_rfl,by kernel_rfl⟩⟩
instance:Enters Tryz.prog 229:=⟨⟨_,Tryz.func229,by kernel_rfl,by kernel_rfl⟩⟩
instance:Enters Tryz.prog 230:=⟨⟨_,Tryz.func230,by kernel_rfl,by kernel_rfl⟩⟩
instance:Enters Tryz.prog 231:=⟨⟨_,Tryz.func231,by kernel_rfl,by kernel_rfl⟩⟩
instance:Enters Tryz.prog 232:=⟨⟨_,Tryz.func232,by kernel_rfl,by kernel_rfl⟩⟩
instance:Enters Tryz.prog 234:=⟨⟨_,Tryz.func234,by kernel_rfl,by kernel_rfl⟩⟩
instance:Enters Tryz.prog 235:=⟨⟨_,Tryz.func235,by kernel_rfl,by kernel_rfl⟩⟩
instance:Enters Tryz.prog 236:=⟨⟨_,Tryz.func236,by kernel_rfl,by kernel_rfl⟩⟩
instance:Enters Tryz.prog 237:=⟨⟨_,Tryz.func237,by kernel_rfl,by kernel_rfl⟩⟩
instance:Enters Tryz.prog 238:=⟨⟨_,Tryz.func238,by kernel_rfl,by kernel_rfl⟩⟩
instance:Enters Tryz.prog 239:=⟨⟨_,Tryz.func239,by kernel_rfl,by kernel_rfl⟩⟩
instance:Enters Tryz.prog 240:=⟨⟨_,Tryz.func240,by kernel_rfl,by kernel_rfl⟩⟩
instance:Enters Tryz.prog 241:=⟨⟨_,Tryz.func241,by kernel_rfl,by kernel_rfl⟩⟩
instance:Enters Tryz.prog 242:=⟨⟨_,Tryz.func242,by kernel_rfl,by kernel_rfl⟩⟩
instance:Enters Tryz.prog 243:=⟨⟨_,Tryz.func243,by kernel_rfl,by kernel_rfl⟩⟩
instance:Enters Tryz.prog 252:=⟨⟨_,Tryz.func252,by kernel_rfl,by kernel_rfl⟩⟩
instance:Enters Tryz.prog 253:=⟨⟨_,Tryz.func253,by kernel_rfl,by kernel_rfl⟩⟩
instance:Enters Tryz.prog 254:=⟨⟨_,Tryz.func254,by kernel_rfl,by kernel_rfl⟩⟩
instance:Enters Tryz.prog 255:=⟨⟨_,Tryz.func255,by kernel_rfl,by kernel_rfl⟩⟩
instance:Enters Tryz.prog 256:=⟨⟨_,Tryz.func256,by kernel_rfl,by kernel_rfl⟩⟩
instance:Enters Tryz.prog 257:=⟨⟨_,Tryz.func257,by kernel_rfl,by kernel_rfl⟩⟩
instance:Enters Tryz.prog 258:=⟨⟨_,Tryz.func258,by kernel_rfl,by kernel_rfl⟩⟩
instance:Enters Tryz.prog 265:=⟨⟨_,Tryz.func265,by kernel_rfl,by kernel_rfl⟩⟩
instance:Enters Tryz.prog 266:=⟨⟨_,Tryz.func266,by kernel_rfl,by kernel_rfl⟩⟩
end Go.Proofs.YtfolfppcadjccaaGreatDoor
