/- What the types and functions of this translation are, one instance each. (Written by wip/inst.py.). -/
import Derived.Test.YtdhlopciapncfaaGreatDoorZ1
import Derived.Test.YtdhlopciapncfaaGreatDoorProg
namespace Go.Proofs.YtdhlopciapncfaaGreatDoor
set_option linter.unusedVariables false
theorem isz0:(Tryz.prog.info? 0).map (·.size)=some 1:=by kernel_rfl
theorem isz1:(Tryz.prog.info? 1).map (·.size)=some 1:=by kernel_rfl
theorem isz2:(Tryz.prog.info? 2).map (·.size)=some 1:=by kernel_rfl
theorem isz3:(Tryz.prog.info? 3).map (·.size)=some 1:=by kernel_rfl
theorem isz4:(Tryz.prog.info? 4).map (·.size)=some 1:=by kernel_rfl
theorem isz5:(Tryz.prog.info? 5).map (·.size)=some 1:=by kernel_rfl
theorem isz6:(Tryz.prog.info? 6).map (·.size)=some 1:=by kernel_rfl
theorem isz7:(Tryz.prog.info? 7).map (·.size)=some 4:=by kernel_rfl
theorem isz8:(Tryz.prog.info? 8).map (·.size)=some 4:=by kernel_rfl
theorem isz9:(Tryz.prog.info? 9).map (·.size)=some 1:=by kernel_rfl
theorem isz10:(Tryz.prog.info? 10).map (·.size)=some 1:=by kernel_rfl
theorem isz11:(Tryz.prog.info? 11).map (·.size)=some 1:=by kernel_rfl
theorem isz20:(Tryz.prog.info? 20).map (·.size)=some 1:=by kernel_rfl
theorem isz21:(Tryz.prog.info? 21).map (·.size)=some 1:=by kernel_rfl
theorem isz22:(Tryz.prog.info? 22).map (·.size)=some 1:=by kernel_rfl
theorem isz23:(Tryz.prog.info? 23).map (·.size)=some 1:=by kernel_rfl
theorem isz25:(Tryz.prog.info? 25).map (·.size)=some 6:=by kernel_rfl
theorem isz26:(Tryz.prog.info? 26).map (·.size)=some 1:=by kernel_rfl
theorem isz27:(Tryz.prog.info? 27).map (·.size)=some 1:=by kernel_rfl
theorem isz28:(Tryz.prog.info? 28).map (·.size)=some 1:=by kernel_rfl
theorem isz31:(Tryz.prog.info? 31).map (·.size)=some 1:=by kernel_rfl
theorem isz32:(Tryz.prog.info? 32).map (·.size)=some 1:=by kernel_rfl
theorem isz33:(Tryz.prog.info? 33).map (·.size)=some 1:=by kernel_rfl
theorem isz34:(Tryz.prog.info? 34).map (·.size)=some 1:=by kernel_rfl
theorem isz40:(Tryz.prog.info? 40).map (·.size)=some 1:=by kernel_rfl
theorem isz41:(Tryz.prog.info? 41).map (·.size)=some 1:=by kernel_rfl
theorem isz44:(Tryz.prog.info? 44).map (·.size)=some 1:=by kernel_rfl
theorem isz45:(Tryz.prog.info? 45).map (·.size)=some 1:=by kernel_rfl
theorem isz46:(Tryz.prog.info? 46).map (·.size)=some 1:=by kernel_rfl
theorem isz47:(Tryz.prog.info? 47).map (·.size)=some 1:=by kernel_rfl
theorem isz48:(Tryz.prog.info? 48).map (·.size)=some 1:=by kernel_rfl
theorem isz49:(Tryz.prog.info? 49).map (·.size)=some 1:=by kernel_rfl
theorem isz50:(Tryz.prog.info? 50).map (·.size)=some 1:=by kernel_rfl
theorem isz51:(Tryz.prog.info? 51).map (·.size)=some 1:=by kernel_rfl
theorem isz52:(Tryz.prog.info? 52).map (·.size)=some 1:=by kernel_rfl
theorem isz53:(Tryz.prog.info? 53).map (·.size)=some 1:=by kernel_rfl
theorem isz54:(Tryz.prog.info? 54).map (·.size)=some 1:=by kernel_rfl
theorem isz55:(Tryz.prog.info? 55).map (·.size)=some 1:=by kernel_rfl
theorem isz56:(Tryz.prog.info? 56).map (·.size)=some 1:=by kernel_rfl
theorem isz57:(Tryz.prog.info? 57).map (·.size)=some 1:=by kernel_rfl
theorem isz58:(Tryz.prog.info? 58).map (·.size)=some 1:=by kernel_rfl
theorem isz59:(Tryz.prog.info? 59).map (·.size)=some 1:=by kernel_rfl
theorem isz62:(Tryz.prog.info? 62).map (·.size)=some 1:=by kernel_rfl
theorem isz64:(Tryz.prog.info? 64).map (·.size)=some 4:=by kernel_rfl
theorem isz65:(Tryz.prog.info? 65).map (·.size)=some 1:=by kernel_rfl
theorem isz66:(Tryz.prog.info? 66).map (·.size)=some 1:=by kernel_rfl
theorem isz67:(Tryz.prog.info? 67).map (·.size)=some 1:=by kernel_rfl
theorem isz68:(Tryz.prog.info? 68).map (·.size)=some 1:=by kernel_rfl
theorem isz69:(Tryz.prog.info? 69).map (·.size)=some 1:=by kernel_rfl
theorem isz70:(Tryz.prog.info? 70).map (·.size)=some 1:=by kernel_rfl
theorem isz71:(Tryz.prog.info? 71).map (·.size)=some 1:=by kernel_rfl
theorem isz72:(Tryz.prog.info? 72).map (·.size)=some 1:=by kernel_rfl
theorem isz73:(Tryz.prog.info? 73).map (·.size)=some 1:=by kernel_rfl
theorem isz74:(Tryz.prog.info? 74).map (·.size)=some 1:=by kernel_rfl
theorem isz75:(Tryz.prog.info? 75).map (·.size)=some 2:=by kernel_rfl
theorem isz76:(Tryz.prog.info? 76).map (·.size)=some 2:=by kernel_rfl
theorem isz77:(Tryz.prog.info? 77).map (·.size)=some 4:=by kernel_rfl
theorem isz78:(Tryz.prog.info? 78).map (·.size)=some 4:=by kernel_rfl
theorem isz79:(Tryz.prog.info? 79).map (·.size)=some 1:=by kernel_rfl
theorem isz80:(Tryz.prog.info? 80).map (·.size)=some 1:=by kernel_rfl
theorem isz81:(Tryz.prog.info? 81).map (·.size)=some 1:=by kernel_rfl
theorem isz82:(Tryz.prog.info? 82).map (·.size)=some 1:=by kernel_rfl
theorem isz83:(Tryz.prog.info? 83).map (·.size)=some 1:=by kernel_rfl
theorem isz84:(Tryz.prog.info? 84).map (·.size)=some 1:=by kernel_rfl
theorem isz85:(Tryz.prog.info? 85).map (·.size)=some 1:=by kernel_rfl
theorem isz86:(Tryz.prog.info? 86).map (·.size)=some 1:=by kernel_rfl
theorem isz87:(Tryz.prog.info? 87).map (·.size)=some 1:=by kernel_rfl
theorem isz88:(Tryz.prog.info? 88).map (·.size)=some 1:=by kernel_rfl
theorem isz89:(Tryz.prog.info? 89).map (·.size)=some 1:=by kernel_rfl
theorem isz90:(Tryz.prog.info? 90).map (·.size)=some 1:=by kernel_rfl
theorem isz91:(Tryz.prog.info? 91).map (·.size)=some 1:=by kernel_rfl
theorem isz93:(Tryz.prog.info? 93).map (·.size)=some 1:=by kernel_rfl
theorem isz95:(Tryz.prog.info? 95).map (·.size)=some 3:=by kernel_rfl
theorem isz96:(Tryz.prog.info? 96).map (·.size)=some 1:=by kernel_rfl
theorem isz97:(Tryz.prog.info? 97).map (·.size)=some 1:=by kernel_rfl
theorem isz98:(Tryz.prog.info? 98).map (·.size)=some 1:=by kernel_rfl
theorem isz99:(Tryz.prog.info? 99).map (·.size)=some 1:=by kernel_rfl
theorem isz100:(Tryz.prog.info? 100).map (·.size)=some 2:=by kernel_rfl
theorem isz101:(Tryz.prog.info? 101).map (·.size)=some 2:=by kernel_rfl
theorem isz102:(Tryz.prog.info? 102).map (·.size)=some 1:=by kernel_rfl
theorem isz103:(Tryz.prog.info? 103).map (·.size)=some 1:=by kernel_rfl
theorem isz104:(Tryz.prog.info? 104).map (·.size)=some 1:=by kernel_rfl
theorem isz105:(Tryz.prog.info? 105).map (·.size)=some 2:=by kernel_rfl
theorem isz106:(Tryz.prog.info? 106).map (·.size)=some 2:=by kernel_rfl
theorem isz107:(Tryz.prog.info? 107).map (·.size)=some 1:=by kernel_rfl
theorem isz108:(Tryz.prog.info? 108).map (·.size)=some 1:=by kernel_rfl
theorem isz109:(Tryz.prog.info? 109).map (·.size)=some 1:=by kernel_rfl
theorem isz110:(Tryz.prog.info? 110).map (·.size)=some 1:=by kernel_rfl
theorem isz111:(Tryz.prog.info? 111).map (·.size)=some 1:=by kernel_rfl
theorem isz112:(Tryz.prog.info? 112).map (·.size)=some 1:=by kernel_rfl
theorem isz113:(Tryz.prog.info? 113).map (·.size)=some 4:=by kernel_rfl
theorem isz114:(Tryz.prog.info? 114).map (·.size)=some 4:=by kernel_rfl
theorem isz115:(Tryz.prog.info? 115).map (·.size)=some 1:=by kernel_rfl
theorem isz116:(Tryz.prog.info? 116).map (·.size)=some 1:=by kernel_rfl
theorem isz117:(Tryz.prog.info? 117).map (·.size)=some 1:=by kernel_rfl
theorem isz118:(Tryz.prog.info? 118).map (·.size)=some 1:=by kernel_rfl
theorem isz119:(Tryz.prog.info? 119).map (·.size)=some 1:=by kernel_rfl
theorem isz120:(Tryz.prog.info? 120).map (·.size)=some 1:=by kernel_rfl
theorem isz121:(Tryz.prog.info? 121).map (·.size)=some 1:=by kernel_rfl
theorem isz122:(Tryz.prog.info? 122).map (·.size)=some 1:=by kernel_rfl
theorem isz124:(Tryz.prog.info? 124).map (·.size)=some 1:=by kernel_rfl
theorem isz129:(Tryz.prog.info? 129).map (·.size)=some 1:=by kernel_rfl
theorem isz130:(Tryz.prog.info? 130).map (·.size)=some 1:=by kernel_rfl
theorem isz135:(Tryz.prog.info? 135).map (·.size)=some 1:=by kernel_rfl
theorem isz137:(Tryz.prog.info? 137).map (·.size)=some 1:=by kernel_rfl
theorem isz142:(Tryz.prog.info? 142).map (·.size)=some 1:=by kernel_rfl
theorem isz144:(Tryz.prog.info? 144).map (·.size)=some 1:=by kernel_rfl
theorem isz145:(Tryz.prog.info? 145).map (·.size)=some 1:=by kernel_rfl
theorem isz150:(Tryz.prog.info? 150).map (·.size)=some 256:=by kernel_rfl
theorem isz151:(Tryz.prog.info? 151).map (·.size)=some 1:=by kernel_rfl
theorem isz154:(Tryz.prog.info? 154).map (·.size)=some 1:=by kernel_rfl
theorem isz171:(Tryz.prog.info? 171).map (·.size)=some 1:=by kernel_rfl
theorem isz179:(Tryz.prog.info? 179).map (·.size)=some 1:=by kernel_rfl
theorem isz189:(Tryz.prog.info? 189).map (·.size)=some 1:=by kernel_rfl
theorem isz190:(Tryz.prog.info? 190).map (·.size)=some 1:=by kernel_rfl
theorem isz192:(Tryz.prog.info? 192).map (·.size)=some 1:=by kernel_rfl
theorem isz201:(Tryz.prog.info? 201).map (·.size)=some 24:=by kernel_rfl
theorem isz204:(Tryz.prog.info? 204).map (·.size)=some 1:=by kernel_rfl
theorem isz214:(Tryz.prog.info? 214).map (·.size)=some 256:=by kernel_rfl
theorem isz221:(Tryz.prog.info? 221).map (·.size)=some 1:=by kernel_rfl
theorem isz224:(Tryz.prog.info? 224).map (·.size)=some 3:=by kernel_rfl
theorem isz227:(Tryz.prog.info? 227).map (·.size)=some 2:=by kernel_rfl
theorem isz228:(Tryz.prog.info? 228).map (·.size)=some 32:=by kernel_rfl
theorem isz229:(Tryz.prog.info? 229).map (·.size)=some 1:=by kernel_rfl
theorem isz233:(Tryz.prog.info? 233).map (·.size)=some 20:=by kernel_rfl
theorem isz234:(Tryz.prog.info? 234).map (·.size)=some 65:=by kernel_rfl
theorem isz251:(Tryz.prog.info? 251).map (·.size)=some 1:=by kernel_rfl
theorem isz253:(Tryz.prog.info? 253).map (·.size)=some 1:=by kernel_rfl
theorem isz264:(Tryz.prog.info? 264).map (·.size)=some 32:=by kernel_rfl
theorem isz265:(Tryz.prog.info? 265).map (·.size)=some 64:=by kernel_rfl
instance:TSize Tryz.prog 0 1:=⟨isz0⟩
instance:TOne Tryz.prog 0:=⟨⟨_,Tryz.underlying0,rfl⟩,isz0⟩
instance:TSize Tryz.prog 1 1:=⟨isz1⟩
instance:TOne Tryz.prog 1:=⟨⟨_,Tryz.underlying1,rfl⟩,isz1⟩
instance:TZer Tryz.prog 1 [.nilFunc]:=⟨by kernel_rfl⟩
instance:TSize Tryz.prog 2 1:=⟨isz2⟩
instance:TOne Tryz.prog 2:=⟨⟨_,Tryz.underlying2,rfl⟩,isz2⟩
instance:TInt Tryz.prog 2 .i64:=⟨Tryz.underlying2⟩
instance:TZer Tryz.prog 2 [.int .i64 0]:=⟨by kernel_rfl⟩
instance:TSize Tryz.prog 3 1:=⟨isz3⟩
instance:TOne Tryz.prog 3:=⟨⟨_,Tryz.underlying3,rfl⟩,isz3⟩
instance:TInt Tryz.prog 3 .i64:=⟨Tryz.underlying3⟩
instance:TZer Tryz.prog 3 [.int .i64 0]:=⟨by kernel_rfl⟩
instance:TSize Tryz.prog 4 1:=⟨isz4⟩
instance:TOne Tryz.prog 4:=⟨⟨_,Tryz.underlying4,rfl⟩,isz4⟩
instance:TBool Tryz.prog 4:=⟨Tryz.underlying4⟩
instance:TZer Tryz.prog 4 [.bool false]:=⟨by kernel_rfl⟩
instance:TSize Tryz.prog 5 1:=⟨isz5⟩
instance:TOne Tryz.prog 5:=⟨⟨_,Tryz.underlying5,rfl⟩,isz5⟩
instance:TInt Tryz.prog 5 .u8:=⟨Tryz.underlying5⟩
instance:TZer Tryz.prog 5 [.int .u8 0]:=⟨by kernel_rfl⟩
instance:TSize Tryz.prog 6 1:=⟨isz6⟩
instance:TOne Tryz.prog 6:=⟨⟨_,Tryz.underlying6,rfl⟩,isz6⟩
instance:TInt Tryz.prog 6 .u8:=⟨Tryz.underlying6⟩
instance:TZer Tryz.prog 6 [.int .u8 0]:=⟨by kernel_rfl⟩
instance:TSize Tryz.prog 7 4:=⟨isz7⟩
instance:TRow Tryz.prog 7 4:=⟨⟨_,Tryz.underlying7,rfl⟩,isz7⟩
instance:TZer Tryz.prog 7 [.int .i64 0,.int .i64 0,.bool false,.int .u8 0]:=⟨by kernel_rfl⟩
instance:TStruct Tryz.prog 7 [(0,1),(1,1),(2,1),(3,1)]:=⟨⟨_,Tryz.underlying7,by kernel_rfl⟩⟩
instance:TFld Tryz.prog 7 0 0 0 false:=⟨⟨_,_,_,Tryz.underlying7,rfl,rfl,Tryz.underlying2,rfl,isz2⟩⟩
instance:TFld Tryz.prog 7 1 1 0 false:=⟨⟨_,_,_,Tryz.underlying7,rfl,rfl,Tryz.underlying3,rfl,isz3⟩⟩
instance:TFld Tryz.prog 7 2 2 0 false:=⟨⟨_,_,_,Tryz.underlying7,rfl,rfl,Tryz.underlying4,rfl,isz4⟩⟩
instance:TFld Tryz.prog 7 3 3 0 false:=⟨⟨_,_,_,Tryz.underlying7,rfl,rfl,Tryz.underlying6,rfl,isz6⟩⟩
instance:TSize Tryz.prog 8 4:=⟨isz8⟩
instance:TRow Tryz.prog 8 4:=⟨⟨_,Tryz.underlying8,rfl⟩,isz8⟩
instance:TZer Tryz.prog 8 [.int .i64 0,.int .i64 0,.bool false,.int .u8 0]:=⟨by kernel_rfl⟩
instance:TStruct Tryz.prog 8 [(0,1),(1,1),(2,1),(3,1)]:=⟨⟨_,Tryz.underlying8,by kernel_rfl⟩⟩
instance:TFld Tryz.prog 8 0 0 0 false:=⟨⟨_,_,_,Tryz.underlying8,rfl,rfl,Tryz.underlying2,rfl,isz2⟩⟩
instance:TFld Tryz.prog 8 1 1 0 false:=⟨⟨_,_,_,Tryz.underlying8,rfl,rfl,Tryz.underlying3,rfl,isz3⟩⟩
instance:TFld Tryz.prog 8 2 2 0 false:=⟨⟨_,_,_,Tryz.underlying8,rfl,rfl,Tryz.underlying4,rfl,isz4⟩⟩
instance:TFld Tryz.prog 8 3 3 0 false:=⟨⟨_,_,_,Tryz.underlying8,rfl,rfl,Tryz.underlying6,rfl,isz6⟩⟩
instance:TSize Tryz.prog 9 1:=⟨isz9⟩
instance:TOne Tryz.prog 9:=⟨⟨_,Tryz.underlying9,rfl⟩,isz9⟩
instance:TStr Tryz.prog 9:=⟨Tryz.underlying9⟩
instance:TZer Tryz.prog 9 [.string ⟨#[]⟩]:=⟨by kernel_rfl⟩
instance:TSize Tryz.prog 10 1:=⟨isz10⟩
instance:TOne Tryz.prog 10:=⟨⟨_,Tryz.underlying10,rfl⟩,isz10⟩
instance:TStr Tryz.prog 10:=⟨Tryz.underlying10⟩
instance:TZer Tryz.prog 10 [.string ⟨#[]⟩]:=⟨by kernel_rfl⟩
instance:TSize Tryz.prog 11 1:=⟨isz11⟩
instance:TOne Tryz.prog 11:=⟨⟨_,Tryz.underlying11,rfl⟩,isz11⟩
instance:TStr Tryz.prog 11:=⟨Tryz.underlying11⟩
instance:TZer Tryz.prog 11 [.string ⟨#[]⟩]:=⟨by kernel_rfl⟩
instance:TSize Tryz.prog 20 1:=⟨isz20⟩
instance:TOne Tryz.prog 20:=⟨⟨_,Tryz.underlying20,rfl⟩,isz20⟩
instance:TIfc Tryz.prog 20:=⟨_,Tryz.underlying20⟩
instance:TZer Tryz.prog 20 [.nilIface]:=⟨by kernel_rfl⟩
instance:TSize Tryz.prog 21 1:=⟨isz21⟩
instance:TOne Tryz.prog 21:=⟨⟨_,Tryz.underlying21,rfl⟩,isz21⟩
instance:TInt Tryz.prog 21 .i32:=⟨Tryz.underlying21⟩
instance:TZer Tryz.prog 21 [.int .i32 0]:=⟨by kernel_rfl⟩
instance:TSize Tryz.prog 22 1:=⟨isz22⟩
instance:TOne Tryz.prog 22:=⟨⟨_,Tryz.underlying22,rfl⟩,isz22⟩
instance:TSlice Tryz.prog 22 25:=⟨Tryz.underlying22⟩
instance:TZer Tryz.prog 22 [.slice none 0 0]:=⟨by kernel_rfl⟩
instance:TSize Tryz.prog 23 1:=⟨isz23⟩
instance:TOne Tryz.prog 23:=⟨⟨_,Tryz.underlying23,rfl⟩,isz23⟩
instance:TSlice Tryz.prog 23 9:=⟨Tryz.underlying23⟩
instance:TZer Tryz.prog 23 [.slice none 0 0]:=⟨by kernel_rfl⟩
instance:TSize Tryz.prog 25 6:=⟨isz25⟩
instance:TRow Tryz.prog 25 6:=⟨⟨_,Tryz.underlying25,rfl⟩,isz25⟩
instance:TZer Tryz.prog 25 [.int .i64 0,.slice none 0 0,.string ⟨#[]⟩,.slice none 0 0,.int .i64 0,.int .i64 0]:=⟨by kernel_rfl⟩
instance:TStruct Tryz.prog 25 [(0,1),(1,1),(2,1),(3,1),(4,1),(5,1)]:=⟨⟨_,Tryz.underlying25,by kernel_rfl⟩⟩
instance:TFld Tryz.prog 25 0 0 0 false:=⟨⟨_,_,_,Tryz.underlying25,rfl,rfl,Tryz.underlying3,rfl,isz3⟩⟩
instance:TFld Tryz.prog 25 1 1 0 false:=⟨⟨_,_,_,Tryz.underlying25,rfl,rfl,Tryz.underlying22,rfl,isz22⟩⟩
instance:TFld Tryz.prog 25 2 2 0 false:=⟨⟨_,_,_,Tryz.underlying25,rfl,rfl,Tryz.underlying9,rfl,isz9⟩⟩
instance:TFld Tryz.prog 25 3 3 0 false:=⟨⟨_,_,_,Tryz.underlying25,rfl,rfl,Tryz.underlying23,rfl,isz23⟩⟩
instance:TFld Tryz.prog 25 4 4 0 false:=⟨⟨_,_,_,Tryz.underlying25,rfl,rfl,Tryz.underlying3,rfl,isz3⟩⟩
instance:TFld Tryz.prog 25 5 5 0 false:=⟨⟨_,_,_,Tryz.underlying25,rfl,rfl,Tryz.underlying3,rfl,isz3⟩⟩
instance:TSize Tryz.prog 26 1:=⟨isz26⟩
instance:TOne Tryz.prog 26:=⟨⟨_,Tryz.underlying26,rfl⟩,isz26⟩
instance:TSlice Tryz.prog 26 78:=⟨Tryz.underlying26⟩
instance:TZer Tryz.prog 26 [.slice none 0 0]:=⟨by kernel_rfl⟩
instance:TSize Tryz.prog 27 1:=⟨isz27⟩
instance:TOne Tryz.prog 27:=⟨⟨_,Tryz.underlying27,rfl⟩,isz27⟩
instance:TInt Tryz.prog 27 .i64:=⟨Tryz.underlying27⟩
instance:TZer Tryz.prog 27 [.int .i64 0]:=⟨by kernel_rfl⟩
instance:TSize Tryz.prog 28 1:=⟨isz28⟩
instance:TOne Tryz.prog 28:=⟨⟨_,Tryz.underlying28,rfl⟩,isz28⟩
instance:TSize Tryz.prog 31 1:=⟨isz31⟩
instance:TOne Tryz.prog 31:=⟨⟨_,Tryz.underlying31,rfl⟩,isz31⟩
instance:TSize Tryz.prog 32 1:=⟨isz32⟩
instance:TOne Tryz.prog 32:=⟨⟨_,Tryz.underlying32,rfl⟩,isz32⟩
instance:TZer Tryz.prog 32 [.nilFunc]:=⟨by kernel_rfl⟩
instance:TSize Tryz.prog 33 1:=⟨isz33⟩
instance:TOne Tryz.prog 33:=⟨⟨_,Tryz.underlying33,rfl⟩,isz33⟩
instance:TSlice Tryz.prog 33 26:=⟨Tryz.underlying33⟩
instance:TZer Tryz.prog 33 [.slice none 0 0]:=⟨by kernel_rfl⟩
instance:TSize Tryz.prog 34 1:=⟨isz34⟩
instance:TOne Tryz.prog 34:=⟨⟨_,Tryz.underlying34,rfl⟩,isz34⟩
instance:TSize Tryz.prog 40 1:=⟨isz40⟩
instance:TOne Tryz.prog 40:=⟨⟨_,Tryz.underlying40,rfl⟩,isz40⟩
instance:TSize Tryz.prog 41 1:=⟨isz41⟩
instance:TOne Tryz.prog 41:=⟨⟨_,Tryz.underlying41,rfl⟩,isz41⟩
instance:TZer Tryz.prog 41 [.nilFunc]:=⟨by kernel_rfl⟩
instance:TSize Tryz.prog 44 1:=⟨isz44⟩
instance:TOne Tryz.prog 44:=⟨⟨_,Tryz.underlying44,rfl⟩,isz44⟩
instance:TZer Tryz.prog 44 [.nilFunc]:=⟨by kernel_rfl⟩
instance:TSize Tryz.prog 45 1:=⟨isz45⟩
instance:TOne Tryz.prog 45:=⟨⟨_,Tryz.underlying45,rfl⟩,isz45⟩
instance:TZer Tryz.prog 45 [.nilFunc]:=⟨by kernel_rfl⟩
instance:TSize Tryz.prog 46 1:=⟨isz46⟩
instance:TOne Tryz.prog 46:=⟨⟨_,Tryz.underlying46,rfl⟩,isz46⟩
instance:TZer Tryz.prog 46 [.pointer none]:=⟨by kernel_rfl⟩
instance:TSize Tryz.prog 47 1:=⟨isz47⟩
instance:TRow Tryz.prog 47 1:=⟨⟨_,Tryz.underlying47,rfl⟩,isz47⟩
instance:TZer Tryz.prog 47 [.int .i64 0]:=⟨by kernel_rfl⟩
instance:TStruct Tryz.prog 47 [(0,1)]:=⟨⟨_,Tryz.underlying47,by kernel_rfl⟩⟩
instance:TFld Tryz.prog 47 0 0 0 false:=⟨⟨_,_,_,Tryz.underlying47,rfl,rfl,Tryz.underlying3,rfl,isz3⟩⟩
instance:TSize Tryz.prog 48 1:=⟨isz48⟩
instance:TRow Tryz.prog 48 1:=⟨⟨_,Tryz.underlying48,rfl⟩,isz48⟩
instance:TZer Tryz.prog 48 [.int .i64 0]:=⟨by kernel_rfl⟩
instance:TStruct Tryz.prog 48 [(0,1)]:=⟨⟨_,Tryz.underlying48,by kernel_rfl⟩⟩
instance:TFld Tryz.prog 48 0 0 0 false:=⟨⟨_,_,_,Tryz.underlying48,rfl,rfl,Tryz.underlying3,rfl,isz3⟩⟩
instance:TSize Tryz.prog 49 1:=⟨isz49⟩
instance:TOne Tryz.prog 49:=⟨⟨_,Tryz.underlying49,rfl⟩,isz49⟩
instance:TZer Tryz.prog 49 [.nilFunc]:=⟨by kernel_rfl⟩
instance:TSize Tryz.prog 50 1:=⟨isz50⟩
instance:TOne Tryz.prog 50:=⟨⟨_,Tryz.underlying50,rfl⟩,isz50⟩
instance:TSize Tryz.prog 51 1:=⟨isz51⟩
instance:TOne Tryz.prog 51:=⟨⟨_,Tryz.underlying51,rfl⟩,isz51⟩
instance:TZer Tryz.prog 51 [.nilFunc]:=⟨by kernel_rfl⟩
instance:TSize Tryz.prog 52 1:=⟨isz52⟩
instance:TOne Tryz.prog 52:=⟨⟨_,Tryz.underlying52,rfl⟩,isz52⟩
instance:TZer Tryz.prog 52 [.nilFunc]:=⟨by kernel_rfl⟩
instance:TSize Tryz.prog 53 1:=⟨isz53⟩
instance:TOne Tryz.prog 53:=⟨⟨_,Tryz.underlying53,rfl⟩,isz53⟩
instance:TZer Tryz.prog 53 [.nilFunc]:=⟨by kernel_rfl⟩
instance:TSize Tryz.prog 54 1:=⟨isz54⟩
instance:TOne Tryz.prog 54:=⟨⟨_,Tryz.underlying54,rfl⟩,isz54⟩
instance:TZer Tryz.prog 54 [.nilFunc]:=⟨by kernel_rfl⟩
instance:TSize Tryz.prog 55 1:=⟨isz55⟩
instance:TOne Tryz.prog 55:=⟨⟨_,Tryz.underlying55,rfl⟩,isz55⟩
instance:TZer Tryz.prog 55 [.pointer none]:=⟨by kernel_rfl⟩
instance:TSize Tryz.prog 56 1:=⟨isz56⟩
instance:TRow Tryz.prog 56 1:=⟨⟨_,Tryz.underlying56,rfl⟩,isz56⟩
instance:TZer Tryz.prog 56 [.int .i64 0]:=⟨by kernel_rfl⟩
instance:TStruct Tryz.prog 56 [(0,1)]:=⟨⟨_,Tryz.underlying56,by kernel_rfl⟩⟩
instance:TFld Tryz.prog 56 0 0 0 false:=⟨⟨_,_,_,Tryz.underlying56,rfl,rfl,Tryz.underlying3,rfl,isz3⟩⟩
instance:TSize Tryz.prog 57 1:=⟨isz57⟩
instance:TRow Tryz.prog 57 1:=⟨⟨_,Tryz.underlying57,rfl⟩,isz57⟩
instance:TZer Tryz.prog 57 [.int .i64 0]:=⟨by kernel_rfl⟩
instance:TStruct Tryz.prog 57 [(0,1)]:=⟨⟨_,Tryz.underlying57,by kernel_rfl⟩⟩
instance:TFld Tryz.prog 57 0 0 0 false:=⟨⟨_,_,_,Tryz.underlying57,rfl,rfl,Tryz.underlying3,rfl,isz3⟩⟩
instance:TSize Tryz.prog 58 1:=⟨isz58⟩
instance:TOne Tryz.prog 58:=⟨⟨_,Tryz.underlying58,rfl⟩,isz58⟩
instance:TZer Tryz.prog 58 [.nilFunc]:=⟨by kernel_rfl⟩
instance:TSize Tryz.prog 59 1:=⟨isz59⟩
instance:TOne Tryz.prog 59:=⟨⟨_,Tryz.underlying59,rfl⟩,isz59⟩
instance:TZer Tryz.prog 59 [.nilFunc]:=⟨by kernel_rfl⟩
instance:TSize Tryz.prog 62 1:=⟨isz62⟩
instance:TOne Tryz.prog 62:=⟨⟨_,Tryz.underlying62,rfl⟩,isz62⟩
instance:TZer Tryz.prog 62 [.nilFunc]:=⟨by kernel_rfl⟩
instance:TSize Tryz.prog 64 4:=⟨isz64⟩
instance:TRow Tryz.prog 64 4:=⟨⟨_,Tryz.underlying64,rfl⟩,isz64⟩
instance:TZer Tryz.prog 64 [.slice none 0 0,.string ⟨#[]⟩,.int .i64 0,.int .i64 0]:=⟨by kernel_rfl⟩
instance:TStruct Tryz.prog 64 [(0,1),(1,1),(2,1),(3,1)]:=⟨⟨_,Tryz.underlying64,by kernel_rfl⟩⟩
instance:TFld Tryz.prog 64 0 0 0 false:=⟨⟨_,_,_,Tryz.underlying64,rfl,rfl,Tryz.underlying23,rfl,isz23⟩⟩
instance:TFld Tryz.prog 64 1 1 0 false:=⟨⟨_,_,_,Tryz.underlying64,rfl,rfl,Tryz.underlying9,rfl,isz9⟩⟩
instance:TFld Tryz.prog 64 2 2 0 false:=⟨⟨_,_,_,Tryz.underlying64,rfl,rfl,Tryz.underlying3,rfl,isz3⟩⟩
instance:TFld Tryz.prog 64 3 3 0 false:=⟨⟨_,_,_,Tryz.underlying64,rfl,rfl,Tryz.underlying3,rfl,isz3⟩⟩
instance:TSize Tryz.prog 65 1:=⟨isz65⟩
instance:TOne Tryz.prog 65:=⟨⟨_,Tryz.underlying65,rfl⟩,isz65⟩
instance:TSize Tryz.prog 66 1:=⟨isz66⟩
instance:TOne Tryz.prog 66:=⟨⟨_,Tryz.underlying66,rfl⟩,isz66⟩
instance:TZer Tryz.prog 66 [.nilFunc]:=⟨by kernel_rfl⟩
instance:TSize Tryz.prog 67 1:=⟨isz67⟩
instance:TOne Tryz.prog 67:=⟨⟨_,Tryz.underlying67,rfl⟩,isz67⟩
instance:TZer Tryz.prog 67 [.nilFunc]:=⟨by kernel_rfl⟩
instance:TSize Tryz.prog 68 1:=⟨isz68⟩
instance:TOne Tryz.prog 68:=⟨⟨_,Tryz.underlying68,rfl⟩,isz68⟩
instance:TZer Tryz.prog 68 [.nilFunc]:=⟨by kernel_rfl⟩
instance:TSize Tryz.prog 69 1:=⟨isz69⟩
instance:TOne Tryz.prog 69:=⟨⟨_,Tryz.underlying69,rfl⟩,isz69⟩
instance:TZer Tryz.prog 69 [.nilFunc]:=⟨by kernel_rfl⟩
instance:TSize Tryz.prog 70 1:=⟨isz70⟩
instance:TOne Tryz.prog 70:=⟨⟨_,Tryz.underlying70,rfl⟩,isz70⟩
instance:TZer Tryz.prog 70 [.nilFunc]:=⟨by kernel_rfl⟩
instance:TSize Tryz.prog 71 1:=⟨isz71⟩
instance:TOne Tryz.prog 71:=⟨⟨_,Tryz.underlying71,rfl⟩,isz71⟩
instance:TZer Tryz.prog 71 [.nilFunc]:=⟨by kernel_rfl⟩
instance:TSize Tryz.prog 72 1:=⟨isz72⟩
instance:TOne Tryz.prog 72:=⟨⟨_,Tryz.underlying72,rfl⟩,isz72⟩
instance:TZer Tryz.prog 72 [.nilFunc]:=⟨by kernel_rfl⟩
instance:TSize Tryz.prog 73 1:=⟨isz73⟩
instance:TOne Tryz.prog 73:=⟨⟨_,Tryz.underlying73,rfl⟩,isz73⟩
instance:TZer Tryz.prog 73 [.nilFunc]:=⟨by kernel_rfl⟩
instance:TSize Tryz.prog 74 1:=⟨isz74⟩
instance:TOne Tryz.prog 74:=⟨⟨_,Tryz.underlying74,rfl⟩,isz74⟩
instance:TSlice Tryz.prog 74 93:=⟨Tryz.underlying74⟩
instance:TZer Tryz.prog 74 [.slice none 0 0]:=⟨by kernel_rfl⟩
instance:TSize Tryz.prog 75 2:=⟨isz75⟩
instance:TRow Tryz.prog 75 2:=⟨⟨_,Tryz.underlying75,rfl⟩,isz75⟩
instance:TZer Tryz.prog 75 [.string ⟨#[]⟩,.slice none 0 0]:=⟨by kernel_rfl⟩
instance:TStruct Tryz.prog 75 [(0,1),(1,1)]:=⟨⟨_,Tryz.underlying75,by kernel_rfl⟩⟩
instance:TFld Tryz.prog 75 0 0 0 false:=⟨⟨_,_,_,Tryz.underlying75,rfl,rfl,Tryz.underlying9,rfl,isz9⟩⟩
instance:TFld Tryz.prog 75 1 1 0 false:=⟨⟨_,_,_,Tryz.underlying75,rfl,rfl,Tryz.underlying74,rfl,isz74⟩⟩
instance:TSize Tryz.prog 76 2:=⟨isz76⟩
instance:TRow Tryz.prog 76 2:=⟨⟨_,Tryz.underlying76,rfl⟩,isz76⟩
instance:TZer Tryz.prog 76 [.string ⟨#[]⟩,.slice none 0 0]:=⟨by kernel_rfl⟩
instance:TStruct Tryz.prog 76 [(0,1),(1,1)]:=⟨⟨_,Tryz.underlying76,by kernel_rfl⟩⟩
instance:TFld Tryz.prog 76 0 0 0 false:=⟨⟨_,_,_,Tryz.underlying76,rfl,rfl,Tryz.underlying9,rfl,isz9⟩⟩
instance:TFld Tryz.prog 76 1 1 0 false:=⟨⟨_,_,_,Tryz.underlying76,rfl,rfl,Tryz.underlying74,rfl,isz74⟩⟩
instance:TSize Tryz.prog 77 4:=⟨isz77⟩
instance:TRow Tryz.prog 77 4:=⟨⟨_,Tryz.underlying77,rfl⟩,isz77⟩
instance:TZer Tryz.prog 77 [.string ⟨#[]⟩,.string ⟨#[]⟩,.slice none 0 0,.slice none 0 0]:=⟨by kernel_rfl⟩
instance:TStruct Tryz.prog 77 [(0,1),(1,2),(3,1)]:=⟨⟨_,Tryz.underlying77,by kernel_rfl⟩⟩
instance:TFld Tryz.prog 77 0 0 0 false:=⟨⟨_,_,_,Tryz.underlying77,rfl,rfl,Tryz.underlying9,rfl,isz9⟩⟩
instance:TFld Tryz.prog 77 1 1 1 true:=⟨⟨_,_,_,Tryz.underlying77,rfl,rfl,Tryz.underlying76,rfl,isz76⟩⟩
instance:TFld Tryz.prog 77 2 3 0 false:=⟨⟨_,_,_,Tryz.underlying77,rfl,rfl,Tryz.underlying26,rfl,isz26⟩⟩
instance:TSize Tryz.prog 78 4:=⟨isz78⟩
instance:TRow Tryz.prog 78 4:=⟨⟨_,Tryz.underlying78,rfl⟩,isz78⟩
instance:TZer Tryz.prog 78 [.string ⟨#[]⟩,.string ⟨#[]⟩,.slice none 0 0,.slice none 0 0]:=⟨by kernel_rfl⟩
instance:TStruct Tryz.prog 78 [(0,1),(1,2),(3,1)]:=⟨⟨_,Tryz.underlying78,by kernel_rfl⟩⟩
instance:TFld Tryz.prog 78 0 0 0 false:=⟨⟨_,_,_,Tryz.underlying78,rfl,rfl,Tryz.underlying9,rfl,isz9⟩⟩
instance:TFld Tryz.prog 78 1 1 1 true:=⟨⟨_,_,_,Tryz.underlying78,rfl,rfl,Tryz.underlying76,rfl,isz76⟩⟩
instance:TFld Tryz.prog 78 2 3 0 false:=⟨⟨_,_,_,Tryz.underlying78,rfl,rfl,Tryz.underlying26,rfl,isz26⟩⟩
instance:TSize Tryz.prog 79 1:=⟨isz79⟩
instance:TOne Tryz.prog 79:=⟨⟨_,Tryz.underlying79,rfl⟩,isz79⟩
instance:TZer Tryz.prog 79 [.nilFunc]:=⟨by kernel_rfl⟩
instance:TSize Tryz.prog 80 1:=⟨isz80⟩
instance:TOne Tryz.prog 80:=⟨⟨_,Tryz.underlying80,rfl⟩,isz80⟩
instance:TZer Tryz.prog 80 [.nilFunc]:=⟨by kernel_rfl⟩
instance:TSize Tryz.prog 81 1:=⟨isz81⟩
instance:TOne Tryz.prog 81:=⟨⟨_,Tryz.underlying81,rfl⟩,isz81⟩
instance:TZer Tryz.prog 81 [.nilFunc]:=⟨by kernel_rfl⟩
instance:TSize Tryz.prog 82 1:=⟨isz82⟩
instance:TOne Tryz.prog 82:=⟨⟨_,Tryz.underlying82,rfl⟩,isz82⟩
instance:TZer Tryz.prog 82 [.nilFunc]:=⟨by kernel_rfl⟩
instance:TSize Tryz.prog 83 1:=⟨isz83⟩
instance:TOne Tryz.prog 83:=⟨⟨_,Tryz.underlying83,rfl⟩,isz83⟩
instance:TZer Tryz.prog 83 [.nilFunc]:=⟨by kernel_rfl⟩
instance:TSize Tryz.prog 84 1:=⟨isz84⟩
instance:TOne Tryz.prog 84:=⟨⟨_,Tryz.underlying84,rfl⟩,isz84⟩
instance:TZer Tryz.prog 84 [.nilFunc]:=⟨by kernel_rfl⟩
instance:TSize Tryz.prog 85 1:=⟨isz85⟩
instance:TOne Tryz.prog 85:=⟨⟨_,Tryz.underlying85,rfl⟩,isz85⟩
instance:TZer Tryz.prog 85 [.nilFunc]:=⟨by kernel_rfl⟩
instance:TSize Tryz.prog 86 1:=⟨isz86⟩
instance:TOne Tryz.prog 86:=⟨⟨_,Tryz.underlying86,rfl⟩,isz86⟩
instance:TZer Tryz.prog 86 [.nilFunc]:=⟨by kernel_rfl⟩
instance:TSize Tryz.prog 87 1:=⟨isz87⟩
instance:TOne Tryz.prog 87:=⟨⟨_,Tryz.underlying87,rfl⟩,isz87⟩
instance:TZer Tryz.prog 87 [.nilFunc]:=⟨by kernel_rfl⟩
instance:TSize Tryz.prog 88 1:=⟨isz88⟩
instance:TOne Tryz.prog 88:=⟨⟨_,Tryz.underlying88,rfl⟩,isz88⟩
instance:TSize Tryz.prog 89 1:=⟨isz89⟩
instance:TOne Tryz.prog 89:=⟨⟨_,Tryz.underlying89,rfl⟩,isz89⟩
instance:TZer Tryz.prog 89 [.nilFunc]:=⟨by kernel_rfl⟩
instance:TSize Tryz.prog 90 1:=⟨isz90⟩
instance:TOne Tryz.prog 90:=⟨⟨_,Tryz.underlying90,rfl⟩,isz90⟩
instance:TSlice Tryz.prog 90 3:=⟨Tryz.underlying90⟩
instance:TZer Tryz.prog 90 [.slice none 0 0]:=⟨by kernel_rfl⟩
instance:TSize Tryz.prog 91 1:=⟨isz91⟩
instance:TOne Tryz.prog 91:=⟨⟨_,Tryz.underlying91,rfl⟩,isz91⟩
instance:TSlice Tryz.prog 91 23:=⟨Tryz.underlying91⟩
instance:TZer Tryz.prog 91 [.slice none 0 0]:=⟨by kernel_rfl⟩
instance:TSize Tryz.prog 93 1:=⟨isz93⟩
instance:TRow Tryz.prog 93 1:=⟨⟨_,Tryz.underlying93,rfl⟩,isz93⟩
instance:TZer Tryz.prog 93 [.slice none 0 0]:=⟨by kernel_rfl⟩
instance:TStruct Tryz.prog 93 [(0,1)]:=⟨⟨_,Tryz.underlying93,by kernel_rfl⟩⟩
instance:TFld Tryz.prog 93 0 0 0 false:=⟨⟨_,_,_,Tryz.underlying93,rfl,rfl,Tryz.underlying91,rfl,isz91⟩⟩
instance:TSize Tryz.prog 95 3:=⟨isz95⟩
instance:TRow Tryz.prog 95 3:=⟨⟨_,Tryz.underlying95,rfl⟩,isz95⟩
instance:TZer Tryz.prog 95 [.int .i64 0,.int .i64 0,.int .i64 0]:=⟨by kernel_rfl⟩
instance:TStruct Tryz.prog 95 [(0,1),(1,1),(2,1)]:=⟨⟨_,Tryz.underlying95,by kernel_rfl⟩⟩
instance:TFld Tryz.prog 95 0 0 0 false:=⟨⟨_,_,_,Tryz.underlying95,rfl,rfl,Tryz.underlying3,rfl,isz3⟩⟩
instance:TFld Tryz.prog 95 1 1 0 false:=⟨⟨_,_,_,Tryz.underlying95,rfl,rfl,Tryz.underlying3,rfl,isz3⟩⟩
instance:TFld Tryz.prog 95 2 2 0 false:=⟨⟨_,_,_,Tryz.underlying95,rfl,rfl,Tryz.underlying3,rfl,isz3⟩⟩
instance:TSize Tryz.prog 96 1:=⟨isz96⟩
instance:TOne Tryz.prog 96:=⟨⟨_,Tryz.underlying96,rfl⟩,isz96⟩
instance:TSize Tryz.prog 97 1:=⟨isz97⟩
instance:TOne Tryz.prog 97:=⟨⟨_,Tryz.underlying97,rfl⟩,isz97⟩
instance:TZer Tryz.prog 97 [.nilFunc]:=⟨by kernel_rfl⟩
instance:TSize Tryz.prog 98 1:=⟨isz98⟩
instance:TOne Tryz.prog 98:=⟨⟨_,Tryz.underlying98,rfl⟩,isz98⟩
instance:TZer Tryz.prog 98 [.nilFunc]:=⟨by kernel_rfl⟩
instance:TSize Tryz.prog 99 1:=⟨isz99⟩
instance:TOne Tryz.prog 99:=⟨⟨_,Tryz.underlying99,rfl⟩,isz99⟩
instance:TZer Tryz.prog 99 [.nilFunc]:=⟨by kernel_rfl⟩
instance:TSize Tryz.prog 100 2:=⟨isz100⟩
instance:TRow Tryz.prog 100 2:=⟨⟨_,Tryz.underlying100,rfl⟩,isz100⟩
instance:TZer Tryz.prog 100 [.int .i64 0,.int .i64 0]:=⟨by kernel_rfl⟩
instance:TStruct Tryz.prog 100 [(0,1),(1,1)]:=⟨⟨_,Tryz.underlying100,by kernel_rfl⟩⟩
instance:TFld Tryz.prog 100 0 0 0 false:=⟨⟨_,_,_,Tryz.underlying100,rfl,rfl,Tryz.underlying3,rfl,isz3⟩⟩
instance:TFld Tryz.prog 100 1 1 0 false:=⟨⟨_,_,_,Tryz.underlying100,rfl,rfl,Tryz.underlying3,rfl,isz3⟩⟩
instance:TSize Tryz.prog 101 2:=⟨isz101⟩
instance:TRow Tryz.prog 101 2:=⟨⟨_,Tryz.underlying101,rfl⟩,isz101⟩
instance:TZer Tryz.prog 101 [.int .i64 0,.int .i64 0]:=⟨by kernel_rfl⟩
instance:TStruct Tryz.prog 101 [(0,1),(1,1)]:=⟨⟨_,Tryz.underlying101,by kernel_rfl⟩⟩
instance:TFld Tryz.prog 101 0 0 0 false:=⟨⟨_,_,_,Tryz.underlying101,rfl,rfl,Tryz.underlying3,rfl,isz3⟩⟩
instance:TFld Tryz.prog 101 1 1 0 false:=⟨⟨_,_,_,Tryz.underlying101,rfl,rfl,Tryz.underlying3,rfl,isz3⟩⟩
instance:TSize Tryz.prog 102 1:=⟨isz102⟩
instance:TOne Tryz.prog 102:=⟨⟨_,Tryz.underlying102,rfl⟩,isz102⟩
instance:TSize Tryz.prog 103 1:=⟨isz103⟩
instance:TOne Tryz.prog 103:=⟨⟨_,Tryz.underlying103,rfl⟩,isz103⟩
instance:TZer Tryz.prog 103 [.nilFunc]:=⟨by kernel_rfl⟩
instance:TSize Tryz.prog 104 1:=⟨isz104⟩
instance:TOne Tryz.prog 104:=⟨⟨_,Tryz.underlying104,rfl⟩,isz104⟩
instance:TSlice Tryz.prog 104 144:=⟨Tryz.underlying104⟩
instance:TZer Tryz.prog 104 [.slice none 0 0]:=⟨by kernel_rfl⟩
instance:TSize Tryz.prog 105 2:=⟨isz105⟩
instance:TRow Tryz.prog 105 2:=⟨⟨_,Tryz.underlying105,rfl⟩,isz105⟩
instance:TZer Tryz.prog 105 [.bool false,.slice none 0 0]:=⟨by kernel_rfl⟩
instance:TStruct Tryz.prog 105 [(0,1),(1,1)]:=⟨⟨_,Tryz.underlying105,by kernel_rfl⟩⟩
instance:TFld Tryz.prog 105 0 0 0 false:=⟨⟨_,_,_,Tryz.underlying105,rfl,rfl,Tryz.underlying4,rfl,isz4⟩⟩
instance:TFld Tryz.prog 105 1 1 0 false:=⟨⟨_,_,_,Tryz.underlying105,rfl,rfl,Tryz.underlying104,rfl,isz104⟩⟩
instance:TSize Tryz.prog 106 2:=⟨isz106⟩
instance:TRow Tryz.prog 106 2:=⟨⟨_,Tryz.underlying106,rfl⟩,isz106⟩
instance:TZer Tryz.prog 106 [.bool false,.slice none 0 0]:=⟨by kernel_rfl⟩
instance:TStruct Tryz.prog 106 [(0,1),(1,1)]:=⟨⟨_,Tryz.underlying106,by kernel_rfl⟩⟩
instance:TFld Tryz.prog 106 0 0 0 false:=⟨⟨_,_,_,Tryz.underlying106,rfl,rfl,Tryz.underlying4,rfl,isz4⟩⟩
instance:TFld Tryz.prog 106 1 1 0 false:=⟨⟨_,_,_,Tryz.underlying106,rfl,rfl,Tryz.underlying104,rfl,isz104⟩⟩
instance:TSize Tryz.prog 107 1:=⟨isz107⟩
instance:TOne Tryz.prog 107:=⟨⟨_,Tryz.underlying107,rfl⟩,isz107⟩
instance:TZer Tryz.prog 107 [.nilFunc]:=⟨by kernel_rfl⟩
instance:TSize Tryz.prog 108 1:=⟨isz108⟩
instance:TOne Tryz.prog 108:=⟨⟨_,Tryz.underlying108,rfl⟩,isz108⟩
instance:TZer Tryz.prog 108 [.nilFunc]:=⟨by kernel_rfl⟩
instance:TSize Tryz.prog 109 1:=⟨isz109⟩
instance:TOne Tryz.prog 109:=⟨⟨_,Tryz.underlying109,rfl⟩,isz109⟩
instance:TZer Tryz.prog 109 [.nilFunc]:=⟨by kernel_rfl⟩
instance:TSize Tryz.prog 110 1:=⟨isz110⟩
instance:TOne Tryz.prog 110:=⟨⟨_,Tryz.underlying110,rfl⟩,isz110⟩
instance:TZer Tryz.prog 110 [.nilFunc]:=⟨by kernel_rfl⟩
instance:TSize Tryz.prog 111 1:=⟨isz111⟩
instance:TOne Tryz.prog 111:=⟨⟨_,Tryz.underlying111,rfl⟩,isz111⟩
instance:TZer Tryz.prog 111 [.nilFunc]:=⟨by kernel_rfl⟩
instance:TSize Tryz.prog 112 1:=⟨isz112⟩
instance:TOne Tryz.prog 112:=⟨⟨_,Tryz.underlying112,rfl⟩,isz112⟩
instance:TZer Tryz.prog 112 [.nilFunc]:=⟨by kernel_rfl⟩
instance:TSize Tryz.prog 113 4:=⟨isz113⟩
instance:TRow Tryz.prog 113 4:=⟨⟨_,Tryz.underlying113,rfl⟩,isz113⟩
instance:TZer Tryz.prog 113 [.bool false,.bool false,.bool false,.bool false]:=⟨by kernel_rfl⟩
instance:TStruct Tryz.prog 113 [(0,1),(1,1),(2,1),(3,1)]:=⟨⟨_,Tryz.underlying113,by kernel_rfl⟩⟩
instance:TFld Tryz.prog 113 0 0 0 false:=⟨⟨_,_,_,Tryz.underlying113,rfl,rfl,Tryz.underlying4,rfl,isz4⟩⟩
instance:TFld Tryz.prog 113 1 1 0 false:=⟨⟨_,_,_,Tryz.underlying113,rfl,rfl,Tryz.underlying4,rfl,isz4⟩⟩
instance:TFld Tryz.prog 113 2 2 0 false:=⟨⟨_,_,_,Tryz.underlying113,rfl,rfl,Tryz.underlying4,rfl,isz4⟩⟩
instance:TFld Tryz.prog 113 3 3 0 false:=⟨⟨_,_,_,Tryz.underlying113,rfl,rfl,Tryz.underlying4,rfl,isz4⟩⟩
instance:TSize Tryz.prog 114 4:=⟨isz114⟩
instance:TRow Tryz.prog 114 4:=⟨⟨_,Tryz.underlying114,rfl⟩,isz114⟩
instance:TZer Tryz.prog 114 [.bool false,.bool false,.bool false,.bool false]:=⟨by kernel_rfl⟩
instance:TStruct Tryz.prog 114 [(0,1),(1,1),(2,1),(3,1)]:=⟨⟨_,Tryz.underlying114,by kernel_rfl⟩⟩
instance:TFld Tryz.prog 114 0 0 0 false:=⟨⟨_,_,_,Tryz.underlying114,rfl,rfl,Tryz.underlying4,rfl,isz4⟩⟩
instance:TFld Tryz.prog 114 1 1 0 false:=⟨⟨_,_,_,Tryz.underlying114,rfl,rfl,Tryz.underlying4,rfl,isz4⟩⟩
instance:TFld Tryz.prog 114 2 2 0 false:=⟨⟨_,_,_,Tryz.underlying114,rfl,rfl,Tryz.underlying4,rfl,isz4⟩⟩
instance:TFld Tryz.prog 114 3 3 0 false:=⟨⟨_,_,_,Tryz.underlying114,rfl,rfl,Tryz.underlying4,rfl,isz4⟩⟩
instance:TSize Tryz.prog 115 1:=⟨isz115⟩
instance:TOne Tryz.prog 115:=⟨⟨_,Tryz.underlying115,rfl⟩,isz115⟩
instance:TZer Tryz.prog 115 [.nilFunc]:=⟨by kernel_rfl⟩
instance:TSize Tryz.prog 116 1:=⟨isz116⟩
instance:TOne Tryz.prog 116:=⟨⟨_,Tryz.underlying116,rfl⟩,isz116⟩
instance:TZer Tryz.prog 116 [.nilFunc]:=⟨by kernel_rfl⟩
instance:TSize Tryz.prog 117 1:=⟨isz117⟩
instance:TOne Tryz.prog 117:=⟨⟨_,Tryz.underlying117,rfl⟩,isz117⟩
instance:TZer Tryz.prog 117 [.nilFunc]:=⟨by kernel_rfl⟩
instance:TSize Tryz.prog 118 1:=⟨isz118⟩
instance:TOne Tryz.prog 118:=⟨⟨_,Tryz.underlying118,rfl⟩,isz118⟩
instance:TZer Tryz.prog 118 [.nilFunc]:=⟨by kernel_rfl⟩
instance:TSize Tryz.prog 119 1:=⟨isz119⟩
instance:TOne Tryz.prog 119:=⟨⟨_,Tryz.underlying119,rfl⟩,isz119⟩
instance:TZer Tryz.prog 119 [.nilFunc]:=⟨by kernel_rfl⟩
instance:TSize Tryz.prog 120 1:=⟨isz120⟩
instance:TOne Tryz.prog 120:=⟨⟨_,Tryz.underlying120,rfl⟩,isz120⟩
instance:TZer Tryz.prog 120 [.nilFunc]:=⟨by kernel_rfl⟩
instance:TSize Tryz.prog 121 1:=⟨isz121⟩
instance:TOne Tryz.prog 121:=⟨⟨_,Tryz.underlying121,rfl⟩,isz121⟩
instance:TZer Tryz.prog 121 [.pointer none]:=⟨by kernel_rfl⟩
instance:TSize Tryz.prog 122 1:=⟨isz122⟩
instance:TOne Tryz.prog 122:=⟨⟨_,Tryz.underlying122,rfl⟩,isz122⟩
instance:TZer Tryz.prog 122 [.nilFunc]:=⟨by kernel_rfl⟩
instance:TSize Tryz.prog 124 1:=⟨isz124⟩
instance:TOne Tryz.prog 124:=⟨⟨_,Tryz.underlying124,rfl⟩,isz124⟩
instance:TSlice Tryz.prog 124 5:=⟨Tryz.underlying124⟩
instance:TZer Tryz.prog 124 [.slice none 0 0]:=⟨by kernel_rfl⟩
instance:TSize Tryz.prog 129 1:=⟨isz129⟩
instance:TOne Tryz.prog 129:=⟨⟨_,Tryz.underlying129,rfl⟩,isz129⟩
instance:TIfc Tryz.prog 129:=⟨_,Tryz.underlying129⟩
instance:TZer Tryz.prog 129 [.nilIface]:=⟨by kernel_rfl⟩
instance:TSize Tryz.prog 130 1:=⟨isz130⟩
instance:TOne Tryz.prog 130:=⟨⟨_,Tryz.underlying130,rfl⟩,isz130⟩
instance:TSize Tryz.prog 135 1:=⟨isz135⟩
instance:TOne Tryz.prog 135:=⟨⟨_,Tryz.underlying135,rfl⟩,isz135⟩
instance:TSlice Tryz.prog 135 76:=⟨Tryz.underlying135⟩
instance:TZer Tryz.prog 135 [.slice none 0 0]:=⟨by kernel_rfl⟩
instance:TSize Tryz.prog 137 1:=⟨isz137⟩
instance:TOne Tryz.prog 137:=⟨⟨_,Tryz.underlying137,rfl⟩,isz137⟩
instance:TSize Tryz.prog 142 1:=⟨isz142⟩
instance:TOne Tryz.prog 142:=⟨⟨_,Tryz.underlying142,rfl⟩,isz142⟩
instance:TInt Tryz.prog 142 .u64:=⟨Tryz.underlying142⟩
instance:TZer Tryz.prog 142 [.int .u64 0]:=⟨by kernel_rfl⟩
instance:TSize Tryz.prog 144 1:=⟨isz144⟩
instance:TOne Tryz.prog 144:=⟨⟨_,Tryz.underlying144,rfl⟩,isz144⟩
instance:TInt Tryz.prog 144 .u32:=⟨Tryz.underlying144⟩
instance:TZer Tryz.prog 144 [.int .u32 0]:=⟨by kernel_rfl⟩
instance:TSize Tryz.prog 145 1:=⟨isz145⟩
instance:TOne Tryz.prog 145:=⟨⟨_,Tryz.underlying145,rfl⟩,isz145⟩
instance:TInt Tryz.prog 145 .u64:=⟨Tryz.underlying145⟩
instance:TZer Tryz.prog 145 [.int .u64 0]:=⟨by kernel_rfl⟩
instance:TSize Tryz.prog 150 256:=⟨isz150⟩
instance:TRow Tryz.prog 150 256:=⟨⟨_,Tryz.underlying150,rfl⟩,isz150⟩
instance:TSize Tryz.prog 151 1:=⟨isz151⟩
instance:TOne Tryz.prog 151:=⟨⟨_,Tryz.underlying151,rfl⟩,isz151⟩
instance:TSize Tryz.prog 154 1:=⟨isz154⟩
instance:TOne Tryz.prog 154:=⟨⟨_,Tryz.underlying154,rfl⟩,isz154⟩
instance:TZer Tryz.prog 154 [.pointer none]:=⟨by kernel_rfl⟩
instance:TSize Tryz.prog 171 1:=⟨isz171⟩
instance:TOne Tryz.prog 171:=⟨⟨_,Tryz.underlying171,rfl⟩,isz171⟩
instance:TZer Tryz.prog 171 [.pointer none]:=⟨by kernel_rfl⟩
instance:TSize Tryz.prog 179 1:=⟨isz179⟩
instance:TOne Tryz.prog 179:=⟨⟨_,Tryz.underlying179,rfl⟩,isz179⟩
instance:TSize Tryz.prog 189 1:=⟨isz189⟩
instance:TOne Tryz.prog 189:=⟨⟨_,Tryz.underlying189,rfl⟩,isz189⟩
instance:TInt Tryz.prog 189 .i64:=⟨Tryz.underlying189⟩
instance:TZer Tryz.prog 189 [.int .i64 0]:=⟨by kernel_rfl⟩
instance:TSize Tryz.prog 190 1:=⟨isz190⟩
instance:TOne Tryz.prog 190:=⟨⟨_,Tryz.underlying190,rfl⟩,isz190⟩
instance:TSize Tryz.prog 192 1:=⟨isz192⟩
instance:TOne Tryz.prog 192:=⟨⟨_,Tryz.underlying192,rfl⟩,isz192⟩
instance:TZer Tryz.prog 192 [.pointer none]:=⟨by kernel_rfl⟩
instance:TSize Tryz.prog 201 24:=⟨isz201⟩
instance:TRow Tryz.prog 201 24:=⟨⟨_,Tryz.underlying201,rfl⟩,isz201⟩
instance:TSize Tryz.prog 204 1:=⟨isz204⟩
instance:TOne Tryz.prog 204:=⟨⟨_,Tryz.underlying204,rfl⟩,isz204⟩
instance:TSize Tryz.prog 214 256:=⟨isz214⟩
instance:TRow Tryz.prog 214 256:=⟨⟨_,Tryz.underlying214,rfl⟩,isz214⟩
instance:TSize Tryz.prog 221 1:=⟨isz221⟩
instance:TOne Tryz.prog 221:=⟨⟨_,Tryz.underlying221,rfl⟩,isz221⟩
instance:TSize Tryz.prog 224 3:=⟨isz224⟩
instance:TRow Tryz.prog 224 3:=⟨⟨_,Tryz.underlying224,rfl⟩,isz224⟩
instance:TZer Tryz.prog 224 [.string ⟨#[]⟩,.string ⟨#[]⟩,.nilIface]:=⟨by kernel_rfl⟩
instance:TStruct Tryz.prog 224 [(0,1),(1,1),(2,1)]:=⟨⟨_,Tryz.underlying224,by kernel_rfl⟩⟩
instance:TFld Tryz.prog 224 0 0 0 false:=⟨⟨_,_,_,Tryz.underlying224,rfl,rfl,Tryz.underlying9,rfl,isz9⟩⟩
instance:TFld Tryz.prog 224 1 1 0 false:=⟨⟨_,_,_,Tryz.underlying224,rfl,rfl,Tryz.underlying9,rfl,isz9⟩⟩
instance:TFld Tryz.prog 224 2 2 0 false:=⟨⟨_,_,_,Tryz.underlying224,rfl,rfl,Tryz.underlying129,rfl,isz129⟩⟩
instance:TSize Tryz.prog 227 2:=⟨isz227⟩
instance:TRow Tryz.prog 227 2:=⟨⟨_,Tryz.underlying227,rfl⟩,isz227⟩
instance:TZer Tryz.prog 227 [.int .u8 0,.int .u8 0]:=⟨by kernel_rfl⟩
instance:TStruct Tryz.prog 227 [(0,1),(1,1)]:=⟨⟨_,Tryz.underlying227,by kernel_rfl⟩⟩
instance:TFld Tryz.prog 227 0 0 0 false:=⟨⟨_,_,_,Tryz.underlying227,rfl,rfl,Tryz.underlying5,rfl,isz5⟩⟩
instance:TFld Tryz.prog 227 1 1 0 false:=⟨⟨_,_,_,Tryz.underlying227,rfl,rfl,Tryz.underlying5,rfl,isz5⟩⟩
instance:TSize Tryz.prog 228 32:=⟨isz228⟩
instance:TRow Tryz.prog 228 32:=⟨⟨_,Tryz.underlying228,rfl⟩,isz228⟩
instance:TSize Tryz.prog 229 1:=⟨isz229⟩
instance:TOne Tryz.prog 229:=⟨⟨_,Tryz.underlying229,rfl⟩,isz229⟩
instance:TSize Tryz.prog 233 20:=⟨isz233⟩
instance:TRow Tryz.prog 233 20:=⟨⟨_,Tryz.underlying233,rfl⟩,isz233⟩
instance:TSize Tryz.prog 234 65:=⟨isz234⟩
instance:TRow Tryz.prog 234 65:=⟨⟨_,Tryz.underlying234,rfl⟩,isz234⟩
instance:TSize Tryz.prog 251 1:=⟨isz251⟩
instance:TOne Tryz.prog 251:=⟨⟨_,Tryz.underlying251,rfl⟩,isz251⟩
instance:TZer Tryz.prog 251 [.pointer none]:=⟨by kernel_rfl⟩
instance:TSize Tryz.prog 253 1:=⟨isz253⟩
instance:TRow Tryz.prog 253 1:=⟨⟨_,Tryz.underlying253,rfl⟩,isz253⟩
instance:TZer Tryz.prog 253 [.string ⟨#[]⟩]:=⟨by kernel_rfl⟩
instance:TStruct Tryz.prog 253 [(0,1)]:=⟨⟨_,Tryz.underlying253,by kernel_rfl⟩⟩
instance:TFld Tryz.prog 253 0 0 0 false:=⟨⟨_,_,_,Tryz.underlying253,rfl,rfl,Tryz.underlying9,rfl,isz9⟩⟩
instance:TSize Tryz.prog 264 32:=⟨isz264⟩
instance:TRow Tryz.prog 264 32:=⟨⟨_,Tryz.underlying264,rfl⟩,isz264⟩
instance:TSize Tryz.prog 265 64:=⟨isz265⟩
instance:TRow Tryz.prog 265 64:=⟨⟨_,Tryz.underlying265,rfl⟩,isz265⟩
instance:Enters Tryz.prog 3:=⟨⟨_,Tryz.func3,by kernel_rfl,by kernel_rfl⟩⟩
instance:Enters Tryz.prog 16:=⟨⟨_,Tryz.func16,by kernel_rfl,by kernel_rfl⟩⟩
instance:Enters Tryz.prog 18:=⟨⟨_,Tryz.func18,by kernel_rfl,by kernel_rfl⟩⟩
instance:Enters Tryz.prog 19:=⟨⟨_,Tryz.func19,by kernel_rfl,by kernel_rfl⟩⟩
instance:Enters Tryz.prog 21:=⟨⟨_,Tryz.func21,by kernel_rfl,by kernel_rfl⟩⟩
instance:Enters Tryz.prog 37:=⟨⟨_,Tryz.func37,by kernel_rfl,by kernel_rfl⟩⟩
instance:Enters Tryz.prog 38:=⟨⟨_,Tryz.func38,by kernel_rfl,by kernel_rfl⟩⟩
instance:Enters Tryz.prog 40:=⟨⟨_,Tryz.func40,by kernel_rfl,by kernel_rfl⟩⟩
instance:Enters Tryz.prog 47:=⟨⟨_,Tryz.func47,by kernel_rfl,by kernel_rfl⟩⟩
instance:Enters Tryz.prog 48:=⟨⟨_,Tryz.func48,by kernel_rfl,by kernel_rfl⟩⟩
instance:Enters Tryz.prog 49:=⟨⟨_,Tryz.func49,by kernel_rfl,by kernel_rfl⟩⟩
instance:Enters Tryz.prog 50:=⟨⟨_,Tryz.func50,by kernel_rfl,by kernel_rfl⟩⟩
instance:Enters Tryz.prog 54:=⟨⟨_,Tryz.func54,by kernel_rfl,by kernel_rfl⟩⟩
instance:Enters Tryz.prog 55:=⟨⟨_,Tryz.func55,by kernel_rfl,by kernel_rfl⟩⟩
instance:Enters Tryz.prog 62:=⟨⟨_,Tryz.func62,by kernel_rfl,by kernel_rfl⟩⟩
instance:Enters Tryz.prog 63:=⟨⟨_,Tryz.func63,by kernel_rfl,by kernel_rfl⟩⟩
instance:Enters Tryz.prog 68:=⟨⟨_,Tryz.func68,by kernel_rfl,by kernel_rfl⟩⟩
instance:Enters Tryz.prog 71:=⟨⟨_,Tryz.func71,by kernel_rfl,by kernel_rfl⟩⟩
instance:Enters Tryz.prog 81:=⟨⟨_,Tryz.func81,by kernel_rfl,by kernel_rfl⟩⟩
instance:Enters Tryz.prog 84:=⟨⟨_,Tryz.func84,by kernel_rfl,by kernel_rfl⟩⟩
instance:Enters Tryz.prog 86:=⟨⟨_,Tryz.func86,by kernel_rfl,by kernel_rfl⟩⟩
instance:Enters Tryz.prog 109:=⟨⟨_,Tryz.func109,by kernel_rfl,by kernel_rfl⟩⟩
end Go.Proofs.YtdhlopciapncfaaGreatDoor
