/- What the types and functions of this translation are, one instance each. (Written by wip/inst.py.). -/
import Derived.Test.YtnjgoldinaffgaaGreatDoorY2
import Derived.Test.YtnjgoldinaffgaaGreatDoorProg
namespace Go.Proofs.YtnjgoldinaffgaaGreatDoor
open _root_.Go.Proofs.Tryz
set_option linter.unusedVariables false
theorem zPB:(Tryz.prog.info? 0).map (·.size)=some 1:=by kernel_rfl
theorem zPA:(Tryz.prog.info? 1).map (·.size)=some 1:=by kernel_rfl
theorem zLG:(Tryz.prog.info? 2).map (·.size)=some 1:=by kernel_rfl
theorem iJ:(Tryz.prog.info? 3).map (·.size)=some 1:=by kernel_rfl
theorem zDs:(Tryz.prog.info? 4).map (·.size)=some 1:=by kernel_rfl
theorem zLF:(Tryz.prog.info? 5).map (·.size)=some 1:=by kernel_rfl
theorem zLE:(Tryz.prog.info? 6).map (·.size)=some 1:=by kernel_rfl
theorem zPz:(Tryz.prog.info? 7).map (·.size)=some 4:=by kernel_rfl
theorem zPy:(Tryz.prog.info? 8).map (·.size)=some 4:=by kernel_rfl
theorem jM:(Tryz.prog.info? 9).map (·.size)=some 1:=by kernel_rfl
theorem zM0:(Tryz.prog.info? 10).map (·.size)=some 1:=by kernel_rfl
theorem zMZ:(Tryz.prog.info? 11).map (·.size)=some 1:=by kernel_rfl
theorem zMY:(Tryz.prog.info? 20).map (·.size)=some 1:=by kernel_rfl
theorem zMX:(Tryz.prog.info? 21).map (·.size)=some 1:=by kernel_rfl
theorem zBc:(Tryz.prog.info? 22).map (·.size)=some 1:=by kernel_rfl
theorem zFV:(Tryz.prog.info? 23).map (·.size)=some 1:=by kernel_rfl
theorem zFU:(Tryz.prog.info? 25).map (·.size)=some 3:=by kernel_rfl
theorem zMW:(Tryz.prog.info? 26).map (·.size)=some 1:=by kernel_rfl
theorem zMV:(Tryz.prog.info? 27).map (·.size)=some 1:=by kernel_rfl
theorem zMU:(Tryz.prog.info? 32).map (·.size)=some 1:=by kernel_rfl
theorem zMT:(Tryz.prog.info? 33).map (·.size)=some 1:=by kernel_rfl
theorem zMS:(Tryz.prog.info? 36).map (·.size)=some 1:=by kernel_rfl
theorem zMR:(Tryz.prog.info? 37).map (·.size)=some 1:=by kernel_rfl
theorem zMQ:(Tryz.prog.info? 39).map (·.size)=some 1:=by kernel_rfl
theorem zMP:(Tryz.prog.info? 41).map (·.size)=some 1:=by kernel_rfl
theorem zMO:(Tryz.prog.info? 43).map (·.size)=some 1:=by kernel_rfl
theorem zMN:(Tryz.prog.info? 45).map (·.size)=some 1:=by kernel_rfl
theorem zMM:(Tryz.prog.info? 46).map (·.size)=some 1:=by kernel_rfl
theorem zML:(Tryz.prog.info? 47).map (·.size)=some 1:=by kernel_rfl
theorem zMK:(Tryz.prog.info? 48).map (·.size)=some 1:=by kernel_rfl
theorem zFT:(Tryz.prog.info? 49).map (·.size)=some 1:=by kernel_rfl
theorem zMJ:(Tryz.prog.info? 50).map (·.size)=some 2:=by kernel_rfl
theorem zMI:(Tryz.prog.info? 51).map (·.size)=some 2:=by kernel_rfl
theorem zBb:(Tryz.prog.info? 52).map (·.size)=some 1:=by kernel_rfl
theorem zMH:(Tryz.prog.info? 53).map (·.size)=some 1:=by kernel_rfl
theorem zMG:(Tryz.prog.info? 54).map (·.size)=some 1:=by kernel_rfl
theorem zMF:(Tryz.prog.info? 55).map (·.size)=some 4:=by kernel_rfl
theorem zFS:(Tryz.prog.info? 56).map (·.size)=some 4:=by kernel_rfl
theorem zME:(Tryz.prog.info? 57).map (·.size)=some 6:=by kernel_rfl
theorem zMD:(Tryz.prog.info? 58).map (·.size)=some 6:=by kernel_rfl
theorem zI5:(Tryz.prog.info? 59).map (·.size)=some 1:=by kernel_rfl
theorem zI4:(Tryz.prog.info? 60).map (·.size)=some 1:=by kernel_rfl
theorem zI3:(Tryz.prog.info? 62).map (·.size)=some 6:=by kernel_rfl
theorem zMC:(Tryz.prog.info? 64).map (·.size)=some 12:=by kernel_rfl
theorem zMB:(Tryz.prog.info? 65).map (·.size)=some 1:=by kernel_rfl
theorem zMA:(Tryz.prog.info? 66).map (·.size)=some 3:=by kernel_rfl
theorem zMz:(Tryz.prog.info? 67).map (·.size)=some 3:=by kernel_rfl
theorem zMy:(Tryz.prog.info? 68).map (·.size)=some 1:=by kernel_rfl
theorem zMx:(Tryz.prog.info? 69).map (·.size)=some 1:=by kernel_rfl
theorem zMw:(Tryz.prog.info? 70).map (·.size)=some 1:=by kernel_rfl
theorem zMv:(Tryz.prog.info? 71).map (·.size)=some 2:=by kernel_rfl
theorem zMu:(Tryz.prog.info? 72).map (·.size)=some 1:=by kernel_rfl
theorem zMt:(Tryz.prog.info? 73).map (·.size)=some 1:=by kernel_rfl
theorem zMs:(Tryz.prog.info? 74).map (·.size)=some 1:=by kernel_rfl
theorem zMr:(Tryz.prog.info? 75).map (·.size)=some 1:=by kernel_rfl
theorem zMq:(Tryz.prog.info? 76).map (·.size)=some 1:=by kernel_rfl
theorem zMo:(Tryz.prog.info? 77).map (·.size)=some 1:=by kernel_rfl
theorem zMn:(Tryz.prog.info? 78).map (·.size)=some 1:=by kernel_rfl
theorem zMm:(Tryz.prog.info? 79).map (·.size)=some 1:=by kernel_rfl
theorem zMl:(Tryz.prog.info? 80).map (·.size)=some 1:=by kernel_rfl
theorem zMk:(Tryz.prog.info? 81).map (·.size)=some 1:=by kernel_rfl
theorem zMj:(Tryz.prog.info? 82).map (·.size)=some 2:=by kernel_rfl
theorem zMi:(Tryz.prog.info? 83).map (·.size)=some 2:=by kernel_rfl
theorem zMh:(Tryz.prog.info? 84).map (·.size)=some 1:=by kernel_rfl
theorem zMg:(Tryz.prog.info? 85).map (·.size)=some 1:=by kernel_rfl
theorem zMf:(Tryz.prog.info? 86).map (·.size)=some 1:=by kernel_rfl
theorem zMe:(Tryz.prog.info? 87).map (·.size)=some 1:=by kernel_rfl
theorem zMd:(Tryz.prog.info? 88).map (·.size)=some 1:=by kernel_rfl
theorem zMc:(Tryz.prog.info? 89).map (·.size)=some 1:=by kernel_rfl
theorem zMb:(Tryz.prog.info? 90).map (·.size)=some 1:=by kernel_rfl
theorem zMa:(Tryz.prog.info? 92).map (·.size)=some 1:=by kernel_rfl
theorem zL9:(Tryz.prog.info? 93).map (·.size)=some 1:=by kernel_rfl
theorem zL8:(Tryz.prog.info? 96).map (·.size)=some 1:=by kernel_rfl
theorem zL7:(Tryz.prog.info? 97).map (·.size)=some 1:=by kernel_rfl
theorem zL6:(Tryz.prog.info? 98).map (·.size)=some 1:=by kernel_rfl
theorem zL5:(Tryz.prog.info? 99).map (·.size)=some 1:=by kernel_rfl
theorem zKc:(Tryz.prog.info? 100).map (·.size)=some 1:=by kernel_rfl
theorem zKb:(Tryz.prog.info? 101).map (·.size)=some 1:=by kernel_rfl
theorem zKa:(Tryz.prog.info? 102).map (·.size)=some 1:=by kernel_rfl
theorem zJ9:(Tryz.prog.info? 103).map (·.size)=some 1:=by kernel_rfl
theorem zJ8:(Tryz.prog.info? 104).map (·.size)=some 1:=by kernel_rfl
theorem zJ7:(Tryz.prog.info? 105).map (·.size)=some 1:=by kernel_rfl
theorem zJ6:(Tryz.prog.info? 106).map (·.size)=some 1:=by kernel_rfl
theorem zJ5:(Tryz.prog.info? 107).map (·.size)=some 1:=by kernel_rfl
theorem zJ4:(Tryz.prog.info? 108).map (·.size)=some 1:=by kernel_rfl
theorem zJ3:(Tryz.prog.info? 109).map (·.size)=some 4:=by kernel_rfl
theorem zJ2:(Tryz.prog.info? 110).map (·.size)=some 4:=by kernel_rfl
theorem zJ1:(Tryz.prog.info? 111).map (·.size)=some 1:=by kernel_rfl
theorem zJ0:(Tryz.prog.info? 112).map (·.size)=some 1:=by kernel_rfl
theorem zJZ:(Tryz.prog.info? 113).map (·.size)=some 3:=by kernel_rfl
theorem zJY:(Tryz.prog.info? 114).map (·.size)=some 3:=by kernel_rfl
theorem zJX:(Tryz.prog.info? 115).map (·.size)=some 1:=by kernel_rfl
theorem zJW:(Tryz.prog.info? 116).map (·.size)=some 1:=by kernel_rfl
theorem zJV:(Tryz.prog.info? 117).map (·.size)=some 1:=by kernel_rfl
theorem zJU:(Tryz.prog.info? 118).map (·.size)=some 1:=by kernel_rfl
theorem zJT:(Tryz.prog.info? 119).map (·.size)=some 1:=by kernel_rfl
theorem zJS:(Tryz.prog.info? 120).map (·.size)=some 1:=by kernel_rfl
theorem zJR:(Tryz.prog.info? 121).map (·.size)=some 1:=by kernel_rfl
theorem zJQ:(Tryz.prog.info? 122).map (·.size)=some 1:=by kernel_rfl
theorem zJP:(Tryz.prog.info? 125).map (·.size)=some 1:=by kernel_rfl
theorem zJO:(Tryz.prog.info? 127).map (·.size)=some 4:=by kernel_rfl
theorem zJN:(Tryz.prog.info? 128).map (·.size)=some 1:=by kernel_rfl
theorem zJM:(Tryz.prog.info? 134).map (·.size)=some 1:=by kernel_rfl
theorem zJL:(Tryz.prog.info? 138).map (·.size)=some 1:=by kernel_rfl
theorem zJK:(Tryz.prog.info? 140).map (·.size)=some 1:=by kernel_rfl
theorem zJJ:(Tryz.prog.info? 145).map (·.size)=some 1:=by kernel_rfl
theorem zJI:(Tryz.prog.info? 147).map (·.size)=some 1:=by kernel_rfl
theorem zJH:(Tryz.prog.info? 150).map (·.size)=some 1:=by kernel_rfl
theorem zJG:(Tryz.prog.info? 153).map (·.size)=some 1:=by kernel_rfl
theorem zJF:(Tryz.prog.info? 154).map (·.size)=some 1:=by kernel_rfl
theorem zJE:(Tryz.prog.info? 160).map (·.size)=some 1:=by kernel_rfl
theorem zJD:(Tryz.prog.info? 162).map (·.size)=some 1:=by kernel_rfl
theorem zJC:(Tryz.prog.info? 165).map (·.size)=some 256:=by kernel_rfl
theorem zJB:(Tryz.prog.info? 166).map (·.size)=some 1:=by kernel_rfl
theorem zJA:(Tryz.prog.info? 169).map (·.size)=some 1:=by kernel_rfl
theorem zEZ:(Tryz.prog.info? 183).map (·.size)=some 1:=by kernel_rfl
theorem zJz:(Tryz.prog.info? 184).map (·.size)=some 1:=by kernel_rfl
theorem zJy:(Tryz.prog.info? 191).map (·.size)=some 1:=by kernel_rfl
theorem zJx:(Tryz.prog.info? 195).map (·.size)=some 1:=by kernel_rfl
theorem zJw:(Tryz.prog.info? 198).map (·.size)=some 1:=by kernel_rfl
theorem zJv:(Tryz.prog.info? 203).map (·.size)=some 1:=by kernel_rfl
theorem zJu:(Tryz.prog.info? 205).map (·.size)=some 1:=by kernel_rfl
theorem zJt:(Tryz.prog.info? 217).map (·.size)=some 1:=by kernel_rfl
theorem zJs:(Tryz.prog.info? 224).map (·.size)=some 1:=by kernel_rfl
theorem zJr:(Tryz.prog.info? 225).map (·.size)=some 1:=by kernel_rfl
theorem zJq:(Tryz.prog.info? 229).map (·.size)=some 1:=by kernel_rfl
theorem zJp:(Tryz.prog.info? 233).map (·.size)=some 1:=by kernel_rfl
theorem zJo:(Tryz.prog.info? 235).map (·.size)=some 1:=by kernel_rfl
theorem zJn:(Tryz.prog.info? 236).map (·.size)=some 1:=by kernel_rfl
theorem zJm:(Tryz.prog.info? 237).map (·.size)=some 1:=by kernel_rfl
theorem zJl:(Tryz.prog.info? 239).map (·.size)=some 1:=by kernel_rfl
theorem zJk:(Tryz.prog.info? 242).map (·.size)=some 24:=by kernel_rfl
theorem zJj:(Tryz.prog.info? 244).map (·.size)=some 1:=by kernel_rfl
theorem zJi:(Tryz.prog.info? 247).map (·.size)=some 256:=by kernel_rfl
theorem zJh:(Tryz.prog.info? 249).map (·.size)=some 2:=by kernel_rfl
theorem zJg:(Tryz.prog.info? 250).map (·.size)=some 32:=by kernel_rfl
theorem zJf:(Tryz.prog.info? 253).map (·.size)=some 4:=by kernel_rfl
theorem zJe:(Tryz.prog.info? 258).map (·.size)=some 1:=by kernel_rfl
theorem zJd:(Tryz.prog.info? 262).map (·.size)=some 3:=by kernel_rfl
theorem zJc:(Tryz.prog.info? 265).map (·.size)=some 20:=by kernel_rfl
theorem zJb:(Tryz.prog.info? 266).map (·.size)=some 65:=by kernel_rfl
theorem zJa:(Tryz.prog.info? 268).map (·.size)=some 1:=by kernel_rfl
theorem zI9:(Tryz.prog.info? 269).map (·.size)=some 1:=by kernel_rfl
theorem zI8:(Tryz.prog.info? 271).map (·.size)=some 1:=by kernel_rfl
theorem zI7:(Tryz.prog.info? 272).map (·.size)=some 32:=by kernel_rfl
theorem zI6:(Tryz.prog.info? 273).map (·.size)=some 64:=by kernel_rfl
instance:TSize Tryz.prog 0 1:=⟨zPB⟩
instance:TOne Tryz.prog 0:=⟨⟨_,underlying0,rfl⟩,zPB⟩
instance:TSize Tryz.prog 1 1:=⟨zPA⟩
instance:TOne Tryz.prog 1:=⟨⟨_,underlying1,rfl⟩,zPA⟩
instance:TZer Tryz.prog 1 [.nilFunc]:=⟨by kernel_rfl⟩
instance:TSize Tryz.prog 2 1:=⟨zLG⟩
instance:TOne Tryz.prog 2:=⟨⟨_,underlying2,rfl⟩,zLG⟩
instance:TInt Tryz.prog 2 .i64:=⟨underlying2⟩
instance:TZer Tryz.prog 2 [.int .i64 0]:=⟨by kernel_rfl⟩
instance:TSize Tryz.prog 3 1:=⟨iJ⟩
instance:TOne Tryz.prog 3:=⟨⟨_,underlying3,rfl⟩,iJ⟩
instance:TInt Tryz.prog 3 .i64:=⟨underlying3⟩
instance:TZer Tryz.prog 3 [.int .i64 0]:=⟨by kernel_rfl⟩
instance:TSize Tryz.prog 4 1:=⟨zDs⟩
instance:TOne Tryz.prog 4:=⟨⟨_,underlying4,rfl⟩,zDs⟩
instance:TBool Tryz.prog 4:=⟨underlying4⟩
instance:TZer Tryz.prog 4 [.bool false]:=⟨by kernel_rfl⟩
instance:TSize Tryz.prog 5 1:=⟨zLF⟩
instance:TOne Tryz.prog 5:=⟨⟨_,underlying5,rfl⟩,zLF⟩
instance:TInt Tryz.prog 5 .u8:=⟨underlying5⟩
instance:TZer Tryz.prog 5 [.int .u8 0]:=⟨by kernel_rfl⟩
instance:TSize Tryz.prog 6 1:=⟨zLE⟩
instance:TOne Tryz.prog 6:=⟨⟨_,underlying6,rfl⟩,zLE⟩
instance:TInt Tryz.prog 6 .u8:=⟨underlying6⟩
instance:TZer Tryz.prog 6 [.int .u8 0]:=⟨by kernel_rfl⟩
instance:TSize Tryz.prog 7 4:=⟨zPz⟩
instance:TRow Tryz.prog 7 4:=⟨⟨_,underlying7,rfl⟩,zPz⟩
instance:TZer Tryz.prog 7 [.int .i64 0,.int .i64 0,.bool false,.int .u8 0]:=⟨by kernel_rfl⟩
instance:TStruct Tryz.prog 7 [(0,1),(1,1),(2,1),(3,1)]:=⟨.inl ⟨_,underlying7,by kernel_rfl⟩⟩
instance:TFld Tryz.prog 7 0 0 0 false:=⟨⟨_,_,_,underlying7,rfl,rfl,underlying2,rfl,zLG⟩⟩
instance:TFld Tryz.prog 7 1 1 0 false:=⟨⟨_,_,_,underlying7,rfl,rfl,underlying3,rfl,iJ⟩⟩
instance:TFld Tryz.prog 7 2 2 0 false:=⟨⟨_,_,_,underlying7,rfl,rfl,underlying4,rfl,zDs⟩⟩
instance:TFld Tryz.prog 7 3 3 0 false:=⟨⟨_,_,_,underlying7,rfl,rfl,underlying6,rfl,zLE⟩⟩
instance:TSize Tryz.prog 8 4:=⟨zPy⟩
instance:TRow Tryz.prog 8 4:=⟨⟨_,underlying8,rfl⟩,zPy⟩
instance:TZer Tryz.prog 8 [.int .i64 0,.int .i64 0,.bool false,.int .u8 0]:=⟨by kernel_rfl⟩
instance:TStruct Tryz.prog 8 [(0,1),(1,1),(2,1),(3,1)]:=⟨.inl ⟨_,underlying8,by kernel_rfl⟩⟩
instance:TFld Tryz.prog 8 0 0 0 false:=⟨⟨_,_,_,underlying8,rfl,rfl,underlying2,rfl,zLG⟩⟩
instance:TFld Tryz.prog 8 1 1 0 false:=⟨⟨_,_,_,underlying8,rfl,rfl,underlying3,rfl,iJ⟩⟩
instance:TFld Tryz.prog 8 2 2 0 false:=⟨⟨_,_,_,underlying8,rfl,rfl,underlying4,rfl,zDs⟩⟩
instance:TFld Tryz.prog 8 3 3 0 false:=⟨⟨_,_,_,underlying8,rfl,rfl,underlying6,rfl,zLE⟩⟩
instance:TSize Tryz.prog 9 1:=⟨jM⟩
instance:TOne Tryz.prog 9:=⟨⟨_,underlying9,rfl⟩,jM⟩
instance:TStr Tryz.prog 9:=⟨underlying9⟩
instance:TZer Tryz.prog 9 [.string ⟨#[]⟩]:=⟨by kernel_rfl⟩
instance:TSize Tryz.prog 10 1:=⟨zM0⟩
instance:TOne Tryz.prog 10:=⟨⟨_,underlying10,rfl⟩,zM0⟩
instance:TStr Tryz.prog 10:=⟨underlying10⟩
instance:TZer Tryz.prog 10 [.string ⟨#[]⟩]:=⟨by kernel_rfl⟩
instance:TSize Tryz.prog 11 1:=⟨zMZ⟩
instance:TOne Tryz.prog 11:=⟨⟨_,underlying11,rfl⟩,zMZ⟩
instance:TStr Tryz.prog 11:=⟨underlying11⟩
instance:TZer Tryz.prog 11 [.string ⟨#[]⟩]:=⟨by kernel_rfl⟩
instance:TSize Tryz.prog 20 1:=⟨zMY⟩
instance:TOne Tryz.prog 20:=⟨⟨_,underlying20,rfl⟩,zMY⟩
instance:TIfc Tryz.prog 20:=⟨_,underlying20⟩
instance:TZer Tryz.prog 20 [.nilIface]:=⟨by kernel_rfl⟩
instance:TSize Tryz.prog 21 1:=⟨zMX⟩
instance:TOne Tryz.prog 21:=⟨⟨_,underlying21,rfl⟩,zMX⟩
instance:TInt Tryz.prog 21 .i32:=⟨underlying21⟩
instance:TZer Tryz.prog 21 [.int .i32 0]:=⟨by kernel_rfl⟩
instance:TSize Tryz.prog 22 1:=⟨zBc⟩
instance:TOne Tryz.prog 22:=⟨⟨_,underlying22,rfl⟩,zBc⟩
instance:TSlice Tryz.prog 22 51:=⟨underlying22⟩
instance:TZer Tryz.prog 22 [.slice none 0 0]:=⟨by kernel_rfl⟩
instance:TSize Tryz.prog 23 1:=⟨zFV⟩
instance:TOne Tryz.prog 23:=⟨⟨_,underlying23,rfl⟩,zFV⟩
instance:TSlice Tryz.prog 23 64:=⟨underlying23⟩
instance:TZer Tryz.prog 23 [.slice none 0 0]:=⟨by kernel_rfl⟩
instance:TSize Tryz.prog 25 3:=⟨zFU⟩
instance:TRow Tryz.prog 25 3:=⟨⟨_,underlying25,rfl⟩,zFU⟩
instance:TZer Tryz.prog 25 [.string ⟨#[]⟩,.slice none 0 0,.slice none 0 0]:=⟨by kernel_rfl⟩
instance:TStruct Tryz.prog 25 [(0,1),(1,1),(2,1)]:=⟨.inl ⟨_,underlying25,by kernel_rfl⟩⟩
instance:TFld Tryz.prog 25 0 0 0 false:=⟨⟨_,_,_,underlying25,rfl,rfl,underlying9,rfl,jM⟩⟩
instance:TFld Tryz.prog 25 1 1 0 false:=⟨⟨_,_,_,underlying25,rfl,rfl,underlying22,rfl,zBc⟩⟩
instance:TFld Tryz.prog 25 2 2 0 false:=⟨⟨_,_,_,underlying25,rfl,rfl,underlying23,rfl,zFV⟩⟩
instance:TSize Tryz.prog 26 1:=⟨zMW⟩
instance:TOne Tryz.prog 26:=⟨⟨_,underlying26,rfl⟩,zMW⟩
instance:TInt Tryz.prog 26 .i64:=⟨underlying26⟩
instance:TZer Tryz.prog 26 [.int .i64 0]:=⟨by kernel_rfl⟩
instance:TSize Tryz.prog 27 1:=⟨zMV⟩
instance:TOne Tryz.prog 27:=⟨⟨_,underlying27,rfl⟩,zMV⟩
instance:TSize Tryz.prog 32 1:=⟨zMU⟩
instance:TOne Tryz.prog 32:=⟨⟨_,underlying32,rfl⟩,zMU⟩
instance:TZer Tryz.prog 32 [.nilFunc]:=⟨by kernel_rfl⟩
instance:TSize Tryz.prog 33 1:=⟨zMT⟩
instance:TOne Tryz.prog 33:=⟨⟨_,underlying33,rfl⟩,zMT⟩
instance:TSlice Tryz.prog 33 25:=⟨underlying33⟩
instance:TZer Tryz.prog 33 [.slice none 0 0]:=⟨by kernel_rfl⟩
instance:TSize Tryz.prog 36 1:=⟨zMS⟩
instance:TOne Tryz.prog 36:=⟨⟨_,underlying36,rfl⟩,zMS⟩
instance:TSize Tryz.prog 37 1:=⟨zMR⟩
instance:TOne Tryz.prog 37:=⟨⟨_,underlying37,rfl⟩,zMR⟩
instance:TZer Tryz.prog 37 [.pointer none]:=⟨by kernel_rfl⟩
instance:TSize Tryz.prog 39 1:=⟨zMQ⟩
instance:TRow Tryz.prog 39 1:=⟨⟨_,underlying39,rfl⟩,zMQ⟩
instance:TZer Tryz.prog 39 [.slice none 0 0]:=⟨by kernel_rfl⟩
instance:TStruct Tryz.prog 39 [(0,1)]:=⟨.inl ⟨_,underlying39,by kernel_rfl⟩⟩
instance:TFld Tryz.prog 39 0 0 0 false:=⟨⟨_,_,_,underlying39,rfl,rfl,underlying22,rfl,zBc⟩⟩
instance:TSize Tryz.prog 41 1:=⟨zMP⟩
instance:TOne Tryz.prog 41:=⟨⟨_,underlying41,rfl⟩,zMP⟩
instance:TSize Tryz.prog 43 1:=⟨zMO⟩
instance:TOne Tryz.prog 43:=⟨⟨_,underlying43,rfl⟩,zMO⟩
instance:TSize Tryz.prog 45 1:=⟨zMN⟩
instance:TOne Tryz.prog 45:=⟨⟨_,underlying45,rfl⟩,zMN⟩
instance:TSize Tryz.prog 46 1:=⟨zMM⟩
instance:TOne Tryz.prog 46:=⟨⟨_,underlying46,rfl⟩,zMM⟩
instance:TZer Tryz.prog 46 [.nilFunc]:=⟨by kernel_rfl⟩
instance:TSize Tryz.prog 47 1:=⟨zML⟩
instance:TOne Tryz.prog 47:=⟨⟨_,underlying47,rfl⟩,zML⟩
instance:TZer Tryz.prog 47 [.nilFunc]:=⟨by kernel_rfl⟩
instance:TSize Tryz.prog 48 1:=⟨zMK⟩
instance:TOne Tryz.prog 48:=⟨⟨_,underlying48,rfl⟩,zMK⟩
instance:TZer Tryz.prog 48 [.nilFunc]:=⟨by kernel_rfl⟩
instance:TSize Tryz.prog 49 1:=⟨zFT⟩
instance:TOne Tryz.prog 49:=⟨⟨_,underlying49,rfl⟩,zFT⟩
instance:TSlice Tryz.prog 49 71:=⟨underlying49⟩
instance:TZer Tryz.prog 49 [.slice none 0 0]:=⟨by kernel_rfl⟩
instance:TSize Tryz.prog 50 2:=⟨zMJ⟩
instance:TRow Tryz.prog 50 2:=⟨⟨_,underlying50,rfl⟩,zMJ⟩
instance:TZer Tryz.prog 50 [.string ⟨#[]⟩,.slice none 0 0]:=⟨by kernel_rfl⟩
instance:TStruct Tryz.prog 50 [(0,1),(1,1)]:=⟨.inl ⟨_,underlying50,by kernel_rfl⟩⟩
instance:TFld Tryz.prog 50 0 0 0 false:=⟨⟨_,_,_,underlying50,rfl,rfl,underlying9,rfl,jM⟩⟩
instance:TFld Tryz.prog 50 1 1 0 false:=⟨⟨_,_,_,underlying50,rfl,rfl,underlying49,rfl,zFT⟩⟩
instance:TSize Tryz.prog 51 2:=⟨zMI⟩
instance:TRow Tryz.prog 51 2:=⟨⟨_,underlying51,rfl⟩,zMI⟩
instance:TZer Tryz.prog 51 [.string ⟨#[]⟩,.slice none 0 0]:=⟨by kernel_rfl⟩
instance:TStruct Tryz.prog 51 [(0,1),(1,1)]:=⟨.inl ⟨_,underlying51,by kernel_rfl⟩⟩
instance:TFld Tryz.prog 51 0 0 0 false:=⟨⟨_,_,_,underlying51,rfl,rfl,underlying9,rfl,jM⟩⟩
instance:TFld Tryz.prog 51 1 1 0 false:=⟨⟨_,_,_,underlying51,rfl,rfl,underlying49,rfl,zFT⟩⟩
instance:TSize Tryz.prog 52 1:=⟨zBb⟩
instance:TOne Tryz.prog 52:=⟨⟨_,underlying52,rfl⟩,zBb⟩
instance:TSlice Tryz.prog 52 9:=⟨underlying52⟩
instance:TZer Tryz.prog 52 [.slice none 0 0]:=⟨by kernel_rfl⟩
instance:TSize Tryz.prog 53 1:=⟨zMH⟩
instance:TOne Tryz.prog 53:=⟨⟨_,underlying53,rfl⟩,zMH⟩
instance:TSize Tryz.prog 54 1:=⟨zMG⟩
instance:TOne Tryz.prog 54:=⟨⟨_,underlying54,rfl⟩,zMG⟩
instance:TZer Tryz.prog 54 [.nilFunc]:=⟨by kernel_rfl⟩
instance:TSize Tryz.prog 55 4:=⟨zMF⟩
instance:TRow Tryz.prog 55 4:=⟨⟨_,underlying55,rfl⟩,zMF⟩
instance:TZer Tryz.prog 55 [.int .i64 0,.string ⟨#[]⟩,.string ⟨#[]⟩,.string ⟨#[]⟩]:=⟨by kernel_rfl⟩
instance:TStruct Tryz.prog 55 [(0,1),(1,1),(2,1),(3,1)]:=⟨.inl ⟨_,underlying55,by kernel_rfl⟩⟩
instance:TFld Tryz.prog 55 0 0 0 false:=⟨⟨_,_,_,underlying55,rfl,rfl,underlying3,rfl,iJ⟩⟩
instance:TFld Tryz.prog 55 1 1 0 false:=⟨⟨_,_,_,underlying55,rfl,rfl,underlying9,rfl,jM⟩⟩
instance:TFld Tryz.prog 55 2 2 0 false:=⟨⟨_,_,_,underlying55,rfl,rfl,underlying9,rfl,jM⟩⟩
instance:TFld Tryz.prog 55 3 3 0 false:=⟨⟨_,_,_,underlying55,rfl,rfl,underlying9,rfl,jM⟩⟩
instance:TSize Tryz.prog 56 4:=⟨zFS⟩
instance:TRow Tryz.prog 56 4:=⟨⟨_,underlying56,rfl⟩,zFS⟩
instance:TZer Tryz.prog 56 [.int .i64 0,.string ⟨#[]⟩,.string ⟨#[]⟩,.string ⟨#[]⟩]:=⟨by kernel_rfl⟩
instance:TStruct Tryz.prog 56 [(0,1),(1,1),(2,1),(3,1)]:=⟨.inl ⟨_,underlying56,by kernel_rfl⟩⟩
instance:TFld Tryz.prog 56 0 0 0 false:=⟨⟨_,_,_,underlying56,rfl,rfl,underlying3,rfl,iJ⟩⟩
instance:TFld Tryz.prog 56 1 1 0 false:=⟨⟨_,_,_,underlying56,rfl,rfl,underlying9,rfl,jM⟩⟩
instance:TFld Tryz.prog 56 2 2 0 false:=⟨⟨_,_,_,underlying56,rfl,rfl,underlying9,rfl,jM⟩⟩
instance:TFld Tryz.prog 56 3 3 0 false:=⟨⟨_,_,_,underlying56,rfl,rfl,underlying9,rfl,jM⟩⟩
instance:TSize Tryz.prog 57 6:=⟨zME⟩
instance:TRow Tryz.prog 57 6:=⟨⟨_,underlying57,rfl⟩,zME⟩
instance:TZer Tryz.prog 57 [.int .i64 0,.int .i64 0,.int .i64 0,.string ⟨#[]⟩,.string ⟨#[]⟩,.string ⟨#[]⟩]:=⟨by kernel_rfl⟩
instance:TStruct Tryz.prog 57 [(0,1),(1,1),(2,4)]:=⟨.inl ⟨_,underlying57,by kernel_rfl⟩⟩
instance:TFld Tryz.prog 57 0 0 0 false:=⟨⟨_,_,_,underlying57,rfl,rfl,underlying3,rfl,iJ⟩⟩
instance:TFld Tryz.prog 57 1 1 0 false:=⟨⟨_,_,_,underlying57,rfl,rfl,underlying3,rfl,iJ⟩⟩
instance:TFld Tryz.prog 57 2 2 3 true:=⟨⟨_,_,_,underlying57,rfl,rfl,underlying56,rfl,zFS⟩⟩
instance:TSize Tryz.prog 58 6:=⟨zMD⟩
instance:TRow Tryz.prog 58 6:=⟨⟨_,underlying58,rfl⟩,zMD⟩
instance:TZer Tryz.prog 58 [.int .i64 0,.int .i64 0,.int .i64 0,.string ⟨#[]⟩,.string ⟨#[]⟩,.string ⟨#[]⟩]:=⟨by kernel_rfl⟩
instance:TStruct Tryz.prog 58 [(0,1),(1,1),(2,4)]:=⟨.inl ⟨_,underlying58,by kernel_rfl⟩⟩
instance:TFld Tryz.prog 58 0 0 0 false:=⟨⟨_,_,_,underlying58,rfl,rfl,underlying3,rfl,iJ⟩⟩
instance:TFld Tryz.prog 58 1 1 0 false:=⟨⟨_,_,_,underlying58,rfl,rfl,underlying3,rfl,iJ⟩⟩
instance:TFld Tryz.prog 58 2 2 3 true:=⟨⟨_,_,_,underlying58,rfl,rfl,underlying56,rfl,zFS⟩⟩
instance:TSize Tryz.prog 59 1:=⟨zI5⟩
instance:TOne Tryz.prog 59:=⟨⟨_,underlying59,rfl⟩,zI5⟩
instance:TSlice Tryz.prog 59 58:=⟨underlying59⟩
instance:TZer Tryz.prog 59 [.slice none 0 0]:=⟨by kernel_rfl⟩
instance:TSize Tryz.prog 60 1:=⟨zI4⟩
instance:TOne Tryz.prog 60:=⟨⟨_,underlying60,rfl⟩,zI4⟩
instance:TSlice Tryz.prog 60 62:=⟨underlying60⟩
instance:TZer Tryz.prog 60 [.slice none 0 0]:=⟨by kernel_rfl⟩
instance:TSize Tryz.prog 62 6:=⟨zI3⟩
instance:TRow Tryz.prog 62 6:=⟨⟨_,underlying62,rfl⟩,zI3⟩
instance:TZer Tryz.prog 62 [.int .i64 0,.slice none 0 0,.string ⟨#[]⟩,.slice none 0 0,.int .i64 0,.int .i64 0]:=⟨by kernel_rfl⟩
instance:TStruct Tryz.prog 62 [(0,1),(1,1),(2,1),(3,1),(4,1),(5,1)]:=⟨.inl ⟨_,underlying62,by kernel_rfl⟩⟩
instance:TFld Tryz.prog 62 0 0 0 false:=⟨⟨_,_,_,underlying62,rfl,rfl,underlying3,rfl,iJ⟩⟩
instance:TFld Tryz.prog 62 1 1 0 false:=⟨⟨_,_,_,underlying62,rfl,rfl,underlying60,rfl,zI4⟩⟩
instance:TFld Tryz.prog 62 2 2 0 false:=⟨⟨_,_,_,underlying62,rfl,rfl,underlying9,rfl,jM⟩⟩
instance:TFld Tryz.prog 62 3 3 0 false:=⟨⟨_,_,_,underlying62,rfl,rfl,underlying52,rfl,zBb⟩⟩
instance:TFld Tryz.prog 62 4 4 0 false:=⟨⟨_,_,_,underlying62,rfl,rfl,underlying3,rfl,iJ⟩⟩
instance:TFld Tryz.prog 62 5 5 0 false:=⟨⟨_,_,_,underlying62,rfl,rfl,underlying3,rfl,iJ⟩⟩
instance:TSize Tryz.prog 64 12:=⟨zMC⟩
instance:TRow Tryz.prog 64 12:=⟨⟨_,underlying64,rfl⟩,zMC⟩
instance:TZer Tryz.prog 64 [.int .i64 0,.string ⟨#[]⟩,.slice none 0 0,.string ⟨#[]⟩,.string ⟨#[]⟩,.int .i64 0,.slice none 0 0,.string ⟨#[]⟩,.slice none 0 0,.int .i64 0,.int .i64 0,.slice none 0 0]:=⟨by kernel_rfl⟩
instance:TStruct Tryz.prog 64 [(0,1),(1,1),(2,1),(3,1),(4,1),(5,6),(11,1)]:=⟨.inl ⟨_,underlying64,by kernel_rfl⟩⟩
instance:TFld Tryz.prog 64 0 0 0 false:=⟨⟨_,_,_,underlying64,rfl,rfl,underlying3,rfl,iJ⟩⟩
instance:TFld Tryz.prog 64 1 1 0 false:=⟨⟨_,_,_,underlying64,rfl,rfl,underlying9,rfl,jM⟩⟩
instance:TFld Tryz.prog 64 2 2 0 false:=⟨⟨_,_,_,underlying64,rfl,rfl,underlying59,rfl,zI5⟩⟩
instance:TFld Tryz.prog 64 3 3 0 false:=⟨⟨_,_,_,underlying64,rfl,rfl,underlying9,rfl,jM⟩⟩
instance:TFld Tryz.prog 64 4 4 0 false:=⟨⟨_,_,_,underlying64,rfl,rfl,underlying9,rfl,jM⟩⟩
instance:TFld Tryz.prog 64 5 5 5 true:=⟨⟨_,_,_,underlying64,rfl,rfl,underlying62,rfl,zI3⟩⟩
instance:TFld Tryz.prog 64 6 11 0 false:=⟨⟨_,_,_,underlying64,rfl,rfl,underlying23,rfl,zFV⟩⟩
instance:TSize Tryz.prog 65 1:=⟨zMB⟩
instance:TOne Tryz.prog 65:=⟨⟨_,underlying65,rfl⟩,zMB⟩
instance:TZer Tryz.prog 65 [.pointer none]:=⟨by kernel_rfl⟩
instance:TSize Tryz.prog 66 3:=⟨zMA⟩
instance:TRow Tryz.prog 66 3:=⟨⟨_,underlying66,rfl⟩,zMA⟩
instance:TZer Tryz.prog 66 [.string ⟨#[]⟩,.slice none 0 0,.slice none 0 0]:=⟨by kernel_rfl⟩
instance:TStruct Tryz.prog 66 [(0,3)]:=⟨.inl ⟨_,underlying66,by kernel_rfl⟩⟩
instance:TFld Tryz.prog 66 0 0 2 true:=⟨⟨_,_,_,underlying66,rfl,rfl,underlying25,rfl,zFU⟩⟩
instance:TSize Tryz.prog 67 3:=⟨zMz⟩
instance:TRow Tryz.prog 67 3:=⟨⟨_,underlying67,rfl⟩,zMz⟩
instance:TZer Tryz.prog 67 [.string ⟨#[]⟩,.slice none 0 0,.slice none 0 0]:=⟨by kernel_rfl⟩
instance:TStruct Tryz.prog 67 [(0,3)]:=⟨.inl ⟨_,underlying67,by kernel_rfl⟩⟩
instance:TFld Tryz.prog 67 0 0 2 true:=⟨⟨_,_,_,underlying67,rfl,rfl,underlying25,rfl,zFU⟩⟩
instance:TSize Tryz.prog 68 1:=⟨zMy⟩
instance:TOne Tryz.prog 68:=⟨⟨_,underlying68,rfl⟩,zMy⟩
instance:TZer Tryz.prog 68 [.map none]:=⟨by kernel_rfl⟩
instance:TSize Tryz.prog 69 1:=⟨zMx⟩
instance:TOne Tryz.prog 69:=⟨⟨_,underlying69,rfl⟩,zMx⟩
instance:TZer Tryz.prog 69 [.nilFunc]:=⟨by kernel_rfl⟩
instance:TSize Tryz.prog 70 1:=⟨zMw⟩
instance:TOne Tryz.prog 70:=⟨⟨_,underlying70,rfl⟩,zMw⟩
instance:TZer Tryz.prog 70 [.nilFunc]:=⟨by kernel_rfl⟩
instance:TSize Tryz.prog 71 2:=⟨zMv⟩
instance:TRow Tryz.prog 71 2:=⟨⟨_,underlying71,rfl⟩,zMv⟩
instance:TZer Tryz.prog 71 [.string ⟨#[]⟩,.string ⟨#[]⟩]:=⟨by kernel_rfl⟩
instance:TArr Tryz.prog 71 2:=⟨⟨_,underlying71,underlying9,jM⟩,by kernel_rfl⟩
instance:TStruct Tryz.prog 71 []:=⟨.inr ⟨rfl,_,_,_,underlying71,jM⟩⟩
instance:TSize Tryz.prog 72 1:=⟨zMu⟩
instance:TOne Tryz.prog 72:=⟨⟨_,underlying72,rfl⟩,zMu⟩
instance:TZer Tryz.prog 72 [.nilFunc]:=⟨by kernel_rfl⟩
instance:TSize Tryz.prog 73 1:=⟨zMt⟩
instance:TOne Tryz.prog 73:=⟨⟨_,underlying73,rfl⟩,zMt⟩
instance:TZer Tryz.prog 73 [.nilFunc]:=⟨by kernel_rfl⟩
instance:TSize Tryz.prog 74 1:=⟨zMs⟩
instance:TOne Tryz.prog 74:=⟨⟨_,underlying74,rfl⟩,zMs⟩
instance:TZer Tryz.prog 74 [.nilFunc]:=⟨by kernel_rfl⟩
instance:TSize Tryz.prog 75 1:=⟨zMr⟩
instance:TOne Tryz.prog 75:=⟨⟨_,underlying75,rfl⟩,zMr⟩
instance:TZer Tryz.prog 75 [.nilFunc]:=⟨by kernel_rfl⟩
instance:TSize Tryz.prog 76 1:=⟨zMq⟩
instance:TOne Tryz.prog 76:=⟨⟨_,underlying76,rfl⟩,zMq⟩
instance:TZer Tryz.prog 76 [.nilFunc]:=⟨by kernel_rfl⟩
instance:TSize Tryz.prog 77 1:=⟨zMo⟩
instance:TOne Tryz.prog 77:=⟨⟨_,underlying77,rfl⟩,zMo⟩
instance:TZer Tryz.prog 77 [.nilFunc]:=⟨by kernel_rfl⟩
instance:TSize Tryz.prog 78 1:=⟨zMn⟩
instance:TOne Tryz.prog 78:=⟨⟨_,underlying78,rfl⟩,zMn⟩
instance:TZer Tryz.prog 78 [.nilFunc]:=⟨by kernel_rfl⟩
instance:TSize Tryz.prog 79 1:=⟨zMm⟩
instance:TOne Tryz.prog 79:=⟨⟨_,underlying79,rfl⟩,zMm⟩
instance:TZer Tryz.prog 79 [.nilFunc]:=⟨by kernel_rfl⟩
instance:TSize Tryz.prog 80 1:=⟨zMl⟩
instance:TOne Tryz.prog 80:=⟨⟨_,underlying80,rfl⟩,zMl⟩
instance:TZer Tryz.prog 80 [.nilFunc]:=⟨by kernel_rfl⟩
instance:TSize Tryz.prog 81 1:=⟨zMk⟩
instance:TOne Tryz.prog 81:=⟨⟨_,underlying81,rfl⟩,zMk⟩
instance:TZer Tryz.prog 81 [.pointer none]:=⟨by kernel_rfl⟩
instance:TSize Tryz.prog 82 2:=⟨zMj⟩
instance:TRow Tryz.prog 82 2:=⟨⟨_,underlying82,rfl⟩,zMj⟩
instance:TZer Tryz.prog 82 [.slice none 0 0,.int .i64 0]:=⟨by kernel_rfl⟩
instance:TStruct Tryz.prog 82 [(0,1),(1,1)]:=⟨.inl ⟨_,underlying82,by kernel_rfl⟩⟩
instance:TFld Tryz.prog 82 0 0 0 false:=⟨⟨_,_,_,underlying82,rfl,rfl,underlying22,rfl,zBc⟩⟩
instance:TFld Tryz.prog 82 1 1 0 false:=⟨⟨_,_,_,underlying82,rfl,rfl,underlying3,rfl,iJ⟩⟩
instance:TSize Tryz.prog 83 2:=⟨zMi⟩
instance:TRow Tryz.prog 83 2:=⟨⟨_,underlying83,rfl⟩,zMi⟩
instance:TZer Tryz.prog 83 [.slice none 0 0,.int .i64 0]:=⟨by kernel_rfl⟩
instance:TStruct Tryz.prog 83 [(0,1),(1,1)]:=⟨.inl ⟨_,underlying83,by kernel_rfl⟩⟩
instance:TFld Tryz.prog 83 0 0 0 false:=⟨⟨_,_,_,underlying83,rfl,rfl,underlying22,rfl,zBc⟩⟩
instance:TFld Tryz.prog 83 1 1 0 false:=⟨⟨_,_,_,underlying83,rfl,rfl,underlying3,rfl,iJ⟩⟩
instance:TSize Tryz.prog 84 1:=⟨zMh⟩
instance:TOne Tryz.prog 84:=⟨⟨_,underlying84,rfl⟩,zMh⟩
instance:TZer Tryz.prog 84 [.nilFunc]:=⟨by kernel_rfl⟩
instance:TSize Tryz.prog 85 1:=⟨zMg⟩
instance:TOne Tryz.prog 85:=⟨⟨_,underlying85,rfl⟩,zMg⟩
instance:TZer Tryz.prog 85 [.nilFunc]:=⟨by kernel_rfl⟩
instance:TSize Tryz.prog 86 1:=⟨zMf⟩
instance:TOne Tryz.prog 86:=⟨⟨_,underlying86,rfl⟩,zMf⟩
instance:TSize Tryz.prog 87 1:=⟨zMe⟩
instance:TOne Tryz.prog 87:=⟨⟨_,underlying87,rfl⟩,zMe⟩
instance:TZer Tryz.prog 87 [.nilFunc]:=⟨by kernel_rfl⟩
instance:TSize Tryz.prog 88 1:=⟨zMd⟩
instance:TOne Tryz.prog 88:=⟨⟨_,underlying88,rfl⟩,zMd⟩
instance:TZer Tryz.prog 88 [.map none]:=⟨by kernel_rfl⟩
instance:TSize Tryz.prog 89 1:=⟨zMc⟩
instance:TOne Tryz.prog 89:=⟨⟨_,underlying89,rfl⟩,zMc⟩
instance:TSize Tryz.prog 90 1:=⟨zMb⟩
instance:TOne Tryz.prog 90:=⟨⟨_,underlying90,rfl⟩,zMb⟩
instance:TZer Tryz.prog 90 [.nilFunc]:=⟨by kernel_rfl⟩
instance:TSize Tryz.prog 92 1:=⟨zMa⟩
instance:TOne Tryz.prog 92:=⟨⟨_,underlying92,rfl⟩,zMa⟩
instance:TZer Tryz.prog 92 [.nilFunc]:=⟨by kernel_rfl⟩
instance:TSize Tryz.prog 93 1:=⟨zL9⟩
instance:TOne Tryz.prog 93:=⟨⟨_,underlying93,rfl⟩,zL9⟩
instance:TZer Tryz.prog 93 [.nilFunc]:=⟨by kernel_rfl⟩
instance:TSize Tryz.prog 96 1:=⟨zL8⟩
instance:TOne Tryz.prog 96:=⟨⟨_,underlying96,rfl⟩,zL8⟩
instance:TSize Tryz.prog 97 1:=⟨zL7⟩
instance:TOne Tryz.prog 97:=⟨⟨_,underlying97,rfl⟩,zL7⟩
instance:TZer Tryz.prog 97 [.nilFunc]:=⟨by kernel_rfl⟩
instance:TSize Tryz.prog 98 1:=⟨zL6⟩
instance:TOne Tryz.prog 98:=⟨⟨_,underlying98,rfl⟩,zL6⟩
instance:TSize Tryz.prog 99 1:=⟨zL5⟩
instance:TOne Tryz.prog 99:=⟨⟨_,underlying99,rfl⟩,zL5⟩
instance:TZer Tryz.prog 99 [.nilFunc]:=⟨by kernel_rfl⟩
instance:TSize Tryz.prog 100 1:=⟨zKc⟩
instance:TOne Tryz.prog 100:=⟨⟨_,underlying100,rfl⟩,zKc⟩
instance:TZer Tryz.prog 100 [.nilFunc]:=⟨by kernel_rfl⟩
instance:TSize Tryz.prog 101 1:=⟨zKb⟩
instance:TOne Tryz.prog 101:=⟨⟨_,underlying101,rfl⟩,zKb⟩
instance:TSize Tryz.prog 102 1:=⟨zKa⟩
instance:TOne Tryz.prog 102:=⟨⟨_,underlying102,rfl⟩,zKa⟩
instance:TZer Tryz.prog 102 [.nilFunc]:=⟨by kernel_rfl⟩
instance:TSize Tryz.prog 103 1:=⟨zJ9⟩
instance:TOne Tryz.prog 103:=⟨⟨_,underlying103,rfl⟩,zJ9⟩
instance:TZer Tryz.prog 103 [.nilFunc]:=⟨by kernel_rfl⟩
instance:TSize Tryz.prog 104 1:=⟨zJ8⟩
instance:TOne Tryz.prog 104:=⟨⟨_,underlying104,rfl⟩,zJ8⟩
instance:TZer Tryz.prog 104 [.nilFunc]:=⟨by kernel_rfl⟩
instance:TSize Tryz.prog 105 1:=⟨zJ7⟩
instance:TOne Tryz.prog 105:=⟨⟨_,underlying105,rfl⟩,zJ7⟩
instance:TZer Tryz.prog 105 [.map none]:=⟨by kernel_rfl⟩
instance:TSize Tryz.prog 106 1:=⟨zJ6⟩
instance:TOne Tryz.prog 106:=⟨⟨_,underlying106,rfl⟩,zJ6⟩
instance:TZer Tryz.prog 106 [.nilFunc]:=⟨by kernel_rfl⟩
instance:TSize Tryz.prog 107 1:=⟨zJ5⟩
instance:TOne Tryz.prog 107:=⟨⟨_,underlying107,rfl⟩,zJ5⟩
instance:TZer Tryz.prog 107 [.nilFunc]:=⟨by kernel_rfl⟩
instance:TSize Tryz.prog 108 1:=⟨zJ4⟩
instance:TOne Tryz.prog 108:=⟨⟨_,underlying108,rfl⟩,zJ4⟩
instance:TZer Tryz.prog 108 [.map none]:=⟨by kernel_rfl⟩
instance:TSize Tryz.prog 109 4:=⟨zJ3⟩
instance:TRow Tryz.prog 109 4:=⟨⟨_,underlying109,rfl⟩,zJ3⟩
instance:TZer Tryz.prog 109 [.slice none 0 0,.string ⟨#[]⟩,.int .i64 0,.int .i64 0]:=⟨by kernel_rfl⟩
instance:TStruct Tryz.prog 109 [(0,1),(1,1),(2,1),(3,1)]:=⟨.inl ⟨_,underlying109,by kernel_rfl⟩⟩
instance:TFld Tryz.prog 109 0 0 0 false:=⟨⟨_,_,_,underlying109,rfl,rfl,underlying52,rfl,zBb⟩⟩
instance:TFld Tryz.prog 109 1 1 0 false:=⟨⟨_,_,_,underlying109,rfl,rfl,underlying9,rfl,jM⟩⟩
instance:TFld Tryz.prog 109 2 2 0 false:=⟨⟨_,_,_,underlying109,rfl,rfl,underlying3,rfl,iJ⟩⟩
instance:TFld Tryz.prog 109 3 3 0 false:=⟨⟨_,_,_,underlying109,rfl,rfl,underlying3,rfl,iJ⟩⟩
instance:TSize Tryz.prog 110 4:=⟨zJ2⟩
instance:TRow Tryz.prog 110 4:=⟨⟨_,underlying110,rfl⟩,zJ2⟩
instance:TZer Tryz.prog 110 [.slice none 0 0,.string ⟨#[]⟩,.int .i64 0,.int .i64 0]:=⟨by kernel_rfl⟩
instance:TStruct Tryz.prog 110 [(0,1),(1,1),(2,1),(3,1)]:=⟨.inl ⟨_,underlying110,by kernel_rfl⟩⟩
instance:TFld Tryz.prog 110 0 0 0 false:=⟨⟨_,_,_,underlying110,rfl,rfl,underlying52,rfl,zBb⟩⟩
instance:TFld Tryz.prog 110 1 1 0 false:=⟨⟨_,_,_,underlying110,rfl,rfl,underlying9,rfl,jM⟩⟩
instance:TFld Tryz.prog 110 2 2 0 false:=⟨⟨_,_,_,underlying110,rfl,rfl,underlying3,rfl,iJ⟩⟩
instance:TFld Tryz.prog 110 3 3 0 false:=⟨⟨_,_,_,underlying110,rfl,rfl,underlying3,rfl,iJ⟩⟩
instance:TSize Tryz.prog 111 1:=⟨zJ1⟩
instance:TOne Tryz.prog 111:=⟨⟨_,underlying111,rfl⟩,zJ1⟩
instance:TSize Tryz.prog 112 1:=⟨zJ0⟩
instance:TOne Tryz.prog 112:=⟨⟨_,underlying112,rfl⟩,zJ0⟩
instance:TZer Tryz.prog 112 [.nilFunc]:=⟨by kernel_rfl⟩
instance:TSize Tryz.prog 113 3:=⟨zJZ⟩
instance:TRow Tryz.prog 113 3:=⟨⟨_,underlying113,rfl⟩,zJZ⟩
instance:TZer Tryz.prog 113 [.string ⟨#[]⟩,.int .i64 0,.int .i64 0]:=⟨by kernel_rfl⟩
instance:TStruct Tryz.prog 113 [(0,1),(1,1),(2,1)]:=⟨.inl ⟨_,underlying113,by kernel_rfl⟩⟩
instance:TFld Tryz.prog 113 0 0 0 false:=⟨⟨_,_,_,underlying113,rfl,rfl,underlying9,rfl,jM⟩⟩
instance:TFld Tryz.prog 113 1 1 0 false:=⟨⟨_,_,_,underlying113,rfl,rfl,underlying3,rfl,iJ⟩⟩
instance:TFld Tryz.prog 113 2 2 0 false:=⟨⟨_,_,_,underlying113,rfl,rfl,underlying3,rfl,iJ⟩⟩
instance:TSize Tryz.prog 114 3:=⟨zJY⟩
instance:TRow Tryz.prog 114 3:=⟨⟨_,underlying114,rfl⟩,zJY⟩
instance:TZer Tryz.prog 114 [.string ⟨#[]⟩,.int .i64 0,.int .i64 0]:=⟨by kernel_rfl⟩
instance:TStruct Tryz.prog 114 [(0,1),(1,1),(2,1)]:=⟨.inl ⟨_,underlying114,by kernel_rfl⟩⟩
instance:TFld Tryz.prog 114 0 0 0 false:=⟨⟨_,_,_,underlying114,rfl,rfl,underlying9,rfl,jM⟩⟩
instance:TFld Tryz.prog 114 1 1 0 false:=⟨⟨_,_,_,underlying114,rfl,rfl,underlying3,rfl,iJ⟩⟩
instance:TFld Tryz.prog 114 2 2 0 false:=⟨⟨_,_,_,underlying114,rfl,rfl,underlying3,rfl,iJ⟩⟩
instance:TSize Tryz.prog 115 1:=⟨zJX⟩
instance:TOne Tryz.prog 115:=⟨⟨_,underlying115,rfl⟩,zJX⟩
instance:TZer Tryz.prog 115 [.nilFunc]:=⟨by kernel_rfl⟩
instance:TSize Tryz.prog 116 1:=⟨zJW⟩
instance:TOne Tryz.prog 116:=⟨⟨_,underlying116,rfl⟩,zJW⟩
instance:TZer Tryz.prog 116 [.nilFunc]:=⟨by kernel_rfl⟩
instance:TSize Tryz.prog 117 1:=⟨zJV⟩
instance:TOne Tryz.prog 117:=⟨⟨_,underlying117,rfl⟩,zJV⟩
instance:TZer Tryz.prog 117 [.nilFunc]:=⟨by kernel_rfl⟩
instance:TSize Tryz.prog 118 1:=⟨zJU⟩
instance:TOne Tryz.prog 118:=⟨⟨_,underlying118,rfl⟩,zJU⟩
instance:TZer Tryz.prog 118 [.nilFunc]:=⟨by kernel_rfl⟩
instance:TSize Tryz.prog 119 1:=⟨zJT⟩
instance:TOne Tryz.prog 119:=⟨⟨_,underlying119,rfl⟩,zJT⟩
instance:TZer Tryz.prog 119 [.nilFunc]:=⟨by kernel_rfl⟩
instance:TSize Tryz.prog 120 1:=⟨zJS⟩
instance:TOne Tryz.prog 120:=⟨⟨_,underlying120,rfl⟩,zJS⟩
instance:TZer Tryz.prog 120 [.nilFunc]:=⟨by kernel_rfl⟩
instance:TSize Tryz.prog 121 1:=⟨zJR⟩
instance:TOne Tryz.prog 121:=⟨⟨_,underlying121,rfl⟩,zJR⟩
instance:TZer Tryz.prog 121 [.nilFunc]:=⟨by kernel_rfl⟩
instance:TSize Tryz.prog 122 1:=⟨zJQ⟩
instance:TOne Tryz.prog 122:=⟨⟨_,underlying122,rfl⟩,zJQ⟩
instance:TZer Tryz.prog 122 [.nilFunc]:=⟨by kernel_rfl⟩
instance:TSize Tryz.prog 125 1:=⟨zJP⟩
instance:TOne Tryz.prog 125:=⟨⟨_,underlying125,rfl⟩,zJP⟩
instance:TInt Tryz.prog 125 .u64:=⟨underlying125⟩
instance:TZer Tryz.prog 125 [.int .u64 0]:=⟨by kernel_rfl⟩
instance:TSize Tryz.prog 127 4:=⟨zJO⟩
instance:TRow Tryz.prog 127 4:=⟨⟨_,underlying127,rfl⟩,zJO⟩
instance:TZer Tryz.prog 127 [.slice none 0 0,.string ⟨#[]⟩,.int .i64 0,.int .i64 0]:=⟨by kernel_rfl⟩
instance:TStruct Tryz.prog 127 [(0,1),(1,1),(2,1),(3,1)]:=⟨.inl ⟨_,underlying127,by kernel_rfl⟩⟩
instance:TFld Tryz.prog 127 0 0 0 false:=⟨⟨_,_,_,underlying127,rfl,rfl,underlying52,rfl,zBb⟩⟩
instance:TFld Tryz.prog 127 1 1 0 false:=⟨⟨_,_,_,underlying127,rfl,rfl,underlying9,rfl,jM⟩⟩
instance:TFld Tryz.prog 127 2 2 0 false:=⟨⟨_,_,_,underlying127,rfl,rfl,underlying3,rfl,iJ⟩⟩
instance:TFld Tryz.prog 127 3 3 0 false:=⟨⟨_,_,_,underlying127,rfl,rfl,underlying3,rfl,iJ⟩⟩
instance:TSize Tryz.prog 128 1:=⟨zJN⟩
instance:TOne Tryz.prog 128:=⟨⟨_,underlying128,rfl⟩,zJN⟩
instance:TSize Tryz.prog 134 1:=⟨zJM⟩
instance:TOne Tryz.prog 134:=⟨⟨_,underlying134,rfl⟩,zJM⟩
instance:TSize Tryz.prog 138 1:=⟨zJL⟩
instance:TOne Tryz.prog 138:=⟨⟨_,underlying138,rfl⟩,zJL⟩
instance:TSize Tryz.prog 140 1:=⟨zJK⟩
instance:TOne Tryz.prog 140:=⟨⟨_,underlying140,rfl⟩,zJK⟩
instance:TSize Tryz.prog 145 1:=⟨zJJ⟩
instance:TOne Tryz.prog 145:=⟨⟨_,underlying145,rfl⟩,zJJ⟩
instance:TSize Tryz.prog 147 1:=⟨zJI⟩
instance:TOne Tryz.prog 147:=⟨⟨_,underlying147,rfl⟩,zJI⟩
instance:TSize Tryz.prog 150 1:=⟨zJH⟩
instance:TOne Tryz.prog 150:=⟨⟨_,underlying150,rfl⟩,zJH⟩
instance:TSlice Tryz.prog 150 3:=⟨underlying150⟩
instance:TZer Tryz.prog 150 [.slice none 0 0]:=⟨by kernel_rfl⟩
instance:TSize Tryz.prog 153 1:=⟨zJG⟩
instance:TOne Tryz.prog 153:=⟨⟨_,underlying153,rfl⟩,zJG⟩
instance:TInt Tryz.prog 153 .i64:=⟨underlying153⟩
instance:TZer Tryz.prog 153 [.int .i64 0]:=⟨by kernel_rfl⟩
instance:TSize Tryz.prog 154 1:=⟨zJF⟩
instance:TOne Tryz.prog 154:=⟨⟨_,underlying154,rfl⟩,zJF⟩
instance:TSize Tryz.prog 160 1:=⟨zJE⟩
instance:TOne Tryz.prog 160:=⟨⟨_,underlying160,rfl⟩,zJE⟩
instance:TInt Tryz.prog 160 .u32:=⟨underlying160⟩
instance:TZer Tryz.prog 160 [.int .u32 0]:=⟨by kernel_rfl⟩
instance:TSize Tryz.prog 162 1:=⟨zJD⟩
instance:TOne Tryz.prog 162:=⟨⟨_,underlying162,rfl⟩,zJD⟩
instance:TInt Tryz.prog 162 .u64:=⟨underlying162⟩
instance:TZer Tryz.prog 162 [.int .u64 0]:=⟨by kernel_rfl⟩
instance:TSize Tryz.prog 165 256:=⟨zJC⟩
instance:TRow Tryz.prog 165 256:=⟨⟨_,underlying165,rfl⟩,zJC⟩
instance:TSize Tryz.prog 166 1:=⟨zJB⟩
instance:TOne Tryz.prog 166:=⟨⟨_,underlying166,rfl⟩,zJB⟩
instance:TSize Tryz.prog 169 1:=⟨zJA⟩
instance:TOne Tryz.prog 169:=⟨⟨_,underlying169,rfl⟩,zJA⟩
instance:TZer Tryz.prog 169 [.pointer none]:=⟨by kernel_rfl⟩
instance:TSize Tryz.prog 183 1:=⟨zEZ⟩
instance:TOne Tryz.prog 183:=⟨⟨_,underlying183,rfl⟩,zEZ⟩
instance:TIfc Tryz.prog 183:=⟨_,underlying183⟩
instance:TZer Tryz.prog 183 [.nilIface]:=⟨by kernel_rfl⟩
instance:TSize Tryz.prog 184 1:=⟨zJz⟩
instance:TOne Tryz.prog 184:=⟨⟨_,underlying184,rfl⟩,zJz⟩
instance:TSize Tryz.prog 191 1:=⟨zJy⟩
instance:TOne Tryz.prog 191:=⟨⟨_,underlying191,rfl⟩,zJy⟩
instance:TInt Tryz.prog 191 .u64:=⟨underlying191⟩
instance:TZer Tryz.prog 191 [.int .u64 0]:=⟨by kernel_rfl⟩
instance:TSize Tryz.prog 195 1:=⟨zJx⟩
instance:TOne Tryz.prog 195:=⟨⟨_,underlying195,rfl⟩,zJx⟩
instance:TZer Tryz.prog 195 [.pointer none]:=⟨by kernel_rfl⟩
instance:TSize Tryz.prog 198 1:=⟨zJw⟩
instance:TOne Tryz.prog 198:=⟨⟨_,underlying198,rfl⟩,zJw⟩
instance:TSize Tryz.prog 203 1:=⟨zJv⟩
instance:TOne Tryz.prog 203:=⟨⟨_,underlying203,rfl⟩,zJv⟩
instance:TZer Tryz.prog 203 [.pointer none]:=⟨by kernel_rfl⟩
instance:TSize Tryz.prog 205 1:=⟨zJu⟩
instance:TRow Tryz.prog 205 1:=⟨⟨_,underlying205,rfl⟩,zJu⟩
instance:TZer Tryz.prog 205 [.int .i64 0]:=⟨by kernel_rfl⟩
instance:TStruct Tryz.prog 205 [(0,1)]:=⟨.inl ⟨_,underlying205,by kernel_rfl⟩⟩
instance:TFld Tryz.prog 205 0 0 0 false:=⟨⟨_,_,_,underlying205,rfl,rfl,underlying3,rfl,iJ⟩⟩
instance:TSize Tryz.prog 217 1:=⟨zJt⟩
instance:TOne Tryz.prog 217:=⟨⟨_,underlying217,rfl⟩,zJt⟩
instance:TZer Tryz.prog 217 [.nilFunc]:=⟨by kernel_rfl⟩
instance:TSize Tryz.prog 224 1:=⟨zJs⟩
instance:TOne Tryz.prog 224:=⟨⟨_,underlying224,rfl⟩,zJs⟩
instance:TZer Tryz.prog 224 [.pointer none]:=⟨by kernel_rfl⟩
instance:TSize Tryz.prog 225 1:=⟨zJr⟩
instance:TOne Tryz.prog 225:=⟨⟨_,underlying225,rfl⟩,zJr⟩
instance:TSize Tryz.prog 229 1:=⟨zJq⟩
instance:TOne Tryz.prog 229:=⟨⟨_,underlying229,rfl⟩,zJq⟩
instance:TZer Tryz.prog 229 [.nilFunc]:=⟨by kernel_rfl⟩
instance:TSize Tryz.prog 233 1:=⟨zJp⟩
instance:TOne Tryz.prog 233:=⟨⟨_,underlying233,rfl⟩,zJp⟩
instance:TSize Tryz.prog 235 1:=⟨zJo⟩
instance:TOne Tryz.prog 235:=⟨⟨_,underlying235,rfl⟩,zJo⟩
instance:TInt Tryz.prog 235 .i64:=⟨underlying235⟩
instance:TZer Tryz.prog 235 [.int .i64 0]:=⟨by kernel_rfl⟩
instance:TSize Tryz.prog 236 1:=⟨zJn⟩
instance:TOne Tryz.prog 236:=⟨⟨_,underlying236,rfl⟩,zJn⟩
instance:TSlice Tryz.prog 236 5:=⟨underlying236⟩
instance:TZer Tryz.prog 236 [.slice none 0 0]:=⟨by kernel_rfl⟩
instance:TSize Tryz.prog 237 1:=⟨zJm⟩
instance:TOne Tryz.prog 237:=⟨⟨_,underlying237,rfl⟩,zJm⟩
instance:TSize Tryz.prog 239 1:=⟨zJl⟩
instance:TOne Tryz.prog 239:=⟨⟨_,underlying239,rfl⟩,zJl⟩
instance:TZer Tryz.prog 239 [.pointer none]:=⟨by kernel_rfl⟩
instance:TSize Tryz.prog 242 24:=⟨zJk⟩
instance:TRow Tryz.prog 242 24:=⟨⟨_,underlying242,rfl⟩,zJk⟩
instance:TZer Tryz.prog 242 [.int .u8 0,.int .u8 0,.int .u8 0,.int .u8 0,.int .u8 0,.int .u8 0,.int .u8 0,.int .u8 0,.int .u8 0,.int .u8 0,.int .u8 0,.int .u8 0,.int .u8 0,.int .u8 0,.int .u8 0,.int .u8 0,.int .u8 0,.int .u8 0,.int .u8 0,.int .u8 0,.int .u8 0,.int .u8 0,.int .u8 0,.int .u8 0]:=⟨by kernel_rfl⟩
instance:TSize Tryz.prog 244 1:=⟨zJj⟩
instance:TOne Tryz.prog 244:=⟨⟨_,underlying244,rfl⟩,zJj⟩
instance:TSize Tryz.prog 247 256:=⟨zJi⟩
instance:TRow Tryz.prog 247 256:=⟨⟨_,underlying247,rfl⟩,zJi⟩
instance:TSize Tryz.prog 249 2:=⟨zJh⟩
instance:TRow Tryz.prog 249 2:=⟨⟨_,underlying249,rfl⟩,zJh⟩
instance:TZer Tryz.prog 249 [.int .u8 0,.int .u8 0]:=⟨by kernel_rfl⟩
instance:TStruct Tryz.prog 249 [(0,1),(1,1)]:=⟨.inl ⟨_,underlying249,by kernel_rfl⟩⟩
instance:TFld Tryz.prog 249 0 0 0 false:=⟨⟨_,_,_,underlying249,rfl,rfl,underlying5,rfl,zLF⟩⟩
instance:TFld Tryz.prog 249 1 1 0 false:=⟨⟨_,_,_,underlying249,rfl,rfl,underlying5,rfl,zLF⟩⟩
instance:TSize Tryz.prog 250 32:=⟨zJg⟩
instance:TRow Tryz.prog 250 32:=⟨⟨_,underlying250,rfl⟩,zJg⟩
instance:TZer Tryz.prog 250 [.int .u8 0,.int .u8 0,.int .u8 0,.int .u8 0,.int .u8 0,.int .u8 0,.int .u8 0,.int .u8 0,.int .u8 0,.int .u8 0,.int .u8 0,.int .u8 0,.int .u8 0,.int .u8 0,.int .u8 0,.int .u8 0,.int .u8 0,.int .u8 0,.int .u8 0,.int .u8 0,.int .u8 0,.int .u8 0,.int .u8 0,.int .u8 0,.int .u8 0,.int .u8 0,.int .u8 0,.int .u8 0,.int .u8 0,.int .u8 0,.int .u8 0,.int .u8 0]:=⟨by kernel_rfl⟩
instance:TSize Tryz.prog 253 4:=⟨zJf⟩
instance:TRow Tryz.prog 253 4:=⟨⟨_,underlying253,rfl⟩,zJf⟩
instance:TZer Tryz.prog 253 [.bool false,.bool false,.bool false,.bool false]:=⟨by kernel_rfl⟩
instance:TStruct Tryz.prog 253 [(0,1),(1,1),(2,1),(3,1)]:=⟨.inl ⟨_,underlying253,by kernel_rfl⟩⟩
instance:TFld Tryz.prog 253 0 0 0 false:=⟨⟨_,_,_,underlying253,rfl,rfl,underlying4,rfl,zDs⟩⟩
instance:TFld Tryz.prog 253 1 1 0 false:=⟨⟨_,_,_,underlying253,rfl,rfl,underlying4,rfl,zDs⟩⟩
instance:TFld Tryz.prog 253 2 2 0 false:=⟨⟨_,_,_,underlying253,rfl,rfl,underlying4,rfl,zDs⟩⟩
instance:TFld Tryz.prog 253 3 3 0 false:=⟨⟨_,_,_,underlying253,rfl,rfl,underlying4,rfl,zDs⟩⟩
instance:TSize Tryz.prog 258 1:=⟨zJe⟩
instance:TOne Tryz.prog 258:=⟨⟨_,underlying258,rfl⟩,zJe⟩
instance:TSize Tryz.prog 262 3:=⟨zJd⟩
instance:TRow Tryz.prog 262 3:=⟨⟨_,underlying262,rfl⟩,zJd⟩
instance:TZer Tryz.prog 262 [.string ⟨#[]⟩,.string ⟨#[]⟩,.nilIface]:=⟨by kernel_rfl⟩
instance:TStruct Tryz.prog 262 [(0,1),(1,1),(2,1)]:=⟨.inl ⟨_,underlying262,by kernel_rfl⟩⟩
instance:TFld Tryz.prog 262 0 0 0 false:=⟨⟨_,_,_,underlying262,rfl,rfl,underlying9,rfl,jM⟩⟩
instance:TFld Tryz.prog 262 1 1 0 false:=⟨⟨_,_,_,underlying262,rfl,rfl,underlying9,rfl,jM⟩⟩
instance:TFld Tryz.prog 262 2 2 0 false:=⟨⟨_,_,_,underlying262,rfl,rfl,underlying183,rfl,zEZ⟩⟩
instance:TSize Tryz.prog 265 20:=⟨zJc⟩
instance:TRow Tryz.prog 265 20:=⟨⟨_,underlying265,rfl⟩,zJc⟩
instance:TZer Tryz.prog 265 [.int .u64 0,.int .u64 0,.int .u64 0,.int .u64 0,.int .u64 0,.int .u64 0,.int .u64 0,.int .u64 0,.int .u64 0,.int .u64 0,.int .u64 0,.int .u64 0,.int .u64 0,.int .u64 0,.int .u64 0,.int .u64 0,.int .u64 0,.int .u64 0,.int .u64 0,.int .u64 0]:=⟨by kernel_rfl⟩
instance:TSize Tryz.prog 266 65:=⟨zJb⟩
instance:TRow Tryz.prog 266 65:=⟨⟨_,underlying266,rfl⟩,zJb⟩
instance:TSize Tryz.prog 268 1:=⟨zJa⟩
instance:TOne Tryz.prog 268:=⟨⟨_,underlying268,rfl⟩,zJa⟩
instance:TZer Tryz.prog 268 [.pointer none]:=⟨by kernel_rfl⟩
instance:TSize Tryz.prog 269 1:=⟨zI9⟩
instance:TOne Tryz.prog 269:=⟨⟨_,underlying269,rfl⟩,zI9⟩
instance:TZer Tryz.prog 269 [.pointer none]:=⟨by kernel_rfl⟩
instance:TSize Tryz.prog 271 1:=⟨zI8⟩
instance:TRow Tryz.prog 271 1:=⟨⟨_,underlying271,rfl⟩,zI8⟩
instance:TZer Tryz.prog 271 [.string ⟨#[]⟩]:=⟨by kernel_rfl⟩
instance:TStruct Tryz.prog 271 [(0,1)]:=⟨.inl ⟨_,underlying271,by kernel_rfl⟩⟩
instance:TFld Tryz.prog 271 0 0 0 false:=⟨⟨_,_,_,underlying271,rfl,rfl,underlying9,rfl,jM⟩⟩
instance:TSize Tryz.prog 272 32:=⟨zI7⟩
instance:TRow Tryz.prog 272 32:=⟨⟨_,underlying272,rfl⟩,zI7⟩
instance:TZer Tryz.prog 272 [.int .u8 0,.int .u8 0,.int .u8 0,.int .u8 0,.int .u8 0,.int .u8 0,.int .u8 0,.int .u8 0,.int .u8 0,.int .u8 0,.int .u8 0,.int .u8 0,.int .u8 0,.int .u8 0,.int .u8 0,.int .u8 0,.int .u8 0,.int .u8 0,.int .u8 0,.int .u8 0,.int .u8 0,.int .u8 0,.int .u8 0,.int .u8 0,.int .u8 0,.int .u8 0,.int .u8 0,.int .u8 0,.int .u8 0,.int .u8 0,.int .u8 0,.int .u8 0]:=⟨by kernel_rfl⟩
instance:TSize Tryz.prog 273 64:=⟨zI6⟩
instance:TRow Tryz.prog 273 64:=⟨⟨_,underlying273,rfl⟩,zI6⟩
instance:TZer Tryz.prog 273 [.int .u8 0,.int .u8 0,.int .u8 0,.int .u8 0,.int .u8 0,.int .u8 0,.int .u8 0,.int .u8 0,.int .u8 0,.int .u8 0,.int .u8 0,.int .u8 0,.int .u8 0,.int .u8 0,.int .u8 0,.int .u8 0,.int .u8 0,.int .u8 0,.int .u8 0,.int .u8 0,.int .u8 0,.int .u8 0,.int .u8 0,.int .u8 0,.int .u8 0,.int .u8 0,.int .u8 0,.int .u8 0,.int .u8 0,.int .u8 0,.int .u8 0,.int .u8 0,.int .u8 0,.int .u8 0,.int .u8 0,.int .u8 0,.int .u8 0,.int .u8 0,.int .u8 0,.int .u8 0,.int .u8 0,.int .u8 0,.int .u8 0,.int .u8 0,.int .u8 0,.int .u8 0,.int .u8 0,.int .u8 0,.int .u8 0,.int .u8 0,.int .u8 0,.int .u8 0,.int .u8 0,.int .u8 0,.int .u8 0,.int .u8 0,.int .u8 0,.int .u8 0,.int .u8 0,.int .u8 0,.int .u8 0,.int .u8 0,.int .u8 0,.int .u8 0]:=⟨by kernel_rfl⟩
instance:Enters Tryz.prog 3:=⟨⟨_,func3,by kernel_rfl,by kernel_rfl⟩⟩
instance:Enters Tryz.prog 7:=⟨⟨_,func7,by kernel_rfl,by kernel_rfl⟩⟩
instance:Enters Tryz.prog 12:=⟨⟨_,func12,by kernel_rfl,by kernel_rfl⟩⟩
instance:Enters Tryz.prog 14:=⟨⟨_,func14,by kernel_rfl,by kernel_rfl⟩⟩
instance:Enters Tryz.prog 16:=⟨⟨_,func16,by kernel_rfl,by kernel_rfl⟩⟩
instance:Enters Tryz.prog 19:=⟨⟨_,func19,by kernel_rfl,by kernel_rfl⟩⟩
instance:Enters Tryz.prog 24:=⟨⟨_,func24,by kernel_rfl,by kernel_rfl⟩⟩
instance:Enters Tryz.prog 27:=⟨⟨_,func27,by kernel_rfl,by kernel_rfl⟩⟩
instance:Enters Tryz.prog 38:=⟨⟨_,func38,by kernel_rfl,by kernel_rfl⟩⟩
instance:Enters Tryz.prog 39:=⟨⟨_,func39,by kernel_rfl,by kernel_rfl⟩⟩
instance:Enters Tryz.prog 40:=⟨⟨_,func40,by kernel_rfl,by kernel_rfl⟩⟩
instance:Enters Tryz.prog 42:=⟨⟨_,func42,by kernel_rfl,by kernel_rfl⟩⟩
instance:Enters Tryz.prog 46:=⟨⟨_,func46,by kernel_rfl,by kernel_rfl⟩⟩
instance:Enters Tryz.prog 47:=⟨⟨_,func47,by kernel_rfl,by kernel_rfl⟩⟩
instance:Enters Tryz.prog 48:=⟨⟨_,func48,by kernel_rfl,by kernel_rfl⟩⟩
instance:Enters Tryz.prog 49:=⟨⟨_,func49,by kernel_rfl,by kernel_rfl⟩⟩
instance:Enters Tryz.prog 50:=⟨⟨_,func50,by kernel_rfl,by kernel_rfl⟩⟩
instance:Enters Tryz.prog 54:=⟨⟨_,func54,by kernel_rfl,by kernel_rfl⟩⟩
instance:Enters Tryz.prog 55:=⟨⟨_,func55,by kernel_rfl,by kernel_rfl⟩⟩
instance:Enters Tryz.prog 59:=⟨⟨_,func59,by kernel_rfl,by kernel_rfl⟩⟩
instance:Enters Tryz.prog 67:=⟨⟨_,func67,by kernel_rfl,by kernel_rfl⟩⟩
instance:Enters Tryz.prog 77:=⟨⟨_,func77,by kernel_rfl,by kernel_rfl⟩⟩
instance:Enters Tryz.prog 79:=⟨⟨_,func79,by kernel_rfl,by kernel_rfl⟩⟩
instance:Enters Tryz.prog 80:=⟨⟨_,func80,by kernel_rfl,by kernel_rfl⟩⟩
instance:Enters Tryz.prog 83:=⟨⟨_,func83,by kernel_rfl,by kernel_rfl⟩⟩
instance:Enters Tryz.prog 88:=⟨⟨_,func88,by kernel_rfl,by kernel_rfl⟩⟩
instance:Enters Tryz.prog 115:=⟨⟨_,func115,by kernel_rfl,by kernel_rfl⟩⟩
instance:Enters Tryz.prog 130:=⟨⟨_,func130,by kernel_rfl,by kernel_rfl⟩⟩
instance:Enters Tryz.prog 133:=⟨⟨_,func133,by kernel_rfl,by kernel_rfl⟩⟩
instance:Enters Tryz.prog 217:=⟨⟨_,func217,by kernel_rfl,by kernel_rfl⟩⟩
instance:Enters Tryz.prog 222:=⟨⟨_,func222,by kernel_rfl,by kernel_rfl⟩⟩
end Go.Proofs.YtnjgoldinaffgaaGreatDoor
