/- What the types and functions of this translation are, one instance each. (Written by wip/inst.py.). -/
import Derived.Test.YtbphihljkbdfpaaGreatDoorZ1
import Derived.Test.YtbphihljkbdfpaaGreatDoorProg
namespace Go.Proofs.YtbphihljkbdfpaaGreatDoor
set_option linter.unusedVariables false
theorem isz0 : (Tryz.prog.info? 0).map (·.size) = some 1 := by kernel_rfl
theorem isz1 : (Tryz.prog.info? 1).map (·.size) = some 1 := by kernel_rfl
theorem isz2 : (Tryz.prog.info? 2).map (·.size) = some 1 := by kernel_rfl
theorem isz3 : (Tryz.prog.info? 3).map (·.size) = some 1 := by kernel_rfl
theorem isz4 : (Tryz.prog.info? 4).map (·.size) = some 1 := by kernel_rfl
theorem isz5 : (Tryz.prog.info? 5).map (·.size) = some 1 := by kernel_rfl
theorem isz6 : (Tryz.prog.info? 6).map (·.size) = some 1 := by kernel_rfl
theorem isz7 : (Tryz.prog.info? 7).map (·.size) = some 4 := by kernel_rfl
theorem isz8 : (Tryz.prog.info? 8).map (·.size) = some 4 := by kernel_rfl
theorem isz9 : (Tryz.prog.info? 9).map (·.size) = some 1 := by kernel_rfl
theorem isz10 : (Tryz.prog.info? 10).map (·.size) = some 1 := by kernel_rfl
theorem isz11 : (Tryz.prog.info? 11).map (·.size) = some 1 := by kernel_rfl
theorem isz20 : (Tryz.prog.info? 20).map (·.size) = some 1 := by kernel_rfl
theorem isz21 : (Tryz.prog.info? 21).map (·.size) = some 1 := by kernel_rfl
theorem isz22 : (Tryz.prog.info? 22).map (·.size) = some 1 := by kernel_rfl
theorem isz23 : (Tryz.prog.info? 23).map (·.size) = some 1 := by kernel_rfl
theorem isz24 : (Tryz.prog.info? 24).map (·.size) = some 1 := by kernel_rfl
theorem isz26 : (Tryz.prog.info? 26).map (·.size) = some 6 := by kernel_rfl
theorem isz27 : (Tryz.prog.info? 27).map (·.size) = some 1 := by kernel_rfl
theorem isz28 : (Tryz.prog.info? 28).map (·.size) = some 1 := by kernel_rfl
theorem isz30 : (Tryz.prog.info? 30).map (·.size) = some 1 := by kernel_rfl
theorem isz32 : (Tryz.prog.info? 32).map (·.size) = some 1 := by kernel_rfl
theorem isz37 : (Tryz.prog.info? 37).map (·.size) = some 1 := by kernel_rfl
theorem isz40 : (Tryz.prog.info? 40).map (·.size) = some 1 := by kernel_rfl
theorem isz41 : (Tryz.prog.info? 41).map (·.size) = some 1 := by kernel_rfl
theorem isz44 : (Tryz.prog.info? 44).map (·.size) = some 1 := by kernel_rfl
theorem isz45 : (Tryz.prog.info? 45).map (·.size) = some 1 := by kernel_rfl
theorem isz46 : (Tryz.prog.info? 46).map (·.size) = some 1 := by kernel_rfl
theorem isz47 : (Tryz.prog.info? 47).map (·.size) = some 1 := by kernel_rfl
theorem isz48 : (Tryz.prog.info? 48).map (·.size) = some 1 := by kernel_rfl
theorem isz49 : (Tryz.prog.info? 49).map (·.size) = some 1 := by kernel_rfl
theorem isz50 : (Tryz.prog.info? 50).map (·.size) = some 1 := by kernel_rfl
theorem isz51 : (Tryz.prog.info? 51).map (·.size) = some 1 := by kernel_rfl
theorem isz52 : (Tryz.prog.info? 52).map (·.size) = some 1 := by kernel_rfl
theorem isz53 : (Tryz.prog.info? 53).map (·.size) = some 1 := by kernel_rfl
theorem isz54 : (Tryz.prog.info? 54).map (·.size) = some 1 := by kernel_rfl
theorem isz55 : (Tryz.prog.info? 55).map (·.size) = some 1 := by kernel_rfl
theorem isz56 : (Tryz.prog.info? 56).map (·.size) = some 1 := by kernel_rfl
theorem isz57 : (Tryz.prog.info? 57).map (·.size) = some 1 := by kernel_rfl
theorem isz58 : (Tryz.prog.info? 58).map (·.size) = some 1 := by kernel_rfl
theorem isz61 : (Tryz.prog.info? 61).map (·.size) = some 1 := by kernel_rfl
theorem isz65 : (Tryz.prog.info? 65).map (·.size) = some 3 := by kernel_rfl
theorem isz66 : (Tryz.prog.info? 66).map (·.size) = some 3 := by kernel_rfl
theorem isz67 : (Tryz.prog.info? 67).map (·.size) = some 1 := by kernel_rfl
theorem isz68 : (Tryz.prog.info? 68).map (·.size) = some 1 := by kernel_rfl
theorem isz69 : (Tryz.prog.info? 69).map (·.size) = some 1 := by kernel_rfl
theorem isz70 : (Tryz.prog.info? 70).map (·.size) = some 1 := by kernel_rfl
theorem isz71 : (Tryz.prog.info? 71).map (·.size) = some 1 := by kernel_rfl
theorem isz72 : (Tryz.prog.info? 72).map (·.size) = some 1 := by kernel_rfl
theorem isz73 : (Tryz.prog.info? 73).map (·.size) = some 1 := by kernel_rfl
theorem isz74 : (Tryz.prog.info? 74).map (·.size) = some 1 := by kernel_rfl
theorem isz75 : (Tryz.prog.info? 75).map (·.size) = some 1 := by kernel_rfl
theorem isz76 : (Tryz.prog.info? 76).map (·.size) = some 1 := by kernel_rfl
theorem isz77 : (Tryz.prog.info? 77).map (·.size) = some 1 := by kernel_rfl
theorem isz78 : (Tryz.prog.info? 78).map (·.size) = some 1 := by kernel_rfl
theorem isz79 : (Tryz.prog.info? 79).map (·.size) = some 1 := by kernel_rfl
theorem isz80 : (Tryz.prog.info? 80).map (·.size) = some 1 := by kernel_rfl
theorem isz81 : (Tryz.prog.info? 81).map (·.size) = some 1 := by kernel_rfl
theorem isz82 : (Tryz.prog.info? 82).map (·.size) = some 1 := by kernel_rfl
theorem isz83 : (Tryz.prog.info? 83).map (·.size) = some 1 := by kernel_rfl
theorem isz84 : (Tryz.prog.info? 84).map (·.size) = some 1 := by kernel_rfl
theorem isz85 : (Tryz.prog.info? 85).map (·.size) = some 1 := by kernel_rfl
theorem isz86 : (Tryz.prog.info? 86).map (·.size) = some 1 := by kernel_rfl
theorem isz87 : (Tryz.prog.info? 87).map (·.size) = some 1 := by kernel_rfl
theorem isz88 : (Tryz.prog.info? 88).map (·.size) = some 1 := by kernel_rfl
theorem isz89 : (Tryz.prog.info? 89).map (·.size) = some 1 := by kernel_rfl
theorem isz90 : (Tryz.prog.info? 90).map (·.size) = some 1 := by kernel_rfl
theorem isz97 : (Tryz.prog.info? 97).map (·.size) = some 1 := by kernel_rfl
theorem isz98 : (Tryz.prog.info? 98).map (·.size) = some 1 := by kernel_rfl
theorem isz99 : (Tryz.prog.info? 99).map (·.size) = some 1 := by kernel_rfl
theorem isz100 : (Tryz.prog.info? 100).map (·.size) = some 1 := by kernel_rfl
theorem isz101 : (Tryz.prog.info? 101).map (·.size) = some 1 := by kernel_rfl
theorem isz102 : (Tryz.prog.info? 102).map (·.size) = some 1 := by kernel_rfl
theorem isz103 : (Tryz.prog.info? 103).map (·.size) = some 1 := by kernel_rfl
theorem isz104 : (Tryz.prog.info? 104).map (·.size) = some 1 := by kernel_rfl
theorem isz105 : (Tryz.prog.info? 105).map (·.size) = some 1 := by kernel_rfl
theorem isz106 : (Tryz.prog.info? 106).map (·.size) = some 1 := by kernel_rfl
theorem isz107 : (Tryz.prog.info? 107).map (·.size) = some 1 := by kernel_rfl
theorem isz108 : (Tryz.prog.info? 108).map (·.size) = some 1 := by kernel_rfl
theorem isz109 : (Tryz.prog.info? 109).map (·.size) = some 1 := by kernel_rfl
theorem isz110 : (Tryz.prog.info? 110).map (·.size) = some 1 := by kernel_rfl
theorem isz111 : (Tryz.prog.info? 111).map (·.size) = some 1 := by kernel_rfl
theorem isz112 : (Tryz.prog.info? 112).map (·.size) = some 24 := by kernel_rfl
theorem isz113 : (Tryz.prog.info? 113).map (·.size) = some 1 := by kernel_rfl
theorem isz114 : (Tryz.prog.info? 114).map (·.size) = some 1 := by kernel_rfl
theorem isz115 : (Tryz.prog.info? 115).map (·.size) = some 1 := by kernel_rfl
theorem isz116 : (Tryz.prog.info? 116).map (·.size) = some 1 := by kernel_rfl
theorem isz117 : (Tryz.prog.info? 117).map (·.size) = some 1 := by kernel_rfl
theorem isz118 : (Tryz.prog.info? 118).map (·.size) = some 1 := by kernel_rfl
theorem isz119 : (Tryz.prog.info? 119).map (·.size) = some 1 := by kernel_rfl
theorem isz120 : (Tryz.prog.info? 120).map (·.size) = some 1 := by kernel_rfl
theorem isz121 : (Tryz.prog.info? 121).map (·.size) = some 1 := by kernel_rfl
theorem isz122 : (Tryz.prog.info? 122).map (·.size) = some 2 := by kernel_rfl
theorem isz126 : (Tryz.prog.info? 126).map (·.size) = some 1 := by kernel_rfl
theorem isz127 : (Tryz.prog.info? 127).map (·.size) = some 1 := by kernel_rfl
theorem isz131 : (Tryz.prog.info? 131).map (·.size) = some 4 := by kernel_rfl
theorem isz138 : (Tryz.prog.info? 138).map (·.size) = some 256 := by kernel_rfl
theorem isz139 : (Tryz.prog.info? 139).map (·.size) = some 1 := by kernel_rfl
theorem isz142 : (Tryz.prog.info? 142).map (·.size) = some 1 := by kernel_rfl
theorem isz145 : (Tryz.prog.info? 145).map (·.size) = some 1 := by kernel_rfl
theorem isz147 : (Tryz.prog.info? 147).map (·.size) = some 20 := by kernel_rfl
theorem isz148 : (Tryz.prog.info? 148).map (·.size) = some 1 := by kernel_rfl
theorem isz149 : (Tryz.prog.info? 149).map (·.size) = some 65 := by kernel_rfl
theorem isz167 : (Tryz.prog.info? 167).map (·.size) = some 1 := by kernel_rfl
theorem isz169 : (Tryz.prog.info? 169).map (·.size) = some 4 := by kernel_rfl
theorem isz170 : (Tryz.prog.info? 170).map (·.size) = some 1 := by kernel_rfl
theorem isz172 : (Tryz.prog.info? 172).map (·.size) = some 4 := by kernel_rfl
theorem isz173 : (Tryz.prog.info? 173).map (·.size) = some 1 := by kernel_rfl
theorem isz176 : (Tryz.prog.info? 176).map (·.size) = some 1 := by kernel_rfl
theorem isz180 : (Tryz.prog.info? 180).map (·.size) = some 1 := by kernel_rfl
theorem isz188 : (Tryz.prog.info? 188).map (·.size) = some 1 := by kernel_rfl
theorem isz192 : (Tryz.prog.info? 192).map (·.size) = some 32 := by kernel_rfl
theorem isz193 : (Tryz.prog.info? 193).map (·.size) = some 64 := by kernel_rfl
theorem isz202 : (Tryz.prog.info? 202).map (·.size) = some 256 := by kernel_rfl
theorem isz210 : (Tryz.prog.info? 210).map (·.size) = some 2 := by kernel_rfl
theorem isz211 : (Tryz.prog.info? 211).map (·.size) = some 32 := by kernel_rfl
theorem isz237 : (Tryz.prog.info? 237).map (·.size) = some 1 := by kernel_rfl
theorem isz238 : (Tryz.prog.info? 238).map (·.size) = some 1 := by kernel_rfl
theorem isz240 : (Tryz.prog.info? 240).map (·.size) = some 1 := by kernel_rfl
theorem isz246 : (Tryz.prog.info? 246).map (·.size) = some 1 := by kernel_rfl
theorem isz249 : (Tryz.prog.info? 249).map (·.size) = some 3 := by kernel_rfl
theorem isz252 : (Tryz.prog.info? 252).map (·.size) = some 1 := by kernel_rfl
theorem isz254 : (Tryz.prog.info? 254).map (·.size) = some 1 := by kernel_rfl
instance : TSize Tryz.prog 0 1 := ⟨isz0⟩
instance : TOne Tryz.prog 0 := ⟨⟨_, Tryz.underlying0, rfl⟩, isz0⟩
instance : TSize Tryz.prog 1 1 := ⟨isz1⟩
instance : TOne Tryz.prog 1 := ⟨⟨_, Tryz.underlying1, rfl⟩, isz1⟩
instance : TZer Tryz.prog 1 [.nilFunc] := ⟨by kernel_rfl⟩
instance : TSize Tryz.prog 2 1 := ⟨isz2⟩
instance : TOne Tryz.prog 2 := ⟨⟨_, Tryz.underlying2, rfl⟩, isz2⟩
instance : TInt Tryz.prog 2 .i64 := ⟨Tryz.underlying2⟩
instance : TZer Tryz.prog 2 [.int .i64 0] := ⟨by kernel_rfl⟩
instance : TSize Tryz.prog 3 1 := ⟨isz3⟩
instance : TOne Tryz.prog 3 := ⟨⟨_, Tryz.underlying3, rfl⟩, isz3⟩
instance : TInt Tryz.prog 3 .i64 := ⟨Tryz.underlying3⟩
instance : TZer Tryz.prog 3 [.int .i64 0] := ⟨by kernel_rfl⟩
instance : TSize Tryz.prog 4 1 := ⟨isz4⟩
instance : TOne Tryz.prog 4 := ⟨⟨_, Tryz.underlying4, rfl⟩, isz4⟩
instance : TBool Tryz.prog 4 := ⟨Tryz.underlying4⟩
instance : TZer Tryz.prog 4 [.bool false] := ⟨by kernel_rfl⟩
instance : TSize Tryz.prog 5 1 := ⟨isz5⟩
instance : TOne Tryz.prog 5 := ⟨⟨_, Tryz.underlying5, rfl⟩, isz5⟩
instance : TInt Tryz.prog 5 .u8 := ⟨Tryz.underlying5⟩
instance : TZer Tryz.prog 5 [.int .u8 0] := ⟨by kernel_rfl⟩
instance : TSize Tryz.prog 6 1 := ⟨isz6⟩
instance : TOne Tryz.prog 6 := ⟨⟨_, Tryz.underlying6, rfl⟩, isz6⟩
instance : TInt Tryz.prog 6 .u8 := ⟨Tryz.underlying6⟩
instance : TZer Tryz.prog 6 [.int .u8 0] := ⟨by kernel_rfl⟩
instance : TSize Tryz.prog 7 4 := ⟨isz7⟩
instance : TRow Tryz.prog 7 4 := ⟨⟨_, Tryz.underlying7, rfl⟩, isz7⟩
instance : TZer Tryz.prog 7 [.int .i64 0, .int .i64 0, .bool false, .int .u8 0] := ⟨by kernel_rfl⟩
instance : TStruct Tryz.prog 7 [(0, 1), (1, 1), (2, 1), (3, 1)] := ⟨⟨_, Tryz.underlying7, by kernel_rfl⟩⟩
instance : TFld Tryz.prog 7 0 0 0 false := ⟨⟨_, _, _, Tryz.underlying7, rfl, rfl, Tryz.underlying2, rfl, isz2⟩⟩
instance : TFld Tryz.prog 7 1 1 0 false := ⟨⟨_, _, _, Tryz.underlying7, rfl, rfl, Tryz.underlying3, rfl, isz3⟩⟩
instance : TFld Tryz.prog 7 2 2 0 false := ⟨⟨_, _, _, Tryz.underlying7, rfl, rfl, Tryz.underlying4, rfl, isz4⟩⟩
instance : TFld Tryz.prog 7 3 3 0 false := ⟨⟨_, _, _, Tryz.underlying7, rfl, rfl, Tryz.underlying6, rfl, isz6⟩⟩
instance : TSize Tryz.prog 8 4 := ⟨isz8⟩
instance : TRow Tryz.prog 8 4 := ⟨⟨_, Tryz.underlying8, rfl⟩, isz8⟩
instance : TZer Tryz.prog 8 [.int .i64 0, .int .i64 0, .bool false, .int .u8 0] := ⟨by kernel_rfl⟩
instance : TStruct Tryz.prog 8 [(0, 1), (1, 1), (2, 1), (3, 1)] := ⟨⟨_, Tryz.underlying8, by kernel_rfl⟩⟩
instance : TFld Tryz.prog 8 0 0 0 false := ⟨⟨_, _, _, Tryz.underlying8, rfl, rfl, Tryz.underlying2, rfl, isz2⟩⟩
instance : TFld Tryz.prog 8 1 1 0 false := ⟨⟨_, _, _, Tryz.underlying8, rfl, rfl, Tryz.underlying3, rfl, isz3⟩⟩
instance : TFld Tryz.prog 8 2 2 0 false := ⟨⟨_, _, _, Tryz.underlying8, rfl, rfl, Tryz.underlying4, rfl, isz4⟩⟩
instance : TFld Tryz.prog 8 3 3 0 false := ⟨⟨_, _, _, Tryz.underlying8, rfl, rfl, Tryz.underlying6, rfl, isz6⟩⟩
instance : TSize Tryz.prog 9 1 := ⟨isz9⟩
instance : TOne Tryz.prog 9 := ⟨⟨_, Tryz.underlying9, rfl⟩, isz9⟩
instance : TStr Tryz.prog 9 := ⟨Tryz.underlying9⟩
instance : TZer Tryz.prog 9 [.string ⟨#[]⟩] := ⟨by kernel_rfl⟩
instance : TSize Tryz.prog 10 1 := ⟨isz10⟩
instance : TOne Tryz.prog 10 := ⟨⟨_, Tryz.underlying10, rfl⟩, isz10⟩
instance : TStr Tryz.prog 10 := ⟨Tryz.underlying10⟩
instance : TZer Tryz.prog 10 [.string ⟨#[]⟩] := ⟨by kernel_rfl⟩
instance : TSize Tryz.prog 11 1 := ⟨isz11⟩
instance : TOne Tryz.prog 11 := ⟨⟨_, Tryz.underlying11, rfl⟩, isz11⟩
instance : TStr Tryz.prog 11 := ⟨Tryz.underlying11⟩
instance : TZer Tryz.prog 11 [.string ⟨#[]⟩] := ⟨by kernel_rfl⟩
instance : TSize Tryz.prog 20 1 := ⟨isz20⟩
instance : TOne Tryz.prog 20 := ⟨⟨_, Tryz.underlying20, rfl⟩, isz20⟩
instance : TIfc Tryz.prog 20 := ⟨_, Tryz.underlying20⟩
instance : TZer Tryz.prog 20 [.nilIface] := ⟨by kernel_rfl⟩
instance : TSize Tryz.prog 21 1 := ⟨isz21⟩
instance : TOne Tryz.prog 21 := ⟨⟨_, Tryz.underlying21, rfl⟩, isz21⟩
instance : TInt Tryz.prog 21 .i32 := ⟨Tryz.underlying21⟩
instance : TZer Tryz.prog 21 [.int .i32 0] := ⟨by kernel_rfl⟩
instance : TSize Tryz.prog 22 1 := ⟨isz22⟩
instance : TOne Tryz.prog 22 := ⟨⟨_, Tryz.underlying22, rfl⟩, isz22⟩
instance : TSlice Tryz.prog 22 3 := ⟨Tryz.underlying22⟩
instance : TZer Tryz.prog 22 [.slice none 0 0] := ⟨by kernel_rfl⟩
instance : TSize Tryz.prog 23 1 := ⟨isz23⟩
instance : TOne Tryz.prog 23 := ⟨⟨_, Tryz.underlying23, rfl⟩, isz23⟩
instance : TSlice Tryz.prog 23 26 := ⟨Tryz.underlying23⟩
instance : TZer Tryz.prog 23 [.slice none 0 0] := ⟨by kernel_rfl⟩
instance : TSize Tryz.prog 24 1 := ⟨isz24⟩
instance : TOne Tryz.prog 24 := ⟨⟨_, Tryz.underlying24, rfl⟩, isz24⟩
instance : TSlice Tryz.prog 24 9 := ⟨Tryz.underlying24⟩
instance : TZer Tryz.prog 24 [.slice none 0 0] := ⟨by kernel_rfl⟩
instance : TSize Tryz.prog 26 6 := ⟨isz26⟩
instance : TRow Tryz.prog 26 6 := ⟨⟨_, Tryz.underlying26, rfl⟩, isz26⟩
instance : TZer Tryz.prog 26 [.int .i64 0, .slice none 0 0, .string ⟨#[]⟩, .slice none 0 0, .int .i64 0, .int .i64 0] := ⟨by kernel_rfl⟩
instance : TStruct Tryz.prog 26 [(0, 1), (1, 1), (2, 1), (3, 1), (4, 1), (5, 1)] := ⟨⟨_, Tryz.underlying26, by kernel_rfl⟩⟩
instance : TFld Tryz.prog 26 0 0 0 false := ⟨⟨_, _, _, Tryz.underlying26, rfl, rfl, Tryz.underlying3, rfl, isz3⟩⟩
instance : TFld Tryz.prog 26 1 1 0 false := ⟨⟨_, _, _, Tryz.underlying26, rfl, rfl, Tryz.underlying23, rfl, isz23⟩⟩
instance : TFld Tryz.prog 26 2 2 0 false := ⟨⟨_, _, _, Tryz.underlying26, rfl, rfl, Tryz.underlying9, rfl, isz9⟩⟩
instance : TFld Tryz.prog 26 3 3 0 false := ⟨⟨_, _, _, Tryz.underlying26, rfl, rfl, Tryz.underlying24, rfl, isz24⟩⟩
instance : TFld Tryz.prog 26 4 4 0 false := ⟨⟨_, _, _, Tryz.underlying26, rfl, rfl, Tryz.underlying3, rfl, isz3⟩⟩
instance : TFld Tryz.prog 26 5 5 0 false := ⟨⟨_, _, _, Tryz.underlying26, rfl, rfl, Tryz.underlying3, rfl, isz3⟩⟩
instance : TSize Tryz.prog 27 1 := ⟨isz27⟩
instance : TOne Tryz.prog 27 := ⟨⟨_, Tryz.underlying27, rfl⟩, isz27⟩
instance : TInt Tryz.prog 27 .i64 := ⟨Tryz.underlying27⟩
instance : TZer Tryz.prog 27 [.int .i64 0] := ⟨by kernel_rfl⟩
instance : TSize Tryz.prog 28 1 := ⟨isz28⟩
instance : TOne Tryz.prog 28 := ⟨⟨_, Tryz.underlying28, rfl⟩, isz28⟩
instance : TSize Tryz.prog 30 1 := ⟨isz30⟩
instance : TOne Tryz.prog 30 := ⟨⟨_, Tryz.underlying30, rfl⟩, isz30⟩
instance : TZer Tryz.prog 30 [.nilFunc] := ⟨by kernel_rfl⟩
instance : TSize Tryz.prog 32 1 := ⟨isz32⟩
instance : TOne Tryz.prog 32 := ⟨⟨_, Tryz.underlying32, rfl⟩, isz32⟩
instance : TZer Tryz.prog 32 [.nilFunc] := ⟨by kernel_rfl⟩
instance : TSize Tryz.prog 37 1 := ⟨isz37⟩
instance : TOne Tryz.prog 37 := ⟨⟨_, Tryz.underlying37, rfl⟩, isz37⟩
instance : TSize Tryz.prog 40 1 := ⟨isz40⟩
instance : TOne Tryz.prog 40 := ⟨⟨_, Tryz.underlying40, rfl⟩, isz40⟩
instance : TZer Tryz.prog 40 [.nilFunc] := ⟨by kernel_rfl⟩
instance : TSize Tryz.prog 41 1 := ⟨isz41⟩
instance : TOne Tryz.prog 41 := ⟨⟨_, Tryz.underlying41, rfl⟩, isz41⟩
instance : TSize Tryz.prog 44 1 := ⟨isz44⟩
instance : TOne Tryz.prog 44 := ⟨⟨_, Tryz.underlying44, rfl⟩, isz44⟩
instance : TZer Tryz.prog 44 [.nilFunc] := ⟨by kernel_rfl⟩
instance : TSize Tryz.prog 45 1 := ⟨isz45⟩
instance : TOne Tryz.prog 45 := ⟨⟨_, Tryz.underlying45, rfl⟩, isz45⟩
instance : TZer Tryz.prog 45 [.nilFunc] := ⟨by kernel_rfl⟩
instance : TSize Tryz.prog 46 1 := ⟨isz46⟩
instance : TOne Tryz.prog 46 := ⟨⟨_, Tryz.underlying46, rfl⟩, isz46⟩
instance : TZer Tryz.prog 46 [.nilFunc] := ⟨by kernel_rfl⟩
instance : TSize Tryz.prog 47 1 := ⟨isz47⟩
instance : TOne Tryz.prog 47 := ⟨⟨_, Tryz.underlying47, rfl⟩, isz47⟩
instance : TZer Tryz.prog 47 [.nilFunc] := ⟨by kernel_rfl⟩
instance : TSize Tryz.prog 48 1 := ⟨isz48⟩
instance : TOne Tryz.prog 48 := ⟨⟨_, Tryz.underlying48, rfl⟩, isz48⟩
instance : TZer Tryz.prog 48 [.nilFunc] := ⟨by kernel_rfl⟩
instance : TSize Tryz.prog 49 1 := ⟨isz49⟩
instance : TOne Tryz.prog 49 := ⟨⟨_, Tryz.underlying49, rfl⟩, isz49⟩
instance : TZer Tryz.prog 49 [.nilFunc] := ⟨by kernel_rfl⟩
instance : TSize Tryz.prog 50 1 := ⟨isz50⟩
instance : TOne Tryz.prog 50 := ⟨⟨_, Tryz.underlying50, rfl⟩, isz50⟩
instance : TZer Tryz.prog 50 [.nilFunc] := ⟨by kernel_rfl⟩
instance : TSize Tryz.prog 51 1 := ⟨isz51⟩
instance : TOne Tryz.prog 51 := ⟨⟨_, Tryz.underlying51, rfl⟩, isz51⟩
instance : TZer Tryz.prog 51 [.nilFunc] := ⟨by kernel_rfl⟩
instance : TSize Tryz.prog 52 1 := ⟨isz52⟩
instance : TOne Tryz.prog 52 := ⟨⟨_, Tryz.underlying52, rfl⟩, isz52⟩
instance : TZer Tryz.prog 52 [.nilFunc] := ⟨by kernel_rfl⟩
instance : TSize Tryz.prog 53 1 := ⟨isz53⟩
instance : TOne Tryz.prog 53 := ⟨⟨_, Tryz.underlying53, rfl⟩, isz53⟩
instance : TSize Tryz.prog 54 1 := ⟨isz54⟩
instance : TOne Tryz.prog 54 := ⟨⟨_, Tryz.underlying54, rfl⟩, isz54⟩
instance : TZer Tryz.prog 54 [.nilFunc] := ⟨by kernel_rfl⟩
instance : TSize Tryz.prog 55 1 := ⟨isz55⟩
instance : TOne Tryz.prog 55 := ⟨⟨_, Tryz.underlying55, rfl⟩, isz55⟩
instance : TZer Tryz.prog 55 [.nilFunc] := ⟨by kernel_rfl⟩
instance : TSize Tryz.prog 56 1 := ⟨isz56⟩
instance : TOne Tryz.prog 56 := ⟨⟨_, Tryz.underlying56, rfl⟩, isz56⟩
instance : TZer Tryz.prog 56 [.nilFunc] := ⟨by kernel_rfl⟩
instance : TSize Tryz.prog 57 1 := ⟨isz57⟩
instance : TOne Tryz.prog 57 := ⟨⟨_, Tryz.underlying57, rfl⟩, isz57⟩
instance : TZer Tryz.prog 57 [.nilFunc] := ⟨by kernel_rfl⟩
instance : TSize Tryz.prog 58 1 := ⟨isz58⟩
instance : TOne Tryz.prog 58 := ⟨⟨_, Tryz.underlying58, rfl⟩, isz58⟩
instance : TZer Tryz.prog 58 [.nilFunc] := ⟨by kernel_rfl⟩
instance : TSize Tryz.prog 61 1 := ⟨isz61⟩
instance : TOne Tryz.prog 61 := ⟨⟨_, Tryz.underlying61, rfl⟩, isz61⟩
instance : TSlice Tryz.prog 61 66 := ⟨Tryz.underlying61⟩
instance : TZer Tryz.prog 61 [.slice none 0 0] := ⟨by kernel_rfl⟩
instance : TSize Tryz.prog 65 3 := ⟨isz65⟩
instance : TRow Tryz.prog 65 3 := ⟨⟨_, Tryz.underlying65, rfl⟩, isz65⟩
instance : TZer Tryz.prog 65 [.int .i64 0, .int .i64 0, .slice none 0 0] := ⟨by kernel_rfl⟩
instance : TStruct Tryz.prog 65 [(0, 1), (1, 1), (2, 1)] := ⟨⟨_, Tryz.underlying65, by kernel_rfl⟩⟩
instance : TFld Tryz.prog 65 0 0 0 false := ⟨⟨_, _, _, Tryz.underlying65, rfl, rfl, Tryz.underlying3, rfl, isz3⟩⟩
instance : TFld Tryz.prog 65 1 1 0 false := ⟨⟨_, _, _, Tryz.underlying65, rfl, rfl, Tryz.underlying3, rfl, isz3⟩⟩
instance : TFld Tryz.prog 65 2 2 0 false := ⟨⟨_, _, _, Tryz.underlying65, rfl, rfl, Tryz.underlying61, rfl, isz61⟩⟩
instance : TSize Tryz.prog 66 3 := ⟨isz66⟩
instance : TRow Tryz.prog 66 3 := ⟨⟨_, Tryz.underlying66, rfl⟩, isz66⟩
instance : TZer Tryz.prog 66 [.int .i64 0, .int .i64 0, .slice none 0 0] := ⟨by kernel_rfl⟩
instance : TStruct Tryz.prog 66 [(0, 1), (1, 1), (2, 1)] := ⟨⟨_, Tryz.underlying66, by kernel_rfl⟩⟩
instance : TFld Tryz.prog 66 0 0 0 false := ⟨⟨_, _, _, Tryz.underlying66, rfl, rfl, Tryz.underlying3, rfl, isz3⟩⟩
instance : TFld Tryz.prog 66 1 1 0 false := ⟨⟨_, _, _, Tryz.underlying66, rfl, rfl, Tryz.underlying3, rfl, isz3⟩⟩
instance : TFld Tryz.prog 66 2 2 0 false := ⟨⟨_, _, _, Tryz.underlying66, rfl, rfl, Tryz.underlying61, rfl, isz61⟩⟩
instance : TSize Tryz.prog 67 1 := ⟨isz67⟩
instance : TOne Tryz.prog 67 := ⟨⟨_, Tryz.underlying67, rfl⟩, isz67⟩
instance : TSlice Tryz.prog 67 4 := ⟨Tryz.underlying67⟩
instance : TZer Tryz.prog 67 [.slice none 0 0] := ⟨by kernel_rfl⟩
instance : TSize Tryz.prog 68 1 := ⟨isz68⟩
instance : TOne Tryz.prog 68 := ⟨⟨_, Tryz.underlying68, rfl⟩, isz68⟩
instance : TZer Tryz.prog 68 [.nilFunc] := ⟨by kernel_rfl⟩
instance : TSize Tryz.prog 69 1 := ⟨isz69⟩
instance : TOne Tryz.prog 69 := ⟨⟨_, Tryz.underlying69, rfl⟩, isz69⟩
instance : TZer Tryz.prog 69 [.nilFunc] := ⟨by kernel_rfl⟩
instance : TSize Tryz.prog 70 1 := ⟨isz70⟩
instance : TOne Tryz.prog 70 := ⟨⟨_, Tryz.underlying70, rfl⟩, isz70⟩
instance : TZer Tryz.prog 70 [.nilFunc] := ⟨by kernel_rfl⟩
instance : TSize Tryz.prog 71 1 := ⟨isz71⟩
instance : TOne Tryz.prog 71 := ⟨⟨_, Tryz.underlying71, rfl⟩, isz71⟩
instance : TZer Tryz.prog 71 [.nilFunc] := ⟨by kernel_rfl⟩
instance : TSize Tryz.prog 72 1 := ⟨isz72⟩
instance : TOne Tryz.prog 72 := ⟨⟨_, Tryz.underlying72, rfl⟩, isz72⟩
instance : TZer Tryz.prog 72 [.nilFunc] := ⟨by kernel_rfl⟩
instance : TSize Tryz.prog 73 1 := ⟨isz73⟩
instance : TOne Tryz.prog 73 := ⟨⟨_, Tryz.underlying73, rfl⟩, isz73⟩
instance : TZer Tryz.prog 73 [.nilFunc] := ⟨by kernel_rfl⟩
instance : TSize Tryz.prog 74 1 := ⟨isz74⟩
instance : TOne Tryz.prog 74 := ⟨⟨_, Tryz.underlying74, rfl⟩, isz74⟩
instance : TZer Tryz.prog 74 [.nilFunc] := ⟨by kernel_rfl⟩
instance : TSize Tryz.prog 75 1 := ⟨isz75⟩
instance : TOne Tryz.prog 75 := ⟨⟨_, Tryz.underlying75, rfl⟩, isz75⟩
instance : TZer Tryz.prog 75 [.nilFunc] := ⟨by kernel_rfl⟩
instance : TSize Tryz.prog 76 1 := ⟨isz76⟩
instance : TOne Tryz.prog 76 := ⟨⟨_, Tryz.underlying76, rfl⟩, isz76⟩
instance : TZer Tryz.prog 76 [.nilFunc] := ⟨by kernel_rfl⟩
instance : TSize Tryz.prog 77 1 := ⟨isz77⟩
instance : TOne Tryz.prog 77 := ⟨⟨_, Tryz.underlying77, rfl⟩, isz77⟩
instance : TZer Tryz.prog 77 [.nilFunc] := ⟨by kernel_rfl⟩
instance : TSize Tryz.prog 78 1 := ⟨isz78⟩
instance : TOne Tryz.prog 78 := ⟨⟨_, Tryz.underlying78, rfl⟩, isz78⟩
instance : TZer Tryz.prog 78 [.nilFunc] := ⟨by kernel_rfl⟩
instance : TSize Tryz.prog 79 1 := ⟨isz79⟩
instance : TOne Tryz.prog 79 := ⟨⟨_, Tryz.underlying79, rfl⟩, isz79⟩
instance : TZer Tryz.prog 79 [.nilFunc] := ⟨by kernel_rfl⟩
instance : TSize Tryz.prog 80 1 := ⟨isz80⟩
instance : TOne Tryz.prog 80 := ⟨⟨_, Tryz.underlying80, rfl⟩, isz80⟩
instance : TZer Tryz.prog 80 [.pointer none] := ⟨by kernel_rfl⟩
instance : TSize Tryz.prog 81 1 := ⟨isz81⟩
instance : TRow Tryz.prog 81 1 := ⟨⟨_, Tryz.underlying81, rfl⟩, isz81⟩
instance : TZer Tryz.prog 81 [.int .i64 0] := ⟨by kernel_rfl⟩
instance : TStruct Tryz.prog 81 [(0, 1)] := ⟨⟨_, Tryz.underlying81, by kernel_rfl⟩⟩
instance : TFld Tryz.prog 81 0 0 0 false := ⟨⟨_, _, _, Tryz.underlying81, rfl, rfl, Tryz.underlying3, rfl, isz3⟩⟩
instance : TSize Tryz.prog 82 1 := ⟨isz82⟩
instance : TRow Tryz.prog 82 1 := ⟨⟨_, Tryz.underlying82, rfl⟩, isz82⟩
instance : TZer Tryz.prog 82 [.int .i64 0] := ⟨by kernel_rfl⟩
instance : TStruct Tryz.prog 82 [(0, 1)] := ⟨⟨_, Tryz.underlying82, by kernel_rfl⟩⟩
instance : TFld Tryz.prog 82 0 0 0 false := ⟨⟨_, _, _, Tryz.underlying82, rfl, rfl, Tryz.underlying3, rfl, isz3⟩⟩
instance : TSize Tryz.prog 83 1 := ⟨isz83⟩
instance : TOne Tryz.prog 83 := ⟨⟨_, Tryz.underlying83, rfl⟩, isz83⟩
instance : TZer Tryz.prog 83 [.nilFunc] := ⟨by kernel_rfl⟩
instance : TSize Tryz.prog 84 1 := ⟨isz84⟩
instance : TOne Tryz.prog 84 := ⟨⟨_, Tryz.underlying84, rfl⟩, isz84⟩
instance : TSize Tryz.prog 85 1 := ⟨isz85⟩
instance : TOne Tryz.prog 85 := ⟨⟨_, Tryz.underlying85, rfl⟩, isz85⟩
instance : TZer Tryz.prog 85 [.nilFunc] := ⟨by kernel_rfl⟩
instance : TSize Tryz.prog 86 1 := ⟨isz86⟩
instance : TOne Tryz.prog 86 := ⟨⟨_, Tryz.underlying86, rfl⟩, isz86⟩
instance : TZer Tryz.prog 86 [.nilFunc] := ⟨by kernel_rfl⟩
instance : TSize Tryz.prog 87 1 := ⟨isz87⟩
instance : TOne Tryz.prog 87 := ⟨⟨_, Tryz.underlying87, rfl⟩, isz87⟩
instance : TZer Tryz.prog 87 [.nilFunc] := ⟨by kernel_rfl⟩
instance : TSize Tryz.prog 88 1 := ⟨isz88⟩
instance : TOne Tryz.prog 88 := ⟨⟨_, Tryz.underlying88, rfl⟩, isz88⟩
instance : TSize Tryz.prog 89 1 := ⟨isz89⟩
instance : TOne Tryz.prog 89 := ⟨⟨_, Tryz.underlying89, rfl⟩, isz89⟩
instance : TZer Tryz.prog 89 [.nilFunc] := ⟨by kernel_rfl⟩
instance : TSize Tryz.prog 90 1 := ⟨isz90⟩
instance : TOne Tryz.prog 90 := ⟨⟨_, Tryz.underlying90, rfl⟩, isz90⟩
instance : TZer Tryz.prog 90 [.nilFunc] := ⟨by kernel_rfl⟩
instance : TSize Tryz.prog 97 1 := ⟨isz97⟩
instance : TOne Tryz.prog 97 := ⟨⟨_, Tryz.underlying97, rfl⟩, isz97⟩
instance : TZer Tryz.prog 97 [.nilFunc] := ⟨by kernel_rfl⟩
instance : TSize Tryz.prog 98 1 := ⟨isz98⟩
instance : TOne Tryz.prog 98 := ⟨⟨_, Tryz.underlying98, rfl⟩, isz98⟩
instance : TZer Tryz.prog 98 [.nilFunc] := ⟨by kernel_rfl⟩
instance : TSize Tryz.prog 99 1 := ⟨isz99⟩
instance : TOne Tryz.prog 99 := ⟨⟨_, Tryz.underlying99, rfl⟩, isz99⟩
instance : TZer Tryz.prog 99 [.nilFunc] := ⟨by kernel_rfl⟩
instance : TSize Tryz.prog 100 1 := ⟨isz100⟩
instance : TOne Tryz.prog 100 := ⟨⟨_, Tryz.underlying100, rfl⟩, isz100⟩
instance : TZer Tryz.prog 100 [.nilFunc] := ⟨by kernel_rfl⟩
instance : TSize Tryz.prog 101 1 := ⟨isz101⟩
instance : TOne Tryz.prog 101 := ⟨⟨_, Tryz.underlying101, rfl⟩, isz101⟩
instance : TZer Tryz.prog 101 [.nilFunc] := ⟨by kernel_rfl⟩
instance : TSize Tryz.prog 102 1 := ⟨isz102⟩
instance : TOne Tryz.prog 102 := ⟨⟨_, Tryz.underlying102, rfl⟩, isz102⟩
instance : TZer Tryz.prog 102 [.nilFunc] := ⟨by kernel_rfl⟩
instance : TSize Tryz.prog 103 1 := ⟨isz103⟩
instance : TOne Tryz.prog 103 := ⟨⟨_, Tryz.underlying103, rfl⟩, isz103⟩
instance : TZer Tryz.prog 103 [.nilFunc] := ⟨by kernel_rfl⟩
instance : TSize Tryz.prog 104 1 := ⟨isz104⟩
instance : TOne Tryz.prog 104 := ⟨⟨_, Tryz.underlying104, rfl⟩, isz104⟩
instance : TZer Tryz.prog 104 [.nilFunc] := ⟨by kernel_rfl⟩
instance : TSize Tryz.prog 105 1 := ⟨isz105⟩
instance : TOne Tryz.prog 105 := ⟨⟨_, Tryz.underlying105, rfl⟩, isz105⟩
instance : TZer Tryz.prog 105 [.nilFunc] := ⟨by kernel_rfl⟩
instance : TSize Tryz.prog 106 1 := ⟨isz106⟩
instance : TOne Tryz.prog 106 := ⟨⟨_, Tryz.underlying106, rfl⟩, isz106⟩
instance : TZer Tryz.prog 106 [.nilFunc] := ⟨by kernel_rfl⟩
instance : TSize Tryz.prog 107 1 := ⟨isz107⟩
instance : TOne Tryz.prog 107 := ⟨⟨_, Tryz.underlying107, rfl⟩, isz107⟩
instance : TZer Tryz.prog 107 [.nilFunc] := ⟨by kernel_rfl⟩
instance : TSize Tryz.prog 108 1 := ⟨isz108⟩
instance : TOne Tryz.prog 108 := ⟨⟨_, Tryz.underlying108, rfl⟩, isz108⟩
instance : TZer Tryz.prog 108 [.nilFunc] := ⟨by kernel_rfl⟩
instance : TSize Tryz.prog 109 1 := ⟨isz109⟩
instance : TOne Tryz.prog 109 := ⟨⟨_, Tryz.underlying109, rfl⟩, isz109⟩
instance : TZer Tryz.prog 109 [.nilFunc] := ⟨by kernel_rfl⟩
instance : TSize Tryz.prog 110 1 := ⟨isz110⟩
instance : TOne Tryz.prog 110 := ⟨⟨_, Tryz.underlying110, rfl⟩, isz110⟩
instance : TZer Tryz.prog 110 [.nilFunc] := ⟨by kernel_rfl⟩
instance : TSize Tryz.prog 111 1 := ⟨isz111⟩
instance : TOne Tryz.prog 111 := ⟨⟨_, Tryz.underlying111, rfl⟩, isz111⟩
instance : TZer Tryz.prog 111 [.nilFunc] := ⟨by kernel_rfl⟩
instance : TSize Tryz.prog 112 24 := ⟨isz112⟩
instance : TRow Tryz.prog 112 24 := ⟨⟨_, Tryz.underlying112, rfl⟩, isz112⟩
instance : TSize Tryz.prog 113 1 := ⟨isz113⟩
instance : TOne Tryz.prog 113 := ⟨⟨_, Tryz.underlying113, rfl⟩, isz113⟩
instance : TInt Tryz.prog 113 .u64 := ⟨Tryz.underlying113⟩
instance : TZer Tryz.prog 113 [.int .u64 0] := ⟨by kernel_rfl⟩
instance : TSize Tryz.prog 114 1 := ⟨isz114⟩
instance : TOne Tryz.prog 114 := ⟨⟨_, Tryz.underlying114, rfl⟩, isz114⟩
instance : TZer Tryz.prog 114 [.nilFunc] := ⟨by kernel_rfl⟩
instance : TSize Tryz.prog 115 1 := ⟨isz115⟩
instance : TOne Tryz.prog 115 := ⟨⟨_, Tryz.underlying115, rfl⟩, isz115⟩
instance : TZer Tryz.prog 115 [.nilFunc] := ⟨by kernel_rfl⟩
instance : TSize Tryz.prog 116 1 := ⟨isz116⟩
instance : TOne Tryz.prog 116 := ⟨⟨_, Tryz.underlying116, rfl⟩, isz116⟩
instance : TSlice Tryz.prog 116 5 := ⟨Tryz.underlying116⟩
instance : TZer Tryz.prog 116 [.slice none 0 0] := ⟨by kernel_rfl⟩
instance : TSize Tryz.prog 117 1 := ⟨isz117⟩
instance : TOne Tryz.prog 117 := ⟨⟨_, Tryz.underlying117, rfl⟩, isz117⟩
instance : TSize Tryz.prog 118 1 := ⟨isz118⟩
instance : TOne Tryz.prog 118 := ⟨⟨_, Tryz.underlying118, rfl⟩, isz118⟩
instance : TZer Tryz.prog 118 [.nilFunc] := ⟨by kernel_rfl⟩
instance : TSize Tryz.prog 119 1 := ⟨isz119⟩
instance : TOne Tryz.prog 119 := ⟨⟨_, Tryz.underlying119, rfl⟩, isz119⟩
instance : TZer Tryz.prog 119 [.pointer none] := ⟨by kernel_rfl⟩
instance : TSize Tryz.prog 120 1 := ⟨isz120⟩
instance : TOne Tryz.prog 120 := ⟨⟨_, Tryz.underlying120, rfl⟩, isz120⟩
instance : TZer Tryz.prog 120 [.nilFunc] := ⟨by kernel_rfl⟩
instance : TSize Tryz.prog 121 1 := ⟨isz121⟩
instance : TOne Tryz.prog 121 := ⟨⟨_, Tryz.underlying121, rfl⟩, isz121⟩
instance : TZer Tryz.prog 121 [.pointer none] := ⟨by kernel_rfl⟩
instance : TSize Tryz.prog 122 2 := ⟨isz122⟩
instance : TRow Tryz.prog 122 2 := ⟨⟨_, Tryz.underlying122, rfl⟩, isz122⟩
instance : TZer Tryz.prog 122 [.pointer none, .slice none 0 0] := ⟨by kernel_rfl⟩
instance : TStruct Tryz.prog 122 [(0, 1), (1, 1)] := ⟨⟨_, Tryz.underlying122, by kernel_rfl⟩⟩
instance : TFld Tryz.prog 122 0 0 0 false := ⟨⟨_, _, _, Tryz.underlying122, rfl, rfl, Tryz.underlying121, rfl, isz121⟩⟩
instance : TFld Tryz.prog 122 1 1 0 false := ⟨⟨_, _, _, Tryz.underlying122, rfl, rfl, Tryz.underlying116, rfl, isz116⟩⟩
instance : TSize Tryz.prog 126 1 := ⟨isz126⟩
instance : TOne Tryz.prog 126 := ⟨⟨_, Tryz.underlying126, rfl⟩, isz126⟩
instance : TIfc Tryz.prog 126 := ⟨_, Tryz.underlying126⟩
instance : TZer Tryz.prog 126 [.nilIface] := ⟨by kernel_rfl⟩
instance : TSize Tryz.prog 127 1 := ⟨isz127⟩
instance : TOne Tryz.prog 127 := ⟨⟨_, Tryz.underlying127, rfl⟩, isz127⟩
instance : TSize Tryz.prog 131 4 := ⟨isz131⟩
instance : TRow Tryz.prog 131 4 := ⟨⟨_, Tryz.underlying131, rfl⟩, isz131⟩
instance : TZer Tryz.prog 131 [.bool false, .bool false, .bool false, .bool false] := ⟨by kernel_rfl⟩
instance : TStruct Tryz.prog 131 [(0, 1), (1, 1), (2, 1), (3, 1)] := ⟨⟨_, Tryz.underlying131, by kernel_rfl⟩⟩
instance : TFld Tryz.prog 131 0 0 0 false := ⟨⟨_, _, _, Tryz.underlying131, rfl, rfl, Tryz.underlying4, rfl, isz4⟩⟩
instance : TFld Tryz.prog 131 1 1 0 false := ⟨⟨_, _, _, Tryz.underlying131, rfl, rfl, Tryz.underlying4, rfl, isz4⟩⟩
instance : TFld Tryz.prog 131 2 2 0 false := ⟨⟨_, _, _, Tryz.underlying131, rfl, rfl, Tryz.underlying4, rfl, isz4⟩⟩
instance : TFld Tryz.prog 131 3 3 0 false := ⟨⟨_, _, _, Tryz.underlying131, rfl, rfl, Tryz.underlying4, rfl, isz4⟩⟩
instance : TSize Tryz.prog 138 256 := ⟨isz138⟩
instance : TRow Tryz.prog 138 256 := ⟨⟨_, Tryz.underlying138, rfl⟩, isz138⟩
instance : TSize Tryz.prog 139 1 := ⟨isz139⟩
instance : TOne Tryz.prog 139 := ⟨⟨_, Tryz.underlying139, rfl⟩, isz139⟩
instance : TSize Tryz.prog 142 1 := ⟨isz142⟩
instance : TOne Tryz.prog 142 := ⟨⟨_, Tryz.underlying142, rfl⟩, isz142⟩
instance : TZer Tryz.prog 142 [.pointer none] := ⟨by kernel_rfl⟩
instance : TSize Tryz.prog 145 1 := ⟨isz145⟩
instance : TOne Tryz.prog 145 := ⟨⟨_, Tryz.underlying145, rfl⟩, isz145⟩
instance : TInt Tryz.prog 145 .u64 := ⟨Tryz.underlying145⟩
instance : TZer Tryz.prog 145 [.int .u64 0] := ⟨by kernel_rfl⟩
instance : TSize Tryz.prog 147 20 := ⟨isz147⟩
instance : TRow Tryz.prog 147 20 := ⟨⟨_, Tryz.underlying147, rfl⟩, isz147⟩
instance : TSize Tryz.prog 148 1 := ⟨isz148⟩
instance : TOne Tryz.prog 148 := ⟨⟨_, Tryz.underlying148, rfl⟩, isz148⟩
instance : TInt Tryz.prog 148 .u32 := ⟨Tryz.underlying148⟩
instance : TZer Tryz.prog 148 [.int .u32 0] := ⟨by kernel_rfl⟩
instance : TSize Tryz.prog 149 65 := ⟨isz149⟩
instance : TRow Tryz.prog 149 65 := ⟨⟨_, Tryz.underlying149, rfl⟩, isz149⟩
instance : TSize Tryz.prog 167 1 := ⟨isz167⟩
instance : TOne Tryz.prog 167 := ⟨⟨_, Tryz.underlying167, rfl⟩, isz167⟩
instance : TZer Tryz.prog 167 [.pointer none] := ⟨by kernel_rfl⟩
instance : TSize Tryz.prog 169 4 := ⟨isz169⟩
instance : TRow Tryz.prog 169 4 := ⟨⟨_, Tryz.underlying169, rfl⟩, isz169⟩
instance : TZer Tryz.prog 169 [.slice none 0 0, .string ⟨#[]⟩, .int .i64 0, .int .i64 0] := ⟨by kernel_rfl⟩
instance : TStruct Tryz.prog 169 [(0, 1), (1, 1), (2, 1), (3, 1)] := ⟨⟨_, Tryz.underlying169, by kernel_rfl⟩⟩
instance : TFld Tryz.prog 169 0 0 0 false := ⟨⟨_, _, _, Tryz.underlying169, rfl, rfl, Tryz.underlying24, rfl, isz24⟩⟩
instance : TFld Tryz.prog 169 1 1 0 false := ⟨⟨_, _, _, Tryz.underlying169, rfl, rfl, Tryz.underlying9, rfl, isz9⟩⟩
instance : TFld Tryz.prog 169 2 2 0 false := ⟨⟨_, _, _, Tryz.underlying169, rfl, rfl, Tryz.underlying3, rfl, isz3⟩⟩
instance : TFld Tryz.prog 169 3 3 0 false := ⟨⟨_, _, _, Tryz.underlying169, rfl, rfl, Tryz.underlying3, rfl, isz3⟩⟩
instance : TSize Tryz.prog 170 1 := ⟨isz170⟩
instance : TOne Tryz.prog 170 := ⟨⟨_, Tryz.underlying170, rfl⟩, isz170⟩
instance : TSize Tryz.prog 172 4 := ⟨isz172⟩
instance : TRow Tryz.prog 172 4 := ⟨⟨_, Tryz.underlying172, rfl⟩, isz172⟩
instance : TZer Tryz.prog 172 [.slice none 0 0, .string ⟨#[]⟩, .int .i64 0, .int .i64 0] := ⟨by kernel_rfl⟩
instance : TStruct Tryz.prog 172 [(0, 1), (1, 1), (2, 1), (3, 1)] := ⟨⟨_, Tryz.underlying172, by kernel_rfl⟩⟩
instance : TFld Tryz.prog 172 0 0 0 false := ⟨⟨_, _, _, Tryz.underlying172, rfl, rfl, Tryz.underlying24, rfl, isz24⟩⟩
instance : TFld Tryz.prog 172 1 1 0 false := ⟨⟨_, _, _, Tryz.underlying172, rfl, rfl, Tryz.underlying9, rfl, isz9⟩⟩
instance : TFld Tryz.prog 172 2 2 0 false := ⟨⟨_, _, _, Tryz.underlying172, rfl, rfl, Tryz.underlying3, rfl, isz3⟩⟩
instance : TFld Tryz.prog 172 3 3 0 false := ⟨⟨_, _, _, Tryz.underlying172, rfl, rfl, Tryz.underlying3, rfl, isz3⟩⟩
instance : TSize Tryz.prog 173 1 := ⟨isz173⟩
instance : TOne Tryz.prog 173 := ⟨⟨_, Tryz.underlying173, rfl⟩, isz173⟩
instance : TSize Tryz.prog 176 1 := ⟨isz176⟩
instance : TOne Tryz.prog 176 := ⟨⟨_, Tryz.underlying176, rfl⟩, isz176⟩
instance : TSize Tryz.prog 180 1 := ⟨isz180⟩
instance : TOne Tryz.prog 180 := ⟨⟨_, Tryz.underlying180, rfl⟩, isz180⟩
instance : TSize Tryz.prog 188 1 := ⟨isz188⟩
instance : TOne Tryz.prog 188 := ⟨⟨_, Tryz.underlying188, rfl⟩, isz188⟩
instance : TSize Tryz.prog 192 32 := ⟨isz192⟩
instance : TRow Tryz.prog 192 32 := ⟨⟨_, Tryz.underlying192, rfl⟩, isz192⟩
instance : TSize Tryz.prog 193 64 := ⟨isz193⟩
instance : TRow Tryz.prog 193 64 := ⟨⟨_, Tryz.underlying193, rfl⟩, isz193⟩
instance : TSize Tryz.prog 202 256 := ⟨isz202⟩
instance : TRow Tryz.prog 202 256 := ⟨⟨_, Tryz.underlying202, rfl⟩, isz202⟩
instance : TSize Tryz.prog 210 2 := ⟨isz210⟩
instance : TRow Tryz.prog 210 2 := ⟨⟨_, Tryz.underlying210, rfl⟩, isz210⟩
instance : TZer Tryz.prog 210 [.int .u8 0, .int .u8 0] := ⟨by kernel_rfl⟩
instance : TStruct Tryz.prog 210 [(0, 1), (1, 1)] := ⟨⟨_, Tryz.underlying210, by kernel_rfl⟩⟩
instance : TFld Tryz.prog 210 0 0 0 false := ⟨⟨_, _, _, Tryz.underlying210, rfl, rfl, Tryz.underlying5, rfl, isz5⟩⟩
instance : TFld Tryz.prog 210 1 1 0 false := ⟨⟨_, _, _, Tryz.underlying210, rfl, rfl, Tryz.underlying5, rfl, isz5⟩⟩
instance : TSize Tryz.prog 211 32 := ⟨isz211⟩
instance : TRow Tryz.prog 211 32 := ⟨⟨_, Tryz.underlying211, rfl⟩, isz211⟩
instance : TSize Tryz.prog 237 1 := ⟨isz237⟩
instance : TOne Tryz.prog 237 := ⟨⟨_, Tryz.underlying237, rfl⟩, isz237⟩
instance : TInt Tryz.prog 237 .i64 := ⟨Tryz.underlying237⟩
instance : TZer Tryz.prog 237 [.int .i64 0] := ⟨by kernel_rfl⟩
instance : TSize Tryz.prog 238 1 := ⟨isz238⟩
instance : TOne Tryz.prog 238 := ⟨⟨_, Tryz.underlying238, rfl⟩, isz238⟩
instance : TSize Tryz.prog 240 1 := ⟨isz240⟩
instance : TOne Tryz.prog 240 := ⟨⟨_, Tryz.underlying240, rfl⟩, isz240⟩
instance : TZer Tryz.prog 240 [.pointer none] := ⟨by kernel_rfl⟩
instance : TSize Tryz.prog 246 1 := ⟨isz246⟩
instance : TOne Tryz.prog 246 := ⟨⟨_, Tryz.underlying246, rfl⟩, isz246⟩
instance : TSize Tryz.prog 249 3 := ⟨isz249⟩
instance : TRow Tryz.prog 249 3 := ⟨⟨_, Tryz.underlying249, rfl⟩, isz249⟩
instance : TZer Tryz.prog 249 [.string ⟨#[]⟩, .string ⟨#[]⟩, .nilIface] := ⟨by kernel_rfl⟩
instance : TStruct Tryz.prog 249 [(0, 1), (1, 1), (2, 1)] := ⟨⟨_, Tryz.underlying249, by kernel_rfl⟩⟩
instance : TFld Tryz.prog 249 0 0 0 false := ⟨⟨_, _, _, Tryz.underlying249, rfl, rfl, Tryz.underlying9, rfl, isz9⟩⟩
instance : TFld Tryz.prog 249 1 1 0 false := ⟨⟨_, _, _, Tryz.underlying249, rfl, rfl, Tryz.underlying9, rfl, isz9⟩⟩
instance : TFld Tryz.prog 249 2 2 0 false := ⟨⟨_, _, _, Tryz.underlying249, rfl, rfl, Tryz.underlying126, rfl, isz126⟩⟩
instance : TSize Tryz.prog 252 1 := ⟨isz252⟩
instance : TOne Tryz.prog 252 := ⟨⟨_, Tryz.underlying252, rfl⟩, isz252⟩
instance : TZer Tryz.prog 252 [.pointer none] := ⟨by kernel_rfl⟩
instance : TSize Tryz.prog 254 1 := ⟨isz254⟩
instance : TRow Tryz.prog 254 1 := ⟨⟨_, Tryz.underlying254, rfl⟩, isz254⟩
instance : TZer Tryz.prog 254 [.string ⟨#[]⟩] := ⟨by kernel_rfl⟩
instance : TStruct Tryz.prog 254 [(0, 1)] := ⟨⟨_, Tryz.underlying254, by kernel_rfl⟩⟩
instance : TFld Tryz.prog 254 0 0 0 false := ⟨⟨_, _, _, Tryz.underlying254, rfl, rfl, Tryz.underlying9, rfl, isz9⟩⟩
instance : Enters Tryz.prog 4 := ⟨⟨_, Tryz.func4, by kernel_rfl, by kernel_rfl⟩⟩
instance : Enters Tryz.prog 9 := ⟨⟨_, Tryz.func9, by kernel_rfl, by kernel_rfl⟩⟩
instance : Enters Tryz.prog 10 := ⟨⟨_, Tryz.func10, by kernel_rfl, by kernel_rfl⟩⟩
instance : Enters Tryz.prog 11 := ⟨⟨_, Tryz.func11, by kernel_rfl, by kernel_rfl⟩⟩
instance : Enters Tryz.prog 12 := ⟨⟨_, Tryz.func12, by kernel_rfl, by kernel_rfl⟩⟩
instance : Enters Tryz.prog 13 := ⟨⟨_, Tryz.func13, by kernel_rfl, by kernel_rfl⟩⟩
instance : Enters Tryz.prog 14 := ⟨⟨_, Tryz.func14, by kernel_rfl, by kernel_rfl⟩⟩
instance : Enters Tryz.prog 17 := ⟨⟨_, Tryz.func17, by kernel_rfl, by kernel_rfl⟩⟩
instance : Enters Tryz.prog 24 := ⟨⟨_, Tryz.func24, by kernel_rfl, by kernel_rfl⟩⟩
instance : Enters Tryz.prog 25 := ⟨⟨_, Tryz.func25, by kernel_rfl, by kernel_rfl⟩⟩
instance : Enters Tryz.prog 26 := ⟨⟨_, Tryz.func26, by kernel_rfl, by kernel_rfl⟩⟩
instance : Enters Tryz.prog 27 := ⟨⟨_, Tryz.func27, by kernel_rfl, by kernel_rfl⟩⟩
instance : Enters Tryz.prog 28 := ⟨⟨_, Tryz.func28, by kernel_rfl, by kernel_rfl⟩⟩
instance : Enters Tryz.prog 29 := ⟨⟨_, Tryz.func29, by kernel_rfl, by kernel_rfl⟩⟩
instance : Enters Tryz.prog 30 := ⟨⟨_, Tryz.func30, by kernel_rfl, by kernel_rfl⟩⟩
instance : Enters Tryz.prog 31 := ⟨⟨_, Tryz.func31, by kernel_rfl, by kernel_rfl⟩⟩
instance : Enters Tryz.prog 33 := ⟨⟨_, Tryz.func33, by kernel_rfl, by kernel_rfl⟩⟩
instance : Enters Tryz.prog 34 := ⟨⟨_, Tryz.func34, by kernel_rfl, by kernel_rfl⟩⟩
instance : Enters Tryz.prog 35 := ⟨⟨_, Tryz.func35, by kernel_rfl, by kernel_rfl⟩⟩
instance : Enters Tryz.prog 36 := ⟨⟨_, Tryz.func36, by kernel_rfl, by kernel_rfl⟩⟩
instance : Enters Tryz.prog 37 := ⟨⟨_, Tryz.func37, by kernel_rfl, by kernel_rfl⟩⟩
instance : Enters Tryz.prog 38 := ⟨⟨_, Tryz.func38, by kernel_rfl, by kernel_rfl⟩⟩
instance : Enters Tryz.prog 39 := ⟨⟨_, Tryz.func39, by kernel_rfl, by kernel_rfl⟩⟩
instance : Enters Tryz.prog 40 := ⟨⟨_, Tryz.func40, by kernel_rfl, by kernel_rfl⟩⟩
instance : Enters Tryz.prog 41 := ⟨⟨_, Tryz.func41, by kernel_rfl, by kernel_rfl⟩⟩
instance : Enters Tryz.prog 42 := ⟨⟨_, Tryz.func42, by kernel_rfl, by kernel_rfl⟩⟩
instance : Enters Tryz.prog 48 := ⟨⟨_, Tryz.func48, by kernel_rfl, by kernel_rfl⟩⟩
instance : Enters Tryz.prog 51 := ⟨⟨_, Tryz.func51, by kernel_rfl, by kernel_rfl⟩⟩
instance : Enters Tryz.prog 54 := ⟨⟨_, Tryz.func54, by kernel_rfl, by kernel_rfl⟩⟩
instance : Enters Tryz.prog 55 := ⟨⟨_, Tryz.func55, by kernel_rfl, by kernel_rfl⟩⟩
instance : Enters Tryz.prog 56 := ⟨⟨_, Tryz.func56, by kernel_rfl, by kernel_rfl⟩⟩
instance : Enters Tryz.prog 57 := ⟨⟨_, Tryz.func57, by kernel_rfl, by kernel_rfl⟩⟩
instance : Enters Tryz.prog 58 := ⟨⟨_, Tryz.func58, by kernel_rfl, by kernel_rfl⟩⟩
instance : Enters Tryz.prog 59 := ⟨⟨_, Tryz.func59, by kernel_rfl, by kernel_rfl⟩⟩
instance : Enters Tryz.prog 60 := ⟨⟨_, Tryz.func60, by kernel_rfl, by kernel_rfl⟩⟩
instance : Enters Tryz.prog 61 := ⟨⟨_, Tryz.func61, by kernel_rfl, by kernel_rfl⟩⟩
instance : Enters Tryz.prog 62 := ⟨⟨_, Tryz.func62, by kernel_rfl, by kernel_rfl⟩⟩
instance : Enters Tryz.prog 63 := ⟨⟨_, Tryz.func63, by kernel_rfl, by kernel_rfl⟩⟩
instance : Enters Tryz.prog 64 := ⟨⟨_, Tryz.func64, by kernel_rfl, by kernel_rfl⟩⟩
instance : Enters Tryz.prog 65 := ⟨⟨_, Tryz.func65, by kernel_rfl, by kernel_rfl⟩⟩
instance : Enters Tryz.prog 66 := ⟨⟨_, Tryz.func66, by kernel_rfl, by kernel_rfl⟩⟩
instance : Enters Tryz.prog 67 := ⟨⟨_, Tryz.func67, by kernel_rfl, by kernel_rfl⟩⟩
instance : Enters Tryz.prog 68 := ⟨⟨_, Tryz.func68, by kernel_rfl, by kernel_rfl⟩⟩
instance : Enters Tryz.prog 69 := ⟨⟨_, Tryz.func69, by kernel_rfl, by kernel_rfl⟩⟩
instance : Enters Tryz.prog 70 := ⟨⟨_, Tryz.func70, by kernel_rfl, by kernel_rfl⟩⟩
instance : Enters Tryz.prog 71 := ⟨⟨_, Tryz.func71, by kernel_rfl, by kernel_rfl⟩⟩
instance : Enters Tryz.prog 75 := ⟨⟨_, Tryz.func75, by kernel_rfl, by kernel_rfl⟩⟩
instance : Enters Tryz.prog 76 := ⟨⟨_, Tryz.func76, by kernel_rfl, by kernel_rfl⟩⟩
instance : Enters Tryz.prog 80 := ⟨⟨_, Tryz.func80, by kernel_rfl, by kernel_rfl⟩⟩
instance : Enters Tryz.prog 81 := ⟨⟨_, Tryz.func81, by kernel_rfl, by kernel_rfl⟩⟩
instance : Enters Tryz.prog 82 := ⟨⟨_, Tryz.func82, by kernel_rfl, by kernel_rfl⟩⟩
instance : Enters Tryz.prog 83 := ⟨⟨_, Tryz.func83, by kernel_rfl, by kernel_rfl⟩⟩
instance : Enters Tryz.prog 84 := ⟨⟨_, Tryz.func84, by kernel_rfl, by kernel_rfl⟩⟩
instance : Enters Tryz.prog 89 := ⟨⟨_, Tryz.func89, by kernel_rfl, by kernel_rfl⟩⟩
instance : Enters Tryz.prog 90 := ⟨⟨_, Tryz.func90, by kernel_rfl, by kernel_rfl⟩⟩
instance : Enters Tryz.prog 91 := ⟨⟨_, Tryz.func91, by kernel_rfl, by kernel_rfl⟩⟩
instance : Enters Tryz.prog 92 := ⟨⟨_, Tryz.func92, by kernel_rfl, by kernel_rfl⟩⟩
instance : Enters Tryz.prog 93 := ⟨⟨_, Tryz.func93, by kernel_rfl, by kernel_rfl⟩⟩
instance : Enters Tryz.prog 94 := ⟨⟨_, Tryz.func94, by kernel_rfl, by kernel_rfl⟩⟩
instance : Enters Tryz.prog 95 := ⟨⟨_, Tryz.func95, by kernel_rfl, by kernel_rfl⟩⟩
instance : Enters Tryz.prog 96 := ⟨⟨_, Tryz.func96, by kernel_rfl, by kernel_rfl⟩⟩
instance : Enters Tryz.prog 98 := ⟨⟨_, Tryz.func98, by kernel_rfl, by kernel_rfl⟩⟩
instance : Enters Tryz.prog 100 := ⟨⟨_, Tryz.func100, by kernel_rfl, by kernel_rfl⟩⟩
instance : Enters Tryz.prog 101 := ⟨⟨_, Tryz.func101, by kernel_rfl, by kernel_rfl⟩⟩
instance : Enters Tryz.prog 103 := ⟨⟨_, Tryz.func103, by kernel_rfl, by kernel_rfl⟩⟩
instance : Enters Tryz.prog 104 := ⟨⟨_, Tryz.func104, by kernel_rfl, by kernel_rfl⟩⟩
instance : Enters Tryz.prog 105 := ⟨⟨_, Tryz.func105, by kernel_rfl, by kernel_rfl⟩⟩
instance : Enters Tryz.prog 106 := ⟨⟨_, Tryz.func106, by kernel_rfl, by kernel_rfl⟩⟩
instance : Enters Tryz.prog 107 := ⟨⟨_, Tryz.func107, by kernel_rfl, by kernel_rfl⟩⟩
instance : Enters Tryz.prog 108 := ⟨⟨_, Tryz.func108, by kernel_rfl, by kernel_rfl⟩⟩
instance : Enters Tryz.prog 114 := ⟨⟨_, Tryz.func114, by kernel_rfl, by kernel_rfl⟩⟩
instance : Enters Tryz.prog 115 := ⟨⟨_, Tryz.func115, by kernel_rfl, by kernel_rfl⟩⟩
instance : Enters Tryz.prog 116 := ⟨⟨_, Tryz.func116, by kernel_rfl, by kernel_rfl⟩⟩
instance : Enters Tryz.prog 117 := ⟨⟨_, Tryz.func117, by kernel_rfl, by kernel_rfl⟩⟩
instance : Enters Tryz.prog 118 := ⟨⟨_, Tryz.func118, by kernel_rfl, by kernel_rfl⟩⟩
instance : Enters Tryz.prog 119 := ⟨⟨_, Tryz.func119, by kernel_rfl, by kernel_rfl⟩⟩
instance : Enters Tryz.prog 120 := ⟨⟨_, Tryz.func120, by kernel_rfl, by kernel_rfl⟩⟩
instance : Enters Tryz.prog 121 := ⟨⟨_, Tryz.func121, by kernel_rfl, by kernel_rfl⟩⟩
instance : Enters Tryz.prog 122 := ⟨⟨_, Tryz.func122, by kernel_rfl, by kernel_rfl⟩⟩
instance : Enters Tryz.prog 123 := ⟨⟨_, Tryz.func123, by kernel_rfl, by kernel_rfl⟩⟩
instance : Enters Tryz.prog 124 := ⟨⟨_, Tryz.func124, by kernel_rfl, by kernel_rfl⟩⟩
instance : Enters Tryz.prog 125 := ⟨⟨_, Tryz.func125, by kernel_rfl, by kernel_rfl⟩⟩
instance : Enters Tryz.prog 126 := ⟨⟨_, Tryz.func126, by kernel_rfl, by kernel_rfl⟩⟩
instance : Enters Tryz.prog 127 := ⟨⟨_, Tryz.func127, by kernel_rfl, by kernel_rfl⟩⟩
instance : Enters Tryz.prog 128 := ⟨⟨_, Tryz.func128, by kernel_rfl, by kernel_rfl⟩⟩
instance : Enters Tryz.prog 129 := ⟨⟨_, Tryz.func129, by kernel_rfl, by kernel_rfl⟩⟩
instance : Enters Tryz.prog 130 := ⟨⟨_, Tryz.func130, by kernel_rfl, by kernel_rfl⟩⟩
instance : Enters Tryz.prog 131 := ⟨⟨_, Tryz.func131, by kernel_rfl, by kernel_rfl⟩⟩
instance : Enters Tryz.prog 132 := ⟨⟨_, Tryz.func132, by kernel_rfl, by kernel_rfl⟩⟩
instance : Enters Tryz.prog 133 := ⟨⟨_, Tryz.func133, by kernel_rfl, by kernel_rfl⟩⟩
instance : Enters Tryz.prog 134 := ⟨⟨_, Tryz.func134, by kernel_rfl, by kernel_rfl⟩⟩
instance : Enters Tryz.prog 137 := ⟨⟨_, Tryz.func137, by kernel_rfl, by kernel_rfl⟩⟩
instance : Enters Tryz.prog 138 := ⟨⟨_, Tryz.func138, by kernel_rfl, by kernel_rfl⟩⟩
instance : Enters Tryz.prog 139 := ⟨⟨_, Tryz.func139, by kernel_rfl, by kernel_rfl⟩⟩
instance : Enters Tryz.prog 140 := ⟨⟨_, Tryz.func140, by kernel_rfl, by kernel_rfl⟩⟩
instance : Enters Tryz.prog 141 := ⟨⟨_, Tryz.func141, by kernel_rfl, by kernel_rfl⟩⟩
instance : Enters Tryz.prog 142 := ⟨⟨_, Tryz.func142, by kernel_rfl, by kernel_rfl⟩⟩
instance : Enters Tryz.prog 143 := ⟨⟨_, Tryz.func143, by kernel_rfl, by kernel_rfl⟩⟩
instance : Enters Tryz.prog 148 := ⟨⟨_, Tryz.func148, by kernel_rfl, by kernel_rfl⟩⟩
instance : Enters Tryz.prog 149 := ⟨⟨_, Tryz.func149, by kernel_rfl, by kernel_rfl⟩⟩
instance : Enters Tryz.prog 150 := ⟨⟨_, Tryz.func150, by kernel_rfl, by kernel_rfl⟩⟩
instance : Enters Tryz.prog 151 := ⟨⟨_, Tryz.func151, by kernel_rfl, by kernel_rfl⟩⟩
instance : Enters Tryz.prog 152 := ⟨⟨_, Tryz.func152, by kernel_rfl, by kernel_rfl⟩⟩
instance : Enters Tryz.prog 153 := ⟨⟨_, Tryz.func153, by kernel_rfl, by kernel_rfl⟩⟩
instance : Enters Tryz.prog 155 := ⟨⟨_, Tryz.func155, by kernel_rfl, by kernel_rfl⟩⟩
instance : Enters Tryz.prog 156 := ⟨⟨_, Tryz.func156, by kernel_rfl, by kernel_rfl⟩⟩
instance : Enters Tryz.prog 157 := ⟨⟨_, Tryz.func157, by kernel_rfl, by kernel_rfl⟩⟩
instance : Enters Tryz.prog 158 := ⟨⟨_, Tryz.func158, by kernel_rfl, by kernel_rfl⟩⟩
instance : Enters Tryz.prog 159 := ⟨⟨_, Tryz.func159, by kernel_rfl, by kernel_rfl⟩⟩
instance : Enters Tryz.prog 160 := ⟨⟨_, Tryz.func160, by kernel_rfl, by kernel_rfl⟩⟩
instance : Enters Tryz.prog 166 := ⟨⟨_, Tryz.func166, by kernel_rfl, by kernel_rfl⟩⟩
instance : Enters Tryz.prog 167 := ⟨⟨_, Tryz.func167, by kernel_rfl, by kernel_rfl⟩⟩
instance : Enters Tryz.prog 168 := ⟨⟨_, Tryz.func168, by kernel_rfl, by kernel_rfl⟩⟩
instance : Enters Tryz.prog 169 := ⟨⟨_, Tryz.func169, by kernel_rfl, by kernel_rfl⟩⟩
instance : Enters Tryz.prog 170 := ⟨⟨_, Tryz.func170, by kernel_rfl, by kernel_rfl⟩⟩
instance : Enters Tryz.prog 171 := ⟨⟨_, Tryz.func171, by kernel_rfl, by kernel_rfl⟩⟩
instance : Enters Tryz.prog 172 := ⟨⟨_, Tryz.func172, by kernel_rfl, by kernel_rfl⟩⟩
instance : Enters Tryz.prog 179 := ⟨⟨_, Tryz.func179, by kernel_rfl, by kernel_rfl⟩⟩
instance : Enters Tryz.prog 180 := ⟨⟨_, Tryz.func180, by kernel_rfl, by kernel_rfl⟩⟩
instance : Enters Tryz.prog 181 := ⟨⟨_, Tryz.func181, by kernel_rfl, by kernel_rfl⟩⟩
instance : Enters Tryz.prog 182 := ⟨⟨_, Tryz.func182, by kernel_rfl, by kernel_rfl⟩⟩
instance : Enters Tryz.prog 183 := ⟨⟨_, Tryz.func183, by kernel_rfl, by kernel_rfl⟩⟩
instance : Enters Tryz.prog 184 := ⟨⟨_, Tryz.func184, by kernel_rfl, by kernel_rfl⟩⟩
instance : Enters Tryz.prog 191 := ⟨⟨_, Tryz.func191, by kernel_rfl, by kernel_rfl⟩⟩
instance : Enters Tryz.prog 192 := ⟨⟨_, Tryz.func192, by kernel_rfl, by kernel_rfl⟩⟩
instance : Enters Tryz.prog 203 := ⟨⟨_, Tryz.func203, by kernel_rfl, by kernel_rfl⟩⟩
instance : Enters Tryz.prog 204 := ⟨⟨_, Tryz.func204, by kernel_rfl, by kernel_rfl⟩⟩
instance : Enters Tryz.prog 205 := ⟨⟨_, Tryz.func205, by kernel_rfl, by kernel_rfl⟩⟩
instance : Enters Tryz.prog 206 := ⟨⟨_, Tryz.func206, by kernel_rfl, by kernel_rfl⟩⟩
instance : Enters Tryz.prog 207 := ⟨⟨_, Tryz.func207, by kernel_rfl, by kernel_rfl⟩⟩
instance : Enters Tryz.prog 216 := ⟨⟨_, Tryz.func216, by kernel_rfl, by kernel_rfl⟩⟩
instance : Enters Tryz.prog 217 := ⟨⟨_, Tryz.func217, by kernel_rfl, by kernel_rfl⟩⟩
instance : Enters Tryz.prog 218 := ⟨⟨_, Tryz.func218, by kernel_rfl, by kernel_rfl⟩⟩
instance : Enters Tryz.prog 219 := ⟨⟨_, Tryz.func219, by kernel_rfl, by kernel_rfl⟩⟩
instance : Enters Tryz.prog 220 := ⟨⟨_, Tryz.func220, by kernel_rfl, by kernel_rfl⟩⟩
end Go.Proofs.YtbphihljkbdfpaaGreatDoor
