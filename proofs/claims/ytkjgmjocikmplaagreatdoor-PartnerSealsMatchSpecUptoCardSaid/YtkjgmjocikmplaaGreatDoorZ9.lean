/- What the types and functions of this translation are, one instance each. (Written by wip/inst.py.). -/
import Derived.Test.YtkjgmjocikmplaaGreatDoorZ1
import Derived.Test.YtkjgmjocikmplaaGreatDoorProg
namespace Go.Proofs.YtkjgmjocikmplaaGreatDoor
set_option linter.unusedVariables false
theorem isz0 : (Tryz.prog.info? 0).map (·.size) = some 1 := by kernel_rfl
theorem isz1 : (Tryz.prog.info? 1).map (·.size) = some 1 := by kernel_rfl
theorem isz2 : (Tryz.prog.info? 2).map (·.size) = some 1 := by kernel_rfl
theorem isz3 : (Tryz.prog.info? 3).map (·.size) = some 1 := by kernel_rfl
theorem isz4 : (Tryz.prog.info? 4).map (·.size) = some 1 := by kernel_rfl
theorem isz5 : (Tryz.prog.info? 5).map (·.size) = some 1 := by kernel_rfl
theorem isz6 : (Tryz.prog.info? 6).map (·.size) = some 1 := by kernel_rfl
theorem isz7 : (Tryz.prog.info? 7).map (·.size) = some 4 := by kernel_rfl
theorem isz8 : (Tryz.prog.info? 8).map (·.size) = some 4 := by kernel_rfl
theorem isz9 : (Tryz.prog.info? 9).map (·.size) = some 1 := by kernel_rfl
theorem isz10 : (Tryz.prog.info? 10).map (·.size) = some 1 := by kernel_rfl
theorem isz11 : (Tryz.prog.info? 11).map (·.size) = some 1 := by kernel_rfl
theorem isz12 : (Tryz.prog.info? 12).map (·.size) = some 1 := by kernel_rfl
theorem isz13 : (Tryz.prog.info? 13).map (·.size) = some 2 := by kernel_rfl
theorem isz14 : (Tryz.prog.info? 14).map (·.size) = some 2 := by kernel_rfl
theorem isz15 : (Tryz.prog.info? 15).map (·.size) = some 1 := by kernel_rfl
theorem isz16 : (Tryz.prog.info? 16).map (·.size) = some 1 := by kernel_rfl
theorem isz17 : (Tryz.prog.info? 17).map (·.size) = some 1 := by kernel_rfl
theorem isz18 : (Tryz.prog.info? 18).map (·.size) = some 1 := by kernel_rfl
theorem isz19 : (Tryz.prog.info? 19).map (·.size) = some 1 := by kernel_rfl
theorem isz20 : (Tryz.prog.info? 20).map (·.size) = some 1 := by kernel_rfl
theorem isz21 : (Tryz.prog.info? 21).map (·.size) = some 1 := by kernel_rfl
theorem isz22 : (Tryz.prog.info? 22).map (·.size) = some 1 := by kernel_rfl
theorem isz23 : (Tryz.prog.info? 23).map (·.size) = some 3 := by kernel_rfl
theorem isz24 : (Tryz.prog.info? 24).map (·.size) = some 3 := by kernel_rfl
theorem isz25 : (Tryz.prog.info? 25).map (·.size) = some 1 := by kernel_rfl
theorem isz26 : (Tryz.prog.info? 26).map (·.size) = some 1 := by kernel_rfl
theorem isz27 : (Tryz.prog.info? 27).map (·.size) = some 1 := by kernel_rfl
theorem isz28 : (Tryz.prog.info? 28).map (·.size) = some 1 := by kernel_rfl
theorem isz29 : (Tryz.prog.info? 29).map (·.size) = some 1 := by kernel_rfl
theorem isz30 : (Tryz.prog.info? 30).map (·.size) = some 1 := by kernel_rfl
theorem isz31 : (Tryz.prog.info? 31).map (·.size) = some 1 := by kernel_rfl
theorem isz32 : (Tryz.prog.info? 32).map (·.size) = some 1 := by kernel_rfl
theorem isz33 : (Tryz.prog.info? 33).map (·.size) = some 1 := by kernel_rfl
theorem isz34 : (Tryz.prog.info? 34).map (·.size) = some 1 := by kernel_rfl
theorem isz35 : (Tryz.prog.info? 35).map (·.size) = some 1 := by kernel_rfl
theorem isz36 : (Tryz.prog.info? 36).map (·.size) = some 1 := by kernel_rfl
theorem isz37 : (Tryz.prog.info? 37).map (·.size) = some 1 := by kernel_rfl
theorem isz38 : (Tryz.prog.info? 38).map (·.size) = some 1 := by kernel_rfl
theorem isz39 : (Tryz.prog.info? 39).map (·.size) = some 1 := by kernel_rfl
theorem isz40 : (Tryz.prog.info? 40).map (·.size) = some 1 := by kernel_rfl
theorem isz41 : (Tryz.prog.info? 41).map (·.size) = some 1 := by kernel_rfl
theorem isz42 : (Tryz.prog.info? 42).map (·.size) = some 1 := by kernel_rfl
theorem isz43 : (Tryz.prog.info? 43).map (·.size) = some 1 := by kernel_rfl
theorem isz44 : (Tryz.prog.info? 44).map (·.size) = some 1 := by kernel_rfl
theorem isz45 : (Tryz.prog.info? 45).map (·.size) = some 1 := by kernel_rfl
theorem isz46 : (Tryz.prog.info? 46).map (·.size) = some 1 := by kernel_rfl
theorem isz47 : (Tryz.prog.info? 47).map (·.size) = some 1 := by kernel_rfl
theorem isz48 : (Tryz.prog.info? 48).map (·.size) = some 1 := by kernel_rfl
theorem isz49 : (Tryz.prog.info? 49).map (·.size) = some 1 := by kernel_rfl
theorem isz50 : (Tryz.prog.info? 50).map (·.size) = some 1 := by kernel_rfl
theorem isz51 : (Tryz.prog.info? 51).map (·.size) = some 1 := by kernel_rfl
theorem isz52 : (Tryz.prog.info? 52).map (·.size) = some 1 := by kernel_rfl
theorem isz53 : (Tryz.prog.info? 53).map (·.size) = some 1 := by kernel_rfl
theorem isz54 : (Tryz.prog.info? 54).map (·.size) = some 2 := by kernel_rfl
theorem isz55 : (Tryz.prog.info? 55).map (·.size) = some 2 := by kernel_rfl
theorem isz56 : (Tryz.prog.info? 56).map (·.size) = some 1 := by kernel_rfl
theorem isz57 : (Tryz.prog.info? 57).map (·.size) = some 1 := by kernel_rfl
theorem isz58 : (Tryz.prog.info? 58).map (·.size) = some 1 := by kernel_rfl
theorem isz59 : (Tryz.prog.info? 59).map (·.size) = some 1 := by kernel_rfl
theorem isz60 : (Tryz.prog.info? 60).map (·.size) = some 1 := by kernel_rfl
theorem isz61 : (Tryz.prog.info? 61).map (·.size) = some 2 := by kernel_rfl
theorem isz62 : (Tryz.prog.info? 62).map (·.size) = some 2 := by kernel_rfl
theorem isz63 : (Tryz.prog.info? 63).map (·.size) = some 1 := by kernel_rfl
theorem isz64 : (Tryz.prog.info? 64).map (·.size) = some 1 := by kernel_rfl
theorem isz65 : (Tryz.prog.info? 65).map (·.size) = some 1 := by kernel_rfl
theorem isz66 : (Tryz.prog.info? 66).map (·.size) = some 1 := by kernel_rfl
theorem isz67 : (Tryz.prog.info? 67).map (·.size) = some 1 := by kernel_rfl
theorem isz68 : (Tryz.prog.info? 68).map (·.size) = some 1 := by kernel_rfl
theorem isz69 : (Tryz.prog.info? 69).map (·.size) = some 1 := by kernel_rfl
theorem isz70 : (Tryz.prog.info? 70).map (·.size) = some 1 := by kernel_rfl
theorem isz71 : (Tryz.prog.info? 71).map (·.size) = some 1 := by kernel_rfl
theorem isz72 : (Tryz.prog.info? 72).map (·.size) = some 1 := by kernel_rfl
theorem isz73 : (Tryz.prog.info? 73).map (·.size) = some 1 := by kernel_rfl
theorem isz74 : (Tryz.prog.info? 74).map (·.size) = some 1 := by kernel_rfl
theorem isz75 : (Tryz.prog.info? 75).map (·.size) = some 1 := by kernel_rfl
theorem isz76 : (Tryz.prog.info? 76).map (·.size) = some 24 := by kernel_rfl
theorem isz77 : (Tryz.prog.info? 77).map (·.size) = some 1 := by kernel_rfl
theorem isz78 : (Tryz.prog.info? 78).map (·.size) = some 1 := by kernel_rfl
theorem isz79 : (Tryz.prog.info? 79).map (·.size) = some 1 := by kernel_rfl
theorem isz80 : (Tryz.prog.info? 80).map (·.size) = some 1 := by kernel_rfl
theorem isz81 : (Tryz.prog.info? 81).map (·.size) = some 1 := by kernel_rfl
theorem isz82 : (Tryz.prog.info? 82).map (·.size) = some 1 := by kernel_rfl
theorem isz83 : (Tryz.prog.info? 83).map (·.size) = some 1 := by kernel_rfl
theorem isz84 : (Tryz.prog.info? 84).map (·.size) = some 1 := by kernel_rfl
theorem isz85 : (Tryz.prog.info? 85).map (·.size) = some 1 := by kernel_rfl
theorem isz86 : (Tryz.prog.info? 86).map (·.size) = some 1 := by kernel_rfl
theorem isz87 : (Tryz.prog.info? 87).map (·.size) = some 1 := by kernel_rfl
theorem isz88 : (Tryz.prog.info? 88).map (·.size) = some 1 := by kernel_rfl
theorem isz89 : (Tryz.prog.info? 89).map (·.size) = some 1 := by kernel_rfl
theorem isz90 : (Tryz.prog.info? 90).map (·.size) = some 1 := by kernel_rfl
theorem isz91 : (Tryz.prog.info? 91).map (·.size) = some 256 := by kernel_rfl
theorem isz92 : (Tryz.prog.info? 92).map (·.size) = some 256 := by kernel_rfl
theorem isz93 : (Tryz.prog.info? 93).map (·.size) = some 1 := by kernel_rfl
theorem isz94 : (Tryz.prog.info? 94).map (·.size) = some 1 := by kernel_rfl
theorem isz95 : (Tryz.prog.info? 95).map (·.size) = some 1 := by kernel_rfl
theorem isz96 : (Tryz.prog.info? 96).map (·.size) = some 1 := by kernel_rfl
theorem isz97 : (Tryz.prog.info? 97).map (·.size) = some 1 := by kernel_rfl
theorem isz98 : (Tryz.prog.info? 98).map (·.size) = some 1 := by kernel_rfl
theorem isz99 : (Tryz.prog.info? 99).map (·.size) = some 1 := by kernel_rfl
theorem isz100 : (Tryz.prog.info? 100).map (·.size) = some 1 := by kernel_rfl
theorem isz101 : (Tryz.prog.info? 101).map (·.size) = some 1 := by kernel_rfl
theorem isz102 : (Tryz.prog.info? 102).map (·.size) = some 1 := by kernel_rfl
theorem isz103 : (Tryz.prog.info? 103).map (·.size) = some 20 := by kernel_rfl
theorem isz104 : (Tryz.prog.info? 104).map (·.size) = some 65 := by kernel_rfl
theorem isz105 : (Tryz.prog.info? 105).map (·.size) = some 1 := by kernel_rfl
theorem isz106 : (Tryz.prog.info? 106).map (·.size) = some 1 := by kernel_rfl
theorem isz107 : (Tryz.prog.info? 107).map (·.size) = some 1 := by kernel_rfl
theorem isz108 : (Tryz.prog.info? 108).map (·.size) = some 1 := by kernel_rfl
theorem isz109 : (Tryz.prog.info? 109).map (·.size) = some 1 := by kernel_rfl
theorem isz110 : (Tryz.prog.info? 110).map (·.size) = some 1 := by kernel_rfl
theorem isz111 : (Tryz.prog.info? 111).map (·.size) = some 1 := by kernel_rfl
theorem isz112 : (Tryz.prog.info? 112).map (·.size) = some 1 := by kernel_rfl
theorem isz113 : (Tryz.prog.info? 113).map (·.size) = some 1 := by kernel_rfl
theorem isz114 : (Tryz.prog.info? 114).map (·.size) = some 1 := by kernel_rfl
theorem isz115 : (Tryz.prog.info? 115).map (·.size) = some 1 := by kernel_rfl
theorem isz116 : (Tryz.prog.info? 116).map (·.size) = some 1 := by kernel_rfl
theorem isz117 : (Tryz.prog.info? 117).map (·.size) = some 1 := by kernel_rfl
theorem isz118 : (Tryz.prog.info? 118).map (·.size) = some 1 := by kernel_rfl
theorem isz119 : (Tryz.prog.info? 119).map (·.size) = some 1 := by kernel_rfl
theorem isz120 : (Tryz.prog.info? 120).map (·.size) = some 1 := by kernel_rfl
theorem isz121 : (Tryz.prog.info? 121).map (·.size) = some 1 := by kernel_rfl
theorem isz122 : (Tryz.prog.info? 122).map (·.size) = some 1 := by kernel_rfl
theorem isz123 : (Tryz.prog.info? 123).map (·.size) = some 1 := by kernel_rfl
theorem isz124 : (Tryz.prog.info? 124).map (·.size) = some 1 := by kernel_rfl
theorem isz125 : (Tryz.prog.info? 125).map (·.size) = some 1 := by kernel_rfl
theorem isz126 : (Tryz.prog.info? 126).map (·.size) = some 3 := by kernel_rfl
theorem isz127 : (Tryz.prog.info? 127).map (·.size) = some 3 := by kernel_rfl
theorem isz128 : (Tryz.prog.info? 128).map (·.size) = some 1 := by kernel_rfl
theorem isz129 : (Tryz.prog.info? 129).map (·.size) = some 32 := by kernel_rfl
theorem isz130 : (Tryz.prog.info? 130).map (·.size) = some 64 := by kernel_rfl
theorem isz131 : (Tryz.prog.info? 131).map (·.size) = some 256 := by kernel_rfl
theorem isz132 : (Tryz.prog.info? 132).map (·.size) = some 2 := by kernel_rfl
theorem isz133 : (Tryz.prog.info? 133).map (·.size) = some 2 := by kernel_rfl
theorem isz134 : (Tryz.prog.info? 134).map (·.size) = some 32 := by kernel_rfl
theorem isz135 : (Tryz.prog.info? 135).map (·.size) = some 1 := by kernel_rfl
theorem isz136 : (Tryz.prog.info? 136).map (·.size) = some 1 := by kernel_rfl
theorem isz137 : (Tryz.prog.info? 137).map (·.size) = some 1 := by kernel_rfl
theorem isz138 : (Tryz.prog.info? 138).map (·.size) = some 1 := by kernel_rfl
theorem isz139 : (Tryz.prog.info? 139).map (·.size) = some 1 := by kernel_rfl
theorem isz140 : (Tryz.prog.info? 140).map (·.size) = some 1 := by kernel_rfl
theorem isz141 : (Tryz.prog.info? 141).map (·.size) = some 4 := by kernel_rfl
theorem isz142 : (Tryz.prog.info? 142).map (·.size) = some 4 := by kernel_rfl
theorem isz146 : (Tryz.prog.info? 146).map (·.size) = some 1 := by kernel_rfl
theorem isz147 : (Tryz.prog.info? 147).map (·.size) = some 1 := by kernel_rfl
theorem isz148 : (Tryz.prog.info? 148).map (·.size) = some 1 := by kernel_rfl
theorem isz149 : (Tryz.prog.info? 149).map (·.size) = some 1 := by kernel_rfl
theorem isz150 : (Tryz.prog.info? 150).map (·.size) = some 1 := by kernel_rfl
theorem isz151 : (Tryz.prog.info? 151).map (·.size) = some 11 := by kernel_rfl
theorem isz152 : (Tryz.prog.info? 152).map (·.size) = some 11 := by kernel_rfl
instance : TSize Tryz.prog 0 1 := ⟨isz0⟩
instance : TOne Tryz.prog 0 := ⟨⟨_, Tryz.underlying0, rfl⟩, isz0⟩
instance : TSize Tryz.prog 1 1 := ⟨isz1⟩
instance : TOne Tryz.prog 1 := ⟨⟨_, Tryz.underlying1, rfl⟩, isz1⟩
instance : TZer Tryz.prog 1 [.nilFunc] := ⟨by kernel_rfl⟩
instance : TSize Tryz.prog 2 1 := ⟨isz2⟩
instance : TOne Tryz.prog 2 := ⟨⟨_, Tryz.underlying2, rfl⟩, isz2⟩
instance : TInt Tryz.prog 2 .i64 := ⟨Tryz.underlying2⟩
instance : TZer Tryz.prog 2 [.int .i64 0] := ⟨by kernel_rfl⟩
instance : TSize Tryz.prog 3 1 := ⟨isz3⟩
instance : TOne Tryz.prog 3 := ⟨⟨_, Tryz.underlying3, rfl⟩, isz3⟩
instance : TInt Tryz.prog 3 .i64 := ⟨Tryz.underlying3⟩
instance : TZer Tryz.prog 3 [.int .i64 0] := ⟨by kernel_rfl⟩
instance : TSize Tryz.prog 4 1 := ⟨isz4⟩
instance : TOne Tryz.prog 4 := ⟨⟨_, Tryz.underlying4, rfl⟩, isz4⟩
instance : TBool Tryz.prog 4 := ⟨Tryz.underlying4⟩
instance : TZer Tryz.prog 4 [.bool false] := ⟨by kernel_rfl⟩
instance : TSize Tryz.prog 5 1 := ⟨isz5⟩
instance : TOne Tryz.prog 5 := ⟨⟨_, Tryz.underlying5, rfl⟩, isz5⟩
instance : TInt Tryz.prog 5 .u8 := ⟨Tryz.underlying5⟩
instance : TZer Tryz.prog 5 [.int .u8 0] := ⟨by kernel_rfl⟩
instance : TSize Tryz.prog 6 1 := ⟨isz6⟩
instance : TOne Tryz.prog 6 := ⟨⟨_, Tryz.underlying6, rfl⟩, isz6⟩
instance : TInt Tryz.prog 6 .u8 := ⟨Tryz.underlying6⟩
instance : TZer Tryz.prog 6 [.int .u8 0] := ⟨by kernel_rfl⟩
instance : TSize Tryz.prog 7 4 := ⟨isz7⟩
instance : TRow Tryz.prog 7 4 := ⟨⟨_, Tryz.underlying7, rfl⟩, isz7⟩
instance : TZer Tryz.prog 7 [.int .i64 0, .int .i64 0, .bool false, .int .u8 0] := ⟨by kernel_rfl⟩
instance : TStruct Tryz.prog 7 [(0, 1), (1, 1), (2, 1), (3, 1)] := ⟨⟨_, Tryz.underlying7, by kernel_rfl⟩⟩
instance : TFld Tryz.prog 7 0 0 0 false := ⟨⟨_, _, _, Tryz.underlying7, rfl, rfl, Tryz.underlying2, rfl, isz2⟩⟩
instance : TFld Tryz.prog 7 1 1 0 false := ⟨⟨_, _, _, Tryz.underlying7, rfl, rfl, Tryz.underlying3, rfl, isz3⟩⟩
instance : TFld Tryz.prog 7 2 2 0 false := ⟨⟨_, _, _, Tryz.underlying7, rfl, rfl, Tryz.underlying4, rfl, isz4⟩⟩
instance : TFld Tryz.prog 7 3 3 0 false := ⟨⟨_, _, _, Tryz.underlying7, rfl, rfl, Tryz.underlying6, rfl, isz6⟩⟩
instance : TSize Tryz.prog 8 4 := ⟨isz8⟩
instance : TRow Tryz.prog 8 4 := ⟨⟨_, Tryz.underlying8, rfl⟩, isz8⟩
instance : TZer Tryz.prog 8 [.int .i64 0, .int .i64 0, .bool false, .int .u8 0] := ⟨by kernel_rfl⟩
instance : TStruct Tryz.prog 8 [(0, 1), (1, 1), (2, 1), (3, 1)] := ⟨⟨_, Tryz.underlying8, by kernel_rfl⟩⟩
instance : TFld Tryz.prog 8 0 0 0 false := ⟨⟨_, _, _, Tryz.underlying8, rfl, rfl, Tryz.underlying2, rfl, isz2⟩⟩
instance : TFld Tryz.prog 8 1 1 0 false := ⟨⟨_, _, _, Tryz.underlying8, rfl, rfl, Tryz.underlying3, rfl, isz3⟩⟩
instance : TFld Tryz.prog 8 2 2 0 false := ⟨⟨_, _, _, Tryz.underlying8, rfl, rfl, Tryz.underlying4, rfl, isz4⟩⟩
instance : TFld Tryz.prog 8 3 3 0 false := ⟨⟨_, _, _, Tryz.underlying8, rfl, rfl, Tryz.underlying6, rfl, isz6⟩⟩
instance : TSize Tryz.prog 9 1 := ⟨isz9⟩
instance : TOne Tryz.prog 9 := ⟨⟨_, Tryz.underlying9, rfl⟩, isz9⟩
instance : TStr Tryz.prog 9 := ⟨Tryz.underlying9⟩
instance : TZer Tryz.prog 9 [.string ⟨#[]⟩] := ⟨by kernel_rfl⟩
instance : TSize Tryz.prog 10 1 := ⟨isz10⟩
instance : TOne Tryz.prog 10 := ⟨⟨_, Tryz.underlying10, rfl⟩, isz10⟩
instance : TStr Tryz.prog 10 := ⟨Tryz.underlying10⟩
instance : TZer Tryz.prog 10 [.string ⟨#[]⟩] := ⟨by kernel_rfl⟩
instance : TSize Tryz.prog 11 1 := ⟨isz11⟩
instance : TOne Tryz.prog 11 := ⟨⟨_, Tryz.underlying11, rfl⟩, isz11⟩
instance : TStr Tryz.prog 11 := ⟨Tryz.underlying11⟩
instance : TZer Tryz.prog 11 [.string ⟨#[]⟩] := ⟨by kernel_rfl⟩
instance : TSize Tryz.prog 12 1 := ⟨isz12⟩
instance : TOne Tryz.prog 12 := ⟨⟨_, Tryz.underlying12, rfl⟩, isz12⟩
instance : TInt Tryz.prog 12 .u64 := ⟨Tryz.underlying12⟩
instance : TZer Tryz.prog 12 [.int .u64 0] := ⟨by kernel_rfl⟩
instance : TSize Tryz.prog 13 2 := ⟨isz13⟩
instance : TRow Tryz.prog 13 2 := ⟨⟨_, Tryz.underlying13, rfl⟩, isz13⟩
instance : TZer Tryz.prog 13 [.string ⟨#[]⟩, .int .u64 0] := ⟨by kernel_rfl⟩
instance : TStruct Tryz.prog 13 [(0, 1), (1, 1)] := ⟨⟨_, Tryz.underlying13, by kernel_rfl⟩⟩
instance : TFld Tryz.prog 13 0 0 0 false := ⟨⟨_, _, _, Tryz.underlying13, rfl, rfl, Tryz.underlying9, rfl, isz9⟩⟩
instance : TFld Tryz.prog 13 1 1 0 false := ⟨⟨_, _, _, Tryz.underlying13, rfl, rfl, Tryz.underlying12, rfl, isz12⟩⟩
instance : TSize Tryz.prog 14 2 := ⟨isz14⟩
instance : TRow Tryz.prog 14 2 := ⟨⟨_, Tryz.underlying14, rfl⟩, isz14⟩
instance : TZer Tryz.prog 14 [.string ⟨#[]⟩, .int .u64 0] := ⟨by kernel_rfl⟩
instance : TStruct Tryz.prog 14 [(0, 1), (1, 1)] := ⟨⟨_, Tryz.underlying14, by kernel_rfl⟩⟩
instance : TFld Tryz.prog 14 0 0 0 false := ⟨⟨_, _, _, Tryz.underlying14, rfl, rfl, Tryz.underlying9, rfl, isz9⟩⟩
instance : TFld Tryz.prog 14 1 1 0 false := ⟨⟨_, _, _, Tryz.underlying14, rfl, rfl, Tryz.underlying12, rfl, isz12⟩⟩
instance : TSize Tryz.prog 15 1 := ⟨isz15⟩
instance : TOne Tryz.prog 15 := ⟨⟨_, Tryz.underlying15, rfl⟩, isz15⟩
instance : TZer Tryz.prog 15 [.pointer none] := ⟨by kernel_rfl⟩
instance : TSize Tryz.prog 16 1 := ⟨isz16⟩
instance : TOne Tryz.prog 16 := ⟨⟨_, Tryz.underlying16, rfl⟩, isz16⟩
instance : TZer Tryz.prog 16 [.pointer none] := ⟨by kernel_rfl⟩
instance : TSize Tryz.prog 17 1 := ⟨isz17⟩
instance : TOne Tryz.prog 17 := ⟨⟨_, Tryz.underlying17, rfl⟩, isz17⟩
instance : TZer Tryz.prog 17 [.pointer none] := ⟨by kernel_rfl⟩
instance : TSize Tryz.prog 18 1 := ⟨isz18⟩
instance : TRow Tryz.prog 18 1 := ⟨⟨_, Tryz.underlying18, rfl⟩, isz18⟩
instance : TZer Tryz.prog 18 [.pointer none] := ⟨by kernel_rfl⟩
instance : TStruct Tryz.prog 18 [(0, 1)] := ⟨⟨_, Tryz.underlying18, by kernel_rfl⟩⟩
instance : TFld Tryz.prog 18 0 0 0 false := ⟨⟨_, _, _, Tryz.underlying18, rfl, rfl, Tryz.underlying17, rfl, isz17⟩⟩
instance : TSize Tryz.prog 19 1 := ⟨isz19⟩
instance : TRow Tryz.prog 19 1 := ⟨⟨_, Tryz.underlying19, rfl⟩, isz19⟩
instance : TZer Tryz.prog 19 [.pointer none] := ⟨by kernel_rfl⟩
instance : TStruct Tryz.prog 19 [(0, 1)] := ⟨⟨_, Tryz.underlying19, by kernel_rfl⟩⟩
instance : TFld Tryz.prog 19 0 0 0 false := ⟨⟨_, _, _, Tryz.underlying19, rfl, rfl, Tryz.underlying17, rfl, isz17⟩⟩
instance : TSize Tryz.prog 20 1 := ⟨isz20⟩
instance : TOne Tryz.prog 20 := ⟨⟨_, Tryz.underlying20, rfl⟩, isz20⟩
instance : TIfc Tryz.prog 20 := ⟨_, Tryz.underlying20⟩
instance : TZer Tryz.prog 20 [.nilIface] := ⟨by kernel_rfl⟩
instance : TSize Tryz.prog 21 1 := ⟨isz21⟩
instance : TOne Tryz.prog 21 := ⟨⟨_, Tryz.underlying21, rfl⟩, isz21⟩
instance : TInt Tryz.prog 21 .i32 := ⟨Tryz.underlying21⟩
instance : TZer Tryz.prog 21 [.int .i32 0] := ⟨by kernel_rfl⟩
instance : TSize Tryz.prog 22 1 := ⟨isz22⟩
instance : TOne Tryz.prog 22 := ⟨⟨_, Tryz.underlying22, rfl⟩, isz22⟩
instance : TSlice Tryz.prog 22 5 := ⟨Tryz.underlying22⟩
instance : TZer Tryz.prog 22 [.slice none 0 0] := ⟨by kernel_rfl⟩
instance : TSize Tryz.prog 23 3 := ⟨isz23⟩
instance : TRow Tryz.prog 23 3 := ⟨⟨_, Tryz.underlying23, rfl⟩, isz23⟩
instance : TZer Tryz.prog 23 [.int .i64 0, .string ⟨#[]⟩, .int .i64 0] := ⟨by kernel_rfl⟩
instance : TStruct Tryz.prog 23 [(0, 1), (1, 1), (2, 1)] := ⟨⟨_, Tryz.underlying23, by kernel_rfl⟩⟩
instance : TFld Tryz.prog 23 0 0 0 false := ⟨⟨_, _, _, Tryz.underlying23, rfl, rfl, Tryz.underlying3, rfl, isz3⟩⟩
instance : TFld Tryz.prog 23 1 1 0 false := ⟨⟨_, _, _, Tryz.underlying23, rfl, rfl, Tryz.underlying9, rfl, isz9⟩⟩
instance : TFld Tryz.prog 23 2 2 0 false := ⟨⟨_, _, _, Tryz.underlying23, rfl, rfl, Tryz.underlying3, rfl, isz3⟩⟩
instance : TSize Tryz.prog 24 3 := ⟨isz24⟩
instance : TRow Tryz.prog 24 3 := ⟨⟨_, Tryz.underlying24, rfl⟩, isz24⟩
instance : TZer Tryz.prog 24 [.int .i64 0, .string ⟨#[]⟩, .int .i64 0] := ⟨by kernel_rfl⟩
instance : TStruct Tryz.prog 24 [(0, 1), (1, 1), (2, 1)] := ⟨⟨_, Tryz.underlying24, by kernel_rfl⟩⟩
instance : TFld Tryz.prog 24 0 0 0 false := ⟨⟨_, _, _, Tryz.underlying24, rfl, rfl, Tryz.underlying3, rfl, isz3⟩⟩
instance : TFld Tryz.prog 24 1 1 0 false := ⟨⟨_, _, _, Tryz.underlying24, rfl, rfl, Tryz.underlying9, rfl, isz9⟩⟩
instance : TFld Tryz.prog 24 2 2 0 false := ⟨⟨_, _, _, Tryz.underlying24, rfl, rfl, Tryz.underlying3, rfl, isz3⟩⟩
instance : TSize Tryz.prog 25 1 := ⟨isz25⟩
instance : TOne Tryz.prog 25 := ⟨⟨_, Tryz.underlying25, rfl⟩, isz25⟩
instance : TZer Tryz.prog 25 [.nilFunc] := ⟨by kernel_rfl⟩
instance : TSize Tryz.prog 26 1 := ⟨isz26⟩
instance : TOne Tryz.prog 26 := ⟨⟨_, Tryz.underlying26, rfl⟩, isz26⟩
instance : TInt Tryz.prog 26 .i64 := ⟨Tryz.underlying26⟩
instance : TZer Tryz.prog 26 [.int .i64 0] := ⟨by kernel_rfl⟩
instance : TSize Tryz.prog 27 1 := ⟨isz27⟩
instance : TOne Tryz.prog 27 := ⟨⟨_, Tryz.underlying27, rfl⟩, isz27⟩
instance : TSize Tryz.prog 28 1 := ⟨isz28⟩
instance : TOne Tryz.prog 28 := ⟨⟨_, Tryz.underlying28, rfl⟩, isz28⟩
instance : TZer Tryz.prog 28 [.nilFunc] := ⟨by kernel_rfl⟩
instance : TSize Tryz.prog 29 1 := ⟨isz29⟩
instance : TOne Tryz.prog 29 := ⟨⟨_, Tryz.underlying29, rfl⟩, isz29⟩
instance : TZer Tryz.prog 29 [.nilFunc] := ⟨by kernel_rfl⟩
instance : TSize Tryz.prog 30 1 := ⟨isz30⟩
instance : TOne Tryz.prog 30 := ⟨⟨_, Tryz.underlying30, rfl⟩, isz30⟩
instance : TSize Tryz.prog 31 1 := ⟨isz31⟩
instance : TOne Tryz.prog 31 := ⟨⟨_, Tryz.underlying31, rfl⟩, isz31⟩
instance : TZer Tryz.prog 31 [.nilFunc] := ⟨by kernel_rfl⟩
instance : TSize Tryz.prog 32 1 := ⟨isz32⟩
instance : TOne Tryz.prog 32 := ⟨⟨_, Tryz.underlying32, rfl⟩, isz32⟩
instance : TZer Tryz.prog 32 [.nilFunc] := ⟨by kernel_rfl⟩
instance : TSize Tryz.prog 33 1 := ⟨isz33⟩
instance : TOne Tryz.prog 33 := ⟨⟨_, Tryz.underlying33, rfl⟩, isz33⟩
instance : TZer Tryz.prog 33 [.nilFunc] := ⟨by kernel_rfl⟩
instance : TSize Tryz.prog 34 1 := ⟨isz34⟩
instance : TOne Tryz.prog 34 := ⟨⟨_, Tryz.underlying34, rfl⟩, isz34⟩
instance : TInt Tryz.prog 34 .u64 := ⟨Tryz.underlying34⟩
instance : TZer Tryz.prog 34 [.int .u64 0] := ⟨by kernel_rfl⟩
instance : TSize Tryz.prog 35 1 := ⟨isz35⟩
instance : TOne Tryz.prog 35 := ⟨⟨_, Tryz.underlying35, rfl⟩, isz35⟩
instance : TZer Tryz.prog 35 [.nilFunc] := ⟨by kernel_rfl⟩
instance : TSize Tryz.prog 36 1 := ⟨isz36⟩
instance : TOne Tryz.prog 36 := ⟨⟨_, Tryz.underlying36, rfl⟩, isz36⟩
instance : TZer Tryz.prog 36 [.nilFunc] := ⟨by kernel_rfl⟩
instance : TSize Tryz.prog 37 1 := ⟨isz37⟩
instance : TOne Tryz.prog 37 := ⟨⟨_, Tryz.underlying37, rfl⟩, isz37⟩
instance : TZer Tryz.prog 37 [.nilFunc] := ⟨by kernel_rfl⟩
instance : TSize Tryz.prog 38 1 := ⟨isz38⟩
instance : TOne Tryz.prog 38 := ⟨⟨_, Tryz.underlying38, rfl⟩, isz38⟩
instance : TZer Tryz.prog 38 [.nilFunc] := ⟨by kernel_rfl⟩
instance : TSize Tryz.prog 39 1 := ⟨isz39⟩
instance : TOne Tryz.prog 39 := ⟨⟨_, Tryz.underlying39, rfl⟩, isz39⟩
instance : TZer Tryz.prog 39 [.nilFunc] := ⟨by kernel_rfl⟩
instance : TSize Tryz.prog 40 1 := ⟨isz40⟩
instance : TOne Tryz.prog 40 := ⟨⟨_, Tryz.underlying40, rfl⟩, isz40⟩
instance : TZer Tryz.prog 40 [.nilFunc] := ⟨by kernel_rfl⟩
instance : TSize Tryz.prog 41 1 := ⟨isz41⟩
instance : TOne Tryz.prog 41 := ⟨⟨_, Tryz.underlying41, rfl⟩, isz41⟩
instance : TZer Tryz.prog 41 [.nilFunc] := ⟨by kernel_rfl⟩
instance : TSize Tryz.prog 42 1 := ⟨isz42⟩
instance : TOne Tryz.prog 42 := ⟨⟨_, Tryz.underlying42, rfl⟩, isz42⟩
instance : TZer Tryz.prog 42 [.nilFunc] := ⟨by kernel_rfl⟩
instance : TSize Tryz.prog 43 1 := ⟨isz43⟩
instance : TOne Tryz.prog 43 := ⟨⟨_, Tryz.underlying43, rfl⟩, isz43⟩
instance : TZer Tryz.prog 43 [.nilFunc] := ⟨by kernel_rfl⟩
instance : TSize Tryz.prog 44 1 := ⟨isz44⟩
instance : TOne Tryz.prog 44 := ⟨⟨_, Tryz.underlying44, rfl⟩, isz44⟩
instance : TZer Tryz.prog 44 [.nilFunc] := ⟨by kernel_rfl⟩
instance : TSize Tryz.prog 45 1 := ⟨isz45⟩
instance : TOne Tryz.prog 45 := ⟨⟨_, Tryz.underlying45, rfl⟩, isz45⟩
instance : TSlice Tryz.prog 45 9 := ⟨Tryz.underlying45⟩
instance : TZer Tryz.prog 45 [.slice none 0 0] := ⟨by kernel_rfl⟩
instance : TSize Tryz.prog 46 1 := ⟨isz46⟩
instance : TOne Tryz.prog 46 := ⟨⟨_, Tryz.underlying46, rfl⟩, isz46⟩
instance : TSize Tryz.prog 47 1 := ⟨isz47⟩
instance : TOne Tryz.prog 47 := ⟨⟨_, Tryz.underlying47, rfl⟩, isz47⟩
instance : TZer Tryz.prog 47 [.nilFunc] := ⟨by kernel_rfl⟩
instance : TSize Tryz.prog 48 1 := ⟨isz48⟩
instance : TOne Tryz.prog 48 := ⟨⟨_, Tryz.underlying48, rfl⟩, isz48⟩
instance : TSize Tryz.prog 49 1 := ⟨isz49⟩
instance : TOne Tryz.prog 49 := ⟨⟨_, Tryz.underlying49, rfl⟩, isz49⟩
instance : TZer Tryz.prog 49 [.nilFunc] := ⟨by kernel_rfl⟩
instance : TSize Tryz.prog 50 1 := ⟨isz50⟩
instance : TOne Tryz.prog 50 := ⟨⟨_, Tryz.underlying50, rfl⟩, isz50⟩
instance : TZer Tryz.prog 50 [.nilFunc] := ⟨by kernel_rfl⟩
instance : TSize Tryz.prog 51 1 := ⟨isz51⟩
instance : TOne Tryz.prog 51 := ⟨⟨_, Tryz.underlying51, rfl⟩, isz51⟩
instance : TZer Tryz.prog 51 [.nilFunc] := ⟨by kernel_rfl⟩
instance : TSize Tryz.prog 52 1 := ⟨isz52⟩
instance : TOne Tryz.prog 52 := ⟨⟨_, Tryz.underlying52, rfl⟩, isz52⟩
instance : TSize Tryz.prog 53 1 := ⟨isz53⟩
instance : TOne Tryz.prog 53 := ⟨⟨_, Tryz.underlying53, rfl⟩, isz53⟩
instance : TZer Tryz.prog 53 [.nilFunc] := ⟨by kernel_rfl⟩
instance : TSize Tryz.prog 54 2 := ⟨isz54⟩
instance : TRow Tryz.prog 54 2 := ⟨⟨_, Tryz.underlying54, rfl⟩, isz54⟩
instance : TZer Tryz.prog 54 [.int .i64 0, .int .i64 0] := ⟨by kernel_rfl⟩
instance : TStruct Tryz.prog 54 [(0, 1), (1, 1)] := ⟨⟨_, Tryz.underlying54, by kernel_rfl⟩⟩
instance : TFld Tryz.prog 54 0 0 0 false := ⟨⟨_, _, _, Tryz.underlying54, rfl, rfl, Tryz.underlying3, rfl, isz3⟩⟩
instance : TFld Tryz.prog 54 1 1 0 false := ⟨⟨_, _, _, Tryz.underlying54, rfl, rfl, Tryz.underlying3, rfl, isz3⟩⟩
instance : TSize Tryz.prog 55 2 := ⟨isz55⟩
instance : TRow Tryz.prog 55 2 := ⟨⟨_, Tryz.underlying55, rfl⟩, isz55⟩
instance : TZer Tryz.prog 55 [.int .i64 0, .int .i64 0] := ⟨by kernel_rfl⟩
instance : TStruct Tryz.prog 55 [(0, 1), (1, 1)] := ⟨⟨_, Tryz.underlying55, by kernel_rfl⟩⟩
instance : TFld Tryz.prog 55 0 0 0 false := ⟨⟨_, _, _, Tryz.underlying55, rfl, rfl, Tryz.underlying3, rfl, isz3⟩⟩
instance : TFld Tryz.prog 55 1 1 0 false := ⟨⟨_, _, _, Tryz.underlying55, rfl, rfl, Tryz.underlying3, rfl, isz3⟩⟩
instance : TSize Tryz.prog 56 1 := ⟨isz56⟩
instance : TOne Tryz.prog 56 := ⟨⟨_, Tryz.underlying56, rfl⟩, isz56⟩
instance : TInt Tryz.prog 56 .u64 := ⟨Tryz.underlying56⟩
instance : TZer Tryz.prog 56 [.int .u64 0] := ⟨by kernel_rfl⟩
instance : TSize Tryz.prog 57 1 := ⟨isz57⟩
instance : TOne Tryz.prog 57 := ⟨⟨_, Tryz.underlying57, rfl⟩, isz57⟩
instance : TSize Tryz.prog 58 1 := ⟨isz58⟩
instance : TOne Tryz.prog 58 := ⟨⟨_, Tryz.underlying58, rfl⟩, isz58⟩
instance : TZer Tryz.prog 58 [.nilFunc] := ⟨by kernel_rfl⟩
instance : TSize Tryz.prog 59 1 := ⟨isz59⟩
instance : TOne Tryz.prog 59 := ⟨⟨_, Tryz.underlying59, rfl⟩, isz59⟩
instance : TZer Tryz.prog 59 [.nilFunc] := ⟨by kernel_rfl⟩
instance : TSize Tryz.prog 60 1 := ⟨isz60⟩
instance : TOne Tryz.prog 60 := ⟨⟨_, Tryz.underlying60, rfl⟩, isz60⟩
instance : TZer Tryz.prog 60 [.pointer none] := ⟨by kernel_rfl⟩
instance : TSize Tryz.prog 61 2 := ⟨isz61⟩
instance : TRow Tryz.prog 61 2 := ⟨⟨_, Tryz.underlying61, rfl⟩, isz61⟩
instance : TZer Tryz.prog 61 [.pointer none, .slice none 0 0] := ⟨by kernel_rfl⟩
instance : TStruct Tryz.prog 61 [(0, 1), (1, 1)] := ⟨⟨_, Tryz.underlying61, by kernel_rfl⟩⟩
instance : TFld Tryz.prog 61 0 0 0 false := ⟨⟨_, _, _, Tryz.underlying61, rfl, rfl, Tryz.underlying60, rfl, isz60⟩⟩
instance : TFld Tryz.prog 61 1 1 0 false := ⟨⟨_, _, _, Tryz.underlying61, rfl, rfl, Tryz.underlying22, rfl, isz22⟩⟩
instance : TSize Tryz.prog 62 2 := ⟨isz62⟩
instance : TRow Tryz.prog 62 2 := ⟨⟨_, Tryz.underlying62, rfl⟩, isz62⟩
instance : TZer Tryz.prog 62 [.pointer none, .slice none 0 0] := ⟨by kernel_rfl⟩
instance : TStruct Tryz.prog 62 [(0, 1), (1, 1)] := ⟨⟨_, Tryz.underlying62, by kernel_rfl⟩⟩
instance : TFld Tryz.prog 62 0 0 0 false := ⟨⟨_, _, _, Tryz.underlying62, rfl, rfl, Tryz.underlying60, rfl, isz60⟩⟩
instance : TFld Tryz.prog 62 1 1 0 false := ⟨⟨_, _, _, Tryz.underlying62, rfl, rfl, Tryz.underlying22, rfl, isz22⟩⟩
instance : TSize Tryz.prog 63 1 := ⟨isz63⟩
instance : TOne Tryz.prog 63 := ⟨⟨_, Tryz.underlying63, rfl⟩, isz63⟩
instance : TZer Tryz.prog 63 [.nilFunc] := ⟨by kernel_rfl⟩
instance : TSize Tryz.prog 64 1 := ⟨isz64⟩
instance : TOne Tryz.prog 64 := ⟨⟨_, Tryz.underlying64, rfl⟩, isz64⟩
instance : TIfc Tryz.prog 64 := ⟨_, Tryz.underlying64⟩
instance : TZer Tryz.prog 64 [.nilIface] := ⟨by kernel_rfl⟩
instance : TSize Tryz.prog 65 1 := ⟨isz65⟩
instance : TOne Tryz.prog 65 := ⟨⟨_, Tryz.underlying65, rfl⟩, isz65⟩
instance : TIfc Tryz.prog 65 := ⟨_, Tryz.underlying65⟩
instance : TZer Tryz.prog 65 [.nilIface] := ⟨by kernel_rfl⟩
instance : TSize Tryz.prog 66 1 := ⟨isz66⟩
instance : TOne Tryz.prog 66 := ⟨⟨_, Tryz.underlying66, rfl⟩, isz66⟩
instance : TSize Tryz.prog 67 1 := ⟨isz67⟩
instance : TOne Tryz.prog 67 := ⟨⟨_, Tryz.underlying67, rfl⟩, isz67⟩
instance : TZer Tryz.prog 67 [.nilFunc] := ⟨by kernel_rfl⟩
instance : TSize Tryz.prog 68 1 := ⟨isz68⟩
instance : TOne Tryz.prog 68 := ⟨⟨_, Tryz.underlying68, rfl⟩, isz68⟩
instance : TZer Tryz.prog 68 [.nilFunc] := ⟨by kernel_rfl⟩
instance : TSize Tryz.prog 69 1 := ⟨isz69⟩
instance : TOne Tryz.prog 69 := ⟨⟨_, Tryz.underlying69, rfl⟩, isz69⟩
instance : TZer Tryz.prog 69 [.nilFunc] := ⟨by kernel_rfl⟩
instance : TSize Tryz.prog 70 1 := ⟨isz70⟩
instance : TOne Tryz.prog 70 := ⟨⟨_, Tryz.underlying70, rfl⟩, isz70⟩
instance : TZer Tryz.prog 70 [.nilFunc] := ⟨by kernel_rfl⟩
instance : TSize Tryz.prog 71 1 := ⟨isz71⟩
instance : TOne Tryz.prog 71 := ⟨⟨_, Tryz.underlying71, rfl⟩, isz71⟩
instance : TZer Tryz.prog 71 [.nilFunc] := ⟨by kernel_rfl⟩
instance : TSize Tryz.prog 72 1 := ⟨isz72⟩
instance : TOne Tryz.prog 72 := ⟨⟨_, Tryz.underlying72, rfl⟩, isz72⟩
instance : TZer Tryz.prog 72 [.nilFunc] := ⟨by kernel_rfl⟩
instance : TSize Tryz.prog 73 1 := ⟨isz73⟩
instance : TOne Tryz.prog 73 := ⟨⟨_, Tryz.underlying73, rfl⟩, isz73⟩
instance : TZer Tryz.prog 73 [.nilFunc] := ⟨by kernel_rfl⟩
instance : TSize Tryz.prog 74 1 := ⟨isz74⟩
instance : TOne Tryz.prog 74 := ⟨⟨_, Tryz.underlying74, rfl⟩, isz74⟩
instance : TZer Tryz.prog 74 [.nilFunc] := ⟨by kernel_rfl⟩
instance : TSize Tryz.prog 75 1 := ⟨isz75⟩
instance : TOne Tryz.prog 75 := ⟨⟨_, Tryz.underlying75, rfl⟩, isz75⟩
instance : TZer Tryz.prog 75 [.nilFunc] := ⟨by kernel_rfl⟩
instance : TSize Tryz.prog 76 24 := ⟨isz76⟩
instance : TRow Tryz.prog 76 24 := ⟨⟨_, Tryz.underlying76, rfl⟩, isz76⟩
instance : TSize Tryz.prog 77 1 := ⟨isz77⟩
instance : TOne Tryz.prog 77 := ⟨⟨_, Tryz.underlying77, rfl⟩, isz77⟩
instance : TZer Tryz.prog 77 [.nilFunc] := ⟨by kernel_rfl⟩
instance : TSize Tryz.prog 78 1 := ⟨isz78⟩
instance : TOne Tryz.prog 78 := ⟨⟨_, Tryz.underlying78, rfl⟩, isz78⟩
instance : TZer Tryz.prog 78 [.nilFunc] := ⟨by kernel_rfl⟩
instance : TSize Tryz.prog 79 1 := ⟨isz79⟩
instance : TOne Tryz.prog 79 := ⟨⟨_, Tryz.underlying79, rfl⟩, isz79⟩
instance : TSize Tryz.prog 80 1 := ⟨isz80⟩
instance : TOne Tryz.prog 80 := ⟨⟨_, Tryz.underlying80, rfl⟩, isz80⟩
instance : TZer Tryz.prog 80 [.nilFunc] := ⟨by kernel_rfl⟩
instance : TSize Tryz.prog 81 1 := ⟨isz81⟩
instance : TOne Tryz.prog 81 := ⟨⟨_, Tryz.underlying81, rfl⟩, isz81⟩
instance : TInt Tryz.prog 81 .u32 := ⟨Tryz.underlying81⟩
instance : TZer Tryz.prog 81 [.int .u32 0] := ⟨by kernel_rfl⟩
instance : TSize Tryz.prog 82 1 := ⟨isz82⟩
instance : TOne Tryz.prog 82 := ⟨⟨_, Tryz.underlying82, rfl⟩, isz82⟩
instance : TSize Tryz.prog 83 1 := ⟨isz83⟩
instance : TOne Tryz.prog 83 := ⟨⟨_, Tryz.underlying83, rfl⟩, isz83⟩
instance : TZer Tryz.prog 83 [.nilFunc] := ⟨by kernel_rfl⟩
instance : TSize Tryz.prog 84 1 := ⟨isz84⟩
instance : TOne Tryz.prog 84 := ⟨⟨_, Tryz.underlying84, rfl⟩, isz84⟩
instance : TSize Tryz.prog 85 1 := ⟨isz85⟩
instance : TOne Tryz.prog 85 := ⟨⟨_, Tryz.underlying85, rfl⟩, isz85⟩
instance : TZer Tryz.prog 85 [.nilFunc] := ⟨by kernel_rfl⟩
instance : TSize Tryz.prog 86 1 := ⟨isz86⟩
instance : TOne Tryz.prog 86 := ⟨⟨_, Tryz.underlying86, rfl⟩, isz86⟩
instance : TZer Tryz.prog 86 [.pointer none] := ⟨by kernel_rfl⟩
instance : TSize Tryz.prog 87 1 := ⟨isz87⟩
instance : TOne Tryz.prog 87 := ⟨⟨_, Tryz.underlying87, rfl⟩, isz87⟩
instance : TSlice Tryz.prog 87 22 := ⟨Tryz.underlying87⟩
instance : TZer Tryz.prog 87 [.slice none 0 0] := ⟨by kernel_rfl⟩
instance : TSize Tryz.prog 88 1 := ⟨isz88⟩
instance : TOne Tryz.prog 88 := ⟨⟨_, Tryz.underlying88, rfl⟩, isz88⟩
instance : TZer Tryz.prog 88 [.nilFunc] := ⟨by kernel_rfl⟩
instance : TSize Tryz.prog 89 1 := ⟨isz89⟩
instance : TOne Tryz.prog 89 := ⟨⟨_, Tryz.underlying89, rfl⟩, isz89⟩
instance : TZer Tryz.prog 89 [.nilFunc] := ⟨by kernel_rfl⟩
instance : TSize Tryz.prog 90 1 := ⟨isz90⟩
instance : TOne Tryz.prog 90 := ⟨⟨_, Tryz.underlying90, rfl⟩, isz90⟩
instance : TZer Tryz.prog 90 [.nilFunc] := ⟨by kernel_rfl⟩
instance : TSize Tryz.prog 91 256 := ⟨isz91⟩
instance : TRow Tryz.prog 91 256 := ⟨⟨_, Tryz.underlying91, rfl⟩, isz91⟩
instance : TSize Tryz.prog 92 256 := ⟨isz92⟩
instance : TRow Tryz.prog 92 256 := ⟨⟨_, Tryz.underlying92, rfl⟩, isz92⟩
instance : TSize Tryz.prog 93 1 := ⟨isz93⟩
instance : TOne Tryz.prog 93 := ⟨⟨_, Tryz.underlying93, rfl⟩, isz93⟩
instance : TSize Tryz.prog 94 1 := ⟨isz94⟩
instance : TOne Tryz.prog 94 := ⟨⟨_, Tryz.underlying94, rfl⟩, isz94⟩
instance : TZer Tryz.prog 94 [.nilFunc] := ⟨by kernel_rfl⟩
instance : TSize Tryz.prog 95 1 := ⟨isz95⟩
instance : TOne Tryz.prog 95 := ⟨⟨_, Tryz.underlying95, rfl⟩, isz95⟩
instance : TZer Tryz.prog 95 [.nilFunc] := ⟨by kernel_rfl⟩
instance : TSize Tryz.prog 96 1 := ⟨isz96⟩
instance : TOne Tryz.prog 96 := ⟨⟨_, Tryz.underlying96, rfl⟩, isz96⟩
instance : TZer Tryz.prog 96 [.pointer none] := ⟨by kernel_rfl⟩
instance : TSize Tryz.prog 97 1 := ⟨isz97⟩
instance : TOne Tryz.prog 97 := ⟨⟨_, Tryz.underlying97, rfl⟩, isz97⟩
instance : TZer Tryz.prog 97 [.nilFunc] := ⟨by kernel_rfl⟩
instance : TSize Tryz.prog 98 1 := ⟨isz98⟩
instance : TOne Tryz.prog 98 := ⟨⟨_, Tryz.underlying98, rfl⟩, isz98⟩
instance : TZer Tryz.prog 98 [.nilFunc] := ⟨by kernel_rfl⟩
instance : TSize Tryz.prog 99 1 := ⟨isz99⟩
instance : TOne Tryz.prog 99 := ⟨⟨_, Tryz.underlying99, rfl⟩, isz99⟩
instance : TZer Tryz.prog 99 [.nilFunc] := ⟨by kernel_rfl⟩
instance : TSize Tryz.prog 100 1 := ⟨isz100⟩
instance : TOne Tryz.prog 100 := ⟨⟨_, Tryz.underlying100, rfl⟩, isz100⟩
instance : TZer Tryz.prog 100 [.nilFunc] := ⟨by kernel_rfl⟩
instance : TSize Tryz.prog 101 1 := ⟨isz101⟩
instance : TOne Tryz.prog 101 := ⟨⟨_, Tryz.underlying101, rfl⟩, isz101⟩
instance : TZer Tryz.prog 101 [.nilFunc] := ⟨by kernel_rfl⟩
instance : TSize Tryz.prog 102 1 := ⟨isz102⟩
instance : TOne Tryz.prog 102 := ⟨⟨_, Tryz.underlying102, rfl⟩, isz102⟩
instance : TZer Tryz.prog 102 [.nilFunc] := ⟨by kernel_rfl⟩
instance : TSize Tryz.prog 103 20 := ⟨isz103⟩
instance : TRow Tryz.prog 103 20 := ⟨⟨_, Tryz.underlying103, rfl⟩, isz103⟩
instance : TSize Tryz.prog 104 65 := ⟨isz104⟩
instance : TRow Tryz.prog 104 65 := ⟨⟨_, Tryz.underlying104, rfl⟩, isz104⟩
instance : TSize Tryz.prog 105 1 := ⟨isz105⟩
instance : TOne Tryz.prog 105 := ⟨⟨_, Tryz.underlying105, rfl⟩, isz105⟩
instance : TZer Tryz.prog 105 [.nilFunc] := ⟨by kernel_rfl⟩
instance : TSize Tryz.prog 106 1 := ⟨isz106⟩
instance : TOne Tryz.prog 106 := ⟨⟨_, Tryz.underlying106, rfl⟩, isz106⟩
instance : TSize Tryz.prog 107 1 := ⟨isz107⟩
instance : TOne Tryz.prog 107 := ⟨⟨_, Tryz.underlying107, rfl⟩, isz107⟩
instance : TZer Tryz.prog 107 [.nilFunc] := ⟨by kernel_rfl⟩
instance : TSize Tryz.prog 108 1 := ⟨isz108⟩
instance : TOne Tryz.prog 108 := ⟨⟨_, Tryz.underlying108, rfl⟩, isz108⟩
instance : TZer Tryz.prog 108 [.nilFunc] := ⟨by kernel_rfl⟩
instance : TSize Tryz.prog 109 1 := ⟨isz109⟩
instance : TOne Tryz.prog 109 := ⟨⟨_, Tryz.underlying109, rfl⟩, isz109⟩
instance : TZer Tryz.prog 109 [.nilFunc] := ⟨by kernel_rfl⟩
instance : TSize Tryz.prog 110 1 := ⟨isz110⟩
instance : TOne Tryz.prog 110 := ⟨⟨_, Tryz.underlying110, rfl⟩, isz110⟩
instance : TSize Tryz.prog 111 1 := ⟨isz111⟩
instance : TOne Tryz.prog 111 := ⟨⟨_, Tryz.underlying111, rfl⟩, isz111⟩
instance : TZer Tryz.prog 111 [.nilFunc] := ⟨by kernel_rfl⟩
instance : TSize Tryz.prog 112 1 := ⟨isz112⟩
instance : TOne Tryz.prog 112 := ⟨⟨_, Tryz.underlying112, rfl⟩, isz112⟩
instance : TZer Tryz.prog 112 [.nilFunc] := ⟨by kernel_rfl⟩
instance : TSize Tryz.prog 113 1 := ⟨isz113⟩
instance : TOne Tryz.prog 113 := ⟨⟨_, Tryz.underlying113, rfl⟩, isz113⟩
instance : TInt Tryz.prog 113 .i64 := ⟨Tryz.underlying113⟩
instance : TZer Tryz.prog 113 [.int .i64 0] := ⟨by kernel_rfl⟩
instance : TSize Tryz.prog 114 1 := ⟨isz114⟩
instance : TOne Tryz.prog 114 := ⟨⟨_, Tryz.underlying114, rfl⟩, isz114⟩
instance : TSize Tryz.prog 115 1 := ⟨isz115⟩
instance : TOne Tryz.prog 115 := ⟨⟨_, Tryz.underlying115, rfl⟩, isz115⟩
instance : TZer Tryz.prog 115 [.nilFunc] := ⟨by kernel_rfl⟩
instance : TSize Tryz.prog 116 1 := ⟨isz116⟩
instance : TOne Tryz.prog 116 := ⟨⟨_, Tryz.underlying116, rfl⟩, isz116⟩
instance : TZer Tryz.prog 116 [.pointer none] := ⟨by kernel_rfl⟩
instance : TSize Tryz.prog 117 1 := ⟨isz117⟩
instance : TOne Tryz.prog 117 := ⟨⟨_, Tryz.underlying117, rfl⟩, isz117⟩
instance : TZer Tryz.prog 117 [.nilFunc] := ⟨by kernel_rfl⟩
instance : TSize Tryz.prog 118 1 := ⟨isz118⟩
instance : TOne Tryz.prog 118 := ⟨⟨_, Tryz.underlying118, rfl⟩, isz118⟩
instance : TZer Tryz.prog 118 [.nilFunc] := ⟨by kernel_rfl⟩
instance : TSize Tryz.prog 119 1 := ⟨isz119⟩
instance : TOne Tryz.prog 119 := ⟨⟨_, Tryz.underlying119, rfl⟩, isz119⟩
instance : TZer Tryz.prog 119 [.nilFunc] := ⟨by kernel_rfl⟩
instance : TSize Tryz.prog 120 1 := ⟨isz120⟩
instance : TOne Tryz.prog 120 := ⟨⟨_, Tryz.underlying120, rfl⟩, isz120⟩
instance : TZer Tryz.prog 120 [.nilFunc] := ⟨by kernel_rfl⟩
instance : TSize Tryz.prog 121 1 := ⟨isz121⟩
instance : TOne Tryz.prog 121 := ⟨⟨_, Tryz.underlying121, rfl⟩, isz121⟩
instance : TZer Tryz.prog 121 [.nilFunc] := ⟨by kernel_rfl⟩
instance : TSize Tryz.prog 122 1 := ⟨isz122⟩
instance : TOne Tryz.prog 122 := ⟨⟨_, Tryz.underlying122, rfl⟩, isz122⟩
instance : TZer Tryz.prog 122 [.nilFunc] := ⟨by kernel_rfl⟩
instance : TSize Tryz.prog 123 1 := ⟨isz123⟩
instance : TOne Tryz.prog 123 := ⟨⟨_, Tryz.underlying123, rfl⟩, isz123⟩
instance : TSize Tryz.prog 124 1 := ⟨isz124⟩
instance : TOne Tryz.prog 124 := ⟨⟨_, Tryz.underlying124, rfl⟩, isz124⟩
instance : TZer Tryz.prog 124 [.nilFunc] := ⟨by kernel_rfl⟩
instance : TSize Tryz.prog 125 1 := ⟨isz125⟩
instance : TOne Tryz.prog 125 := ⟨⟨_, Tryz.underlying125, rfl⟩, isz125⟩
instance : TZer Tryz.prog 125 [.nilFunc] := ⟨by kernel_rfl⟩
instance : TSize Tryz.prog 126 3 := ⟨isz126⟩
instance : TRow Tryz.prog 126 3 := ⟨⟨_, Tryz.underlying126, rfl⟩, isz126⟩
instance : TZer Tryz.prog 126 [.string ⟨#[]⟩, .string ⟨#[]⟩, .nilIface] := ⟨by kernel_rfl⟩
instance : TStruct Tryz.prog 126 [(0, 1), (1, 1), (2, 1)] := ⟨⟨_, Tryz.underlying126, by kernel_rfl⟩⟩
instance : TFld Tryz.prog 126 0 0 0 false := ⟨⟨_, _, _, Tryz.underlying126, rfl, rfl, Tryz.underlying9, rfl, isz9⟩⟩
instance : TFld Tryz.prog 126 1 1 0 false := ⟨⟨_, _, _, Tryz.underlying126, rfl, rfl, Tryz.underlying9, rfl, isz9⟩⟩
instance : TFld Tryz.prog 126 2 2 0 false := ⟨⟨_, _, _, Tryz.underlying126, rfl, rfl, Tryz.underlying65, rfl, isz65⟩⟩
instance : TSize Tryz.prog 127 3 := ⟨isz127⟩
instance : TRow Tryz.prog 127 3 := ⟨⟨_, Tryz.underlying127, rfl⟩, isz127⟩
instance : TZer Tryz.prog 127 [.string ⟨#[]⟩, .string ⟨#[]⟩, .nilIface] := ⟨by kernel_rfl⟩
instance : TStruct Tryz.prog 127 [(0, 1), (1, 1), (2, 1)] := ⟨⟨_, Tryz.underlying127, by kernel_rfl⟩⟩
instance : TFld Tryz.prog 127 0 0 0 false := ⟨⟨_, _, _, Tryz.underlying127, rfl, rfl, Tryz.underlying9, rfl, isz9⟩⟩
instance : TFld Tryz.prog 127 1 1 0 false := ⟨⟨_, _, _, Tryz.underlying127, rfl, rfl, Tryz.underlying9, rfl, isz9⟩⟩
instance : TFld Tryz.prog 127 2 2 0 false := ⟨⟨_, _, _, Tryz.underlying127, rfl, rfl, Tryz.underlying65, rfl, isz65⟩⟩
instance : TSize Tryz.prog 128 1 := ⟨isz128⟩
instance : TOne Tryz.prog 128 := ⟨⟨_, Tryz.underlying128, rfl⟩, isz128⟩
instance : TZer Tryz.prog 128 [.nilFunc] := ⟨by kernel_rfl⟩
instance : TSize Tryz.prog 129 32 := ⟨isz129⟩
instance : TRow Tryz.prog 129 32 := ⟨⟨_, Tryz.underlying129, rfl⟩, isz129⟩
instance : TSize Tryz.prog 130 64 := ⟨isz130⟩
instance : TRow Tryz.prog 130 64 := ⟨⟨_, Tryz.underlying130, rfl⟩, isz130⟩
instance : TSize Tryz.prog 131 256 := ⟨isz131⟩
instance : TRow Tryz.prog 131 256 := ⟨⟨_, Tryz.underlying131, rfl⟩, isz131⟩
instance : TSize Tryz.prog 132 2 := ⟨isz132⟩
instance : TRow Tryz.prog 132 2 := ⟨⟨_, Tryz.underlying132, rfl⟩, isz132⟩
instance : TZer Tryz.prog 132 [.int .u8 0, .int .u8 0] := ⟨by kernel_rfl⟩
instance : TStruct Tryz.prog 132 [(0, 1), (1, 1)] := ⟨⟨_, Tryz.underlying132, by kernel_rfl⟩⟩
instance : TFld Tryz.prog 132 0 0 0 false := ⟨⟨_, _, _, Tryz.underlying132, rfl, rfl, Tryz.underlying5, rfl, isz5⟩⟩
instance : TFld Tryz.prog 132 1 1 0 false := ⟨⟨_, _, _, Tryz.underlying132, rfl, rfl, Tryz.underlying5, rfl, isz5⟩⟩
instance : TSize Tryz.prog 133 2 := ⟨isz133⟩
instance : TRow Tryz.prog 133 2 := ⟨⟨_, Tryz.underlying133, rfl⟩, isz133⟩
instance : TZer Tryz.prog 133 [.int .u8 0, .int .u8 0] := ⟨by kernel_rfl⟩
instance : TStruct Tryz.prog 133 [(0, 1), (1, 1)] := ⟨⟨_, Tryz.underlying133, by kernel_rfl⟩⟩
instance : TFld Tryz.prog 133 0 0 0 false := ⟨⟨_, _, _, Tryz.underlying133, rfl, rfl, Tryz.underlying5, rfl, isz5⟩⟩
instance : TFld Tryz.prog 133 1 1 0 false := ⟨⟨_, _, _, Tryz.underlying133, rfl, rfl, Tryz.underlying5, rfl, isz5⟩⟩
instance : TSize Tryz.prog 134 32 := ⟨isz134⟩
instance : TRow Tryz.prog 134 32 := ⟨⟨_, Tryz.underlying134, rfl⟩, isz134⟩
instance : TSize Tryz.prog 135 1 := ⟨isz135⟩
instance : TOne Tryz.prog 135 := ⟨⟨_, Tryz.underlying135, rfl⟩, isz135⟩
instance : TZer Tryz.prog 135 [.nilFunc] := ⟨by kernel_rfl⟩
instance : TSize Tryz.prog 136 1 := ⟨isz136⟩
instance : TOne Tryz.prog 136 := ⟨⟨_, Tryz.underlying136, rfl⟩, isz136⟩
instance : TZer Tryz.prog 136 [.nilFunc] := ⟨by kernel_rfl⟩
instance : TSize Tryz.prog 137 1 := ⟨isz137⟩
instance : TOne Tryz.prog 137 := ⟨⟨_, Tryz.underlying137, rfl⟩, isz137⟩
instance : TZer Tryz.prog 137 [.pointer none] := ⟨by kernel_rfl⟩
instance : TSize Tryz.prog 138 1 := ⟨isz138⟩
instance : TRow Tryz.prog 138 1 := ⟨⟨_, Tryz.underlying138, rfl⟩, isz138⟩
instance : TZer Tryz.prog 138 [.string ⟨#[]⟩] := ⟨by kernel_rfl⟩
instance : TStruct Tryz.prog 138 [(0, 1)] := ⟨⟨_, Tryz.underlying138, by kernel_rfl⟩⟩
instance : TFld Tryz.prog 138 0 0 0 false := ⟨⟨_, _, _, Tryz.underlying138, rfl, rfl, Tryz.underlying9, rfl, isz9⟩⟩
instance : TSize Tryz.prog 139 1 := ⟨isz139⟩
instance : TRow Tryz.prog 139 1 := ⟨⟨_, Tryz.underlying139, rfl⟩, isz139⟩
instance : TZer Tryz.prog 139 [.string ⟨#[]⟩] := ⟨by kernel_rfl⟩
instance : TStruct Tryz.prog 139 [(0, 1)] := ⟨⟨_, Tryz.underlying139, by kernel_rfl⟩⟩
instance : TFld Tryz.prog 139 0 0 0 false := ⟨⟨_, _, _, Tryz.underlying139, rfl, rfl, Tryz.underlying9, rfl, isz9⟩⟩
instance : TSize Tryz.prog 140 1 := ⟨isz140⟩
instance : TOne Tryz.prog 140 := ⟨⟨_, Tryz.underlying140, rfl⟩, isz140⟩
instance : TZer Tryz.prog 140 [.nilFunc] := ⟨by kernel_rfl⟩
instance : TSize Tryz.prog 141 4 := ⟨isz141⟩
instance : TRow Tryz.prog 141 4 := ⟨⟨_, Tryz.underlying141, rfl⟩, isz141⟩
instance : TZer Tryz.prog 141 [.pointer none, .pointer none, .pointer none, .string ⟨#[]⟩] := ⟨by kernel_rfl⟩
instance : TStruct Tryz.prog 141 [(0, 1), (1, 1), (2, 1), (3, 1)] := ⟨⟨_, Tryz.underlying141, by kernel_rfl⟩⟩
instance : TFld Tryz.prog 141 0 0 0 false := ⟨⟨_, _, _, Tryz.underlying141, rfl, rfl, Tryz.underlying17, rfl, isz17⟩⟩
instance : TFld Tryz.prog 141 1 1 0 false := ⟨⟨_, _, _, Tryz.underlying141, rfl, rfl, Tryz.underlying17, rfl, isz17⟩⟩
instance : TFld Tryz.prog 141 2 2 0 false := ⟨⟨_, _, _, Tryz.underlying141, rfl, rfl, Tryz.underlying17, rfl, isz17⟩⟩
instance : TFld Tryz.prog 141 3 3 0 false := ⟨⟨_, _, _, Tryz.underlying141, rfl, rfl, Tryz.underlying9, rfl, isz9⟩⟩
instance : TSize Tryz.prog 142 4 := ⟨isz142⟩
instance : TRow Tryz.prog 142 4 := ⟨⟨_, Tryz.underlying142, rfl⟩, isz142⟩
instance : TZer Tryz.prog 142 [.pointer none, .pointer none, .pointer none, .string ⟨#[]⟩] := ⟨by kernel_rfl⟩
instance : TStruct Tryz.prog 142 [(0, 1), (1, 1), (2, 1), (3, 1)] := ⟨⟨_, Tryz.underlying142, by kernel_rfl⟩⟩
instance : TFld Tryz.prog 142 0 0 0 false := ⟨⟨_, _, _, Tryz.underlying142, rfl, rfl, Tryz.underlying17, rfl, isz17⟩⟩
instance : TFld Tryz.prog 142 1 1 0 false := ⟨⟨_, _, _, Tryz.underlying142, rfl, rfl, Tryz.underlying17, rfl, isz17⟩⟩
instance : TFld Tryz.prog 142 2 2 0 false := ⟨⟨_, _, _, Tryz.underlying142, rfl, rfl, Tryz.underlying17, rfl, isz17⟩⟩
instance : TFld Tryz.prog 142 3 3 0 false := ⟨⟨_, _, _, Tryz.underlying142, rfl, rfl, Tryz.underlying9, rfl, isz9⟩⟩
instance : TSize Tryz.prog 146 1 := ⟨isz146⟩
instance : TOne Tryz.prog 146 := ⟨⟨_, Tryz.underlying146, rfl⟩, isz146⟩
instance : TInt Tryz.prog 146 .u8 := ⟨Tryz.underlying146⟩
instance : TZer Tryz.prog 146 [.int .u8 0] := ⟨by kernel_rfl⟩
instance : TSize Tryz.prog 147 1 := ⟨isz147⟩
instance : TOne Tryz.prog 147 := ⟨⟨_, Tryz.underlying147, rfl⟩, isz147⟩
instance : TInt Tryz.prog 147 .u8 := ⟨Tryz.underlying147⟩
instance : TZer Tryz.prog 147 [.int .u8 0] := ⟨by kernel_rfl⟩
instance : TSize Tryz.prog 148 1 := ⟨isz148⟩
instance : TOne Tryz.prog 148 := ⟨⟨_, Tryz.underlying148, rfl⟩, isz148⟩
instance : TZer Tryz.prog 148 [.nilFunc] := ⟨by kernel_rfl⟩
instance : TSize Tryz.prog 149 1 := ⟨isz149⟩
instance : TOne Tryz.prog 149 := ⟨⟨_, Tryz.underlying149, rfl⟩, isz149⟩
instance : TInt Tryz.prog 149 .i32 := ⟨Tryz.underlying149⟩
instance : TZer Tryz.prog 149 [.int .i32 0] := ⟨by kernel_rfl⟩
instance : TSize Tryz.prog 150 1 := ⟨isz150⟩
instance : TOne Tryz.prog 150 := ⟨⟨_, Tryz.underlying150, rfl⟩, isz150⟩
instance : TInt Tryz.prog 150 .i32 := ⟨Tryz.underlying150⟩
instance : TZer Tryz.prog 150 [.int .i32 0] := ⟨by kernel_rfl⟩
instance : TSize Tryz.prog 151 11 := ⟨isz151⟩
instance : TRow Tryz.prog 151 11 := ⟨⟨_, Tryz.underlying151, rfl⟩, isz151⟩
instance : TZer Tryz.prog 151 [.int .u64 0, .int .u64 0, .int .u32 0, .int .u8 0, .int .u8 0, .int .u8 0, .int .u8 0, .nilFunc, .pointer none, .int .i32 0, .int .i32 0] := ⟨by kernel_rfl⟩
instance : TStruct Tryz.prog 151 [(0, 1), (1, 1), (2, 1), (3, 1), (4, 1), (5, 1), (6, 1), (7, 1), (8, 1), (9, 1), (10, 1)] := ⟨⟨_, Tryz.underlying151, by kernel_rfl⟩⟩
instance : TFld Tryz.prog 151 0 0 0 false := ⟨⟨_, _, _, Tryz.underlying151, rfl, rfl, Tryz.underlying12, rfl, isz12⟩⟩
instance : TFld Tryz.prog 151 1 1 0 false := ⟨⟨_, _, _, Tryz.underlying151, rfl, rfl, Tryz.underlying12, rfl, isz12⟩⟩
instance : TFld Tryz.prog 151 2 2 0 false := ⟨⟨_, _, _, Tryz.underlying151, rfl, rfl, Tryz.underlying81, rfl, isz81⟩⟩
instance : TFld Tryz.prog 151 3 3 0 false := ⟨⟨_, _, _, Tryz.underlying151, rfl, rfl, Tryz.underlying146, rfl, isz146⟩⟩
instance : TFld Tryz.prog 151 4 4 0 false := ⟨⟨_, _, _, Tryz.underlying151, rfl, rfl, Tryz.underlying5, rfl, isz5⟩⟩
instance : TFld Tryz.prog 151 5 5 0 false := ⟨⟨_, _, _, Tryz.underlying151, rfl, rfl, Tryz.underlying5, rfl, isz5⟩⟩
instance : TFld Tryz.prog 151 6 6 0 false := ⟨⟨_, _, _, Tryz.underlying151, rfl, rfl, Tryz.underlying147, rfl, isz147⟩⟩
instance : TFld Tryz.prog 151 7 7 0 false := ⟨⟨_, _, _, Tryz.underlying151, rfl, rfl, Tryz.underlying148, rfl, isz148⟩⟩
instance : TFld Tryz.prog 151 8 8 0 false := ⟨⟨_, _, _, Tryz.underlying151, rfl, rfl, Tryz.underlying86, rfl, isz86⟩⟩
instance : TFld Tryz.prog 151 9 9 0 false := ⟨⟨_, _, _, Tryz.underlying151, rfl, rfl, Tryz.underlying149, rfl, isz149⟩⟩
instance : TFld Tryz.prog 151 10 10 0 false := ⟨⟨_, _, _, Tryz.underlying151, rfl, rfl, Tryz.underlying150, rfl, isz150⟩⟩
instance : TSize Tryz.prog 152 11 := ⟨isz152⟩
instance : TRow Tryz.prog 152 11 := ⟨⟨_, Tryz.underlying152, rfl⟩, isz152⟩
instance : TZer Tryz.prog 152 [.int .u64 0, .int .u64 0, .int .u32 0, .int .u8 0, .int .u8 0, .int .u8 0, .int .u8 0, .nilFunc, .pointer none, .int .i32 0, .int .i32 0] := ⟨by kernel_rfl⟩
instance : TStruct Tryz.prog 152 [(0, 1), (1, 1), (2, 1), (3, 1), (4, 1), (5, 1), (6, 1), (7, 1), (8, 1), (9, 1), (10, 1)] := ⟨⟨_, Tryz.underlying152, by kernel_rfl⟩⟩
instance : TFld Tryz.prog 152 0 0 0 false := ⟨⟨_, _, _, Tryz.underlying152, rfl, rfl, Tryz.underlying12, rfl, isz12⟩⟩
instance : TFld Tryz.prog 152 1 1 0 false := ⟨⟨_, _, _, Tryz.underlying152, rfl, rfl, Tryz.underlying12, rfl, isz12⟩⟩
instance : TFld Tryz.prog 152 2 2 0 false := ⟨⟨_, _, _, Tryz.underlying152, rfl, rfl, Tryz.underlying81, rfl, isz81⟩⟩
instance : TFld Tryz.prog 152 3 3 0 false := ⟨⟨_, _, _, Tryz.underlying152, rfl, rfl, Tryz.underlying146, rfl, isz146⟩⟩
instance : TFld Tryz.prog 152 4 4 0 false := ⟨⟨_, _, _, Tryz.underlying152, rfl, rfl, Tryz.underlying5, rfl, isz5⟩⟩
instance : TFld Tryz.prog 152 5 5 0 false := ⟨⟨_, _, _, Tryz.underlying152, rfl, rfl, Tryz.underlying5, rfl, isz5⟩⟩
instance : TFld Tryz.prog 152 6 6 0 false := ⟨⟨_, _, _, Tryz.underlying152, rfl, rfl, Tryz.underlying147, rfl, isz147⟩⟩
instance : TFld Tryz.prog 152 7 7 0 false := ⟨⟨_, _, _, Tryz.underlying152, rfl, rfl, Tryz.underlying148, rfl, isz148⟩⟩
instance : TFld Tryz.prog 152 8 8 0 false := ⟨⟨_, _, _, Tryz.underlying152, rfl, rfl, Tryz.underlying86, rfl, isz86⟩⟩
instance : TFld Tryz.prog 152 9 9 0 false := ⟨⟨_, _, _, Tryz.underlying152, rfl, rfl, Tryz.underlying149, rfl, isz149⟩⟩
instance : TFld Tryz.prog 152 10 10 0 false := ⟨⟨_, _, _, Tryz.underlying152, rfl, rfl, Tryz.underlying150, rfl, isz150⟩⟩
instance : Enters Tryz.prog 3 := ⟨⟨_, Tryz.func3, by kernel_rfl, by kernel_rfl⟩⟩
instance : Enters Tryz.prog 4 := ⟨⟨_, Tryz.func4, by kernel_rfl, by kernel_rfl⟩⟩
instance : Enters Tryz.prog 5 := ⟨⟨_, Tryz.func5, by kernel_rfl, by kernel_rfl⟩⟩
instance : Enters Tryz.prog 6 := ⟨⟨_, Tryz.func6, by kernel_rfl, by kernel_rfl⟩⟩
instance : Enters Tryz.prog 7 := ⟨⟨_, Tryz.func7, by kernel_rfl, by kernel_rfl⟩⟩
instance : Enters Tryz.prog 8 := ⟨⟨_, Tryz.func8, by kernel_rfl, by kernel_rfl⟩⟩
instance : Enters Tryz.prog 9 := ⟨⟨_, Tryz.func9, by kernel_rfl, by kernel_rfl⟩⟩
instance : Enters Tryz.prog 10 := ⟨⟨_, Tryz.func10, by kernel_rfl, by kernel_rfl⟩⟩
instance : Enters Tryz.prog 11 := ⟨⟨_, Tryz.func11, by kernel_rfl, by kernel_rfl⟩⟩
instance : Enters Tryz.prog 12 := ⟨⟨_, Tryz.func12, by kernel_rfl, by kernel_rfl⟩⟩
instance : Enters Tryz.prog 13 := ⟨⟨_, Tryz.func13, by kernel_rfl, by kernel_rfl⟩⟩
instance : Enters Tryz.prog 14 := ⟨⟨_, Tryz.func14, by kernel_rfl, by kernel_rfl⟩⟩
instance : Enters Tryz.prog 15 := ⟨⟨_, Tryz.func15, by kernel_rfl, by kernel_rfl⟩⟩
instance : Enters Tryz.prog 16 := ⟨⟨_, Tryz.func16, by kernel_rfl, by kernel_rfl⟩⟩
instance : Enters Tryz.prog 17 := ⟨⟨_, Tryz.func17, by kernel_rfl, by kernel_rfl⟩⟩
instance : Enters Tryz.prog 18 := ⟨⟨_, Tryz.func18, by kernel_rfl, by kernel_rfl⟩⟩
instance : Enters Tryz.prog 19 := ⟨⟨_, Tryz.func19, by kernel_rfl, by kernel_rfl⟩⟩
instance : Enters Tryz.prog 20 := ⟨⟨_, Tryz.func20, by kernel_rfl, by kernel_rfl⟩⟩
instance : Enters Tryz.prog 21 := ⟨⟨_, Tryz.func21, by kernel_rfl, by kernel_rfl⟩⟩
instance : Enters Tryz.prog 22 := ⟨⟨_, Tryz.func22, by kernel_rfl, by kernel_rfl⟩⟩
instance : Enters Tryz.prog 23 := ⟨⟨_, Tryz.func23, by kernel_rfl, by kernel_rfl⟩⟩
instance : Enters Tryz.prog 24 := ⟨⟨_, Tryz.func24, by kernel_rfl, by kernel_rfl⟩⟩
instance : Enters Tryz.prog 25 := ⟨⟨_, Tryz.func25, by kernel_rfl, by kernel_rfl⟩⟩
instance : Enters Tryz.prog 26 := ⟨⟨_, Tryz.func26, by kernel_rfl, by kernel_rfl⟩⟩
instance : Enters Tryz.prog 27 := ⟨⟨_, Tryz.func27, by kernel_rfl, by kernel_rfl⟩⟩
instance : Enters Tryz.prog 28 := ⟨⟨_, Tryz.func28, by kernel_rfl, by kernel_rfl⟩⟩
instance : Enters Tryz.prog 29 := ⟨⟨_, Tryz.func29, by kernel_rfl, by kernel_rfl⟩⟩
instance : Enters Tryz.prog 30 := ⟨⟨_, Tryz.func30, by kernel_rfl, by kernel_rfl⟩⟩
instance : Enters Tryz.prog 31 := ⟨⟨_, Tryz.func31, by kernel_rfl, by kernel_rfl⟩⟩
instance : Enters Tryz.prog 32 := ⟨⟨_, Tryz.func32, by kernel_rfl, by kernel_rfl⟩⟩
instance : Enters Tryz.prog 33 := ⟨⟨_, Tryz.func33, by kernel_rfl, by kernel_rfl⟩⟩
instance : Enters Tryz.prog 34 := ⟨⟨_, Tryz.func34, by kernel_rfl, by kernel_rfl⟩⟩
instance : Enters Tryz.prog 35 := ⟨⟨_, Tryz.func35, by kernel_rfl, by kernel_rfl⟩⟩
instance : Enters Tryz.prog 36 := ⟨⟨_, Tryz.func36, by kernel_rfl, by kernel_rfl⟩⟩
instance : Enters Tryz.prog 37 := ⟨⟨_, Tryz.func37, by kernel_rfl, by kernel_rfl⟩⟩
instance : Enters Tryz.prog 38 := ⟨⟨_, Tryz.func38, by kernel_rfl, by kernel_rfl⟩⟩
instance : Enters Tryz.prog 39 := ⟨⟨_, Tryz.func39, by kernel_rfl, by kernel_rfl⟩⟩
instance : Enters Tryz.prog 40 := ⟨⟨_, Tryz.func40, by kernel_rfl, by kernel_rfl⟩⟩
instance : Enters Tryz.prog 41 := ⟨⟨_, Tryz.func41, by kernel_rfl, by kernel_rfl⟩⟩
instance : Enters Tryz.prog 42 := ⟨⟨_, Tryz.func42, by kernel_rfl, by kernel_rfl⟩⟩
instance : Enters Tryz.prog 43 := ⟨⟨_, Tryz.func43, by kernel_rfl, by kernel_rfl⟩⟩
instance : Enters Tryz.prog 44 := ⟨⟨_, Tryz.func44, by kernel_rfl, by kernel_rfl⟩⟩
instance : Enters Tryz.prog 45 := ⟨⟨_, Tryz.func45, by kernel_rfl, by kernel_rfl⟩⟩
instance : Enters Tryz.prog 46 := ⟨⟨_, Tryz.func46, by kernel_rfl, by kernel_rfl⟩⟩
instance : Enters Tryz.prog 47 := ⟨⟨_, Tryz.func47, by kernel_rfl, by kernel_rfl⟩⟩
instance : Enters Tryz.prog 48 := ⟨⟨_, Tryz.func48, by kernel_rfl, by kernel_rfl⟩⟩
instance : Enters Tryz.prog 49 := ⟨⟨_, Tryz.func49, by kernel_rfl, by kernel_rfl⟩⟩
instance : Enters Tryz.prog 50 := ⟨⟨_, Tryz.func50, by kernel_rfl, by kernel_rfl⟩⟩
instance : Enters Tryz.prog 51 := ⟨⟨_, Tryz.func51, by kernel_rfl, by kernel_rfl⟩⟩
instance : Enters Tryz.prog 52 := ⟨⟨_, Tryz.func52, by kernel_rfl, by kernel_rfl⟩⟩
instance : Enters Tryz.prog 53 := ⟨⟨_, Tryz.func53, by kernel_rfl, by kernel_rfl⟩⟩
instance : Enters Tryz.prog 54 := ⟨⟨_, Tryz.func54, by kernel_rfl, by kernel_rfl⟩⟩
instance : Enters Tryz.prog 55 := ⟨⟨_, Tryz.func55, by kernel_rfl, by kernel_rfl⟩⟩
instance : Enters Tryz.prog 56 := ⟨⟨_, Tryz.func56, by kernel_rfl, by kernel_rfl⟩⟩
instance : Enters Tryz.prog 57 := ⟨⟨_, Tryz.func57, by kernel_rfl, by kernel_rfl⟩⟩
instance : Enters Tryz.prog 58 := ⟨⟨_, Tryz.func58, by kernel_rfl, by kernel_rfl⟩⟩
instance : Enters Tryz.prog 59 := ⟨⟨_, Tryz.func59, by kernel_rfl, by kernel_rfl⟩⟩
instance : Enters Tryz.prog 60 := ⟨⟨_, Tryz.func60, by kernel_rfl, by kernel_rfl⟩⟩
instance : Enters Tryz.prog 61 := ⟨⟨_, Tryz.func61, by kernel_rfl, by kernel_rfl⟩⟩
instance : Enters Tryz.prog 62 := ⟨⟨_, Tryz.func62, by kernel_rfl, by kernel_rfl⟩⟩
instance : Enters Tryz.prog 63 := ⟨⟨_, Tryz.func63, by kernel_rfl, by kernel_rfl⟩⟩
instance : Enters Tryz.prog 64 := ⟨⟨_, Tryz.func64, by kernel_rfl, by kernel_rfl⟩⟩
instance : Enters Tryz.prog 65 := ⟨⟨_, Tryz.func65, by kernel_rfl, by kernel_rfl⟩⟩
instance : Enters Tryz.prog 66 := ⟨⟨_, Tryz.func66, by kernel_rfl, by kernel_rfl⟩⟩
instance : Enters Tryz.prog 67 := ⟨⟨_, Tryz.func67, by kernel_rfl, by kernel_rfl⟩⟩
instance : Enters Tryz.prog 68 := ⟨⟨_, Tryz.func68, by kernel_rfl, by kernel_rfl⟩⟩
instance : Enters Tryz.prog 69 := ⟨⟨_, Tryz.func69, by kernel_rfl, by kernel_rfl⟩⟩
instance : Enters Tryz.prog 70 := ⟨⟨_, Tryz.func70, by kernel_rfl, by kernel_rfl⟩⟩
instance : Enters Tryz.prog 71 := ⟨⟨_, Tryz.func71, by kernel_rfl, by kernel_rfl⟩⟩
instance : Enters Tryz.prog 72 := ⟨⟨_, Tryz.func72, by kernel_rfl, by kernel_rfl⟩⟩
instance : Enters Tryz.prog 73 := ⟨⟨_, Tryz.func73, by kernel_rfl, by kernel_rfl⟩⟩
instance : Enters Tryz.prog 74 := ⟨⟨_, Tryz.func74, by kernel_rfl, by kernel_rfl⟩⟩
instance : Enters Tryz.prog 77 := ⟨⟨_, Tryz.func77, by kernel_rfl, by kernel_rfl⟩⟩
instance : Enters Tryz.prog 78 := ⟨⟨_, Tryz.func78, by kernel_rfl, by kernel_rfl⟩⟩
instance : Enters Tryz.prog 79 := ⟨⟨_, Tryz.func79, by kernel_rfl, by kernel_rfl⟩⟩
instance : Enters Tryz.prog 80 := ⟨⟨_, Tryz.func80, by kernel_rfl, by kernel_rfl⟩⟩
instance : Enters Tryz.prog 81 := ⟨⟨_, Tryz.func81, by kernel_rfl, by kernel_rfl⟩⟩
instance : Enters Tryz.prog 82 := ⟨⟨_, Tryz.func82, by kernel_rfl, by kernel_rfl⟩⟩
instance : Enters Tryz.prog 83 := ⟨⟨_, Tryz.func83, by kernel_rfl, by kernel_rfl⟩⟩
instance : Enters Tryz.prog 84 := ⟨⟨_, Tryz.func84, by kernel_rfl, by kernel_rfl⟩⟩
instance : Enters Tryz.prog 85 := ⟨⟨_, Tryz.func85, by kernel_rfl, by kernel_rfl⟩⟩
instance : Enters Tryz.prog 86 := ⟨⟨_, Tryz.func86, by kernel_rfl, by kernel_rfl⟩⟩
instance : Enters Tryz.prog 88 := ⟨⟨_, Tryz.func88, by kernel_rfl, by kernel_rfl⟩⟩
instance : Enters Tryz.prog 89 := ⟨⟨_, Tryz.func89, by kernel_rfl, by kernel_rfl⟩⟩
instance : Enters Tryz.prog 90 := ⟨⟨_, Tryz.func90, by kernel_rfl, by kernel_rfl⟩⟩
instance : Enters Tryz.prog 91 := ⟨⟨_, Tryz.func91, by kernel_rfl, by kernel_rfl⟩⟩
instance : Enters Tryz.prog 92 := ⟨⟨_, Tryz.func92, by kernel_rfl, by kernel_rfl⟩⟩
instance : Enters Tryz.prog 93 := ⟨⟨_, Tryz.func93, by kernel_rfl, by kernel_rfl⟩⟩
instance : Enters Tryz.prog 94 := ⟨⟨_, Tryz.func94, by kernel_rfl, by kernel_rfl⟩⟩
instance : Enters Tryz.prog 95 := ⟨⟨_, Tryz.func95, by kernel_rfl, by kernel_rfl⟩⟩
instance : Enters Tryz.prog 96 := ⟨⟨_, Tryz.func96, by kernel_rfl, by kernel_rfl⟩⟩
instance : Enters Tryz.prog 97 := ⟨⟨_, Tryz.func97, by kernel_rfl, by kernel_rfl⟩⟩
instance : Enters Tryz.prog 99 := ⟨⟨_, Tryz.func99, by kernel_rfl, by kernel_rfl⟩⟩
instance : Enters Tryz.prog 100 := ⟨⟨_, Tryz.func100, by kernel_rfl, by kernel_rfl⟩⟩
instance : Enters Tryz.prog 101 := ⟨⟨_, Tryz.func101, by kernel_rfl, by kernel_rfl⟩⟩
instance : Enters Tryz.prog 102 := ⟨⟨_, Tryz.func102, by kernel_rfl, by kernel_rfl⟩⟩
instance : Enters Tryz.prog 103 := ⟨⟨_, Tryz.func103, by kernel_rfl, by kernel_rfl⟩⟩
instance : Enters Tryz.prog 104 := ⟨⟨_, Tryz.func104, by kernel_rfl, by kernel_rfl⟩⟩
instance : Enters Tryz.prog 106 := ⟨⟨_, Tryz.func106, by kernel_rfl, by kernel_rfl⟩⟩
end Go.Proofs.YtkjgmjocikmplaaGreatDoor
