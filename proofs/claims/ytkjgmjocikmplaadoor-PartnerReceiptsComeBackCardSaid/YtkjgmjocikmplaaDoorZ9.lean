/- What the types and functions of this translation are, one instance each. (Written by wip/inst.py.). -/
import Derived.Test.YtkjgmjocikmplaaDoorZ1
import Derived.Test.YtkjgmjocikmplaaDoorProg
namespace Go.Proofs.YtkjgmjocikmplaaDoor
set_option linter.unusedVariables false
theorem isz0 : (Tryd.prog.info? 0).map (·.size) = some 1 := by kernel_rfl
theorem isz1 : (Tryd.prog.info? 1).map (·.size) = some 1 := by kernel_rfl
theorem isz2 : (Tryd.prog.info? 2).map (·.size) = some 1 := by kernel_rfl
theorem isz3 : (Tryd.prog.info? 3).map (·.size) = some 1 := by kernel_rfl
theorem isz4 : (Tryd.prog.info? 4).map (·.size) = some 1 := by kernel_rfl
theorem isz5 : (Tryd.prog.info? 5).map (·.size) = some 1 := by kernel_rfl
theorem isz6 : (Tryd.prog.info? 6).map (·.size) = some 1 := by kernel_rfl
theorem isz7 : (Tryd.prog.info? 7).map (·.size) = some 4 := by kernel_rfl
theorem isz8 : (Tryd.prog.info? 8).map (·.size) = some 4 := by kernel_rfl
theorem isz9 : (Tryd.prog.info? 9).map (·.size) = some 1 := by kernel_rfl
theorem isz10 : (Tryd.prog.info? 10).map (·.size) = some 1 := by kernel_rfl
theorem isz11 : (Tryd.prog.info? 11).map (·.size) = some 1 := by kernel_rfl
theorem isz12 : (Tryd.prog.info? 12).map (·.size) = some 1 := by kernel_rfl
theorem isz13 : (Tryd.prog.info? 13).map (·.size) = some 2 := by kernel_rfl
theorem isz14 : (Tryd.prog.info? 14).map (·.size) = some 2 := by kernel_rfl
theorem isz15 : (Tryd.prog.info? 15).map (·.size) = some 1 := by kernel_rfl
theorem isz16 : (Tryd.prog.info? 16).map (·.size) = some 1 := by kernel_rfl
theorem isz17 : (Tryd.prog.info? 17).map (·.size) = some 1 := by kernel_rfl
theorem isz18 : (Tryd.prog.info? 18).map (·.size) = some 1 := by kernel_rfl
theorem isz19 : (Tryd.prog.info? 19).map (·.size) = some 1 := by kernel_rfl
theorem isz20 : (Tryd.prog.info? 20).map (·.size) = some 1 := by kernel_rfl
theorem isz21 : (Tryd.prog.info? 21).map (·.size) = some 1 := by kernel_rfl
theorem isz22 : (Tryd.prog.info? 22).map (·.size) = some 1 := by kernel_rfl
theorem isz23 : (Tryd.prog.info? 23).map (·.size) = some 3 := by kernel_rfl
theorem isz24 : (Tryd.prog.info? 24).map (·.size) = some 3 := by kernel_rfl
theorem isz25 : (Tryd.prog.info? 25).map (·.size) = some 1 := by kernel_rfl
theorem isz26 : (Tryd.prog.info? 26).map (·.size) = some 1 := by kernel_rfl
theorem isz27 : (Tryd.prog.info? 27).map (·.size) = some 1 := by kernel_rfl
theorem isz28 : (Tryd.prog.info? 28).map (·.size) = some 1 := by kernel_rfl
theorem isz29 : (Tryd.prog.info? 29).map (·.size) = some 1 := by kernel_rfl
theorem isz30 : (Tryd.prog.info? 30).map (·.size) = some 1 := by kernel_rfl
theorem isz31 : (Tryd.prog.info? 31).map (·.size) = some 1 := by kernel_rfl
theorem isz32 : (Tryd.prog.info? 32).map (·.size) = some 1 := by kernel_rfl
theorem isz33 : (Tryd.prog.info? 33).map (·.size) = some 1 := by kernel_rfl
theorem isz34 : (Tryd.prog.info? 34).map (·.size) = some 1 := by kernel_rfl
theorem isz35 : (Tryd.prog.info? 35).map (·.size) = some 1 := by kernel_rfl
theorem isz36 : (Tryd.prog.info? 36).map (·.size) = some 1 := by kernel_rfl
theorem isz37 : (Tryd.prog.info? 37).map (·.size) = some 1 := by kernel_rfl
theorem isz38 : (Tryd.prog.info? 38).map (·.size) = some 2 := by kernel_rfl
theorem isz39 : (Tryd.prog.info? 39).map (·.size) = some 2 := by kernel_rfl
theorem isz40 : (Tryd.prog.info? 40).map (·.size) = some 1 := by kernel_rfl
theorem isz41 : (Tryd.prog.info? 41).map (·.size) = some 1 := by kernel_rfl
theorem isz42 : (Tryd.prog.info? 42).map (·.size) = some 1 := by kernel_rfl
theorem isz43 : (Tryd.prog.info? 43).map (·.size) = some 1 := by kernel_rfl
theorem isz44 : (Tryd.prog.info? 44).map (·.size) = some 1 := by kernel_rfl
theorem isz45 : (Tryd.prog.info? 45).map (·.size) = some 1 := by kernel_rfl
theorem isz46 : (Tryd.prog.info? 46).map (·.size) = some 1 := by kernel_rfl
theorem isz47 : (Tryd.prog.info? 47).map (·.size) = some 1 := by kernel_rfl
theorem isz48 : (Tryd.prog.info? 48).map (·.size) = some 1 := by kernel_rfl
theorem isz49 : (Tryd.prog.info? 49).map (·.size) = some 1 := by kernel_rfl
theorem isz50 : (Tryd.prog.info? 50).map (·.size) = some 1 := by kernel_rfl
theorem isz51 : (Tryd.prog.info? 51).map (·.size) = some 1 := by kernel_rfl
theorem isz52 : (Tryd.prog.info? 52).map (·.size) = some 1 := by kernel_rfl
theorem isz53 : (Tryd.prog.info? 53).map (·.size) = some 1 := by kernel_rfl
theorem isz54 : (Tryd.prog.info? 54).map (·.size) = some 1 := by kernel_rfl
theorem isz55 : (Tryd.prog.info? 55).map (·.size) = some 1 := by kernel_rfl
theorem isz56 : (Tryd.prog.info? 56).map (·.size) = some 1 := by kernel_rfl
theorem isz57 : (Tryd.prog.info? 57).map (·.size) = some 1 := by kernel_rfl
theorem isz58 : (Tryd.prog.info? 58).map (·.size) = some 1 := by kernel_rfl
theorem isz59 : (Tryd.prog.info? 59).map (·.size) = some 1 := by kernel_rfl
theorem isz60 : (Tryd.prog.info? 60).map (·.size) = some 1 := by kernel_rfl
theorem isz61 : (Tryd.prog.info? 61).map (·.size) = some 1 := by kernel_rfl
theorem isz62 : (Tryd.prog.info? 62).map (·.size) = some 1 := by kernel_rfl
theorem isz63 : (Tryd.prog.info? 63).map (·.size) = some 1 := by kernel_rfl
theorem isz64 : (Tryd.prog.info? 64).map (·.size) = some 1 := by kernel_rfl
theorem isz65 : (Tryd.prog.info? 65).map (·.size) = some 1 := by kernel_rfl
theorem isz66 : (Tryd.prog.info? 66).map (·.size) = some 256 := by kernel_rfl
theorem isz67 : (Tryd.prog.info? 67).map (·.size) = some 256 := by kernel_rfl
theorem isz68 : (Tryd.prog.info? 68).map (·.size) = some 1 := by kernel_rfl
theorem isz69 : (Tryd.prog.info? 69).map (·.size) = some 1 := by kernel_rfl
theorem isz70 : (Tryd.prog.info? 70).map (·.size) = some 1 := by kernel_rfl
theorem isz71 : (Tryd.prog.info? 71).map (·.size) = some 1 := by kernel_rfl
theorem isz72 : (Tryd.prog.info? 72).map (·.size) = some 1 := by kernel_rfl
theorem isz73 : (Tryd.prog.info? 73).map (·.size) = some 1 := by kernel_rfl
theorem isz74 : (Tryd.prog.info? 74).map (·.size) = some 1 := by kernel_rfl
theorem isz75 : (Tryd.prog.info? 75).map (·.size) = some 1 := by kernel_rfl
theorem isz76 : (Tryd.prog.info? 76).map (·.size) = some 1 := by kernel_rfl
theorem isz77 : (Tryd.prog.info? 77).map (·.size) = some 1 := by kernel_rfl
theorem isz78 : (Tryd.prog.info? 78).map (·.size) = some 1 := by kernel_rfl
theorem isz79 : (Tryd.prog.info? 79).map (·.size) = some 1 := by kernel_rfl
theorem isz80 : (Tryd.prog.info? 80).map (·.size) = some 2 := by kernel_rfl
theorem isz81 : (Tryd.prog.info? 81).map (·.size) = some 2 := by kernel_rfl
theorem isz82 : (Tryd.prog.info? 82).map (·.size) = some 1 := by kernel_rfl
theorem isz83 : (Tryd.prog.info? 83).map (·.size) = some 1 := by kernel_rfl
theorem isz84 : (Tryd.prog.info? 84).map (·.size) = some 1 := by kernel_rfl
theorem isz85 : (Tryd.prog.info? 85).map (·.size) = some 1 := by kernel_rfl
theorem isz86 : (Tryd.prog.info? 86).map (·.size) = some 1 := by kernel_rfl
theorem isz87 : (Tryd.prog.info? 87).map (·.size) = some 1 := by kernel_rfl
theorem isz88 : (Tryd.prog.info? 88).map (·.size) = some 1 := by kernel_rfl
theorem isz89 : (Tryd.prog.info? 89).map (·.size) = some 1 := by kernel_rfl
theorem isz90 : (Tryd.prog.info? 90).map (·.size) = some 1 := by kernel_rfl
theorem isz91 : (Tryd.prog.info? 91).map (·.size) = some 1 := by kernel_rfl
theorem isz92 : (Tryd.prog.info? 92).map (·.size) = some 1 := by kernel_rfl
theorem isz93 : (Tryd.prog.info? 93).map (·.size) = some 1 := by kernel_rfl
theorem isz94 : (Tryd.prog.info? 94).map (·.size) = some 1 := by kernel_rfl
theorem isz95 : (Tryd.prog.info? 95).map (·.size) = some 1 := by kernel_rfl
theorem isz96 : (Tryd.prog.info? 96).map (·.size) = some 1 := by kernel_rfl
theorem isz97 : (Tryd.prog.info? 97).map (·.size) = some 24 := by kernel_rfl
theorem isz98 : (Tryd.prog.info? 98).map (·.size) = some 1 := by kernel_rfl
theorem isz99 : (Tryd.prog.info? 99).map (·.size) = some 1 := by kernel_rfl
theorem isz100 : (Tryd.prog.info? 100).map (·.size) = some 1 := by kernel_rfl
theorem isz101 : (Tryd.prog.info? 101).map (·.size) = some 1 := by kernel_rfl
theorem isz102 : (Tryd.prog.info? 102).map (·.size) = some 1 := by kernel_rfl
theorem isz103 : (Tryd.prog.info? 103).map (·.size) = some 1 := by kernel_rfl
theorem isz104 : (Tryd.prog.info? 104).map (·.size) = some 1 := by kernel_rfl
theorem isz105 : (Tryd.prog.info? 105).map (·.size) = some 1 := by kernel_rfl
theorem isz106 : (Tryd.prog.info? 106).map (·.size) = some 1 := by kernel_rfl
theorem isz107 : (Tryd.prog.info? 107).map (·.size) = some 1 := by kernel_rfl
theorem isz108 : (Tryd.prog.info? 108).map (·.size) = some 1 := by kernel_rfl
theorem isz109 : (Tryd.prog.info? 109).map (·.size) = some 1 := by kernel_rfl
theorem isz110 : (Tryd.prog.info? 110).map (·.size) = some 1 := by kernel_rfl
theorem isz111 : (Tryd.prog.info? 111).map (·.size) = some 1 := by kernel_rfl
theorem isz112 : (Tryd.prog.info? 112).map (·.size) = some 1 := by kernel_rfl
theorem isz113 : (Tryd.prog.info? 113).map (·.size) = some 1 := by kernel_rfl
theorem isz114 : (Tryd.prog.info? 114).map (·.size) = some 3 := by kernel_rfl
theorem isz115 : (Tryd.prog.info? 115).map (·.size) = some 3 := by kernel_rfl
theorem isz116 : (Tryd.prog.info? 116).map (·.size) = some 1 := by kernel_rfl
theorem isz117 : (Tryd.prog.info? 117).map (·.size) = some 1 := by kernel_rfl
theorem isz118 : (Tryd.prog.info? 118).map (·.size) = some 1 := by kernel_rfl
theorem isz119 : (Tryd.prog.info? 119).map (·.size) = some 20 := by kernel_rfl
theorem isz120 : (Tryd.prog.info? 120).map (·.size) = some 65 := by kernel_rfl
theorem isz121 : (Tryd.prog.info? 121).map (·.size) = some 1 := by kernel_rfl
theorem isz122 : (Tryd.prog.info? 122).map (·.size) = some 1 := by kernel_rfl
theorem isz123 : (Tryd.prog.info? 123).map (·.size) = some 1 := by kernel_rfl
theorem isz124 : (Tryd.prog.info? 124).map (·.size) = some 1 := by kernel_rfl
theorem isz125 : (Tryd.prog.info? 125).map (·.size) = some 256 := by kernel_rfl
theorem isz126 : (Tryd.prog.info? 126).map (·.size) = some 2 := by kernel_rfl
theorem isz127 : (Tryd.prog.info? 127).map (·.size) = some 2 := by kernel_rfl
theorem isz128 : (Tryd.prog.info? 128).map (·.size) = some 32 := by kernel_rfl
theorem isz129 : (Tryd.prog.info? 129).map (·.size) = some 1 := by kernel_rfl
theorem isz130 : (Tryd.prog.info? 130).map (·.size) = some 1 := by kernel_rfl
theorem isz131 : (Tryd.prog.info? 131).map (·.size) = some 1 := by kernel_rfl
theorem isz132 : (Tryd.prog.info? 132).map (·.size) = some 1 := by kernel_rfl
theorem isz133 : (Tryd.prog.info? 133).map (·.size) = some 1 := by kernel_rfl
theorem isz134 : (Tryd.prog.info? 134).map (·.size) = some 1 := by kernel_rfl
theorem isz135 : (Tryd.prog.info? 135).map (·.size) = some 1 := by kernel_rfl
theorem isz136 : (Tryd.prog.info? 136).map (·.size) = some 32 := by kernel_rfl
theorem isz137 : (Tryd.prog.info? 137).map (·.size) = some 64 := by kernel_rfl
theorem isz138 : (Tryd.prog.info? 138).map (·.size) = some 4 := by kernel_rfl
theorem isz139 : (Tryd.prog.info? 139).map (·.size) = some 4 := by kernel_rfl
theorem isz143 : (Tryd.prog.info? 143).map (·.size) = some 1 := by kernel_rfl
theorem isz144 : (Tryd.prog.info? 144).map (·.size) = some 1 := by kernel_rfl
theorem isz145 : (Tryd.prog.info? 145).map (·.size) = some 1 := by kernel_rfl
theorem isz146 : (Tryd.prog.info? 146).map (·.size) = some 1 := by kernel_rfl
theorem isz147 : (Tryd.prog.info? 147).map (·.size) = some 1 := by kernel_rfl
theorem isz148 : (Tryd.prog.info? 148).map (·.size) = some 11 := by kernel_rfl
theorem isz149 : (Tryd.prog.info? 149).map (·.size) = some 11 := by kernel_rfl
instance : TSize Tryd.prog 0 1 := ⟨isz0⟩
instance : TOne Tryd.prog 0 := ⟨⟨_, Tryd.underlying0, rfl⟩, isz0⟩
instance : TSize Tryd.prog 1 1 := ⟨isz1⟩
instance : TOne Tryd.prog 1 := ⟨⟨_, Tryd.underlying1, rfl⟩, isz1⟩
instance : TZer Tryd.prog 1 [.nilFunc] := ⟨by kernel_rfl⟩
instance : TSize Tryd.prog 2 1 := ⟨isz2⟩
instance : TOne Tryd.prog 2 := ⟨⟨_, Tryd.underlying2, rfl⟩, isz2⟩
instance : TInt Tryd.prog 2 .i64 := ⟨Tryd.underlying2⟩
instance : TZer Tryd.prog 2 [.int .i64 0] := ⟨by kernel_rfl⟩
instance : TSize Tryd.prog 3 1 := ⟨isz3⟩
instance : TOne Tryd.prog 3 := ⟨⟨_, Tryd.underlying3, rfl⟩, isz3⟩
instance : TInt Tryd.prog 3 .i64 := ⟨Tryd.underlying3⟩
instance : TZer Tryd.prog 3 [.int .i64 0] := ⟨by kernel_rfl⟩
instance : TSize Tryd.prog 4 1 := ⟨isz4⟩
instance : TOne Tryd.prog 4 := ⟨⟨_, Tryd.underlying4, rfl⟩, isz4⟩
instance : TBool Tryd.prog 4 := ⟨Tryd.underlying4⟩
instance : TZer Tryd.prog 4 [.bool false] := ⟨by kernel_rfl⟩
instance : TSize Tryd.prog 5 1 := ⟨isz5⟩
instance : TOne Tryd.prog 5 := ⟨⟨_, Tryd.underlying5, rfl⟩, isz5⟩
instance : TInt Tryd.prog 5 .u8 := ⟨Tryd.underlying5⟩
instance : TZer Tryd.prog 5 [.int .u8 0] := ⟨by kernel_rfl⟩
instance : TSize Tryd.prog 6 1 := ⟨isz6⟩
instance : TOne Tryd.prog 6 := ⟨⟨_, Tryd.underlying6, rfl⟩, isz6⟩
instance : TInt Tryd.prog 6 .u8 := ⟨Tryd.underlying6⟩
instance : TZer Tryd.prog 6 [.int .u8 0] := ⟨by kernel_rfl⟩
instance : TSize Tryd.prog 7 4 := ⟨isz7⟩
instance : TRow Tryd.prog 7 4 := ⟨⟨_, Tryd.underlying7, rfl⟩, isz7⟩
instance : TZer Tryd.prog 7 [.int .i64 0, .int .i64 0, .bool false, .int .u8 0] := ⟨by kernel_rfl⟩
instance : TStruct Tryd.prog 7 [(0, 1), (1, 1), (2, 1), (3, 1)] := ⟨⟨_, Tryd.underlying7, by kernel_rfl⟩⟩
instance : TFld Tryd.prog 7 0 0 0 false := ⟨⟨_, _, _, Tryd.underlying7, rfl, rfl, Tryd.underlying2, rfl, isz2⟩⟩
instance : TFld Tryd.prog 7 1 1 0 false := ⟨⟨_, _, _, Tryd.underlying7, rfl, rfl, Tryd.underlying3, rfl, isz3⟩⟩
instance : TFld Tryd.prog 7 2 2 0 false := ⟨⟨_, _, _, Tryd.underlying7, rfl, rfl, Tryd.underlying4, rfl, isz4⟩⟩
instance : TFld Tryd.prog 7 3 3 0 false := ⟨⟨_, _, _, Tryd.underlying7, rfl, rfl, Tryd.underlying6, rfl, isz6⟩⟩
instance : TSize Tryd.prog 8 4 := ⟨isz8⟩
instance : TRow Tryd.prog 8 4 := ⟨⟨_, Tryd.underlying8, rfl⟩, isz8⟩
instance : TZer Tryd.prog 8 [.int .i64 0, .int .i64 0, .bool false, .int .u8 0] := ⟨by kernel_rfl⟩
instance : TStruct Tryd.prog 8 [(0, 1), (1, 1), (2, 1), (3, 1)] := ⟨⟨_, Tryd.underlying8, by kernel_rfl⟩⟩
instance : TFld Tryd.prog 8 0 0 0 false := ⟨⟨_, _, _, Tryd.underlying8, rfl, rfl, Tryd.underlying2, rfl, isz2⟩⟩
instance : TFld Tryd.prog 8 1 1 0 false := ⟨⟨_, _, _, Tryd.underlying8, rfl, rfl, Tryd.underlying3, rfl, isz3⟩⟩
instance : TFld Tryd.prog 8 2 2 0 false := ⟨⟨_, _, _, Tryd.underlying8, rfl, rfl, Tryd.underlying4, rfl, isz4⟩⟩
instance : TFld Tryd.prog 8 3 3 0 false := ⟨⟨_, _, _, Tryd.underlying8, rfl, rfl, Tryd.underlying6, rfl, isz6⟩⟩
instance : TSize Tryd.prog 9 1 := ⟨isz9⟩
instance : TOne Tryd.prog 9 := ⟨⟨_, Tryd.underlying9, rfl⟩, isz9⟩
instance : TStr Tryd.prog 9 := ⟨Tryd.underlying9⟩
instance : TZer Tryd.prog 9 [.string ⟨#[]⟩] := ⟨by kernel_rfl⟩
instance : TSize Tryd.prog 10 1 := ⟨isz10⟩
instance : TOne Tryd.prog 10 := ⟨⟨_, Tryd.underlying10, rfl⟩, isz10⟩
instance : TStr Tryd.prog 10 := ⟨Tryd.underlying10⟩
instance : TZer Tryd.prog 10 [.string ⟨#[]⟩] := ⟨by kernel_rfl⟩
instance : TSize Tryd.prog 11 1 := ⟨isz11⟩
instance : TOne Tryd.prog 11 := ⟨⟨_, Tryd.underlying11, rfl⟩, isz11⟩
instance : TStr Tryd.prog 11 := ⟨Tryd.underlying11⟩
instance : TZer Tryd.prog 11 [.string ⟨#[]⟩] := ⟨by kernel_rfl⟩
instance : TSize Tryd.prog 12 1 := ⟨isz12⟩
instance : TOne Tryd.prog 12 := ⟨⟨_, Tryd.underlying12, rfl⟩, isz12⟩
instance : TInt Tryd.prog 12 .u64 := ⟨Tryd.underlying12⟩
instance : TZer Tryd.prog 12 [.int .u64 0] := ⟨by kernel_rfl⟩
instance : TSize Tryd.prog 13 2 := ⟨isz13⟩
instance : TRow Tryd.prog 13 2 := ⟨⟨_, Tryd.underlying13, rfl⟩, isz13⟩
instance : TZer Tryd.prog 13 [.string ⟨#[]⟩, .int .u64 0] := ⟨by kernel_rfl⟩
instance : TStruct Tryd.prog 13 [(0, 1), (1, 1)] := ⟨⟨_, Tryd.underlying13, by kernel_rfl⟩⟩
instance : TFld Tryd.prog 13 0 0 0 false := ⟨⟨_, _, _, Tryd.underlying13, rfl, rfl, Tryd.underlying9, rfl, isz9⟩⟩
instance : TFld Tryd.prog 13 1 1 0 false := ⟨⟨_, _, _, Tryd.underlying13, rfl, rfl, Tryd.underlying12, rfl, isz12⟩⟩
instance : TSize Tryd.prog 14 2 := ⟨isz14⟩
instance : TRow Tryd.prog 14 2 := ⟨⟨_, Tryd.underlying14, rfl⟩, isz14⟩
instance : TZer Tryd.prog 14 [.string ⟨#[]⟩, .int .u64 0] := ⟨by kernel_rfl⟩
instance : TStruct Tryd.prog 14 [(0, 1), (1, 1)] := ⟨⟨_, Tryd.underlying14, by kernel_rfl⟩⟩
instance : TFld Tryd.prog 14 0 0 0 false := ⟨⟨_, _, _, Tryd.underlying14, rfl, rfl, Tryd.underlying9, rfl, isz9⟩⟩
instance : TFld Tryd.prog 14 1 1 0 false := ⟨⟨_, _, _, Tryd.underlying14, rfl, rfl, Tryd.underlying12, rfl, isz12⟩⟩
instance : TSize Tryd.prog 15 1 := ⟨isz15⟩
instance : TOne Tryd.prog 15 := ⟨⟨_, Tryd.underlying15, rfl⟩, isz15⟩
instance : TZer Tryd.prog 15 [.pointer none] := ⟨by kernel_rfl⟩
instance : TSize Tryd.prog 16 1 := ⟨isz16⟩
instance : TOne Tryd.prog 16 := ⟨⟨_, Tryd.underlying16, rfl⟩, isz16⟩
instance : TZer Tryd.prog 16 [.pointer none] := ⟨by kernel_rfl⟩
instance : TSize Tryd.prog 17 1 := ⟨isz17⟩
instance : TOne Tryd.prog 17 := ⟨⟨_, Tryd.underlying17, rfl⟩, isz17⟩
instance : TZer Tryd.prog 17 [.pointer none] := ⟨by kernel_rfl⟩
instance : TSize Tryd.prog 18 1 := ⟨isz18⟩
instance : TRow Tryd.prog 18 1 := ⟨⟨_, Tryd.underlying18, rfl⟩, isz18⟩
instance : TZer Tryd.prog 18 [.pointer none] := ⟨by kernel_rfl⟩
instance : TStruct Tryd.prog 18 [(0, 1)] := ⟨⟨_, Tryd.underlying18, by kernel_rfl⟩⟩
instance : TFld Tryd.prog 18 0 0 0 false := ⟨⟨_, _, _, Tryd.underlying18, rfl, rfl, Tryd.underlying17, rfl, isz17⟩⟩
instance : TSize Tryd.prog 19 1 := ⟨isz19⟩
instance : TRow Tryd.prog 19 1 := ⟨⟨_, Tryd.underlying19, rfl⟩, isz19⟩
instance : TZer Tryd.prog 19 [.pointer none] := ⟨by kernel_rfl⟩
instance : TStruct Tryd.prog 19 [(0, 1)] := ⟨⟨_, Tryd.underlying19, by kernel_rfl⟩⟩
instance : TFld Tryd.prog 19 0 0 0 false := ⟨⟨_, _, _, Tryd.underlying19, rfl, rfl, Tryd.underlying17, rfl, isz17⟩⟩
instance : TSize Tryd.prog 20 1 := ⟨isz20⟩
instance : TOne Tryd.prog 20 := ⟨⟨_, Tryd.underlying20, rfl⟩, isz20⟩
instance : TIfc Tryd.prog 20 := ⟨_, Tryd.underlying20⟩
instance : TZer Tryd.prog 20 [.nilIface] := ⟨by kernel_rfl⟩
instance : TSize Tryd.prog 21 1 := ⟨isz21⟩
instance : TOne Tryd.prog 21 := ⟨⟨_, Tryd.underlying21, rfl⟩, isz21⟩
instance : TInt Tryd.prog 21 .i32 := ⟨Tryd.underlying21⟩
instance : TZer Tryd.prog 21 [.int .i32 0] := ⟨by kernel_rfl⟩
instance : TSize Tryd.prog 22 1 := ⟨isz22⟩
instance : TOne Tryd.prog 22 := ⟨⟨_, Tryd.underlying22, rfl⟩, isz22⟩
instance : TSlice Tryd.prog 22 5 := ⟨Tryd.underlying22⟩
instance : TZer Tryd.prog 22 [.slice none 0 0] := ⟨by kernel_rfl⟩
instance : TSize Tryd.prog 23 3 := ⟨isz23⟩
instance : TRow Tryd.prog 23 3 := ⟨⟨_, Tryd.underlying23, rfl⟩, isz23⟩
instance : TZer Tryd.prog 23 [.int .i64 0, .string ⟨#[]⟩, .int .i64 0] := ⟨by kernel_rfl⟩
instance : TStruct Tryd.prog 23 [(0, 1), (1, 1), (2, 1)] := ⟨⟨_, Tryd.underlying23, by kernel_rfl⟩⟩
instance : TFld Tryd.prog 23 0 0 0 false := ⟨⟨_, _, _, Tryd.underlying23, rfl, rfl, Tryd.underlying3, rfl, isz3⟩⟩
instance : TFld Tryd.prog 23 1 1 0 false := ⟨⟨_, _, _, Tryd.underlying23, rfl, rfl, Tryd.underlying9, rfl, isz9⟩⟩
instance : TFld Tryd.prog 23 2 2 0 false := ⟨⟨_, _, _, Tryd.underlying23, rfl, rfl, Tryd.underlying3, rfl, isz3⟩⟩
instance : TSize Tryd.prog 24 3 := ⟨isz24⟩
instance : TRow Tryd.prog 24 3 := ⟨⟨_, Tryd.underlying24, rfl⟩, isz24⟩
instance : TZer Tryd.prog 24 [.int .i64 0, .string ⟨#[]⟩, .int .i64 0] := ⟨by kernel_rfl⟩
instance : TStruct Tryd.prog 24 [(0, 1), (1, 1), (2, 1)] := ⟨⟨_, Tryd.underlying24, by kernel_rfl⟩⟩
instance : TFld Tryd.prog 24 0 0 0 false := ⟨⟨_, _, _, Tryd.underlying24, rfl, rfl, Tryd.underlying3, rfl, isz3⟩⟩
instance : TFld Tryd.prog 24 1 1 0 false := ⟨⟨_, _, _, Tryd.underlying24, rfl, rfl, Tryd.underlying9, rfl, isz9⟩⟩
instance : TFld Tryd.prog 24 2 2 0 false := ⟨⟨_, _, _, Tryd.underlying24, rfl, rfl, Tryd.underlying3, rfl, isz3⟩⟩
instance : TSize Tryd.prog 25 1 := ⟨isz25⟩
instance : TOne Tryd.prog 25 := ⟨⟨_, Tryd.underlying25, rfl⟩, isz25⟩
instance : TInt Tryd.prog 25 .i64 := ⟨Tryd.underlying25⟩
instance : TZer Tryd.prog 25 [.int .i64 0] := ⟨by kernel_rfl⟩
instance : TSize Tryd.prog 26 1 := ⟨isz26⟩
instance : TOne Tryd.prog 26 := ⟨⟨_, Tryd.underlying26, rfl⟩, isz26⟩
instance : TSize Tryd.prog 27 1 := ⟨isz27⟩
instance : TOne Tryd.prog 27 := ⟨⟨_, Tryd.underlying27, rfl⟩, isz27⟩
instance : TZer Tryd.prog 27 [.nilFunc] := ⟨by kernel_rfl⟩
instance : TSize Tryd.prog 28 1 := ⟨isz28⟩
instance : TOne Tryd.prog 28 := ⟨⟨_, Tryd.underlying28, rfl⟩, isz28⟩
instance : TZer Tryd.prog 28 [.nilFunc] := ⟨by kernel_rfl⟩
instance : TSize Tryd.prog 29 1 := ⟨isz29⟩
instance : TOne Tryd.prog 29 := ⟨⟨_, Tryd.underlying29, rfl⟩, isz29⟩
instance : TSize Tryd.prog 30 1 := ⟨isz30⟩
instance : TOne Tryd.prog 30 := ⟨⟨_, Tryd.underlying30, rfl⟩, isz30⟩
instance : TZer Tryd.prog 30 [.nilFunc] := ⟨by kernel_rfl⟩
instance : TSize Tryd.prog 31 1 := ⟨isz31⟩
instance : TOne Tryd.prog 31 := ⟨⟨_, Tryd.underlying31, rfl⟩, isz31⟩
instance : TZer Tryd.prog 31 [.nilFunc] := ⟨by kernel_rfl⟩
instance : TSize Tryd.prog 32 1 := ⟨isz32⟩
instance : TOne Tryd.prog 32 := ⟨⟨_, Tryd.underlying32, rfl⟩, isz32⟩
instance : TZer Tryd.prog 32 [.nilFunc] := ⟨by kernel_rfl⟩
instance : TSize Tryd.prog 33 1 := ⟨isz33⟩
instance : TOne Tryd.prog 33 := ⟨⟨_, Tryd.underlying33, rfl⟩, isz33⟩
instance : TZer Tryd.prog 33 [.nilFunc] := ⟨by kernel_rfl⟩
instance : TSize Tryd.prog 34 1 := ⟨isz34⟩
instance : TOne Tryd.prog 34 := ⟨⟨_, Tryd.underlying34, rfl⟩, isz34⟩
instance : TZer Tryd.prog 34 [.nilFunc] := ⟨by kernel_rfl⟩
instance : TSize Tryd.prog 35 1 := ⟨isz35⟩
instance : TOne Tryd.prog 35 := ⟨⟨_, Tryd.underlying35, rfl⟩, isz35⟩
instance : TZer Tryd.prog 35 [.nilFunc] := ⟨by kernel_rfl⟩
instance : TSize Tryd.prog 36 1 := ⟨isz36⟩
instance : TOne Tryd.prog 36 := ⟨⟨_, Tryd.underlying36, rfl⟩, isz36⟩
instance : TSize Tryd.prog 37 1 := ⟨isz37⟩
instance : TOne Tryd.prog 37 := ⟨⟨_, Tryd.underlying37, rfl⟩, isz37⟩
instance : TZer Tryd.prog 37 [.nilFunc] := ⟨by kernel_rfl⟩
instance : TSize Tryd.prog 38 2 := ⟨isz38⟩
instance : TRow Tryd.prog 38 2 := ⟨⟨_, Tryd.underlying38, rfl⟩, isz38⟩
instance : TZer Tryd.prog 38 [.int .i64 0, .int .i64 0] := ⟨by kernel_rfl⟩
instance : TStruct Tryd.prog 38 [(0, 1), (1, 1)] := ⟨⟨_, Tryd.underlying38, by kernel_rfl⟩⟩
instance : TFld Tryd.prog 38 0 0 0 false := ⟨⟨_, _, _, Tryd.underlying38, rfl, rfl, Tryd.underlying3, rfl, isz3⟩⟩
instance : TFld Tryd.prog 38 1 1 0 false := ⟨⟨_, _, _, Tryd.underlying38, rfl, rfl, Tryd.underlying3, rfl, isz3⟩⟩
instance : TSize Tryd.prog 39 2 := ⟨isz39⟩
instance : TRow Tryd.prog 39 2 := ⟨⟨_, Tryd.underlying39, rfl⟩, isz39⟩
instance : TZer Tryd.prog 39 [.int .i64 0, .int .i64 0] := ⟨by kernel_rfl⟩
instance : TStruct Tryd.prog 39 [(0, 1), (1, 1)] := ⟨⟨_, Tryd.underlying39, by kernel_rfl⟩⟩
instance : TFld Tryd.prog 39 0 0 0 false := ⟨⟨_, _, _, Tryd.underlying39, rfl, rfl, Tryd.underlying3, rfl, isz3⟩⟩
instance : TFld Tryd.prog 39 1 1 0 false := ⟨⟨_, _, _, Tryd.underlying39, rfl, rfl, Tryd.underlying3, rfl, isz3⟩⟩
instance : TSize Tryd.prog 40 1 := ⟨isz40⟩
instance : TOne Tryd.prog 40 := ⟨⟨_, Tryd.underlying40, rfl⟩, isz40⟩
instance : TSlice Tryd.prog 40 9 := ⟨Tryd.underlying40⟩
instance : TZer Tryd.prog 40 [.slice none 0 0] := ⟨by kernel_rfl⟩
instance : TSize Tryd.prog 41 1 := ⟨isz41⟩
instance : TOne Tryd.prog 41 := ⟨⟨_, Tryd.underlying41, rfl⟩, isz41⟩
instance : TSize Tryd.prog 42 1 := ⟨isz42⟩
instance : TOne Tryd.prog 42 := ⟨⟨_, Tryd.underlying42, rfl⟩, isz42⟩
instance : TZer Tryd.prog 42 [.nilFunc] := ⟨by kernel_rfl⟩
instance : TSize Tryd.prog 43 1 := ⟨isz43⟩
instance : TOne Tryd.prog 43 := ⟨⟨_, Tryd.underlying43, rfl⟩, isz43⟩
instance : TZer Tryd.prog 43 [.nilFunc] := ⟨by kernel_rfl⟩
instance : TSize Tryd.prog 44 1 := ⟨isz44⟩
instance : TOne Tryd.prog 44 := ⟨⟨_, Tryd.underlying44, rfl⟩, isz44⟩
instance : TSize Tryd.prog 45 1 := ⟨isz45⟩
instance : TOne Tryd.prog 45 := ⟨⟨_, Tryd.underlying45, rfl⟩, isz45⟩
instance : TZer Tryd.prog 45 [.nilFunc] := ⟨by kernel_rfl⟩
instance : TSize Tryd.prog 46 1 := ⟨isz46⟩
instance : TOne Tryd.prog 46 := ⟨⟨_, Tryd.underlying46, rfl⟩, isz46⟩
instance : TZer Tryd.prog 46 [.nilFunc] := ⟨by kernel_rfl⟩
instance : TSize Tryd.prog 47 1 := ⟨isz47⟩
instance : TOne Tryd.prog 47 := ⟨⟨_, Tryd.underlying47, rfl⟩, isz47⟩
instance : TZer Tryd.prog 47 [.nilFunc] := ⟨by kernel_rfl⟩
instance : TSize Tryd.prog 48 1 := ⟨isz48⟩
instance : TOne Tryd.prog 48 := ⟨⟨_, Tryd.underlying48, rfl⟩, isz48⟩
instance : TZer Tryd.prog 48 [.nilFunc] := ⟨by kernel_rfl⟩
instance : TSize Tryd.prog 49 1 := ⟨isz49⟩
instance : TOne Tryd.prog 49 := ⟨⟨_, Tryd.underlying49, rfl⟩, isz49⟩
instance : TZer Tryd.prog 49 [.nilFunc] := ⟨by kernel_rfl⟩
instance : TSize Tryd.prog 50 1 := ⟨isz50⟩
instance : TOne Tryd.prog 50 := ⟨⟨_, Tryd.underlying50, rfl⟩, isz50⟩
instance : TZer Tryd.prog 50 [.nilFunc] := ⟨by kernel_rfl⟩
instance : TSize Tryd.prog 51 1 := ⟨isz51⟩
instance : TOne Tryd.prog 51 := ⟨⟨_, Tryd.underlying51, rfl⟩, isz51⟩
instance : TZer Tryd.prog 51 [.nilFunc] := ⟨by kernel_rfl⟩
instance : TSize Tryd.prog 52 1 := ⟨isz52⟩
instance : TOne Tryd.prog 52 := ⟨⟨_, Tryd.underlying52, rfl⟩, isz52⟩
instance : TZer Tryd.prog 52 [.nilFunc] := ⟨by kernel_rfl⟩
instance : TSize Tryd.prog 53 1 := ⟨isz53⟩
instance : TOne Tryd.prog 53 := ⟨⟨_, Tryd.underlying53, rfl⟩, isz53⟩
instance : TZer Tryd.prog 53 [.nilFunc] := ⟨by kernel_rfl⟩
instance : TSize Tryd.prog 54 1 := ⟨isz54⟩
instance : TOne Tryd.prog 54 := ⟨⟨_, Tryd.underlying54, rfl⟩, isz54⟩
instance : TZer Tryd.prog 54 [.nilFunc] := ⟨by kernel_rfl⟩
instance : TSize Tryd.prog 55 1 := ⟨isz55⟩
instance : TOne Tryd.prog 55 := ⟨⟨_, Tryd.underlying55, rfl⟩, isz55⟩
instance : TIfc Tryd.prog 55 := ⟨_, Tryd.underlying55⟩
instance : TZer Tryd.prog 55 [.nilIface] := ⟨by kernel_rfl⟩
instance : TSize Tryd.prog 56 1 := ⟨isz56⟩
instance : TOne Tryd.prog 56 := ⟨⟨_, Tryd.underlying56, rfl⟩, isz56⟩
instance : TIfc Tryd.prog 56 := ⟨_, Tryd.underlying56⟩
instance : TZer Tryd.prog 56 [.nilIface] := ⟨by kernel_rfl⟩
instance : TSize Tryd.prog 57 1 := ⟨isz57⟩
instance : TOne Tryd.prog 57 := ⟨⟨_, Tryd.underlying57, rfl⟩, isz57⟩
instance : TSize Tryd.prog 58 1 := ⟨isz58⟩
instance : TOne Tryd.prog 58 := ⟨⟨_, Tryd.underlying58, rfl⟩, isz58⟩
instance : TZer Tryd.prog 58 [.nilFunc] := ⟨by kernel_rfl⟩
instance : TSize Tryd.prog 59 1 := ⟨isz59⟩
instance : TOne Tryd.prog 59 := ⟨⟨_, Tryd.underlying59, rfl⟩, isz59⟩
instance : TInt Tryd.prog 59 .u64 := ⟨Tryd.underlying59⟩
instance : TZer Tryd.prog 59 [.int .u64 0] := ⟨by kernel_rfl⟩
instance : TSize Tryd.prog 60 1 := ⟨isz60⟩
instance : TOne Tryd.prog 60 := ⟨⟨_, Tryd.underlying60, rfl⟩, isz60⟩
instance : TZer Tryd.prog 60 [.nilFunc] := ⟨by kernel_rfl⟩
instance : TSize Tryd.prog 61 1 := ⟨isz61⟩
instance : TOne Tryd.prog 61 := ⟨⟨_, Tryd.underlying61, rfl⟩, isz61⟩
instance : TZer Tryd.prog 61 [.nilFunc] := ⟨by kernel_rfl⟩
instance : TSize Tryd.prog 62 1 := ⟨isz62⟩
instance : TOne Tryd.prog 62 := ⟨⟨_, Tryd.underlying62, rfl⟩, isz62⟩
instance : TSlice Tryd.prog 62 22 := ⟨Tryd.underlying62⟩
instance : TZer Tryd.prog 62 [.slice none 0 0] := ⟨by kernel_rfl⟩
instance : TSize Tryd.prog 63 1 := ⟨isz63⟩
instance : TOne Tryd.prog 63 := ⟨⟨_, Tryd.underlying63, rfl⟩, isz63⟩
instance : TZer Tryd.prog 63 [.nilFunc] := ⟨by kernel_rfl⟩
instance : TSize Tryd.prog 64 1 := ⟨isz64⟩
instance : TOne Tryd.prog 64 := ⟨⟨_, Tryd.underlying64, rfl⟩, isz64⟩
instance : TZer Tryd.prog 64 [.nilFunc] := ⟨by kernel_rfl⟩
instance : TSize Tryd.prog 65 1 := ⟨isz65⟩
instance : TOne Tryd.prog 65 := ⟨⟨_, Tryd.underlying65, rfl⟩, isz65⟩
instance : TZer Tryd.prog 65 [.nilFunc] := ⟨by kernel_rfl⟩
instance : TSize Tryd.prog 66 256 := ⟨isz66⟩
instance : TRow Tryd.prog 66 256 := ⟨⟨_, Tryd.underlying66, rfl⟩, isz66⟩
instance : TSize Tryd.prog 67 256 := ⟨isz67⟩
instance : TRow Tryd.prog 67 256 := ⟨⟨_, Tryd.underlying67, rfl⟩, isz67⟩
instance : TSize Tryd.prog 68 1 := ⟨isz68⟩
instance : TOne Tryd.prog 68 := ⟨⟨_, Tryd.underlying68, rfl⟩, isz68⟩
instance : TSize Tryd.prog 69 1 := ⟨isz69⟩
instance : TOne Tryd.prog 69 := ⟨⟨_, Tryd.underlying69, rfl⟩, isz69⟩
instance : TZer Tryd.prog 69 [.nilFunc] := ⟨by kernel_rfl⟩
instance : TSize Tryd.prog 70 1 := ⟨isz70⟩
instance : TOne Tryd.prog 70 := ⟨⟨_, Tryd.underlying70, rfl⟩, isz70⟩
instance : TZer Tryd.prog 70 [.nilFunc] := ⟨by kernel_rfl⟩
instance : TSize Tryd.prog 71 1 := ⟨isz71⟩
instance : TOne Tryd.prog 71 := ⟨⟨_, Tryd.underlying71, rfl⟩, isz71⟩
instance : TZer Tryd.prog 71 [.pointer none] := ⟨by kernel_rfl⟩
instance : TSize Tryd.prog 72 1 := ⟨isz72⟩
instance : TOne Tryd.prog 72 := ⟨⟨_, Tryd.underlying72, rfl⟩, isz72⟩
instance : TZer Tryd.prog 72 [.nilFunc] := ⟨by kernel_rfl⟩
instance : TSize Tryd.prog 73 1 := ⟨isz73⟩
instance : TOne Tryd.prog 73 := ⟨⟨_, Tryd.underlying73, rfl⟩, isz73⟩
instance : TZer Tryd.prog 73 [.nilFunc] := ⟨by kernel_rfl⟩
instance : TSize Tryd.prog 74 1 := ⟨isz74⟩
instance : TOne Tryd.prog 74 := ⟨⟨_, Tryd.underlying74, rfl⟩, isz74⟩
instance : TZer Tryd.prog 74 [.nilFunc] := ⟨by kernel_rfl⟩
instance : TSize Tryd.prog 75 1 := ⟨isz75⟩
instance : TOne Tryd.prog 75 := ⟨⟨_, Tryd.underlying75, rfl⟩, isz75⟩
instance : TInt Tryd.prog 75 .u64 := ⟨Tryd.underlying75⟩
instance : TZer Tryd.prog 75 [.int .u64 0] := ⟨by kernel_rfl⟩
instance : TSize Tryd.prog 76 1 := ⟨isz76⟩
instance : TOne Tryd.prog 76 := ⟨⟨_, Tryd.underlying76, rfl⟩, isz76⟩
instance : TSize Tryd.prog 77 1 := ⟨isz77⟩
instance : TOne Tryd.prog 77 := ⟨⟨_, Tryd.underlying77, rfl⟩, isz77⟩
instance : TZer Tryd.prog 77 [.nilFunc] := ⟨by kernel_rfl⟩
instance : TSize Tryd.prog 78 1 := ⟨isz78⟩
instance : TOne Tryd.prog 78 := ⟨⟨_, Tryd.underlying78, rfl⟩, isz78⟩
instance : TZer Tryd.prog 78 [.nilFunc] := ⟨by kernel_rfl⟩
instance : TSize Tryd.prog 79 1 := ⟨isz79⟩
instance : TOne Tryd.prog 79 := ⟨⟨_, Tryd.underlying79, rfl⟩, isz79⟩
instance : TZer Tryd.prog 79 [.pointer none] := ⟨by kernel_rfl⟩
instance : TSize Tryd.prog 80 2 := ⟨isz80⟩
instance : TRow Tryd.prog 80 2 := ⟨⟨_, Tryd.underlying80, rfl⟩, isz80⟩
instance : TZer Tryd.prog 80 [.pointer none, .slice none 0 0] := ⟨by kernel_rfl⟩
instance : TStruct Tryd.prog 80 [(0, 1), (1, 1)] := ⟨⟨_, Tryd.underlying80, by kernel_rfl⟩⟩
instance : TFld Tryd.prog 80 0 0 0 false := ⟨⟨_, _, _, Tryd.underlying80, rfl, rfl, Tryd.underlying79, rfl, isz79⟩⟩
instance : TFld Tryd.prog 80 1 1 0 false := ⟨⟨_, _, _, Tryd.underlying80, rfl, rfl, Tryd.underlying22, rfl, isz22⟩⟩
instance : TSize Tryd.prog 81 2 := ⟨isz81⟩
instance : TRow Tryd.prog 81 2 := ⟨⟨_, Tryd.underlying81, rfl⟩, isz81⟩
instance : TZer Tryd.prog 81 [.pointer none, .slice none 0 0] := ⟨by kernel_rfl⟩
instance : TStruct Tryd.prog 81 [(0, 1), (1, 1)] := ⟨⟨_, Tryd.underlying81, by kernel_rfl⟩⟩
instance : TFld Tryd.prog 81 0 0 0 false := ⟨⟨_, _, _, Tryd.underlying81, rfl, rfl, Tryd.underlying79, rfl, isz79⟩⟩
instance : TFld Tryd.prog 81 1 1 0 false := ⟨⟨_, _, _, Tryd.underlying81, rfl, rfl, Tryd.underlying22, rfl, isz22⟩⟩
instance : TSize Tryd.prog 82 1 := ⟨isz82⟩
instance : TOne Tryd.prog 82 := ⟨⟨_, Tryd.underlying82, rfl⟩, isz82⟩
instance : TZer Tryd.prog 82 [.nilFunc] := ⟨by kernel_rfl⟩
instance : TSize Tryd.prog 83 1 := ⟨isz83⟩
instance : TOne Tryd.prog 83 := ⟨⟨_, Tryd.underlying83, rfl⟩, isz83⟩
instance : TZer Tryd.prog 83 [.nilFunc] := ⟨by kernel_rfl⟩
instance : TSize Tryd.prog 84 1 := ⟨isz84⟩
instance : TOne Tryd.prog 84 := ⟨⟨_, Tryd.underlying84, rfl⟩, isz84⟩
instance : TZer Tryd.prog 84 [.nilFunc] := ⟨by kernel_rfl⟩
instance : TSize Tryd.prog 85 1 := ⟨isz85⟩
instance : TOne Tryd.prog 85 := ⟨⟨_, Tryd.underlying85, rfl⟩, isz85⟩
instance : TZer Tryd.prog 85 [.nilFunc] := ⟨by kernel_rfl⟩
instance : TSize Tryd.prog 86 1 := ⟨isz86⟩
instance : TOne Tryd.prog 86 := ⟨⟨_, Tryd.underlying86, rfl⟩, isz86⟩
instance : TZer Tryd.prog 86 [.nilFunc] := ⟨by kernel_rfl⟩
instance : TSize Tryd.prog 87 1 := ⟨isz87⟩
instance : TOne Tryd.prog 87 := ⟨⟨_, Tryd.underlying87, rfl⟩, isz87⟩
instance : TZer Tryd.prog 87 [.nilFunc] := ⟨by kernel_rfl⟩
instance : TSize Tryd.prog 88 1 := ⟨isz88⟩
instance : TOne Tryd.prog 88 := ⟨⟨_, Tryd.underlying88, rfl⟩, isz88⟩
instance : TSize Tryd.prog 89 1 := ⟨isz89⟩
instance : TOne Tryd.prog 89 := ⟨⟨_, Tryd.underlying89, rfl⟩, isz89⟩
instance : TZer Tryd.prog 89 [.nilFunc] := ⟨by kernel_rfl⟩
instance : TSize Tryd.prog 90 1 := ⟨isz90⟩
instance : TOne Tryd.prog 90 := ⟨⟨_, Tryd.underlying90, rfl⟩, isz90⟩
instance : TZer Tryd.prog 90 [.nilFunc] := ⟨by kernel_rfl⟩
instance : TSize Tryd.prog 91 1 := ⟨isz91⟩
instance : TOne Tryd.prog 91 := ⟨⟨_, Tryd.underlying91, rfl⟩, isz91⟩
instance : TInt Tryd.prog 91 .i64 := ⟨Tryd.underlying91⟩
instance : TZer Tryd.prog 91 [.int .i64 0] := ⟨by kernel_rfl⟩
instance : TSize Tryd.prog 92 1 := ⟨isz92⟩
instance : TOne Tryd.prog 92 := ⟨⟨_, Tryd.underlying92, rfl⟩, isz92⟩
instance : TSize Tryd.prog 93 1 := ⟨isz93⟩
instance : TOne Tryd.prog 93 := ⟨⟨_, Tryd.underlying93, rfl⟩, isz93⟩
instance : TZer Tryd.prog 93 [.nilFunc] := ⟨by kernel_rfl⟩
instance : TSize Tryd.prog 94 1 := ⟨isz94⟩
instance : TOne Tryd.prog 94 := ⟨⟨_, Tryd.underlying94, rfl⟩, isz94⟩
instance : TZer Tryd.prog 94 [.pointer none] := ⟨by kernel_rfl⟩
instance : TSize Tryd.prog 95 1 := ⟨isz95⟩
instance : TOne Tryd.prog 95 := ⟨⟨_, Tryd.underlying95, rfl⟩, isz95⟩
instance : TZer Tryd.prog 95 [.nilFunc] := ⟨by kernel_rfl⟩
instance : TSize Tryd.prog 96 1 := ⟨isz96⟩
instance : TOne Tryd.prog 96 := ⟨⟨_, Tryd.underlying96, rfl⟩, isz96⟩
instance : TZer Tryd.prog 96 [.nilFunc] := ⟨by kernel_rfl⟩
instance : TSize Tryd.prog 97 24 := ⟨isz97⟩
instance : TRow Tryd.prog 97 24 := ⟨⟨_, Tryd.underlying97, rfl⟩, isz97⟩
instance : TSize Tryd.prog 98 1 := ⟨isz98⟩
instance : TOne Tryd.prog 98 := ⟨⟨_, Tryd.underlying98, rfl⟩, isz98⟩
instance : TZer Tryd.prog 98 [.nilFunc] := ⟨by kernel_rfl⟩
instance : TSize Tryd.prog 99 1 := ⟨isz99⟩
instance : TOne Tryd.prog 99 := ⟨⟨_, Tryd.underlying99, rfl⟩, isz99⟩
instance : TZer Tryd.prog 99 [.nilFunc] := ⟨by kernel_rfl⟩
instance : TSize Tryd.prog 100 1 := ⟨isz100⟩
instance : TOne Tryd.prog 100 := ⟨⟨_, Tryd.underlying100, rfl⟩, isz100⟩
instance : TSize Tryd.prog 101 1 := ⟨isz101⟩
instance : TOne Tryd.prog 101 := ⟨⟨_, Tryd.underlying101, rfl⟩, isz101⟩
instance : TZer Tryd.prog 101 [.nilFunc] := ⟨by kernel_rfl⟩
instance : TSize Tryd.prog 102 1 := ⟨isz102⟩
instance : TOne Tryd.prog 102 := ⟨⟨_, Tryd.underlying102, rfl⟩, isz102⟩
instance : TInt Tryd.prog 102 .u32 := ⟨Tryd.underlying102⟩
instance : TZer Tryd.prog 102 [.int .u32 0] := ⟨by kernel_rfl⟩
instance : TSize Tryd.prog 103 1 := ⟨isz103⟩
instance : TOne Tryd.prog 103 := ⟨⟨_, Tryd.underlying103, rfl⟩, isz103⟩
instance : TSize Tryd.prog 104 1 := ⟨isz104⟩
instance : TOne Tryd.prog 104 := ⟨⟨_, Tryd.underlying104, rfl⟩, isz104⟩
instance : TZer Tryd.prog 104 [.nilFunc] := ⟨by kernel_rfl⟩
instance : TSize Tryd.prog 105 1 := ⟨isz105⟩
instance : TOne Tryd.prog 105 := ⟨⟨_, Tryd.underlying105, rfl⟩, isz105⟩
instance : TSize Tryd.prog 106 1 := ⟨isz106⟩
instance : TOne Tryd.prog 106 := ⟨⟨_, Tryd.underlying106, rfl⟩, isz106⟩
instance : TZer Tryd.prog 106 [.nilFunc] := ⟨by kernel_rfl⟩
instance : TSize Tryd.prog 107 1 := ⟨isz107⟩
instance : TOne Tryd.prog 107 := ⟨⟨_, Tryd.underlying107, rfl⟩, isz107⟩
instance : TZer Tryd.prog 107 [.pointer none] := ⟨by kernel_rfl⟩
instance : TSize Tryd.prog 108 1 := ⟨isz108⟩
instance : TOne Tryd.prog 108 := ⟨⟨_, Tryd.underlying108, rfl⟩, isz108⟩
instance : TZer Tryd.prog 108 [.nilFunc] := ⟨by kernel_rfl⟩
instance : TSize Tryd.prog 109 1 := ⟨isz109⟩
instance : TOne Tryd.prog 109 := ⟨⟨_, Tryd.underlying109, rfl⟩, isz109⟩
instance : TZer Tryd.prog 109 [.nilFunc] := ⟨by kernel_rfl⟩
instance : TSize Tryd.prog 110 1 := ⟨isz110⟩
instance : TOne Tryd.prog 110 := ⟨⟨_, Tryd.underlying110, rfl⟩, isz110⟩
instance : TZer Tryd.prog 110 [.nilFunc] := ⟨by kernel_rfl⟩
instance : TSize Tryd.prog 111 1 := ⟨isz111⟩
instance : TOne Tryd.prog 111 := ⟨⟨_, Tryd.underlying111, rfl⟩, isz111⟩
instance : TSize Tryd.prog 112 1 := ⟨isz112⟩
instance : TOne Tryd.prog 112 := ⟨⟨_, Tryd.underlying112, rfl⟩, isz112⟩
instance : TZer Tryd.prog 112 [.nilFunc] := ⟨by kernel_rfl⟩
instance : TSize Tryd.prog 113 1 := ⟨isz113⟩
instance : TOne Tryd.prog 113 := ⟨⟨_, Tryd.underlying113, rfl⟩, isz113⟩
instance : TZer Tryd.prog 113 [.nilFunc] := ⟨by kernel_rfl⟩
instance : TSize Tryd.prog 114 3 := ⟨isz114⟩
instance : TRow Tryd.prog 114 3 := ⟨⟨_, Tryd.underlying114, rfl⟩, isz114⟩
instance : TZer Tryd.prog 114 [.string ⟨#[]⟩, .string ⟨#[]⟩, .nilIface] := ⟨by kernel_rfl⟩
instance : TStruct Tryd.prog 114 [(0, 1), (1, 1), (2, 1)] := ⟨⟨_, Tryd.underlying114, by kernel_rfl⟩⟩
instance : TFld Tryd.prog 114 0 0 0 false := ⟨⟨_, _, _, Tryd.underlying114, rfl, rfl, Tryd.underlying9, rfl, isz9⟩⟩
instance : TFld Tryd.prog 114 1 1 0 false := ⟨⟨_, _, _, Tryd.underlying114, rfl, rfl, Tryd.underlying9, rfl, isz9⟩⟩
instance : TFld Tryd.prog 114 2 2 0 false := ⟨⟨_, _, _, Tryd.underlying114, rfl, rfl, Tryd.underlying56, rfl, isz56⟩⟩
instance : TSize Tryd.prog 115 3 := ⟨isz115⟩
instance : TRow Tryd.prog 115 3 := ⟨⟨_, Tryd.underlying115, rfl⟩, isz115⟩
instance : TZer Tryd.prog 115 [.string ⟨#[]⟩, .string ⟨#[]⟩, .nilIface] := ⟨by kernel_rfl⟩
instance : TStruct Tryd.prog 115 [(0, 1), (1, 1), (2, 1)] := ⟨⟨_, Tryd.underlying115, by kernel_rfl⟩⟩
instance : TFld Tryd.prog 115 0 0 0 false := ⟨⟨_, _, _, Tryd.underlying115, rfl, rfl, Tryd.underlying9, rfl, isz9⟩⟩
instance : TFld Tryd.prog 115 1 1 0 false := ⟨⟨_, _, _, Tryd.underlying115, rfl, rfl, Tryd.underlying9, rfl, isz9⟩⟩
instance : TFld Tryd.prog 115 2 2 0 false := ⟨⟨_, _, _, Tryd.underlying115, rfl, rfl, Tryd.underlying56, rfl, isz56⟩⟩
instance : TSize Tryd.prog 116 1 := ⟨isz116⟩
instance : TOne Tryd.prog 116 := ⟨⟨_, Tryd.underlying116, rfl⟩, isz116⟩
instance : TZer Tryd.prog 116 [.nilFunc] := ⟨by kernel_rfl⟩
instance : TSize Tryd.prog 117 1 := ⟨isz117⟩
instance : TOne Tryd.prog 117 := ⟨⟨_, Tryd.underlying117, rfl⟩, isz117⟩
instance : TZer Tryd.prog 117 [.nilFunc] := ⟨by kernel_rfl⟩
instance : TSize Tryd.prog 118 1 := ⟨isz118⟩
instance : TOne Tryd.prog 118 := ⟨⟨_, Tryd.underlying118, rfl⟩, isz118⟩
instance : TZer Tryd.prog 118 [.nilFunc] := ⟨by kernel_rfl⟩
instance : TSize Tryd.prog 119 20 := ⟨isz119⟩
instance : TRow Tryd.prog 119 20 := ⟨⟨_, Tryd.underlying119, rfl⟩, isz119⟩
instance : TSize Tryd.prog 120 65 := ⟨isz120⟩
instance : TRow Tryd.prog 120 65 := ⟨⟨_, Tryd.underlying120, rfl⟩, isz120⟩
instance : TSize Tryd.prog 121 1 := ⟨isz121⟩
instance : TOne Tryd.prog 121 := ⟨⟨_, Tryd.underlying121, rfl⟩, isz121⟩
instance : TZer Tryd.prog 121 [.nilFunc] := ⟨by kernel_rfl⟩
instance : TSize Tryd.prog 122 1 := ⟨isz122⟩
instance : TOne Tryd.prog 122 := ⟨⟨_, Tryd.underlying122, rfl⟩, isz122⟩
instance : TSize Tryd.prog 123 1 := ⟨isz123⟩
instance : TOne Tryd.prog 123 := ⟨⟨_, Tryd.underlying123, rfl⟩, isz123⟩
instance : TZer Tryd.prog 123 [.nilFunc] := ⟨by kernel_rfl⟩
instance : TSize Tryd.prog 124 1 := ⟨isz124⟩
instance : TOne Tryd.prog 124 := ⟨⟨_, Tryd.underlying124, rfl⟩, isz124⟩
instance : TZer Tryd.prog 124 [.nilFunc] := ⟨by kernel_rfl⟩
instance : TSize Tryd.prog 125 256 := ⟨isz125⟩
instance : TRow Tryd.prog 125 256 := ⟨⟨_, Tryd.underlying125, rfl⟩, isz125⟩
instance : TSize Tryd.prog 126 2 := ⟨isz126⟩
instance : TRow Tryd.prog 126 2 := ⟨⟨_, Tryd.underlying126, rfl⟩, isz126⟩
instance : TZer Tryd.prog 126 [.int .u8 0, .int .u8 0] := ⟨by kernel_rfl⟩
instance : TStruct Tryd.prog 126 [(0, 1), (1, 1)] := ⟨⟨_, Tryd.underlying126, by kernel_rfl⟩⟩
instance : TFld Tryd.prog 126 0 0 0 false := ⟨⟨_, _, _, Tryd.underlying126, rfl, rfl, Tryd.underlying5, rfl, isz5⟩⟩
instance : TFld Tryd.prog 126 1 1 0 false := ⟨⟨_, _, _, Tryd.underlying126, rfl, rfl, Tryd.underlying5, rfl, isz5⟩⟩
instance : TSize Tryd.prog 127 2 := ⟨isz127⟩
instance : TRow Tryd.prog 127 2 := ⟨⟨_, Tryd.underlying127, rfl⟩, isz127⟩
instance : TZer Tryd.prog 127 [.int .u8 0, .int .u8 0] := ⟨by kernel_rfl⟩
instance : TStruct Tryd.prog 127 [(0, 1), (1, 1)] := ⟨⟨_, Tryd.underlying127, by kernel_rfl⟩⟩
instance : TFld Tryd.prog 127 0 0 0 false := ⟨⟨_, _, _, Tryd.underlying127, rfl, rfl, Tryd.underlying5, rfl, isz5⟩⟩
instance : TFld Tryd.prog 127 1 1 0 false := ⟨⟨_, _, _, Tryd.underlying127, rfl, rfl, Tryd.underlying5, rfl, isz5⟩⟩
instance : TSize Tryd.prog 128 32 := ⟨isz128⟩
instance : TRow Tryd.prog 128 32 := ⟨⟨_, Tryd.underlying128, rfl⟩, isz128⟩
instance : TSize Tryd.prog 129 1 := ⟨isz129⟩
instance : TOne Tryd.prog 129 := ⟨⟨_, Tryd.underlying129, rfl⟩, isz129⟩
instance : TZer Tryd.prog 129 [.nilFunc] := ⟨by kernel_rfl⟩
instance : TSize Tryd.prog 130 1 := ⟨isz130⟩
instance : TOne Tryd.prog 130 := ⟨⟨_, Tryd.underlying130, rfl⟩, isz130⟩
instance : TZer Tryd.prog 130 [.nilFunc] := ⟨by kernel_rfl⟩
instance : TSize Tryd.prog 131 1 := ⟨isz131⟩
instance : TOne Tryd.prog 131 := ⟨⟨_, Tryd.underlying131, rfl⟩, isz131⟩
instance : TZer Tryd.prog 131 [.pointer none] := ⟨by kernel_rfl⟩
instance : TSize Tryd.prog 132 1 := ⟨isz132⟩
instance : TRow Tryd.prog 132 1 := ⟨⟨_, Tryd.underlying132, rfl⟩, isz132⟩
instance : TZer Tryd.prog 132 [.string ⟨#[]⟩] := ⟨by kernel_rfl⟩
instance : TStruct Tryd.prog 132 [(0, 1)] := ⟨⟨_, Tryd.underlying132, by kernel_rfl⟩⟩
instance : TFld Tryd.prog 132 0 0 0 false := ⟨⟨_, _, _, Tryd.underlying132, rfl, rfl, Tryd.underlying9, rfl, isz9⟩⟩
instance : TSize Tryd.prog 133 1 := ⟨isz133⟩
instance : TRow Tryd.prog 133 1 := ⟨⟨_, Tryd.underlying133, rfl⟩, isz133⟩
instance : TZer Tryd.prog 133 [.string ⟨#[]⟩] := ⟨by kernel_rfl⟩
instance : TStruct Tryd.prog 133 [(0, 1)] := ⟨⟨_, Tryd.underlying133, by kernel_rfl⟩⟩
instance : TFld Tryd.prog 133 0 0 0 false := ⟨⟨_, _, _, Tryd.underlying133, rfl, rfl, Tryd.underlying9, rfl, isz9⟩⟩
instance : TSize Tryd.prog 134 1 := ⟨isz134⟩
instance : TOne Tryd.prog 134 := ⟨⟨_, Tryd.underlying134, rfl⟩, isz134⟩
instance : TZer Tryd.prog 134 [.nilFunc] := ⟨by kernel_rfl⟩
instance : TSize Tryd.prog 135 1 := ⟨isz135⟩
instance : TOne Tryd.prog 135 := ⟨⟨_, Tryd.underlying135, rfl⟩, isz135⟩
instance : TZer Tryd.prog 135 [.nilFunc] := ⟨by kernel_rfl⟩
instance : TSize Tryd.prog 136 32 := ⟨isz136⟩
instance : TRow Tryd.prog 136 32 := ⟨⟨_, Tryd.underlying136, rfl⟩, isz136⟩
instance : TSize Tryd.prog 137 64 := ⟨isz137⟩
instance : TRow Tryd.prog 137 64 := ⟨⟨_, Tryd.underlying137, rfl⟩, isz137⟩
instance : TSize Tryd.prog 138 4 := ⟨isz138⟩
instance : TRow Tryd.prog 138 4 := ⟨⟨_, Tryd.underlying138, rfl⟩, isz138⟩
instance : TZer Tryd.prog 138 [.pointer none, .pointer none, .pointer none, .string ⟨#[]⟩] := ⟨by kernel_rfl⟩
instance : TStruct Tryd.prog 138 [(0, 1), (1, 1), (2, 1), (3, 1)] := ⟨⟨_, Tryd.underlying138, by kernel_rfl⟩⟩
instance : TFld Tryd.prog 138 0 0 0 false := ⟨⟨_, _, _, Tryd.underlying138, rfl, rfl, Tryd.underlying17, rfl, isz17⟩⟩
instance : TFld Tryd.prog 138 1 1 0 false := ⟨⟨_, _, _, Tryd.underlying138, rfl, rfl, Tryd.underlying17, rfl, isz17⟩⟩
instance : TFld Tryd.prog 138 2 2 0 false := ⟨⟨_, _, _, Tryd.underlying138, rfl, rfl, Tryd.underlying17, rfl, isz17⟩⟩
instance : TFld Tryd.prog 138 3 3 0 false := ⟨⟨_, _, _, Tryd.underlying138, rfl, rfl, Tryd.underlying9, rfl, isz9⟩⟩
instance : TSize Tryd.prog 139 4 := ⟨isz139⟩
instance : TRow Tryd.prog 139 4 := ⟨⟨_, Tryd.underlying139, rfl⟩, isz139⟩
instance : TZer Tryd.prog 139 [.pointer none, .pointer none, .pointer none, .string ⟨#[]⟩] := ⟨by kernel_rfl⟩
instance : TStruct Tryd.prog 139 [(0, 1), (1, 1), (2, 1), (3, 1)] := ⟨⟨_, Tryd.underlying139, by kernel_rfl⟩⟩
instance : TFld Tryd.prog 139 0 0 0 false := ⟨⟨_, _, _, Tryd.underlying139, rfl, rfl, Tryd.underlying17, rfl, isz17⟩⟩
instance : TFld Tryd.prog 139 1 1 0 false := ⟨⟨_, _, _, Tryd.underlying139, rfl, rfl, Tryd.underlying17, rfl, isz17⟩⟩
instance : TFld Tryd.prog 139 2 2 0 false := ⟨⟨_, _, _, Tryd.underlying139, rfl, rfl, Tryd.underlying17, rfl, isz17⟩⟩
instance : TFld Tryd.prog 139 3 3 0 false := ⟨⟨_, _, _, Tryd.underlying139, rfl, rfl, Tryd.underlying9, rfl, isz9⟩⟩
instance : TSize Tryd.prog 143 1 := ⟨isz143⟩
instance : TOne Tryd.prog 143 := ⟨⟨_, Tryd.underlying143, rfl⟩, isz143⟩
instance : TInt Tryd.prog 143 .u8 := ⟨Tryd.underlying143⟩
instance : TZer Tryd.prog 143 [.int .u8 0] := ⟨by kernel_rfl⟩
instance : TSize Tryd.prog 144 1 := ⟨isz144⟩
instance : TOne Tryd.prog 144 := ⟨⟨_, Tryd.underlying144, rfl⟩, isz144⟩
instance : TInt Tryd.prog 144 .u8 := ⟨Tryd.underlying144⟩
instance : TZer Tryd.prog 144 [.int .u8 0] := ⟨by kernel_rfl⟩
instance : TSize Tryd.prog 145 1 := ⟨isz145⟩
instance : TOne Tryd.prog 145 := ⟨⟨_, Tryd.underlying145, rfl⟩, isz145⟩
instance : TZer Tryd.prog 145 [.nilFunc] := ⟨by kernel_rfl⟩
instance : TSize Tryd.prog 146 1 := ⟨isz146⟩
instance : TOne Tryd.prog 146 := ⟨⟨_, Tryd.underlying146, rfl⟩, isz146⟩
instance : TInt Tryd.prog 146 .i32 := ⟨Tryd.underlying146⟩
instance : TZer Tryd.prog 146 [.int .i32 0] := ⟨by kernel_rfl⟩
instance : TSize Tryd.prog 147 1 := ⟨isz147⟩
instance : TOne Tryd.prog 147 := ⟨⟨_, Tryd.underlying147, rfl⟩, isz147⟩
instance : TInt Tryd.prog 147 .i32 := ⟨Tryd.underlying147⟩
instance : TZer Tryd.prog 147 [.int .i32 0] := ⟨by kernel_rfl⟩
instance : TSize Tryd.prog 148 11 := ⟨isz148⟩
instance : TRow Tryd.prog 148 11 := ⟨⟨_, Tryd.underlying148, rfl⟩, isz148⟩
instance : TZer Tryd.prog 148 [.int .u64 0, .int .u64 0, .int .u32 0, .int .u8 0, .int .u8 0, .int .u8 0, .int .u8 0, .nilFunc, .pointer none, .int .i32 0, .int .i32 0] := ⟨by kernel_rfl⟩
instance : TStruct Tryd.prog 148 [(0, 1), (1, 1), (2, 1), (3, 1), (4, 1), (5, 1), (6, 1), (7, 1), (8, 1), (9, 1), (10, 1)] := ⟨⟨_, Tryd.underlying148, by kernel_rfl⟩⟩
instance : TFld Tryd.prog 148 0 0 0 false := ⟨⟨_, _, _, Tryd.underlying148, rfl, rfl, Tryd.underlying12, rfl, isz12⟩⟩
instance : TFld Tryd.prog 148 1 1 0 false := ⟨⟨_, _, _, Tryd.underlying148, rfl, rfl, Tryd.underlying12, rfl, isz12⟩⟩
instance : TFld Tryd.prog 148 2 2 0 false := ⟨⟨_, _, _, Tryd.underlying148, rfl, rfl, Tryd.underlying102, rfl, isz102⟩⟩
instance : TFld Tryd.prog 148 3 3 0 false := ⟨⟨_, _, _, Tryd.underlying148, rfl, rfl, Tryd.underlying143, rfl, isz143⟩⟩
instance : TFld Tryd.prog 148 4 4 0 false := ⟨⟨_, _, _, Tryd.underlying148, rfl, rfl, Tryd.underlying5, rfl, isz5⟩⟩
instance : TFld Tryd.prog 148 5 5 0 false := ⟨⟨_, _, _, Tryd.underlying148, rfl, rfl, Tryd.underlying5, rfl, isz5⟩⟩
instance : TFld Tryd.prog 148 6 6 0 false := ⟨⟨_, _, _, Tryd.underlying148, rfl, rfl, Tryd.underlying144, rfl, isz144⟩⟩
instance : TFld Tryd.prog 148 7 7 0 false := ⟨⟨_, _, _, Tryd.underlying148, rfl, rfl, Tryd.underlying145, rfl, isz145⟩⟩
instance : TFld Tryd.prog 148 8 8 0 false := ⟨⟨_, _, _, Tryd.underlying148, rfl, rfl, Tryd.underlying107, rfl, isz107⟩⟩
instance : TFld Tryd.prog 148 9 9 0 false := ⟨⟨_, _, _, Tryd.underlying148, rfl, rfl, Tryd.underlying146, rfl, isz146⟩⟩
instance : TFld Tryd.prog 148 10 10 0 false := ⟨⟨_, _, _, Tryd.underlying148, rfl, rfl, Tryd.underlying147, rfl, isz147⟩⟩
instance : TSize Tryd.prog 149 11 := ⟨isz149⟩
instance : TRow Tryd.prog 149 11 := ⟨⟨_, Tryd.underlying149, rfl⟩, isz149⟩
instance : TZer Tryd.prog 149 [.int .u64 0, .int .u64 0, .int .u32 0, .int .u8 0, .int .u8 0, .int .u8 0, .int .u8 0, .nilFunc, .pointer none, .int .i32 0, .int .i32 0] := ⟨by kernel_rfl⟩
instance : TStruct Tryd.prog 149 [(0, 1), (1, 1), (2, 1), (3, 1), (4, 1), (5, 1), (6, 1), (7, 1), (8, 1), (9, 1), (10, 1)] := ⟨⟨_, Tryd.underlying149, by kernel_rfl⟩⟩
instance : TFld Tryd.prog 149 0 0 0 false := ⟨⟨_, _, _, Tryd.underlying149, rfl, rfl, Tryd.underlying12, rfl, isz12⟩⟩
instance : TFld Tryd.prog 149 1 1 0 false := ⟨⟨_, _, _, Tryd.underlying149, rfl, rfl, Tryd.underlying12, rfl, isz12⟩⟩
instance : TFld Tryd.prog 149 2 2 0 false := ⟨⟨_, _, _, Tryd.underlying149, rfl, rfl, Tryd.underlying102, rfl, isz102⟩⟩
instance : TFld Tryd.prog 149 3 3 0 false := ⟨⟨_, _, _, Tryd.underlying149, rfl, rfl, Tryd.underlying143, rfl, isz143⟩⟩
instance : TFld Tryd.prog 149 4 4 0 false := ⟨⟨_, _, _, Tryd.underlying149, rfl, rfl, Tryd.underlying5, rfl, isz5⟩⟩
instance : TFld Tryd.prog 149 5 5 0 false := ⟨⟨_, _, _, Tryd.underlying149, rfl, rfl, Tryd.underlying5, rfl, isz5⟩⟩
instance : TFld Tryd.prog 149 6 6 0 false := ⟨⟨_, _, _, Tryd.underlying149, rfl, rfl, Tryd.underlying144, rfl, isz144⟩⟩
instance : TFld Tryd.prog 149 7 7 0 false := ⟨⟨_, _, _, Tryd.underlying149, rfl, rfl, Tryd.underlying145, rfl, isz145⟩⟩
instance : TFld Tryd.prog 149 8 8 0 false := ⟨⟨_, _, _, Tryd.underlying149, rfl, rfl, Tryd.underlying107, rfl, isz107⟩⟩
instance : TFld Tryd.prog 149 9 9 0 false := ⟨⟨_, _, _, Tryd.underlying149, rfl, rfl, Tryd.underlying146, rfl, isz146⟩⟩
instance : TFld Tryd.prog 149 10 10 0 false := ⟨⟨_, _, _, Tryd.underlying149, rfl, rfl, Tryd.underlying147, rfl, isz147⟩⟩
instance : Enters Tryd.prog 3 := ⟨⟨_, Tryd.func3, by kernel_rfl, by kernel_rfl⟩⟩
instance : Enters Tryd.prog 4 := ⟨⟨_, Tryd.func4, by kernel_rfl, by kernel_rfl⟩⟩
instance : Enters Tryd.prog 5 := ⟨⟨_, Tryd.func5, by kernel_rfl, by kernel_rfl⟩⟩
instance : Enters Tryd.prog 6 := ⟨⟨_, Tryd.func6, by kernel_rfl, by kernel_rfl⟩⟩
instance : Enters Tryd.prog 7 := ⟨⟨_, Tryd.func7, by kernel_rfl, by kernel_rfl⟩⟩
instance : Enters Tryd.prog 8 := ⟨⟨_, Tryd.func8, by kernel_rfl, by kernel_rfl⟩⟩
instance : Enters Tryd.prog 9 := ⟨⟨_, Tryd.func9, by kernel_rfl, by kernel_rfl⟩⟩
instance : Enters Tryd.prog 10 := ⟨⟨_, Tryd.func10, by kernel_rfl, by kernel_rfl⟩⟩
instance : Enters Tryd.prog 11 := ⟨⟨_, Tryd.func11, by kernel_rfl, by kernel_rfl⟩⟩
instance : Enters Tryd.prog 12 := ⟨⟨_, Tryd.func12, by kernel_rfl, by kernel_rfl⟩⟩
instance : Enters Tryd.prog 13 := ⟨⟨_, Tryd.func13, by kernel_rfl, by kernel_rfl⟩⟩
instance : Enters Tryd.prog 14 := ⟨⟨_, Tryd.func14, by kernel_rfl, by kernel_rfl⟩⟩
instance : Enters Tryd.prog 15 := ⟨⟨_, Tryd.func15, by kernel_rfl, by kernel_rfl⟩⟩
instance : Enters Tryd.prog 16 := ⟨⟨_, Tryd.func16, by kernel_rfl, by kernel_rfl⟩⟩
instance : Enters Tryd.prog 17 := ⟨⟨_, Tryd.func17, by kernel_rfl, by kernel_rfl⟩⟩
instance : Enters Tryd.prog 18 := ⟨⟨_, Tryd.func18, by kernel_rfl, by kernel_rfl⟩⟩
instance : Enters Tryd.prog 19 := ⟨⟨_, Tryd.func19, by kernel_rfl, by kernel_rfl⟩⟩
instance : Enters Tryd.prog 20 := ⟨⟨_, Tryd.func20, by kernel_rfl, by kernel_rfl⟩⟩
instance : Enters Tryd.prog 21 := ⟨⟨_, Tryd.func21, by kernel_rfl, by kernel_rfl⟩⟩
instance : Enters Tryd.prog 22 := ⟨⟨_, Tryd.func22, by kernel_rfl, by kernel_rfl⟩⟩
instance : Enters Tryd.prog 23 := ⟨⟨_, Tryd.func23, by kernel_rfl, by kernel_rfl⟩⟩
instance : Enters Tryd.prog 24 := ⟨⟨_, Tryd.func24, by kernel_rfl, by kernel_rfl⟩⟩
instance : Enters Tryd.prog 25 := ⟨⟨_, Tryd.func25, by kernel_rfl, by kernel_rfl⟩⟩
instance : Enters Tryd.prog 26 := ⟨⟨_, Tryd.func26, by kernel_rfl, by kernel_rfl⟩⟩
instance : Enters Tryd.prog 27 := ⟨⟨_, Tryd.func27, by kernel_rfl, by kernel_rfl⟩⟩
instance : Enters Tryd.prog 28 := ⟨⟨_, Tryd.func28, by kernel_rfl, by kernel_rfl⟩⟩
instance : Enters Tryd.prog 29 := ⟨⟨_, Tryd.func29, by kernel_rfl, by kernel_rfl⟩⟩
instance : Enters Tryd.prog 30 := ⟨⟨_, Tryd.func30, by kernel_rfl, by kernel_rfl⟩⟩
instance : Enters Tryd.prog 31 := ⟨⟨_, Tryd.func31, by kernel_rfl, by kernel_rfl⟩⟩
instance : Enters Tryd.prog 32 := ⟨⟨_, Tryd.func32, by kernel_rfl, by kernel_rfl⟩⟩
instance : Enters Tryd.prog 33 := ⟨⟨_, Tryd.func33, by kernel_rfl, by kernel_rfl⟩⟩
instance : Enters Tryd.prog 34 := ⟨⟨_, Tryd.func34, by kernel_rfl, by kernel_rfl⟩⟩
instance : Enters Tryd.prog 35 := ⟨⟨_, Tryd.func35, by kernel_rfl, by kernel_rfl⟩⟩
instance : Enters Tryd.prog 36 := ⟨⟨_, Tryd.func36, by kernel_rfl, by kernel_rfl⟩⟩
instance : Enters Tryd.prog 37 := ⟨⟨_, Tryd.func37, by kernel_rfl, by kernel_rfl⟩⟩
instance : Enters Tryd.prog 38 := ⟨⟨_, Tryd.func38, by kernel_rfl, by kernel_rfl⟩⟩
instance : Enters Tryd.prog 39 := ⟨⟨_, Tryd.func39, by kernel_rfl, by kernel_rfl⟩⟩
instance : Enters Tryd.prog 40 := ⟨⟨_, Tryd.func40, by kernel_rfl, by kernel_rfl⟩⟩
instance : Enters Tryd.prog 41 := ⟨⟨_, Tryd.func41, by kernel_rfl, by kernel_rfl⟩⟩
instance : Enters Tryd.prog 42 := ⟨⟨_, Tryd.func42, by kernel_rfl, by kernel_rfl⟩⟩
instance : Enters Tryd.prog 43 := ⟨⟨_, Tryd.func43, by kernel_rfl, by kernel_rfl⟩⟩
instance : Enters Tryd.prog 44 := ⟨⟨_, Tryd.func44, by kernel_rfl, by kernel_rfl⟩⟩
instance : Enters Tryd.prog 45 := ⟨⟨_, Tryd.func45, by kernel_rfl, by kernel_rfl⟩⟩
instance : Enters Tryd.prog 46 := ⟨⟨_, Tryd.func46, by kernel_rfl, by kernel_rfl⟩⟩
instance : Enters Tryd.prog 47 := ⟨⟨_, Tryd.func47, by kernel_rfl, by kernel_rfl⟩⟩
instance : Enters Tryd.prog 48 := ⟨⟨_, Tryd.func48, by kernel_rfl, by kernel_rfl⟩⟩
instance : Enters Tryd.prog 49 := ⟨⟨_, Tryd.func49, by kernel_rfl, by kernel_rfl⟩⟩
instance : Enters Tryd.prog 50 := ⟨⟨_, Tryd.func50, by kernel_rfl, by kernel_rfl⟩⟩
instance : Enters Tryd.prog 51 := ⟨⟨_, Tryd.func51, by kernel_rfl, by kernel_rfl⟩⟩
instance : Enters Tryd.prog 52 := ⟨⟨_, Tryd.func52, by kernel_rfl, by kernel_rfl⟩⟩
instance : Enters Tryd.prog 53 := ⟨⟨_, Tryd.func53, by kernel_rfl, by kernel_rfl⟩⟩
instance : Enters Tryd.prog 54 := ⟨⟨_, Tryd.func54, by kernel_rfl, by kernel_rfl⟩⟩
instance : Enters Tryd.prog 55 := ⟨⟨_, Tryd.func55, by kernel_rfl, by kernel_rfl⟩⟩
instance : Enters Tryd.prog 56 := ⟨⟨_, Tryd.func56, by kernel_rfl, by kernel_rfl⟩⟩
instance : Enters Tryd.prog 57 := ⟨⟨_, Tryd.func57, by kernel_rfl, by kernel_rfl⟩⟩
instance : Enters Tryd.prog 58 := ⟨⟨_, Tryd.func58, by kernel_rfl, by kernel_rfl⟩⟩
instance : Enters Tryd.prog 59 := ⟨⟨_, Tryd.func59, by kernel_rfl, by kernel_rfl⟩⟩
instance : Enters Tryd.prog 60 := ⟨⟨_, Tryd.func60, by kernel_rfl, by kernel_rfl⟩⟩
instance : Enters Tryd.prog 61 := ⟨⟨_, Tryd.func61, by kernel_rfl, by kernel_rfl⟩⟩
instance : Enters Tryd.prog 62 := ⟨⟨_, Tryd.func62, by kernel_rfl, by kernel_rfl⟩⟩
instance : Enters Tryd.prog 63 := ⟨⟨_, Tryd.func63, by kernel_rfl, by kernel_rfl⟩⟩
instance : Enters Tryd.prog 64 := ⟨⟨_, Tryd.func64, by kernel_rfl, by kernel_rfl⟩⟩
instance : Enters Tryd.prog 65 := ⟨⟨_, Tryd.func65, by kernel_rfl, by kernel_rfl⟩⟩
instance : Enters Tryd.prog 66 := ⟨⟨_, Tryd.func66, by kernel_rfl, by kernel_rfl⟩⟩
instance : Enters Tryd.prog 67 := ⟨⟨_, Tryd.func67, by kernel_rfl, by kernel_rfl⟩⟩
instance : Enters Tryd.prog 68 := ⟨⟨_, Tryd.func68, by kernel_rfl, by kernel_rfl⟩⟩
instance : Enters Tryd.prog 69 := ⟨⟨_, Tryd.func69, by kernel_rfl, by kernel_rfl⟩⟩
instance : Enters Tryd.prog 70 := ⟨⟨_, Tryd.func70, by kernel_rfl, by kernel_rfl⟩⟩
instance : Enters Tryd.prog 72 := ⟨⟨_, Tryd.func72, by kernel_rfl, by kernel_rfl⟩⟩
instance : Enters Tryd.prog 73 := ⟨⟨_, Tryd.func73, by kernel_rfl, by kernel_rfl⟩⟩
instance : Enters Tryd.prog 74 := ⟨⟨_, Tryd.func74, by kernel_rfl, by kernel_rfl⟩⟩
instance : Enters Tryd.prog 75 := ⟨⟨_, Tryd.func75, by kernel_rfl, by kernel_rfl⟩⟩
instance : Enters Tryd.prog 76 := ⟨⟨_, Tryd.func76, by kernel_rfl, by kernel_rfl⟩⟩
instance : Enters Tryd.prog 77 := ⟨⟨_, Tryd.func77, by kernel_rfl, by kernel_rfl⟩⟩
instance : Enters Tryd.prog 78 := ⟨⟨_, Tryd.func78, by kernel_rfl, by kernel_rfl⟩⟩
instance : Enters Tryd.prog 79 := ⟨⟨_, Tryd.func79, by kernel_rfl, by kernel_rfl⟩⟩
instance : Enters Tryd.prog 80 := ⟨⟨_, Tryd.func80, by kernel_rfl, by kernel_rfl⟩⟩
instance : Enters Tryd.prog 81 := ⟨⟨_, Tryd.func81, by kernel_rfl, by kernel_rfl⟩⟩
instance : Enters Tryd.prog 82 := ⟨⟨_, Tryd.func82, by kernel_rfl, by kernel_rfl⟩⟩
instance : Enters Tryd.prog 83 := ⟨⟨_, Tryd.func83, by kernel_rfl, by kernel_rfl⟩⟩
instance : Enters Tryd.prog 86 := ⟨⟨_, Tryd.func86, by kernel_rfl, by kernel_rfl⟩⟩
instance : Enters Tryd.prog 88 := ⟨⟨_, Tryd.func88, by kernel_rfl, by kernel_rfl⟩⟩
instance : Enters Tryd.prog 89 := ⟨⟨_, Tryd.func89, by kernel_rfl, by kernel_rfl⟩⟩
instance : Enters Tryd.prog 90 := ⟨⟨_, Tryd.func90, by kernel_rfl, by kernel_rfl⟩⟩
instance : Enters Tryd.prog 91 := ⟨⟨_, Tryd.func91, by kernel_rfl, by kernel_rfl⟩⟩
instance : Enters Tryd.prog 92 := ⟨⟨_, Tryd.func92, by kernel_rfl, by kernel_rfl⟩⟩
instance : Enters Tryd.prog 93 := ⟨⟨_, Tryd.func93, by kernel_rfl, by kernel_rfl⟩⟩
instance : Enters Tryd.prog 94 := ⟨⟨_, Tryd.func94, by kernel_rfl, by kernel_rfl⟩⟩
instance : Enters Tryd.prog 95 := ⟨⟨_, Tryd.func95, by kernel_rfl, by kernel_rfl⟩⟩
instance : Enters Tryd.prog 97 := ⟨⟨_, Tryd.func97, by kernel_rfl, by kernel_rfl⟩⟩
end Go.Proofs.YtkjgmjocikmplaaDoor
