/- What the types and functions of this translation are, one instance each. (Written by wip/inst.py.) -/
import Derived.Test.YtdopillligfdiaaRules
import Derived.Test.YtdopillligfdiaaProg
namespace Go.Proofs.Ytdopillligfdiaa
set_option linter.unusedVariables false
theorem isz0 : (Try.prog.info? 0).map (·.size) = some 1 := by kernel_rfl
theorem isz1 : (Try.prog.info? 1).map (·.size) = some 1 := by kernel_rfl
theorem isz2 : (Try.prog.info? 2).map (·.size) = some 1 := by kernel_rfl
theorem isz3 : (Try.prog.info? 3).map (·.size) = some 1 := by kernel_rfl
theorem isz4 : (Try.prog.info? 4).map (·.size) = some 1 := by kernel_rfl
theorem isz5 : (Try.prog.info? 5).map (·.size) = some 1 := by kernel_rfl
theorem isz6 : (Try.prog.info? 6).map (·.size) = some 1 := by kernel_rfl
theorem isz7 : (Try.prog.info? 7).map (·.size) = some 4 := by kernel_rfl
theorem isz8 : (Try.prog.info? 8).map (·.size) = some 4 := by kernel_rfl
theorem isz9 : (Try.prog.info? 9).map (·.size) = some 1 := by kernel_rfl
theorem isz10 : (Try.prog.info? 10).map (·.size) = some 1 := by kernel_rfl
theorem isz11 : (Try.prog.info? 11).map (·.size) = some 1 := by kernel_rfl
theorem isz12 : (Try.prog.info? 12).map (·.size) = some 1 := by kernel_rfl
theorem isz13 : (Try.prog.info? 13).map (·.size) = some 2 := by kernel_rfl
theorem isz14 : (Try.prog.info? 14).map (·.size) = some 2 := by kernel_rfl
theorem isz15 : (Try.prog.info? 15).map (·.size) = some 1 := by kernel_rfl
theorem isz16 : (Try.prog.info? 16).map (·.size) = some 1 := by kernel_rfl
theorem isz17 : (Try.prog.info? 17).map (·.size) = some 1 := by kernel_rfl
theorem isz18 : (Try.prog.info? 18).map (·.size) = some 1 := by kernel_rfl
theorem isz19 : (Try.prog.info? 19).map (·.size) = some 1 := by kernel_rfl
theorem isz20 : (Try.prog.info? 20).map (·.size) = some 1 := by kernel_rfl
theorem isz21 : (Try.prog.info? 21).map (·.size) = some 1 := by kernel_rfl
theorem isz22 : (Try.prog.info? 22).map (·.size) = some 2 := by kernel_rfl
theorem isz23 : (Try.prog.info? 23).map (·.size) = some 2 := by kernel_rfl
theorem isz24 : (Try.prog.info? 24).map (·.size) = some 1 := by kernel_rfl
theorem isz25 : (Try.prog.info? 25).map (·.size) = some 1 := by kernel_rfl
theorem isz26 : (Try.prog.info? 26).map (·.size) = some 1 := by kernel_rfl
theorem isz27 : (Try.prog.info? 27).map (·.size) = some 1 := by kernel_rfl
theorem isz28 : (Try.prog.info? 28).map (·.size) = some 1 := by kernel_rfl
theorem isz29 : (Try.prog.info? 29).map (·.size) = some 1 := by kernel_rfl
theorem isz30 : (Try.prog.info? 30).map (·.size) = some 1 := by kernel_rfl
theorem isz31 : (Try.prog.info? 31).map (·.size) = some 1 := by kernel_rfl
theorem isz32 : (Try.prog.info? 32).map (·.size) = some 1 := by kernel_rfl
theorem isz33 : (Try.prog.info? 33).map (·.size) = some 1 := by kernel_rfl
theorem isz34 : (Try.prog.info? 34).map (·.size) = some 1 := by kernel_rfl
theorem isz35 : (Try.prog.info? 35).map (·.size) = some 1 := by kernel_rfl
theorem isz36 : (Try.prog.info? 36).map (·.size) = some 1 := by kernel_rfl
theorem isz37 : (Try.prog.info? 37).map (·.size) = some 1 := by kernel_rfl
theorem isz38 : (Try.prog.info? 38).map (·.size) = some 1 := by kernel_rfl
theorem isz39 : (Try.prog.info? 39).map (·.size) = some 1 := by kernel_rfl
theorem isz40 : (Try.prog.info? 40).map (·.size) = some 1 := by kernel_rfl
theorem isz41 : (Try.prog.info? 41).map (·.size) = some 2 := by kernel_rfl
theorem isz42 : (Try.prog.info? 42).map (·.size) = some 2 := by kernel_rfl
theorem isz43 : (Try.prog.info? 43).map (·.size) = some 1 := by kernel_rfl
theorem isz44 : (Try.prog.info? 44).map (·.size) = some 1 := by kernel_rfl
theorem isz45 : (Try.prog.info? 45).map (·.size) = some 1 := by kernel_rfl
theorem isz46 : (Try.prog.info? 46).map (·.size) = some 1 := by kernel_rfl
theorem isz47 : (Try.prog.info? 47).map (·.size) = some 1 := by kernel_rfl
theorem isz48 : (Try.prog.info? 48).map (·.size) = some 1 := by kernel_rfl
theorem isz49 : (Try.prog.info? 49).map (·.size) = some 1 := by kernel_rfl
theorem isz50 : (Try.prog.info? 50).map (·.size) = some 1 := by kernel_rfl
theorem isz51 : (Try.prog.info? 51).map (·.size) = some 1 := by kernel_rfl
theorem isz52 : (Try.prog.info? 52).map (·.size) = some 1 := by kernel_rfl
theorem isz53 : (Try.prog.info? 53).map (·.size) = some 1 := by kernel_rfl
theorem isz54 : (Try.prog.info? 54).map (·.size) = some 1 := by kernel_rfl
theorem isz55 : (Try.prog.info? 55).map (·.size) = some 1 := by kernel_rfl
theorem isz56 : (Try.prog.info? 56).map (·.size) = some 1 := by kernel_rfl
theorem isz57 : (Try.prog.info? 57).map (·.size) = some 1 := by kernel_rfl
theorem isz58 : (Try.prog.info? 58).map (·.size) = some 1 := by kernel_rfl
theorem isz59 : (Try.prog.info? 59).map (·.size) = some 1 := by kernel_rfl
theorem isz60 : (Try.prog.info? 60).map (·.size) = some 1 := by kernel_rfl
theorem isz61 : (Try.prog.info? 61).map (·.size) = some 1 := by kernel_rfl
theorem isz62 : (Try.prog.info? 62).map (·.size) = some 1 := by kernel_rfl
theorem isz63 : (Try.prog.info? 63).map (·.size) = some 1 := by kernel_rfl
theorem isz64 : (Try.prog.info? 64).map (·.size) = some 1 := by kernel_rfl
theorem isz65 : (Try.prog.info? 65).map (·.size) = some 1 := by kernel_rfl
theorem isz66 : (Try.prog.info? 66).map (·.size) = some 1 := by kernel_rfl
theorem isz67 : (Try.prog.info? 67).map (·.size) = some 1 := by kernel_rfl
theorem isz68 : (Try.prog.info? 68).map (·.size) = some 1 := by kernel_rfl
theorem isz69 : (Try.prog.info? 69).map (·.size) = some 1 := by kernel_rfl
theorem isz70 : (Try.prog.info? 70).map (·.size) = some 1 := by kernel_rfl
theorem isz71 : (Try.prog.info? 71).map (·.size) = some 1 := by kernel_rfl
theorem isz72 : (Try.prog.info? 72).map (·.size) = some 1 := by kernel_rfl
theorem isz73 : (Try.prog.info? 73).map (·.size) = some 1 := by kernel_rfl
theorem isz74 : (Try.prog.info? 74).map (·.size) = some 1 := by kernel_rfl
theorem isz75 : (Try.prog.info? 75).map (·.size) = some 1 := by kernel_rfl
theorem isz76 : (Try.prog.info? 76).map (·.size) = some 1 := by kernel_rfl
theorem isz77 : (Try.prog.info? 77).map (·.size) = some 4 := by kernel_rfl
theorem isz78 : (Try.prog.info? 78).map (·.size) = some 4 := by kernel_rfl
theorem isz82 : (Try.prog.info? 82).map (·.size) = some 1 := by kernel_rfl
theorem isz83 : (Try.prog.info? 83).map (·.size) = some 1 := by kernel_rfl
theorem isz84 : (Try.prog.info? 84).map (·.size) = some 1 := by kernel_rfl
theorem isz85 : (Try.prog.info? 85).map (·.size) = some 1 := by kernel_rfl
theorem isz86 : (Try.prog.info? 86).map (·.size) = some 1 := by kernel_rfl
theorem isz87 : (Try.prog.info? 87).map (·.size) = some 1 := by kernel_rfl
theorem isz88 : (Try.prog.info? 88).map (·.size) = some 1 := by kernel_rfl
theorem isz89 : (Try.prog.info? 89).map (·.size) = some 11 := by kernel_rfl
theorem isz90 : (Try.prog.info? 90).map (·.size) = some 11 := by kernel_rfl
theorem isz91 : (Try.prog.info? 91).map (·.size) = some 1 := by kernel_rfl
instance : TSize Try.prog 0 1 := ⟨isz0⟩
instance : TOne Try.prog 0 := ⟨⟨_, Try.underlying0, rfl⟩, isz0⟩
instance : TSize Try.prog 1 1 := ⟨isz1⟩
instance : TOne Try.prog 1 := ⟨⟨_, Try.underlying1, rfl⟩, isz1⟩
instance : TZer Try.prog 1 [.nilFunc] := ⟨by kernel_rfl⟩
instance : TSize Try.prog 2 1 := ⟨isz2⟩
instance : TOne Try.prog 2 := ⟨⟨_, Try.underlying2, rfl⟩, isz2⟩
instance : TInt Try.prog 2 .i64 := ⟨Try.underlying2⟩
instance : TZer Try.prog 2 [.int .i64 0] := ⟨by kernel_rfl⟩
instance : TSize Try.prog 3 1 := ⟨isz3⟩
instance : TOne Try.prog 3 := ⟨⟨_, Try.underlying3, rfl⟩, isz3⟩
instance : TInt Try.prog 3 .i64 := ⟨Try.underlying3⟩
instance : TZer Try.prog 3 [.int .i64 0] := ⟨by kernel_rfl⟩
instance : TSize Try.prog 4 1 := ⟨isz4⟩
instance : TOne Try.prog 4 := ⟨⟨_, Try.underlying4, rfl⟩, isz4⟩
instance : TBool Try.prog 4 := ⟨Try.underlying4⟩
instance : TZer Try.prog 4 [.bool false] := ⟨by kernel_rfl⟩
instance : TSize Try.prog 5 1 := ⟨isz5⟩
instance : TOne Try.prog 5 := ⟨⟨_, Try.underlying5, rfl⟩, isz5⟩
instance : TInt Try.prog 5 .u8 := ⟨Try.underlying5⟩
instance : TZer Try.prog 5 [.int .u8 0] := ⟨by kernel_rfl⟩
instance : TSize Try.prog 6 1 := ⟨isz6⟩
instance : TOne Try.prog 6 := ⟨⟨_, Try.underlying6, rfl⟩, isz6⟩
instance : TInt Try.prog 6 .u8 := ⟨Try.underlying6⟩
instance : TZer Try.prog 6 [.int .u8 0] := ⟨by kernel_rfl⟩
instance : TSize Try.prog 7 4 := ⟨isz7⟩
instance : TRow Try.prog 7 4 := ⟨⟨_, Try.underlying7, rfl⟩, isz7⟩
instance : TZer Try.prog 7 [.int .i64 0, .int .i64 0, .bool false, .int .u8 0] := ⟨by kernel_rfl⟩
instance : TStruct Try.prog 7 [(0, 1), (1, 1), (2, 1), (3, 1)] := ⟨⟨_, Try.underlying7, by kernel_rfl⟩⟩
instance : TFld Try.prog 7 0 0 0 false := ⟨⟨_, _, _, Try.underlying7, rfl, rfl, Try.underlying2, rfl, isz2⟩⟩
instance : TFld Try.prog 7 1 1 0 false := ⟨⟨_, _, _, Try.underlying7, rfl, rfl, Try.underlying3, rfl, isz3⟩⟩
instance : TFld Try.prog 7 2 2 0 false := ⟨⟨_, _, _, Try.underlying7, rfl, rfl, Try.underlying4, rfl, isz4⟩⟩
instance : TFld Try.prog 7 3 3 0 false := ⟨⟨_, _, _, Try.underlying7, rfl, rfl, Try.underlying6, rfl, isz6⟩⟩
instance : TSize Try.prog 8 4 := ⟨isz8⟩
instance : TRow Try.prog 8 4 := ⟨⟨_, Try.underlying8, rfl⟩, isz8⟩
instance : TZer Try.prog 8 [.int .i64 0, .int .i64 0, .bool false, .int .u8 0] := ⟨by kernel_rfl⟩
instance : TStruct Try.prog 8 [(0, 1), (1, 1), (2, 1), (3, 1)] := ⟨⟨_, Try.underlying8, by kernel_rfl⟩⟩
instance : TFld Try.prog 8 0 0 0 false := ⟨⟨_, _, _, Try.underlying8, rfl, rfl, Try.underlying2, rfl, isz2⟩⟩
instance : TFld Try.prog 8 1 1 0 false := ⟨⟨_, _, _, Try.underlying8, rfl, rfl, Try.underlying3, rfl, isz3⟩⟩
instance : TFld Try.prog 8 2 2 0 false := ⟨⟨_, _, _, Try.underlying8, rfl, rfl, Try.underlying4, rfl, isz4⟩⟩
instance : TFld Try.prog 8 3 3 0 false := ⟨⟨_, _, _, Try.underlying8, rfl, rfl, Try.underlying6, rfl, isz6⟩⟩
instance : TSize Try.prog 9 1 := ⟨isz9⟩
instance : TOne Try.prog 9 := ⟨⟨_, Try.underlying9, rfl⟩, isz9⟩
instance : TStr Try.prog 9 := ⟨Try.underlying9⟩
instance : TZer Try.prog 9 [.string ⟨#[]⟩] := ⟨by kernel_rfl⟩
instance : TSize Try.prog 10 1 := ⟨isz10⟩
instance : TOne Try.prog 10 := ⟨⟨_, Try.underlying10, rfl⟩, isz10⟩
instance : TStr Try.prog 10 := ⟨Try.underlying10⟩
instance : TZer Try.prog 10 [.string ⟨#[]⟩] := ⟨by kernel_rfl⟩
instance : TSize Try.prog 11 1 := ⟨isz11⟩
instance : TOne Try.prog 11 := ⟨⟨_, Try.underlying11, rfl⟩, isz11⟩
instance : TStr Try.prog 11 := ⟨Try.underlying11⟩
instance : TZer Try.prog 11 [.string ⟨#[]⟩] := ⟨by kernel_rfl⟩
instance : TSize Try.prog 12 1 := ⟨isz12⟩
instance : TOne Try.prog 12 := ⟨⟨_, Try.underlying12, rfl⟩, isz12⟩
instance : TInt Try.prog 12 .u64 := ⟨Try.underlying12⟩
instance : TZer Try.prog 12 [.int .u64 0] := ⟨by kernel_rfl⟩
instance : TSize Try.prog 13 2 := ⟨isz13⟩
instance : TRow Try.prog 13 2 := ⟨⟨_, Try.underlying13, rfl⟩, isz13⟩
instance : TZer Try.prog 13 [.string ⟨#[]⟩, .int .u64 0] := ⟨by kernel_rfl⟩
instance : TStruct Try.prog 13 [(0, 1), (1, 1)] := ⟨⟨_, Try.underlying13, by kernel_rfl⟩⟩
instance : TFld Try.prog 13 0 0 0 false := ⟨⟨_, _, _, Try.underlying13, rfl, rfl, Try.underlying9, rfl, isz9⟩⟩
instance : TFld Try.prog 13 1 1 0 false := ⟨⟨_, _, _, Try.underlying13, rfl, rfl, Try.underlying12, rfl, isz12⟩⟩
instance : TSize Try.prog 14 2 := ⟨isz14⟩
instance : TRow Try.prog 14 2 := ⟨⟨_, Try.underlying14, rfl⟩, isz14⟩
instance : TZer Try.prog 14 [.string ⟨#[]⟩, .int .u64 0] := ⟨by kernel_rfl⟩
instance : TStruct Try.prog 14 [(0, 1), (1, 1)] := ⟨⟨_, Try.underlying14, by kernel_rfl⟩⟩
instance : TFld Try.prog 14 0 0 0 false := ⟨⟨_, _, _, Try.underlying14, rfl, rfl, Try.underlying9, rfl, isz9⟩⟩
instance : TFld Try.prog 14 1 1 0 false := ⟨⟨_, _, _, Try.underlying14, rfl, rfl, Try.underlying12, rfl, isz12⟩⟩
instance : TSize Try.prog 15 1 := ⟨isz15⟩
instance : TOne Try.prog 15 := ⟨⟨_, Try.underlying15, rfl⟩, isz15⟩
instance : TZer Try.prog 15 [.pointer none] := ⟨by kernel_rfl⟩
instance : TSize Try.prog 16 1 := ⟨isz16⟩
instance : TOne Try.prog 16 := ⟨⟨_, Try.underlying16, rfl⟩, isz16⟩
instance : TZer Try.prog 16 [.pointer none] := ⟨by kernel_rfl⟩
instance : TSize Try.prog 17 1 := ⟨isz17⟩
instance : TOne Try.prog 17 := ⟨⟨_, Try.underlying17, rfl⟩, isz17⟩
instance : TZer Try.prog 17 [.pointer none] := ⟨by kernel_rfl⟩
instance : TSize Try.prog 18 1 := ⟨isz18⟩
instance : TRow Try.prog 18 1 := ⟨⟨_, Try.underlying18, rfl⟩, isz18⟩
instance : TZer Try.prog 18 [.pointer none] := ⟨by kernel_rfl⟩
instance : TStruct Try.prog 18 [(0, 1)] := ⟨⟨_, Try.underlying18, by kernel_rfl⟩⟩
instance : TFld Try.prog 18 0 0 0 false := ⟨⟨_, _, _, Try.underlying18, rfl, rfl, Try.underlying17, rfl, isz17⟩⟩
instance : TSize Try.prog 19 1 := ⟨isz19⟩
instance : TRow Try.prog 19 1 := ⟨⟨_, Try.underlying19, rfl⟩, isz19⟩
instance : TZer Try.prog 19 [.pointer none] := ⟨by kernel_rfl⟩
instance : TStruct Try.prog 19 [(0, 1)] := ⟨⟨_, Try.underlying19, by kernel_rfl⟩⟩
instance : TFld Try.prog 19 0 0 0 false := ⟨⟨_, _, _, Try.underlying19, rfl, rfl, Try.underlying17, rfl, isz17⟩⟩
instance : TSize Try.prog 20 1 := ⟨isz20⟩
instance : TOne Try.prog 20 := ⟨⟨_, Try.underlying20, rfl⟩, isz20⟩
instance : TZer Try.prog 20 [.nilIface] := ⟨by kernel_rfl⟩
instance : TSize Try.prog 21 1 := ⟨isz21⟩
instance : TOne Try.prog 21 := ⟨⟨_, Try.underlying21, rfl⟩, isz21⟩
instance : TInt Try.prog 21 .i32 := ⟨Try.underlying21⟩
instance : TZer Try.prog 21 [.int .i32 0] := ⟨by kernel_rfl⟩
instance : TSize Try.prog 22 2 := ⟨isz22⟩
instance : TRow Try.prog 22 2 := ⟨⟨_, Try.underlying22, rfl⟩, isz22⟩
instance : TZer Try.prog 22 [.int .i64 0, .int .i64 0] := ⟨by kernel_rfl⟩
instance : TStruct Try.prog 22 [(0, 1), (1, 1)] := ⟨⟨_, Try.underlying22, by kernel_rfl⟩⟩
instance : TFld Try.prog 22 0 0 0 false := ⟨⟨_, _, _, Try.underlying22, rfl, rfl, Try.underlying3, rfl, isz3⟩⟩
instance : TFld Try.prog 22 1 1 0 false := ⟨⟨_, _, _, Try.underlying22, rfl, rfl, Try.underlying3, rfl, isz3⟩⟩
instance : TSize Try.prog 23 2 := ⟨isz23⟩
instance : TRow Try.prog 23 2 := ⟨⟨_, Try.underlying23, rfl⟩, isz23⟩
instance : TZer Try.prog 23 [.int .i64 0, .int .i64 0] := ⟨by kernel_rfl⟩
instance : TStruct Try.prog 23 [(0, 1), (1, 1)] := ⟨⟨_, Try.underlying23, by kernel_rfl⟩⟩
instance : TFld Try.prog 23 0 0 0 false := ⟨⟨_, _, _, Try.underlying23, rfl, rfl, Try.underlying3, rfl, isz3⟩⟩
instance : TFld Try.prog 23 1 1 0 false := ⟨⟨_, _, _, Try.underlying23, rfl, rfl, Try.underlying3, rfl, isz3⟩⟩
instance : TSize Try.prog 24 1 := ⟨isz24⟩
instance : TOne Try.prog 24 := ⟨⟨_, Try.underlying24, rfl⟩, isz24⟩
instance : TSlice Try.prog 24 3 := ⟨Try.underlying24⟩
instance : TZer Try.prog 24 [.slice none 0 0] := ⟨by kernel_rfl⟩
instance : TSize Try.prog 25 1 := ⟨isz25⟩
instance : TOne Try.prog 25 := ⟨⟨_, Try.underlying25, rfl⟩, isz25⟩
instance : TSlice Try.prog 25 42 := ⟨Try.underlying25⟩
instance : TZer Try.prog 25 [.slice none 0 0] := ⟨by kernel_rfl⟩
instance : TSize Try.prog 26 1 := ⟨isz26⟩
instance : TOne Try.prog 26 := ⟨⟨_, Try.underlying26, rfl⟩, isz26⟩
instance : TInt Try.prog 26 .i64 := ⟨Try.underlying26⟩
instance : TZer Try.prog 26 [.int .i64 0] := ⟨by kernel_rfl⟩
instance : TSize Try.prog 27 1 := ⟨isz27⟩
instance : TOne Try.prog 27 := ⟨⟨_, Try.underlying27, rfl⟩, isz27⟩
instance : TSize Try.prog 28 1 := ⟨isz28⟩
instance : TOne Try.prog 28 := ⟨⟨_, Try.underlying28, rfl⟩, isz28⟩
instance : TZer Try.prog 28 [.nilFunc] := ⟨by kernel_rfl⟩
instance : TSize Try.prog 29 1 := ⟨isz29⟩
instance : TOne Try.prog 29 := ⟨⟨_, Try.underlying29, rfl⟩, isz29⟩
instance : TZer Try.prog 29 [.nilFunc] := ⟨by kernel_rfl⟩
instance : TSize Try.prog 30 1 := ⟨isz30⟩
instance : TOne Try.prog 30 := ⟨⟨_, Try.underlying30, rfl⟩, isz30⟩
instance : TZer Try.prog 30 [.nilFunc] := ⟨by kernel_rfl⟩
instance : TSize Try.prog 31 1 := ⟨isz31⟩
instance : TOne Try.prog 31 := ⟨⟨_, Try.underlying31, rfl⟩, isz31⟩
instance : TZer Try.prog 31 [.nilFunc] := ⟨by kernel_rfl⟩
instance : TSize Try.prog 32 1 := ⟨isz32⟩
instance : TOne Try.prog 32 := ⟨⟨_, Try.underlying32, rfl⟩, isz32⟩
instance : TZer Try.prog 32 [.nilFunc] := ⟨by kernel_rfl⟩
instance : TSize Try.prog 33 1 := ⟨isz33⟩
instance : TOne Try.prog 33 := ⟨⟨_, Try.underlying33, rfl⟩, isz33⟩
instance : TZer Try.prog 33 [.nilFunc] := ⟨by kernel_rfl⟩
instance : TSize Try.prog 34 1 := ⟨isz34⟩
instance : TOne Try.prog 34 := ⟨⟨_, Try.underlying34, rfl⟩, isz34⟩
instance : TZer Try.prog 34 [.nilFunc] := ⟨by kernel_rfl⟩
instance : TSize Try.prog 35 1 := ⟨isz35⟩
instance : TOne Try.prog 35 := ⟨⟨_, Try.underlying35, rfl⟩, isz35⟩
instance : TZer Try.prog 35 [.nilFunc] := ⟨by kernel_rfl⟩
instance : TSize Try.prog 36 1 := ⟨isz36⟩
instance : TOne Try.prog 36 := ⟨⟨_, Try.underlying36, rfl⟩, isz36⟩
instance : TSize Try.prog 37 1 := ⟨isz37⟩
instance : TOne Try.prog 37 := ⟨⟨_, Try.underlying37, rfl⟩, isz37⟩
instance : TZer Try.prog 37 [.nilFunc] := ⟨by kernel_rfl⟩
instance : TSize Try.prog 38 1 := ⟨isz38⟩
instance : TOne Try.prog 38 := ⟨⟨_, Try.underlying38, rfl⟩, isz38⟩
instance : TZer Try.prog 38 [.nilFunc] := ⟨by kernel_rfl⟩
instance : TSize Try.prog 39 1 := ⟨isz39⟩
instance : TOne Try.prog 39 := ⟨⟨_, Try.underlying39, rfl⟩, isz39⟩
instance : TZer Try.prog 39 [.nilFunc] := ⟨by kernel_rfl⟩
instance : TSize Try.prog 40 1 := ⟨isz40⟩
instance : TOne Try.prog 40 := ⟨⟨_, Try.underlying40, rfl⟩, isz40⟩
instance : TZer Try.prog 40 [.nilFunc] := ⟨by kernel_rfl⟩
instance : TSize Try.prog 41 2 := ⟨isz41⟩
instance : TRow Try.prog 41 2 := ⟨⟨_, Try.underlying41, rfl⟩, isz41⟩
instance : TZer Try.prog 41 [.int .i64 0, .int .i64 0] := ⟨by kernel_rfl⟩
instance : TStruct Try.prog 41 [(0, 1), (1, 1)] := ⟨⟨_, Try.underlying41, by kernel_rfl⟩⟩
instance : TFld Try.prog 41 0 0 0 false := ⟨⟨_, _, _, Try.underlying41, rfl, rfl, Try.underlying3, rfl, isz3⟩⟩
instance : TFld Try.prog 41 1 1 0 false := ⟨⟨_, _, _, Try.underlying41, rfl, rfl, Try.underlying3, rfl, isz3⟩⟩
instance : TSize Try.prog 42 2 := ⟨isz42⟩
instance : TRow Try.prog 42 2 := ⟨⟨_, Try.underlying42, rfl⟩, isz42⟩
instance : TZer Try.prog 42 [.int .i64 0, .int .i64 0] := ⟨by kernel_rfl⟩
instance : TStruct Try.prog 42 [(0, 1), (1, 1)] := ⟨⟨_, Try.underlying42, by kernel_rfl⟩⟩
instance : TFld Try.prog 42 0 0 0 false := ⟨⟨_, _, _, Try.underlying42, rfl, rfl, Try.underlying3, rfl, isz3⟩⟩
instance : TFld Try.prog 42 1 1 0 false := ⟨⟨_, _, _, Try.underlying42, rfl, rfl, Try.underlying3, rfl, isz3⟩⟩
instance : TSize Try.prog 43 1 := ⟨isz43⟩
instance : TOne Try.prog 43 := ⟨⟨_, Try.underlying43, rfl⟩, isz43⟩
instance : TZer Try.prog 43 [.nilFunc] := ⟨by kernel_rfl⟩
instance : TSize Try.prog 44 1 := ⟨isz44⟩
instance : TOne Try.prog 44 := ⟨⟨_, Try.underlying44, rfl⟩, isz44⟩
instance : TZer Try.prog 44 [.nilFunc] := ⟨by kernel_rfl⟩
instance : TSize Try.prog 45 1 := ⟨isz45⟩
instance : TOne Try.prog 45 := ⟨⟨_, Try.underlying45, rfl⟩, isz45⟩
instance : TZer Try.prog 45 [.nilFunc] := ⟨by kernel_rfl⟩
instance : TSize Try.prog 46 1 := ⟨isz46⟩
instance : TOne Try.prog 46 := ⟨⟨_, Try.underlying46, rfl⟩, isz46⟩
instance : TZer Try.prog 46 [.nilFunc] := ⟨by kernel_rfl⟩
instance : TSize Try.prog 47 1 := ⟨isz47⟩
instance : TOne Try.prog 47 := ⟨⟨_, Try.underlying47, rfl⟩, isz47⟩
instance : TZer Try.prog 47 [.nilFunc] := ⟨by kernel_rfl⟩
instance : TSize Try.prog 48 1 := ⟨isz48⟩
instance : TOne Try.prog 48 := ⟨⟨_, Try.underlying48, rfl⟩, isz48⟩
instance : TZer Try.prog 48 [.nilFunc] := ⟨by kernel_rfl⟩
instance : TSize Try.prog 49 1 := ⟨isz49⟩
instance : TOne Try.prog 49 := ⟨⟨_, Try.underlying49, rfl⟩, isz49⟩
instance : TZer Try.prog 49 [.nilFunc] := ⟨by kernel_rfl⟩
instance : TSize Try.prog 50 1 := ⟨isz50⟩
instance : TOne Try.prog 50 := ⟨⟨_, Try.underlying50, rfl⟩, isz50⟩
instance : TInt Try.prog 50 .u64 := ⟨Try.underlying50⟩
instance : TZer Try.prog 50 [.int .u64 0] := ⟨by kernel_rfl⟩
instance : TSize Try.prog 51 1 := ⟨isz51⟩
instance : TOne Try.prog 51 := ⟨⟨_, Try.underlying51, rfl⟩, isz51⟩
instance : TZer Try.prog 51 [.nilFunc] := ⟨by kernel_rfl⟩
instance : TSize Try.prog 52 1 := ⟨isz52⟩
instance : TOne Try.prog 52 := ⟨⟨_, Try.underlying52, rfl⟩, isz52⟩
instance : TZer Try.prog 52 [.nilFunc] := ⟨by kernel_rfl⟩
instance : TSize Try.prog 53 1 := ⟨isz53⟩
instance : TOne Try.prog 53 := ⟨⟨_, Try.underlying53, rfl⟩, isz53⟩
instance : TZer Try.prog 53 [.nilFunc] := ⟨by kernel_rfl⟩
instance : TSize Try.prog 54 1 := ⟨isz54⟩
instance : TOne Try.prog 54 := ⟨⟨_, Try.underlying54, rfl⟩, isz54⟩
instance : TInt Try.prog 54 .i64 := ⟨Try.underlying54⟩
instance : TZer Try.prog 54 [.int .i64 0] := ⟨by kernel_rfl⟩
instance : TSize Try.prog 55 1 := ⟨isz55⟩
instance : TOne Try.prog 55 := ⟨⟨_, Try.underlying55, rfl⟩, isz55⟩
instance : TSize Try.prog 56 1 := ⟨isz56⟩
instance : TOne Try.prog 56 := ⟨⟨_, Try.underlying56, rfl⟩, isz56⟩
instance : TZer Try.prog 56 [.nilFunc] := ⟨by kernel_rfl⟩
instance : TSize Try.prog 57 1 := ⟨isz57⟩
instance : TOne Try.prog 57 := ⟨⟨_, Try.underlying57, rfl⟩, isz57⟩
instance : TZer Try.prog 57 [.nilFunc] := ⟨by kernel_rfl⟩
instance : TSize Try.prog 58 1 := ⟨isz58⟩
instance : TOne Try.prog 58 := ⟨⟨_, Try.underlying58, rfl⟩, isz58⟩
instance : TZer Try.prog 58 [.nilFunc] := ⟨by kernel_rfl⟩
instance : TSize Try.prog 59 1 := ⟨isz59⟩
instance : TOne Try.prog 59 := ⟨⟨_, Try.underlying59, rfl⟩, isz59⟩
instance : TZer Try.prog 59 [.nilFunc] := ⟨by kernel_rfl⟩
instance : TSize Try.prog 60 1 := ⟨isz60⟩
instance : TOne Try.prog 60 := ⟨⟨_, Try.underlying60, rfl⟩, isz60⟩
instance : TSize Try.prog 61 1 := ⟨isz61⟩
instance : TOne Try.prog 61 := ⟨⟨_, Try.underlying61, rfl⟩, isz61⟩
instance : TZer Try.prog 61 [.nilFunc] := ⟨by kernel_rfl⟩
instance : TSize Try.prog 62 1 := ⟨isz62⟩
instance : TOne Try.prog 62 := ⟨⟨_, Try.underlying62, rfl⟩, isz62⟩
instance : TZer Try.prog 62 [.nilFunc] := ⟨by kernel_rfl⟩
instance : TSize Try.prog 63 1 := ⟨isz63⟩
instance : TOne Try.prog 63 := ⟨⟨_, Try.underlying63, rfl⟩, isz63⟩
instance : TInt Try.prog 63 .u32 := ⟨Try.underlying63⟩
instance : TZer Try.prog 63 [.int .u32 0] := ⟨by kernel_rfl⟩
instance : TSize Try.prog 64 1 := ⟨isz64⟩
instance : TOne Try.prog 64 := ⟨⟨_, Try.underlying64, rfl⟩, isz64⟩
instance : TZer Try.prog 64 [.nilFunc] := ⟨by kernel_rfl⟩
instance : TSize Try.prog 65 1 := ⟨isz65⟩
instance : TOne Try.prog 65 := ⟨⟨_, Try.underlying65, rfl⟩, isz65⟩
instance : TInt Try.prog 65 .u64 := ⟨Try.underlying65⟩
instance : TZer Try.prog 65 [.int .u64 0] := ⟨by kernel_rfl⟩
instance : TSize Try.prog 66 1 := ⟨isz66⟩
instance : TOne Try.prog 66 := ⟨⟨_, Try.underlying66, rfl⟩, isz66⟩
instance : TInt Try.prog 66 .u64 := ⟨Try.underlying66⟩
instance : TZer Try.prog 66 [.int .u64 0] := ⟨by kernel_rfl⟩
instance : TSize Try.prog 67 1 := ⟨isz67⟩
instance : TOne Try.prog 67 := ⟨⟨_, Try.underlying67, rfl⟩, isz67⟩
instance : TZer Try.prog 67 [.nilFunc] := ⟨by kernel_rfl⟩
instance : TSize Try.prog 68 1 := ⟨isz68⟩
instance : TOne Try.prog 68 := ⟨⟨_, Try.underlying68, rfl⟩, isz68⟩
instance : TZer Try.prog 68 [.nilFunc] := ⟨by kernel_rfl⟩
instance : TSize Try.prog 69 1 := ⟨isz69⟩
instance : TOne Try.prog 69 := ⟨⟨_, Try.underlying69, rfl⟩, isz69⟩
instance : TZer Try.prog 69 [.nilFunc] := ⟨by kernel_rfl⟩
instance : TSize Try.prog 70 1 := ⟨isz70⟩
instance : TOne Try.prog 70 := ⟨⟨_, Try.underlying70, rfl⟩, isz70⟩
instance : TZer Try.prog 70 [.pointer none] := ⟨by kernel_rfl⟩
instance : TSize Try.prog 71 1 := ⟨isz71⟩
instance : TOne Try.prog 71 := ⟨⟨_, Try.underlying71, rfl⟩, isz71⟩
instance : TZer Try.prog 71 [.nilFunc] := ⟨by kernel_rfl⟩
instance : TSize Try.prog 72 1 := ⟨isz72⟩
instance : TOne Try.prog 72 := ⟨⟨_, Try.underlying72, rfl⟩, isz72⟩
instance : TZer Try.prog 72 [.nilFunc] := ⟨by kernel_rfl⟩
instance : TSize Try.prog 73 1 := ⟨isz73⟩
instance : TOne Try.prog 73 := ⟨⟨_, Try.underlying73, rfl⟩, isz73⟩
instance : TZer Try.prog 73 [.pointer none] := ⟨by kernel_rfl⟩
instance : TSize Try.prog 74 1 := ⟨isz74⟩
instance : TOne Try.prog 74 := ⟨⟨_, Try.underlying74, rfl⟩, isz74⟩
instance : TSize Try.prog 75 1 := ⟨isz75⟩
instance : TOne Try.prog 75 := ⟨⟨_, Try.underlying75, rfl⟩, isz75⟩
instance : TZer Try.prog 75 [.nilFunc] := ⟨by kernel_rfl⟩
instance : TSize Try.prog 76 1 := ⟨isz76⟩
instance : TOne Try.prog 76 := ⟨⟨_, Try.underlying76, rfl⟩, isz76⟩
instance : TZer Try.prog 76 [.nilFunc] := ⟨by kernel_rfl⟩
instance : TSize Try.prog 77 4 := ⟨isz77⟩
instance : TRow Try.prog 77 4 := ⟨⟨_, Try.underlying77, rfl⟩, isz77⟩
instance : TZer Try.prog 77 [.pointer none, .pointer none, .pointer none, .string ⟨#[]⟩] := ⟨by kernel_rfl⟩
instance : TStruct Try.prog 77 [(0, 1), (1, 1), (2, 1), (3, 1)] := ⟨⟨_, Try.underlying77, by kernel_rfl⟩⟩
instance : TFld Try.prog 77 0 0 0 false := ⟨⟨_, _, _, Try.underlying77, rfl, rfl, Try.underlying17, rfl, isz17⟩⟩
instance : TFld Try.prog 77 1 1 0 false := ⟨⟨_, _, _, Try.underlying77, rfl, rfl, Try.underlying17, rfl, isz17⟩⟩
instance : TFld Try.prog 77 2 2 0 false := ⟨⟨_, _, _, Try.underlying77, rfl, rfl, Try.underlying17, rfl, isz17⟩⟩
instance : TFld Try.prog 77 3 3 0 false := ⟨⟨_, _, _, Try.underlying77, rfl, rfl, Try.underlying9, rfl, isz9⟩⟩
instance : TSize Try.prog 78 4 := ⟨isz78⟩
instance : TRow Try.prog 78 4 := ⟨⟨_, Try.underlying78, rfl⟩, isz78⟩
instance : TZer Try.prog 78 [.pointer none, .pointer none, .pointer none, .string ⟨#[]⟩] := ⟨by kernel_rfl⟩
instance : TStruct Try.prog 78 [(0, 1), (1, 1), (2, 1), (3, 1)] := ⟨⟨_, Try.underlying78, by kernel_rfl⟩⟩
instance : TFld Try.prog 78 0 0 0 false := ⟨⟨_, _, _, Try.underlying78, rfl, rfl, Try.underlying17, rfl, isz17⟩⟩
instance : TFld Try.prog 78 1 1 0 false := ⟨⟨_, _, _, Try.underlying78, rfl, rfl, Try.underlying17, rfl, isz17⟩⟩
instance : TFld Try.prog 78 2 2 0 false := ⟨⟨_, _, _, Try.underlying78, rfl, rfl, Try.underlying17, rfl, isz17⟩⟩
instance : TFld Try.prog 78 3 3 0 false := ⟨⟨_, _, _, Try.underlying78, rfl, rfl, Try.underlying9, rfl, isz9⟩⟩
instance : TSize Try.prog 82 1 := ⟨isz82⟩
instance : TOne Try.prog 82 := ⟨⟨_, Try.underlying82, rfl⟩, isz82⟩
instance : TZer Try.prog 82 [.nilFunc] := ⟨by kernel_rfl⟩
instance : TSize Try.prog 83 1 := ⟨isz83⟩
instance : TOne Try.prog 83 := ⟨⟨_, Try.underlying83, rfl⟩, isz83⟩
instance : TInt Try.prog 83 .u8 := ⟨Try.underlying83⟩
instance : TZer Try.prog 83 [.int .u8 0] := ⟨by kernel_rfl⟩
instance : TSize Try.prog 84 1 := ⟨isz84⟩
instance : TOne Try.prog 84 := ⟨⟨_, Try.underlying84, rfl⟩, isz84⟩
instance : TInt Try.prog 84 .u8 := ⟨Try.underlying84⟩
instance : TZer Try.prog 84 [.int .u8 0] := ⟨by kernel_rfl⟩
instance : TSize Try.prog 85 1 := ⟨isz85⟩
instance : TOne Try.prog 85 := ⟨⟨_, Try.underlying85, rfl⟩, isz85⟩
instance : TZer Try.prog 85 [.nilFunc] := ⟨by kernel_rfl⟩
instance : TSize Try.prog 86 1 := ⟨isz86⟩
instance : TOne Try.prog 86 := ⟨⟨_, Try.underlying86, rfl⟩, isz86⟩
instance : TZer Try.prog 86 [.pointer none] := ⟨by kernel_rfl⟩
instance : TSize Try.prog 87 1 := ⟨isz87⟩
instance : TOne Try.prog 87 := ⟨⟨_, Try.underlying87, rfl⟩, isz87⟩
instance : TInt Try.prog 87 .i32 := ⟨Try.underlying87⟩
instance : TZer Try.prog 87 [.int .i32 0] := ⟨by kernel_rfl⟩
instance : TSize Try.prog 88 1 := ⟨isz88⟩
instance : TOne Try.prog 88 := ⟨⟨_, Try.underlying88, rfl⟩, isz88⟩
instance : TInt Try.prog 88 .i32 := ⟨Try.underlying88⟩
instance : TZer Try.prog 88 [.int .i32 0] := ⟨by kernel_rfl⟩
instance : TSize Try.prog 89 11 := ⟨isz89⟩
instance : TRow Try.prog 89 11 := ⟨⟨_, Try.underlying89, rfl⟩, isz89⟩
instance : TZer Try.prog 89 [.int .u64 0, .int .u64 0, .int .u32 0, .int .u8 0, .int .u8 0, .int .u8 0, .int .u8 0, .nilFunc, .pointer none, .int .i32 0, .int .i32 0] := ⟨by kernel_rfl⟩
instance : TStruct Try.prog 89 [(0, 1), (1, 1), (2, 1), (3, 1), (4, 1), (5, 1), (6, 1), (7, 1), (8, 1), (9, 1), (10, 1)] := ⟨⟨_, Try.underlying89, by kernel_rfl⟩⟩
instance : TFld Try.prog 89 0 0 0 false := ⟨⟨_, _, _, Try.underlying89, rfl, rfl, Try.underlying12, rfl, isz12⟩⟩
instance : TFld Try.prog 89 1 1 0 false := ⟨⟨_, _, _, Try.underlying89, rfl, rfl, Try.underlying12, rfl, isz12⟩⟩
instance : TFld Try.prog 89 2 2 0 false := ⟨⟨_, _, _, Try.underlying89, rfl, rfl, Try.underlying63, rfl, isz63⟩⟩
instance : TFld Try.prog 89 3 3 0 false := ⟨⟨_, _, _, Try.underlying89, rfl, rfl, Try.underlying83, rfl, isz83⟩⟩
instance : TFld Try.prog 89 4 4 0 false := ⟨⟨_, _, _, Try.underlying89, rfl, rfl, Try.underlying5, rfl, isz5⟩⟩
instance : TFld Try.prog 89 5 5 0 false := ⟨⟨_, _, _, Try.underlying89, rfl, rfl, Try.underlying5, rfl, isz5⟩⟩
instance : TFld Try.prog 89 6 6 0 false := ⟨⟨_, _, _, Try.underlying89, rfl, rfl, Try.underlying84, rfl, isz84⟩⟩
instance : TFld Try.prog 89 7 7 0 false := ⟨⟨_, _, _, Try.underlying89, rfl, rfl, Try.underlying85, rfl, isz85⟩⟩
instance : TFld Try.prog 89 8 8 0 false := ⟨⟨_, _, _, Try.underlying89, rfl, rfl, Try.underlying86, rfl, isz86⟩⟩
instance : TFld Try.prog 89 9 9 0 false := ⟨⟨_, _, _, Try.underlying89, rfl, rfl, Try.underlying87, rfl, isz87⟩⟩
instance : TFld Try.prog 89 10 10 0 false := ⟨⟨_, _, _, Try.underlying89, rfl, rfl, Try.underlying88, rfl, isz88⟩⟩
instance : TSize Try.prog 90 11 := ⟨isz90⟩
instance : TRow Try.prog 90 11 := ⟨⟨_, Try.underlying90, rfl⟩, isz90⟩
instance : TZer Try.prog 90 [.int .u64 0, .int .u64 0, .int .u32 0, .int .u8 0, .int .u8 0, .int .u8 0, .int .u8 0, .nilFunc, .pointer none, .int .i32 0, .int .i32 0] := ⟨by kernel_rfl⟩
instance : TStruct Try.prog 90 [(0, 1), (1, 1), (2, 1), (3, 1), (4, 1), (5, 1), (6, 1), (7, 1), (8, 1), (9, 1), (10, 1)] := ⟨⟨_, Try.underlying90, by kernel_rfl⟩⟩
instance : TFld Try.prog 90 0 0 0 false := ⟨⟨_, _, _, Try.underlying90, rfl, rfl, Try.underlying12, rfl, isz12⟩⟩
instance : TFld Try.prog 90 1 1 0 false := ⟨⟨_, _, _, Try.underlying90, rfl, rfl, Try.underlying12, rfl, isz12⟩⟩
instance : TFld Try.prog 90 2 2 0 false := ⟨⟨_, _, _, Try.underlying90, rfl, rfl, Try.underlying63, rfl, isz63⟩⟩
instance : TFld Try.prog 90 3 3 0 false := ⟨⟨_, _, _, Try.underlying90, rfl, rfl, Try.underlying83, rfl, isz83⟩⟩
instance : TFld Try.prog 90 4 4 0 false := ⟨⟨_, _, _, Try.underlying90, rfl, rfl, Try.underlying5, rfl, isz5⟩⟩
instance : TFld Try.prog 90 5 5 0 false := ⟨⟨_, _, _, Try.underlying90, rfl, rfl, Try.underlying5, rfl, isz5⟩⟩
instance : TFld Try.prog 90 6 6 0 false := ⟨⟨_, _, _, Try.underlying90, rfl, rfl, Try.underlying84, rfl, isz84⟩⟩
instance : TFld Try.prog 90 7 7 0 false := ⟨⟨_, _, _, Try.underlying90, rfl, rfl, Try.underlying85, rfl, isz85⟩⟩
instance : TFld Try.prog 90 8 8 0 false := ⟨⟨_, _, _, Try.underlying90, rfl, rfl, Try.underlying86, rfl, isz86⟩⟩
instance : TFld Try.prog 90 9 9 0 false := ⟨⟨_, _, _, Try.underlying90, rfl, rfl, Try.underlying87, rfl, isz87⟩⟩
instance : TFld Try.prog 90 10 10 0 false := ⟨⟨_, _, _, Try.underlying90, rfl, rfl, Try.underlying88, rfl, isz88⟩⟩
instance : TSize Try.prog 91 1 := ⟨isz91⟩
instance : TOne Try.prog 91 := ⟨⟨_, Try.underlying91, rfl⟩, isz91⟩
instance : Enters Try.prog 3 := ⟨⟨_, Try.func3, by kernel_rfl, by kernel_rfl⟩⟩
instance : Enters Try.prog 4 := ⟨⟨_, Try.func4, by kernel_rfl, by kernel_rfl⟩⟩
instance : Enters Try.prog 5 := ⟨⟨_, Try.func5, by kernel_rfl, by kernel_rfl⟩⟩
instance : Enters Try.prog 6 := ⟨⟨_, Try.func6, by kernel_rfl, by kernel_rfl⟩⟩
instance : Enters Try.prog 7 := ⟨⟨_, Try.func7, by kernel_rfl, by kernel_rfl⟩⟩
instance : Enters Try.prog 8 := ⟨⟨_, Try.func8, by kernel_rfl, by kernel_rfl⟩⟩
instance : Enters Try.prog 9 := ⟨⟨_, Try.func9, by kernel_rfl, by kernel_rfl⟩⟩
instance : Enters Try.prog 10 := ⟨⟨_, Try.func10, by kernel_rfl, by kernel_rfl⟩⟩
instance : Enters Try.prog 11 := ⟨⟨_, Try.func11, by kernel_rfl, by kernel_rfl⟩⟩
instance : Enters Try.prog 12 := ⟨⟨_, Try.func12, by kernel_rfl, by kernel_rfl⟩⟩
instance : Enters Try.prog 13 := ⟨⟨_, Try.func13, by kernel_rfl, by kernel_rfl⟩⟩
instance : Enters Try.prog 14 := ⟨⟨_, Try.func14, by kernel_rfl, by kernel_rfl⟩⟩
instance : Enters Try.prog 15 := ⟨⟨_, Try.func15, by kernel_rfl, by kernel_rfl⟩⟩
instance : Enters Try.prog 16 := ⟨⟨_, Try.func16, by kernel_rfl, by kernel_rfl⟩⟩
instance : Enters Try.prog 17 := ⟨⟨_, Try.func17, by kernel_rfl, by kernel_rfl⟩⟩
instance : Enters Try.prog 18 := ⟨⟨_, Try.func18, by kernel_rfl, by kernel_rfl⟩⟩
instance : Enters Try.prog 19 := ⟨⟨_, Try.func19, by kernel_rfl, by kernel_rfl⟩⟩
instance : Enters Try.prog 20 := ⟨⟨_, Try.func20, by kernel_rfl, by kernel_rfl⟩⟩
instance : Enters Try.prog 21 := ⟨⟨_, Try.func21, by kernel_rfl, by kernel_rfl⟩⟩
instance : Enters Try.prog 22 := ⟨⟨_, Try.func22, by kernel_rfl, by kernel_rfl⟩⟩
instance : Enters Try.prog 23 := ⟨⟨_, Try.func23, by kernel_rfl, by kernel_rfl⟩⟩
instance : Enters Try.prog 24 := ⟨⟨_, Try.func24, by kernel_rfl, by kernel_rfl⟩⟩
instance : Enters Try.prog 25 := ⟨⟨_, Try.func25, by kernel_rfl, by kernel_rfl⟩⟩
instance : Enters Try.prog 26 := ⟨⟨_, Try.func26, by kernel_rfl, by kernel_rfl⟩⟩
instance : Enters Try.prog 27 := ⟨⟨_, Try.func27, by kernel_rfl, by kernel_rfl⟩⟩
instance : Enters Try.prog 28 := ⟨⟨_, Try.func28, by kernel_rfl, by kernel_rfl⟩⟩
instance : Enters Try.prog 29 := ⟨⟨_, Try.func29, by kernel_rfl, by kernel_rfl⟩⟩
instance : Enters Try.prog 30 := ⟨⟨_, Try.func30, by kernel_rfl, by kernel_rfl⟩⟩
instance : Enters Try.prog 31 := ⟨⟨_, Try.func31, by kernel_rfl, by kernel_rfl⟩⟩
instance : Enters Try.prog 32 := ⟨⟨_, Try.func32, by kernel_rfl, by kernel_rfl⟩⟩
instance : Enters Try.prog 33 := ⟨⟨_, Try.func33, by kernel_rfl, by kernel_rfl⟩⟩
instance : Enters Try.prog 34 := ⟨⟨_, Try.func34, by kernel_rfl, by kernel_rfl⟩⟩
instance : Enters Try.prog 35 := ⟨⟨_, Try.func35, by kernel_rfl, by kernel_rfl⟩⟩
instance : Enters Try.prog 36 := ⟨⟨_, Try.func36, by kernel_rfl, by kernel_rfl⟩⟩
instance : Enters Try.prog 37 := ⟨⟨_, Try.func37, by kernel_rfl, by kernel_rfl⟩⟩
instance : Enters Try.prog 38 := ⟨⟨_, Try.func38, by kernel_rfl, by kernel_rfl⟩⟩
instance : Enters Try.prog 39 := ⟨⟨_, Try.func39, by kernel_rfl, by kernel_rfl⟩⟩
instance : Enters Try.prog 40 := ⟨⟨_, Try.func40, by kernel_rfl, by kernel_rfl⟩⟩
instance : Enters Try.prog 41 := ⟨⟨_, Try.func41, by kernel_rfl, by kernel_rfl⟩⟩
instance : Enters Try.prog 42 := ⟨⟨_, Try.func42, by kernel_rfl, by kernel_rfl⟩⟩
instance : Enters Try.prog 43 := ⟨⟨_, Try.func43, by kernel_rfl, by kernel_rfl⟩⟩
instance : Enters Try.prog 44 := ⟨⟨_, Try.func44, by kernel_rfl, by kernel_rfl⟩⟩
instance : Enters Try.prog 45 := ⟨⟨_, Try.func45, by kernel_rfl, by kernel_rfl⟩⟩
instance : Enters Try.prog 46 := ⟨⟨_, Try.func46, by kernel_rfl, by kernel_rfl⟩⟩
instance : Enters Try.prog 47 := ⟨⟨_, Try.func47, by kernel_rfl, by kernel_rfl⟩⟩
instance : Enters Try.prog 48 := ⟨⟨_, Try.func48, by kernel_rfl, by kernel_rfl⟩⟩
instance : Enters Try.prog 49 := ⟨⟨_, Try.func49, by kernel_rfl, by kernel_rfl⟩⟩
instance : Enters Try.prog 50 := ⟨⟨_, Try.func50, by kernel_rfl, by kernel_rfl⟩⟩
instance : Enters Try.prog 51 := ⟨⟨_, Try.func51, by kernel_rfl, by kernel_rfl⟩⟩
instance : Enters Try.prog 52 := ⟨⟨_, Try.func52, by kernel_rfl, by kernel_rfl⟩⟩
end Go.Proofs.Ytdopillligfdiaa
