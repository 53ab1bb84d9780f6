/- What the types and functions of this translation are, one instance each. (Written by wip/inst.py.). -/
import Derived.Test.YtbphihljkbdfpaaGreatDoorZ1
import Derived.Test.YtbphihljkbdfpaaGreatDoorProg
namespace Go.Proofs.YtbphihljkbdfpaaGreatDoor
set_option linter.unusedVariables false
theorem isz0 : (Tryz.prog.info? 0).map (·.size) = some 1 := by kernel_rfl
theorem isz1 : (Tryz.prog.info? 1).map (·.size) = some 1 := by kernel_rfl
theorem isz2 : (Tryz.prog.info? 2).map (·.size) = some 1 := by kernel_rfl
theorem isz3 : (Tryz.prog.info? 3).map (·.size) = some 1 := by kernel_rfl
theorem isz4 : (Tryz.prog.info? 4).map (·.size) = some 1 := by kernel_rfl
theorem isz5 : (Tryz.prog.info? 5).map (·.size) = some 1 := by kernel_rfl
theorem isz6 : (Tryz.prog.info? 6).map (·.size) = some 1 := by kernel_rfl
theorem isz7 : (Tryz.prog.info? 7).map (·.size) = some 4 := by kernel_rfl
theorem isz8 : (Tryz.prog.info? 8).map (·.size) = some 4 := by kernel_rfl
theorem isz9 : (Tryz.prog.info? 9).map (·.size) = some 1 := by kernel_rfl
theorem isz10 : (Tryz.prog.info? 10).map (·.size) = some 1 := by kernel_rfl
theorem isz11 : (Tryz.prog.info? 11).map (·.size) = some 1 := by kernel_rfl
theorem isz12 : (Tryz.prog.info? 12).map (·.size) = some 1 := by kernel_rfl
theorem isz13 : (Tryz.prog.info? 13).map (·.size) = some 2 := by kernel_rfl
theorem isz14 : (Tryz.prog.info? 14).map (·.size) = some 2 := by kernel_rfl
theorem isz15 : (Tryz.prog.info? 15).map (·.size) = some 1 := by kernel_rfl
theorem isz16 : (Tryz.prog.info? 16).map (·.size) = some 1 := by kernel_rfl
theorem isz17 : (Tryz.prog.info? 17).map (·.size) = some 1 := by kernel_rfl
theorem isz18 : (Tryz.prog.info? 18).map (·.size) = some 1 := by kernel_rfl
theorem isz19 : (Tryz.prog.info? 19).map (·.size) = some 1 := by kernel_rfl
theorem isz20 : (Tryz.prog.info? 20).map (·.size) = some 1 := by kernel_rfl
theorem isz21 : (Tryz.prog.info? 21).map (·.size) = some 1 := by kernel_rfl
theorem isz22 : (Tryz.prog.info? 22).map (·.size) = some 1 := by kernel_rfl
theorem isz23 : (Tryz.prog.info? 23).map (·.size) = some 1 := by kernel_rfl
theorem isz24 : (Tryz.prog.info? 24).map (·.size) = some 1 := by kernel_rfl
theorem isz25 : (Tryz.prog.info? 25).map (·.size) = some 6 := by kernel_rfl
theorem isz26 : (Tryz.prog.info? 26).map (·.size) = some 6 := by kernel_rfl
theorem isz27 : (Tryz.prog.info? 27).map (·.size) = some 1 := by kernel_rfl
theorem isz28 : (Tryz.prog.info? 28).map (·.size) = some 1 := by kernel_rfl
theorem isz29 : (Tryz.prog.info? 29).map (·.size) = some 1 := by kernel_rfl
theorem isz30 : (Tryz.prog.info? 30).map (·.size) = some 1 := by kernel_rfl
theorem isz31 : (Tryz.prog.info? 31).map (·.size) = some 1 := by kernel_rfl
theorem isz32 : (Tryz.prog.info? 32).map (·.size) = some 1 := by kernel_rfl
theorem isz33 : (Tryz.prog.info? 33).map (·.size) = some 1 := by kernel_rfl
theorem isz34 : (Tryz.prog.info? 34).map (·.size) = some 1 := by kernel_rfl
theorem isz35 : (Tryz.prog.info? 35).map (·.size) = some 1 := by kernel_rfl
theorem isz36 : (Tryz.prog.info? 36).map (·.size) = some 1 := by kernel_rfl
theorem isz37 : (Tryz.prog.info? 37).map (·.size) = some 1 := by kernel_rfl
theorem isz38 : (Tryz.prog.info? 38).map (·.size) = some 1 := by kernel_rfl
theorem isz39 : (Tryz.prog.info? 39).map (·.size) = some 1 := by kernel_rfl
theorem isz40 : (Tryz.prog.info? 40).map (·.size) = some 1 := by kernel_rfl
theorem isz41 : (Tryz.prog.info? 41).map (·.size) = some 1 := by kernel_rfl
theorem isz42 : (Tryz.prog.info? 42).map (·.size) = some 1 := by kernel_rfl
theorem isz43 : (Tryz.prog.info? 43).map (·.size) = some 1 := by kernel_rfl
theorem isz44 : (Tryz.prog.info? 44).map (·.size) = some 1 := by kernel_rfl
theorem isz45 : (Tryz.prog.info? 45).map (·.size) = some 1 := by kernel_rfl
theorem isz46 : (Tryz.prog.info? 46).map (·.size) = some 1 := by kernel_rfl
theorem isz47 : (Tryz.prog.info? 47).map (·.size) = some 1 := by kernel_rfl
theorem isz48 : (Tryz.prog.info? 48).map (·.size) = some 1 := by kernel_rfl
theorem isz49 : (Tryz.prog.info? 49).map (·.size) = some 1 := by kernel_rfl
theorem isz50 : (Tryz.prog.info? 50).map (·.size) = some 1 := by kernel_rfl
theorem isz51 : (Tryz.prog.info? 51).map (·.size) = some 1 := by kernel_rfl
theorem isz52 : (Tryz.prog.info? 52).map (·.size) = some 1 := by kernel_rfl
theorem isz53 : (Tryz.prog.info? 53).map (·.size) = some 1 := by kernel_rfl
theorem isz54 : (Tryz.prog.info? 54).map (·.size) = some 1 := by kernel_rfl
theorem isz55 : (Tryz.prog.info? 55).map (·.size) = some 1 := by kernel_rfl
theorem isz56 : (Tryz.prog.info? 56).map (·.size) = some 1 := by kernel_rfl
theorem isz57 : (Tryz.prog.info? 57).map (·.size) = some 1 := by kernel_rfl
theorem isz58 : (Tryz.prog.info? 58).map (·.size) = some 1 := by kernel_rfl
theorem isz59 : (Tryz.prog.info? 59).map (·.size) = some 7 := by kernel_rfl
theorem isz60 : (Tryz.prog.info? 60).map (·.size) = some 7 := by kernel_rfl
theorem isz61 : (Tryz.prog.info? 61).map (·.size) = some 1 := by kernel_rfl
theorem isz62 : (Tryz.prog.info? 62).map (·.size) = some 1 := by kernel_rfl
theorem isz63 : (Tryz.prog.info? 63).map (·.size) = some 1 := by kernel_rfl
theorem isz64 : (Tryz.prog.info? 64).map (·.size) = some 1 := by kernel_rfl
theorem isz65 : (Tryz.prog.info? 65).map (·.size) = some 3 := by kernel_rfl
theorem isz66 : (Tryz.prog.info? 66).map (·.size) = some 3 := by kernel_rfl
theorem isz67 : (Tryz.prog.info? 67).map (·.size) = some 1 := by kernel_rfl
theorem isz68 : (Tryz.prog.info? 68).map (·.size) = some 1 := by kernel_rfl
theorem isz69 : (Tryz.prog.info? 69).map (·.size) = some 1 := by kernel_rfl
theorem isz70 : (Tryz.prog.info? 70).map (·.size) = some 1 := by kernel_rfl
theorem isz71 : (Tryz.prog.info? 71).map (·.size) = some 1 := by kernel_rfl
theorem isz72 : (Tryz.prog.info? 72).map (·.size) = some 1 := by kernel_rfl
theorem isz73 : (Tryz.prog.info? 73).map (·.size) = some 1 := by kernel_rfl
theorem isz74 : (Tryz.prog.info? 74).map (·.size) = some 1 := by kernel_rfl
theorem isz75 : (Tryz.prog.info? 75).map (·.size) = some 1 := by kernel_rfl
theorem isz76 : (Tryz.prog.info? 76).map (·.size) = some 1 := by kernel_rfl
theorem isz77 : (Tryz.prog.info? 77).map (·.size) = some 1 := by kernel_rfl
theorem isz78 : (Tryz.prog.info? 78).map (·.size) = some 1 := by kernel_rfl
theorem isz79 : (Tryz.prog.info? 79).map (·.size) = some 1 := by kernel_rfl
theorem isz80 : (Tryz.prog.info? 80).map (·.size) = some 1 := by kernel_rfl
theorem isz81 : (Tryz.prog.info? 81).map (·.size) = some 1 := by kernel_rfl
theorem isz82 : (Tryz.prog.info? 82).map (·.size) = some 1 := by kernel_rfl
theorem isz83 : (Tryz.prog.info? 83).map (·.size) = some 1 := by kernel_rfl
theorem isz84 : (Tryz.prog.info? 84).map (·.size) = some 1 := by kernel_rfl
theorem isz85 : (Tryz.prog.info? 85).map (·.size) = some 1 := by kernel_rfl
theorem isz86 : (Tryz.prog.info? 86).map (·.size) = some 1 := by kernel_rfl
theorem isz87 : (Tryz.prog.info? 87).map (·.size) = some 1 := by kernel_rfl
theorem isz88 : (Tryz.prog.info? 88).map (·.size) = some 1 := by kernel_rfl
theorem isz89 : (Tryz.prog.info? 89).map (·.size) = some 1 := by kernel_rfl
theorem isz90 : (Tryz.prog.info? 90).map (·.size) = some 1 := by kernel_rfl
theorem isz91 : (Tryz.prog.info? 91).map (·.size) = some 1 := by kernel_rfl
theorem isz92 : (Tryz.prog.info? 92).map (·.size) = some 1 := by kernel_rfl
theorem isz93 : (Tryz.prog.info? 93).map (·.size) = some 1 := by kernel_rfl
theorem isz94 : (Tryz.prog.info? 94).map (·.size) = some 1 := by kernel_rfl
theorem isz95 : (Tryz.prog.info? 95).map (·.size) = some 1 := by kernel_rfl
theorem isz96 : (Tryz.prog.info? 96).map (·.size) = some 1 := by kernel_rfl
theorem isz97 : (Tryz.prog.info? 97).map (·.size) = some 1 := by kernel_rfl
theorem isz98 : (Tryz.prog.info? 98).map (·.size) = some 1 := by kernel_rfl
theorem isz99 : (Tryz.prog.info? 99).map (·.size) = some 1 := by kernel_rfl
theorem isz100 : (Tryz.prog.info? 100).map (·.size) = some 1 := by kernel_rfl
theorem isz101 : (Tryz.prog.info? 101).map (·.size) = some 1 := by kernel_rfl
theorem isz102 : (Tryz.prog.info? 102).map (·.size) = some 1 := by kernel_rfl
theorem isz103 : (Tryz.prog.info? 103).map (·.size) = some 1 := by kernel_rfl
theorem isz104 : (Tryz.prog.info? 104).map (·.size) = some 1 := by kernel_rfl
theorem isz105 : (Tryz.prog.info? 105).map (·.size) = some 1 := by kernel_rfl
theorem isz106 : (Tryz.prog.info? 106).map (·.size) = some 1 := by kernel_rfl
theorem isz107 : (Tryz.prog.info? 107).map (·.size) = some 1 := by kernel_rfl
theorem isz108 : (Tryz.prog.info? 108).map (·.size) = some 1 := by kernel_rfl
theorem isz109 : (Tryz.prog.info? 109).map (·.size) = some 1 := by kernel_rfl
theorem isz110 : (Tryz.prog.info? 110).map (·.size) = some 1 := by kernel_rfl
theorem isz111 : (Tryz.prog.info? 111).map (·.size) = some 1 := by kernel_rfl
theorem isz112 : (Tryz.prog.info? 112).map (·.size) = some 24 := by kernel_rfl
theorem isz113 : (Tryz.prog.info? 113).map (·.size) = some 1 := by kernel_rfl
theorem isz114 : (Tryz.prog.info? 114).map (·.size) = some 1 := by kernel_rfl
theorem isz115 : (Tryz.prog.info? 115).map (·.size) = some 1 := by kernel_rfl
theorem isz116 : (Tryz.prog.info? 116).map (·.size) = some 1 := by kernel_rfl
theorem isz117 : (Tryz.prog.info? 117).map (·.size) = some 1 := by kernel_rfl
theorem isz118 : (Tryz.prog.info? 118).map (·.size) = some 1 := by kernel_rfl
theorem isz119 : (Tryz.prog.info? 119).map (·.size) = some 1 := by kernel_rfl
theorem isz120 : (Tryz.prog.info? 120).map (·.size) = some 1 := by kernel_rfl
theorem isz121 : (Tryz.prog.info? 121).map (·.size) = some 1 := by kernel_rfl
theorem isz122 : (Tryz.prog.info? 122).map (·.size) = some 2 := by kernel_rfl
theorem isz123 : (Tryz.prog.info? 123).map (·.size) = some 2 := by kernel_rfl
theorem isz124 : (Tryz.prog.info? 124).map (·.size) = some 1 := by kernel_rfl
theorem isz125 : (Tryz.prog.info? 125).map (·.size) = some 1 := by kernel_rfl
theorem isz126 : (Tryz.prog.info? 126).map (·.size) = some 1 := by kernel_rfl
theorem isz127 : (Tryz.prog.info? 127).map (·.size) = some 1 := by kernel_rfl
theorem isz128 : (Tryz.prog.info? 128).map (·.size) = some 1 := by kernel_rfl
theorem isz129 : (Tryz.prog.info? 129).map (·.size) = some 1 := by kernel_rfl
theorem isz130 : (Tryz.prog.info? 130).map (·.size) = some 4 := by kernel_rfl
theorem isz131 : (Tryz.prog.info? 131).map (·.size) = some 4 := by kernel_rfl
theorem isz132 : (Tryz.prog.info? 132).map (·.size) = some 1 := by kernel_rfl
theorem isz133 : (Tryz.prog.info? 133).map (·.size) = some 1 := by kernel_rfl
theorem isz134 : (Tryz.prog.info? 134).map (·.size) = some 1 := by kernel_rfl
theorem isz135 : (Tryz.prog.info? 135).map (·.size) = some 1 := by kernel_rfl
theorem isz136 : (Tryz.prog.info? 136).map (·.size) = some 1 := by kernel_rfl
theorem isz137 : (Tryz.prog.info? 137).map (·.size) = some 256 := by kernel_rfl
theorem isz138 : (Tryz.prog.info? 138).map (·.size) = some 256 := by kernel_rfl
theorem isz139 : (Tryz.prog.info? 139).map (·.size) = some 1 := by kernel_rfl
theorem isz140 : (Tryz.prog.info? 140).map (·.size) = some 1 := by kernel_rfl
theorem isz141 : (Tryz.prog.info? 141).map (·.size) = some 1 := by kernel_rfl
theorem isz142 : (Tryz.prog.info? 142).map (·.size) = some 1 := by kernel_rfl
theorem isz143 : (Tryz.prog.info? 143).map (·.size) = some 1 := by kernel_rfl
theorem isz144 : (Tryz.prog.info? 144).map (·.size) = some 1 := by kernel_rfl
theorem isz145 : (Tryz.prog.info? 145).map (·.size) = some 1 := by kernel_rfl
theorem isz146 : (Tryz.prog.info? 146).map (·.size) = some 1 := by kernel_rfl
theorem isz147 : (Tryz.prog.info? 147).map (·.size) = some 20 := by kernel_rfl
theorem isz148 : (Tryz.prog.info? 148).map (·.size) = some 1 := by kernel_rfl
theorem isz149 : (Tryz.prog.info? 149).map (·.size) = some 65 := by kernel_rfl
theorem isz150 : (Tryz.prog.info? 150).map (·.size) = some 1 := by kernel_rfl
theorem isz154 : (Tryz.prog.info? 154).map (·.size) = some 1 := by kernel_rfl
theorem isz155 : (Tryz.prog.info? 155).map (·.size) = some 1 := by kernel_rfl
theorem isz156 : (Tryz.prog.info? 156).map (·.size) = some 2 := by kernel_rfl
theorem isz157 : (Tryz.prog.info? 157).map (·.size) = some 2 := by kernel_rfl
theorem isz158 : (Tryz.prog.info? 158).map (·.size) = some 2 := by kernel_rfl
theorem isz159 : (Tryz.prog.info? 159).map (·.size) = some 2 := by kernel_rfl
theorem isz160 : (Tryz.prog.info? 160).map (·.size) = some 3 := by kernel_rfl
theorem isz161 : (Tryz.prog.info? 161).map (·.size) = some 3 := by kernel_rfl
theorem isz162 : (Tryz.prog.info? 162).map (·.size) = some 1 := by kernel_rfl
theorem isz163 : (Tryz.prog.info? 163).map (·.size) = some 1 := by kernel_rfl
theorem isz164 : (Tryz.prog.info? 164).map (·.size) = some 5 := by kernel_rfl
theorem isz165 : (Tryz.prog.info? 165).map (·.size) = some 5 := by kernel_rfl
theorem isz166 : (Tryz.prog.info? 166).map (·.size) = some 1 := by kernel_rfl
theorem isz167 : (Tryz.prog.info? 167).map (·.size) = some 1 := by kernel_rfl
theorem isz168 : (Tryz.prog.info? 168).map (·.size) = some 4 := by kernel_rfl
theorem isz169 : (Tryz.prog.info? 169).map (·.size) = some 4 := by kernel_rfl
theorem isz170 : (Tryz.prog.info? 170).map (·.size) = some 1 := by kernel_rfl
theorem isz171 : (Tryz.prog.info? 171).map (·.size) = some 1 := by kernel_rfl
theorem isz172 : (Tryz.prog.info? 172).map (·.size) = some 4 := by kernel_rfl
theorem isz173 : (Tryz.prog.info? 173).map (·.size) = some 1 := by kernel_rfl
theorem isz174 : (Tryz.prog.info? 174).map (·.size) = some 1 := by kernel_rfl
theorem isz175 : (Tryz.prog.info? 175).map (·.size) = some 1 := by kernel_rfl
theorem isz176 : (Tryz.prog.info? 176).map (·.size) = some 1 := by kernel_rfl
theorem isz177 : (Tryz.prog.info? 177).map (·.size) = some 1 := by kernel_rfl
theorem isz178 : (Tryz.prog.info? 178).map (·.size) = some 1 := by kernel_rfl
theorem isz179 : (Tryz.prog.info? 179).map (·.size) = some 1 := by kernel_rfl
theorem isz180 : (Tryz.prog.info? 180).map (·.size) = some 1 := by kernel_rfl
theorem isz181 : (Tryz.prog.info? 181).map (·.size) = some 1 := by kernel_rfl
theorem isz182 : (Tryz.prog.info? 182).map (·.size) = some 1 := by kernel_rfl
theorem isz183 : (Tryz.prog.info? 183).map (·.size) = some 1 := by kernel_rfl
theorem isz184 : (Tryz.prog.info? 184).map (·.size) = some 1 := by kernel_rfl
theorem isz185 : (Tryz.prog.info? 185).map (·.size) = some 1 := by kernel_rfl
theorem isz186 : (Tryz.prog.info? 186).map (·.size) = some 1 := by kernel_rfl
theorem isz187 : (Tryz.prog.info? 187).map (·.size) = some 1 := by kernel_rfl
theorem isz188 : (Tryz.prog.info? 188).map (·.size) = some 1 := by kernel_rfl
theorem isz189 : (Tryz.prog.info? 189).map (·.size) = some 1 := by kernel_rfl
theorem isz190 : (Tryz.prog.info? 190).map (·.size) = some 1 := by kernel_rfl
theorem isz191 : (Tryz.prog.info? 191).map (·.size) = some 1 := by kernel_rfl
theorem isz192 : (Tryz.prog.info? 192).map (·.size) = some 32 := by kernel_rfl
theorem isz193 : (Tryz.prog.info? 193).map (·.size) = some 64 := by kernel_rfl
theorem isz194 : (Tryz.prog.info? 194).map (·.size) = some 1 := by kernel_rfl
theorem isz195 : (Tryz.prog.info? 195).map (·.size) = some 1 := by kernel_rfl
theorem isz196 : (Tryz.prog.info? 196).map (·.size) = some 1 := by kernel_rfl
theorem isz197 : (Tryz.prog.info? 197).map (·.size) = some 1 := by kernel_rfl
theorem isz198 : (Tryz.prog.info? 198).map (·.size) = some 1 := by kernel_rfl
theorem isz199 : (Tryz.prog.info? 199).map (·.size) = some 1 := by kernel_rfl
theorem isz200 : (Tryz.prog.info? 200).map (·.size) = some 1 := by kernel_rfl
theorem isz201 : (Tryz.prog.info? 201).map (·.size) = some 1 := by kernel_rfl
theorem isz202 : (Tryz.prog.info? 202).map (·.size) = some 256 := by kernel_rfl
theorem isz203 : (Tryz.prog.info? 203).map (·.size) = some 256 := by kernel_rfl
theorem isz204 : (Tryz.prog.info? 204).map (·.size) = some 1 := by kernel_rfl
theorem isz205 : (Tryz.prog.info? 205).map (·.size) = some 256 := by kernel_rfl
theorem isz206 : (Tryz.prog.info? 206).map (·.size) = some 257 := by kernel_rfl
theorem isz207 : (Tryz.prog.info? 207).map (·.size) = some 257 := by kernel_rfl
theorem isz208 : (Tryz.prog.info? 208).map (·.size) = some 1 := by kernel_rfl
theorem isz209 : (Tryz.prog.info? 209).map (·.size) = some 2 := by kernel_rfl
theorem isz210 : (Tryz.prog.info? 210).map (·.size) = some 2 := by kernel_rfl
theorem isz211 : (Tryz.prog.info? 211).map (·.size) = some 32 := by kernel_rfl
theorem isz212 : (Tryz.prog.info? 212).map (·.size) = some 1 := by kernel_rfl
theorem isz213 : (Tryz.prog.info? 213).map (·.size) = some 1 := by kernel_rfl
theorem isz214 : (Tryz.prog.info? 214).map (·.size) = some 1 := by kernel_rfl
theorem isz215 : (Tryz.prog.info? 215).map (·.size) = some 1 := by kernel_rfl
theorem isz216 : (Tryz.prog.info? 216).map (·.size) = some 1 := by kernel_rfl
theorem isz217 : (Tryz.prog.info? 217).map (·.size) = some 1 := by kernel_rfl
theorem isz218 : (Tryz.prog.info? 218).map (·.size) = some 2 := by kernel_rfl
theorem isz219 : (Tryz.prog.info? 219).map (·.size) = some 2 := by kernel_rfl
theorem isz220 : (Tryz.prog.info? 220).map (·.size) = some 1 := by kernel_rfl
theorem isz221 : (Tryz.prog.info? 221).map (·.size) = some 1 := by kernel_rfl
theorem isz222 : (Tryz.prog.info? 222).map (·.size) = some 5 := by kernel_rfl
theorem isz223 : (Tryz.prog.info? 223).map (·.size) = some 5 := by kernel_rfl
theorem isz224 : (Tryz.prog.info? 224).map (·.size) = some 262 := by kernel_rfl
theorem isz225 : (Tryz.prog.info? 225).map (·.size) = some 262 := by kernel_rfl
theorem isz226 : (Tryz.prog.info? 226).map (·.size) = some 1 := by kernel_rfl
theorem isz227 : (Tryz.prog.info? 227).map (·.size) = some 1 := by kernel_rfl
theorem isz228 : (Tryz.prog.info? 228).map (·.size) = some 1 := by kernel_rfl
theorem isz229 : (Tryz.prog.info? 229).map (·.size) = some 1 := by kernel_rfl
theorem isz230 : (Tryz.prog.info? 230).map (·.size) = some 1 := by kernel_rfl
theorem isz231 : (Tryz.prog.info? 231).map (·.size) = some 1 := by kernel_rfl
theorem isz232 : (Tryz.prog.info? 232).map (·.size) = some 1 := by kernel_rfl
theorem isz233 : (Tryz.prog.info? 233).map (·.size) = some 1 := by kernel_rfl
theorem isz234 : (Tryz.prog.info? 234).map (·.size) = some 256 := by kernel_rfl
theorem isz235 : (Tryz.prog.info? 235).map (·.size) = some 258 := by kernel_rfl
theorem isz236 : (Tryz.prog.info? 236).map (·.size) = some 258 := by kernel_rfl
theorem isz237 : (Tryz.prog.info? 237).map (·.size) = some 1 := by kernel_rfl
theorem isz238 : (Tryz.prog.info? 238).map (·.size) = some 1 := by kernel_rfl
theorem isz239 : (Tryz.prog.info? 239).map (·.size) = some 1 := by kernel_rfl
theorem isz240 : (Tryz.prog.info? 240).map (·.size) = some 1 := by kernel_rfl
theorem isz241 : (Tryz.prog.info? 241).map (·.size) = some 1 := by kernel_rfl
theorem isz242 : (Tryz.prog.info? 242).map (·.size) = some 1 := by kernel_rfl
theorem isz243 : (Tryz.prog.info? 243).map (·.size) = some 1 := by kernel_rfl
theorem isz244 : (Tryz.prog.info? 244).map (·.size) = some 1 := by kernel_rfl
theorem isz245 : (Tryz.prog.info? 245).map (·.size) = some 1 := by kernel_rfl
theorem isz246 : (Tryz.prog.info? 246).map (·.size) = some 1 := by kernel_rfl
theorem isz247 : (Tryz.prog.info? 247).map (·.size) = some 1 := by kernel_rfl
theorem isz248 : (Tryz.prog.info? 248).map (·.size) = some 3 := by kernel_rfl
theorem isz249 : (Tryz.prog.info? 249).map (·.size) = some 3 := by kernel_rfl
theorem isz250 : (Tryz.prog.info? 250).map (·.size) = some 1 := by kernel_rfl
theorem isz251 : (Tryz.prog.info? 251).map (·.size) = some 1 := by kernel_rfl
theorem isz252 : (Tryz.prog.info? 252).map (·.size) = some 1 := by kernel_rfl
theorem isz253 : (Tryz.prog.info? 253).map (·.size) = some 1 := by kernel_rfl
theorem isz254 : (Tryz.prog.info? 254).map (·.size) = some 1 := by kernel_rfl
theorem isz255 : (Tryz.prog.info? 255).map (·.size) = some 4 := by kernel_rfl
theorem isz256 : (Tryz.prog.info? 256).map (·.size) = some 4 := by kernel_rfl
theorem isz260 : (Tryz.prog.info? 260).map (·.size) = some 1 := by kernel_rfl
theorem isz261 : (Tryz.prog.info? 261).map (·.size) = some 1 := by kernel_rfl
theorem isz262 : (Tryz.prog.info? 262).map (·.size) = some 1 := by kernel_rfl
theorem isz263 : (Tryz.prog.info? 263).map (·.size) = some 1 := by kernel_rfl
theorem isz264 : (Tryz.prog.info? 264).map (·.size) = some 1 := by kernel_rfl
theorem isz265 : (Tryz.prog.info? 265).map (·.size) = some 1 := by kernel_rfl
theorem isz266 : (Tryz.prog.info? 266).map (·.size) = some 11 := by kernel_rfl
theorem isz267 : (Tryz.prog.info? 267).map (·.size) = some 11 := by kernel_rfl
theorem isz268 : (Tryz.prog.info? 268).map (·.size) = some 1 := by kernel_rfl
theorem isz269 : (Tryz.prog.info? 269).map (·.size) = some 1 := by kernel_rfl
theorem isz270 : (Tryz.prog.info? 270).map (·.size) = some 1 := by kernel_rfl
theorem isz271 : (Tryz.prog.info? 271).map (·.size) = some 1 := by kernel_rfl
theorem isz272 : (Tryz.prog.info? 272).map (·.size) = some 1 := by kernel_rfl
theorem isz273 : (Tryz.prog.info? 273).map (·.size) = some 1 := by kernel_rfl
theorem isz274 : (Tryz.prog.info? 274).map (·.size) = some 1 := by kernel_rfl
theorem isz275 : (Tryz.prog.info? 275).map (·.size) = some 1 := by kernel_rfl
theorem isz276 : (Tryz.prog.info? 276).map (·.size) = some 1 := by kernel_rfl
theorem isz277 : (Tryz.prog.info? 277).map (·.size) = some 1 := by kernel_rfl
theorem isz278 : (Tryz.prog.info? 278).map (·.size) = some 1 := by kernel_rfl
theorem isz279 : (Tryz.prog.info? 279).map (·.size) = some 1 := by kernel_rfl
theorem isz280 : (Tryz.prog.info? 280).map (·.size) = some 1 := by kernel_rfl
theorem isz281 : (Tryz.prog.info? 281).map (·.size) = some 1 := by kernel_rfl
instance : TSize Tryz.prog 0 1 := ⟨isz0⟩
instance : TOne Tryz.prog 0 := ⟨⟨_, Tryz.underlying0, rfl⟩, isz0⟩
instance : TSize Tryz.prog 1 1 := ⟨isz1⟩
instance : TOne Tryz.prog 1 := ⟨⟨_, Tryz.underlying1, rfl⟩, isz1⟩
instance : TZer Tryz.prog 1 [.nilFunc] := ⟨by kernel_rfl⟩
instance : TSize Tryz.prog 2 1 := ⟨isz2⟩
instance : TOne Tryz.prog 2 := ⟨⟨_, Tryz.underlying2, rfl⟩, isz2⟩
instance : TInt Tryz.prog 2 .i64 := ⟨Tryz.underlying2⟩
instance : TZer Tryz.prog 2 [.int .i64 0] := ⟨by kernel_rfl⟩
instance : TSize Tryz.prog 3 1 := ⟨isz3⟩
instance : TOne Tryz.prog 3 := ⟨⟨_, Tryz.underlying3, rfl⟩, isz3⟩
instance : TInt Tryz.prog 3 .i64 := ⟨Tryz.underlying3⟩
instance : TZer Tryz.prog 3 [.int .i64 0] := ⟨by kernel_rfl⟩
instance : TSize Tryz.prog 4 1 := ⟨isz4⟩
instance : TOne Tryz.prog 4 := ⟨⟨_, Tryz.underlying4, rfl⟩, isz4⟩
instance : TBool Tryz.prog 4 := ⟨Tryz.underlying4⟩
instance : TZer Tryz.prog 4 [.bool false] := ⟨by kernel_rfl⟩
instance : TSize Tryz.prog 5 1 := ⟨isz5⟩
instance : TOne Tryz.prog 5 := ⟨⟨_, Tryz.underlying5, rfl⟩, isz5⟩
instance : TInt Tryz.prog 5 .u8 := ⟨Tryz.underlying5⟩
instance : TZer Tryz.prog 5 [.int .u8 0] := ⟨by kernel_rfl⟩
instance : TSize Tryz.prog 6 1 := ⟨isz6⟩
instance : TOne Tryz.prog 6 := ⟨⟨_, Tryz.underlying6, rfl⟩, isz6⟩
instance : TInt Tryz.prog 6 .u8 := ⟨Tryz.underlying6⟩
instance : TZer Tryz.prog 6 [.int .u8 0] := ⟨by kernel_rfl⟩
instance : TSize Tryz.prog 7 4 := ⟨isz7⟩
instance : TRow Tryz.prog 7 4 := ⟨⟨_, Tryz.underlying7, rfl⟩, isz7⟩
instance : TZer Tryz.prog 7 [.int .i64 0, .int .i64 0, .bool false, .int .u8 0] := ⟨by kernel_rfl⟩
instance : TStruct Tryz.prog 7 [(0, 1), (1, 1), (2, 1), (3, 1)] := ⟨⟨_, Tryz.underlying7, by kernel_rfl⟩⟩
instance : TFld Tryz.prog 7 0 0 0 false := ⟨⟨_, _, _, Tryz.underlying7, rfl, rfl, Tryz.underlying2, rfl, isz2⟩⟩
instance : TFld Tryz.prog 7 1 1 0 false := ⟨⟨_, _, _, Tryz.underlying7, rfl, rfl, Tryz.underlying3, rfl, isz3⟩⟩
instance : TFld Tryz.prog 7 2 2 0 false := ⟨⟨_, _, _, Tryz.underlying7, rfl, rfl, Tryz.underlying4, rfl, isz4⟩⟩
instance : TFld Tryz.prog 7 3 3 0 false := ⟨⟨_, _, _, Tryz.underlying7, rfl, rfl, Tryz.underlying6, rfl, isz6⟩⟩
instance : TSize Tryz.prog 8 4 := ⟨isz8⟩
instance : TRow Tryz.prog 8 4 := ⟨⟨_, Tryz.underlying8, rfl⟩, isz8⟩
instance : TZer Tryz.prog 8 [.int .i64 0, .int .i64 0, .bool false, .int .u8 0] := ⟨by kernel_rfl⟩
instance : TStruct Tryz.prog 8 [(0, 1), (1, 1), (2, 1), (3, 1)] := ⟨⟨_, Tryz.underlying8, by kernel_rfl⟩⟩
instance : TFld Tryz.prog 8 0 0 0 false := ⟨⟨_, _, _, Tryz.underlying8, rfl, rfl, Tryz.underlying2, rfl, isz2⟩⟩
instance : TFld Tryz.prog 8 1 1 0 false := ⟨⟨_, _, _, Tryz.underlying8, rfl, rfl, Tryz.underlying3, rfl, isz3⟩⟩
instance : TFld Tryz.prog 8 2 2 0 false := ⟨⟨_, _, _, Tryz.underlying8, rfl, rfl, Tryz.underlying4, rfl, isz4⟩⟩
instance : TFld Tryz.prog 8 3 3 0 false := ⟨⟨_, _, _, Tryz.underlying8, rfl, rfl, Tryz.underlying6, rfl, isz6⟩⟩
instance : TSize Tryz.prog 9 1 := ⟨isz9⟩
instance : TOne Tryz.prog 9 := ⟨⟨_, Tryz.underlying9, rfl⟩, isz9⟩
instance : TStr Tryz.prog 9 := ⟨Tryz.underlying9⟩
instance : TZer Tryz.prog 9 [.string ⟨#[]⟩] := ⟨by kernel_rfl⟩
instance : TSize Tryz.prog 10 1 := ⟨isz10⟩
instance : TOne Tryz.prog 10 := ⟨⟨_, Tryz.underlying10, rfl⟩, isz10⟩
instance : TStr Tryz.prog 10 := ⟨Tryz.underlying10⟩
instance : TZer Tryz.prog 10 [.string ⟨#[]⟩] := ⟨by kernel_rfl⟩
instance : TSize Tryz.prog 11 1 := ⟨isz11⟩
instance : TOne Tryz.prog 11 := ⟨⟨_, Tryz.underlying11, rfl⟩, isz11⟩
instance : TStr Tryz.prog 11 := ⟨Tryz.underlying11⟩
instance : TZer Tryz.prog 11 [.string ⟨#[]⟩] := ⟨by kernel_rfl⟩
instance : TSize Tryz.prog 12 1 := ⟨isz12⟩
instance : TOne Tryz.prog 12 := ⟨⟨_, Tryz.underlying12, rfl⟩, isz12⟩
instance : TInt Tryz.prog 12 .u64 := ⟨Tryz.underlying12⟩
instance : TZer Tryz.prog 12 [.int .u64 0] := ⟨by kernel_rfl⟩
instance : TSize Tryz.prog 13 2 := ⟨isz13⟩
instance : TRow Tryz.prog 13 2 := ⟨⟨_, Tryz.underlying13, rfl⟩, isz13⟩
instance : TZer Tryz.prog 13 [.string ⟨#[]⟩, .int .u64 0] := ⟨by kernel_rfl⟩
instance : TStruct Tryz.prog 13 [(0, 1), (1, 1)] := ⟨⟨_, Tryz.underlying13, by kernel_rfl⟩⟩
instance : TFld Tryz.prog 13 0 0 0 false := ⟨⟨_, _, _, Tryz.underlying13, rfl, rfl, Tryz.underlying9, rfl, isz9⟩⟩
instance : TFld Tryz.prog 13 1 1 0 false := ⟨⟨_, _, _, Tryz.underlying13, rfl, rfl, Tryz.underlying12, rfl, isz12⟩⟩
instance : TSize Tryz.prog 14 2 := ⟨isz14⟩
instance : TRow Tryz.prog 14 2 := ⟨⟨_, Tryz.underlying14, rfl⟩, isz14⟩
instance : TZer Tryz.prog 14 [.string ⟨#[]⟩, .int .u64 0] := ⟨by kernel_rfl⟩
instance : TStruct Tryz.prog 14 [(0, 1), (1, 1)] := ⟨⟨_, Tryz.underlying14, by kernel_rfl⟩⟩
instance : TFld Tryz.prog 14 0 0 0 false := ⟨⟨_, _, _, Tryz.underlying14, rfl, rfl, Tryz.underlying9, rfl, isz9⟩⟩
instance : TFld Tryz.prog 14 1 1 0 false := ⟨⟨_, _, _, Tryz.underlying14, rfl, rfl, Tryz.underlying12, rfl, isz12⟩⟩
instance : TSize Tryz.prog 15 1 := ⟨isz15⟩
instance : TOne Tryz.prog 15 := ⟨⟨_, Tryz.underlying15, rfl⟩, isz15⟩
instance : TZer Tryz.prog 15 [.pointer none] := ⟨by kernel_rfl⟩
instance : TSize Tryz.prog 16 1 := ⟨isz16⟩
instance : TOne Tryz.prog 16 := ⟨⟨_, Tryz.underlying16, rfl⟩, isz16⟩
instance : TZer Tryz.prog 16 [.pointer none] := ⟨by kernel_rfl⟩
instance : TSize Tryz.prog 17 1 := ⟨isz17⟩
instance : TOne Tryz.prog 17 := ⟨⟨_, Tryz.underlying17, rfl⟩, isz17⟩
instance : TZer Tryz.prog 17 [.pointer none] := ⟨by kernel_rfl⟩
instance : TSize Tryz.prog 18 1 := ⟨isz18⟩
instance : TRow Tryz.prog 18 1 := ⟨⟨_, Tryz.underlying18, rfl⟩, isz18⟩
instance : TZer Tryz.prog 18 [.pointer none] := ⟨by kernel_rfl⟩
instance : TStruct Tryz.prog 18 [(0, 1)] := ⟨⟨_, Tryz.underlying18, by kernel_rfl⟩⟩
instance : TFld Tryz.prog 18 0 0 0 false := ⟨⟨_, _, _, Tryz.underlying18, rfl, rfl, Tryz.underlying17, rfl, isz17⟩⟩
instance : TSize Tryz.prog 19 1 := ⟨isz19⟩
instance : TRow Tryz.prog 19 1 := ⟨⟨_, Tryz.underlying19, rfl⟩, isz19⟩
instance : TZer Tryz.prog 19 [.pointer none] := ⟨by kernel_rfl⟩
instance : TStruct Tryz.prog 19 [(0, 1)] := ⟨⟨_, Tryz.underlying19, by kernel_rfl⟩⟩
instance : TFld Tryz.prog 19 0 0 0 false := ⟨⟨_, _, _, Tryz.underlying19, rfl, rfl, Tryz.underlying17, rfl, isz17⟩⟩
instance : TSize Tryz.prog 20 1 := ⟨isz20⟩
instance : TOne Tryz.prog 20 := ⟨⟨_, Tryz.underlying20, rfl⟩, isz20⟩
instance : TIfc Tryz.prog 20 := ⟨_, Tryz.underlying20⟩
instance : TZer Tryz.prog 20 [.nilIface] := ⟨by kernel_rfl⟩
instance : TSize Tryz.prog 21 1 := ⟨isz21⟩
instance : TOne Tryz.prog 21 := ⟨⟨_, Tryz.underlying21, rfl⟩, isz21⟩
instance : TInt Tryz.prog 21 .i32 := ⟨Tryz.underlying21⟩
instance : TZer Tryz.prog 21 [.int .i32 0] := ⟨by kernel_rfl⟩
instance : TSize Tryz.prog 22 1 := ⟨isz22⟩
instance : TOne Tryz.prog 22 := ⟨⟨_, Tryz.underlying22, rfl⟩, isz22⟩
instance : TSlice Tryz.prog 22 3 := ⟨Tryz.underlying22⟩
instance : TZer Tryz.prog 22 [.slice none 0 0] := ⟨by kernel_rfl⟩
instance : TSize Tryz.prog 23 1 := ⟨isz23⟩
instance : TOne Tryz.prog 23 := ⟨⟨_, Tryz.underlying23, rfl⟩, isz23⟩
instance : TSlice Tryz.prog 23 26 := ⟨Tryz.underlying23⟩
instance : TZer Tryz.prog 23 [.slice none 0 0] := ⟨by kernel_rfl⟩
instance : TSize Tryz.prog 24 1 := ⟨isz24⟩
instance : TOne Tryz.prog 24 := ⟨⟨_, Tryz.underlying24, rfl⟩, isz24⟩
instance : TSlice Tryz.prog 24 9 := ⟨Tryz.underlying24⟩
instance : TZer Tryz.prog 24 [.slice none 0 0] := ⟨by kernel_rfl⟩
instance : TSize Tryz.prog 25 6 := ⟨isz25⟩
instance : TRow Tryz.prog 25 6 := ⟨⟨_, Tryz.underlying25, rfl⟩, isz25⟩
instance : TZer Tryz.prog 25 [.int .i64 0, .slice none 0 0, .string ⟨#[]⟩, .slice none 0 0, .int .i64 0, .int .i64 0] := ⟨by kernel_rfl⟩
instance : TStruct Tryz.prog 25 [(0, 1), (1, 1), (2, 1), (3, 1), (4, 1), (5, 1)] := ⟨⟨_, Tryz.underlying25, by kernel_rfl⟩⟩
instance : TFld Tryz.prog 25 0 0 0 false := ⟨⟨_, _, _, Tryz.underlying25, rfl, rfl, Tryz.underlying3, rfl, isz3⟩⟩
instance : TFld Tryz.prog 25 1 1 0 false := ⟨⟨_, _, _, Tryz.underlying25, rfl, rfl, Tryz.underlying23, rfl, isz23⟩⟩
instance : TFld Tryz.prog 25 2 2 0 false := ⟨⟨_, _, _, Tryz.underlying25, rfl, rfl, Tryz.underlying9, rfl, isz9⟩⟩
instance : TFld Tryz.prog 25 3 3 0 false := ⟨⟨_, _, _, Tryz.underlying25, rfl, rfl, Tryz.underlying24, rfl, isz24⟩⟩
instance : TFld Tryz.prog 25 4 4 0 false := ⟨⟨_, _, _, Tryz.underlying25, rfl, rfl, Tryz.underlying3, rfl, isz3⟩⟩
instance : TFld Tryz.prog 25 5 5 0 false := ⟨⟨_, _, _, Tryz.underlying25, rfl, rfl, Tryz.underlying3, rfl, isz3⟩⟩
instance : TSize Tryz.prog 26 6 := ⟨isz26⟩
instance : TRow Tryz.prog 26 6 := ⟨⟨_, Tryz.underlying26, rfl⟩, isz26⟩
instance : TZer Tryz.prog 26 [.int .i64 0, .slice none 0 0, .string ⟨#[]⟩, .slice none 0 0, .int .i64 0, .int .i64 0] := ⟨by kernel_rfl⟩
instance : TStruct Tryz.prog 26 [(0, 1), (1, 1), (2, 1), (3, 1), (4, 1), (5, 1)] := ⟨⟨_, Tryz.underlying26, by kernel_rfl⟩⟩
instance : TFld Tryz.prog 26 0 0 0 false := ⟨⟨_, _, _, Tryz.underlying26, rfl, rfl, Tryz.underlying3, rfl, isz3⟩⟩
instance : TFld Tryz.prog 26 1 1 0 false := ⟨⟨_, _, _, Tryz.underlying26, rfl, rfl, Tryz.underlying23, rfl, isz23⟩⟩
instance : TFld Tryz.prog 26 2 2 0 false := ⟨⟨_, _, _, Tryz.underlying26, rfl, rfl, Tryz.underlying9, rfl, isz9⟩⟩
instance : TFld Tryz.prog 26 3 3 0 false := ⟨⟨_, _, _, Tryz.underlying26, rfl, rfl, Tryz.underlying24, rfl, isz24⟩⟩
instance : TFld Tryz.prog 26 4 4 0 false := ⟨⟨_, _, _, Tryz.underlying26, rfl, rfl, Tryz.underlying3, rfl, isz3⟩⟩
instance : TFld Tryz.prog 26 5 5 0 false := ⟨⟨_, _, _, Tryz.underlying26, rfl, rfl, Tryz.underlying3, rfl, isz3⟩⟩
instance : TSize Tryz.prog 27 1 := ⟨isz27⟩
instance : TOne Tryz.prog 27 := ⟨⟨_, Tryz.underlying27, rfl⟩, isz27⟩
instance : TInt Tryz.prog 27 .i64 := ⟨Tryz.underlying27⟩
instance : TZer Tryz.prog 27 [.int .i64 0] := ⟨by kernel_rfl⟩
instance : TSize Tryz.prog 28 1 := ⟨isz28⟩
instance : TOne Tryz.prog 28 := ⟨⟨_, Tryz.underlying28, rfl⟩, isz28⟩
instance : TSize Tryz.prog 29 1 := ⟨isz29⟩
instance : TOne Tryz.prog 29 := ⟨⟨_, Tryz.underlying29, rfl⟩, isz29⟩
instance : TZer Tryz.prog 29 [.nilFunc] := ⟨by kernel_rfl⟩
instance : TSize Tryz.prog 30 1 := ⟨isz30⟩
instance : TOne Tryz.prog 30 := ⟨⟨_, Tryz.underlying30, rfl⟩, isz30⟩
instance : TZer Tryz.prog 30 [.nilFunc] := ⟨by kernel_rfl⟩
instance : TSize Tryz.prog 31 1 := ⟨isz31⟩
instance : TOne Tryz.prog 31 := ⟨⟨_, Tryz.underlying31, rfl⟩, isz31⟩
instance : TZer Tryz.prog 31 [.nilFunc] := ⟨by kernel_rfl⟩
instance : TSize Tryz.prog 32 1 := ⟨isz32⟩
instance : TOne Tryz.prog 32 := ⟨⟨_, Tryz.underlying32, rfl⟩, isz32⟩
instance : TZer Tryz.prog 32 [.nilFunc] := ⟨by kernel_rfl⟩
instance : TSize Tryz.prog 33 1 := ⟨isz33⟩
instance : TOne Tryz.prog 33 := ⟨⟨_, Tryz.underlying33, rfl⟩, isz33⟩
instance : TZer Tryz.prog 33 [.nilFunc] := ⟨by kernel_rfl⟩
instance : TSize Tryz.prog 34 1 := ⟨isz34⟩
instance : TOne Tryz.prog 34 := ⟨⟨_, Tryz.underlying34, rfl⟩, isz34⟩
instance : TZer Tryz.prog 34 [.nilFunc] := ⟨by kernel_rfl⟩
instance : TSize Tryz.prog 35 1 := ⟨isz35⟩
instance : TOne Tryz.prog 35 := ⟨⟨_, Tryz.underlying35, rfl⟩, isz35⟩
instance : TZer Tryz.prog 35 [.nilFunc] := ⟨by kernel_rfl⟩
instance : TSize Tryz.prog 36 1 := ⟨isz36⟩
instance : TOne Tryz.prog 36 := ⟨⟨_, Tryz.underlying36, rfl⟩, isz36⟩
instance : TSlice Tryz.prog 36 60 := ⟨Tryz.underlying36⟩
instance : TZer Tryz.prog 36 [.slice none 0 0] := ⟨by kernel_rfl⟩
instance : TSize Tryz.prog 37 1 := ⟨isz37⟩
instance : TOne Tryz.prog 37 := ⟨⟨_, Tryz.underlying37, rfl⟩, isz37⟩
instance : TSize Tryz.prog 38 1 := ⟨isz38⟩
instance : TOne Tryz.prog 38 := ⟨⟨_, Tryz.underlying38, rfl⟩, isz38⟩
instance : TZer Tryz.prog 38 [.nilFunc] := ⟨by kernel_rfl⟩
instance : TSize Tryz.prog 39 1 := ⟨isz39⟩
instance : TOne Tryz.prog 39 := ⟨⟨_, Tryz.underlying39, rfl⟩, isz39⟩
instance : TZer Tryz.prog 39 [.nilFunc] := ⟨by kernel_rfl⟩
instance : TSize Tryz.prog 40 1 := ⟨isz40⟩
instance : TOne Tryz.prog 40 := ⟨⟨_, Tryz.underlying40, rfl⟩, isz40⟩
instance : TZer Tryz.prog 40 [.nilFunc] := ⟨by kernel_rfl⟩
instance : TSize Tryz.prog 41 1 := ⟨isz41⟩
instance : TOne Tryz.prog 41 := ⟨⟨_, Tryz.underlying41, rfl⟩, isz41⟩
instance : TSize Tryz.prog 42 1 := ⟨isz42⟩
instance : TOne Tryz.prog 42 := ⟨⟨_, Tryz.underlying42, rfl⟩, isz42⟩
instance : TZer Tryz.prog 42 [.nilFunc] := ⟨by kernel_rfl⟩
instance : TSize Tryz.prog 43 1 := ⟨isz43⟩
instance : TOne Tryz.prog 43 := ⟨⟨_, Tryz.underlying43, rfl⟩, isz43⟩
instance : TSize Tryz.prog 44 1 := ⟨isz44⟩
instance : TOne Tryz.prog 44 := ⟨⟨_, Tryz.underlying44, rfl⟩, isz44⟩
instance : TZer Tryz.prog 44 [.nilFunc] := ⟨by kernel_rfl⟩
instance : TSize Tryz.prog 45 1 := ⟨isz45⟩
instance : TOne Tryz.prog 45 := ⟨⟨_, Tryz.underlying45, rfl⟩, isz45⟩
instance : TZer Tryz.prog 45 [.nilFunc] := ⟨by kernel_rfl⟩
instance : TSize Tryz.prog 46 1 := ⟨isz46⟩
instance : TOne Tryz.prog 46 := ⟨⟨_, Tryz.underlying46, rfl⟩, isz46⟩
instance : TZer Tryz.prog 46 [.nilFunc] := ⟨by kernel_rfl⟩
instance : TSize Tryz.prog 47 1 := ⟨isz47⟩
instance : TOne Tryz.prog 47 := ⟨⟨_, Tryz.underlying47, rfl⟩, isz47⟩
instance : TZer Tryz.prog 47 [.nilFunc] := ⟨by kernel_rfl⟩
instance : TSize Tryz.prog 48 1 := ⟨isz48⟩
instance : TOne Tryz.prog 48 := ⟨⟨_, Tryz.underlying48, rfl⟩, isz48⟩
instance : TZer Tryz.prog 48 [.nilFunc] := ⟨by kernel_rfl⟩
instance : TSize Tryz.prog 49 1 := ⟨isz49⟩
instance : TOne Tryz.prog 49 := ⟨⟨_, Tryz.underlying49, rfl⟩, isz49⟩
instance : TZer Tryz.prog 49 [.nilFunc] := ⟨by kernel_rfl⟩
instance : TSize Tryz.prog 50 1 := ⟨isz50⟩
instance : TOne Tryz.prog 50 := ⟨⟨_, Tryz.underlying50, rfl⟩, isz50⟩
instance : TZer Tryz.prog 50 [.nilFunc] := ⟨by kernel_rfl⟩
instance : TSize Tryz.prog 51 1 := ⟨isz51⟩
instance : TOne Tryz.prog 51 := ⟨⟨_, Tryz.underlying51, rfl⟩, isz51⟩
instance : TZer Tryz.prog 51 [.nilFunc] := ⟨by kernel_rfl⟩
instance : TSize Tryz.prog 52 1 := ⟨isz52⟩
instance : TOne Tryz.prog 52 := ⟨⟨_, Tryz.underlying52, rfl⟩, isz52⟩
instance : TZer Tryz.prog 52 [.nilFunc] := ⟨by kernel_rfl⟩
instance : TSize Tryz.prog 53 1 := ⟨isz53⟩
instance : TOne Tryz.prog 53 := ⟨⟨_, Tryz.underlying53, rfl⟩, isz53⟩
instance : TSize Tryz.prog 54 1 := ⟨isz54⟩
instance : TOne Tryz.prog 54 := ⟨⟨_, Tryz.underlying54, rfl⟩, isz54⟩
instance : TZer Tryz.prog 54 [.nilFunc] := ⟨by kernel_rfl⟩
instance : TSize Tryz.prog 55 1 := ⟨isz55⟩
instance : TOne Tryz.prog 55 := ⟨⟨_, Tryz.underlying55, rfl⟩, isz55⟩
instance : TZer Tryz.prog 55 [.nilFunc] := ⟨by kernel_rfl⟩
instance : TSize Tryz.prog 56 1 := ⟨isz56⟩
instance : TOne Tryz.prog 56 := ⟨⟨_, Tryz.underlying56, rfl⟩, isz56⟩
instance : TZer Tryz.prog 56 [.nilFunc] := ⟨by kernel_rfl⟩
instance : TSize Tryz.prog 57 1 := ⟨isz57⟩
instance : TOne Tryz.prog 57 := ⟨⟨_, Tryz.underlying57, rfl⟩, isz57⟩
instance : TZer Tryz.prog 57 [.nilFunc] := ⟨by kernel_rfl⟩
instance : TSize Tryz.prog 58 1 := ⟨isz58⟩
instance : TOne Tryz.prog 58 := ⟨⟨_, Tryz.underlying58, rfl⟩, isz58⟩
instance : TZer Tryz.prog 58 [.nilFunc] := ⟨by kernel_rfl⟩
instance : TSize Tryz.prog 59 7 := ⟨isz59⟩
instance : TRow Tryz.prog 59 7 := ⟨⟨_, Tryz.underlying59, rfl⟩, isz59⟩
instance : TZer Tryz.prog 59 [.string ⟨#[]⟩, .int .i64 0, .slice none 0 0, .string ⟨#[]⟩, .slice none 0 0, .int .i64 0, .int .i64 0] := ⟨by kernel_rfl⟩
instance : TStruct Tryz.prog 59 [(0, 1), (1, 6)] := ⟨⟨_, Tryz.underlying59, by kernel_rfl⟩⟩
instance : TFld Tryz.prog 59 0 0 0 false := ⟨⟨_, _, _, Tryz.underlying59, rfl, rfl, Tryz.underlying9, rfl, isz9⟩⟩
instance : TFld Tryz.prog 59 1 1 5 true := ⟨⟨_, _, _, Tryz.underlying59, rfl, rfl, Tryz.underlying26, rfl, isz26⟩⟩
instance : TSize Tryz.prog 60 7 := ⟨isz60⟩
instance : TRow Tryz.prog 60 7 := ⟨⟨_, Tryz.underlying60, rfl⟩, isz60⟩
instance : TZer Tryz.prog 60 [.string ⟨#[]⟩, .int .i64 0, .slice none 0 0, .string ⟨#[]⟩, .slice none 0 0, .int .i64 0, .int .i64 0] := ⟨by kernel_rfl⟩
instance : TStruct Tryz.prog 60 [(0, 1), (1, 6)] := ⟨⟨_, Tryz.underlying60, by kernel_rfl⟩⟩
instance : TFld Tryz.prog 60 0 0 0 false := ⟨⟨_, _, _, Tryz.underlying60, rfl, rfl, Tryz.underlying9, rfl, isz9⟩⟩
instance : TFld Tryz.prog 60 1 1 5 true := ⟨⟨_, _, _, Tryz.underlying60, rfl, rfl, Tryz.underlying26, rfl, isz26⟩⟩
instance : TSize Tryz.prog 61 1 := ⟨isz61⟩
instance : TOne Tryz.prog 61 := ⟨⟨_, Tryz.underlying61, rfl⟩, isz61⟩
instance : TSlice Tryz.prog 61 66 := ⟨Tryz.underlying61⟩
instance : TZer Tryz.prog 61 [.slice none 0 0] := ⟨by kernel_rfl⟩
instance : TSize Tryz.prog 62 1 := ⟨isz62⟩
instance : TOne Tryz.prog 62 := ⟨⟨_, Tryz.underlying62, rfl⟩, isz62⟩
instance : TSize Tryz.prog 63 1 := ⟨isz63⟩
instance : TOne Tryz.prog 63 := ⟨⟨_, Tryz.underlying63, rfl⟩, isz63⟩
instance : TZer Tryz.prog 63 [.nilFunc] := ⟨by kernel_rfl⟩
instance : TSize Tryz.prog 64 1 := ⟨isz64⟩
instance : TOne Tryz.prog 64 := ⟨⟨_, Tryz.underlying64, rfl⟩, isz64⟩
instance : TSlice Tryz.prog 64 67 := ⟨Tryz.underlying64⟩
instance : TZer Tryz.prog 64 [.slice none 0 0] := ⟨by kernel_rfl⟩
instance : TSize Tryz.prog 65 3 := ⟨isz65⟩
instance : TRow Tryz.prog 65 3 := ⟨⟨_, Tryz.underlying65, rfl⟩, isz65⟩
instance : TZer Tryz.prog 65 [.int .i64 0, .int .i64 0, .slice none 0 0] := ⟨by kernel_rfl⟩
instance : TStruct Tryz.prog 65 [(0, 1), (1, 1), (2, 1)] := ⟨⟨_, Tryz.underlying65, by kernel_rfl⟩⟩
instance : TFld Tryz.prog 65 0 0 0 false := ⟨⟨_, _, _, Tryz.underlying65, rfl, rfl, Tryz.underlying3, rfl, isz3⟩⟩
instance : TFld Tryz.prog 65 1 1 0 false := ⟨⟨_, _, _, Tryz.underlying65, rfl, rfl, Tryz.underlying3, rfl, isz3⟩⟩
instance : TFld Tryz.prog 65 2 2 0 false := ⟨⟨_, _, _, Tryz.underlying65, rfl, rfl, Tryz.underlying61, rfl, isz61⟩⟩
instance : TSize Tryz.prog 66 3 := ⟨isz66⟩
instance : TRow Tryz.prog 66 3 := ⟨⟨_, Tryz.underlying66, rfl⟩, isz66⟩
instance : TZer Tryz.prog 66 [.int .i64 0, .int .i64 0, .slice none 0 0] := ⟨by kernel_rfl⟩
instance : TStruct Tryz.prog 66 [(0, 1), (1, 1), (2, 1)] := ⟨⟨_, Tryz.underlying66, by kernel_rfl⟩⟩
instance : TFld Tryz.prog 66 0 0 0 false := ⟨⟨_, _, _, Tryz.underlying66, rfl, rfl, Tryz.underlying3, rfl, isz3⟩⟩
instance : TFld Tryz.prog 66 1 1 0 false := ⟨⟨_, _, _, Tryz.underlying66, rfl, rfl, Tryz.underlying3, rfl, isz3⟩⟩
instance : TFld Tryz.prog 66 2 2 0 false := ⟨⟨_, _, _, Tryz.underlying66, rfl, rfl, Tryz.underlying61, rfl, isz61⟩⟩
instance : TSize Tryz.prog 67 1 := ⟨isz67⟩
instance : TOne Tryz.prog 67 := ⟨⟨_, Tryz.underlying67, rfl⟩, isz67⟩
instance : TSlice Tryz.prog 67 4 := ⟨Tryz.underlying67⟩
instance : TZer Tryz.prog 67 [.slice none 0 0] := ⟨by kernel_rfl⟩
instance : TSize Tryz.prog 68 1 := ⟨isz68⟩
instance : TOne Tryz.prog 68 := ⟨⟨_, Tryz.underlying68, rfl⟩, isz68⟩
instance : TZer Tryz.prog 68 [.nilFunc] := ⟨by kernel_rfl⟩
instance : TSize Tryz.prog 69 1 := ⟨isz69⟩
instance : TOne Tryz.prog 69 := ⟨⟨_, Tryz.underlying69, rfl⟩, isz69⟩
instance : TZer Tryz.prog 69 [.nilFunc] := ⟨by kernel_rfl⟩
instance : TSize Tryz.prog 70 1 := ⟨isz70⟩
instance : TOne Tryz.prog 70 := ⟨⟨_, Tryz.underlying70, rfl⟩, isz70⟩
instance : TZer Tryz.prog 70 [.nilFunc] := ⟨by kernel_rfl⟩
instance : TSize Tryz.prog 71 1 := ⟨isz71⟩
instance : TOne Tryz.prog 71 := ⟨⟨_, Tryz.underlying71, rfl⟩, isz71⟩
instance : TZer Tryz.prog 71 [.nilFunc] := ⟨by kernel_rfl⟩
instance : TSize Tryz.prog 72 1 := ⟨isz72⟩
instance : TOne Tryz.prog 72 := ⟨⟨_, Tryz.underlying72, rfl⟩, isz72⟩
instance : TZer Tryz.prog 72 [.nilFunc] := ⟨by kernel_rfl⟩
instance : TSize Tryz.prog 73 1 := ⟨isz73⟩
instance : TOne Tryz.prog 73 := ⟨⟨_, Tryz.underlying73, rfl⟩, isz73⟩
instance : TZer Tryz.prog 73 [.nilFunc] := ⟨by kernel_rfl⟩
instance : TSize Tryz.prog 74 1 := ⟨isz74⟩
instance : TOne Tryz.prog 74 := ⟨⟨_, Tryz.underlying74, rfl⟩, isz74⟩
instance : TZer Tryz.prog 74 [.nilFunc] := ⟨by kernel_rfl⟩
instance : TSize Tryz.prog 75 1 := ⟨isz75⟩
instance : TOne Tryz.prog 75 := ⟨⟨_, Tryz.underlying75, rfl⟩, isz75⟩
instance : TZer Tryz.prog 75 [.nilFunc] := ⟨by kernel_rfl⟩
instance : TSize Tryz.prog 76 1 := ⟨isz76⟩
instance : TOne Tryz.prog 76 := ⟨⟨_, Tryz.underlying76, rfl⟩, isz76⟩
instance : TZer Tryz.prog 76 [.nilFunc] := ⟨by kernel_rfl⟩
instance : TSize Tryz.prog 77 1 := ⟨isz77⟩
instance : TOne Tryz.prog 77 := ⟨⟨_, Tryz.underlying77, rfl⟩, isz77⟩
instance : TZer Tryz.prog 77 [.nilFunc] := ⟨by kernel_rfl⟩
instance : TSize Tryz.prog 78 1 := ⟨isz78⟩
instance : TOne Tryz.prog 78 := ⟨⟨_, Tryz.underlying78, rfl⟩, isz78⟩
instance : TZer Tryz.prog 78 [.nilFunc] := ⟨by kernel_rfl⟩
instance : TSize Tryz.prog 79 1 := ⟨isz79⟩
instance : TOne Tryz.prog 79 := ⟨⟨_, Tryz.underlying79, rfl⟩, isz79⟩
instance : TZer Tryz.prog 79 [.nilFunc] := ⟨by kernel_rfl⟩
instance : TSize Tryz.prog 80 1 := ⟨isz80⟩
instance : TOne Tryz.prog 80 := ⟨⟨_, Tryz.underlying80, rfl⟩, isz80⟩
instance : TZer Tryz.prog 80 [.pointer none] := ⟨by kernel_rfl⟩
instance : TSize Tryz.prog 81 1 := ⟨isz81⟩
instance : TRow Tryz.prog 81 1 := ⟨⟨_, Tryz.underlying81, rfl⟩, isz81⟩
instance : TZer Tryz.prog 81 [.int .i64 0] := ⟨by kernel_rfl⟩
instance : TStruct Tryz.prog 81 [(0, 1)] := ⟨⟨_, Tryz.underlying81, by kernel_rfl⟩⟩
instance : TFld Tryz.prog 81 0 0 0 false := ⟨⟨_, _, _, Tryz.underlying81, rfl, rfl, Tryz.underlying3, rfl, isz3⟩⟩
instance : TSize Tryz.prog 82 1 := ⟨isz82⟩
instance : TRow Tryz.prog 82 1 := ⟨⟨_, Tryz.underlying82, rfl⟩, isz82⟩
instance : TZer Tryz.prog 82 [.int .i64 0] := ⟨by kernel_rfl⟩
instance : TStruct Tryz.prog 82 [(0, 1)] := ⟨⟨_, Tryz.underlying82, by kernel_rfl⟩⟩
instance : TFld Tryz.prog 82 0 0 0 false := ⟨⟨_, _, _, Tryz.underlying82, rfl, rfl, Tryz.underlying3, rfl, isz3⟩⟩
instance : TSize Tryz.prog 83 1 := ⟨isz83⟩
instance : TOne Tryz.prog 83 := ⟨⟨_, Tryz.underlying83, rfl⟩, isz83⟩
instance : TZer Tryz.prog 83 [.nilFunc] := ⟨by kernel_rfl⟩
instance : TSize Tryz.prog 84 1 := ⟨isz84⟩
instance : TOne Tryz.prog 84 := ⟨⟨_, Tryz.underlying84, rfl⟩, isz84⟩
instance : TSize Tryz.prog 85 1 := ⟨isz85⟩
instance : TOne Tryz.prog 85 := ⟨⟨_, Tryz.underlying85, rfl⟩, isz85⟩
instance : TZer Tryz.prog 85 [.nilFunc] := ⟨by kernel_rfl⟩
instance : TSize Tryz.prog 86 1 := ⟨isz86⟩
instance : TOne Tryz.prog 86 := ⟨⟨_, Tryz.underlying86, rfl⟩, isz86⟩
instance : TZer Tryz.prog 86 [.nilFunc] := ⟨by kernel_rfl⟩
instance : TSize Tryz.prog 87 1 := ⟨isz87⟩
instance : TOne Tryz.prog 87 := ⟨⟨_, Tryz.underlying87, rfl⟩, isz87⟩
instance : TZer Tryz.prog 87 [.nilFunc] := ⟨by kernel_rfl⟩
instance : TSize Tryz.prog 88 1 := ⟨isz88⟩
instance : TOne Tryz.prog 88 := ⟨⟨_, Tryz.underlying88, rfl⟩, isz88⟩
instance : TSize Tryz.prog 89 1 := ⟨isz89⟩
instance : TOne Tryz.prog 89 := ⟨⟨_, Tryz.underlying89, rfl⟩, isz89⟩
instance : TZer Tryz.prog 89 [.nilFunc] := ⟨by kernel_rfl⟩
instance : TSize Tryz.prog 90 1 := ⟨isz90⟩
instance : TOne Tryz.prog 90 := ⟨⟨_, Tryz.underlying90, rfl⟩, isz90⟩
instance : TZer Tryz.prog 90 [.nilFunc] := ⟨by kernel_rfl⟩
instance : TSize Tryz.prog 91 1 := ⟨isz91⟩
instance : TOne Tryz.prog 91 := ⟨⟨_, Tryz.underlying91, rfl⟩, isz91⟩
instance : TZer Tryz.prog 91 [.nilFunc] := ⟨by kernel_rfl⟩
instance : TSize Tryz.prog 92 1 := ⟨isz92⟩
instance : TOne Tryz.prog 92 := ⟨⟨_, Tryz.underlying92, rfl⟩, isz92⟩
instance : TZer Tryz.prog 92 [.nilFunc] := ⟨by kernel_rfl⟩
instance : TSize Tryz.prog 93 1 := ⟨isz93⟩
instance : TOne Tryz.prog 93 := ⟨⟨_, Tryz.underlying93, rfl⟩, isz93⟩
instance : TZer Tryz.prog 93 [.nilFunc] := ⟨by kernel_rfl⟩
instance : TSize Tryz.prog 94 1 := ⟨isz94⟩
instance : TOne Tryz.prog 94 := ⟨⟨_, Tryz.underlying94, rfl⟩, isz94⟩
instance : TZer Tryz.prog 94 [.nilFunc] := ⟨by kernel_rfl⟩
instance : TSize Tryz.prog 95 1 := ⟨isz95⟩
instance : TOne Tryz.prog 95 := ⟨⟨_, Tryz.underlying95, rfl⟩, isz95⟩
instance : TZer Tryz.prog 95 [.nilFunc] := ⟨by kernel_rfl⟩
instance : TSize Tryz.prog 96 1 := ⟨isz96⟩
instance : TOne Tryz.prog 96 := ⟨⟨_, Tryz.underlying96, rfl⟩, isz96⟩
instance : TZer Tryz.prog 96 [.nilFunc] := ⟨by kernel_rfl⟩
instance : TSize Tryz.prog 97 1 := ⟨isz97⟩
instance : TOne Tryz.prog 97 := ⟨⟨_, Tryz.underlying97, rfl⟩, isz97⟩
instance : TZer Tryz.prog 97 [.nilFunc] := ⟨by kernel_rfl⟩
instance : TSize Tryz.prog 98 1 := ⟨isz98⟩
instance : TOne Tryz.prog 98 := ⟨⟨_, Tryz.underlying98, rfl⟩, isz98⟩
instance : TZer Tryz.prog 98 [.nilFunc] := ⟨by kernel_rfl⟩
instance : TSize Tryz.prog 99 1 := ⟨isz99⟩
instance : TOne Tryz.prog 99 := ⟨⟨_, Tryz.underlying99, rfl⟩, isz99⟩
instance : TZer Tryz.prog 99 [.nilFunc] := ⟨by kernel_rfl⟩
instance : TSize Tryz.prog 100 1 := ⟨isz100⟩
instance : TOne Tryz.prog 100 := ⟨⟨_, Tryz.underlying100, rfl⟩, isz100⟩
instance : TZer Tryz.prog 100 [.nilFunc] := ⟨by kernel_rfl⟩
instance : TSize Tryz.prog 101 1 := ⟨isz101⟩
instance : TOne Tryz.prog 101 := ⟨⟨_, Tryz.underlying101, rfl⟩, isz101⟩
instance : TZer Tryz.prog 101 [.nilFunc] := ⟨by kernel_rfl⟩
instance : TSize Tryz.prog 102 1 := ⟨isz102⟩
instance : TOne Tryz.prog 102 := ⟨⟨_, Tryz.underlying102, rfl⟩, isz102⟩
instance : TZer Tryz.prog 102 [.nilFunc] := ⟨by kernel_rfl⟩
instance : TSize Tryz.prog 103 1 := ⟨isz103⟩
instance : TOne Tryz.prog 103 := ⟨⟨_, Tryz.underlying103, rfl⟩, isz103⟩
instance : TZer Tryz.prog 103 [.nilFunc] := ⟨by kernel_rfl⟩
instance : TSize Tryz.prog 104 1 := ⟨isz104⟩
instance : TOne Tryz.prog 104 := ⟨⟨_, Tryz.underlying104, rfl⟩, isz104⟩
instance : TZer Tryz.prog 104 [.nilFunc] := ⟨by kernel_rfl⟩
instance : TSize Tryz.prog 105 1 := ⟨isz105⟩
instance : TOne Tryz.prog 105 := ⟨⟨_, Tryz.underlying105, rfl⟩, isz105⟩
instance : TZer Tryz.prog 105 [.nilFunc] := ⟨by kernel_rfl⟩
instance : TSize Tryz.prog 106 1 := ⟨isz106⟩
instance : TOne Tryz.prog 106 := ⟨⟨_, Tryz.underlying106, rfl⟩, isz106⟩
instance : TZer Tryz.prog 106 [.nilFunc] := ⟨by kernel_rfl⟩
instance : TSize Tryz.prog 107 1 := ⟨isz107⟩
instance : TOne Tryz.prog 107 := ⟨⟨_, Tryz.underlying107, rfl⟩, isz107⟩
instance : TZer Tryz.prog 107 [.nilFunc] := ⟨by kernel_rfl⟩
instance : TSize Tryz.prog 108 1 := ⟨isz108⟩
instance : TOne Tryz.prog 108 := ⟨⟨_, Tryz.underlying108, rfl⟩, isz108⟩
instance : TZer Tryz.prog 108 [.nilFunc] := ⟨by kernel_rfl⟩
instance : TSize Tryz.prog 109 1 := ⟨isz109⟩
instance : TOne Tryz.prog 109 := ⟨⟨_, Tryz.underlying109, rfl⟩, isz109⟩
instance : TZer Tryz.prog 109 [.nilFunc] := ⟨by kernel_rfl⟩
instance : TSize Tryz.prog 110 1 := ⟨isz110⟩
instance : TOne Tryz.prog 110 := ⟨⟨_, Tryz.underlying110, rfl⟩, isz110⟩
instance : TZer Tryz.prog 110 [.nilFunc] := ⟨by kernel_rfl⟩
instance : TSize Tryz.prog 111 1 := ⟨isz111⟩
instance : TOne Tryz.prog 111 := ⟨⟨_, Tryz.underlying111, rfl⟩, isz111⟩
instance : TZer Tryz.prog 111 [.nilFunc] := ⟨by kernel_rfl⟩
instance : TSize Tryz.prog 112 24 := ⟨isz112⟩
instance : TRow Tryz.prog 112 24 := ⟨⟨_, Tryz.underlying112, rfl⟩, isz112⟩
instance : TSize Tryz.prog 113 1 := ⟨isz113⟩
instance : TOne Tryz.prog 113 := ⟨⟨_, Tryz.underlying113, rfl⟩, isz113⟩
instance : TInt Tryz.prog 113 .u64 := ⟨Tryz.underlying113⟩
instance : TZer Tryz.prog 113 [.int .u64 0] := ⟨by kernel_rfl⟩
instance : TSize Tryz.prog 114 1 := ⟨isz114⟩
instance : TOne Tryz.prog 114 := ⟨⟨_, Tryz.underlying114, rfl⟩, isz114⟩
instance : TZer Tryz.prog 114 [.nilFunc] := ⟨by kernel_rfl⟩
instance : TSize Tryz.prog 115 1 := ⟨isz115⟩
instance : TOne Tryz.prog 115 := ⟨⟨_, Tryz.underlying115, rfl⟩, isz115⟩
instance : TZer Tryz.prog 115 [.nilFunc] := ⟨by kernel_rfl⟩
instance : TSize Tryz.prog 116 1 := ⟨isz116⟩
instance : TOne Tryz.prog 116 := ⟨⟨_, Tryz.underlying116, rfl⟩, isz116⟩
instance : TSlice Tryz.prog 116 5 := ⟨Tryz.underlying116⟩
instance : TZer Tryz.prog 116 [.slice none 0 0] := ⟨by kernel_rfl⟩
instance : TSize Tryz.prog 117 1 := ⟨isz117⟩
instance : TOne Tryz.prog 117 := ⟨⟨_, Tryz.underlying117, rfl⟩, isz117⟩
instance : TSize Tryz.prog 118 1 := ⟨isz118⟩
instance : TOne Tryz.prog 118 := ⟨⟨_, Tryz.underlying118, rfl⟩, isz118⟩
instance : TZer Tryz.prog 118 [.nilFunc] := ⟨by kernel_rfl⟩
instance : TSize Tryz.prog 119 1 := ⟨isz119⟩
instance : TOne Tryz.prog 119 := ⟨⟨_, Tryz.underlying119, rfl⟩, isz119⟩
instance : TZer Tryz.prog 119 [.pointer none] := ⟨by kernel_rfl⟩
instance : TSize Tryz.prog 120 1 := ⟨isz120⟩
instance : TOne Tryz.prog 120 := ⟨⟨_, Tryz.underlying120, rfl⟩, isz120⟩
instance : TZer Tryz.prog 120 [.nilFunc] := ⟨by kernel_rfl⟩
instance : TSize Tryz.prog 121 1 := ⟨isz121⟩
instance : TOne Tryz.prog 121 := ⟨⟨_, Tryz.underlying121, rfl⟩, isz121⟩
instance : TZer Tryz.prog 121 [.pointer none] := ⟨by kernel_rfl⟩
instance : TSize Tryz.prog 122 2 := ⟨isz122⟩
instance : TRow Tryz.prog 122 2 := ⟨⟨_, Tryz.underlying122, rfl⟩, isz122⟩
instance : TZer Tryz.prog 122 [.pointer none, .slice none 0 0] := ⟨by kernel_rfl⟩
instance : TStruct Tryz.prog 122 [(0, 1), (1, 1)] := ⟨⟨_, Tryz.underlying122, by kernel_rfl⟩⟩
instance : TFld Tryz.prog 122 0 0 0 false := ⟨⟨_, _, _, Tryz.underlying122, rfl, rfl, Tryz.underlying121, rfl, isz121⟩⟩
instance : TFld Tryz.prog 122 1 1 0 false := ⟨⟨_, _, _, Tryz.underlying122, rfl, rfl, Tryz.underlying116, rfl, isz116⟩⟩
instance : TSize Tryz.prog 123 2 := ⟨isz123⟩
instance : TRow Tryz.prog 123 2 := ⟨⟨_, Tryz.underlying123, rfl⟩, isz123⟩
instance : TZer Tryz.prog 123 [.pointer none, .slice none 0 0] := ⟨by kernel_rfl⟩
instance : TStruct Tryz.prog 123 [(0, 1), (1, 1)] := ⟨⟨_, Tryz.underlying123, by kernel_rfl⟩⟩
instance : TFld Tryz.prog 123 0 0 0 false := ⟨⟨_, _, _, Tryz.underlying123, rfl, rfl, Tryz.underlying121, rfl, isz121⟩⟩
instance : TFld Tryz.prog 123 1 1 0 false := ⟨⟨_, _, _, Tryz.underlying123, rfl, rfl, Tryz.underlying116, rfl, isz116⟩⟩
instance : TSize Tryz.prog 124 1 := ⟨isz124⟩
instance : TOne Tryz.prog 124 := ⟨⟨_, Tryz.underlying124, rfl⟩, isz124⟩
instance : TZer Tryz.prog 124 [.nilFunc] := ⟨by kernel_rfl⟩
instance : TSize Tryz.prog 125 1 := ⟨isz125⟩
instance : TOne Tryz.prog 125 := ⟨⟨_, Tryz.underlying125, rfl⟩, isz125⟩
instance : TIfc Tryz.prog 125 := ⟨_, Tryz.underlying125⟩
instance : TZer Tryz.prog 125 [.nilIface] := ⟨by kernel_rfl⟩
instance : TSize Tryz.prog 126 1 := ⟨isz126⟩
instance : TOne Tryz.prog 126 := ⟨⟨_, Tryz.underlying126, rfl⟩, isz126⟩
instance : TIfc Tryz.prog 126 := ⟨_, Tryz.underlying126⟩
instance : TZer Tryz.prog 126 [.nilIface] := ⟨by kernel_rfl⟩
instance : TSize Tryz.prog 127 1 := ⟨isz127⟩
instance : TOne Tryz.prog 127 := ⟨⟨_, Tryz.underlying127, rfl⟩, isz127⟩
instance : TSize Tryz.prog 128 1 := ⟨isz128⟩
instance : TOne Tryz.prog 128 := ⟨⟨_, Tryz.underlying128, rfl⟩, isz128⟩
instance : TZer Tryz.prog 128 [.nilFunc] := ⟨by kernel_rfl⟩
instance : TSize Tryz.prog 129 1 := ⟨isz129⟩
instance : TOne Tryz.prog 129 := ⟨⟨_, Tryz.underlying129, rfl⟩, isz129⟩
instance : TZer Tryz.prog 129 [.nilFunc] := ⟨by kernel_rfl⟩
instance : TSize Tryz.prog 130 4 := ⟨isz130⟩
instance : TRow Tryz.prog 130 4 := ⟨⟨_, Tryz.underlying130, rfl⟩, isz130⟩
instance : TZer Tryz.prog 130 [.bool false, .bool false, .bool false, .bool false] := ⟨by kernel_rfl⟩
instance : TStruct Tryz.prog 130 [(0, 1), (1, 1), (2, 1), (3, 1)] := ⟨⟨_, Tryz.underlying130, by kernel_rfl⟩⟩
instance : TFld Tryz.prog 130 0 0 0 false := ⟨⟨_, _, _, Tryz.underlying130, rfl, rfl, Tryz.underlying4, rfl, isz4⟩⟩
instance : TFld Tryz.prog 130 1 1 0 false := ⟨⟨_, _, _, Tryz.underlying130, rfl, rfl, Tryz.underlying4, rfl, isz4⟩⟩
instance : TFld Tryz.prog 130 2 2 0 false := ⟨⟨_, _, _, Tryz.underlying130, rfl, rfl, Tryz.underlying4, rfl, isz4⟩⟩
instance : TFld Tryz.prog 130 3 3 0 false := ⟨⟨_, _, _, Tryz.underlying130, rfl, rfl, Tryz.underlying4, rfl, isz4⟩⟩
instance : TSize Tryz.prog 131 4 := ⟨isz131⟩
instance : TRow Tryz.prog 131 4 := ⟨⟨_, Tryz.underlying131, rfl⟩, isz131⟩
instance : TZer Tryz.prog 131 [.bool false, .bool false, .bool false, .bool false] := ⟨by kernel_rfl⟩
instance : TStruct Tryz.prog 131 [(0, 1), (1, 1), (2, 1), (3, 1)] := ⟨⟨_, Tryz.underlying131, by kernel_rfl⟩⟩
instance : TFld Tryz.prog 131 0 0 0 false := ⟨⟨_, _, _, Tryz.underlying131, rfl, rfl, Tryz.underlying4, rfl, isz4⟩⟩
instance : TFld Tryz.prog 131 1 1 0 false := ⟨⟨_, _, _, Tryz.underlying131, rfl, rfl, Tryz.underlying4, rfl, isz4⟩⟩
instance : TFld Tryz.prog 131 2 2 0 false := ⟨⟨_, _, _, Tryz.underlying131, rfl, rfl, Tryz.underlying4, rfl, isz4⟩⟩
instance : TFld Tryz.prog 131 3 3 0 false := ⟨⟨_, _, _, Tryz.underlying131, rfl, rfl, Tryz.underlying4, rfl, isz4⟩⟩
instance : TSize Tryz.prog 132 1 := ⟨isz132⟩
instance : TOne Tryz.prog 132 := ⟨⟨_, Tryz.underlying132, rfl⟩, isz132⟩
instance : TZer Tryz.prog 132 [.nilFunc] := ⟨by kernel_rfl⟩
instance : TSize Tryz.prog 133 1 := ⟨isz133⟩
instance : TOne Tryz.prog 133 := ⟨⟨_, Tryz.underlying133, rfl⟩, isz133⟩
instance : TZer Tryz.prog 133 [.nilFunc] := ⟨by kernel_rfl⟩
instance : TSize Tryz.prog 134 1 := ⟨isz134⟩
instance : TOne Tryz.prog 134 := ⟨⟨_, Tryz.underlying134, rfl⟩, isz134⟩
instance : TZer Tryz.prog 134 [.nilFunc] := ⟨by kernel_rfl⟩
instance : TSize Tryz.prog 135 1 := ⟨isz135⟩
instance : TOne Tryz.prog 135 := ⟨⟨_, Tryz.underlying135, rfl⟩, isz135⟩
instance : TZer Tryz.prog 135 [.nilFunc] := ⟨by kernel_rfl⟩
instance : TSize Tryz.prog 136 1 := ⟨isz136⟩
instance : TOne Tryz.prog 136 := ⟨⟨_, Tryz.underlying136, rfl⟩, isz136⟩
instance : TZer Tryz.prog 136 [.nilFunc] := ⟨by kernel_rfl⟩
instance : TSize Tryz.prog 137 256 := ⟨isz137⟩
instance : TRow Tryz.prog 137 256 := ⟨⟨_, Tryz.underlying137, rfl⟩, isz137⟩
instance : TSize Tryz.prog 138 256 := ⟨isz138⟩
instance : TRow Tryz.prog 138 256 := ⟨⟨_, Tryz.underlying138, rfl⟩, isz138⟩
instance : TSize Tryz.prog 139 1 := ⟨isz139⟩
instance : TOne Tryz.prog 139 := ⟨⟨_, Tryz.underlying139, rfl⟩, isz139⟩
instance : TSize Tryz.prog 140 1 := ⟨isz140⟩
instance : TOne Tryz.prog 140 := ⟨⟨_, Tryz.underlying140, rfl⟩, isz140⟩
instance : TZer Tryz.prog 140 [.nilFunc] := ⟨by kernel_rfl⟩
instance : TSize Tryz.prog 141 1 := ⟨isz141⟩
instance : TOne Tryz.prog 141 := ⟨⟨_, Tryz.underlying141, rfl⟩, isz141⟩
instance : TZer Tryz.prog 141 [.nilFunc] := ⟨by kernel_rfl⟩
instance : TSize Tryz.prog 142 1 := ⟨isz142⟩
instance : TOne Tryz.prog 142 := ⟨⟨_, Tryz.underlying142, rfl⟩, isz142⟩
instance : TZer Tryz.prog 142 [.pointer none] := ⟨by kernel_rfl⟩
instance : TSize Tryz.prog 143 1 := ⟨isz143⟩
instance : TOne Tryz.prog 143 := ⟨⟨_, Tryz.underlying143, rfl⟩, isz143⟩
instance : TZer Tryz.prog 143 [.nilFunc] := ⟨by kernel_rfl⟩
instance : TSize Tryz.prog 144 1 := ⟨isz144⟩
instance : TOne Tryz.prog 144 := ⟨⟨_, Tryz.underlying144, rfl⟩, isz144⟩
instance : TZer Tryz.prog 144 [.nilFunc] := ⟨by kernel_rfl⟩
instance : TSize Tryz.prog 145 1 := ⟨isz145⟩
instance : TOne Tryz.prog 145 := ⟨⟨_, Tryz.underlying145, rfl⟩, isz145⟩
instance : TInt Tryz.prog 145 .u64 := ⟨Tryz.underlying145⟩
instance : TZer Tryz.prog 145 [.int .u64 0] := ⟨by kernel_rfl⟩
instance : TSize Tryz.prog 146 1 := ⟨isz146⟩
instance : TOne Tryz.prog 146 := ⟨⟨_, Tryz.underlying146, rfl⟩, isz146⟩
instance : TZer Tryz.prog 146 [.nilFunc] := ⟨by kernel_rfl⟩
instance : TSize Tryz.prog 147 20 := ⟨isz147⟩
instance : TRow Tryz.prog 147 20 := ⟨⟨_, Tryz.underlying147, rfl⟩, isz147⟩
instance : TSize Tryz.prog 148 1 := ⟨isz148⟩
instance : TOne Tryz.prog 148 := ⟨⟨_, Tryz.underlying148, rfl⟩, isz148⟩
instance : TInt Tryz.prog 148 .u32 := ⟨Tryz.underlying148⟩
instance : TZer Tryz.prog 148 [.int .u32 0] := ⟨by kernel_rfl⟩
instance : TSize Tryz.prog 149 65 := ⟨isz149⟩
instance : TRow Tryz.prog 149 65 := ⟨⟨_, Tryz.underlying149, rfl⟩, isz149⟩
instance : TSize Tryz.prog 150 1 := ⟨isz150⟩
instance : TOne Tryz.prog 150 := ⟨⟨_, Tryz.underlying150, rfl⟩, isz150⟩
instance : TZer Tryz.prog 150 [.nilFunc] := ⟨by kernel_rfl⟩
instance : TSize Tryz.prog 154 1 := ⟨isz154⟩
instance : TRow Tryz.prog 154 1 := ⟨⟨_, Tryz.underlying154, rfl⟩, isz154⟩
instance : TZer Tryz.prog 154 [.int .u32 0] := ⟨by kernel_rfl⟩
instance : TFld Tryz.prog 154 1 0 0 false := ⟨⟨_, _, _, Tryz.underlying154, rfl, rfl, Tryz.underlying148, rfl, isz148⟩⟩
instance : TSize Tryz.prog 155 1 := ⟨isz155⟩
instance : TRow Tryz.prog 155 1 := ⟨⟨_, Tryz.underlying155, rfl⟩, isz155⟩
instance : TZer Tryz.prog 155 [.int .u32 0] := ⟨by kernel_rfl⟩
instance : TFld Tryz.prog 155 1 0 0 false := ⟨⟨_, _, _, Tryz.underlying155, rfl, rfl, Tryz.underlying148, rfl, isz148⟩⟩
instance : TSize Tryz.prog 156 2 := ⟨isz156⟩
instance : TRow Tryz.prog 156 2 := ⟨⟨_, Tryz.underlying156, rfl⟩, isz156⟩
instance : TZer Tryz.prog 156 [.int .i32 0, .int .u32 0] := ⟨by kernel_rfl⟩
instance : TStruct Tryz.prog 156 [(0, 1), (1, 1)] := ⟨⟨_, Tryz.underlying156, by kernel_rfl⟩⟩
instance : TFld Tryz.prog 156 0 0 0 false := ⟨⟨_, _, _, Tryz.underlying156, rfl, rfl, Tryz.underlying21, rfl, isz21⟩⟩
instance : TFld Tryz.prog 156 1 1 0 false := ⟨⟨_, _, _, Tryz.underlying156, rfl, rfl, Tryz.underlying148, rfl, isz148⟩⟩
instance : TSize Tryz.prog 157 2 := ⟨isz157⟩
instance : TRow Tryz.prog 157 2 := ⟨⟨_, Tryz.underlying157, rfl⟩, isz157⟩
instance : TZer Tryz.prog 157 [.int .i32 0, .int .u32 0] := ⟨by kernel_rfl⟩
instance : TStruct Tryz.prog 157 [(0, 1), (1, 1)] := ⟨⟨_, Tryz.underlying157, by kernel_rfl⟩⟩
instance : TFld Tryz.prog 157 0 0 0 false := ⟨⟨_, _, _, Tryz.underlying157, rfl, rfl, Tryz.underlying21, rfl, isz21⟩⟩
instance : TFld Tryz.prog 157 1 1 0 false := ⟨⟨_, _, _, Tryz.underlying157, rfl, rfl, Tryz.underlying148, rfl, isz148⟩⟩
instance : TSize Tryz.prog 158 2 := ⟨isz158⟩
instance : TRow Tryz.prog 158 2 := ⟨⟨_, Tryz.underlying158, rfl⟩, isz158⟩
instance : TZer Tryz.prog 158 [.int .i32 0, .int .u32 0] := ⟨by kernel_rfl⟩
instance : TFld Tryz.prog 158 1 0 1 true := ⟨⟨_, _, _, Tryz.underlying158, rfl, rfl, Tryz.underlying157, rfl, isz157⟩⟩
instance : TSize Tryz.prog 159 2 := ⟨isz159⟩
instance : TRow Tryz.prog 159 2 := ⟨⟨_, Tryz.underlying159, rfl⟩, isz159⟩
instance : TZer Tryz.prog 159 [.int .i32 0, .int .u32 0] := ⟨by kernel_rfl⟩
instance : TFld Tryz.prog 159 1 0 1 true := ⟨⟨_, _, _, Tryz.underlying159, rfl, rfl, Tryz.underlying157, rfl, isz157⟩⟩
instance : TSize Tryz.prog 160 3 := ⟨isz160⟩
instance : TRow Tryz.prog 160 3 := ⟨⟨_, Tryz.underlying160, rfl⟩, isz160⟩
instance : TZer Tryz.prog 160 [.int .u32 0, .int .i32 0, .int .u32 0] := ⟨by kernel_rfl⟩
instance : TFld Tryz.prog 160 1 0 0 true := ⟨⟨_, _, _, Tryz.underlying160, rfl, rfl, Tryz.underlying155, rfl, isz155⟩⟩
instance : TFld Tryz.prog 160 2 1 1 true := ⟨⟨_, _, _, Tryz.underlying160, rfl, rfl, Tryz.underlying159, rfl, isz159⟩⟩
instance : TSize Tryz.prog 161 3 := ⟨isz161⟩
instance : TRow Tryz.prog 161 3 := ⟨⟨_, Tryz.underlying161, rfl⟩, isz161⟩
instance : TZer Tryz.prog 161 [.int .u32 0, .int .i32 0, .int .u32 0] := ⟨by kernel_rfl⟩
instance : TFld Tryz.prog 161 1 0 0 true := ⟨⟨_, _, _, Tryz.underlying161, rfl, rfl, Tryz.underlying155, rfl, isz155⟩⟩
instance : TFld Tryz.prog 161 2 1 1 true := ⟨⟨_, _, _, Tryz.underlying161, rfl, rfl, Tryz.underlying159, rfl, isz159⟩⟩
instance : TSize Tryz.prog 162 1 := ⟨isz162⟩
instance : TOne Tryz.prog 162 := ⟨⟨_, Tryz.underlying162, rfl⟩, isz162⟩
instance : TIfc Tryz.prog 162 := ⟨_, Tryz.underlying162⟩
instance : TZer Tryz.prog 162 [.nilIface] := ⟨by kernel_rfl⟩
instance : TSize Tryz.prog 163 1 := ⟨isz163⟩
instance : TOne Tryz.prog 163 := ⟨⟨_, Tryz.underlying163, rfl⟩, isz163⟩
instance : TIfc Tryz.prog 163 := ⟨_, Tryz.underlying163⟩
instance : TZer Tryz.prog 163 [.nilIface] := ⟨by kernel_rfl⟩
instance : TSize Tryz.prog 164 5 := ⟨isz164⟩
instance : TRow Tryz.prog 164 5 := ⟨⟨_, Tryz.underlying164, rfl⟩, isz164⟩
instance : TZer Tryz.prog 164 [.int .u32 0, .int .i32 0, .int .u32 0, .nilIface, .slice none 0 0] := ⟨by kernel_rfl⟩
instance : TStruct Tryz.prog 164 [(0, 3), (3, 1), (4, 1)] := ⟨⟨_, Tryz.underlying164, by kernel_rfl⟩⟩
instance : TFld Tryz.prog 164 0 0 2 true := ⟨⟨_, _, _, Tryz.underlying164, rfl, rfl, Tryz.underlying161, rfl, isz161⟩⟩
instance : TFld Tryz.prog 164 1 3 0 false := ⟨⟨_, _, _, Tryz.underlying164, rfl, rfl, Tryz.underlying163, rfl, isz163⟩⟩
instance : TFld Tryz.prog 164 2 4 0 false := ⟨⟨_, _, _, Tryz.underlying164, rfl, rfl, Tryz.underlying24, rfl, isz24⟩⟩
instance : TSize Tryz.prog 165 5 := ⟨isz165⟩
instance : TRow Tryz.prog 165 5 := ⟨⟨_, Tryz.underlying165, rfl⟩, isz165⟩
instance : TZer Tryz.prog 165 [.int .u32 0, .int .i32 0, .int .u32 0, .nilIface, .slice none 0 0] := ⟨by kernel_rfl⟩
instance : TStruct Tryz.prog 165 [(0, 3), (3, 1), (4, 1)] := ⟨⟨_, Tryz.underlying165, by kernel_rfl⟩⟩
instance : TFld Tryz.prog 165 0 0 2 true := ⟨⟨_, _, _, Tryz.underlying165, rfl, rfl, Tryz.underlying161, rfl, isz161⟩⟩
instance : TFld Tryz.prog 165 1 3 0 false := ⟨⟨_, _, _, Tryz.underlying165, rfl, rfl, Tryz.underlying163, rfl, isz163⟩⟩
instance : TFld Tryz.prog 165 2 4 0 false := ⟨⟨_, _, _, Tryz.underlying165, rfl, rfl, Tryz.underlying24, rfl, isz24⟩⟩
instance : TSize Tryz.prog 166 1 := ⟨isz166⟩
instance : TOne Tryz.prog 166 := ⟨⟨_, Tryz.underlying166, rfl⟩, isz166⟩
instance : TZer Tryz.prog 166 [.nilFunc] := ⟨by kernel_rfl⟩
instance : TSize Tryz.prog 167 1 := ⟨isz167⟩
instance : TOne Tryz.prog 167 := ⟨⟨_, Tryz.underlying167, rfl⟩, isz167⟩
instance : TZer Tryz.prog 167 [.pointer none] := ⟨by kernel_rfl⟩
instance : TSize Tryz.prog 168 4 := ⟨isz168⟩
instance : TRow Tryz.prog 168 4 := ⟨⟨_, Tryz.underlying168, rfl⟩, isz168⟩
instance : TZer Tryz.prog 168 [.slice none 0 0, .string ⟨#[]⟩, .int .i64 0, .int .i64 0] := ⟨by kernel_rfl⟩
instance : TStruct Tryz.prog 168 [(0, 1), (1, 1), (2, 1), (3, 1)] := ⟨⟨_, Tryz.underlying168, by kernel_rfl⟩⟩
instance : TFld Tryz.prog 168 0 0 0 false := ⟨⟨_, _, _, Tryz.underlying168, rfl, rfl, Tryz.underlying24, rfl, isz24⟩⟩
instance : TFld Tryz.prog 168 1 1 0 false := ⟨⟨_, _, _, Tryz.underlying168, rfl, rfl, Tryz.underlying9, rfl, isz9⟩⟩
instance : TFld Tryz.prog 168 2 2 0 false := ⟨⟨_, _, _, Tryz.underlying168, rfl, rfl, Tryz.underlying3, rfl, isz3⟩⟩
instance : TFld Tryz.prog 168 3 3 0 false := ⟨⟨_, _, _, Tryz.underlying168, rfl, rfl, Tryz.underlying3, rfl, isz3⟩⟩
instance : TSize Tryz.prog 169 4 := ⟨isz169⟩
instance : TRow Tryz.prog 169 4 := ⟨⟨_, Tryz.underlying169, rfl⟩, isz169⟩
instance : TZer Tryz.prog 169 [.slice none 0 0, .string ⟨#[]⟩, .int .i64 0, .int .i64 0] := ⟨by kernel_rfl⟩
instance : TStruct Tryz.prog 169 [(0, 1), (1, 1), (2, 1), (3, 1)] := ⟨⟨_, Tryz.underlying169, by kernel_rfl⟩⟩
instance : TFld Tryz.prog 169 0 0 0 false := ⟨⟨_, _, _, Tryz.underlying169, rfl, rfl, Tryz.underlying24, rfl, isz24⟩⟩
instance : TFld Tryz.prog 169 1 1 0 false := ⟨⟨_, _, _, Tryz.underlying169, rfl, rfl, Tryz.underlying9, rfl, isz9⟩⟩
instance : TFld Tryz.prog 169 2 2 0 false := ⟨⟨_, _, _, Tryz.underlying169, rfl, rfl, Tryz.underlying3, rfl, isz3⟩⟩
instance : TFld Tryz.prog 169 3 3 0 false := ⟨⟨_, _, _, Tryz.underlying169, rfl, rfl, Tryz.underlying3, rfl, isz3⟩⟩
instance : TSize Tryz.prog 170 1 := ⟨isz170⟩
instance : TOne Tryz.prog 170 := ⟨⟨_, Tryz.underlying170, rfl⟩, isz170⟩
instance : TSize Tryz.prog 171 1 := ⟨isz171⟩
instance : TOne Tryz.prog 171 := ⟨⟨_, Tryz.underlying171, rfl⟩, isz171⟩
instance : TZer Tryz.prog 171 [.nilFunc] := ⟨by kernel_rfl⟩
instance : TSize Tryz.prog 172 4 := ⟨isz172⟩
instance : TRow Tryz.prog 172 4 := ⟨⟨_, Tryz.underlying172, rfl⟩, isz172⟩
instance : TZer Tryz.prog 172 [.slice none 0 0, .string ⟨#[]⟩, .int .i64 0, .int .i64 0] := ⟨by kernel_rfl⟩
instance : TStruct Tryz.prog 172 [(0, 1), (1, 1), (2, 1), (3, 1)] := ⟨⟨_, Tryz.underlying172, by kernel_rfl⟩⟩
instance : TFld Tryz.prog 172 0 0 0 false := ⟨⟨_, _, _, Tryz.underlying172, rfl, rfl, Tryz.underlying24, rfl, isz24⟩⟩
instance : TFld Tryz.prog 172 1 1 0 false := ⟨⟨_, _, _, Tryz.underlying172, rfl, rfl, Tryz.underlying9, rfl, isz9⟩⟩
instance : TFld Tryz.prog 172 2 2 0 false := ⟨⟨_, _, _, Tryz.underlying172, rfl, rfl, Tryz.underlying3, rfl, isz3⟩⟩
instance : TFld Tryz.prog 172 3 3 0 false := ⟨⟨_, _, _, Tryz.underlying172, rfl, rfl, Tryz.underlying3, rfl, isz3⟩⟩
instance : TSize Tryz.prog 173 1 := ⟨isz173⟩
instance : TOne Tryz.prog 173 := ⟨⟨_, Tryz.underlying173, rfl⟩, isz173⟩
instance : TSize Tryz.prog 174 1 := ⟨isz174⟩
instance : TOne Tryz.prog 174 := ⟨⟨_, Tryz.underlying174, rfl⟩, isz174⟩
instance : TZer Tryz.prog 174 [.nilFunc] := ⟨by kernel_rfl⟩
instance : TSize Tryz.prog 175 1 := ⟨isz175⟩
instance : TOne Tryz.prog 175 := ⟨⟨_, Tryz.underlying175, rfl⟩, isz175⟩
instance : TZer Tryz.prog 175 [.nilFunc] := ⟨by kernel_rfl⟩
instance : TSize Tryz.prog 176 1 := ⟨isz176⟩
instance : TOne Tryz.prog 176 := ⟨⟨_, Tryz.underlying176, rfl⟩, isz176⟩
instance : TSize Tryz.prog 177 1 := ⟨isz177⟩
instance : TOne Tryz.prog 177 := ⟨⟨_, Tryz.underlying177, rfl⟩, isz177⟩
instance : TZer Tryz.prog 177 [.nilFunc] := ⟨by kernel_rfl⟩
instance : TSize Tryz.prog 178 1 := ⟨isz178⟩
instance : TOne Tryz.prog 178 := ⟨⟨_, Tryz.underlying178, rfl⟩, isz178⟩
instance : TZer Tryz.prog 178 [.nilFunc] := ⟨by kernel_rfl⟩
instance : TSize Tryz.prog 179 1 := ⟨isz179⟩
instance : TOne Tryz.prog 179 := ⟨⟨_, Tryz.underlying179, rfl⟩, isz179⟩
instance : TZer Tryz.prog 179 [.nilFunc] := ⟨by kernel_rfl⟩
instance : TSize Tryz.prog 180 1 := ⟨isz180⟩
instance : TOne Tryz.prog 180 := ⟨⟨_, Tryz.underlying180, rfl⟩, isz180⟩
instance : TSize Tryz.prog 181 1 := ⟨isz181⟩
instance : TOne Tryz.prog 181 := ⟨⟨_, Tryz.underlying181, rfl⟩, isz181⟩
instance : TZer Tryz.prog 181 [.nilFunc] := ⟨by kernel_rfl⟩
instance : TSize Tryz.prog 182 1 := ⟨isz182⟩
instance : TOne Tryz.prog 182 := ⟨⟨_, Tryz.underlying182, rfl⟩, isz182⟩
instance : TZer Tryz.prog 182 [.nilFunc] := ⟨by kernel_rfl⟩
instance : TSize Tryz.prog 183 1 := ⟨isz183⟩
instance : TOne Tryz.prog 183 := ⟨⟨_, Tryz.underlying183, rfl⟩, isz183⟩
instance : TZer Tryz.prog 183 [.pointer none] := ⟨by kernel_rfl⟩
instance : TSize Tryz.prog 184 1 := ⟨isz184⟩
instance : TOne Tryz.prog 184 := ⟨⟨_, Tryz.underlying184, rfl⟩, isz184⟩
instance : TZer Tryz.prog 184 [.nilFunc] := ⟨by kernel_rfl⟩
instance : TSize Tryz.prog 185 1 := ⟨isz185⟩
instance : TOne Tryz.prog 185 := ⟨⟨_, Tryz.underlying185, rfl⟩, isz185⟩
instance : TSize Tryz.prog 186 1 := ⟨isz186⟩
instance : TOne Tryz.prog 186 := ⟨⟨_, Tryz.underlying186, rfl⟩, isz186⟩
instance : TZer Tryz.prog 186 [.nilFunc] := ⟨by kernel_rfl⟩
instance : TSize Tryz.prog 187 1 := ⟨isz187⟩
instance : TOne Tryz.prog 187 := ⟨⟨_, Tryz.underlying187, rfl⟩, isz187⟩
instance : TZer Tryz.prog 187 [.nilFunc] := ⟨by kernel_rfl⟩
instance : TSize Tryz.prog 188 1 := ⟨isz188⟩
instance : TOne Tryz.prog 188 := ⟨⟨_, Tryz.underlying188, rfl⟩, isz188⟩
instance : TSize Tryz.prog 189 1 := ⟨isz189⟩
instance : TOne Tryz.prog 189 := ⟨⟨_, Tryz.underlying189, rfl⟩, isz189⟩
instance : TZer Tryz.prog 189 [.nilFunc] := ⟨by kernel_rfl⟩
instance : TSize Tryz.prog 190 1 := ⟨isz190⟩
instance : TOne Tryz.prog 190 := ⟨⟨_, Tryz.underlying190, rfl⟩, isz190⟩
instance : TZer Tryz.prog 190 [.nilFunc] := ⟨by kernel_rfl⟩
instance : TSize Tryz.prog 191 1 := ⟨isz191⟩
instance : TOne Tryz.prog 191 := ⟨⟨_, Tryz.underlying191, rfl⟩, isz191⟩
instance : TZer Tryz.prog 191 [.nilFunc] := ⟨by kernel_rfl⟩
instance : TSize Tryz.prog 192 32 := ⟨isz192⟩
instance : TRow Tryz.prog 192 32 := ⟨⟨_, Tryz.underlying192, rfl⟩, isz192⟩
instance : TSize Tryz.prog 193 64 := ⟨isz193⟩
instance : TRow Tryz.prog 193 64 := ⟨⟨_, Tryz.underlying193, rfl⟩, isz193⟩
instance : TSize Tryz.prog 194 1 := ⟨isz194⟩
instance : TOne Tryz.prog 194 := ⟨⟨_, Tryz.underlying194, rfl⟩, isz194⟩
instance : TZer Tryz.prog 194 [.pointer none] := ⟨by kernel_rfl⟩
instance : TSize Tryz.prog 195 1 := ⟨isz195⟩
instance : TOne Tryz.prog 195 := ⟨⟨_, Tryz.underlying195, rfl⟩, isz195⟩
instance : TZer Tryz.prog 195 [.nilFunc] := ⟨by kernel_rfl⟩
instance : TSize Tryz.prog 196 1 := ⟨isz196⟩
instance : TOne Tryz.prog 196 := ⟨⟨_, Tryz.underlying196, rfl⟩, isz196⟩
instance : TZer Tryz.prog 196 [.pointer none] := ⟨by kernel_rfl⟩
instance : TSize Tryz.prog 197 1 := ⟨isz197⟩
instance : TOne Tryz.prog 197 := ⟨⟨_, Tryz.underlying197, rfl⟩, isz197⟩
instance : TZer Tryz.prog 197 [.nilFunc] := ⟨by kernel_rfl⟩
instance : TSize Tryz.prog 198 1 := ⟨isz198⟩
instance : TOne Tryz.prog 198 := ⟨⟨_, Tryz.underlying198, rfl⟩, isz198⟩
instance : TZer Tryz.prog 198 [.pointer none] := ⟨by kernel_rfl⟩
instance : TSize Tryz.prog 199 1 := ⟨isz199⟩
instance : TOne Tryz.prog 199 := ⟨⟨_, Tryz.underlying199, rfl⟩, isz199⟩
instance : TZer Tryz.prog 199 [.nilFunc] := ⟨by kernel_rfl⟩
instance : TSize Tryz.prog 200 1 := ⟨isz200⟩
instance : TOne Tryz.prog 200 := ⟨⟨_, Tryz.underlying200, rfl⟩, isz200⟩
instance : TZer Tryz.prog 200 [.pointer none] := ⟨by kernel_rfl⟩
instance : TSize Tryz.prog 201 1 := ⟨isz201⟩
instance : TOne Tryz.prog 201 := ⟨⟨_, Tryz.underlying201, rfl⟩, isz201⟩
instance : TZer Tryz.prog 201 [.nilFunc] := ⟨by kernel_rfl⟩
instance : TSize Tryz.prog 202 256 := ⟨isz202⟩
instance : TRow Tryz.prog 202 256 := ⟨⟨_, Tryz.underlying202, rfl⟩, isz202⟩
instance : TSize Tryz.prog 203 256 := ⟨isz203⟩
instance : TRow Tryz.prog 203 256 := ⟨⟨_, Tryz.underlying203, rfl⟩, isz203⟩
instance : TSize Tryz.prog 204 1 := ⟨isz204⟩
instance : TOne Tryz.prog 204 := ⟨⟨_, Tryz.underlying204, rfl⟩, isz204⟩
instance : TZer Tryz.prog 204 [.pointer none] := ⟨by kernel_rfl⟩
instance : TSize Tryz.prog 205 256 := ⟨isz205⟩
instance : TRow Tryz.prog 205 256 := ⟨⟨_, Tryz.underlying205, rfl⟩, isz205⟩
instance : TSize Tryz.prog 206 257 := ⟨isz206⟩
instance : TRow Tryz.prog 206 257 := ⟨⟨_, Tryz.underlying206, rfl⟩, isz206⟩
instance : TStruct Tryz.prog 206 [(0, 256), (256, 1)] := ⟨⟨_, Tryz.underlying206, by kernel_rfl⟩⟩
instance : TFld Tryz.prog 206 0 0 255 true := ⟨⟨_, _, _, Tryz.underlying206, rfl, rfl, Tryz.underlying205, rfl, isz205⟩⟩
instance : TFld Tryz.prog 206 1 256 0 false := ⟨⟨_, _, _, Tryz.underlying206, rfl, rfl, Tryz.underlying24, rfl, isz24⟩⟩
instance : TSize Tryz.prog 207 257 := ⟨isz207⟩
instance : TRow Tryz.prog 207 257 := ⟨⟨_, Tryz.underlying207, rfl⟩, isz207⟩
instance : TStruct Tryz.prog 207 [(0, 256), (256, 1)] := ⟨⟨_, Tryz.underlying207, by kernel_rfl⟩⟩
instance : TFld Tryz.prog 207 0 0 255 true := ⟨⟨_, _, _, Tryz.underlying207, rfl, rfl, Tryz.underlying205, rfl, isz205⟩⟩
instance : TFld Tryz.prog 207 1 256 0 false := ⟨⟨_, _, _, Tryz.underlying207, rfl, rfl, Tryz.underlying24, rfl, isz24⟩⟩
instance : TSize Tryz.prog 208 1 := ⟨isz208⟩
instance : TOne Tryz.prog 208 := ⟨⟨_, Tryz.underlying208, rfl⟩, isz208⟩
instance : TZer Tryz.prog 208 [.pointer none] := ⟨by kernel_rfl⟩
instance : TSize Tryz.prog 209 2 := ⟨isz209⟩
instance : TRow Tryz.prog 209 2 := ⟨⟨_, Tryz.underlying209, rfl⟩, isz209⟩
instance : TZer Tryz.prog 209 [.int .u8 0, .int .u8 0] := ⟨by kernel_rfl⟩
instance : TStruct Tryz.prog 209 [(0, 1), (1, 1)] := ⟨⟨_, Tryz.underlying209, by kernel_rfl⟩⟩
instance : TFld Tryz.prog 209 0 0 0 false := ⟨⟨_, _, _, Tryz.underlying209, rfl, rfl, Tryz.underlying5, rfl, isz5⟩⟩
instance : TFld Tryz.prog 209 1 1 0 false := ⟨⟨_, _, _, Tryz.underlying209, rfl, rfl, Tryz.underlying5, rfl, isz5⟩⟩
instance : TSize Tryz.prog 210 2 := ⟨isz210⟩
instance : TRow Tryz.prog 210 2 := ⟨⟨_, Tryz.underlying210, rfl⟩, isz210⟩
instance : TZer Tryz.prog 210 [.int .u8 0, .int .u8 0] := ⟨by kernel_rfl⟩
instance : TStruct Tryz.prog 210 [(0, 1), (1, 1)] := ⟨⟨_, Tryz.underlying210, by kernel_rfl⟩⟩
instance : TFld Tryz.prog 210 0 0 0 false := ⟨⟨_, _, _, Tryz.underlying210, rfl, rfl, Tryz.underlying5, rfl, isz5⟩⟩
instance : TFld Tryz.prog 210 1 1 0 false := ⟨⟨_, _, _, Tryz.underlying210, rfl, rfl, Tryz.underlying5, rfl, isz5⟩⟩
instance : TSize Tryz.prog 211 32 := ⟨isz211⟩
instance : TRow Tryz.prog 211 32 := ⟨⟨_, Tryz.underlying211, rfl⟩, isz211⟩
instance : TSize Tryz.prog 212 1 := ⟨isz212⟩
instance : TOne Tryz.prog 212 := ⟨⟨_, Tryz.underlying212, rfl⟩, isz212⟩
instance : TZer Tryz.prog 212 [.nilFunc] := ⟨by kernel_rfl⟩
instance : TSize Tryz.prog 213 1 := ⟨isz213⟩
instance : TOne Tryz.prog 213 := ⟨⟨_, Tryz.underlying213, rfl⟩, isz213⟩
instance : TZer Tryz.prog 213 [.pointer none] := ⟨by kernel_rfl⟩
instance : TSize Tryz.prog 214 1 := ⟨isz214⟩
instance : TOne Tryz.prog 214 := ⟨⟨_, Tryz.underlying214, rfl⟩, isz214⟩
instance : TZer Tryz.prog 214 [.nilFunc] := ⟨by kernel_rfl⟩
instance : TSize Tryz.prog 215 1 := ⟨isz215⟩
instance : TOne Tryz.prog 215 := ⟨⟨_, Tryz.underlying215, rfl⟩, isz215⟩
instance : TZer Tryz.prog 215 [.nilFunc] := ⟨by kernel_rfl⟩
instance : TSize Tryz.prog 216 1 := ⟨isz216⟩
instance : TOne Tryz.prog 216 := ⟨⟨_, Tryz.underlying216, rfl⟩, isz216⟩
instance : TZer Tryz.prog 216 [.pointer none] := ⟨by kernel_rfl⟩
instance : TSize Tryz.prog 217 1 := ⟨isz217⟩
instance : TOne Tryz.prog 217 := ⟨⟨_, Tryz.underlying217, rfl⟩, isz217⟩
instance : TZer Tryz.prog 217 [.nilFunc] := ⟨by kernel_rfl⟩
instance : TSize Tryz.prog 218 2 := ⟨isz218⟩
instance : TRow Tryz.prog 218 2 := ⟨⟨_, Tryz.underlying218, rfl⟩, isz218⟩
instance : TZer Tryz.prog 218 [.pointer none, .string ⟨#[]⟩] := ⟨by kernel_rfl⟩
instance : TStruct Tryz.prog 218 [(0, 1), (1, 1)] := ⟨⟨_, Tryz.underlying218, by kernel_rfl⟩⟩
instance : TFld Tryz.prog 218 0 0 0 false := ⟨⟨_, _, _, Tryz.underlying218, rfl, rfl, Tryz.underlying216, rfl, isz216⟩⟩
instance : TFld Tryz.prog 218 1 1 0 false := ⟨⟨_, _, _, Tryz.underlying218, rfl, rfl, Tryz.underlying9, rfl, isz9⟩⟩
instance : TSize Tryz.prog 219 2 := ⟨isz219⟩
instance : TRow Tryz.prog 219 2 := ⟨⟨_, Tryz.underlying219, rfl⟩, isz219⟩
instance : TZer Tryz.prog 219 [.pointer none, .string ⟨#[]⟩] := ⟨by kernel_rfl⟩
instance : TStruct Tryz.prog 219 [(0, 1), (1, 1)] := ⟨⟨_, Tryz.underlying219, by kernel_rfl⟩⟩
instance : TFld Tryz.prog 219 0 0 0 false := ⟨⟨_, _, _, Tryz.underlying219, rfl, rfl, Tryz.underlying216, rfl, isz216⟩⟩
instance : TFld Tryz.prog 219 1 1 0 false := ⟨⟨_, _, _, Tryz.underlying219, rfl, rfl, Tryz.underlying9, rfl, isz9⟩⟩
instance : TSize Tryz.prog 220 1 := ⟨isz220⟩
instance : TOne Tryz.prog 220 := ⟨⟨_, Tryz.underlying220, rfl⟩, isz220⟩
instance : TZer Tryz.prog 220 [.pointer none] := ⟨by kernel_rfl⟩
instance : TSize Tryz.prog 221 1 := ⟨isz221⟩
instance : TOne Tryz.prog 221 := ⟨⟨_, Tryz.underlying221, rfl⟩, isz221⟩
instance : TSlice Tryz.prog 221 220 := ⟨Tryz.underlying221⟩
instance : TZer Tryz.prog 221 [.slice none 0 0] := ⟨by kernel_rfl⟩
instance : TSize Tryz.prog 222 5 := ⟨isz222⟩
instance : TRow Tryz.prog 222 5 := ⟨⟨_, Tryz.underlying222, rfl⟩, isz222⟩
instance : TZer Tryz.prog 222 [.string ⟨#[]⟩, .int .i64 0, .string ⟨#[]⟩, .pointer none, .slice none 0 0] := ⟨by kernel_rfl⟩
instance : TStruct Tryz.prog 222 [(0, 1), (1, 1), (2, 1), (3, 1), (4, 1)] := ⟨⟨_, Tryz.underlying222, by kernel_rfl⟩⟩
instance : TFld Tryz.prog 222 0 0 0 false := ⟨⟨_, _, _, Tryz.underlying222, rfl, rfl, Tryz.underlying9, rfl, isz9⟩⟩
instance : TFld Tryz.prog 222 1 1 0 false := ⟨⟨_, _, _, Tryz.underlying222, rfl, rfl, Tryz.underlying3, rfl, isz3⟩⟩
instance : TFld Tryz.prog 222 2 2 0 false := ⟨⟨_, _, _, Tryz.underlying222, rfl, rfl, Tryz.underlying9, rfl, isz9⟩⟩
instance : TFld Tryz.prog 222 3 3 0 false := ⟨⟨_, _, _, Tryz.underlying222, rfl, rfl, Tryz.underlying220, rfl, isz220⟩⟩
instance : TFld Tryz.prog 222 4 4 0 false := ⟨⟨_, _, _, Tryz.underlying222, rfl, rfl, Tryz.underlying221, rfl, isz221⟩⟩
instance : TSize Tryz.prog 223 5 := ⟨isz223⟩
instance : TRow Tryz.prog 223 5 := ⟨⟨_, Tryz.underlying223, rfl⟩, isz223⟩
instance : TZer Tryz.prog 223 [.string ⟨#[]⟩, .int .i64 0, .string ⟨#[]⟩, .pointer none, .slice none 0 0] := ⟨by kernel_rfl⟩
instance : TStruct Tryz.prog 223 [(0, 1), (1, 1), (2, 1), (3, 1), (4, 1)] := ⟨⟨_, Tryz.underlying223, by kernel_rfl⟩⟩
instance : TFld Tryz.prog 223 0 0 0 false := ⟨⟨_, _, _, Tryz.underlying223, rfl, rfl, Tryz.underlying9, rfl, isz9⟩⟩
instance : TFld Tryz.prog 223 1 1 0 false := ⟨⟨_, _, _, Tryz.underlying223, rfl, rfl, Tryz.underlying3, rfl, isz3⟩⟩
instance : TFld Tryz.prog 223 2 2 0 false := ⟨⟨_, _, _, Tryz.underlying223, rfl, rfl, Tryz.underlying9, rfl, isz9⟩⟩
instance : TFld Tryz.prog 223 3 3 0 false := ⟨⟨_, _, _, Tryz.underlying223, rfl, rfl, Tryz.underlying220, rfl, isz220⟩⟩
instance : TFld Tryz.prog 223 4 4 0 false := ⟨⟨_, _, _, Tryz.underlying223, rfl, rfl, Tryz.underlying221, rfl, isz221⟩⟩
instance : TSize Tryz.prog 224 262 := ⟨isz224⟩
instance : TRow Tryz.prog 224 262 := ⟨⟨_, Tryz.underlying224, rfl⟩, isz224⟩
instance : TStruct Tryz.prog 224 [(0, 5), (5, 1), (6, 256)] := ⟨⟨_, Tryz.underlying224, by kernel_rfl⟩⟩
instance : TFld Tryz.prog 224 0 0 4 true := ⟨⟨_, _, _, Tryz.underlying224, rfl, rfl, Tryz.underlying223, rfl, isz223⟩⟩
instance : TFld Tryz.prog 224 1 5 0 false := ⟨⟨_, _, _, Tryz.underlying224, rfl, rfl, Tryz.underlying3, rfl, isz3⟩⟩
instance : TFld Tryz.prog 224 2 6 255 true := ⟨⟨_, _, _, Tryz.underlying224, rfl, rfl, Tryz.underlying202, rfl, isz202⟩⟩
instance : TSize Tryz.prog 225 262 := ⟨isz225⟩
instance : TRow Tryz.prog 225 262 := ⟨⟨_, Tryz.underlying225, rfl⟩, isz225⟩
instance : TStruct Tryz.prog 225 [(0, 5), (5, 1), (6, 256)] := ⟨⟨_, Tryz.underlying225, by kernel_rfl⟩⟩
instance : TFld Tryz.prog 225 0 0 4 true := ⟨⟨_, _, _, Tryz.underlying225, rfl, rfl, Tryz.underlying223, rfl, isz223⟩⟩
instance : TFld Tryz.prog 225 1 5 0 false := ⟨⟨_, _, _, Tryz.underlying225, rfl, rfl, Tryz.underlying3, rfl, isz3⟩⟩
instance : TFld Tryz.prog 225 2 6 255 true := ⟨⟨_, _, _, Tryz.underlying225, rfl, rfl, Tryz.underlying202, rfl, isz202⟩⟩
instance : TSize Tryz.prog 226 1 := ⟨isz226⟩
instance : TOne Tryz.prog 226 := ⟨⟨_, Tryz.underlying226, rfl⟩, isz226⟩
instance : TZer Tryz.prog 226 [.nilFunc] := ⟨by kernel_rfl⟩
instance : TSize Tryz.prog 227 1 := ⟨isz227⟩
instance : TOne Tryz.prog 227 := ⟨⟨_, Tryz.underlying227, rfl⟩, isz227⟩
instance : TZer Tryz.prog 227 [.nilFunc] := ⟨by kernel_rfl⟩
instance : TSize Tryz.prog 228 1 := ⟨isz228⟩
instance : TOne Tryz.prog 228 := ⟨⟨_, Tryz.underlying228, rfl⟩, isz228⟩
instance : TZer Tryz.prog 228 [.pointer none] := ⟨by kernel_rfl⟩
instance : TSize Tryz.prog 229 1 := ⟨isz229⟩
instance : TOne Tryz.prog 229 := ⟨⟨_, Tryz.underlying229, rfl⟩, isz229⟩
instance : TZer Tryz.prog 229 [.nilFunc] := ⟨by kernel_rfl⟩
instance : TSize Tryz.prog 230 1 := ⟨isz230⟩
instance : TOne Tryz.prog 230 := ⟨⟨_, Tryz.underlying230, rfl⟩, isz230⟩
instance : TZer Tryz.prog 230 [.pointer none] := ⟨by kernel_rfl⟩
instance : TSize Tryz.prog 231 1 := ⟨isz231⟩
instance : TOne Tryz.prog 231 := ⟨⟨_, Tryz.underlying231, rfl⟩, isz231⟩
instance : TZer Tryz.prog 231 [.nilFunc] := ⟨by kernel_rfl⟩
instance : TSize Tryz.prog 232 1 := ⟨isz232⟩
instance : TOne Tryz.prog 232 := ⟨⟨_, Tryz.underlying232, rfl⟩, isz232⟩
instance : TZer Tryz.prog 232 [.nilFunc] := ⟨by kernel_rfl⟩
instance : TSize Tryz.prog 233 1 := ⟨isz233⟩
instance : TOne Tryz.prog 233 := ⟨⟨_, Tryz.underlying233, rfl⟩, isz233⟩
instance : TZer Tryz.prog 233 [.nilFunc] := ⟨by kernel_rfl⟩
instance : TSize Tryz.prog 234 256 := ⟨isz234⟩
instance : TRow Tryz.prog 234 256 := ⟨⟨_, Tryz.underlying234, rfl⟩, isz234⟩
instance : TSize Tryz.prog 235 258 := ⟨isz235⟩
instance : TRow Tryz.prog 235 258 := ⟨⟨_, Tryz.underlying235, rfl⟩, isz235⟩
instance : TStruct Tryz.prog 235 [(0, 1), (1, 256), (257, 1)] := ⟨⟨_, Tryz.underlying235, by kernel_rfl⟩⟩
instance : TFld Tryz.prog 235 0 0 0 false := ⟨⟨_, _, _, Tryz.underlying235, rfl, rfl, Tryz.underlying9, rfl, isz9⟩⟩
instance : TFld Tryz.prog 235 1 1 255 true := ⟨⟨_, _, _, Tryz.underlying235, rfl, rfl, Tryz.underlying234, rfl, isz234⟩⟩
instance : TFld Tryz.prog 235 2 257 0 false := ⟨⟨_, _, _, Tryz.underlying235, rfl, rfl, Tryz.underlying22, rfl, isz22⟩⟩
instance : TSize Tryz.prog 236 258 := ⟨isz236⟩
instance : TRow Tryz.prog 236 258 := ⟨⟨_, Tryz.underlying236, rfl⟩, isz236⟩
instance : TStruct Tryz.prog 236 [(0, 1), (1, 256), (257, 1)] := ⟨⟨_, Tryz.underlying236, by kernel_rfl⟩⟩
instance : TFld Tryz.prog 236 0 0 0 false := ⟨⟨_, _, _, Tryz.underlying236, rfl, rfl, Tryz.underlying9, rfl, isz9⟩⟩
instance : TFld Tryz.prog 236 1 1 255 true := ⟨⟨_, _, _, Tryz.underlying236, rfl, rfl, Tryz.underlying234, rfl, isz234⟩⟩
instance : TFld Tryz.prog 236 2 257 0 false := ⟨⟨_, _, _, Tryz.underlying236, rfl, rfl, Tryz.underlying22, rfl, isz22⟩⟩
instance : TSize Tryz.prog 237 1 := ⟨isz237⟩
instance : TOne Tryz.prog 237 := ⟨⟨_, Tryz.underlying237, rfl⟩, isz237⟩
instance : TInt Tryz.prog 237 .i64 := ⟨Tryz.underlying237⟩
instance : TZer Tryz.prog 237 [.int .i64 0] := ⟨by kernel_rfl⟩
instance : TSize Tryz.prog 238 1 := ⟨isz238⟩
instance : TOne Tryz.prog 238 := ⟨⟨_, Tryz.underlying238, rfl⟩, isz238⟩
instance : TSize Tryz.prog 239 1 := ⟨isz239⟩
instance : TOne Tryz.prog 239 := ⟨⟨_, Tryz.underlying239, rfl⟩, isz239⟩
instance : TZer Tryz.prog 239 [.nilFunc] := ⟨by kernel_rfl⟩
instance : TSize Tryz.prog 240 1 := ⟨isz240⟩
instance : TOne Tryz.prog 240 := ⟨⟨_, Tryz.underlying240, rfl⟩, isz240⟩
instance : TZer Tryz.prog 240 [.pointer none] := ⟨by kernel_rfl⟩
instance : TSize Tryz.prog 241 1 := ⟨isz241⟩
instance : TOne Tryz.prog 241 := ⟨⟨_, Tryz.underlying241, rfl⟩, isz241⟩
instance : TZer Tryz.prog 241 [.nilFunc] := ⟨by kernel_rfl⟩
instance : TSize Tryz.prog 242 1 := ⟨isz242⟩
instance : TOne Tryz.prog 242 := ⟨⟨_, Tryz.underlying242, rfl⟩, isz242⟩
instance : TZer Tryz.prog 242 [.nilFunc] := ⟨by kernel_rfl⟩
instance : TSize Tryz.prog 243 1 := ⟨isz243⟩
instance : TOne Tryz.prog 243 := ⟨⟨_, Tryz.underlying243, rfl⟩, isz243⟩
instance : TZer Tryz.prog 243 [.nilFunc] := ⟨by kernel_rfl⟩
instance : TSize Tryz.prog 244 1 := ⟨isz244⟩
instance : TOne Tryz.prog 244 := ⟨⟨_, Tryz.underlying244, rfl⟩, isz244⟩
instance : TZer Tryz.prog 244 [.nilFunc] := ⟨by kernel_rfl⟩
instance : TSize Tryz.prog 245 1 := ⟨isz245⟩
instance : TOne Tryz.prog 245 := ⟨⟨_, Tryz.underlying245, rfl⟩, isz245⟩
instance : TZer Tryz.prog 245 [.nilFunc] := ⟨by kernel_rfl⟩
instance : TSize Tryz.prog 246 1 := ⟨isz246⟩
instance : TOne Tryz.prog 246 := ⟨⟨_, Tryz.underlying246, rfl⟩, isz246⟩
instance : TSize Tryz.prog 247 1 := ⟨isz247⟩
instance : TOne Tryz.prog 247 := ⟨⟨_, Tryz.underlying247, rfl⟩, isz247⟩
instance : TZer Tryz.prog 247 [.nilFunc] := ⟨by kernel_rfl⟩
instance : TSize Tryz.prog 248 3 := ⟨isz248⟩
instance : TRow Tryz.prog 248 3 := ⟨⟨_, Tryz.underlying248, rfl⟩, isz248⟩
instance : TZer Tryz.prog 248 [.string ⟨#[]⟩, .string ⟨#[]⟩, .nilIface] := ⟨by kernel_rfl⟩
instance : TStruct Tryz.prog 248 [(0, 1), (1, 1), (2, 1)] := ⟨⟨_, Tryz.underlying248, by kernel_rfl⟩⟩
instance : TFld Tryz.prog 248 0 0 0 false := ⟨⟨_, _, _, Tryz.underlying248, rfl, rfl, Tryz.underlying9, rfl, isz9⟩⟩
instance : TFld Tryz.prog 248 1 1 0 false := ⟨⟨_, _, _, Tryz.underlying248, rfl, rfl, Tryz.underlying9, rfl, isz9⟩⟩
instance : TFld Tryz.prog 248 2 2 0 false := ⟨⟨_, _, _, Tryz.underlying248, rfl, rfl, Tryz.underlying126, rfl, isz126⟩⟩
instance : TSize Tryz.prog 249 3 := ⟨isz249⟩
instance : TRow Tryz.prog 249 3 := ⟨⟨_, Tryz.underlying249, rfl⟩, isz249⟩
instance : TZer Tryz.prog 249 [.string ⟨#[]⟩, .string ⟨#[]⟩, .nilIface] := ⟨by kernel_rfl⟩
instance : TStruct Tryz.prog 249 [(0, 1), (1, 1), (2, 1)] := ⟨⟨_, Tryz.underlying249, by kernel_rfl⟩⟩
instance : TFld Tryz.prog 249 0 0 0 false := ⟨⟨_, _, _, Tryz.underlying249, rfl, rfl, Tryz.underlying9, rfl, isz9⟩⟩
instance : TFld Tryz.prog 249 1 1 0 false := ⟨⟨_, _, _, Tryz.underlying249, rfl, rfl, Tryz.underlying9, rfl, isz9⟩⟩
instance : TFld Tryz.prog 249 2 2 0 false := ⟨⟨_, _, _, Tryz.underlying249, rfl, rfl, Tryz.underlying126, rfl, isz126⟩⟩
instance : TSize Tryz.prog 250 1 := ⟨isz250⟩
instance : TOne Tryz.prog 250 := ⟨⟨_, Tryz.underlying250, rfl⟩, isz250⟩
instance : TZer Tryz.prog 250 [.nilFunc] := ⟨by kernel_rfl⟩
instance : TSize Tryz.prog 251 1 := ⟨isz251⟩
instance : TOne Tryz.prog 251 := ⟨⟨_, Tryz.underlying251, rfl⟩, isz251⟩
instance : TZer Tryz.prog 251 [.nilFunc] := ⟨by kernel_rfl⟩
instance : TSize Tryz.prog 252 1 := ⟨isz252⟩
instance : TOne Tryz.prog 252 := ⟨⟨_, Tryz.underlying252, rfl⟩, isz252⟩
instance : TZer Tryz.prog 252 [.pointer none] := ⟨by kernel_rfl⟩
instance : TSize Tryz.prog 253 1 := ⟨isz253⟩
instance : TRow Tryz.prog 253 1 := ⟨⟨_, Tryz.underlying253, rfl⟩, isz253⟩
instance : TZer Tryz.prog 253 [.string ⟨#[]⟩] := ⟨by kernel_rfl⟩
instance : TStruct Tryz.prog 253 [(0, 1)] := ⟨⟨_, Tryz.underlying253, by kernel_rfl⟩⟩
instance : TFld Tryz.prog 253 0 0 0 false := ⟨⟨_, _, _, Tryz.underlying253, rfl, rfl, Tryz.underlying9, rfl, isz9⟩⟩
instance : TSize Tryz.prog 254 1 := ⟨isz254⟩
instance : TRow Tryz.prog 254 1 := ⟨⟨_, Tryz.underlying254, rfl⟩, isz254⟩
instance : TZer Tryz.prog 254 [.string ⟨#[]⟩] := ⟨by kernel_rfl⟩
instance : TStruct Tryz.prog 254 [(0, 1)] := ⟨⟨_, Tryz.underlying254, by kernel_rfl⟩⟩
instance : TFld Tryz.prog 254 0 0 0 false := ⟨⟨_, _, _, Tryz.underlying254, rfl, rfl, Tryz.underlying9, rfl, isz9⟩⟩
instance : TSize Tryz.prog 255 4 := ⟨isz255⟩
instance : TRow Tryz.prog 255 4 := ⟨⟨_, Tryz.underlying255, rfl⟩, isz255⟩
instance : TZer Tryz.prog 255 [.pointer none, .pointer none, .pointer none, .string ⟨#[]⟩] := ⟨by kernel_rfl⟩
instance : TStruct Tryz.prog 255 [(0, 1), (1, 1), (2, 1), (3, 1)] := ⟨⟨_, Tryz.underlying255, by kernel_rfl⟩⟩
instance : TFld Tryz.prog 255 0 0 0 false := ⟨⟨_, _, _, Tryz.underlying255, rfl, rfl, Tryz.underlying17, rfl, isz17⟩⟩
instance : TFld Tryz.prog 255 1 1 0 false := ⟨⟨_, _, _, Tryz.underlying255, rfl, rfl, Tryz.underlying17, rfl, isz17⟩⟩
instance : TFld Tryz.prog 255 2 2 0 false := ⟨⟨_, _, _, Tryz.underlying255, rfl, rfl, Tryz.underlying17, rfl, isz17⟩⟩
instance : TFld Tryz.prog 255 3 3 0 false := ⟨⟨_, _, _, Tryz.underlying255, rfl, rfl, Tryz.underlying9, rfl, isz9⟩⟩
instance : TSize Tryz.prog 256 4 := ⟨isz256⟩
instance : TRow Tryz.prog 256 4 := ⟨⟨_, Tryz.underlying256, rfl⟩, isz256⟩
instance : TZer Tryz.prog 256 [.pointer none, .pointer none, .pointer none, .string ⟨#[]⟩] := ⟨by kernel_rfl⟩
instance : TStruct Tryz.prog 256 [(0, 1), (1, 1), (2, 1), (3, 1)] := ⟨⟨_, Tryz.underlying256, by kernel_rfl⟩⟩
instance : TFld Tryz.prog 256 0 0 0 false := ⟨⟨_, _, _, Tryz.underlying256, rfl, rfl, Tryz.underlying17, rfl, isz17⟩⟩
instance : TFld Tryz.prog 256 1 1 0 false := ⟨⟨_, _, _, Tryz.underlying256, rfl, rfl, Tryz.underlying17, rfl, isz17⟩⟩
instance : TFld Tryz.prog 256 2 2 0 false := ⟨⟨_, _, _, Tryz.underlying256, rfl, rfl, Tryz.underlying17, rfl, isz17⟩⟩
instance : TFld Tryz.prog 256 3 3 0 false := ⟨⟨_, _, _, Tryz.underlying256, rfl, rfl, Tryz.underlying9, rfl, isz9⟩⟩
instance : TSize Tryz.prog 260 1 := ⟨isz260⟩
instance : TOne Tryz.prog 260 := ⟨⟨_, Tryz.underlying260, rfl⟩, isz260⟩
instance : TZer Tryz.prog 260 [.nilFunc] := ⟨by kernel_rfl⟩
instance : TSize Tryz.prog 261 1 := ⟨isz261⟩
instance : TOne Tryz.prog 261 := ⟨⟨_, Tryz.underlying261, rfl⟩, isz261⟩
instance : TInt Tryz.prog 261 .u8 := ⟨Tryz.underlying261⟩
instance : TZer Tryz.prog 261 [.int .u8 0] := ⟨by kernel_rfl⟩
instance : TSize Tryz.prog 262 1 := ⟨isz262⟩
instance : TOne Tryz.prog 262 := ⟨⟨_, Tryz.underlying262, rfl⟩, isz262⟩
instance : TInt Tryz.prog 262 .u8 := ⟨Tryz.underlying262⟩
instance : TZer Tryz.prog 262 [.int .u8 0] := ⟨by kernel_rfl⟩
instance : TSize Tryz.prog 263 1 := ⟨isz263⟩
instance : TOne Tryz.prog 263 := ⟨⟨_, Tryz.underlying263, rfl⟩, isz263⟩
instance : TZer Tryz.prog 263 [.nilFunc] := ⟨by kernel_rfl⟩
instance : TSize Tryz.prog 264 1 := ⟨isz264⟩
instance : TOne Tryz.prog 264 := ⟨⟨_, Tryz.underlying264, rfl⟩, isz264⟩
instance : TInt Tryz.prog 264 .i32 := ⟨Tryz.underlying264⟩
instance : TZer Tryz.prog 264 [.int .i32 0] := ⟨by kernel_rfl⟩
instance : TSize Tryz.prog 265 1 := ⟨isz265⟩
instance : TOne Tryz.prog 265 := ⟨⟨_, Tryz.underlying265, rfl⟩, isz265⟩
instance : TInt Tryz.prog 265 .i32 := ⟨Tryz.underlying265⟩
instance : TZer Tryz.prog 265 [.int .i32 0] := ⟨by kernel_rfl⟩
instance : TSize Tryz.prog 266 11 := ⟨isz266⟩
instance : TRow Tryz.prog 266 11 := ⟨⟨_, Tryz.underlying266, rfl⟩, isz266⟩
instance : TZer Tryz.prog 266 [.int .u64 0, .int .u64 0, .int .u32 0, .int .u8 0, .int .u8 0, .int .u8 0, .int .u8 0, .nilFunc, .pointer none, .int .i32 0, .int .i32 0] := ⟨by kernel_rfl⟩
instance : TStruct Tryz.prog 266 [(0, 1), (1, 1), (2, 1), (3, 1), (4, 1), (5, 1), (6, 1), (7, 1), (8, 1), (9, 1), (10, 1)] := ⟨⟨_, Tryz.underlying266, by kernel_rfl⟩⟩
instance : TFld Tryz.prog 266 0 0 0 false := ⟨⟨_, _, _, Tryz.underlying266, rfl, rfl, Tryz.underlying12, rfl, isz12⟩⟩
instance : TFld Tryz.prog 266 1 1 0 false := ⟨⟨_, _, _, Tryz.underlying266, rfl, rfl, Tryz.underlying12, rfl, isz12⟩⟩
instance : TFld Tryz.prog 266 2 2 0 false := ⟨⟨_, _, _, Tryz.underlying266, rfl, rfl, Tryz.underlying148, rfl, isz148⟩⟩
instance : TFld Tryz.prog 266 3 3 0 false := ⟨⟨_, _, _, Tryz.underlying266, rfl, rfl, Tryz.underlying261, rfl, isz261⟩⟩
instance : TFld Tryz.prog 266 4 4 0 false := ⟨⟨_, _, _, Tryz.underlying266, rfl, rfl, Tryz.underlying5, rfl, isz5⟩⟩
instance : TFld Tryz.prog 266 5 5 0 false := ⟨⟨_, _, _, Tryz.underlying266, rfl, rfl, Tryz.underlying5, rfl, isz5⟩⟩
instance : TFld Tryz.prog 266 6 6 0 false := ⟨⟨_, _, _, Tryz.underlying266, rfl, rfl, Tryz.underlying262, rfl, isz262⟩⟩
instance : TFld Tryz.prog 266 7 7 0 false := ⟨⟨_, _, _, Tryz.underlying266, rfl, rfl, Tryz.underlying263, rfl, isz263⟩⟩
instance : TFld Tryz.prog 266 8 8 0 false := ⟨⟨_, _, _, Tryz.underlying266, rfl, rfl, Tryz.underlying167, rfl, isz167⟩⟩
instance : TFld Tryz.prog 266 9 9 0 false := ⟨⟨_, _, _, Tryz.underlying266, rfl, rfl, Tryz.underlying264, rfl, isz264⟩⟩
instance : TFld Tryz.prog 266 10 10 0 false := ⟨⟨_, _, _, Tryz.underlying266, rfl, rfl, Tryz.underlying265, rfl, isz265⟩⟩
instance : TSize Tryz.prog 267 11 := ⟨isz267⟩
instance : TRow Tryz.prog 267 11 := ⟨⟨_, Tryz.underlying267, rfl⟩, isz267⟩
instance : TZer Tryz.prog 267 [.int .u64 0, .int .u64 0, .int .u32 0, .int .u8 0, .int .u8 0, .int .u8 0, .int .u8 0, .nilFunc, .pointer none, .int .i32 0, .int .i32 0] := ⟨by kernel_rfl⟩
instance : TStruct Tryz.prog 267 [(0, 1), (1, 1), (2, 1), (3, 1), (4, 1), (5, 1), (6, 1), (7, 1), (8, 1), (9, 1), (10, 1)] := ⟨⟨_, Tryz.underlying267, by kernel_rfl⟩⟩
instance : TFld Tryz.prog 267 0 0 0 false := ⟨⟨_, _, _, Tryz.underlying267, rfl, rfl, Tryz.underlying12, rfl, isz12⟩⟩
instance : TFld Tryz.prog 267 1 1 0 false := ⟨⟨_, _, _, Tryz.underlying267, rfl, rfl, Tryz.underlying12, rfl, isz12⟩⟩
instance : TFld Tryz.prog 267 2 2 0 false := ⟨⟨_, _, _, Tryz.underlying267, rfl, rfl, Tryz.underlying148, rfl, isz148⟩⟩
instance : TFld Tryz.prog 267 3 3 0 false := ⟨⟨_, _, _, Tryz.underlying267, rfl, rfl, Tryz.underlying261, rfl, isz261⟩⟩
instance : TFld Tryz.prog 267 4 4 0 false := ⟨⟨_, _, _, Tryz.underlying267, rfl, rfl, Tryz.underlying5, rfl, isz5⟩⟩
instance : TFld Tryz.prog 267 5 5 0 false := ⟨⟨_, _, _, Tryz.underlying267, rfl, rfl, Tryz.underlying5, rfl, isz5⟩⟩
instance : TFld Tryz.prog 267 6 6 0 false := ⟨⟨_, _, _, Tryz.underlying267, rfl, rfl, Tryz.underlying262, rfl, isz262⟩⟩
instance : TFld Tryz.prog 267 7 7 0 false := ⟨⟨_, _, _, Tryz.underlying267, rfl, rfl, Tryz.underlying263, rfl, isz263⟩⟩
instance : TFld Tryz.prog 267 8 8 0 false := ⟨⟨_, _, _, Tryz.underlying267, rfl, rfl, Tryz.underlying167, rfl, isz167⟩⟩
instance : TFld Tryz.prog 267 9 9 0 false := ⟨⟨_, _, _, Tryz.underlying267, rfl, rfl, Tryz.underlying264, rfl, isz264⟩⟩
instance : TFld Tryz.prog 267 10 10 0 false := ⟨⟨_, _, _, Tryz.underlying267, rfl, rfl, Tryz.underlying265, rfl, isz265⟩⟩
instance : TSize Tryz.prog 268 1 := ⟨isz268⟩
instance : TOne Tryz.prog 268 := ⟨⟨_, Tryz.underlying268, rfl⟩, isz268⟩
instance : TZer Tryz.prog 268 [.nilFunc] := ⟨by kernel_rfl⟩
instance : TSize Tryz.prog 269 1 := ⟨isz269⟩
instance : TOne Tryz.prog 269 := ⟨⟨_, Tryz.underlying269, rfl⟩, isz269⟩
instance : TSlice Tryz.prog 269 5 := ⟨Tryz.underlying269⟩
instance : TZer Tryz.prog 269 [.slice none 0 0] := ⟨by kernel_rfl⟩
instance : TSize Tryz.prog 270 1 := ⟨isz270⟩
instance : TOne Tryz.prog 270 := ⟨⟨_, Tryz.underlying270, rfl⟩, isz270⟩
instance : TZer Tryz.prog 270 [.pointer none] := ⟨by kernel_rfl⟩
instance : TSize Tryz.prog 271 1 := ⟨isz271⟩
instance : TOne Tryz.prog 271 := ⟨⟨_, Tryz.underlying271, rfl⟩, isz271⟩
instance : TIfc Tryz.prog 271 := ⟨_, Tryz.underlying271⟩
instance : TZer Tryz.prog 271 [.nilIface] := ⟨by kernel_rfl⟩
instance : TSize Tryz.prog 272 1 := ⟨isz272⟩
instance : TOne Tryz.prog 272 := ⟨⟨_, Tryz.underlying272, rfl⟩, isz272⟩
instance : TIfc Tryz.prog 272 := ⟨_, Tryz.underlying272⟩
instance : TZer Tryz.prog 272 [.nilIface] := ⟨by kernel_rfl⟩
instance : TSize Tryz.prog 273 1 := ⟨isz273⟩
instance : TOne Tryz.prog 273 := ⟨⟨_, Tryz.underlying273, rfl⟩, isz273⟩
instance : TIfc Tryz.prog 273 := ⟨_, Tryz.underlying273⟩
instance : TZer Tryz.prog 273 [.nilIface] := ⟨by kernel_rfl⟩
instance : TSize Tryz.prog 274 1 := ⟨isz274⟩
instance : TOne Tryz.prog 274 := ⟨⟨_, Tryz.underlying274, rfl⟩, isz274⟩
instance : TIfc Tryz.prog 274 := ⟨_, Tryz.underlying274⟩
instance : TZer Tryz.prog 274 [.nilIface] := ⟨by kernel_rfl⟩
instance : TSize Tryz.prog 275 1 := ⟨isz275⟩
instance : TOne Tryz.prog 275 := ⟨⟨_, Tryz.underlying275, rfl⟩, isz275⟩
instance : TZer Tryz.prog 275 [.nilFunc] := ⟨by kernel_rfl⟩
instance : TSize Tryz.prog 276 1 := ⟨isz276⟩
instance : TOne Tryz.prog 276 := ⟨⟨_, Tryz.underlying276, rfl⟩, isz276⟩
instance : TSize Tryz.prog 277 1 := ⟨isz277⟩
instance : TOne Tryz.prog 277 := ⟨⟨_, Tryz.underlying277, rfl⟩, isz277⟩
instance : TZer Tryz.prog 277 [.nilFunc] := ⟨by kernel_rfl⟩
instance : TSize Tryz.prog 278 1 := ⟨isz278⟩
instance : TOne Tryz.prog 278 := ⟨⟨_, Tryz.underlying278, rfl⟩, isz278⟩
instance : TSize Tryz.prog 279 1 := ⟨isz279⟩
instance : TRow Tryz.prog 279 1 := ⟨⟨_, Tryz.underlying279, rfl⟩, isz279⟩
instance : TZer Tryz.prog 279 [.nilIface] := ⟨by kernel_rfl⟩
instance : TStruct Tryz.prog 279 [(0, 1)] := ⟨⟨_, Tryz.underlying279, by kernel_rfl⟩⟩
instance : TFld Tryz.prog 279 0 0 0 false := ⟨⟨_, _, _, Tryz.underlying279, rfl, rfl, Tryz.underlying272, rfl, isz272⟩⟩
instance : TSize Tryz.prog 280 1 := ⟨isz280⟩
instance : TRow Tryz.prog 280 1 := ⟨⟨_, Tryz.underlying280, rfl⟩, isz280⟩
instance : TZer Tryz.prog 280 [.nilIface] := ⟨by kernel_rfl⟩
instance : TStruct Tryz.prog 280 [(0, 1)] := ⟨⟨_, Tryz.underlying280, by kernel_rfl⟩⟩
instance : TFld Tryz.prog 280 0 0 0 false := ⟨⟨_, _, _, Tryz.underlying280, rfl, rfl, Tryz.underlying272, rfl, isz272⟩⟩
instance : TSize Tryz.prog 281 1 := ⟨isz281⟩
instance : TOne Tryz.prog 281 := ⟨⟨_, Tryz.underlying281, rfl⟩, isz281⟩
instance : TZer Tryz.prog 281 [.nilFunc] := ⟨by kernel_rfl⟩
instance : Enters Tryz.prog 3 := ⟨⟨_, Tryz.func3, by kernel_rfl, by kernel_rfl⟩⟩
instance : Enters Tryz.prog 7 := ⟨⟨_, Tryz.func7, by kernel_rfl, by kernel_rfl⟩⟩
instance : Enters Tryz.prog 8 := ⟨⟨_, Tryz.func8, by kernel_rfl, by kernel_rfl⟩⟩
instance : Enters Tryz.prog 9 := ⟨⟨_, Tryz.func9, by kernel_rfl, by kernel_rfl⟩⟩
instance : Enters Tryz.prog 10 := ⟨⟨_, Tryz.func10, by kernel_rfl, by kernel_rfl⟩⟩
instance : Enters Tryz.prog 24 := ⟨⟨_, Tryz.func24, by kernel_rfl, by kernel_rfl⟩⟩
instance : Enters Tryz.prog 25 := ⟨⟨_, Tryz.func25, by kernel_rfl, by kernel_rfl⟩⟩
instance : Enters Tryz.prog 26 := ⟨⟨_, Tryz.func26, by kernel_rfl, by kernel_rfl⟩⟩
instance : Enters Tryz.prog 27 := ⟨⟨_, Tryz.func27, by kernel_rfl, by kernel_rfl⟩⟩
instance : Enters Tryz.prog 28 := ⟨⟨_, Tryz.func28, by kernel_rfl, by kernel_rfl⟩⟩
instance : Enters Tryz.prog 29 := ⟨⟨_, Tryz.func29, by kernel_rfl, by kernel_rfl⟩⟩
instance : Enters Tryz.prog 30 := ⟨⟨_, Tryz.func30, by kernel_rfl, by kernel_rfl⟩⟩
instance : Enters Tryz.prog 31 := ⟨⟨_, Tryz.func31, by kernel_rfl, by kernel_rfl⟩⟩
instance : Enters Tryz.prog 32 := ⟨⟨_, Tryz.func32, by kernel_rfl, by kernel_rfl⟩⟩
instance : Enters Tryz.prog 33 := ⟨⟨_, Tryz.func33, by kernel_rfl, by kernel_rfl⟩⟩
instance : Enters Tryz.prog 34 := ⟨⟨_, Tryz.func34, by kernel_rfl, by kernel_rfl⟩⟩
instance : Enters Tryz.prog 35 := ⟨⟨_, Tryz.func35, by kernel_rfl, by kernel_rfl⟩⟩
instance : Enters Tryz.prog 36 := ⟨⟨_, Tryz.func36, by kernel_rfl, by kernel_rfl⟩⟩
instance : Enters Tryz.prog 37 := ⟨⟨_, Tryz.func37, by kernel_rfl, by kernel_rfl⟩⟩
instance : Enters Tryz.prog 54 := ⟨⟨_, Tryz.func54, by kernel_rfl, by kernel_rfl⟩⟩
instance : Enters Tryz.prog 55 := ⟨⟨_, Tryz.func55, by kernel_rfl, by kernel_rfl⟩⟩
instance : Enters Tryz.prog 56 := ⟨⟨_, Tryz.func56, by kernel_rfl, by kernel_rfl⟩⟩
instance : Enters Tryz.prog 57 := ⟨⟨_, Tryz.func57, by kernel_rfl, by kernel_rfl⟩⟩
instance : Enters Tryz.prog 58 := ⟨⟨_, Tryz.func58, by kernel_rfl, by kernel_rfl⟩⟩
instance : Enters Tryz.prog 59 := ⟨⟨_, Tryz.func59, by kernel_rfl, by kernel_rfl⟩⟩
instance : Enters Tryz.prog 60 := ⟨⟨_, Tryz.func60, by kernel_rfl, by kernel_rfl⟩⟩
instance : Enters Tryz.prog 61 := ⟨⟨_, Tryz.func61, by kernel_rfl, by kernel_rfl⟩⟩
instance : Enters Tryz.prog 62 := ⟨⟨_, Tryz.func62, by kernel_rfl, by kernel_rfl⟩⟩
instance : Enters Tryz.prog 63 := ⟨⟨_, Tryz.func63, by kernel_rfl, by kernel_rfl⟩⟩
instance : Enters Tryz.prog 69 := ⟨⟨_, Tryz.func69, by kernel_rfl, by kernel_rfl⟩⟩
instance : Enters Tryz.prog 80 := ⟨⟨_, Tryz.func80, by kernel_rfl, by kernel_rfl⟩⟩
instance : Enters Tryz.prog 81 := ⟨⟨_, Tryz.func81, by kernel_rfl, by kernel_rfl⟩⟩
instance : Enters Tryz.prog 82 := ⟨⟨_, Tryz.func82, by kernel_rfl, by kernel_rfl⟩⟩
instance : Enters Tryz.prog 83 := ⟨⟨_, Tryz.func83, by kernel_rfl, by kernel_rfl⟩⟩
instance : Enters Tryz.prog 84 := ⟨⟨_, Tryz.func84, by kernel_rfl, by kernel_rfl⟩⟩
instance : Enters Tryz.prog 89 := ⟨⟨_, Tryz.func89, by kernel_rfl, by kernel_rfl⟩⟩
instance : Enters Tryz.prog 94 := ⟨⟨_, Tryz.func94, by kernel_rfl, by kernel_rfl⟩⟩
instance : Enters Tryz.prog 95 := ⟨⟨_, Tryz.func95, by kernel_rfl, by kernel_rfl⟩⟩
instance : Enters Tryz.prog 103 := ⟨⟨_, Tryz.func103, by kernel_rfl, by kernel_rfl⟩⟩
instance : Enters Tryz.prog 104 := ⟨⟨_, Tryz.func104, by kernel_rfl, by kernel_rfl⟩⟩
instance : Enters Tryz.prog 105 := ⟨⟨_, Tryz.func105, by kernel_rfl, by kernel_rfl⟩⟩
instance : Enters Tryz.prog 106 := ⟨⟨_, Tryz.func106, by kernel_rfl, by kernel_rfl⟩⟩
instance : Enters Tryz.prog 107 := ⟨⟨_, Tryz.func107, by kernel_rfl, by kernel_rfl⟩⟩
instance : Enters Tryz.prog 108 := ⟨⟨_, Tryz.func108, by kernel_rfl, by kernel_rfl⟩⟩
instance : Enters Tryz.prog 114 := ⟨⟨_, Tryz.func114, by kernel_rfl, by kernel_rfl⟩⟩
instance : Enters Tryz.prog 115 := ⟨⟨_, Tryz.func115, by kernel_rfl, by kernel_rfl⟩⟩
instance : Enters Tryz.prog 116 := ⟨⟨_, Tryz.func116, by kernel_rfl, by kernel_rfl⟩⟩
instance : Enters Tryz.prog 117 := ⟨⟨_, Tryz.func117, by kernel_rfl, by kernel_rfl⟩⟩
instance : Enters Tryz.prog 118 := ⟨⟨_, Tryz.func118, by kernel_rfl, by kernel_rfl⟩⟩
instance : Enters Tryz.prog 119 := ⟨⟨_, Tryz.func119, by kernel_rfl, by kernel_rfl⟩⟩
instance : Enters Tryz.prog 125 := ⟨⟨_, Tryz.func125, by kernel_rfl, by kernel_rfl⟩⟩
instance : Enters Tryz.prog 126 := ⟨⟨_, Tryz.func126, by kernel_rfl, by kernel_rfl⟩⟩
instance : Enters Tryz.prog 127 := ⟨⟨_, Tryz.func127, by kernel_rfl, by kernel_rfl⟩⟩
instance : Enters Tryz.prog 128 := ⟨⟨_, Tryz.func128, by kernel_rfl, by kernel_rfl⟩⟩
instance : Enters Tryz.prog 129 := ⟨⟨_, Tryz.func129, by kernel_rfl, by kernel_rfl⟩⟩
instance : Enters Tryz.prog 130 := ⟨⟨_, Tryz.func130, by kernel_rfl, by kernel_rfl⟩⟩
instance : Enters Tryz.prog 131 := ⟨⟨_, Tryz.func131, by kernel_rfl, by kernel_rfl⟩⟩
instance : Enters Tryz.prog 132 := ⟨⟨_, Tryz.func132, by kernel_rfl, by kernel_rfl⟩⟩
instance : Enters Tryz.prog 133 := ⟨⟨_, Tryz.func133, by kernel_rfl, by kernel_rfl⟩⟩
instance : Enters Tryz.prog 137 := ⟨⟨_, Tryz.func137, by kernel_rfl, by kernel_rfl⟩⟩
instance : Enters Tryz.prog 138 := ⟨⟨_, Tryz.func138, by kernel_rfl, by kernel_rfl⟩⟩
instance : Enters Tryz.prog 139 := ⟨⟨_, Tryz.func139, by kernel_rfl, by kernel_rfl⟩⟩
instance : Enters Tryz.prog 140 := ⟨⟨_, Tryz.func140, by kernel_rfl, by kernel_rfl⟩⟩
instance : Enters Tryz.prog 141 := ⟨⟨_, Tryz.func141, by kernel_rfl, by kernel_rfl⟩⟩
instance : Enters Tryz.prog 142 := ⟨⟨_, Tryz.func142, by kernel_rfl, by kernel_rfl⟩⟩
instance : Enters Tryz.prog 143 := ⟨⟨_, Tryz.func143, by kernel_rfl, by kernel_rfl⟩⟩
instance : Enters Tryz.prog 148 := ⟨⟨_, Tryz.func148, by kernel_rfl, by kernel_rfl⟩⟩
instance : Enters Tryz.prog 149 := ⟨⟨_, Tryz.func149, by kernel_rfl, by kernel_rfl⟩⟩
instance : Enters Tryz.prog 152 := ⟨⟨_, Tryz.func152, by kernel_rfl, by kernel_rfl⟩⟩
instance : Enters Tryz.prog 153 := ⟨⟨_, Tryz.func153, by kernel_rfl, by kernel_rfl⟩⟩
instance : Enters Tryz.prog 155 := ⟨⟨_, Tryz.func155, by kernel_rfl, by kernel_rfl⟩⟩
instance : Enters Tryz.prog 156 := ⟨⟨_, Tryz.func156, by kernel_rfl, by kernel_rfl⟩⟩
instance : Enters Tryz.prog 157 := ⟨⟨_, Tryz.func157, by kernel_rfl, by kernel_rfl⟩⟩
instance : Enters Tryz.prog 158 := ⟨⟨_, Tryz.func158, by kernel_rfl, by kernel_rfl⟩⟩
instance : Enters Tryz.prog 159 := ⟨⟨_, Tryz.func159, by kernel_rfl, by kernel_rfl⟩⟩
instance : Enters Tryz.prog 160 := ⟨⟨_, Tryz.func160, by kernel_rfl, by kernel_rfl⟩⟩
instance : Enters Tryz.prog 166 := ⟨⟨_, Tryz.func166, by kernel_rfl, by kernel_rfl⟩⟩
instance : Enters Tryz.prog 168 := ⟨⟨_, Tryz.func168, by kernel_rfl, by kernel_rfl⟩⟩
instance : Enters Tryz.prog 170 := ⟨⟨_, Tryz.func170, by kernel_rfl, by kernel_rfl⟩⟩
instance : Enters Tryz.prog 171 := ⟨⟨_, Tryz.func171, by kernel_rfl, by kernel_rfl⟩⟩
instance : Enters Tryz.prog 172 := ⟨⟨_, Tryz.func172, by kernel_rfl, by kernel_rfl⟩⟩
instance : Enters Tryz.prog 179 := ⟨⟨_, Tryz.func179, by kernel_rfl, by kernel_rfl⟩⟩
instance : Enters Tryz.prog 184 := ⟨⟨_, Tryz.func184, by kernel_rfl, by kernel_rfl⟩⟩
end Go.Proofs.YtbphihljkbdfpaaGreatDoor
