/- What the types and functions of this translation are, one instance each. (Written by wip/inst.py.). -/
import Derived.Test.YthbhjladfniboaaDoorZ1
import Derived.Test.YthbhjladfniboaaDoorProg
namespace Go.Proofs.YthbhjladfniboaaDoor
set_option linter.unusedVariables false
theorem isz0 : (Tryd.prog.info? 0).map (·.size) = some 1 := by kernel_rfl
theorem isz1 : (Tryd.prog.info? 1).map (·.size) = some 1 := by kernel_rfl
theorem isz2 : (Tryd.prog.info? 2).map (·.size) = some 1 := by kernel_rfl
theorem isz3 : (Tryd.prog.info? 3).map (·.size) = some 1 := by kernel_rfl
theorem isz4 : (Tryd.prog.info? 4).map (·.size) = some 1 := by kernel_rfl
theorem isz5 : (Tryd.prog.info? 5).map (·.size) = some 1 := by kernel_rfl
theorem isz6 : (Tryd.prog.info? 6).map (·.size) = some 1 := by kernel_rfl
theorem isz7 : (Tryd.prog.info? 7).map (·.size) = some 4 := by kernel_rfl
theorem isz8 : (Tryd.prog.info? 8).map (·.size) = some 4 := by kernel_rfl
theorem isz9 : (Tryd.prog.info? 9).map (·.size) = some 1 := by kernel_rfl
theorem isz10 : (Tryd.prog.info? 10).map (·.size) = some 1 := by kernel_rfl
theorem isz11 : (Tryd.prog.info? 11).map (·.size) = some 1 := by kernel_rfl
theorem isz12 : (Tryd.prog.info? 12).map (·.size) = some 1 := by kernel_rfl
theorem isz13 : (Tryd.prog.info? 13).map (·.size) = some 2 := by kernel_rfl
theorem isz14 : (Tryd.prog.info? 14).map (·.size) = some 2 := by kernel_rfl
theorem isz15 : (Tryd.prog.info? 15).map (·.size) = some 1 := by kernel_rfl
theorem isz16 : (Tryd.prog.info? 16).map (·.size) = some 1 := by kernel_rfl
theorem isz17 : (Tryd.prog.info? 17).map (·.size) = some 1 := by kernel_rfl
theorem isz18 : (Tryd.prog.info? 18).map (·.size) = some 1 := by kernel_rfl
theorem isz19 : (Tryd.prog.info? 19).map (·.size) = some 1 := by kernel_rfl
theorem isz20 : (Tryd.prog.info? 20).map (·.size) = some 1 := by kernel_rfl
theorem isz21 : (Tryd.prog.info? 21).map (·.size) = some 1 := by kernel_rfl
theorem isz22 : (Tryd.prog.info? 22).map (·.size) = some 2 := by kernel_rfl
theorem isz23 : (Tryd.prog.info? 23).map (·.size) = some 2 := by kernel_rfl
theorem isz24 : (Tryd.prog.info? 24).map (·.size) = some 1 := by kernel_rfl
theorem isz25 : (Tryd.prog.info? 25).map (·.size) = some 1 := by kernel_rfl
theorem isz26 : (Tryd.prog.info? 26).map (·.size) = some 1 := by kernel_rfl
theorem isz27 : (Tryd.prog.info? 27).map (·.size) = some 1 := by kernel_rfl
theorem isz28 : (Tryd.prog.info? 28).map (·.size) = some 1 := by kernel_rfl
theorem isz29 : (Tryd.prog.info? 29).map (·.size) = some 1 := by kernel_rfl
theorem isz30 : (Tryd.prog.info? 30).map (·.size) = some 2 := by kernel_rfl
theorem isz31 : (Tryd.prog.info? 31).map (·.size) = some 2 := by kernel_rfl
theorem isz32 : (Tryd.prog.info? 32).map (·.size) = some 3 := by kernel_rfl
theorem isz33 : (Tryd.prog.info? 33).map (·.size) = some 3 := by kernel_rfl
theorem isz34 : (Tryd.prog.info? 34).map (·.size) = some 1 := by kernel_rfl
theorem isz35 : (Tryd.prog.info? 35).map (·.size) = some 1 := by kernel_rfl
theorem isz36 : (Tryd.prog.info? 36).map (·.size) = some 1 := by kernel_rfl
theorem isz37 : (Tryd.prog.info? 37).map (·.size) = some 1 := by kernel_rfl
theorem isz38 : (Tryd.prog.info? 38).map (·.size) = some 1 := by kernel_rfl
theorem isz39 : (Tryd.prog.info? 39).map (·.size) = some 1 := by kernel_rfl
theorem isz40 : (Tryd.prog.info? 40).map (·.size) = some 1 := by kernel_rfl
theorem isz41 : (Tryd.prog.info? 41).map (·.size) = some 1 := by kernel_rfl
theorem isz42 : (Tryd.prog.info? 42).map (·.size) = some 1 := by kernel_rfl
theorem isz43 : (Tryd.prog.info? 43).map (·.size) = some 1 := by kernel_rfl
theorem isz44 : (Tryd.prog.info? 44).map (·.size) = some 1 := by kernel_rfl
theorem isz45 : (Tryd.prog.info? 45).map (·.size) = some 1 := by kernel_rfl
theorem isz46 : (Tryd.prog.info? 46).map (·.size) = some 2 := by kernel_rfl
theorem isz47 : (Tryd.prog.info? 47).map (·.size) = some 2 := by kernel_rfl
theorem isz48 : (Tryd.prog.info? 48).map (·.size) = some 1 := by kernel_rfl
theorem isz49 : (Tryd.prog.info? 49).map (·.size) = some 1 := by kernel_rfl
theorem isz50 : (Tryd.prog.info? 50).map (·.size) = some 1 := by kernel_rfl
theorem isz51 : (Tryd.prog.info? 51).map (·.size) = some 1 := by kernel_rfl
theorem isz52 : (Tryd.prog.info? 52).map (·.size) = some 1 := by kernel_rfl
theorem isz53 : (Tryd.prog.info? 53).map (·.size) = some 1 := by kernel_rfl
theorem isz54 : (Tryd.prog.info? 54).map (·.size) = some 6 := by kernel_rfl
theorem isz55 : (Tryd.prog.info? 55).map (·.size) = some 6 := by kernel_rfl
theorem isz56 : (Tryd.prog.info? 56).map (·.size) = some 1 := by kernel_rfl
theorem isz57 : (Tryd.prog.info? 57).map (·.size) = some 9 := by kernel_rfl
theorem isz58 : (Tryd.prog.info? 58).map (·.size) = some 9 := by kernel_rfl
theorem isz59 : (Tryd.prog.info? 59).map (·.size) = some 1 := by kernel_rfl
theorem isz60 : (Tryd.prog.info? 60).map (·.size) = some 1 := by kernel_rfl
theorem isz61 : (Tryd.prog.info? 61).map (·.size) = some 3 := by kernel_rfl
theorem isz62 : (Tryd.prog.info? 62).map (·.size) = some 3 := by kernel_rfl
theorem isz63 : (Tryd.prog.info? 63).map (·.size) = some 1 := by kernel_rfl
theorem isz64 : (Tryd.prog.info? 64).map (·.size) = some 1 := by kernel_rfl
theorem isz65 : (Tryd.prog.info? 65).map (·.size) = some 1 := by kernel_rfl
theorem isz66 : (Tryd.prog.info? 66).map (·.size) = some 1 := by kernel_rfl
theorem isz67 : (Tryd.prog.info? 67).map (·.size) = some 1 := by kernel_rfl
theorem isz68 : (Tryd.prog.info? 68).map (·.size) = some 1 := by kernel_rfl
theorem isz69 : (Tryd.prog.info? 69).map (·.size) = some 1 := by kernel_rfl
theorem isz70 : (Tryd.prog.info? 70).map (·.size) = some 1 := by kernel_rfl
theorem isz71 : (Tryd.prog.info? 71).map (·.size) = some 1 := by kernel_rfl
theorem isz72 : (Tryd.prog.info? 72).map (·.size) = some 9 := by kernel_rfl
theorem isz73 : (Tryd.prog.info? 73).map (·.size) = some 9 := by kernel_rfl
theorem isz74 : (Tryd.prog.info? 74).map (·.size) = some 1 := by kernel_rfl
theorem isz75 : (Tryd.prog.info? 75).map (·.size) = some 1 := by kernel_rfl
theorem isz76 : (Tryd.prog.info? 76).map (·.size) = some 1 := by kernel_rfl
theorem isz77 : (Tryd.prog.info? 77).map (·.size) = some 1 := by kernel_rfl
theorem isz78 : (Tryd.prog.info? 78).map (·.size) = some 8 := by kernel_rfl
theorem isz79 : (Tryd.prog.info? 79).map (·.size) = some 8 := by kernel_rfl
theorem isz80 : (Tryd.prog.info? 80).map (·.size) = some 1 := by kernel_rfl
theorem isz81 : (Tryd.prog.info? 81).map (·.size) = some 1 := by kernel_rfl
theorem isz82 : (Tryd.prog.info? 82).map (·.size) = some 1 := by kernel_rfl
theorem isz83 : (Tryd.prog.info? 83).map (·.size) = some 1 := by kernel_rfl
theorem isz84 : (Tryd.prog.info? 84).map (·.size) = some 1 := by kernel_rfl
theorem isz85 : (Tryd.prog.info? 85).map (·.size) = some 2 := by kernel_rfl
theorem isz86 : (Tryd.prog.info? 86).map (·.size) = some 2 := by kernel_rfl
theorem isz87 : (Tryd.prog.info? 87).map (·.size) = some 1 := by kernel_rfl
theorem isz88 : (Tryd.prog.info? 88).map (·.size) = some 1 := by kernel_rfl
theorem isz89 : (Tryd.prog.info? 89).map (·.size) = some 1 := by kernel_rfl
theorem isz90 : (Tryd.prog.info? 90).map (·.size) = some 1 := by kernel_rfl
theorem isz91 : (Tryd.prog.info? 91).map (·.size) = some 1 := by kernel_rfl
theorem isz92 : (Tryd.prog.info? 92).map (·.size) = some 1 := by kernel_rfl
theorem isz93 : (Tryd.prog.info? 93).map (·.size) = some 1 := by kernel_rfl
theorem isz94 : (Tryd.prog.info? 94).map (·.size) = some 1 := by kernel_rfl
theorem isz95 : (Tryd.prog.info? 95).map (·.size) = some 1 := by kernel_rfl
theorem isz96 : (Tryd.prog.info? 96).map (·.size) = some 1 := by kernel_rfl
theorem isz97 : (Tryd.prog.info? 97).map (·.size) = some 1 := by kernel_rfl
theorem isz98 : (Tryd.prog.info? 98).map (·.size) = some 1 := by kernel_rfl
theorem isz99 : (Tryd.prog.info? 99).map (·.size) = some 1 := by kernel_rfl
theorem isz100 : (Tryd.prog.info? 100).map (·.size) = some 1 := by kernel_rfl
theorem isz101 : (Tryd.prog.info? 101).map (·.size) = some 1 := by kernel_rfl
theorem isz102 : (Tryd.prog.info? 102).map (·.size) = some 1 := by kernel_rfl
theorem isz103 : (Tryd.prog.info? 103).map (·.size) = some 1 := by kernel_rfl
theorem isz104 : (Tryd.prog.info? 104).map (·.size) = some 1 := by kernel_rfl
theorem isz105 : (Tryd.prog.info? 105).map (·.size) = some 1 := by kernel_rfl
theorem isz106 : (Tryd.prog.info? 106).map (·.size) = some 1 := by kernel_rfl
theorem isz107 : (Tryd.prog.info? 107).map (·.size) = some 1 := by kernel_rfl
theorem isz108 : (Tryd.prog.info? 108).map (·.size) = some 1 := by kernel_rfl
theorem isz109 : (Tryd.prog.info? 109).map (·.size) = some 1 := by kernel_rfl
theorem isz110 : (Tryd.prog.info? 110).map (·.size) = some 1 := by kernel_rfl
theorem isz111 : (Tryd.prog.info? 111).map (·.size) = some 1 := by kernel_rfl
theorem isz112 : (Tryd.prog.info? 112).map (·.size) = some 1 := by kernel_rfl
theorem isz113 : (Tryd.prog.info? 113).map (·.size) = some 1 := by kernel_rfl
theorem isz114 : (Tryd.prog.info? 114).map (·.size) = some 1 := by kernel_rfl
theorem isz115 : (Tryd.prog.info? 115).map (·.size) = some 1 := by kernel_rfl
theorem isz116 : (Tryd.prog.info? 116).map (·.size) = some 1 := by kernel_rfl
theorem isz117 : (Tryd.prog.info? 117).map (·.size) = some 1 := by kernel_rfl
theorem isz118 : (Tryd.prog.info? 118).map (·.size) = some 1 := by kernel_rfl
theorem isz119 : (Tryd.prog.info? 119).map (·.size) = some 1 := by kernel_rfl
theorem isz120 : (Tryd.prog.info? 120).map (·.size) = some 1 := by kernel_rfl
theorem isz121 : (Tryd.prog.info? 121).map (·.size) = some 1 := by kernel_rfl
theorem isz122 : (Tryd.prog.info? 122).map (·.size) = some 1 := by kernel_rfl
theorem isz123 : (Tryd.prog.info? 123).map (·.size) = some 1 := by kernel_rfl
theorem isz124 : (Tryd.prog.info? 124).map (·.size) = some 1 := by kernel_rfl
theorem isz125 : (Tryd.prog.info? 125).map (·.size) = some 1 := by kernel_rfl
theorem isz126 : (Tryd.prog.info? 126).map (·.size) = some 1 := by kernel_rfl
theorem isz127 : (Tryd.prog.info? 127).map (·.size) = some 1 := by kernel_rfl
theorem isz128 : (Tryd.prog.info? 128).map (·.size) = some 1 := by kernel_rfl
theorem isz129 : (Tryd.prog.info? 129).map (·.size) = some 1 := by kernel_rfl
theorem isz130 : (Tryd.prog.info? 130).map (·.size) = some 1 := by kernel_rfl
theorem isz131 : (Tryd.prog.info? 131).map (·.size) = some 1 := by kernel_rfl
theorem isz132 : (Tryd.prog.info? 132).map (·.size) = some 1 := by kernel_rfl
theorem isz133 : (Tryd.prog.info? 133).map (·.size) = some 1 := by kernel_rfl
theorem isz134 : (Tryd.prog.info? 134).map (·.size) = some 1 := by kernel_rfl
theorem isz135 : (Tryd.prog.info? 135).map (·.size) = some 1 := by kernel_rfl
theorem isz136 : (Tryd.prog.info? 136).map (·.size) = some 256 := by kernel_rfl
theorem isz137 : (Tryd.prog.info? 137).map (·.size) = some 256 := by kernel_rfl
theorem isz138 : (Tryd.prog.info? 138).map (·.size) = some 1 := by kernel_rfl
theorem isz139 : (Tryd.prog.info? 139).map (·.size) = some 1 := by kernel_rfl
theorem isz140 : (Tryd.prog.info? 140).map (·.size) = some 1 := by kernel_rfl
theorem isz141 : (Tryd.prog.info? 141).map (·.size) = some 1 := by kernel_rfl
theorem isz142 : (Tryd.prog.info? 142).map (·.size) = some 1 := by kernel_rfl
theorem isz143 : (Tryd.prog.info? 143).map (·.size) = some 1 := by kernel_rfl
theorem isz144 : (Tryd.prog.info? 144).map (·.size) = some 2 := by kernel_rfl
theorem isz145 : (Tryd.prog.info? 145).map (·.size) = some 2 := by kernel_rfl
theorem isz146 : (Tryd.prog.info? 146).map (·.size) = some 2 := by kernel_rfl
theorem isz147 : (Tryd.prog.info? 147).map (·.size) = some 2 := by kernel_rfl
theorem isz148 : (Tryd.prog.info? 148).map (·.size) = some 1 := by kernel_rfl
theorem isz149 : (Tryd.prog.info? 149).map (·.size) = some 1 := by kernel_rfl
theorem isz150 : (Tryd.prog.info? 150).map (·.size) = some 1 := by kernel_rfl
theorem isz151 : (Tryd.prog.info? 151).map (·.size) = some 1 := by kernel_rfl
theorem isz152 : (Tryd.prog.info? 152).map (·.size) = some 1 := by kernel_rfl
theorem isz153 : (Tryd.prog.info? 153).map (·.size) = some 1 := by kernel_rfl
theorem isz154 : (Tryd.prog.info? 154).map (·.size) = some 1 := by kernel_rfl
theorem isz155 : (Tryd.prog.info? 155).map (·.size) = some 1 := by kernel_rfl
theorem isz156 : (Tryd.prog.info? 156).map (·.size) = some 1 := by kernel_rfl
theorem isz157 : (Tryd.prog.info? 157).map (·.size) = some 1 := by kernel_rfl
theorem isz158 : (Tryd.prog.info? 158).map (·.size) = some 1 := by kernel_rfl
theorem isz159 : (Tryd.prog.info? 159).map (·.size) = some 1 := by kernel_rfl
theorem isz160 : (Tryd.prog.info? 160).map (·.size) = some 1 := by kernel_rfl
theorem isz161 : (Tryd.prog.info? 161).map (·.size) = some 1 := by kernel_rfl
theorem isz162 : (Tryd.prog.info? 162).map (·.size) = some 1 := by kernel_rfl
theorem isz163 : (Tryd.prog.info? 163).map (·.size) = some 1 := by kernel_rfl
theorem isz164 : (Tryd.prog.info? 164).map (·.size) = some 1 := by kernel_rfl
theorem isz165 : (Tryd.prog.info? 165).map (·.size) = some 1 := by kernel_rfl
theorem isz166 : (Tryd.prog.info? 166).map (·.size) = some 1 := by kernel_rfl
theorem isz167 : (Tryd.prog.info? 167).map (·.size) = some 1 := by kernel_rfl
theorem isz168 : (Tryd.prog.info? 168).map (·.size) = some 1 := by kernel_rfl
theorem isz169 : (Tryd.prog.info? 169).map (·.size) = some 1 := by kernel_rfl
theorem isz170 : (Tryd.prog.info? 170).map (·.size) = some 1 := by kernel_rfl
theorem isz171 : (Tryd.prog.info? 171).map (·.size) = some 1 := by kernel_rfl
theorem isz172 : (Tryd.prog.info? 172).map (·.size) = some 1 := by kernel_rfl
theorem isz173 : (Tryd.prog.info? 173).map (·.size) = some 1 := by kernel_rfl
theorem isz174 : (Tryd.prog.info? 174).map (·.size) = some 1 := by kernel_rfl
theorem isz175 : (Tryd.prog.info? 175).map (·.size) = some 1 := by kernel_rfl
theorem isz176 : (Tryd.prog.info? 176).map (·.size) = some 1 := by kernel_rfl
theorem isz177 : (Tryd.prog.info? 177).map (·.size) = some 1 := by kernel_rfl
theorem isz178 : (Tryd.prog.info? 178).map (·.size) = some 1 := by kernel_rfl
theorem isz179 : (Tryd.prog.info? 179).map (·.size) = some 2 := by kernel_rfl
theorem isz180 : (Tryd.prog.info? 180).map (·.size) = some 2 := by kernel_rfl
theorem isz181 : (Tryd.prog.info? 181).map (·.size) = some 1 := by kernel_rfl
theorem isz182 : (Tryd.prog.info? 182).map (·.size) = some 1 := by kernel_rfl
theorem isz183 : (Tryd.prog.info? 183).map (·.size) = some 1 := by kernel_rfl
theorem isz184 : (Tryd.prog.info? 184).map (·.size) = some 1 := by kernel_rfl
theorem isz185 : (Tryd.prog.info? 185).map (·.size) = some 1 := by kernel_rfl
theorem isz186 : (Tryd.prog.info? 186).map (·.size) = some 1 := by kernel_rfl
theorem isz187 : (Tryd.prog.info? 187).map (·.size) = some 1 := by kernel_rfl
theorem isz188 : (Tryd.prog.info? 188).map (·.size) = some 1 := by kernel_rfl
theorem isz189 : (Tryd.prog.info? 189).map (·.size) = some 1 := by kernel_rfl
theorem isz190 : (Tryd.prog.info? 190).map (·.size) = some 1 := by kernel_rfl
theorem isz191 : (Tryd.prog.info? 191).map (·.size) = some 1 := by kernel_rfl
theorem isz192 : (Tryd.prog.info? 192).map (·.size) = some 1 := by kernel_rfl
theorem isz193 : (Tryd.prog.info? 193).map (·.size) = some 1 := by kernel_rfl
theorem isz194 : (Tryd.prog.info? 194).map (·.size) = some 1 := by kernel_rfl
theorem isz195 : (Tryd.prog.info? 195).map (·.size) = some 1 := by kernel_rfl
theorem isz196 : (Tryd.prog.info? 196).map (·.size) = some 1 := by kernel_rfl
theorem isz197 : (Tryd.prog.info? 197).map (·.size) = some 1 := by kernel_rfl
theorem isz198 : (Tryd.prog.info? 198).map (·.size) = some 1 := by kernel_rfl
theorem isz199 : (Tryd.prog.info? 199).map (·.size) = some 1 := by kernel_rfl
theorem isz200 : (Tryd.prog.info? 200).map (·.size) = some 1 := by kernel_rfl
theorem isz201 : (Tryd.prog.info? 201).map (·.size) = some 24 := by kernel_rfl
theorem isz202 : (Tryd.prog.info? 202).map (·.size) = some 1 := by kernel_rfl
theorem isz203 : (Tryd.prog.info? 203).map (·.size) = some 1 := by kernel_rfl
theorem isz204 : (Tryd.prog.info? 204).map (·.size) = some 1 := by kernel_rfl
theorem isz205 : (Tryd.prog.info? 205).map (·.size) = some 1 := by kernel_rfl
theorem isz206 : (Tryd.prog.info? 206).map (·.size) = some 1 := by kernel_rfl
theorem isz207 : (Tryd.prog.info? 207).map (·.size) = some 1 := by kernel_rfl
theorem isz208 : (Tryd.prog.info? 208).map (·.size) = some 1 := by kernel_rfl
theorem isz209 : (Tryd.prog.info? 209).map (·.size) = some 1 := by kernel_rfl
theorem isz210 : (Tryd.prog.info? 210).map (·.size) = some 1 := by kernel_rfl
theorem isz211 : (Tryd.prog.info? 211).map (·.size) = some 1 := by kernel_rfl
theorem isz212 : (Tryd.prog.info? 212).map (·.size) = some 1 := by kernel_rfl
theorem isz213 : (Tryd.prog.info? 213).map (·.size) = some 1 := by kernel_rfl
theorem isz214 : (Tryd.prog.info? 214).map (·.size) = some 1 := by kernel_rfl
theorem isz215 : (Tryd.prog.info? 215).map (·.size) = some 3 := by kernel_rfl
theorem isz216 : (Tryd.prog.info? 216).map (·.size) = some 3 := by kernel_rfl
theorem isz217 : (Tryd.prog.info? 217).map (·.size) = some 1 := by kernel_rfl
theorem isz218 : (Tryd.prog.info? 218).map (·.size) = some 256 := by kernel_rfl
theorem isz219 : (Tryd.prog.info? 219).map (·.size) = some 2 := by kernel_rfl
theorem isz220 : (Tryd.prog.info? 220).map (·.size) = some 2 := by kernel_rfl
theorem isz221 : (Tryd.prog.info? 221).map (·.size) = some 32 := by kernel_rfl
theorem isz222 : (Tryd.prog.info? 222).map (·.size) = some 1 := by kernel_rfl
theorem isz223 : (Tryd.prog.info? 223).map (·.size) = some 1 := by kernel_rfl
theorem isz224 : (Tryd.prog.info? 224).map (·.size) = some 1 := by kernel_rfl
theorem isz225 : (Tryd.prog.info? 225).map (·.size) = some 1 := by kernel_rfl
theorem isz226 : (Tryd.prog.info? 226).map (·.size) = some 1 := by kernel_rfl
theorem isz227 : (Tryd.prog.info? 227).map (·.size) = some 1 := by kernel_rfl
theorem isz228 : (Tryd.prog.info? 228).map (·.size) = some 1 := by kernel_rfl
theorem isz229 : (Tryd.prog.info? 229).map (·.size) = some 20 := by kernel_rfl
theorem isz230 : (Tryd.prog.info? 230).map (·.size) = some 65 := by kernel_rfl
theorem isz231 : (Tryd.prog.info? 231).map (·.size) = some 1 := by kernel_rfl
theorem isz232 : (Tryd.prog.info? 232).map (·.size) = some 1 := by kernel_rfl
theorem isz233 : (Tryd.prog.info? 233).map (·.size) = some 1 := by kernel_rfl
theorem isz234 : (Tryd.prog.info? 234).map (·.size) = some 1 := by kernel_rfl
theorem isz235 : (Tryd.prog.info? 235).map (·.size) = some 1 := by kernel_rfl
theorem isz236 : (Tryd.prog.info? 236).map (·.size) = some 1 := by kernel_rfl
theorem isz237 : (Tryd.prog.info? 237).map (·.size) = some 1 := by kernel_rfl
theorem isz238 : (Tryd.prog.info? 238).map (·.size) = some 1 := by kernel_rfl
theorem isz239 : (Tryd.prog.info? 239).map (·.size) = some 1 := by kernel_rfl
theorem isz240 : (Tryd.prog.info? 240).map (·.size) = some 1 := by kernel_rfl
theorem isz241 : (Tryd.prog.info? 241).map (·.size) = some 1 := by kernel_rfl
theorem isz242 : (Tryd.prog.info? 242).map (·.size) = some 32 := by kernel_rfl
theorem isz243 : (Tryd.prog.info? 243).map (·.size) = some 64 := by kernel_rfl
theorem isz244 : (Tryd.prog.info? 244).map (·.size) = some 4 := by kernel_rfl
theorem isz245 : (Tryd.prog.info? 245).map (·.size) = some 4 := by kernel_rfl
theorem isz249 : (Tryd.prog.info? 249).map (·.size) = some 1 := by kernel_rfl
theorem isz250 : (Tryd.prog.info? 250).map (·.size) = some 1 := by kernel_rfl
theorem isz251 : (Tryd.prog.info? 251).map (·.size) = some 1 := by kernel_rfl
theorem isz252 : (Tryd.prog.info? 252).map (·.size) = some 1 := by kernel_rfl
theorem isz253 : (Tryd.prog.info? 253).map (·.size) = some 1 := by kernel_rfl
theorem isz254 : (Tryd.prog.info? 254).map (·.size) = some 11 := by kernel_rfl
theorem isz255 : (Tryd.prog.info? 255).map (·.size) = some 11 := by kernel_rfl
instance : TSize Tryd.prog 0 1 := ⟨isz0⟩
instance : TOne Tryd.prog 0 := ⟨⟨_, Tryd.underlying0, rfl⟩, isz0⟩
instance : TSize Tryd.prog 1 1 := ⟨isz1⟩
instance : TOne Tryd.prog 1 := ⟨⟨_, Tryd.underlying1, rfl⟩, isz1⟩
instance : TZer Tryd.prog 1 [.nilFunc] := ⟨by kernel_rfl⟩
instance : TSize Tryd.prog 2 1 := ⟨isz2⟩
instance : TOne Tryd.prog 2 := ⟨⟨_, Tryd.underlying2, rfl⟩, isz2⟩
instance : TInt Tryd.prog 2 .i64 := ⟨Tryd.underlying2⟩
instance : TZer Tryd.prog 2 [.int .i64 0] := ⟨by kernel_rfl⟩
instance : TSize Tryd.prog 3 1 := ⟨isz3⟩
instance : TOne Tryd.prog 3 := ⟨⟨_, Tryd.underlying3, rfl⟩, isz3⟩
instance : TInt Tryd.prog 3 .i64 := ⟨Tryd.underlying3⟩
instance : TZer Tryd.prog 3 [.int .i64 0] := ⟨by kernel_rfl⟩
instance : TSize Tryd.prog 4 1 := ⟨isz4⟩
instance : TOne Tryd.prog 4 := ⟨⟨_, Tryd.underlying4, rfl⟩, isz4⟩
instance : TBool Tryd.prog 4 := ⟨Tryd.underlying4⟩
instance : TZer Tryd.prog 4 [.bool false] := ⟨by kernel_rfl⟩
instance : TSize Tryd.prog 5 1 := ⟨isz5⟩
instance : TOne Tryd.prog 5 := ⟨⟨_, Tryd.underlying5, rfl⟩, isz5⟩
instance : TInt Tryd.prog 5 .u8 := ⟨Tryd.underlying5⟩
instance : TZer Tryd.prog 5 [.int .u8 0] := ⟨by kernel_rfl⟩
instance : TSize Tryd.prog 6 1 := ⟨isz6⟩
instance : TOne Tryd.prog 6 := ⟨⟨_, Tryd.underlying6, rfl⟩, isz6⟩
instance : TInt Tryd.prog 6 .u8 := ⟨Tryd.underlying6⟩
instance : TZer Tryd.prog 6 [.int .u8 0] := ⟨by kernel_rfl⟩
instance : TSize Tryd.prog 7 4 := ⟨isz7⟩
instance : TRow Tryd.prog 7 4 := ⟨⟨_, Tryd.underlying7, rfl⟩, isz7⟩
instance : TZer Tryd.prog 7 [.int .i64 0, .int .i64 0, .bool false, .int .u8 0] := ⟨by kernel_rfl⟩
instance : TStruct Tryd.prog 7 [(0, 1), (1, 1), (2, 1), (3, 1)] := ⟨⟨_, Tryd.underlying7, by kernel_rfl⟩⟩
instance : TFld Tryd.prog 7 0 0 0 false := ⟨⟨_, _, _, Tryd.underlying7, rfl, rfl, Tryd.underlying2, rfl, isz2⟩⟩
instance : TFld Tryd.prog 7 1 1 0 false := ⟨⟨_, _, _, Tryd.underlying7, rfl, rfl, Tryd.underlying3, rfl, isz3⟩⟩
instance : TFld Tryd.prog 7 2 2 0 false := ⟨⟨_, _, _, Tryd.underlying7, rfl, rfl, Tryd.underlying4, rfl, isz4⟩⟩
instance : TFld Tryd.prog 7 3 3 0 false := ⟨⟨_, _, _, Tryd.underlying7, rfl, rfl, Tryd.underlying6, rfl, isz6⟩⟩
instance : TSize Tryd.prog 8 4 := ⟨isz8⟩
instance : TRow Tryd.prog 8 4 := ⟨⟨_, Tryd.underlying8, rfl⟩, isz8⟩
instance : TZer Tryd.prog 8 [.int .i64 0, .int .i64 0, .bool false, .int .u8 0] := ⟨by kernel_rfl⟩
instance : TStruct Tryd.prog 8 [(0, 1), (1, 1), (2, 1), (3, 1)] := ⟨⟨_, Tryd.underlying8, by kernel_rfl⟩⟩
instance : TFld Tryd.prog 8 0 0 0 false := ⟨⟨_, _, _, Tryd.underlying8, rfl, rfl, Tryd.underlying2, rfl, isz2⟩⟩
instance : TFld Tryd.prog 8 1 1 0 false := ⟨⟨_, _, _, Tryd.underlying8, rfl, rfl, Tryd.underlying3, rfl, isz3⟩⟩
instance : TFld Tryd.prog 8 2 2 0 false := ⟨⟨_, _, _, Tryd.underlying8, rfl, rfl, Tryd.underlying4, rfl, isz4⟩⟩
instance : TFld Tryd.prog 8 3 3 0 false := ⟨⟨_, _, _, Tryd.underlying8, rfl, rfl, Tryd.underlying6, rfl, isz6⟩⟩
instance : TSize Tryd.prog 9 1 := ⟨isz9⟩
instance : TOne Tryd.prog 9 := ⟨⟨_, Tryd.underlying9, rfl⟩, isz9⟩
instance : TStr Tryd.prog 9 := ⟨Tryd.underlying9⟩
instance : TZer Tryd.prog 9 [.string ⟨#[]⟩] := ⟨by kernel_rfl⟩
instance : TSize Tryd.prog 10 1 := ⟨isz10⟩
instance : TOne Tryd.prog 10 := ⟨⟨_, Tryd.underlying10, rfl⟩, isz10⟩
instance : TStr Tryd.prog 10 := ⟨Tryd.underlying10⟩
instance : TZer Tryd.prog 10 [.string ⟨#[]⟩] := ⟨by kernel_rfl⟩
instance : TSize Tryd.prog 11 1 := ⟨isz11⟩
instance : TOne Tryd.prog 11 := ⟨⟨_, Tryd.underlying11, rfl⟩, isz11⟩
instance : TStr Tryd.prog 11 := ⟨Tryd.underlying11⟩
instance : TZer Tryd.prog 11 [.string ⟨#[]⟩] := ⟨by kernel_rfl⟩
instance : TSize Tryd.prog 12 1 := ⟨isz12⟩
instance : TOne Tryd.prog 12 := ⟨⟨_, Tryd.underlying12, rfl⟩, isz12⟩
instance : TInt Tryd.prog 12 .u64 := ⟨Tryd.underlying12⟩
instance : TZer Tryd.prog 12 [.int .u64 0] := ⟨by kernel_rfl⟩
instance : TSize Tryd.prog 13 2 := ⟨isz13⟩
instance : TRow Tryd.prog 13 2 := ⟨⟨_, Tryd.underlying13, rfl⟩, isz13⟩
instance : TZer Tryd.prog 13 [.string ⟨#[]⟩, .int .u64 0] := ⟨by kernel_rfl⟩
instance : TStruct Tryd.prog 13 [(0, 1), (1, 1)] := ⟨⟨_, Tryd.underlying13, by kernel_rfl⟩⟩
instance : TFld Tryd.prog 13 0 0 0 false := ⟨⟨_, _, _, Tryd.underlying13, rfl, rfl, Tryd.underlying9, rfl, isz9⟩⟩
instance : TFld Tryd.prog 13 1 1 0 false := ⟨⟨_, _, _, Tryd.underlying13, rfl, rfl, Tryd.underlying12, rfl, isz12⟩⟩
instance : TSize Tryd.prog 14 2 := ⟨isz14⟩
instance : TRow Tryd.prog 14 2 := ⟨⟨_, Tryd.underlying14, rfl⟩, isz14⟩
instance : TZer Tryd.prog 14 [.string ⟨#[]⟩, .int .u64 0] := ⟨by kernel_rfl⟩
instance : TStruct Tryd.prog 14 [(0, 1), (1, 1)] := ⟨⟨_, Tryd.underlying14, by kernel_rfl⟩⟩
instance : TFld Tryd.prog 14 0 0 0 false := ⟨⟨_, _, _, Tryd.underlying14, rfl, rfl, Tryd.underlying9, rfl, isz9⟩⟩
instance : TFld Tryd.prog 14 1 1 0 false := ⟨⟨_, _, _, Tryd.underlying14, rfl, rfl, Tryd.underlying12, rfl, isz12⟩⟩
instance : TSize Tryd.prog 15 1 := ⟨isz15⟩
instance : TOne Tryd.prog 15 := ⟨⟨_, Tryd.underlying15, rfl⟩, isz15⟩
instance : TZer Tryd.prog 15 [.pointer none] := ⟨by kernel_rfl⟩
instance : TSize Tryd.prog 16 1 := ⟨isz16⟩
instance : TOne Tryd.prog 16 := ⟨⟨_, Tryd.underlying16, rfl⟩, isz16⟩
instance : TZer Tryd.prog 16 [.pointer none] := ⟨by kernel_rfl⟩
instance : TSize Tryd.prog 17 1 := ⟨isz17⟩
instance : TOne Tryd.prog 17 := ⟨⟨_, Tryd.underlying17, rfl⟩, isz17⟩
instance : TZer Tryd.prog 17 [.pointer none] := ⟨by kernel_rfl⟩
instance : TSize Tryd.prog 18 1 := ⟨isz18⟩
instance : TRow Tryd.prog 18 1 := ⟨⟨_, Tryd.underlying18, rfl⟩, isz18⟩
instance : TZer Tryd.prog 18 [.pointer none] := ⟨by kernel_rfl⟩
instance : TStruct Tryd.prog 18 [(0, 1)] := ⟨⟨_, Tryd.underlying18, by kernel_rfl⟩⟩
instance : TFld Tryd.prog 18 0 0 0 false := ⟨⟨_, _, _, Tryd.underlying18, rfl, rfl, Tryd.underlying17, rfl, isz17⟩⟩
instance : TSize Tryd.prog 19 1 := ⟨isz19⟩
instance : TRow Tryd.prog 19 1 := ⟨⟨_, Tryd.underlying19, rfl⟩, isz19⟩
instance : TZer Tryd.prog 19 [.pointer none] := ⟨by kernel_rfl⟩
instance : TStruct Tryd.prog 19 [(0, 1)] := ⟨⟨_, Tryd.underlying19, by kernel_rfl⟩⟩
instance : TFld Tryd.prog 19 0 0 0 false := ⟨⟨_, _, _, Tryd.underlying19, rfl, rfl, Tryd.underlying17, rfl, isz17⟩⟩
instance : TSize Tryd.prog 20 1 := ⟨isz20⟩
instance : TOne Tryd.prog 20 := ⟨⟨_, Tryd.underlying20, rfl⟩, isz20⟩
instance : TZer Tryd.prog 20 [.nilIface] := ⟨by kernel_rfl⟩
instance : TSize Tryd.prog 21 1 := ⟨isz21⟩
instance : TOne Tryd.prog 21 := ⟨⟨_, Tryd.underlying21, rfl⟩, isz21⟩
instance : TInt Tryd.prog 21 .i32 := ⟨Tryd.underlying21⟩
instance : TZer Tryd.prog 21 [.int .i32 0] := ⟨by kernel_rfl⟩
instance : TSize Tryd.prog 22 2 := ⟨isz22⟩
instance : TRow Tryd.prog 22 2 := ⟨⟨_, Tryd.underlying22, rfl⟩, isz22⟩
instance : TZer Tryd.prog 22 [.int .i64 0, .int .i64 0] := ⟨by kernel_rfl⟩
instance : TStruct Tryd.prog 22 [(0, 1), (1, 1)] := ⟨⟨_, Tryd.underlying22, by kernel_rfl⟩⟩
instance : TFld Tryd.prog 22 0 0 0 false := ⟨⟨_, _, _, Tryd.underlying22, rfl, rfl, Tryd.underlying3, rfl, isz3⟩⟩
instance : TFld Tryd.prog 22 1 1 0 false := ⟨⟨_, _, _, Tryd.underlying22, rfl, rfl, Tryd.underlying3, rfl, isz3⟩⟩
instance : TSize Tryd.prog 23 2 := ⟨isz23⟩
instance : TRow Tryd.prog 23 2 := ⟨⟨_, Tryd.underlying23, rfl⟩, isz23⟩
instance : TZer Tryd.prog 23 [.int .i64 0, .int .i64 0] := ⟨by kernel_rfl⟩
instance : TStruct Tryd.prog 23 [(0, 1), (1, 1)] := ⟨⟨_, Tryd.underlying23, by kernel_rfl⟩⟩
instance : TFld Tryd.prog 23 0 0 0 false := ⟨⟨_, _, _, Tryd.underlying23, rfl, rfl, Tryd.underlying3, rfl, isz3⟩⟩
instance : TFld Tryd.prog 23 1 1 0 false := ⟨⟨_, _, _, Tryd.underlying23, rfl, rfl, Tryd.underlying3, rfl, isz3⟩⟩
instance : TSize Tryd.prog 24 1 := ⟨isz24⟩
instance : TOne Tryd.prog 24 := ⟨⟨_, Tryd.underlying24, rfl⟩, isz24⟩
instance : TSlice Tryd.prog 24 33 := ⟨Tryd.underlying24⟩
instance : TZer Tryd.prog 24 [.slice none 0 0] := ⟨by kernel_rfl⟩
instance : TSize Tryd.prog 25 1 := ⟨isz25⟩
instance : TOne Tryd.prog 25 := ⟨⟨_, Tryd.underlying25, rfl⟩, isz25⟩
instance : TSlice Tryd.prog 25 31 := ⟨Tryd.underlying25⟩
instance : TZer Tryd.prog 25 [.slice none 0 0] := ⟨by kernel_rfl⟩
instance : TSize Tryd.prog 26 1 := ⟨isz26⟩
instance : TOne Tryd.prog 26 := ⟨⟨_, Tryd.underlying26, rfl⟩, isz26⟩
instance : TInt Tryd.prog 26 .i64 := ⟨Tryd.underlying26⟩
instance : TZer Tryd.prog 26 [.int .i64 0] := ⟨by kernel_rfl⟩
instance : TSize Tryd.prog 27 1 := ⟨isz27⟩
instance : TOne Tryd.prog 27 := ⟨⟨_, Tryd.underlying27, rfl⟩, isz27⟩
instance : TSize Tryd.prog 28 1 := ⟨isz28⟩
instance : TOne Tryd.prog 28 := ⟨⟨_, Tryd.underlying28, rfl⟩, isz28⟩
instance : TZer Tryd.prog 28 [.nilFunc] := ⟨by kernel_rfl⟩
instance : TSize Tryd.prog 29 1 := ⟨isz29⟩
instance : TOne Tryd.prog 29 := ⟨⟨_, Tryd.underlying29, rfl⟩, isz29⟩
instance : TZer Tryd.prog 29 [.nilFunc] := ⟨by kernel_rfl⟩
instance : TSize Tryd.prog 30 2 := ⟨isz30⟩
instance : TRow Tryd.prog 30 2 := ⟨⟨_, Tryd.underlying30, rfl⟩, isz30⟩
instance : TZer Tryd.prog 30 [.int .i64 0, .int .i64 0] := ⟨by kernel_rfl⟩
instance : TStruct Tryd.prog 30 [(0, 1), (1, 1)] := ⟨⟨_, Tryd.underlying30, by kernel_rfl⟩⟩
instance : TFld Tryd.prog 30 0 0 0 false := ⟨⟨_, _, _, Tryd.underlying30, rfl, rfl, Tryd.underlying3, rfl, isz3⟩⟩
instance : TFld Tryd.prog 30 1 1 0 false := ⟨⟨_, _, _, Tryd.underlying30, rfl, rfl, Tryd.underlying3, rfl, isz3⟩⟩
instance : TSize Tryd.prog 31 2 := ⟨isz31⟩
instance : TRow Tryd.prog 31 2 := ⟨⟨_, Tryd.underlying31, rfl⟩, isz31⟩
instance : TZer Tryd.prog 31 [.int .i64 0, .int .i64 0] := ⟨by kernel_rfl⟩
instance : TStruct Tryd.prog 31 [(0, 1), (1, 1)] := ⟨⟨_, Tryd.underlying31, by kernel_rfl⟩⟩
instance : TFld Tryd.prog 31 0 0 0 false := ⟨⟨_, _, _, Tryd.underlying31, rfl, rfl, Tryd.underlying3, rfl, isz3⟩⟩
instance : TFld Tryd.prog 31 1 1 0 false := ⟨⟨_, _, _, Tryd.underlying31, rfl, rfl, Tryd.underlying3, rfl, isz3⟩⟩
instance : TSize Tryd.prog 32 3 := ⟨isz32⟩
instance : TRow Tryd.prog 32 3 := ⟨⟨_, Tryd.underlying32, rfl⟩, isz32⟩
instance : TZer Tryd.prog 32 [.int .i64 0, .int .i64 0, .string ⟨#[]⟩] := ⟨by kernel_rfl⟩
instance : TStruct Tryd.prog 32 [(0, 1), (1, 1), (2, 1)] := ⟨⟨_, Tryd.underlying32, by kernel_rfl⟩⟩
instance : TFld Tryd.prog 32 0 0 0 false := ⟨⟨_, _, _, Tryd.underlying32, rfl, rfl, Tryd.underlying3, rfl, isz3⟩⟩
instance : TFld Tryd.prog 32 1 1 0 false := ⟨⟨_, _, _, Tryd.underlying32, rfl, rfl, Tryd.underlying3, rfl, isz3⟩⟩
instance : TFld Tryd.prog 32 2 2 0 false := ⟨⟨_, _, _, Tryd.underlying32, rfl, rfl, Tryd.underlying9, rfl, isz9⟩⟩
instance : TSize Tryd.prog 33 3 := ⟨isz33⟩
instance : TRow Tryd.prog 33 3 := ⟨⟨_, Tryd.underlying33, rfl⟩, isz33⟩
instance : TZer Tryd.prog 33 [.int .i64 0, .int .i64 0, .string ⟨#[]⟩] := ⟨by kernel_rfl⟩
instance : TStruct Tryd.prog 33 [(0, 1), (1, 1), (2, 1)] := ⟨⟨_, Tryd.underlying33, by kernel_rfl⟩⟩
instance : TFld Tryd.prog 33 0 0 0 false := ⟨⟨_, _, _, Tryd.underlying33, rfl, rfl, Tryd.underlying3, rfl, isz3⟩⟩
instance : TFld Tryd.prog 33 1 1 0 false := ⟨⟨_, _, _, Tryd.underlying33, rfl, rfl, Tryd.underlying3, rfl, isz3⟩⟩
instance : TFld Tryd.prog 33 2 2 0 false := ⟨⟨_, _, _, Tryd.underlying33, rfl, rfl, Tryd.underlying9, rfl, isz9⟩⟩
instance : TSize Tryd.prog 34 1 := ⟨isz34⟩
instance : TOne Tryd.prog 34 := ⟨⟨_, Tryd.underlying34, rfl⟩, isz34⟩
instance : TSlice Tryd.prog 34 3 := ⟨Tryd.underlying34⟩
instance : TZer Tryd.prog 34 [.slice none 0 0] := ⟨by kernel_rfl⟩
instance : TSize Tryd.prog 35 1 := ⟨isz35⟩
instance : TOne Tryd.prog 35 := ⟨⟨_, Tryd.underlying35, rfl⟩, isz35⟩
instance : TSize Tryd.prog 36 1 := ⟨isz36⟩
instance : TOne Tryd.prog 36 := ⟨⟨_, Tryd.underlying36, rfl⟩, isz36⟩
instance : TZer Tryd.prog 36 [.nilFunc] := ⟨by kernel_rfl⟩
instance : TSize Tryd.prog 37 1 := ⟨isz37⟩
instance : TOne Tryd.prog 37 := ⟨⟨_, Tryd.underlying37, rfl⟩, isz37⟩
instance : TZer Tryd.prog 37 [.nilFunc] := ⟨by kernel_rfl⟩
instance : TSize Tryd.prog 38 1 := ⟨isz38⟩
instance : TOne Tryd.prog 38 := ⟨⟨_, Tryd.underlying38, rfl⟩, isz38⟩
instance : TZer Tryd.prog 38 [.nilFunc] := ⟨by kernel_rfl⟩
instance : TSize Tryd.prog 39 1 := ⟨isz39⟩
instance : TOne Tryd.prog 39 := ⟨⟨_, Tryd.underlying39, rfl⟩, isz39⟩
instance : TZer Tryd.prog 39 [.nilFunc] := ⟨by kernel_rfl⟩
instance : TSize Tryd.prog 40 1 := ⟨isz40⟩
instance : TOne Tryd.prog 40 := ⟨⟨_, Tryd.underlying40, rfl⟩, isz40⟩
instance : TZer Tryd.prog 40 [.nilFunc] := ⟨by kernel_rfl⟩
instance : TSize Tryd.prog 41 1 := ⟨isz41⟩
instance : TOne Tryd.prog 41 := ⟨⟨_, Tryd.underlying41, rfl⟩, isz41⟩
instance : TZer Tryd.prog 41 [.nilFunc] := ⟨by kernel_rfl⟩
instance : TSize Tryd.prog 42 1 := ⟨isz42⟩
instance : TOne Tryd.prog 42 := ⟨⟨_, Tryd.underlying42, rfl⟩, isz42⟩
instance : TSlice Tryd.prog 42 47 := ⟨Tryd.underlying42⟩
instance : TZer Tryd.prog 42 [.slice none 0 0] := ⟨by kernel_rfl⟩
instance : TSize Tryd.prog 43 1 := ⟨isz43⟩
instance : TOne Tryd.prog 43 := ⟨⟨_, Tryd.underlying43, rfl⟩, isz43⟩
instance : TSize Tryd.prog 44 1 := ⟨isz44⟩
instance : TOne Tryd.prog 44 := ⟨⟨_, Tryd.underlying44, rfl⟩, isz44⟩
instance : TZer Tryd.prog 44 [.nilFunc] := ⟨by kernel_rfl⟩
instance : TSize Tryd.prog 45 1 := ⟨isz45⟩
instance : TOne Tryd.prog 45 := ⟨⟨_, Tryd.underlying45, rfl⟩, isz45⟩
instance : TZer Tryd.prog 45 [.nilFunc] := ⟨by kernel_rfl⟩
instance : TSize Tryd.prog 46 2 := ⟨isz46⟩
instance : TRow Tryd.prog 46 2 := ⟨⟨_, Tryd.underlying46, rfl⟩, isz46⟩
instance : TZer Tryd.prog 46 [.int .i64 0, .int .i64 0] := ⟨by kernel_rfl⟩
instance : TStruct Tryd.prog 46 [(0, 1), (1, 1)] := ⟨⟨_, Tryd.underlying46, by kernel_rfl⟩⟩
instance : TFld Tryd.prog 46 0 0 0 false := ⟨⟨_, _, _, Tryd.underlying46, rfl, rfl, Tryd.underlying3, rfl, isz3⟩⟩
instance : TFld Tryd.prog 46 1 1 0 false := ⟨⟨_, _, _, Tryd.underlying46, rfl, rfl, Tryd.underlying3, rfl, isz3⟩⟩
instance : TSize Tryd.prog 47 2 := ⟨isz47⟩
instance : TRow Tryd.prog 47 2 := ⟨⟨_, Tryd.underlying47, rfl⟩, isz47⟩
instance : TZer Tryd.prog 47 [.int .i64 0, .int .i64 0] := ⟨by kernel_rfl⟩
instance : TStruct Tryd.prog 47 [(0, 1), (1, 1)] := ⟨⟨_, Tryd.underlying47, by kernel_rfl⟩⟩
instance : TFld Tryd.prog 47 0 0 0 false := ⟨⟨_, _, _, Tryd.underlying47, rfl, rfl, Tryd.underlying3, rfl, isz3⟩⟩
instance : TFld Tryd.prog 47 1 1 0 false := ⟨⟨_, _, _, Tryd.underlying47, rfl, rfl, Tryd.underlying3, rfl, isz3⟩⟩
instance : TSize Tryd.prog 48 1 := ⟨isz48⟩
instance : TOne Tryd.prog 48 := ⟨⟨_, Tryd.underlying48, rfl⟩, isz48⟩
instance : TZer Tryd.prog 48 [.nilFunc] := ⟨by kernel_rfl⟩
instance : TSize Tryd.prog 49 1 := ⟨isz49⟩
instance : TOne Tryd.prog 49 := ⟨⟨_, Tryd.underlying49, rfl⟩, isz49⟩
instance : TSlice Tryd.prog 49 145 := ⟨Tryd.underlying49⟩
instance : TZer Tryd.prog 49 [.slice none 0 0] := ⟨by kernel_rfl⟩
instance : TSize Tryd.prog 50 1 := ⟨isz50⟩
instance : TOne Tryd.prog 50 := ⟨⟨_, Tryd.underlying50, rfl⟩, isz50⟩
instance : TSlice Tryd.prog 50 58 := ⟨Tryd.underlying50⟩
instance : TZer Tryd.prog 50 [.slice none 0 0] := ⟨by kernel_rfl⟩
instance : TSize Tryd.prog 51 1 := ⟨isz51⟩
instance : TOne Tryd.prog 51 := ⟨⟨_, Tryd.underlying51, rfl⟩, isz51⟩
instance : TZer Tryd.prog 51 [.nilFunc] := ⟨by kernel_rfl⟩
instance : TSize Tryd.prog 52 1 := ⟨isz52⟩
instance : TOne Tryd.prog 52 := ⟨⟨_, Tryd.underlying52, rfl⟩, isz52⟩
instance : TSize Tryd.prog 53 1 := ⟨isz53⟩
instance : TOne Tryd.prog 53 := ⟨⟨_, Tryd.underlying53, rfl⟩, isz53⟩
instance : TZer Tryd.prog 53 [.nilFunc] := ⟨by kernel_rfl⟩
instance : TSize Tryd.prog 54 6 := ⟨isz54⟩
instance : TRow Tryd.prog 54 6 := ⟨⟨_, Tryd.underlying54, rfl⟩, isz54⟩
instance : TZer Tryd.prog 54 [.string ⟨#[]⟩, .string ⟨#[]⟩, .string ⟨#[]⟩, .string ⟨#[]⟩, .int .i64 0, .bool false] := ⟨by kernel_rfl⟩
instance : TStruct Tryd.prog 54 [(0, 1), (1, 1), (2, 1), (3, 1), (4, 1), (5, 1)] := ⟨⟨_, Tryd.underlying54, by kernel_rfl⟩⟩
instance : TFld Tryd.prog 54 0 0 0 false := ⟨⟨_, _, _, Tryd.underlying54, rfl, rfl, Tryd.underlying9, rfl, isz9⟩⟩
instance : TFld Tryd.prog 54 1 1 0 false := ⟨⟨_, _, _, Tryd.underlying54, rfl, rfl, Tryd.underlying9, rfl, isz9⟩⟩
instance : TFld Tryd.prog 54 2 2 0 false := ⟨⟨_, _, _, Tryd.underlying54, rfl, rfl, Tryd.underlying9, rfl, isz9⟩⟩
instance : TFld Tryd.prog 54 3 3 0 false := ⟨⟨_, _, _, Tryd.underlying54, rfl, rfl, Tryd.underlying9, rfl, isz9⟩⟩
instance : TFld Tryd.prog 54 4 4 0 false := ⟨⟨_, _, _, Tryd.underlying54, rfl, rfl, Tryd.underlying3, rfl, isz3⟩⟩
instance : TFld Tryd.prog 54 5 5 0 false := ⟨⟨_, _, _, Tryd.underlying54, rfl, rfl, Tryd.underlying4, rfl, isz4⟩⟩
instance : TSize Tryd.prog 55 6 := ⟨isz55⟩
instance : TRow Tryd.prog 55 6 := ⟨⟨_, Tryd.underlying55, rfl⟩, isz55⟩
instance : TZer Tryd.prog 55 [.string ⟨#[]⟩, .string ⟨#[]⟩, .string ⟨#[]⟩, .string ⟨#[]⟩, .int .i64 0, .bool false] := ⟨by kernel_rfl⟩
instance : TStruct Tryd.prog 55 [(0, 1), (1, 1), (2, 1), (3, 1), (4, 1), (5, 1)] := ⟨⟨_, Tryd.underlying55, by kernel_rfl⟩⟩
instance : TFld Tryd.prog 55 0 0 0 false := ⟨⟨_, _, _, Tryd.underlying55, rfl, rfl, Tryd.underlying9, rfl, isz9⟩⟩
instance : TFld Tryd.prog 55 1 1 0 false := ⟨⟨_, _, _, Tryd.underlying55, rfl, rfl, Tryd.underlying9, rfl, isz9⟩⟩
instance : TFld Tryd.prog 55 2 2 0 false := ⟨⟨_, _, _, Tryd.underlying55, rfl, rfl, Tryd.underlying9, rfl, isz9⟩⟩
instance : TFld Tryd.prog 55 3 3 0 false := ⟨⟨_, _, _, Tryd.underlying55, rfl, rfl, Tryd.underlying9, rfl, isz9⟩⟩
instance : TFld Tryd.prog 55 4 4 0 false := ⟨⟨_, _, _, Tryd.underlying55, rfl, rfl, Tryd.underlying3, rfl, isz3⟩⟩
instance : TFld Tryd.prog 55 5 5 0 false := ⟨⟨_, _, _, Tryd.underlying55, rfl, rfl, Tryd.underlying4, rfl, isz4⟩⟩
instance : TSize Tryd.prog 56 1 := ⟨isz56⟩
instance : TOne Tryd.prog 56 := ⟨⟨_, Tryd.underlying56, rfl⟩, isz56⟩
instance : TZer Tryd.prog 56 [.nilFunc] := ⟨by kernel_rfl⟩
instance : TSize Tryd.prog 57 9 := ⟨isz57⟩
instance : TRow Tryd.prog 57 9 := ⟨⟨_, Tryd.underlying57, rfl⟩, isz57⟩
instance : TZer Tryd.prog 57 [.string ⟨#[]⟩, .string ⟨#[]⟩, .string ⟨#[]⟩, .string ⟨#[]⟩, .int .i64 0, .int .i64 0, .bool false, .int .i64 0, .bool false] := ⟨by kernel_rfl⟩
instance : TStruct Tryd.prog 57 [(0, 1), (1, 1), (2, 1), (3, 1), (4, 1), (5, 1), (6, 1), (7, 1), (8, 1)] := ⟨⟨_, Tryd.underlying57, by kernel_rfl⟩⟩
instance : TFld Tryd.prog 57 0 0 0 false := ⟨⟨_, _, _, Tryd.underlying57, rfl, rfl, Tryd.underlying9, rfl, isz9⟩⟩
instance : TFld Tryd.prog 57 1 1 0 false := ⟨⟨_, _, _, Tryd.underlying57, rfl, rfl, Tryd.underlying9, rfl, isz9⟩⟩
instance : TFld Tryd.prog 57 2 2 0 false := ⟨⟨_, _, _, Tryd.underlying57, rfl, rfl, Tryd.underlying9, rfl, isz9⟩⟩
instance : TFld Tryd.prog 57 3 3 0 false := ⟨⟨_, _, _, Tryd.underlying57, rfl, rfl, Tryd.underlying9, rfl, isz9⟩⟩
instance : TFld Tryd.prog 57 4 4 0 false := ⟨⟨_, _, _, Tryd.underlying57, rfl, rfl, Tryd.underlying3, rfl, isz3⟩⟩
instance : TFld Tryd.prog 57 5 5 0 false := ⟨⟨_, _, _, Tryd.underlying57, rfl, rfl, Tryd.underlying3, rfl, isz3⟩⟩
instance : TFld Tryd.prog 57 6 6 0 false := ⟨⟨_, _, _, Tryd.underlying57, rfl, rfl, Tryd.underlying4, rfl, isz4⟩⟩
instance : TFld Tryd.prog 57 7 7 0 false := ⟨⟨_, _, _, Tryd.underlying57, rfl, rfl, Tryd.underlying3, rfl, isz3⟩⟩
instance : TFld Tryd.prog 57 8 8 0 false := ⟨⟨_, _, _, Tryd.underlying57, rfl, rfl, Tryd.underlying4, rfl, isz4⟩⟩
instance : TSize Tryd.prog 58 9 := ⟨isz58⟩
instance : TRow Tryd.prog 58 9 := ⟨⟨_, Tryd.underlying58, rfl⟩, isz58⟩
instance : TZer Tryd.prog 58 [.string ⟨#[]⟩, .string ⟨#[]⟩, .string ⟨#[]⟩, .string ⟨#[]⟩, .int .i64 0, .int .i64 0, .bool false, .int .i64 0, .bool false] := ⟨by kernel_rfl⟩
instance : TStruct Tryd.prog 58 [(0, 1), (1, 1), (2, 1), (3, 1), (4, 1), (5, 1), (6, 1), (7, 1), (8, 1)] := ⟨⟨_, Tryd.underlying58, by kernel_rfl⟩⟩
instance : TFld Tryd.prog 58 0 0 0 false := ⟨⟨_, _, _, Tryd.underlying58, rfl, rfl, Tryd.underlying9, rfl, isz9⟩⟩
instance : TFld Tryd.prog 58 1 1 0 false := ⟨⟨_, _, _, Tryd.underlying58, rfl, rfl, Tryd.underlying9, rfl, isz9⟩⟩
instance : TFld Tryd.prog 58 2 2 0 false := ⟨⟨_, _, _, Tryd.underlying58, rfl, rfl, Tryd.underlying9, rfl, isz9⟩⟩
instance : TFld Tryd.prog 58 3 3 0 false := ⟨⟨_, _, _, Tryd.underlying58, rfl, rfl, Tryd.underlying9, rfl, isz9⟩⟩
instance : TFld Tryd.prog 58 4 4 0 false := ⟨⟨_, _, _, Tryd.underlying58, rfl, rfl, Tryd.underlying3, rfl, isz3⟩⟩
instance : TFld Tryd.prog 58 5 5 0 false := ⟨⟨_, _, _, Tryd.underlying58, rfl, rfl, Tryd.underlying3, rfl, isz3⟩⟩
instance : TFld Tryd.prog 58 6 6 0 false := ⟨⟨_, _, _, Tryd.underlying58, rfl, rfl, Tryd.underlying4, rfl, isz4⟩⟩
instance : TFld Tryd.prog 58 7 7 0 false := ⟨⟨_, _, _, Tryd.underlying58, rfl, rfl, Tryd.underlying3, rfl, isz3⟩⟩
instance : TFld Tryd.prog 58 8 8 0 false := ⟨⟨_, _, _, Tryd.underlying58, rfl, rfl, Tryd.underlying4, rfl, isz4⟩⟩
instance : TSize Tryd.prog 59 1 := ⟨isz59⟩
instance : TOne Tryd.prog 59 := ⟨⟨_, Tryd.underlying59, rfl⟩, isz59⟩
instance : TZer Tryd.prog 59 [.nilFunc] := ⟨by kernel_rfl⟩
instance : TSize Tryd.prog 60 1 := ⟨isz60⟩
instance : TOne Tryd.prog 60 := ⟨⟨_, Tryd.underlying60, rfl⟩, isz60⟩
instance : TSlice Tryd.prog 60 5 := ⟨Tryd.underlying60⟩
instance : TZer Tryd.prog 60 [.slice none 0 0] := ⟨by kernel_rfl⟩
instance : TSize Tryd.prog 61 3 := ⟨isz61⟩
instance : TRow Tryd.prog 61 3 := ⟨⟨_, Tryd.underlying61, rfl⟩, isz61⟩
instance : TZer Tryd.prog 61 [.int .i64 0, .string ⟨#[]⟩, .int .i64 0] := ⟨by kernel_rfl⟩
instance : TStruct Tryd.prog 61 [(0, 1), (1, 1), (2, 1)] := ⟨⟨_, Tryd.underlying61, by kernel_rfl⟩⟩
instance : TFld Tryd.prog 61 0 0 0 false := ⟨⟨_, _, _, Tryd.underlying61, rfl, rfl, Tryd.underlying3, rfl, isz3⟩⟩
instance : TFld Tryd.prog 61 1 1 0 false := ⟨⟨_, _, _, Tryd.underlying61, rfl, rfl, Tryd.underlying9, rfl, isz9⟩⟩
instance : TFld Tryd.prog 61 2 2 0 false := ⟨⟨_, _, _, Tryd.underlying61, rfl, rfl, Tryd.underlying3, rfl, isz3⟩⟩
instance : TSize Tryd.prog 62 3 := ⟨isz62⟩
instance : TRow Tryd.prog 62 3 := ⟨⟨_, Tryd.underlying62, rfl⟩, isz62⟩
instance : TZer Tryd.prog 62 [.int .i64 0, .string ⟨#[]⟩, .int .i64 0] := ⟨by kernel_rfl⟩
instance : TStruct Tryd.prog 62 [(0, 1), (1, 1), (2, 1)] := ⟨⟨_, Tryd.underlying62, by kernel_rfl⟩⟩
instance : TFld Tryd.prog 62 0 0 0 false := ⟨⟨_, _, _, Tryd.underlying62, rfl, rfl, Tryd.underlying3, rfl, isz3⟩⟩
instance : TFld Tryd.prog 62 1 1 0 false := ⟨⟨_, _, _, Tryd.underlying62, rfl, rfl, Tryd.underlying9, rfl, isz9⟩⟩
instance : TFld Tryd.prog 62 2 2 0 false := ⟨⟨_, _, _, Tryd.underlying62, rfl, rfl, Tryd.underlying3, rfl, isz3⟩⟩
instance : TSize Tryd.prog 63 1 := ⟨isz63⟩
instance : TOne Tryd.prog 63 := ⟨⟨_, Tryd.underlying63, rfl⟩, isz63⟩
instance : TSize Tryd.prog 64 1 := ⟨isz64⟩
instance : TOne Tryd.prog 64 := ⟨⟨_, Tryd.underlying64, rfl⟩, isz64⟩
instance : TZer Tryd.prog 64 [.nilFunc] := ⟨by kernel_rfl⟩
instance : TSize Tryd.prog 65 1 := ⟨isz65⟩
instance : TOne Tryd.prog 65 := ⟨⟨_, Tryd.underlying65, rfl⟩, isz65⟩
instance : TSize Tryd.prog 66 1 := ⟨isz66⟩
instance : TOne Tryd.prog 66 := ⟨⟨_, Tryd.underlying66, rfl⟩, isz66⟩
instance : TZer Tryd.prog 66 [.nilFunc] := ⟨by kernel_rfl⟩
instance : TSize Tryd.prog 67 1 := ⟨isz67⟩
instance : TOne Tryd.prog 67 := ⟨⟨_, Tryd.underlying67, rfl⟩, isz67⟩
instance : TZer Tryd.prog 67 [.nilFunc] := ⟨by kernel_rfl⟩
instance : TSize Tryd.prog 68 1 := ⟨isz68⟩
instance : TOne Tryd.prog 68 := ⟨⟨_, Tryd.underlying68, rfl⟩, isz68⟩
instance : TZer Tryd.prog 68 [.pointer none] := ⟨by kernel_rfl⟩
instance : TSize Tryd.prog 69 1 := ⟨isz69⟩
instance : TOne Tryd.prog 69 := ⟨⟨_, Tryd.underlying69, rfl⟩, isz69⟩
instance : TSize Tryd.prog 70 1 := ⟨isz70⟩
instance : TOne Tryd.prog 70 := ⟨⟨_, Tryd.underlying70, rfl⟩, isz70⟩
instance : TZer Tryd.prog 70 [.nilFunc] := ⟨by kernel_rfl⟩
instance : TSize Tryd.prog 71 1 := ⟨isz71⟩
instance : TOne Tryd.prog 71 := ⟨⟨_, Tryd.underlying71, rfl⟩, isz71⟩
instance : TZer Tryd.prog 71 [.map none] := ⟨by kernel_rfl⟩
instance : TSize Tryd.prog 72 9 := ⟨isz72⟩
instance : TRow Tryd.prog 72 9 := ⟨⟨_, Tryd.underlying72, rfl⟩, isz72⟩
instance : TZer Tryd.prog 72 [.int .i64 0, .int .i64 0, .int .i64 0, .slice none 0 0, .int .i64 0, .map none, .map none, .slice none 0 0, .slice none 0 0] := ⟨by kernel_rfl⟩
instance : TStruct Tryd.prog 72 [(0, 2), (2, 1), (3, 1), (4, 1), (5, 1), (6, 1), (7, 1), (8, 1)] := ⟨⟨_, Tryd.underlying72, by kernel_rfl⟩⟩
instance : TFld Tryd.prog 72 0 0 1 true := ⟨⟨_, _, _, Tryd.underlying72, rfl, rfl, Tryd.underlying23, rfl, isz23⟩⟩
instance : TFld Tryd.prog 72 1 2 0 false := ⟨⟨_, _, _, Tryd.underlying72, rfl, rfl, Tryd.underlying3, rfl, isz3⟩⟩
instance : TFld Tryd.prog 72 2 3 0 false := ⟨⟨_, _, _, Tryd.underlying72, rfl, rfl, Tryd.underlying24, rfl, isz24⟩⟩
instance : TFld Tryd.prog 72 3 4 0 false := ⟨⟨_, _, _, Tryd.underlying72, rfl, rfl, Tryd.underlying3, rfl, isz3⟩⟩
instance : TFld Tryd.prog 72 4 5 0 false := ⟨⟨_, _, _, Tryd.underlying72, rfl, rfl, Tryd.underlying71, rfl, isz71⟩⟩
instance : TFld Tryd.prog 72 5 6 0 false := ⟨⟨_, _, _, Tryd.underlying72, rfl, rfl, Tryd.underlying71, rfl, isz71⟩⟩
instance : TFld Tryd.prog 72 6 7 0 false := ⟨⟨_, _, _, Tryd.underlying72, rfl, rfl, Tryd.underlying25, rfl, isz25⟩⟩
instance : TFld Tryd.prog 72 7 8 0 false := ⟨⟨_, _, _, Tryd.underlying72, rfl, rfl, Tryd.underlying34, rfl, isz34⟩⟩
instance : TSize Tryd.prog 73 9 := ⟨isz73⟩
instance : TRow Tryd.prog 73 9 := ⟨⟨_, Tryd.underlying73, rfl⟩, isz73⟩
instance : TZer Tryd.prog 73 [.int .i64 0, .int .i64 0, .int .i64 0, .slice none 0 0, .int .i64 0, .map none, .map none, .slice none 0 0, .slice none 0 0] := ⟨by kernel_rfl⟩
instance : TStruct Tryd.prog 73 [(0, 2), (2, 1), (3, 1), (4, 1), (5, 1), (6, 1), (7, 1), (8, 1)] := ⟨⟨_, Tryd.underlying73, by kernel_rfl⟩⟩
instance : TFld Tryd.prog 73 0 0 1 true := ⟨⟨_, _, _, Tryd.underlying73, rfl, rfl, Tryd.underlying23, rfl, isz23⟩⟩
instance : TFld Tryd.prog 73 1 2 0 false := ⟨⟨_, _, _, Tryd.underlying73, rfl, rfl, Tryd.underlying3, rfl, isz3⟩⟩
instance : TFld Tryd.prog 73 2 3 0 false := ⟨⟨_, _, _, Tryd.underlying73, rfl, rfl, Tryd.underlying24, rfl, isz24⟩⟩
instance : TFld Tryd.prog 73 3 4 0 false := ⟨⟨_, _, _, Tryd.underlying73, rfl, rfl, Tryd.underlying3, rfl, isz3⟩⟩
instance : TFld Tryd.prog 73 4 5 0 false := ⟨⟨_, _, _, Tryd.underlying73, rfl, rfl, Tryd.underlying71, rfl, isz71⟩⟩
instance : TFld Tryd.prog 73 5 6 0 false := ⟨⟨_, _, _, Tryd.underlying73, rfl, rfl, Tryd.underlying71, rfl, isz71⟩⟩
instance : TFld Tryd.prog 73 6 7 0 false := ⟨⟨_, _, _, Tryd.underlying73, rfl, rfl, Tryd.underlying25, rfl, isz25⟩⟩
instance : TFld Tryd.prog 73 7 8 0 false := ⟨⟨_, _, _, Tryd.underlying73, rfl, rfl, Tryd.underlying34, rfl, isz34⟩⟩
instance : TSize Tryd.prog 74 1 := ⟨isz74⟩
instance : TOne Tryd.prog 74 := ⟨⟨_, Tryd.underlying74, rfl⟩, isz74⟩
instance : TSize Tryd.prog 75 1 := ⟨isz75⟩
instance : TOne Tryd.prog 75 := ⟨⟨_, Tryd.underlying75, rfl⟩, isz75⟩
instance : TZer Tryd.prog 75 [.nilFunc] := ⟨by kernel_rfl⟩
instance : TSize Tryd.prog 76 1 := ⟨isz76⟩
instance : TOne Tryd.prog 76 := ⟨⟨_, Tryd.underlying76, rfl⟩, isz76⟩
instance : TZer Tryd.prog 76 [.nilFunc] := ⟨by kernel_rfl⟩
instance : TSize Tryd.prog 77 1 := ⟨isz77⟩
instance : TOne Tryd.prog 77 := ⟨⟨_, Tryd.underlying77, rfl⟩, isz77⟩
instance : TSlice Tryd.prog 77 86 := ⟨Tryd.underlying77⟩
instance : TZer Tryd.prog 77 [.slice none 0 0] := ⟨by kernel_rfl⟩
instance : TSize Tryd.prog 78 8 := ⟨isz78⟩
instance : TRow Tryd.prog 78 8 := ⟨⟨_, Tryd.underlying78, rfl⟩, isz78⟩
instance : TZer Tryd.prog 78 [.int .i64 0, .int .i64 0, .int .i64 0, .slice none 0 0, .slice none 0 0, .int .i64 0, .slice none 0 0, .slice none 0 0] := ⟨by kernel_rfl⟩
instance : TStruct Tryd.prog 78 [(0, 2), (2, 1), (3, 1), (4, 1), (5, 1), (6, 1), (7, 1)] := ⟨⟨_, Tryd.underlying78, by kernel_rfl⟩⟩
instance : TFld Tryd.prog 78 0 0 1 true := ⟨⟨_, _, _, Tryd.underlying78, rfl, rfl, Tryd.underlying23, rfl, isz23⟩⟩
instance : TFld Tryd.prog 78 1 2 0 false := ⟨⟨_, _, _, Tryd.underlying78, rfl, rfl, Tryd.underlying3, rfl, isz3⟩⟩
instance : TFld Tryd.prog 78 2 3 0 false := ⟨⟨_, _, _, Tryd.underlying78, rfl, rfl, Tryd.underlying24, rfl, isz24⟩⟩
instance : TFld Tryd.prog 78 3 4 0 false := ⟨⟨_, _, _, Tryd.underlying78, rfl, rfl, Tryd.underlying25, rfl, isz25⟩⟩
instance : TFld Tryd.prog 78 4 5 0 false := ⟨⟨_, _, _, Tryd.underlying78, rfl, rfl, Tryd.underlying3, rfl, isz3⟩⟩
instance : TFld Tryd.prog 78 5 6 0 false := ⟨⟨_, _, _, Tryd.underlying78, rfl, rfl, Tryd.underlying77, rfl, isz77⟩⟩
instance : TFld Tryd.prog 78 6 7 0 false := ⟨⟨_, _, _, Tryd.underlying78, rfl, rfl, Tryd.underlying77, rfl, isz77⟩⟩
instance : TSize Tryd.prog 79 8 := ⟨isz79⟩
instance : TRow Tryd.prog 79 8 := ⟨⟨_, Tryd.underlying79, rfl⟩, isz79⟩
instance : TZer Tryd.prog 79 [.int .i64 0, .int .i64 0, .int .i64 0, .slice none 0 0, .slice none 0 0, .int .i64 0, .slice none 0 0, .slice none 0 0] := ⟨by kernel_rfl⟩
instance : TStruct Tryd.prog 79 [(0, 2), (2, 1), (3, 1), (4, 1), (5, 1), (6, 1), (7, 1)] := ⟨⟨_, Tryd.underlying79, by kernel_rfl⟩⟩
instance : TFld Tryd.prog 79 0 0 1 true := ⟨⟨_, _, _, Tryd.underlying79, rfl, rfl, Tryd.underlying23, rfl, isz23⟩⟩
instance : TFld Tryd.prog 79 1 2 0 false := ⟨⟨_, _, _, Tryd.underlying79, rfl, rfl, Tryd.underlying3, rfl, isz3⟩⟩
instance : TFld Tryd.prog 79 2 3 0 false := ⟨⟨_, _, _, Tryd.underlying79, rfl, rfl, Tryd.underlying24, rfl, isz24⟩⟩
instance : TFld Tryd.prog 79 3 4 0 false := ⟨⟨_, _, _, Tryd.underlying79, rfl, rfl, Tryd.underlying25, rfl, isz25⟩⟩
instance : TFld Tryd.prog 79 4 5 0 false := ⟨⟨_, _, _, Tryd.underlying79, rfl, rfl, Tryd.underlying3, rfl, isz3⟩⟩
instance : TFld Tryd.prog 79 5 6 0 false := ⟨⟨_, _, _, Tryd.underlying79, rfl, rfl, Tryd.underlying77, rfl, isz77⟩⟩
instance : TFld Tryd.prog 79 6 7 0 false := ⟨⟨_, _, _, Tryd.underlying79, rfl, rfl, Tryd.underlying77, rfl, isz77⟩⟩
instance : TSize Tryd.prog 80 1 := ⟨isz80⟩
instance : TOne Tryd.prog 80 := ⟨⟨_, Tryd.underlying80, rfl⟩, isz80⟩
instance : TZer Tryd.prog 80 [.pointer none] := ⟨by kernel_rfl⟩
instance : TSize Tryd.prog 81 1 := ⟨isz81⟩
instance : TOne Tryd.prog 81 := ⟨⟨_, Tryd.underlying81, rfl⟩, isz81⟩
instance : TZer Tryd.prog 81 [.nilFunc] := ⟨by kernel_rfl⟩
instance : TSize Tryd.prog 82 1 := ⟨isz82⟩
instance : TOne Tryd.prog 82 := ⟨⟨_, Tryd.underlying82, rfl⟩, isz82⟩
instance : TZer Tryd.prog 82 [.nilFunc] := ⟨by kernel_rfl⟩
instance : TSize Tryd.prog 83 1 := ⟨isz83⟩
instance : TOne Tryd.prog 83 := ⟨⟨_, Tryd.underlying83, rfl⟩, isz83⟩
instance : TZer Tryd.prog 83 [.nilFunc] := ⟨by kernel_rfl⟩
instance : TSize Tryd.prog 84 1 := ⟨isz84⟩
instance : TOne Tryd.prog 84 := ⟨⟨_, Tryd.underlying84, rfl⟩, isz84⟩
instance : TZer Tryd.prog 84 [.nilFunc] := ⟨by kernel_rfl⟩
instance : TSize Tryd.prog 85 2 := ⟨isz85⟩
instance : TRow Tryd.prog 85 2 := ⟨⟨_, Tryd.underlying85, rfl⟩, isz85⟩
instance : TZer Tryd.prog 85 [.int .i64 0, .int .i64 0] := ⟨by kernel_rfl⟩
instance : TStruct Tryd.prog 85 [(0, 1), (1, 1)] := ⟨⟨_, Tryd.underlying85, by kernel_rfl⟩⟩
instance : TFld Tryd.prog 85 0 0 0 false := ⟨⟨_, _, _, Tryd.underlying85, rfl, rfl, Tryd.underlying3, rfl, isz3⟩⟩
instance : TFld Tryd.prog 85 1 1 0 false := ⟨⟨_, _, _, Tryd.underlying85, rfl, rfl, Tryd.underlying3, rfl, isz3⟩⟩
instance : TSize Tryd.prog 86 2 := ⟨isz86⟩
instance : TRow Tryd.prog 86 2 := ⟨⟨_, Tryd.underlying86, rfl⟩, isz86⟩
instance : TZer Tryd.prog 86 [.int .i64 0, .int .i64 0] := ⟨by kernel_rfl⟩
instance : TStruct Tryd.prog 86 [(0, 1), (1, 1)] := ⟨⟨_, Tryd.underlying86, by kernel_rfl⟩⟩
instance : TFld Tryd.prog 86 0 0 0 false := ⟨⟨_, _, _, Tryd.underlying86, rfl, rfl, Tryd.underlying3, rfl, isz3⟩⟩
instance : TFld Tryd.prog 86 1 1 0 false := ⟨⟨_, _, _, Tryd.underlying86, rfl, rfl, Tryd.underlying3, rfl, isz3⟩⟩
instance : TSize Tryd.prog 87 1 := ⟨isz87⟩
instance : TOne Tryd.prog 87 := ⟨⟨_, Tryd.underlying87, rfl⟩, isz87⟩
instance : TZer Tryd.prog 87 [.nilFunc] := ⟨by kernel_rfl⟩
instance : TSize Tryd.prog 88 1 := ⟨isz88⟩
instance : TOne Tryd.prog 88 := ⟨⟨_, Tryd.underlying88, rfl⟩, isz88⟩
instance : TZer Tryd.prog 88 [.nilFunc] := ⟨by kernel_rfl⟩
instance : TSize Tryd.prog 89 1 := ⟨isz89⟩
instance : TOne Tryd.prog 89 := ⟨⟨_, Tryd.underlying89, rfl⟩, isz89⟩
instance : TZer Tryd.prog 89 [.nilFunc] := ⟨by kernel_rfl⟩
instance : TSize Tryd.prog 90 1 := ⟨isz90⟩
instance : TOne Tryd.prog 90 := ⟨⟨_, Tryd.underlying90, rfl⟩, isz90⟩
instance : TZer Tryd.prog 90 [.nilFunc] := ⟨by kernel_rfl⟩
instance : TSize Tryd.prog 91 1 := ⟨isz91⟩
instance : TOne Tryd.prog 91 := ⟨⟨_, Tryd.underlying91, rfl⟩, isz91⟩
instance : TZer Tryd.prog 91 [.nilFunc] := ⟨by kernel_rfl⟩
instance : TSize Tryd.prog 92 1 := ⟨isz92⟩
instance : TOne Tryd.prog 92 := ⟨⟨_, Tryd.underlying92, rfl⟩, isz92⟩
instance : TZer Tryd.prog 92 [.nilFunc] := ⟨by kernel_rfl⟩
instance : TSize Tryd.prog 93 1 := ⟨isz93⟩
instance : TOne Tryd.prog 93 := ⟨⟨_, Tryd.underlying93, rfl⟩, isz93⟩
instance : TZer Tryd.prog 93 [.nilFunc] := ⟨by kernel_rfl⟩
instance : TSize Tryd.prog 94 1 := ⟨isz94⟩
instance : TOne Tryd.prog 94 := ⟨⟨_, Tryd.underlying94, rfl⟩, isz94⟩
instance : TZer Tryd.prog 94 [.nilFunc] := ⟨by kernel_rfl⟩
instance : TSize Tryd.prog 95 1 := ⟨isz95⟩
instance : TOne Tryd.prog 95 := ⟨⟨_, Tryd.underlying95, rfl⟩, isz95⟩
instance : TZer Tryd.prog 95 [.nilFunc] := ⟨by kernel_rfl⟩
instance : TSize Tryd.prog 96 1 := ⟨isz96⟩
instance : TOne Tryd.prog 96 := ⟨⟨_, Tryd.underlying96, rfl⟩, isz96⟩
instance : TZer Tryd.prog 96 [.nilFunc] := ⟨by kernel_rfl⟩
instance : TSize Tryd.prog 97 1 := ⟨isz97⟩
instance : TOne Tryd.prog 97 := ⟨⟨_, Tryd.underlying97, rfl⟩, isz97⟩
instance : TZer Tryd.prog 97 [.nilFunc] := ⟨by kernel_rfl⟩
instance : TSize Tryd.prog 98 1 := ⟨isz98⟩
instance : TOne Tryd.prog 98 := ⟨⟨_, Tryd.underlying98, rfl⟩, isz98⟩
instance : TZer Tryd.prog 98 [.nilFunc] := ⟨by kernel_rfl⟩
instance : TSize Tryd.prog 99 1 := ⟨isz99⟩
instance : TOne Tryd.prog 99 := ⟨⟨_, Tryd.underlying99, rfl⟩, isz99⟩
instance : TZer Tryd.prog 99 [.nilFunc] := ⟨by kernel_rfl⟩
instance : TSize Tryd.prog 100 1 := ⟨isz100⟩
instance : TOne Tryd.prog 100 := ⟨⟨_, Tryd.underlying100, rfl⟩, isz100⟩
instance : TZer Tryd.prog 100 [.nilFunc] := ⟨by kernel_rfl⟩
instance : TSize Tryd.prog 101 1 := ⟨isz101⟩
instance : TOne Tryd.prog 101 := ⟨⟨_, Tryd.underlying101, rfl⟩, isz101⟩
instance : TSlice Tryd.prog 101 9 := ⟨Tryd.underlying101⟩
instance : TZer Tryd.prog 101 [.slice none 0 0] := ⟨by kernel_rfl⟩
instance : TSize Tryd.prog 102 1 := ⟨isz102⟩
instance : TOne Tryd.prog 102 := ⟨⟨_, Tryd.underlying102, rfl⟩, isz102⟩
instance : TSize Tryd.prog 103 1 := ⟨isz103⟩
instance : TOne Tryd.prog 103 := ⟨⟨_, Tryd.underlying103, rfl⟩, isz103⟩
instance : TZer Tryd.prog 103 [.nilFunc] := ⟨by kernel_rfl⟩
instance : TSize Tryd.prog 104 1 := ⟨isz104⟩
instance : TOne Tryd.prog 104 := ⟨⟨_, Tryd.underlying104, rfl⟩, isz104⟩
instance : TSize Tryd.prog 105 1 := ⟨isz105⟩
instance : TOne Tryd.prog 105 := ⟨⟨_, Tryd.underlying105, rfl⟩, isz105⟩
instance : TZer Tryd.prog 105 [.nilFunc] := ⟨by kernel_rfl⟩
instance : TSize Tryd.prog 106 1 := ⟨isz106⟩
instance : TOne Tryd.prog 106 := ⟨⟨_, Tryd.underlying106, rfl⟩, isz106⟩
instance : TZer Tryd.prog 106 [.nilFunc] := ⟨by kernel_rfl⟩
instance : TSize Tryd.prog 107 1 := ⟨isz107⟩
instance : TOne Tryd.prog 107 := ⟨⟨_, Tryd.underlying107, rfl⟩, isz107⟩
instance : TZer Tryd.prog 107 [.nilFunc] := ⟨by kernel_rfl⟩
instance : TSize Tryd.prog 108 1 := ⟨isz108⟩
instance : TOne Tryd.prog 108 := ⟨⟨_, Tryd.underlying108, rfl⟩, isz108⟩
instance : TZer Tryd.prog 108 [.nilFunc] := ⟨by kernel_rfl⟩
instance : TSize Tryd.prog 109 1 := ⟨isz109⟩
instance : TOne Tryd.prog 109 := ⟨⟨_, Tryd.underlying109, rfl⟩, isz109⟩
instance : TZer Tryd.prog 109 [.nilFunc] := ⟨by kernel_rfl⟩
instance : TSize Tryd.prog 110 1 := ⟨isz110⟩
instance : TOne Tryd.prog 110 := ⟨⟨_, Tryd.underlying110, rfl⟩, isz110⟩
instance : TZer Tryd.prog 110 [.nilFunc] := ⟨by kernel_rfl⟩
instance : TSize Tryd.prog 111 1 := ⟨isz111⟩
instance : TOne Tryd.prog 111 := ⟨⟨_, Tryd.underlying111, rfl⟩, isz111⟩
instance : TZer Tryd.prog 111 [.nilFunc] := ⟨by kernel_rfl⟩
instance : TSize Tryd.prog 112 1 := ⟨isz112⟩
instance : TOne Tryd.prog 112 := ⟨⟨_, Tryd.underlying112, rfl⟩, isz112⟩
instance : TZer Tryd.prog 112 [.nilFunc] := ⟨by kernel_rfl⟩
instance : TSize Tryd.prog 113 1 := ⟨isz113⟩
instance : TOne Tryd.prog 113 := ⟨⟨_, Tryd.underlying113, rfl⟩, isz113⟩
instance : TZer Tryd.prog 113 [.nilFunc] := ⟨by kernel_rfl⟩
instance : TSize Tryd.prog 114 1 := ⟨isz114⟩
instance : TOne Tryd.prog 114 := ⟨⟨_, Tryd.underlying114, rfl⟩, isz114⟩
instance : TZer Tryd.prog 114 [.nilFunc] := ⟨by kernel_rfl⟩
instance : TSize Tryd.prog 115 1 := ⟨isz115⟩
instance : TOne Tryd.prog 115 := ⟨⟨_, Tryd.underlying115, rfl⟩, isz115⟩
instance : TZer Tryd.prog 115 [.nilFunc] := ⟨by kernel_rfl⟩
instance : TSize Tryd.prog 116 1 := ⟨isz116⟩
instance : TOne Tryd.prog 116 := ⟨⟨_, Tryd.underlying116, rfl⟩, isz116⟩
instance : TZer Tryd.prog 116 [.nilFunc] := ⟨by kernel_rfl⟩
instance : TSize Tryd.prog 117 1 := ⟨isz117⟩
instance : TOne Tryd.prog 117 := ⟨⟨_, Tryd.underlying117, rfl⟩, isz117⟩
instance : TZer Tryd.prog 117 [.nilFunc] := ⟨by kernel_rfl⟩
instance : TSize Tryd.prog 118 1 := ⟨isz118⟩
instance : TOne Tryd.prog 118 := ⟨⟨_, Tryd.underlying118, rfl⟩, isz118⟩
instance : TZer Tryd.prog 118 [.nilFunc] := ⟨by kernel_rfl⟩
instance : TSize Tryd.prog 119 1 := ⟨isz119⟩
instance : TOne Tryd.prog 119 := ⟨⟨_, Tryd.underlying119, rfl⟩, isz119⟩
instance : TZer Tryd.prog 119 [.nilFunc] := ⟨by kernel_rfl⟩
instance : TSize Tryd.prog 120 1 := ⟨isz120⟩
instance : TOne Tryd.prog 120 := ⟨⟨_, Tryd.underlying120, rfl⟩, isz120⟩
instance : TZer Tryd.prog 120 [.nilFunc] := ⟨by kernel_rfl⟩
instance : TSize Tryd.prog 121 1 := ⟨isz121⟩
instance : TOne Tryd.prog 121 := ⟨⟨_, Tryd.underlying121, rfl⟩, isz121⟩
instance : TZer Tryd.prog 121 [.nilFunc] := ⟨by kernel_rfl⟩
instance : TSize Tryd.prog 122 1 := ⟨isz122⟩
instance : TOne Tryd.prog 122 := ⟨⟨_, Tryd.underlying122, rfl⟩, isz122⟩
instance : TZer Tryd.prog 122 [.nilFunc] := ⟨by kernel_rfl⟩
instance : TSize Tryd.prog 123 1 := ⟨isz123⟩
instance : TOne Tryd.prog 123 := ⟨⟨_, Tryd.underlying123, rfl⟩, isz123⟩
instance : TZer Tryd.prog 123 [.nilFunc] := ⟨by kernel_rfl⟩
instance : TSize Tryd.prog 124 1 := ⟨isz124⟩
instance : TOne Tryd.prog 124 := ⟨⟨_, Tryd.underlying124, rfl⟩, isz124⟩
instance : TZer Tryd.prog 124 [.nilIface] := ⟨by kernel_rfl⟩
instance : TSize Tryd.prog 125 1 := ⟨isz125⟩
instance : TOne Tryd.prog 125 := ⟨⟨_, Tryd.underlying125, rfl⟩, isz125⟩
instance : TZer Tryd.prog 125 [.nilIface] := ⟨by kernel_rfl⟩
instance : TSize Tryd.prog 126 1 := ⟨isz126⟩
instance : TOne Tryd.prog 126 := ⟨⟨_, Tryd.underlying126, rfl⟩, isz126⟩
instance : TSize Tryd.prog 127 1 := ⟨isz127⟩
instance : TOne Tryd.prog 127 := ⟨⟨_, Tryd.underlying127, rfl⟩, isz127⟩
instance : TZer Tryd.prog 127 [.nilFunc] := ⟨by kernel_rfl⟩
instance : TSize Tryd.prog 128 1 := ⟨isz128⟩
instance : TOne Tryd.prog 128 := ⟨⟨_, Tryd.underlying128, rfl⟩, isz128⟩
instance : TZer Tryd.prog 128 [.nilFunc] := ⟨by kernel_rfl⟩
instance : TSize Tryd.prog 129 1 := ⟨isz129⟩
instance : TOne Tryd.prog 129 := ⟨⟨_, Tryd.underlying129, rfl⟩, isz129⟩
instance : TZer Tryd.prog 129 [.nilFunc] := ⟨by kernel_rfl⟩
instance : TSize Tryd.prog 130 1 := ⟨isz130⟩
instance : TOne Tryd.prog 130 := ⟨⟨_, Tryd.underlying130, rfl⟩, isz130⟩
instance : TZer Tryd.prog 130 [.pointer none] := ⟨by kernel_rfl⟩
instance : TSize Tryd.prog 131 1 := ⟨isz131⟩
instance : TOne Tryd.prog 131 := ⟨⟨_, Tryd.underlying131, rfl⟩, isz131⟩
instance : TZer Tryd.prog 131 [.nilFunc] := ⟨by kernel_rfl⟩
instance : TSize Tryd.prog 132 1 := ⟨isz132⟩
instance : TOne Tryd.prog 132 := ⟨⟨_, Tryd.underlying132, rfl⟩, isz132⟩
instance : TZer Tryd.prog 132 [.nilFunc] := ⟨by kernel_rfl⟩
instance : TSize Tryd.prog 133 1 := ⟨isz133⟩
instance : TOne Tryd.prog 133 := ⟨⟨_, Tryd.underlying133, rfl⟩, isz133⟩
instance : TZer Tryd.prog 133 [.nilFunc] := ⟨by kernel_rfl⟩
instance : TSize Tryd.prog 134 1 := ⟨isz134⟩
instance : TOne Tryd.prog 134 := ⟨⟨_, Tryd.underlying134, rfl⟩, isz134⟩
instance : TZer Tryd.prog 134 [.nilFunc] := ⟨by kernel_rfl⟩
instance : TSize Tryd.prog 135 1 := ⟨isz135⟩
instance : TOne Tryd.prog 135 := ⟨⟨_, Tryd.underlying135, rfl⟩, isz135⟩
instance : TZer Tryd.prog 135 [.nilFunc] := ⟨by kernel_rfl⟩
instance : TSize Tryd.prog 136 256 := ⟨isz136⟩
instance : TRow Tryd.prog 136 256 := ⟨⟨_, Tryd.underlying136, rfl⟩, isz136⟩
instance : TSize Tryd.prog 137 256 := ⟨isz137⟩
instance : TRow Tryd.prog 137 256 := ⟨⟨_, Tryd.underlying137, rfl⟩, isz137⟩
instance : TSize Tryd.prog 138 1 := ⟨isz138⟩
instance : TOne Tryd.prog 138 := ⟨⟨_, Tryd.underlying138, rfl⟩, isz138⟩
instance : TSize Tryd.prog 139 1 := ⟨isz139⟩
instance : TOne Tryd.prog 139 := ⟨⟨_, Tryd.underlying139, rfl⟩, isz139⟩
instance : TZer Tryd.prog 139 [.nilFunc] := ⟨by kernel_rfl⟩
instance : TSize Tryd.prog 140 1 := ⟨isz140⟩
instance : TOne Tryd.prog 140 := ⟨⟨_, Tryd.underlying140, rfl⟩, isz140⟩
instance : TZer Tryd.prog 140 [.nilFunc] := ⟨by kernel_rfl⟩
instance : TSize Tryd.prog 141 1 := ⟨isz141⟩
instance : TOne Tryd.prog 141 := ⟨⟨_, Tryd.underlying141, rfl⟩, isz141⟩
instance : TZer Tryd.prog 141 [.pointer none] := ⟨by kernel_rfl⟩
instance : TSize Tryd.prog 142 1 := ⟨isz142⟩
instance : TOne Tryd.prog 142 := ⟨⟨_, Tryd.underlying142, rfl⟩, isz142⟩
instance : TZer Tryd.prog 142 [.map none] := ⟨by kernel_rfl⟩
instance : TSize Tryd.prog 143 1 := ⟨isz143⟩
instance : TOne Tryd.prog 143 := ⟨⟨_, Tryd.underlying143, rfl⟩, isz143⟩
instance : TSlice Tryd.prog 143 147 := ⟨Tryd.underlying143⟩
instance : TZer Tryd.prog 143 [.slice none 0 0] := ⟨by kernel_rfl⟩
instance : TSize Tryd.prog 144 2 := ⟨isz144⟩
instance : TRow Tryd.prog 144 2 := ⟨⟨_, Tryd.underlying144, rfl⟩, isz144⟩
instance : TZer Tryd.prog 144 [.string ⟨#[]⟩, .slice none 0 0] := ⟨by kernel_rfl⟩
instance : TStruct Tryd.prog 144 [(0, 1), (1, 1)] := ⟨⟨_, Tryd.underlying144, by kernel_rfl⟩⟩
instance : TFld Tryd.prog 144 0 0 0 false := ⟨⟨_, _, _, Tryd.underlying144, rfl, rfl, Tryd.underlying9, rfl, isz9⟩⟩
instance : TFld Tryd.prog 144 1 1 0 false := ⟨⟨_, _, _, Tryd.underlying144, rfl, rfl, Tryd.underlying143, rfl, isz143⟩⟩
instance : TSize Tryd.prog 145 2 := ⟨isz145⟩
instance : TRow Tryd.prog 145 2 := ⟨⟨_, Tryd.underlying145, rfl⟩, isz145⟩
instance : TZer Tryd.prog 145 [.string ⟨#[]⟩, .slice none 0 0] := ⟨by kernel_rfl⟩
instance : TStruct Tryd.prog 145 [(0, 1), (1, 1)] := ⟨⟨_, Tryd.underlying145, by kernel_rfl⟩⟩
instance : TFld Tryd.prog 145 0 0 0 false := ⟨⟨_, _, _, Tryd.underlying145, rfl, rfl, Tryd.underlying9, rfl, isz9⟩⟩
instance : TFld Tryd.prog 145 1 1 0 false := ⟨⟨_, _, _, Tryd.underlying145, rfl, rfl, Tryd.underlying143, rfl, isz143⟩⟩
instance : TSize Tryd.prog 146 2 := ⟨isz146⟩
instance : TRow Tryd.prog 146 2 := ⟨⟨_, Tryd.underlying146, rfl⟩, isz146⟩
instance : TZer Tryd.prog 146 [.string ⟨#[]⟩, .string ⟨#[]⟩] := ⟨by kernel_rfl⟩
instance : TStruct Tryd.prog 146 [(0, 1), (1, 1)] := ⟨⟨_, Tryd.underlying146, by kernel_rfl⟩⟩
instance : TFld Tryd.prog 146 0 0 0 false := ⟨⟨_, _, _, Tryd.underlying146, rfl, rfl, Tryd.underlying9, rfl, isz9⟩⟩
instance : TFld Tryd.prog 146 1 1 0 false := ⟨⟨_, _, _, Tryd.underlying146, rfl, rfl, Tryd.underlying9, rfl, isz9⟩⟩
instance : TSize Tryd.prog 147 2 := ⟨isz147⟩
instance : TRow Tryd.prog 147 2 := ⟨⟨_, Tryd.underlying147, rfl⟩, isz147⟩
instance : TZer Tryd.prog 147 [.string ⟨#[]⟩, .string ⟨#[]⟩] := ⟨by kernel_rfl⟩
instance : TStruct Tryd.prog 147 [(0, 1), (1, 1)] := ⟨⟨_, Tryd.underlying147, by kernel_rfl⟩⟩
instance : TFld Tryd.prog 147 0 0 0 false := ⟨⟨_, _, _, Tryd.underlying147, rfl, rfl, Tryd.underlying9, rfl, isz9⟩⟩
instance : TFld Tryd.prog 147 1 1 0 false := ⟨⟨_, _, _, Tryd.underlying147, rfl, rfl, Tryd.underlying9, rfl, isz9⟩⟩
instance : TSize Tryd.prog 148 1 := ⟨isz148⟩
instance : TOne Tryd.prog 148 := ⟨⟨_, Tryd.underlying148, rfl⟩, isz148⟩
instance : TZer Tryd.prog 148 [.nilFunc] := ⟨by kernel_rfl⟩
instance : TSize Tryd.prog 149 1 := ⟨isz149⟩
instance : TOne Tryd.prog 149 := ⟨⟨_, Tryd.underlying149, rfl⟩, isz149⟩
instance : TZer Tryd.prog 149 [.nilFunc] := ⟨by kernel_rfl⟩
instance : TSize Tryd.prog 150 1 := ⟨isz150⟩
instance : TOne Tryd.prog 150 := ⟨⟨_, Tryd.underlying150, rfl⟩, isz150⟩
instance : TZer Tryd.prog 150 [.nilFunc] := ⟨by kernel_rfl⟩
instance : TSize Tryd.prog 151 1 := ⟨isz151⟩
instance : TOne Tryd.prog 151 := ⟨⟨_, Tryd.underlying151, rfl⟩, isz151⟩
instance : TZer Tryd.prog 151 [.nilFunc] := ⟨by kernel_rfl⟩
instance : TSize Tryd.prog 152 1 := ⟨isz152⟩
instance : TOne Tryd.prog 152 := ⟨⟨_, Tryd.underlying152, rfl⟩, isz152⟩
instance : TZer Tryd.prog 152 [.nilFunc] := ⟨by kernel_rfl⟩
instance : TSize Tryd.prog 153 1 := ⟨isz153⟩
instance : TOne Tryd.prog 153 := ⟨⟨_, Tryd.underlying153, rfl⟩, isz153⟩
instance : TZer Tryd.prog 153 [.nilFunc] := ⟨by kernel_rfl⟩
instance : TSize Tryd.prog 154 1 := ⟨isz154⟩
instance : TOne Tryd.prog 154 := ⟨⟨_, Tryd.underlying154, rfl⟩, isz154⟩
instance : TZer Tryd.prog 154 [.nilFunc] := ⟨by kernel_rfl⟩
instance : TSize Tryd.prog 155 1 := ⟨isz155⟩
instance : TOne Tryd.prog 155 := ⟨⟨_, Tryd.underlying155, rfl⟩, isz155⟩
instance : TZer Tryd.prog 155 [.nilFunc] := ⟨by kernel_rfl⟩
instance : TSize Tryd.prog 156 1 := ⟨isz156⟩
instance : TOne Tryd.prog 156 := ⟨⟨_, Tryd.underlying156, rfl⟩, isz156⟩
instance : TInt Tryd.prog 156 .u64 := ⟨Tryd.underlying156⟩
instance : TZer Tryd.prog 156 [.int .u64 0] := ⟨by kernel_rfl⟩
instance : TSize Tryd.prog 157 1 := ⟨isz157⟩
instance : TOne Tryd.prog 157 := ⟨⟨_, Tryd.underlying157, rfl⟩, isz157⟩
instance : TZer Tryd.prog 157 [.nilFunc] := ⟨by kernel_rfl⟩
instance : TSize Tryd.prog 158 1 := ⟨isz158⟩
instance : TOne Tryd.prog 158 := ⟨⟨_, Tryd.underlying158, rfl⟩, isz158⟩
instance : TZer Tryd.prog 158 [.nilFunc] := ⟨by kernel_rfl⟩
instance : TSize Tryd.prog 159 1 := ⟨isz159⟩
instance : TOne Tryd.prog 159 := ⟨⟨_, Tryd.underlying159, rfl⟩, isz159⟩
instance : TSlice Tryd.prog 159 60 := ⟨Tryd.underlying159⟩
instance : TZer Tryd.prog 159 [.slice none 0 0] := ⟨by kernel_rfl⟩
instance : TSize Tryd.prog 160 1 := ⟨isz160⟩
instance : TOne Tryd.prog 160 := ⟨⟨_, Tryd.underlying160, rfl⟩, isz160⟩
instance : TZer Tryd.prog 160 [.nilFunc] := ⟨by kernel_rfl⟩
instance : TSize Tryd.prog 161 1 := ⟨isz161⟩
instance : TOne Tryd.prog 161 := ⟨⟨_, Tryd.underlying161, rfl⟩, isz161⟩
instance : TZer Tryd.prog 161 [.nilFunc] := ⟨by kernel_rfl⟩
instance : TSize Tryd.prog 162 1 := ⟨isz162⟩
instance : TOne Tryd.prog 162 := ⟨⟨_, Tryd.underlying162, rfl⟩, isz162⟩
instance : TZer Tryd.prog 162 [.nilFunc] := ⟨by kernel_rfl⟩
instance : TSize Tryd.prog 163 1 := ⟨isz163⟩
instance : TOne Tryd.prog 163 := ⟨⟨_, Tryd.underlying163, rfl⟩, isz163⟩
instance : TZer Tryd.prog 163 [.nilFunc] := ⟨by kernel_rfl⟩
instance : TSize Tryd.prog 164 1 := ⟨isz164⟩
instance : TOne Tryd.prog 164 := ⟨⟨_, Tryd.underlying164, rfl⟩, isz164⟩
instance : TZer Tryd.prog 164 [.nilFunc] := ⟨by kernel_rfl⟩
instance : TSize Tryd.prog 165 1 := ⟨isz165⟩
instance : TOne Tryd.prog 165 := ⟨⟨_, Tryd.underlying165, rfl⟩, isz165⟩
instance : TZer Tryd.prog 165 [.nilFunc] := ⟨by kernel_rfl⟩
instance : TSize Tryd.prog 166 1 := ⟨isz166⟩
instance : TOne Tryd.prog 166 := ⟨⟨_, Tryd.underlying166, rfl⟩, isz166⟩
instance : TZer Tryd.prog 166 [.nilFunc] := ⟨by kernel_rfl⟩
instance : TSize Tryd.prog 167 1 := ⟨isz167⟩
instance : TOne Tryd.prog 167 := ⟨⟨_, Tryd.underlying167, rfl⟩, isz167⟩
instance : TZer Tryd.prog 167 [.nilFunc] := ⟨by kernel_rfl⟩
instance : TSize Tryd.prog 168 1 := ⟨isz168⟩
instance : TOne Tryd.prog 168 := ⟨⟨_, Tryd.underlying168, rfl⟩, isz168⟩
instance : TSize Tryd.prog 169 1 := ⟨isz169⟩
instance : TOne Tryd.prog 169 := ⟨⟨_, Tryd.underlying169, rfl⟩, isz169⟩
instance : TZer Tryd.prog 169 [.nilFunc] := ⟨by kernel_rfl⟩
instance : TSize Tryd.prog 170 1 := ⟨isz170⟩
instance : TOne Tryd.prog 170 := ⟨⟨_, Tryd.underlying170, rfl⟩, isz170⟩
instance : TZer Tryd.prog 170 [.nilFunc] := ⟨by kernel_rfl⟩
instance : TSize Tryd.prog 171 1 := ⟨isz171⟩
instance : TOne Tryd.prog 171 := ⟨⟨_, Tryd.underlying171, rfl⟩, isz171⟩
instance : TInt Tryd.prog 171 .u64 := ⟨Tryd.underlying171⟩
instance : TZer Tryd.prog 171 [.int .u64 0] := ⟨by kernel_rfl⟩
instance : TSize Tryd.prog 172 1 := ⟨isz172⟩
instance : TOne Tryd.prog 172 := ⟨⟨_, Tryd.underlying172, rfl⟩, isz172⟩
instance : TZer Tryd.prog 172 [.nilFunc] := ⟨by kernel_rfl⟩
instance : TSize Tryd.prog 173 1 := ⟨isz173⟩
instance : TOne Tryd.prog 173 := ⟨⟨_, Tryd.underlying173, rfl⟩, isz173⟩
instance : TZer Tryd.prog 173 [.nilFunc] := ⟨by kernel_rfl⟩
instance : TSize Tryd.prog 174 1 := ⟨isz174⟩
instance : TOne Tryd.prog 174 := ⟨⟨_, Tryd.underlying174, rfl⟩, isz174⟩
instance : TZer Tryd.prog 174 [.nilFunc] := ⟨by kernel_rfl⟩
instance : TSize Tryd.prog 175 1 := ⟨isz175⟩
instance : TOne Tryd.prog 175 := ⟨⟨_, Tryd.underlying175, rfl⟩, isz175⟩
instance : TSize Tryd.prog 176 1 := ⟨isz176⟩
instance : TOne Tryd.prog 176 := ⟨⟨_, Tryd.underlying176, rfl⟩, isz176⟩
instance : TZer Tryd.prog 176 [.nilFunc] := ⟨by kernel_rfl⟩
instance : TSize Tryd.prog 177 1 := ⟨isz177⟩
instance : TOne Tryd.prog 177 := ⟨⟨_, Tryd.underlying177, rfl⟩, isz177⟩
instance : TZer Tryd.prog 177 [.nilFunc] := ⟨by kernel_rfl⟩
instance : TSize Tryd.prog 178 1 := ⟨isz178⟩
instance : TOne Tryd.prog 178 := ⟨⟨_, Tryd.underlying178, rfl⟩, isz178⟩
instance : TZer Tryd.prog 178 [.pointer none] := ⟨by kernel_rfl⟩
instance : TSize Tryd.prog 179 2 := ⟨isz179⟩
instance : TRow Tryd.prog 179 2 := ⟨⟨_, Tryd.underlying179, rfl⟩, isz179⟩
instance : TZer Tryd.prog 179 [.pointer none, .slice none 0 0] := ⟨by kernel_rfl⟩
instance : TStruct Tryd.prog 179 [(0, 1), (1, 1)] := ⟨⟨_, Tryd.underlying179, by kernel_rfl⟩⟩
instance : TFld Tryd.prog 179 0 0 0 false := ⟨⟨_, _, _, Tryd.underlying179, rfl, rfl, Tryd.underlying178, rfl, isz178⟩⟩
instance : TFld Tryd.prog 179 1 1 0 false := ⟨⟨_, _, _, Tryd.underlying179, rfl, rfl, Tryd.underlying60, rfl, isz60⟩⟩
instance : TSize Tryd.prog 180 2 := ⟨isz180⟩
instance : TRow Tryd.prog 180 2 := ⟨⟨_, Tryd.underlying180, rfl⟩, isz180⟩
instance : TZer Tryd.prog 180 [.pointer none, .slice none 0 0] := ⟨by kernel_rfl⟩
instance : TStruct Tryd.prog 180 [(0, 1), (1, 1)] := ⟨⟨_, Tryd.underlying180, by kernel_rfl⟩⟩
instance : TFld Tryd.prog 180 0 0 0 false := ⟨⟨_, _, _, Tryd.underlying180, rfl, rfl, Tryd.underlying178, rfl, isz178⟩⟩
instance : TFld Tryd.prog 180 1 1 0 false := ⟨⟨_, _, _, Tryd.underlying180, rfl, rfl, Tryd.underlying60, rfl, isz60⟩⟩
instance : TSize Tryd.prog 181 1 := ⟨isz181⟩
instance : TOne Tryd.prog 181 := ⟨⟨_, Tryd.underlying181, rfl⟩, isz181⟩
instance : TZer Tryd.prog 181 [.nilFunc] := ⟨by kernel_rfl⟩
instance : TSize Tryd.prog 182 1 := ⟨isz182⟩
instance : TOne Tryd.prog 182 := ⟨⟨_, Tryd.underlying182, rfl⟩, isz182⟩
instance : TZer Tryd.prog 182 [.nilFunc] := ⟨by kernel_rfl⟩
instance : TSize Tryd.prog 183 1 := ⟨isz183⟩
instance : TOne Tryd.prog 183 := ⟨⟨_, Tryd.underlying183, rfl⟩, isz183⟩
instance : TInt Tryd.prog 183 .i64 := ⟨Tryd.underlying183⟩
instance : TZer Tryd.prog 183 [.int .i64 0] := ⟨by kernel_rfl⟩
instance : TSize Tryd.prog 184 1 := ⟨isz184⟩
instance : TOne Tryd.prog 184 := ⟨⟨_, Tryd.underlying184, rfl⟩, isz184⟩
instance : TSize Tryd.prog 185 1 := ⟨isz185⟩
instance : TOne Tryd.prog 185 := ⟨⟨_, Tryd.underlying185, rfl⟩, isz185⟩
instance : TZer Tryd.prog 185 [.nilFunc] := ⟨by kernel_rfl⟩
instance : TSize Tryd.prog 186 1 := ⟨isz186⟩
instance : TOne Tryd.prog 186 := ⟨⟨_, Tryd.underlying186, rfl⟩, isz186⟩
instance : TZer Tryd.prog 186 [.pointer none] := ⟨by kernel_rfl⟩
instance : TSize Tryd.prog 187 1 := ⟨isz187⟩
instance : TOne Tryd.prog 187 := ⟨⟨_, Tryd.underlying187, rfl⟩, isz187⟩
instance : TZer Tryd.prog 187 [.nilFunc] := ⟨by kernel_rfl⟩
instance : TSize Tryd.prog 188 1 := ⟨isz188⟩
instance : TOne Tryd.prog 188 := ⟨⟨_, Tryd.underlying188, rfl⟩, isz188⟩
instance : TZer Tryd.prog 188 [.nilFunc] := ⟨by kernel_rfl⟩
instance : TSize Tryd.prog 189 1 := ⟨isz189⟩
instance : TOne Tryd.prog 189 := ⟨⟨_, Tryd.underlying189, rfl⟩, isz189⟩
instance : TZer Tryd.prog 189 [.nilFunc] := ⟨by kernel_rfl⟩
instance : TSize Tryd.prog 190 1 := ⟨isz190⟩
instance : TOne Tryd.prog 190 := ⟨⟨_, Tryd.underlying190, rfl⟩, isz190⟩
instance : TZer Tryd.prog 190 [.nilFunc] := ⟨by kernel_rfl⟩
instance : TSize Tryd.prog 191 1 := ⟨isz191⟩
instance : TOne Tryd.prog 191 := ⟨⟨_, Tryd.underlying191, rfl⟩, isz191⟩
instance : TInt Tryd.prog 191 .i64 := ⟨Tryd.underlying191⟩
instance : TZer Tryd.prog 191 [.int .i64 0] := ⟨by kernel_rfl⟩
instance : TSize Tryd.prog 192 1 := ⟨isz192⟩
instance : TOne Tryd.prog 192 := ⟨⟨_, Tryd.underlying192, rfl⟩, isz192⟩
instance : TSize Tryd.prog 193 1 := ⟨isz193⟩
instance : TOne Tryd.prog 193 := ⟨⟨_, Tryd.underlying193, rfl⟩, isz193⟩
instance : TZer Tryd.prog 193 [.nilFunc] := ⟨by kernel_rfl⟩
instance : TSize Tryd.prog 194 1 := ⟨isz194⟩
instance : TOne Tryd.prog 194 := ⟨⟨_, Tryd.underlying194, rfl⟩, isz194⟩
instance : TZer Tryd.prog 194 [.nilFunc] := ⟨by kernel_rfl⟩
instance : TSize Tryd.prog 195 1 := ⟨isz195⟩
instance : TOne Tryd.prog 195 := ⟨⟨_, Tryd.underlying195, rfl⟩, isz195⟩
instance : TZer Tryd.prog 195 [.nilFunc] := ⟨by kernel_rfl⟩
instance : TSize Tryd.prog 196 1 := ⟨isz196⟩
instance : TOne Tryd.prog 196 := ⟨⟨_, Tryd.underlying196, rfl⟩, isz196⟩
instance : TZer Tryd.prog 196 [.nilFunc] := ⟨by kernel_rfl⟩
instance : TSize Tryd.prog 197 1 := ⟨isz197⟩
instance : TOne Tryd.prog 197 := ⟨⟨_, Tryd.underlying197, rfl⟩, isz197⟩
instance : TZer Tryd.prog 197 [.nilFunc] := ⟨by kernel_rfl⟩
instance : TSize Tryd.prog 198 1 := ⟨isz198⟩
instance : TOne Tryd.prog 198 := ⟨⟨_, Tryd.underlying198, rfl⟩, isz198⟩
instance : TZer Tryd.prog 198 [.nilFunc] := ⟨by kernel_rfl⟩
instance : TSize Tryd.prog 199 1 := ⟨isz199⟩
instance : TOne Tryd.prog 199 := ⟨⟨_, Tryd.underlying199, rfl⟩, isz199⟩
instance : TInt Tryd.prog 199 .u32 := ⟨Tryd.underlying199⟩
instance : TZer Tryd.prog 199 [.int .u32 0] := ⟨by kernel_rfl⟩
instance : TSize Tryd.prog 200 1 := ⟨isz200⟩
instance : TOne Tryd.prog 200 := ⟨⟨_, Tryd.underlying200, rfl⟩, isz200⟩
instance : TZer Tryd.prog 200 [.nilFunc] := ⟨by kernel_rfl⟩
instance : TSize Tryd.prog 201 24 := ⟨isz201⟩
instance : TRow Tryd.prog 201 24 := ⟨⟨_, Tryd.underlying201, rfl⟩, isz201⟩
instance : TSize Tryd.prog 202 1 := ⟨isz202⟩
instance : TOne Tryd.prog 202 := ⟨⟨_, Tryd.underlying202, rfl⟩, isz202⟩
instance : TZer Tryd.prog 202 [.nilFunc] := ⟨by kernel_rfl⟩
instance : TSize Tryd.prog 203 1 := ⟨isz203⟩
instance : TOne Tryd.prog 203 := ⟨⟨_, Tryd.underlying203, rfl⟩, isz203⟩
instance : TSize Tryd.prog 204 1 := ⟨isz204⟩
instance : TOne Tryd.prog 204 := ⟨⟨_, Tryd.underlying204, rfl⟩, isz204⟩
instance : TZer Tryd.prog 204 [.nilFunc] := ⟨by kernel_rfl⟩
instance : TSize Tryd.prog 205 1 := ⟨isz205⟩
instance : TOne Tryd.prog 205 := ⟨⟨_, Tryd.underlying205, rfl⟩, isz205⟩
instance : TSize Tryd.prog 206 1 := ⟨isz206⟩
instance : TOne Tryd.prog 206 := ⟨⟨_, Tryd.underlying206, rfl⟩, isz206⟩
instance : TZer Tryd.prog 206 [.nilFunc] := ⟨by kernel_rfl⟩
instance : TSize Tryd.prog 207 1 := ⟨isz207⟩
instance : TOne Tryd.prog 207 := ⟨⟨_, Tryd.underlying207, rfl⟩, isz207⟩
instance : TSize Tryd.prog 208 1 := ⟨isz208⟩
instance : TOne Tryd.prog 208 := ⟨⟨_, Tryd.underlying208, rfl⟩, isz208⟩
instance : TZer Tryd.prog 208 [.nilFunc] := ⟨by kernel_rfl⟩
instance : TSize Tryd.prog 209 1 := ⟨isz209⟩
instance : TOne Tryd.prog 209 := ⟨⟨_, Tryd.underlying209, rfl⟩, isz209⟩
instance : TZer Tryd.prog 209 [.pointer none] := ⟨by kernel_rfl⟩
instance : TSize Tryd.prog 210 1 := ⟨isz210⟩
instance : TOne Tryd.prog 210 := ⟨⟨_, Tryd.underlying210, rfl⟩, isz210⟩
instance : TZer Tryd.prog 210 [.nilFunc] := ⟨by kernel_rfl⟩
instance : TSize Tryd.prog 211 1 := ⟨isz211⟩
instance : TOne Tryd.prog 211 := ⟨⟨_, Tryd.underlying211, rfl⟩, isz211⟩
instance : TZer Tryd.prog 211 [.nilFunc] := ⟨by kernel_rfl⟩
instance : TSize Tryd.prog 212 1 := ⟨isz212⟩
instance : TOne Tryd.prog 212 := ⟨⟨_, Tryd.underlying212, rfl⟩, isz212⟩
instance : TSize Tryd.prog 213 1 := ⟨isz213⟩
instance : TOne Tryd.prog 213 := ⟨⟨_, Tryd.underlying213, rfl⟩, isz213⟩
instance : TZer Tryd.prog 213 [.nilFunc] := ⟨by kernel_rfl⟩
instance : TSize Tryd.prog 214 1 := ⟨isz214⟩
instance : TOne Tryd.prog 214 := ⟨⟨_, Tryd.underlying214, rfl⟩, isz214⟩
instance : TZer Tryd.prog 214 [.nilFunc] := ⟨by kernel_rfl⟩
instance : TSize Tryd.prog 215 3 := ⟨isz215⟩
instance : TRow Tryd.prog 215 3 := ⟨⟨_, Tryd.underlying215, rfl⟩, isz215⟩
instance : TZer Tryd.prog 215 [.string ⟨#[]⟩, .string ⟨#[]⟩, .nilIface] := ⟨by kernel_rfl⟩
instance : TStruct Tryd.prog 215 [(0, 1), (1, 1), (2, 1)] := ⟨⟨_, Tryd.underlying215, by kernel_rfl⟩⟩
instance : TFld Tryd.prog 215 0 0 0 false := ⟨⟨_, _, _, Tryd.underlying215, rfl, rfl, Tryd.underlying9, rfl, isz9⟩⟩
instance : TFld Tryd.prog 215 1 1 0 false := ⟨⟨_, _, _, Tryd.underlying215, rfl, rfl, Tryd.underlying9, rfl, isz9⟩⟩
instance : TFld Tryd.prog 215 2 2 0 false := ⟨⟨_, _, _, Tryd.underlying215, rfl, rfl, Tryd.underlying125, rfl, isz125⟩⟩
instance : TSize Tryd.prog 216 3 := ⟨isz216⟩
instance : TRow Tryd.prog 216 3 := ⟨⟨_, Tryd.underlying216, rfl⟩, isz216⟩
instance : TZer Tryd.prog 216 [.string ⟨#[]⟩, .string ⟨#[]⟩, .nilIface] := ⟨by kernel_rfl⟩
instance : TStruct Tryd.prog 216 [(0, 1), (1, 1), (2, 1)] := ⟨⟨_, Tryd.underlying216, by kernel_rfl⟩⟩
instance : TFld Tryd.prog 216 0 0 0 false := ⟨⟨_, _, _, Tryd.underlying216, rfl, rfl, Tryd.underlying9, rfl, isz9⟩⟩
instance : TFld Tryd.prog 216 1 1 0 false := ⟨⟨_, _, _, Tryd.underlying216, rfl, rfl, Tryd.underlying9, rfl, isz9⟩⟩
instance : TFld Tryd.prog 216 2 2 0 false := ⟨⟨_, _, _, Tryd.underlying216, rfl, rfl, Tryd.underlying125, rfl, isz125⟩⟩
instance : TSize Tryd.prog 217 1 := ⟨isz217⟩
instance : TOne Tryd.prog 217 := ⟨⟨_, Tryd.underlying217, rfl⟩, isz217⟩
instance : TZer Tryd.prog 217 [.nilFunc] := ⟨by kernel_rfl⟩
instance : TSize Tryd.prog 218 256 := ⟨isz218⟩
instance : TRow Tryd.prog 218 256 := ⟨⟨_, Tryd.underlying218, rfl⟩, isz218⟩
instance : TSize Tryd.prog 219 2 := ⟨isz219⟩
instance : TRow Tryd.prog 219 2 := ⟨⟨_, Tryd.underlying219, rfl⟩, isz219⟩
instance : TZer Tryd.prog 219 [.int .u8 0, .int .u8 0] := ⟨by kernel_rfl⟩
instance : TStruct Tryd.prog 219 [(0, 1), (1, 1)] := ⟨⟨_, Tryd.underlying219, by kernel_rfl⟩⟩
instance : TFld Tryd.prog 219 0 0 0 false := ⟨⟨_, _, _, Tryd.underlying219, rfl, rfl, Tryd.underlying5, rfl, isz5⟩⟩
instance : TFld Tryd.prog 219 1 1 0 false := ⟨⟨_, _, _, Tryd.underlying219, rfl, rfl, Tryd.underlying5, rfl, isz5⟩⟩
instance : TSize Tryd.prog 220 2 := ⟨isz220⟩
instance : TRow Tryd.prog 220 2 := ⟨⟨_, Tryd.underlying220, rfl⟩, isz220⟩
instance : TZer Tryd.prog 220 [.int .u8 0, .int .u8 0] := ⟨by kernel_rfl⟩
instance : TStruct Tryd.prog 220 [(0, 1), (1, 1)] := ⟨⟨_, Tryd.underlying220, by kernel_rfl⟩⟩
instance : TFld Tryd.prog 220 0 0 0 false := ⟨⟨_, _, _, Tryd.underlying220, rfl, rfl, Tryd.underlying5, rfl, isz5⟩⟩
instance : TFld Tryd.prog 220 1 1 0 false := ⟨⟨_, _, _, Tryd.underlying220, rfl, rfl, Tryd.underlying5, rfl, isz5⟩⟩
instance : TSize Tryd.prog 221 32 := ⟨isz221⟩
instance : TRow Tryd.prog 221 32 := ⟨⟨_, Tryd.underlying221, rfl⟩, isz221⟩
instance : TSize Tryd.prog 222 1 := ⟨isz222⟩
instance : TOne Tryd.prog 222 := ⟨⟨_, Tryd.underlying222, rfl⟩, isz222⟩
instance : TZer Tryd.prog 222 [.nilFunc] := ⟨by kernel_rfl⟩
instance : TSize Tryd.prog 223 1 := ⟨isz223⟩
instance : TOne Tryd.prog 223 := ⟨⟨_, Tryd.underlying223, rfl⟩, isz223⟩
instance : TInt Tryd.prog 223 .u64 := ⟨Tryd.underlying223⟩
instance : TZer Tryd.prog 223 [.int .u64 0] := ⟨by kernel_rfl⟩
instance : TSize Tryd.prog 224 1 := ⟨isz224⟩
instance : TOne Tryd.prog 224 := ⟨⟨_, Tryd.underlying224, rfl⟩, isz224⟩
instance : TZer Tryd.prog 224 [.nilFunc] := ⟨by kernel_rfl⟩
instance : TSize Tryd.prog 225 1 := ⟨isz225⟩
instance : TOne Tryd.prog 225 := ⟨⟨_, Tryd.underlying225, rfl⟩, isz225⟩
instance : TZer Tryd.prog 225 [.nilFunc] := ⟨by kernel_rfl⟩
instance : TSize Tryd.prog 226 1 := ⟨isz226⟩
instance : TOne Tryd.prog 226 := ⟨⟨_, Tryd.underlying226, rfl⟩, isz226⟩
instance : TZer Tryd.prog 226 [.nilFunc] := ⟨by kernel_rfl⟩
instance : TSize Tryd.prog 227 1 := ⟨isz227⟩
instance : TOne Tryd.prog 227 := ⟨⟨_, Tryd.underlying227, rfl⟩, isz227⟩
instance : TZer Tryd.prog 227 [.pointer none] := ⟨by kernel_rfl⟩
instance : TSize Tryd.prog 228 1 := ⟨isz228⟩
instance : TOne Tryd.prog 228 := ⟨⟨_, Tryd.underlying228, rfl⟩, isz228⟩
instance : TZer Tryd.prog 228 [.nilFunc] := ⟨by kernel_rfl⟩
instance : TSize Tryd.prog 229 20 := ⟨isz229⟩
instance : TRow Tryd.prog 229 20 := ⟨⟨_, Tryd.underlying229, rfl⟩, isz229⟩
instance : TSize Tryd.prog 230 65 := ⟨isz230⟩
instance : TRow Tryd.prog 230 65 := ⟨⟨_, Tryd.underlying230, rfl⟩, isz230⟩
instance : TSize Tryd.prog 231 1 := ⟨isz231⟩
instance : TOne Tryd.prog 231 := ⟨⟨_, Tryd.underlying231, rfl⟩, isz231⟩
instance : TSize Tryd.prog 232 1 := ⟨isz232⟩
instance : TOne Tryd.prog 232 := ⟨⟨_, Tryd.underlying232, rfl⟩, isz232⟩
instance : TZer Tryd.prog 232 [.nilFunc] := ⟨by kernel_rfl⟩
instance : TSize Tryd.prog 233 1 := ⟨isz233⟩
instance : TOne Tryd.prog 233 := ⟨⟨_, Tryd.underlying233, rfl⟩, isz233⟩
instance : TZer Tryd.prog 233 [.nilFunc] := ⟨by kernel_rfl⟩
instance : TSize Tryd.prog 234 1 := ⟨isz234⟩
instance : TOne Tryd.prog 234 := ⟨⟨_, Tryd.underlying234, rfl⟩, isz234⟩
instance : TZer Tryd.prog 234 [.nilFunc] := ⟨by kernel_rfl⟩
instance : TSize Tryd.prog 235 1 := ⟨isz235⟩
instance : TOne Tryd.prog 235 := ⟨⟨_, Tryd.underlying235, rfl⟩, isz235⟩
instance : TZer Tryd.prog 235 [.pointer none] := ⟨by kernel_rfl⟩
instance : TSize Tryd.prog 236 1 := ⟨isz236⟩
instance : TRow Tryd.prog 236 1 := ⟨⟨_, Tryd.underlying236, rfl⟩, isz236⟩
instance : TZer Tryd.prog 236 [.string ⟨#[]⟩] := ⟨by kernel_rfl⟩
instance : TStruct Tryd.prog 236 [(0, 1)] := ⟨⟨_, Tryd.underlying236, by kernel_rfl⟩⟩
instance : TFld Tryd.prog 236 0 0 0 false := ⟨⟨_, _, _, Tryd.underlying236, rfl, rfl, Tryd.underlying9, rfl, isz9⟩⟩
instance : TSize Tryd.prog 237 1 := ⟨isz237⟩
instance : TRow Tryd.prog 237 1 := ⟨⟨_, Tryd.underlying237, rfl⟩, isz237⟩
instance : TZer Tryd.prog 237 [.string ⟨#[]⟩] := ⟨by kernel_rfl⟩
instance : TStruct Tryd.prog 237 [(0, 1)] := ⟨⟨_, Tryd.underlying237, by kernel_rfl⟩⟩
instance : TFld Tryd.prog 237 0 0 0 false := ⟨⟨_, _, _, Tryd.underlying237, rfl, rfl, Tryd.underlying9, rfl, isz9⟩⟩
instance : TSize Tryd.prog 238 1 := ⟨isz238⟩
instance : TOne Tryd.prog 238 := ⟨⟨_, Tryd.underlying238, rfl⟩, isz238⟩
instance : TZer Tryd.prog 238 [.pointer none] := ⟨by kernel_rfl⟩
instance : TSize Tryd.prog 239 1 := ⟨isz239⟩
instance : TOne Tryd.prog 239 := ⟨⟨_, Tryd.underlying239, rfl⟩, isz239⟩
instance : TSize Tryd.prog 240 1 := ⟨isz240⟩
instance : TOne Tryd.prog 240 := ⟨⟨_, Tryd.underlying240, rfl⟩, isz240⟩
instance : TZer Tryd.prog 240 [.nilFunc] := ⟨by kernel_rfl⟩
instance : TSize Tryd.prog 241 1 := ⟨isz241⟩
instance : TOne Tryd.prog 241 := ⟨⟨_, Tryd.underlying241, rfl⟩, isz241⟩
instance : TZer Tryd.prog 241 [.nilFunc] := ⟨by kernel_rfl⟩
instance : TSize Tryd.prog 242 32 := ⟨isz242⟩
instance : TRow Tryd.prog 242 32 := ⟨⟨_, Tryd.underlying242, rfl⟩, isz242⟩
instance : TSize Tryd.prog 243 64 := ⟨isz243⟩
instance : TRow Tryd.prog 243 64 := ⟨⟨_, Tryd.underlying243, rfl⟩, isz243⟩
instance : TSize Tryd.prog 244 4 := ⟨isz244⟩
instance : TRow Tryd.prog 244 4 := ⟨⟨_, Tryd.underlying244, rfl⟩, isz244⟩
instance : TZer Tryd.prog 244 [.pointer none, .pointer none, .pointer none, .string ⟨#[]⟩] := ⟨by kernel_rfl⟩
instance : TStruct Tryd.prog 244 [(0, 1), (1, 1), (2, 1), (3, 1)] := ⟨⟨_, Tryd.underlying244, by kernel_rfl⟩⟩
instance : TFld Tryd.prog 244 0 0 0 false := ⟨⟨_, _, _, Tryd.underlying244, rfl, rfl, Tryd.underlying17, rfl, isz17⟩⟩
instance : TFld Tryd.prog 244 1 1 0 false := ⟨⟨_, _, _, Tryd.underlying244, rfl, rfl, Tryd.underlying17, rfl, isz17⟩⟩
instance : TFld Tryd.prog 244 2 2 0 false := ⟨⟨_, _, _, Tryd.underlying244, rfl, rfl, Tryd.underlying17, rfl, isz17⟩⟩
instance : TFld Tryd.prog 244 3 3 0 false := ⟨⟨_, _, _, Tryd.underlying244, rfl, rfl, Tryd.underlying9, rfl, isz9⟩⟩
instance : TSize Tryd.prog 245 4 := ⟨isz245⟩
instance : TRow Tryd.prog 245 4 := ⟨⟨_, Tryd.underlying245, rfl⟩, isz245⟩
instance : TZer Tryd.prog 245 [.pointer none, .pointer none, .pointer none, .string ⟨#[]⟩] := ⟨by kernel_rfl⟩
instance : TStruct Tryd.prog 245 [(0, 1), (1, 1), (2, 1), (3, 1)] := ⟨⟨_, Tryd.underlying245, by kernel_rfl⟩⟩
instance : TFld Tryd.prog 245 0 0 0 false := ⟨⟨_, _, _, Tryd.underlying245, rfl, rfl, Tryd.underlying17, rfl, isz17⟩⟩
instance : TFld Tryd.prog 245 1 1 0 false := ⟨⟨_, _, _, Tryd.underlying245, rfl, rfl, Tryd.underlying17, rfl, isz17⟩⟩
instance : TFld Tryd.prog 245 2 2 0 false := ⟨⟨_, _, _, Tryd.underlying245, rfl, rfl, Tryd.underlying17, rfl, isz17⟩⟩
instance : TFld Tryd.prog 245 3 3 0 false := ⟨⟨_, _, _, Tryd.underlying245, rfl, rfl, Tryd.underlying9, rfl, isz9⟩⟩
instance : TSize Tryd.prog 249 1 := ⟨isz249⟩
instance : TOne Tryd.prog 249 := ⟨⟨_, Tryd.underlying249, rfl⟩, isz249⟩
instance : TInt Tryd.prog 249 .u8 := ⟨Tryd.underlying249⟩
instance : TZer Tryd.prog 249 [.int .u8 0] := ⟨by kernel_rfl⟩
instance : TSize Tryd.prog 250 1 := ⟨isz250⟩
instance : TOne Tryd.prog 250 := ⟨⟨_, Tryd.underlying250, rfl⟩, isz250⟩
instance : TInt Tryd.prog 250 .u8 := ⟨Tryd.underlying250⟩
instance : TZer Tryd.prog 250 [.int .u8 0] := ⟨by kernel_rfl⟩
instance : TSize Tryd.prog 251 1 := ⟨isz251⟩
instance : TOne Tryd.prog 251 := ⟨⟨_, Tryd.underlying251, rfl⟩, isz251⟩
instance : TZer Tryd.prog 251 [.nilFunc] := ⟨by kernel_rfl⟩
instance : TSize Tryd.prog 252 1 := ⟨isz252⟩
instance : TOne Tryd.prog 252 := ⟨⟨_, Tryd.underlying252, rfl⟩, isz252⟩
instance : TInt Tryd.prog 252 .i32 := ⟨Tryd.underlying252⟩
instance : TZer Tryd.prog 252 [.int .i32 0] := ⟨by kernel_rfl⟩
instance : TSize Tryd.prog 253 1 := ⟨isz253⟩
instance : TOne Tryd.prog 253 := ⟨⟨_, Tryd.underlying253, rfl⟩, isz253⟩
instance : TInt Tryd.prog 253 .i32 := ⟨Tryd.underlying253⟩
instance : TZer Tryd.prog 253 [.int .i32 0] := ⟨by kernel_rfl⟩
instance : TSize Tryd.prog 254 11 := ⟨isz254⟩
instance : TRow Tryd.prog 254 11 := ⟨⟨_, Tryd.underlying254, rfl⟩, isz254⟩
instance : TZer Tryd.prog 254 [.int .u64 0, .int .u64 0, .int .u32 0, .int .u8 0, .int .u8 0, .int .u8 0, .int .u8 0, .nilFunc, .pointer none, .int .i32 0, .int .i32 0] := ⟨by kernel_rfl⟩
instance : TStruct Tryd.prog 254 [(0, 1), (1, 1), (2, 1), (3, 1), (4, 1), (5, 1), (6, 1), (7, 1), (8, 1), (9, 1), (10, 1)] := ⟨⟨_, Tryd.underlying254, by kernel_rfl⟩⟩
instance : TFld Tryd.prog 254 0 0 0 false := ⟨⟨_, _, _, Tryd.underlying254, rfl, rfl, Tryd.underlying12, rfl, isz12⟩⟩
instance : TFld Tryd.prog 254 1 1 0 false := ⟨⟨_, _, _, Tryd.underlying254, rfl, rfl, Tryd.underlying12, rfl, isz12⟩⟩
instance : TFld Tryd.prog 254 2 2 0 false := ⟨⟨_, _, _, Tryd.underlying254, rfl, rfl, Tryd.underlying199, rfl, isz199⟩⟩
instance : TFld Tryd.prog 254 3 3 0 false := ⟨⟨_, _, _, Tryd.underlying254, rfl, rfl, Tryd.underlying249, rfl, isz249⟩⟩
instance : TFld Tryd.prog 254 4 4 0 false := ⟨⟨_, _, _, Tryd.underlying254, rfl, rfl, Tryd.underlying5, rfl, isz5⟩⟩
instance : TFld Tryd.prog 254 5 5 0 false := ⟨⟨_, _, _, Tryd.underlying254, rfl, rfl, Tryd.underlying5, rfl, isz5⟩⟩
instance : TFld Tryd.prog 254 6 6 0 false := ⟨⟨_, _, _, Tryd.underlying254, rfl, rfl, Tryd.underlying250, rfl, isz250⟩⟩
instance : TFld Tryd.prog 254 7 7 0 false := ⟨⟨_, _, _, Tryd.underlying254, rfl, rfl, Tryd.underlying251, rfl, isz251⟩⟩
instance : TFld Tryd.prog 254 8 8 0 false := ⟨⟨_, _, _, Tryd.underlying254, rfl, rfl, Tryd.underlying209, rfl, isz209⟩⟩
instance : TFld Tryd.prog 254 9 9 0 false := ⟨⟨_, _, _, Tryd.underlying254, rfl, rfl, Tryd.underlying252, rfl, isz252⟩⟩
instance : TFld Tryd.prog 254 10 10 0 false := ⟨⟨_, _, _, Tryd.underlying254, rfl, rfl, Tryd.underlying253, rfl, isz253⟩⟩
instance : TSize Tryd.prog 255 11 := ⟨isz255⟩
instance : TRow Tryd.prog 255 11 := ⟨⟨_, Tryd.underlying255, rfl⟩, isz255⟩
instance : TZer Tryd.prog 255 [.int .u64 0, .int .u64 0, .int .u32 0, .int .u8 0, .int .u8 0, .int .u8 0, .int .u8 0, .nilFunc, .pointer none, .int .i32 0, .int .i32 0] := ⟨by kernel_rfl⟩
instance : TStruct Tryd.prog 255 [(0, 1), (1, 1), (2, 1), (3, 1), (4, 1), (5, 1), (6, 1), (7, 1), (8, 1), (9, 1), (10, 1)] := ⟨⟨_, Tryd.underlying255, by kernel_rfl⟩⟩
instance : TFld Tryd.prog 255 0 0 0 false := ⟨⟨_, _, _, Tryd.underlying255, rfl, rfl, Tryd.underlying12, rfl, isz12⟩⟩
instance : TFld Tryd.prog 255 1 1 0 false := ⟨⟨_, _, _, Tryd.underlying255, rfl, rfl, Tryd.underlying12, rfl, isz12⟩⟩
instance : TFld Tryd.prog 255 2 2 0 false := ⟨⟨_, _, _, Tryd.underlying255, rfl, rfl, Tryd.underlying199, rfl, isz199⟩⟩
instance : TFld Tryd.prog 255 3 3 0 false := ⟨⟨_, _, _, Tryd.underlying255, rfl, rfl, Tryd.underlying249, rfl, isz249⟩⟩
instance : TFld Tryd.prog 255 4 4 0 false := ⟨⟨_, _, _, Tryd.underlying255, rfl, rfl, Tryd.underlying5, rfl, isz5⟩⟩
instance : TFld Tryd.prog 255 5 5 0 false := ⟨⟨_, _, _, Tryd.underlying255, rfl, rfl, Tryd.underlying5, rfl, isz5⟩⟩
instance : TFld Tryd.prog 255 6 6 0 false := ⟨⟨_, _, _, Tryd.underlying255, rfl, rfl, Tryd.underlying250, rfl, isz250⟩⟩
instance : TFld Tryd.prog 255 7 7 0 false := ⟨⟨_, _, _, Tryd.underlying255, rfl, rfl, Tryd.underlying251, rfl, isz251⟩⟩
instance : TFld Tryd.prog 255 8 8 0 false := ⟨⟨_, _, _, Tryd.underlying255, rfl, rfl, Tryd.underlying209, rfl, isz209⟩⟩
instance : TFld Tryd.prog 255 9 9 0 false := ⟨⟨_, _, _, Tryd.underlying255, rfl, rfl, Tryd.underlying252, rfl, isz252⟩⟩
instance : TFld Tryd.prog 255 10 10 0 false := ⟨⟨_, _, _, Tryd.underlying255, rfl, rfl, Tryd.underlying253, rfl, isz253⟩⟩
instance : Enters Tryd.prog 3 := ⟨⟨_, Tryd.func3, by kernel_rfl, by kernel_rfl⟩⟩
instance : Enters Tryd.prog 4 := ⟨⟨_, Tryd.func4, by kernel_rfl, by kernel_rfl⟩⟩
instance : Enters Tryd.prog 5 := ⟨⟨_, Tryd.func5, by kernel_rfl, by kernel_rfl⟩⟩
instance : Enters Tryd.prog 6 := ⟨⟨_, Tryd.func6, by kernel_rfl, by kernel_rfl⟩⟩
instance : Enters Tryd.prog 7 := ⟨⟨_, Tryd.func7, by kernel_rfl, by kernel_rfl⟩⟩
instance : Enters Tryd.prog 8 := ⟨⟨_, Tryd.func8, by kernel_rfl, by kernel_rfl⟩⟩
instance : Enters Tryd.prog 9 := ⟨⟨_, Tryd.func9, by kernel_rfl, by kernel_rfl⟩⟩
instance : Enters Tryd.prog 10 := ⟨⟨_, Tryd.func10, by kernel_rfl, by kernel_rfl⟩⟩
instance : Enters Tryd.prog 11 := ⟨⟨_, Tryd.func11, by kernel_rfl, by kernel_rfl⟩⟩
instance : Enters Tryd.prog 12 := ⟨⟨_, Tryd.func12, by kernel_rfl, by kernel_rfl⟩⟩
instance : Enters Tryd.prog 13 := ⟨⟨_, Tryd.func13, by kernel_rfl, by kernel_rfl⟩⟩
instance : Enters Tryd.prog 14 := ⟨⟨_, Tryd.func14, by kernel_rfl, by kernel_rfl⟩⟩
instance : Enters Tryd.prog 15 := ⟨⟨_, Tryd.func15, by kernel_rfl, by kernel_rfl⟩⟩
instance : Enters Tryd.prog 16 := ⟨⟨_, Tryd.func16, by kernel_rfl, by kernel_rfl⟩⟩
instance : Enters Tryd.prog 17 := ⟨⟨_, Tryd.func17, by kernel_rfl, by kernel_rfl⟩⟩
instance : Enters Tryd.prog 18 := ⟨⟨_, Tryd.func18, by kernel_rfl, by kernel_rfl⟩⟩
instance : Enters Tryd.prog 19 := ⟨⟨_, Tryd.func19, by kernel_rfl, by kernel_rfl⟩⟩
instance : Enters Tryd.prog 20 := ⟨⟨_, Tryd.func20, by kernel_rfl, by kernel_rfl⟩⟩
instance : Enters Tryd.prog 21 := ⟨⟨_, Tryd.func21, by kernel_rfl, by kernel_rfl⟩⟩
instance : Enters Tryd.prog 22 := ⟨⟨_, Tryd.func22, by kernel_rfl, by kernel_rfl⟩⟩
instance : Enters Tryd.prog 23 := ⟨⟨_, Tryd.func23, by kernel_rfl, by kernel_rfl⟩⟩
instance : Enters Tryd.prog 24 := ⟨⟨_, Tryd.func24, by kernel_rfl, by kernel_rfl⟩⟩
instance : Enters Tryd.prog 25 := ⟨⟨_, Tryd.func25, by kernel_rfl, by kernel_rfl⟩⟩
instance : Enters Tryd.prog 26 := ⟨⟨_, Tryd.func26, by kernel_rfl, by kernel_rfl⟩⟩
instance : Enters Tryd.prog 27 := ⟨⟨_, Tryd.func27, by kernel_rfl, by kernel_rfl⟩⟩
instance : Enters Tryd.prog 28 := ⟨⟨_, Tryd.func28, by kernel_rfl, by kernel_rfl⟩⟩
instance : Enters Tryd.prog 29 := ⟨⟨_, Tryd.func29, by kernel_rfl, by kernel_rfl⟩⟩
instance : Enters Tryd.prog 30 := ⟨⟨_, Tryd.func30, by kernel_rfl, by kernel_rfl⟩⟩
instance : Enters Tryd.prog 31 := ⟨⟨_, Tryd.func31, by kernel_rfl, by kernel_rfl⟩⟩
instance : Enters Tryd.prog 32 := ⟨⟨_, Tryd.func32, by kernel_rfl, by kernel_rfl⟩⟩
instance : Enters Tryd.prog 33 := ⟨⟨_, Tryd.func33, by kernel_rfl, by kernel_rfl⟩⟩
instance : Enters Tryd.prog 34 := ⟨⟨_, Tryd.func34, by kernel_rfl, by kernel_rfl⟩⟩
instance : Enters Tryd.prog 35 := ⟨⟨_, Tryd.func35, by kernel_rfl, by kernel_rfl⟩⟩
instance : Enters Tryd.prog 36 := ⟨⟨_, Tryd.func36, by kernel_rfl, by kernel_rfl⟩⟩
instance : Enters Tryd.prog 37 := ⟨⟨_, Tryd.func37, by kernel_rfl, by kernel_rfl⟩⟩
instance : Enters Tryd.prog 38 := ⟨⟨_, Tryd.func38, by kernel_rfl, by kernel_rfl⟩⟩
instance : Enters Tryd.prog 39 := ⟨⟨_, Tryd.func39, by kernel_rfl, by kernel_rfl⟩⟩
instance : Enters Tryd.prog 40 := ⟨⟨_, Tryd.func40, by kernel_rfl, by kernel_rfl⟩⟩
instance : Enters Tryd.prog 41 := ⟨⟨_, Tryd.func41, by kernel_rfl, by kernel_rfl⟩⟩
instance : Enters Tryd.prog 42 := ⟨⟨_, Tryd.func42, by kernel_rfl, by kernel_rfl⟩⟩
instance : Enters Tryd.prog 43 := ⟨⟨_, Tryd.func43, by kernel_rfl, by kernel_rfl⟩⟩
instance : Enters Tryd.prog 44 := ⟨⟨_, Tryd.func44, by kernel_rfl, by kernel_rfl⟩⟩
instance : Enters Tryd.prog 45 := ⟨⟨_, Tryd.func45, by kernel_rfl, by kernel_rfl⟩⟩
instance : Enters Tryd.prog 46 := ⟨⟨_, Tryd.func46, by kernel_rfl, by kernel_rfl⟩⟩
instance : Enters Tryd.prog 47 := ⟨⟨_, Tryd.func47, by kernel_rfl, by kernel_rfl⟩⟩
instance : Enters Tryd.prog 48 := ⟨⟨_, Tryd.func48, by kernel_rfl, by kernel_rfl⟩⟩
instance : Enters Tryd.prog 49 := ⟨⟨_, Tryd.func49, by kernel_rfl, by kernel_rfl⟩⟩
instance : Enters Tryd.prog 50 := ⟨⟨_, Tryd.func50, by kernel_rfl, by kernel_rfl⟩⟩
instance : Enters Tryd.prog 51 := ⟨⟨_, Tryd.func51, by kernel_rfl, by kernel_rfl⟩⟩
instance : Enters Tryd.prog 52 := ⟨⟨_, Tryd.func52, by kernel_rfl, by kernel_rfl⟩⟩
instance : Enters Tryd.prog 53 := ⟨⟨_, Tryd.func53, by kernel_rfl, by kernel_rfl⟩⟩
instance : Enters Tryd.prog 54 := ⟨⟨_, Tryd.func54, by kernel_rfl, by kernel_rfl⟩⟩
instance : Enters Tryd.prog 55 := ⟨⟨_, Tryd.func55, by kernel_rfl, by kernel_rfl⟩⟩
instance : Enters Tryd.prog 56 := ⟨⟨_, Tryd.func56, by kernel_rfl, by kernel_rfl⟩⟩
instance : Enters Tryd.prog 57 := ⟨⟨_, Tryd.func57, by kernel_rfl, by kernel_rfl⟩⟩
instance : Enters Tryd.prog 58 := ⟨⟨_, Tryd.func58, by kernel_rfl, by kernel_rfl⟩⟩
instance : Enters Tryd.prog 59 := ⟨⟨_, Tryd.func59, by kernel_rfl, by kernel_rfl⟩⟩
instance : Enters Tryd.prog 60 := ⟨⟨_, Tryd.func60, by kernel_rfl, by kernel_rfl⟩⟩
instance : Enters Tryd.prog 61 := ⟨⟨_, Tryd.func61, by kernel_rfl, by kernel_rfl⟩⟩
instance : Enters Tryd.prog 62 := ⟨⟨_, Tryd.func62, by kernel_rfl, by kernel_rfl⟩⟩
instance : Enters Tryd.prog 63 := ⟨⟨_, Tryd.func63, by kernel_rfl, by kernel_rfl⟩⟩
instance : Enters Tryd.prog 64 := ⟨⟨_, Tryd.func64, by kernel_rfl, by kernel_rfl⟩⟩
instance : Enters Tryd.prog 65 := ⟨⟨_, Tryd.func65, by kernel_rfl, by kernel_rfl⟩⟩
instance : Enters Tryd.prog 66 := ⟨⟨_, Tryd.func66, by kernel_rfl, by kernel_rfl⟩⟩
instance : Enters Tryd.prog 67 := ⟨⟨_, Tryd.func67, by kernel_rfl, by kernel_rfl⟩⟩
instance : Enters Tryd.prog 68 := ⟨⟨_, Tryd.func68, by kernel_rfl, by kernel_rfl⟩⟩
instance : Enters Tryd.prog 69 := ⟨⟨_, Tryd.func69, by kernel_rfl, by kernel_rfl⟩⟩
instance : Enters Tryd.prog 70 := ⟨⟨_, Tryd.func70, by kernel_rfl, by kernel_rfl⟩⟩
instance : Enters Tryd.prog 71 := ⟨⟨_, Tryd.func71, by kernel_rfl, by kernel_rfl⟩⟩
instance : Enters Tryd.prog 72 := ⟨⟨_, Tryd.func72, by kernel_rfl, by kernel_rfl⟩⟩
instance : Enters Tryd.prog 73 := ⟨⟨_, Tryd.func73, by kernel_rfl, by kernel_rfl⟩⟩
instance : Enters Tryd.prog 74 := ⟨⟨_, Tryd.func74, by kernel_rfl, by kernel_rfl⟩⟩
instance : Enters Tryd.prog 75 := ⟨⟨_, Tryd.func75, by kernel_rfl, by kernel_rfl⟩⟩
instance : Enters Tryd.prog 76 := ⟨⟨_, Tryd.func76, by kernel_rfl, by kernel_rfl⟩⟩
instance : Enters Tryd.prog 77 := ⟨⟨_, Tryd.func77, by kernel_rfl, by kernel_rfl⟩⟩
instance : Enters Tryd.prog 78 := ⟨⟨_, Tryd.func78, by kernel_rfl, by kernel_rfl⟩⟩
instance : Enters Tryd.prog 79 := ⟨⟨_, Tryd.func79, by kernel_rfl, by kernel_rfl⟩⟩
instance : Enters Tryd.prog 80 := ⟨⟨_, Tryd.func80, by kernel_rfl, by kernel_rfl⟩⟩
instance : Enters Tryd.prog 81 := ⟨⟨_, Tryd.func81, by kernel_rfl, by kernel_rfl⟩⟩
instance : Enters Tryd.prog 82 := ⟨⟨_, Tryd.func82, by kernel_rfl, by kernel_rfl⟩⟩
instance : Enters Tryd.prog 83 := ⟨⟨_, Tryd.func83, by kernel_rfl, by kernel_rfl⟩⟩
instance : Enters Tryd.prog 84 := ⟨⟨_, Tryd.func84, by kernel_rfl, by kernel_rfl⟩⟩
instance : Enters Tryd.prog 85 := ⟨⟨_, Tryd.func85, by kernel_rfl, by kernel_rfl⟩⟩
instance : Enters Tryd.prog 86 := ⟨⟨_, Tryd.func86, by kernel_rfl, by kernel_rfl⟩⟩
instance : Enters Tryd.prog 87 := ⟨⟨_, Tryd.func87, by kernel_rfl, by kernel_rfl⟩⟩
instance : Enters Tryd.prog 88 := ⟨⟨_, Tryd.func88, by kernel_rfl, by kernel_rfl⟩⟩
instance : Enters Tryd.prog 89 := ⟨⟨_, Tryd.func89, by kernel_rfl, by kernel_rfl⟩⟩
instance : Enters Tryd.prog 90 := ⟨⟨_, Tryd.func90, by kernel_rfl, by kernel_rfl⟩⟩
instance : Enters Tryd.prog 91 := ⟨⟨_, Tryd.func91, by kernel_rfl, by kernel_rfl⟩⟩
instance : Enters Tryd.prog 92 := ⟨⟨_, Tryd.func92, by kernel_rfl, by kernel_rfl⟩⟩
instance : Enters Tryd.prog 93 := ⟨⟨_, Tryd.func93, by kernel_rfl, by kernel_rfl⟩⟩
instance : Enters Tryd.prog 94 := ⟨⟨_, Tryd.func94, by kernel_rfl, by kernel_rfl⟩⟩
instance : Enters Tryd.prog 95 := ⟨⟨_, Tryd.func95, by kernel_rfl, by kernel_rfl⟩⟩
instance : Enters Tryd.prog 96 := ⟨⟨_, Tryd.func96, by kernel_rfl, by kernel_rfl⟩⟩
instance : Enters Tryd.prog 97 := ⟨⟨_, Tryd.func97, by kernel_rfl, by kernel_rfl⟩⟩
instance : Enters Tryd.prog 98 := ⟨⟨_, Tryd.func98, by kernel_rfl, by kernel_rfl⟩⟩
instance : Enters Tryd.prog 99 := ⟨⟨_, Tryd.func99, by kernel_rfl, by kernel_rfl⟩⟩
instance : Enters Tryd.prog 100 := ⟨⟨_, Tryd.func100, by kernel_rfl, by kernel_rfl⟩⟩
instance : Enters Tryd.prog 101 := ⟨⟨_, Tryd.func101, by kernel_rfl, by kernel_rfl⟩⟩
instance : Enters Tryd.prog 102 := ⟨⟨_, Tryd.func102, by kernel_rfl, by kernel_rfl⟩⟩
instance : Enters Tryd.prog 103 := ⟨⟨_, Tryd.func103, by kernel_rfl, by kernel_rfl⟩⟩
instance : Enters Tryd.prog 104 := ⟨⟨_, Tryd.func104, by kernel_rfl, by kernel_rfl⟩⟩
instance : Enters Tryd.prog 105 := ⟨⟨_, Tryd.func105, by kernel_rfl, by kernel_rfl⟩⟩
instance : Enters Tryd.prog 106 := ⟨⟨_, Tryd.func106, by kernel_rfl, by kernel_rfl⟩⟩
instance : Enters Tryd.prog 107 := ⟨⟨_, Tryd.func107, by kernel_rfl, by kernel_rfl⟩⟩
instance : Enters Tryd.prog 108 := ⟨⟨_, Tryd.func108, by kernel_rfl, by kernel_rfl⟩⟩
instance : Enters Tryd.prog 109 := ⟨⟨_, Tryd.func109, by kernel_rfl, by kernel_rfl⟩⟩
instance : Enters Tryd.prog 110 := ⟨⟨_, Tryd.func110, by kernel_rfl, by kernel_rfl⟩⟩
instance : Enters Tryd.prog 111 := ⟨⟨_, Tryd.func111, by kernel_rfl, by kernel_rfl⟩⟩
instance : Enters Tryd.prog 112 := ⟨⟨_, Tryd.func112, by kernel_rfl, by kernel_rfl⟩⟩
instance : Enters Tryd.prog 113 := ⟨⟨_, Tryd.func113, by kernel_rfl, by kernel_rfl⟩⟩
instance : Enters Tryd.prog 114 := ⟨⟨_, Tryd.func114, by kernel_rfl, by kernel_rfl⟩⟩
instance : Enters Tryd.prog 115 := ⟨⟨_, Tryd.func115, by kernel_rfl, by kernel_rfl⟩⟩
instance : Enters Tryd.prog 116 := ⟨⟨_, Tryd.func116, by kernel_rfl, by kernel_rfl⟩⟩
instance : Enters Tryd.prog 117 := ⟨⟨_, Tryd.func117, by kernel_rfl, by kernel_rfl⟩⟩
instance : Enters Tryd.prog 118 := ⟨⟨_, Tryd.func118, by kernel_rfl, by kernel_rfl⟩⟩
instance : Enters Tryd.prog 119 := ⟨⟨_, Tryd.func119, by kernel_rfl, by kernel_rfl⟩⟩
instance : Enters Tryd.prog 120 := ⟨⟨_, Tryd.func120, by kernel_rfl, by kernel_rfl⟩⟩
instance : Enters Tryd.prog 121 := ⟨⟨_, Tryd.func121, by kernel_rfl, by kernel_rfl⟩⟩
instance : Enters Tryd.prog 122 := ⟨⟨_, Tryd.func122, by kernel_rfl, by kernel_rfl⟩⟩
instance : Enters Tryd.prog 123 := ⟨⟨_, Tryd.func123, by kernel_rfl, by kernel_rfl⟩⟩
instance : Enters Tryd.prog 124 := ⟨⟨_, Tryd.func124, by kernel_rfl, by kernel_rfl⟩⟩
instance : Enters Tryd.prog 125 := ⟨⟨_, Tryd.func125, by kernel_rfl, by kernel_rfl⟩⟩
instance : Enters Tryd.prog 126 := ⟨⟨_, Tryd.func126, by kernel_rfl, by kernel_rfl⟩⟩
instance : Enters Tryd.prog 127 := ⟨⟨_, Tryd.func127, by kernel_rfl, by kernel_rfl⟩⟩
instance : Enters Tryd.prog 128 := ⟨⟨_, Tryd.func128, by kernel_rfl, by kernel_rfl⟩⟩
instance : Enters Tryd.prog 129 := ⟨⟨_, Tryd.func129, by kernel_rfl, by kernel_rfl⟩⟩
instance : Enters Tryd.prog 130 := ⟨⟨_, Tryd.func130, by kernel_rfl, by kernel_rfl⟩⟩
instance : Enters Tryd.prog 131 := ⟨⟨_, Tryd.func131, by kernel_rfl, by kernel_rfl⟩⟩
instance : Enters Tryd.prog 132 := ⟨⟨_, Tryd.func132, by kernel_rfl, by kernel_rfl⟩⟩
instance : Enters Tryd.prog 133 := ⟨⟨_, Tryd.func133, by kernel_rfl, by kernel_rfl⟩⟩
instance : Enters Tryd.prog 134 := ⟨⟨_, Tryd.func134, by kernel_rfl, by kernel_rfl⟩⟩
instance : Enters Tryd.prog 135 := ⟨⟨_, Tryd.func135, by kernel_rfl, by kernel_rfl⟩⟩
instance : Enters Tryd.prog 136 := ⟨⟨_, Tryd.func136, by kernel_rfl, by kernel_rfl⟩⟩
instance : Enters Tryd.prog 137 := ⟨⟨_, Tryd.func137, by kernel_rfl, by kernel_rfl⟩⟩
instance : Enters Tryd.prog 138 := ⟨⟨_, Tryd.func138, by kernel_rfl, by kernel_rfl⟩⟩
instance : Enters Tryd.prog 139 := ⟨⟨_, Tryd.func139, by kernel_rfl, by kernel_rfl⟩⟩
instance : Enters Tryd.prog 140 := ⟨⟨_, Tryd.func140, by kernel_rfl, by kernel_rfl⟩⟩
instance : Enters Tryd.prog 141 := ⟨⟨_, Tryd.func141, by kernel_rfl, by kernel_rfl⟩⟩
instance : Enters Tryd.prog 142 := ⟨⟨_, Tryd.func142, by kernel_rfl, by kernel_rfl⟩⟩
instance : Enters Tryd.prog 143 := ⟨⟨_, Tryd.func143, by kernel_rfl, by kernel_rfl⟩⟩
instance : Enters Tryd.prog 144 := ⟨⟨_, Tryd.func144, by kernel_rfl, by kernel_rfl⟩⟩
instance : Enters Tryd.prog 145 := ⟨⟨_, Tryd.func145, by kernel_rfl, by kernel_rfl⟩⟩
instance : Enters Tryd.prog 146 := ⟨⟨_, Tryd.func146, by kernel_rfl, by kernel_rfl⟩⟩
instance : Enters Tryd.prog 147 := ⟨⟨_, Tryd.func147, by kernel_rfl, by kernel_rfl⟩⟩
instance : Enters Tryd.prog 148 := ⟨⟨_, Tryd.func148, by kernel_rfl, by kernel_rfl⟩⟩
instance : Enters Tryd.prog 150 := ⟨⟨_, Tryd.func150, by kernel_rfl, by kernel_rfl⟩⟩
instance : Enters Tryd.prog 151 := ⟨⟨_, Tryd.func151, by kernel_rfl, by kernel_rfl⟩⟩
instance : Enters Tryd.prog 152 := ⟨⟨_, Tryd.func152, by kernel_rfl, by kernel_rfl⟩⟩
instance : Enters Tryd.prog 153 := ⟨⟨_, Tryd.func153, by kernel_rfl, by kernel_rfl⟩⟩
instance : Enters Tryd.prog 154 := ⟨⟨_, Tryd.func154, by kernel_rfl, by kernel_rfl⟩⟩
instance : Enters Tryd.prog 155 := ⟨⟨_, Tryd.func155, by kernel_rfl, by kernel_rfl⟩⟩
instance : Enters Tryd.prog 156 := ⟨⟨_, Tryd.func156, by kernel_rfl, by kernel_rfl⟩⟩
instance : Enters Tryd.prog 157 := ⟨⟨_, Tryd.func157, by kernel_rfl, by kernel_rfl⟩⟩
instance : Enters Tryd.prog 158 := ⟨⟨_, Tryd.func158, by kernel_rfl, by kernel_rfl⟩⟩
instance : Enters Tryd.prog 159 := ⟨⟨_, Tryd.func159, by kernel_rfl, by kernel_rfl⟩⟩
instance : Enters Tryd.prog 160 := ⟨⟨_, Tryd.func160, by kernel_rfl, by kernel_rfl⟩⟩
instance : Enters Tryd.prog 161 := ⟨⟨_, Tryd.func161, by kernel_rfl, by kernel_rfl⟩⟩
instance : Enters Tryd.prog 162 := ⟨⟨_, Tryd.func162, by kernel_rfl, by kernel_rfl⟩⟩
instance : Enters Tryd.prog 163 := ⟨⟨_, Tryd.func163, by kernel_rfl, by kernel_rfl⟩⟩
instance : Enters Tryd.prog 164 := ⟨⟨_, Tryd.func164, by kernel_rfl, by kernel_rfl⟩⟩
instance : Enters Tryd.prog 165 := ⟨⟨_, Tryd.func165, by kernel_rfl, by kernel_rfl⟩⟩
instance : Enters Tryd.prog 166 := ⟨⟨_, Tryd.func166, by kernel_rfl, by kernel_rfl⟩⟩
instance : Enters Tryd.prog 167 := ⟨⟨_, Tryd.func167, by kernel_rfl, by kernel_rfl⟩⟩
instance : Enters Tryd.prog 168 := ⟨⟨_, Tryd.func168, by kernel_rfl, by kernel_rfl⟩⟩
instance : Enters Tryd.prog 169 := ⟨⟨_, Tryd.func169, by kernel_rfl, by kernel_rfl⟩⟩
instance : Enters Tryd.prog 170 := ⟨⟨_, Tryd.func170, by kernel_rfl, by kernel_rfl⟩⟩
instance : Enters Tryd.prog 172 := ⟨⟨_, Tryd.func172, by kernel_rfl, by kernel_rfl⟩⟩
instance : Enters Tryd.prog 173 := ⟨⟨_, Tryd.func173, by kernel_rfl, by kernel_rfl⟩⟩
instance : Enters Tryd.prog 174 := ⟨⟨_, Tryd.func174, by kernel_rfl, by kernel_rfl⟩⟩
instance : Enters Tryd.prog 175 := ⟨⟨_, Tryd.func175, by kernel_rfl, by kernel_rfl⟩⟩
instance : Enters Tryd.prog 176 := ⟨⟨_, Tryd.func176, by kernel_rfl, by kernel_rfl⟩⟩
instance : Enters Tryd.prog 177 := ⟨⟨_, Tryd.func177, by kernel_rfl, by kernel_rfl⟩⟩
instance : Enters Tryd.prog 178 := ⟨⟨_, Tryd.func178, by kernel_rfl, by kernel_rfl⟩⟩
instance : Enters Tryd.prog 180 := ⟨⟨_, Tryd.func180, by kernel_rfl, by kernel_rfl⟩⟩
instance : Enters Tryd.prog 181 := ⟨⟨_, Tryd.func181, by kernel_rfl, by kernel_rfl⟩⟩
instance : Enters Tryd.prog 182 := ⟨⟨_, Tryd.func182, by kernel_rfl, by kernel_rfl⟩⟩
instance : Enters Tryd.prog 183 := ⟨⟨_, Tryd.func183, by kernel_rfl, by kernel_rfl⟩⟩
instance : Enters Tryd.prog 184 := ⟨⟨_, Tryd.func184, by kernel_rfl, by kernel_rfl⟩⟩
instance : Enters Tryd.prog 185 := ⟨⟨_, Tryd.func185, by kernel_rfl, by kernel_rfl⟩⟩
instance : Enters Tryd.prog 186 := ⟨⟨_, Tryd.func186, by kernel_rfl, by kernel_rfl⟩⟩
instance : Enters Tryd.prog 187 := ⟨⟨_, Tryd.func187, by kernel_rfl, by kernel_rfl⟩⟩
instance : Enters Tryd.prog 188 := ⟨⟨_, Tryd.func188, by kernel_rfl, by kernel_rfl⟩⟩
instance : Enters Tryd.prog 189 := ⟨⟨_, Tryd.func189, by kernel_rfl, by kernel_rfl⟩⟩
instance : Enters Tryd.prog 192 := ⟨⟨_, Tryd.func192, by kernel_rfl, by kernel_rfl⟩⟩
instance : Enters Tryd.prog 193 := ⟨⟨_, Tryd.func193, by kernel_rfl, by kernel_rfl⟩⟩
instance : Enters Tryd.prog 194 := ⟨⟨_, Tryd.func194, by kernel_rfl, by kernel_rfl⟩⟩
instance : Enters Tryd.prog 195 := ⟨⟨_, Tryd.func195, by kernel_rfl, by kernel_rfl⟩⟩
instance : Enters Tryd.prog 196 := ⟨⟨_, Tryd.func196, by kernel_rfl, by kernel_rfl⟩⟩
instance : Enters Tryd.prog 197 := ⟨⟨_, Tryd.func197, by kernel_rfl, by kernel_rfl⟩⟩
instance : Enters Tryd.prog 198 := ⟨⟨_, Tryd.func198, by kernel_rfl, by kernel_rfl⟩⟩
instance : Enters Tryd.prog 200 := ⟨⟨_, Tryd.func200, by kernel_rfl, by kernel_rfl⟩⟩
instance : Enters Tryd.prog 230 := ⟨⟨_, Tryd.func230, by kernel_rfl, by kernel_rfl⟩⟩
end Go.Proofs.YthbhjladfniboaaDoor
