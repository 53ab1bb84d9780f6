/- The tables of types for the data machine. (Written by wip/dtab.py.). -/
import Derived.Test.YtnjgoldinaffgaaGreatDoorY4
import Derived.Test.YtnjgoldinaffgaaGreatDoorY9
namespace Go.Proofs.YtnjgoldinaffgaaGreatDoor
open Go.RowKit
def zC5 {α:Type}:List (Nat × α)→Nat→Option α
 |[],_=>none
 |(k,v)::r,t=>match Nat.beq k t with
  |true=>some v
  |false=>zC5 r t
def AllT {α:Type} (R:Nat→α→Prop):List (Nat × α)→Prop
 |[]=>True
 |(k,v)::l=>R k v∧AllT R l
theorem AllT.at {α:Type} {R:Nat→α→Prop}:∀ {l:List (Nat × α)} {t:Nat} {x:α},AllT R l→zC5 l t=some x→R t x
 |[],_,_,_,h=>by cases h
 |(k,v)::r,t,x,ha,h=>by
  simp only [zC5] at h
  split at h
  ·rename_i hk
   have hk:=Nat.eq_of_beq_eq_true hk
   cases h
   subst hk
   exact ha.1
  ·exact AllT.at ha.2 h
set_option maxRecDepth 100000
theorem tf0:TFact Tryz.prog 0 (.one):=(inferInstance:TOne Tryz.prog 0)
theorem tf1:TFact Tryz.prog 1 (.one):=(inferInstance:TOne Tryz.prog 1)
theorem tf2:TFact Tryz.prog 2 (.int .i64):=⟨inferInstance,inferInstance⟩
theorem tf3:TFact Tryz.prog 3 (.int .i64):=⟨inferInstance,inferInstance⟩
theorem tf4:TFact Tryz.prog 4 (.bool):=⟨inferInstance,inferInstance⟩
theorem tf5:TFact Tryz.prog 5 (.int .u8):=⟨inferInstance,inferInstance⟩
theorem tf6:TFact Tryz.prog 6 (.int .u8):=⟨inferInstance,inferInstance⟩
theorem tf7:TFact Tryz.prog 7 (.st 4 [(0,1,false),(1,1,false),(2,1,false),(3,1,false)] (some [0,0,2,0])):=⟨inferInstance,fun i off n ag h=>by
  match i,h with
  |0,h=>cases h;infer_instance
  |1,h=>cases h;infer_instance
  |2,h=>cases h;infer_instance
  |3,h=>cases h;infer_instance
  | j+4,h=>simp at h,inferInstance,(fun k h=>by
  cases h;infer_instance),fun h=>by cases h⟩
theorem tf8:TFact Tryz.prog 8 (.st 4 [(0,1,false),(1,1,false),(2,1,false),(3,1,false)] (some [0,0,2,0])):=⟨inferInstance,fun i off n ag h=>by
  match i,h with
  |0,h=>cases h;infer_instance
  |1,h=>cases h;infer_instance
  |2,h=>cases h;infer_instance
  |3,h=>cases h;infer_instance
  | j+4,h=>simp at h,inferInstance,(fun k h=>by
  cases h;infer_instance),fun h=>by cases h⟩
theorem tf9:TFact Tryz.prog 9 (.str):=⟨inferInstance,inferInstance⟩
theorem zQW:TFact Tryz.prog 10 (.str):=⟨inferInstance,inferInstance⟩
theorem zQV:TFact Tryz.prog 11 (.str):=⟨inferInstance,inferInstance⟩
theorem zQU:TFact Tryz.prog 20 (.ifc):=⟨inferInstance,inferInstance⟩
theorem zQT:TFact Tryz.prog 21 (.int .i32):=⟨inferInstance,inferInstance⟩
theorem zQS:TFact Tryz.prog 22 (.sl 51 2 40 [.string ⟨#[]⟩,.slice none 0 0]):=⟨inferInstance,inferInstance,inferInstance,inferInstance,inferInstance⟩
theorem zQR:TFact Tryz.prog 23 (.sl 64 12 192 [.int .i64 0,.string ⟨#[]⟩,.slice none 0 0,.string ⟨#[]⟩,.string ⟨#[]⟩,.int .i64 0,.slice none 0 0,.string ⟨#[]⟩,.slice none 0 0,.int .i64 0,.int .i64 0,.slice none 0 0]):=⟨inferInstance,inferInstance,inferInstance,inferInstance,inferInstance⟩
theorem zQQ:TFact Tryz.prog 25 (.st 3 [(0,1,false),(1,1,false),(2,1,false)] none):=⟨inferInstance,fun i off n ag h=>by
  match i,h with
  |0,h=>cases h;infer_instance
  |1,h=>cases h;infer_instance
  |2,h=>cases h;infer_instance
  | j+3,h=>simp at h,inferInstance,(fun k h=>by
  cases h),fun h=>by cases h⟩
theorem zQP:TFact Tryz.prog 26 (.int .i64):=⟨inferInstance,inferInstance⟩
theorem zQO:TFact Tryz.prog 27 (.one):=(inferInstance:TOne Tryz.prog 27)
theorem zQN:TFact Tryz.prog 32 (.one):=(inferInstance:TOne Tryz.prog 32)
theorem zQM:TFact Tryz.prog 33 (.sl 25 3 64 [.string ⟨#[]⟩,.slice none 0 0,.slice none 0 0]):=⟨inferInstance,inferInstance,inferInstance,inferInstance,inferInstance⟩
theorem zQL:TFact Tryz.prog 36 (.one):=(inferInstance:TOne Tryz.prog 36)
theorem zQK:TFact Tryz.prog 37 (.one):=(inferInstance:TOne Tryz.prog 37)
theorem zQJ:TFact Tryz.prog 39 (.st 1 [(0,1,false)] none):=⟨inferInstance,fun i off n ag h=>by
  match i,h with
  |0,h=>cases h;infer_instance
  | j+1,h=>simp at h,inferInstance,(fun k h=>by
  cases h),fun h=>by cases h⟩
theorem zQI:TFact Tryz.prog 41 (.one):=(inferInstance:TOne Tryz.prog 41)
theorem zQH:TFact Tryz.prog 43 (.one):=(inferInstance:TOne Tryz.prog 43)
theorem zQG:TFact Tryz.prog 45 (.one):=(inferInstance:TOne Tryz.prog 45)
theorem zQF:TFact Tryz.prog 46 (.one):=(inferInstance:TOne Tryz.prog 46)
theorem zQE:TFact Tryz.prog 47 (.one):=(inferInstance:TOne Tryz.prog 47)
theorem zQD:TFact Tryz.prog 48 (.one):=(inferInstance:TOne Tryz.prog 48)
theorem zQC:TFact Tryz.prog 49 (.sl 71 2 32 [.string ⟨#[]⟩,.string ⟨#[]⟩]):=⟨inferInstance,inferInstance,inferInstance,inferInstance,inferInstance⟩
theorem zQB:TFact Tryz.prog 50 (.st 2 [(0,1,false),(1,1,false)] none):=⟨inferInstance,fun i off n ag h=>by
  match i,h with
  |0,h=>cases h;infer_instance
  |1,h=>cases h;infer_instance
  | j+2,h=>simp at h,inferInstance,(fun k h=>by
  cases h),fun h=>by cases h⟩
theorem zQA:TFact Tryz.prog 51 (.st 2 [(0,1,false),(1,1,false)] none):=⟨inferInstance,fun i off n ag h=>by
  match i,h with
  |0,h=>cases h;infer_instance
  |1,h=>cases h;infer_instance
  | j+2,h=>simp at h,inferInstance,(fun k h=>by
  cases h),fun h=>by cases h⟩
theorem zQz:TFact Tryz.prog 52 (.sl 9 1 16 [.string ⟨#[]⟩]):=⟨inferInstance,inferInstance,inferInstance,inferInstance,inferInstance⟩
theorem zQy:TFact Tryz.prog 53 (.one):=(inferInstance:TOne Tryz.prog 53)
theorem zQx:TFact Tryz.prog 54 (.one):=(inferInstance:TOne Tryz.prog 54)
theorem zQw:TFact Tryz.prog 55 (.st 4 [(0,1,false),(1,1,false),(2,1,false),(3,1,false)] (some [0,1,1,1])):=⟨inferInstance,fun i off n ag h=>by
  match i,h with
  |0,h=>cases h;infer_instance
  |1,h=>cases h;infer_instance
  |2,h=>cases h;infer_instance
  |3,h=>cases h;infer_instance
  | j+4,h=>simp at h,inferInstance,(fun k h=>by
  cases h;infer_instance),fun h=>by cases h⟩
theorem zQv:TFact Tryz.prog 56 (.st 4 [(0,1,false),(1,1,false),(2,1,false),(3,1,false)] (some [0,1,1,1])):=⟨inferInstance,fun i off n ag h=>by
  match i,h with
  |0,h=>cases h;infer_instance
  |1,h=>cases h;infer_instance
  |2,h=>cases h;infer_instance
  |3,h=>cases h;infer_instance
  | j+4,h=>simp at h,inferInstance,(fun k h=>by
  cases h;infer_instance),fun h=>by cases h⟩
theorem zQu:TFact Tryz.prog 57 (.st 6 [(0,1,false),(1,1,false),(2,4,true)] (some [0,0,0,1,1,1])):=⟨inferInstance,fun i off n ag h=>by
  match i,h with
  |0,h=>cases h;infer_instance
  |1,h=>cases h;infer_instance
  |2,h=>cases h;infer_instance
  | j+3,h=>simp at h,inferInstance,(fun k h=>by
  cases h;infer_instance),fun h=>by cases h⟩
theorem zQt:TFact Tryz.prog 58 (.st 6 [(0,1,false),(1,1,false),(2,4,true)] (some [0,0,0,1,1,1])):=⟨inferInstance,fun i off n ag h=>by
  match i,h with
  |0,h=>cases h;infer_instance
  |1,h=>cases h;infer_instance
  |2,h=>cases h;infer_instance
  | j+3,h=>simp at h,inferInstance,(fun k h=>by
  cases h;infer_instance),fun h=>by cases h⟩
theorem zQs:TFact Tryz.prog 59 (.sl 58 6 72 [.int .i64 0,.int .i64 0,.int .i64 0,.string ⟨#[]⟩,.string ⟨#[]⟩,.string ⟨#[]⟩]):=⟨inferInstance,inferInstance,inferInstance,inferInstance,inferInstance⟩
theorem zQr:TFact Tryz.prog 60 (.sl 62 6 88 [.int .i64 0,.slice none 0 0,.string ⟨#[]⟩,.slice none 0 0,.int .i64 0,.int .i64 0]):=⟨inferInstance,inferInstance,inferInstance,inferInstance,inferInstance⟩
theorem zQq:TFact Tryz.prog 62 (.st 6 [(0,1,false),(1,1,false),(2,1,false),(3,1,false),(4,1,false),(5,1,false)] none):=⟨inferInstance,fun i off n ag h=>by
  match i,h with
  |0,h=>cases h;infer_instance
  |1,h=>cases h;infer_instance
  |2,h=>cases h;infer_instance
  |3,h=>cases h;infer_instance
  |4,h=>cases h;infer_instance
  |5,h=>cases h;infer_instance
  | j+6,h=>simp at h,inferInstance,(fun k h=>by
  cases h),fun h=>by cases h⟩
theorem zQp:TFact Tryz.prog 64 (.st 12 [(0,1,false),(1,1,false),(2,1,false),(3,1,false),(4,1,false),(5,6,true),(11,1,false)] none):=⟨inferInstance,fun i off n ag h=>by
  match i,h with
  |0,h=>cases h;infer_instance
  |1,h=>cases h;infer_instance
  |2,h=>cases h;infer_instance
  |3,h=>cases h;infer_instance
  |4,h=>cases h;infer_instance
  |5,h=>cases h;infer_instance
  |6,h=>cases h;infer_instance
  | j+7,h=>simp at h,inferInstance,(fun k h=>by
  cases h),fun h=>by cases h⟩
theorem zQo:TFact Tryz.prog 65 (.one):=(inferInstance:TOne Tryz.prog 65)
theorem zQn:TFact Tryz.prog 66 (.st 3 [(0,3,true)] none):=⟨inferInstance,fun i off n ag h=>by
  match i,h with
  |0,h=>cases h;infer_instance
  | j+1,h=>simp at h,inferInstance,(fun k h=>by
  cases h),fun h=>by cases h⟩
theorem zQm:TFact Tryz.prog 67 (.st 3 [(0,3,true)] none):=⟨inferInstance,fun i off n ag h=>by
  match i,h with
  |0,h=>cases h;infer_instance
  | j+1,h=>simp at h,inferInstance,(fun k h=>by
  cases h),fun h=>by cases h⟩
theorem zQl:TFact Tryz.prog 68 (.mp 9 4 .str (.bool false)):=⟨inferInstance,inferInstance,inferInstance⟩
theorem zQk:TFact Tryz.prog 69 (.one):=(inferInstance:TOne Tryz.prog 69)
theorem zQj:TFact Tryz.prog 70 (.one):=(inferInstance:TOne Tryz.prog 70)
theorem zQi:TFact Tryz.prog 71 (.st 2 [] none):=⟨inferInstance,fun i off n ag h=>by simp at h,inferInstance,(fun k h=>by cases h),fun _=>inferInstance⟩
theorem zQh:TFact Tryz.prog 72 (.one):=(inferInstance:TOne Tryz.prog 72)
theorem zQg:TFact Tryz.prog 73 (.one):=(inferInstance:TOne Tryz.prog 73)
theorem zQf:TFact Tryz.prog 74 (.one):=(inferInstance:TOne Tryz.prog 74)
theorem zQe:TFact Tryz.prog 75 (.one):=(inferInstance:TOne Tryz.prog 75)
theorem zQd:TFact Tryz.prog 76 (.one):=(inferInstance:TOne Tryz.prog 76)
theorem zQc:TFact Tryz.prog 77 (.one):=(inferInstance:TOne Tryz.prog 77)
theorem zQb:TFact Tryz.prog 78 (.one):=(inferInstance:TOne Tryz.prog 78)
theorem zQa:TFact Tryz.prog 79 (.one):=(inferInstance:TOne Tryz.prog 79)
theorem zP9:TFact Tryz.prog 80 (.one):=(inferInstance:TOne Tryz.prog 80)
theorem zP8:TFact Tryz.prog 81 (.one):=(inferInstance:TOne Tryz.prog 81)
theorem zP7:TFact Tryz.prog 82 (.st 2 [(0,1,false),(1,1,false)] none):=⟨inferInstance,fun i off n ag h=>by
  match i,h with
  |0,h=>cases h;infer_instance
  |1,h=>cases h;infer_instance
  | j+2,h=>simp at h,inferInstance,(fun k h=>by
  cases h),fun h=>by cases h⟩
theorem zP6:TFact Tryz.prog 83 (.st 2 [(0,1,false),(1,1,false)] none):=⟨inferInstance,fun i off n ag h=>by
  match i,h with
  |0,h=>cases h;infer_instance
  |1,h=>cases h;infer_instance
  | j+2,h=>simp at h,inferInstance,(fun k h=>by
  cases h),fun h=>by cases h⟩
theorem zP5:TFact Tryz.prog 84 (.one):=(inferInstance:TOne Tryz.prog 84)
theorem zP4:TFact Tryz.prog 85 (.one):=(inferInstance:TOne Tryz.prog 85)
theorem zP3:TFact Tryz.prog 86 (.one):=(inferInstance:TOne Tryz.prog 86)
theorem zP2:TFact Tryz.prog 87 (.one):=(inferInstance:TOne Tryz.prog 87)
theorem zP1:TFact Tryz.prog 88 (.one):=(inferInstance:TOne Tryz.prog 88)
theorem zP0:TFact Tryz.prog 89 (.one):=(inferInstance:TOne Tryz.prog 89)
theorem zPZ:TFact Tryz.prog 90 (.one):=(inferInstance:TOne Tryz.prog 90)
theorem zPY:TFact Tryz.prog 92 (.one):=(inferInstance:TOne Tryz.prog 92)
theorem zPX:TFact Tryz.prog 93 (.one):=(inferInstance:TOne Tryz.prog 93)
theorem zPW:TFact Tryz.prog 96 (.one):=(inferInstance:TOne Tryz.prog 96)
theorem zPV:TFact Tryz.prog 97 (.one):=(inferInstance:TOne Tryz.prog 97)
theorem zPU:TFact Tryz.prog 98 (.one):=(inferInstance:TOne Tryz.prog 98)
theorem zPT:TFact Tryz.prog 99 (.one):=(inferInstance:TOne Tryz.prog 99)
theorem zO9:TFact Tryz.prog 100 (.one):=(inferInstance:TOne Tryz.prog 100)
theorem zO8:TFact Tryz.prog 101 (.one):=(inferInstance:TOne Tryz.prog 101)
theorem zO7:TFact Tryz.prog 102 (.one):=(inferInstance:TOne Tryz.prog 102)
theorem zO6:TFact Tryz.prog 103 (.one):=(inferInstance:TOne Tryz.prog 103)
theorem zO5:TFact Tryz.prog 104 (.one):=(inferInstance:TOne Tryz.prog 104)
theorem zO4:TFact Tryz.prog 105 (.mp 9 4 .str (.bool false)):=⟨inferInstance,inferInstance,inferInstance⟩
theorem zO3:TFact Tryz.prog 106 (.one):=(inferInstance:TOne Tryz.prog 106)
theorem zO2:TFact Tryz.prog 107 (.one):=(inferInstance:TOne Tryz.prog 107)
theorem zO1:TFact Tryz.prog 108 (.mp 114 4 (.st [1,0,0]) (.bool false)):=⟨inferInstance,inferInstance,inferInstance⟩
theorem zO0:TFact Tryz.prog 109 (.st 4 [(0,1,false),(1,1,false),(2,1,false),(3,1,false)] none):=⟨inferInstance,fun i off n ag h=>by
  match i,h with
  |0,h=>cases h;infer_instance
  |1,h=>cases h;infer_instance
  |2,h=>cases h;infer_instance
  |3,h=>cases h;infer_instance
  | j+4,h=>simp at h,inferInstance,(fun k h=>by
  cases h),fun h=>by cases h⟩
theorem zOZ:TFact Tryz.prog 110 (.st 4 [(0,1,false),(1,1,false),(2,1,false),(3,1,false)] none):=⟨inferInstance,fun i off n ag h=>by
  match i,h with
  |0,h=>cases h;infer_instance
  |1,h=>cases h;infer_instance
  |2,h=>cases h;infer_instance
  |3,h=>cases h;infer_instance
  | j+4,h=>simp at h,inferInstance,(fun k h=>by
  cases h),fun h=>by cases h⟩
theorem zOY:TFact Tryz.prog 111 (.one):=(inferInstance:TOne Tryz.prog 111)
theorem zOX:TFact Tryz.prog 112 (.one):=(inferInstance:TOne Tryz.prog 112)
theorem zOW:TFact Tryz.prog 113 (.st 3 [(0,1,false),(1,1,false),(2,1,false)] (some [1,0,0])):=⟨inferInstance,fun i off n ag h=>by
  match i,h with
  |0,h=>cases h;infer_instance
  |1,h=>cases h;infer_instance
  |2,h=>cases h;infer_instance
  | j+3,h=>simp at h,inferInstance,(fun k h=>by
  cases h;infer_instance),fun h=>by cases h⟩
theorem zOV:TFact Tryz.prog 114 (.st 3 [(0,1,false),(1,1,false),(2,1,false)] (some [1,0,0])):=⟨inferInstance,fun i off n ag h=>by
  match i,h with
  |0,h=>cases h;infer_instance
  |1,h=>cases h;infer_instance
  |2,h=>cases h;infer_instance
  | j+3,h=>simp at h,inferInstance,(fun k h=>by
  cases h;infer_instance),fun h=>by cases h⟩
theorem zOU:TFact Tryz.prog 115 (.one):=(inferInstance:TOne Tryz.prog 115)
theorem zOT:TFact Tryz.prog 116 (.one):=(inferInstance:TOne Tryz.prog 116)
theorem zOS:TFact Tryz.prog 117 (.one):=(inferInstance:TOne Tryz.prog 117)
theorem zOR:TFact Tryz.prog 118 (.one):=(inferInstance:TOne Tryz.prog 118)
theorem zOQ:TFact Tryz.prog 119 (.one):=(inferInstance:TOne Tryz.prog 119)
theorem zOP:TFact Tryz.prog 120 (.one):=(inferInstance:TOne Tryz.prog 120)
theorem zOO:TFact Tryz.prog 121 (.one):=(inferInstance:TOne Tryz.prog 121)
theorem zON:TFact Tryz.prog 122 (.one):=(inferInstance:TOne Tryz.prog 122)
theorem zOM:TFact Tryz.prog 125 (.int .u64):=⟨inferInstance,inferInstance⟩
theorem zOL:TFact Tryz.prog 127 (.st 4 [(0,1,false),(1,1,false),(2,1,false),(3,1,false)] none):=⟨inferInstance,fun i off n ag h=>by
  match i,h with
  |0,h=>cases h;infer_instance
  |1,h=>cases h;infer_instance
  |2,h=>cases h;infer_instance
  |3,h=>cases h;infer_instance
  | j+4,h=>simp at h,inferInstance,(fun k h=>by
  cases h),fun h=>by cases h⟩
theorem zOK:TFact Tryz.prog 128 (.one):=(inferInstance:TOne Tryz.prog 128)
theorem zOJ:TFact Tryz.prog 134 (.one):=(inferInstance:TOne Tryz.prog 134)
theorem zOI:TFact Tryz.prog 138 (.one):=(inferInstance:TOne Tryz.prog 138)
theorem zOH:TFact Tryz.prog 140 (.one):=(inferInstance:TOne Tryz.prog 140)
theorem zOG:TFact Tryz.prog 145 (.one):=(inferInstance:TOne Tryz.prog 145)
theorem zOF:TFact Tryz.prog 147 (.one):=(inferInstance:TOne Tryz.prog 147)
theorem zOE:TFact Tryz.prog 150 (.sl 3 1 8 [.int .i64 0]):=⟨inferInstance,inferInstance,inferInstance,inferInstance,inferInstance⟩
theorem zOD:TFact Tryz.prog 153 (.int .i64):=⟨inferInstance,inferInstance⟩
theorem zOC:TFact Tryz.prog 154 (.one):=(inferInstance:TOne Tryz.prog 154)
theorem zOB:TFact Tryz.prog 160 (.int .u32):=⟨inferInstance,inferInstance⟩
theorem zOA:TFact Tryz.prog 162 (.int .u64):=⟨inferInstance,inferInstance⟩
theorem zOz:TFact Tryz.prog 166 (.one):=(inferInstance:TOne Tryz.prog 166)
theorem zOy:TFact Tryz.prog 169 (.one):=(inferInstance:TOne Tryz.prog 169)
theorem zOx:TFact Tryz.prog 183 (.ifc):=⟨inferInstance,inferInstance⟩
theorem zOw:TFact Tryz.prog 184 (.one):=(inferInstance:TOne Tryz.prog 184)
theorem zOv:TFact Tryz.prog 191 (.int .u64):=⟨inferInstance,inferInstance⟩
theorem zOu:TFact Tryz.prog 195 (.one):=(inferInstance:TOne Tryz.prog 195)
theorem zOt:TFact Tryz.prog 198 (.one):=(inferInstance:TOne Tryz.prog 198)
theorem zOs:TFact Tryz.prog 203 (.one):=(inferInstance:TOne Tryz.prog 203)
theorem zOr:TFact Tryz.prog 205 (.st 1 [(0,1,false)] (some [0])):=⟨inferInstance,fun i off n ag h=>by
  match i,h with
  |0,h=>cases h;infer_instance
  | j+1,h=>simp at h,inferInstance,(fun k h=>by
  cases h;infer_instance),fun h=>by cases h⟩
theorem zOq:TFact Tryz.prog 217 (.one):=(inferInstance:TOne Tryz.prog 217)
theorem zOp:TFact Tryz.prog 224 (.one):=(inferInstance:TOne Tryz.prog 224)
theorem zOo:TFact Tryz.prog 225 (.one):=(inferInstance:TOne Tryz.prog 225)
theorem zOn:TFact Tryz.prog 229 (.one):=(inferInstance:TOne Tryz.prog 229)
theorem zOm:TFact Tryz.prog 233 (.one):=(inferInstance:TOne Tryz.prog 233)
theorem zOl:TFact Tryz.prog 235 (.int .i64):=⟨inferInstance,inferInstance⟩
theorem zOk:TFact Tryz.prog 236 (.sl 5 1 1 [.int .u8 0]):=⟨inferInstance,inferInstance,inferInstance,inferInstance,inferInstance⟩
theorem zOj:TFact Tryz.prog 237 (.one):=(inferInstance:TOne Tryz.prog 237)
theorem zOi:TFact Tryz.prog 239 (.one):=(inferInstance:TOne Tryz.prog 239)
theorem zOh:TFact Tryz.prog 244 (.one):=(inferInstance:TOne Tryz.prog 244)
theorem zOg:TFact Tryz.prog 249 (.st 2 [(0,1,false),(1,1,false)] (some [0,0])):=⟨inferInstance,fun i off n ag h=>by
  match i,h with
  |0,h=>cases h;infer_instance
  |1,h=>cases h;infer_instance
  | j+2,h=>simp at h,inferInstance,(fun k h=>by
  cases h;infer_instance),fun h=>by cases h⟩
theorem zOf:TFact Tryz.prog 253 (.st 4 [(0,1,false),(1,1,false),(2,1,false),(3,1,false)] (some [2,2,2,2])):=⟨inferInstance,fun i off n ag h=>by
  match i,h with
  |0,h=>cases h;infer_instance
  |1,h=>cases h;infer_instance
  |2,h=>cases h;infer_instance
  |3,h=>cases h;infer_instance
  | j+4,h=>simp at h,inferInstance,(fun k h=>by
  cases h;infer_instance),fun h=>by cases h⟩
theorem zOe:TFact Tryz.prog 258 (.one):=(inferInstance:TOne Tryz.prog 258)
theorem zOd:TFact Tryz.prog 262 (.st 3 [(0,1,false),(1,1,false),(2,1,false)] none):=⟨inferInstance,fun i off n ag h=>by
  match i,h with
  |0,h=>cases h;infer_instance
  |1,h=>cases h;infer_instance
  |2,h=>cases h;infer_instance
  | j+3,h=>simp at h,inferInstance,(fun k h=>by
  cases h),fun h=>by cases h⟩
theorem zOc:TFact Tryz.prog 268 (.one):=(inferInstance:TOne Tryz.prog 268)
theorem zOb:TFact Tryz.prog 269 (.one):=(inferInstance:TOne Tryz.prog 269)
theorem zOa:TFact Tryz.prog 271 (.st 1 [(0,1,false)] (some [1])):=⟨inferInstance,fun i off n ag h=>by
  match i,h with
  |0,h=>cases h;infer_instance
  | j+1,h=>simp at h,inferInstance,(fun k h=>by
  cases h;infer_instance),fun h=>by cases h⟩
def TAB:List (Nat × TI) := [(0,.one),(1,.one),(2,.int .i64),(3,.int .i64),(4,.bool),(5,.int .u8),(6,.int .u8),(7,.st 4 [(0,1,false),(1,1,false),(2,1,false),(3,1,false)] (some [0,0,2,0])),(8,.st 4 [(0,1,false),(1,1,false),(2,1,false),(3,1,false)] (some [0,0,2,0])),(9,.str),(10,.str),(11,.str),(20,.ifc),(21,.int .i32),(22,.sl 51 2 40 [.string ⟨#[]⟩,.slice none 0 0]),(23,.sl 64 12 192 [.int .i64 0,.string ⟨#[]⟩,.slice none 0 0,.string ⟨#[]⟩,.string ⟨#[]⟩,.int .i64 0,.slice none 0 0,.string ⟨#[]⟩,.slice none 0 0,.int .i64 0,.int .i64 0,.slice none 0 0]),(25,.st 3 [(0,1,false),(1,1,false),(2,1,false)] none),(26,.int .i64),(27,.one),(32,.one),(33,.sl 25 3 64 [.string ⟨#[]⟩,.slice none 0 0,.slice none 0 0]),(36,.one),(37,.one),(39,.st 1 [(0,1,false)] none),(41,.one),(43,.one),(45,.one),(46,.one),(47,.one),(48,.one),(49,.sl 71 2 32 [.string ⟨#[]⟩,.string ⟨#[]⟩]),(50,.st 2 [(0,1,false),(1,1,false)] none),(51,.st 2 [(0,1,false),(1,1,false)] none),(52,.sl 9 1 16 [.string ⟨#[]⟩]),(53,.one),(54,.one),(55,.st 4 [(0,1,false),(1,1,false),(2,1,false),(3,1,false)] (some [0,1,1,1])),(56,.st 4 [(0,1,false),(1,1,false),(2,1,false),(3,1,false)] (some [0,1,1,1])),(57,.st 6 [(0,1,false),(1,1,false),(2,4,true)] (some [0,0,0,1,1,1])),(58,.st 6 [(0,1,false),(1,1,false),(2,4,true)] (some [0,0,0,1,1,1])),(59,.sl 58 6 72 [.int .i64 0,.int .i64 0,.int .i64 0,.string ⟨#[]⟩,.string ⟨#[]⟩,.string ⟨#[]⟩]),(60,.sl 62 6 88 [.int .i64 0,.slice none 0 0,.string ⟨#[]⟩,.slice none 0 0,.int .i64 0,.int .i64 0]),(62,.st 6 [(0,1,false),(1,1,false),(2,1,false),(3,1,false),(4,1,false),(5,1,false)] none),(64,.st 12 [(0,1,false),(1,1,false),(2,1,false),(3,1,false),(4,1,false),(5,6,true),(11,1,false)] none),(65,.one),(66,.st 3 [(0,3,true)] none),(67,.st 3 [(0,3,true)] none),(68,.mp 9 4 .str (.bool false)),(69,.one),(70,.one),(71,.st 2 [] none),(72,.one),(73,.one),(74,.one),(75,.one),(76,.one),(77,.one),(78,.one),(79,.one),(80,.one),(81,.one),(82,.st 2 [(0,1,false),(1,1,false)] none),(83,.st 2 [(0,1,false),(1,1,false)] none),(84,.one),(85,.one),(86,.one),(87,.one),(88,.one),(89,.one),(90,.one),(92,.one),(93,.one),(96,.one),(97,.one),(98,.one),(99,.one),(100,.one),(101,.one),(102,.one),(103,.one),(104,.one),(105,.mp 9 4 .str (.bool false)),(106,.one),(107,.one),(108,.mp 114 4 (.st [1,0,0]) (.bool false)),(109,.st 4 [(0,1,false),(1,1,false),(2,1,false),(3,1,false)] none),(110,.st 4 [(0,1,false),(1,1,false),(2,1,false),(3,1,false)] none),(111,.one),(112,.one),(113,.st 3 [(0,1,false),(1,1,false),(2,1,false)] (some [1,0,0])),(114,.st 3 [(0,1,false),(1,1,false),(2,1,false)] (some [1,0,0])),(115,.one),(116,.one),(117,.one),(118,.one),(119,.one),(120,.one),(121,.one),(122,.one),(125,.int .u64),(127,.st 4 [(0,1,false),(1,1,false),(2,1,false),(3,1,false)] none),(128,.one),(134,.one),(138,.one),(140,.one),(145,.one),(147,.one),(150,.sl 3 1 8 [.int .i64 0]),(153,.int .i64),(154,.one),(160,.int .u32),(162,.int .u64),(166,.one),(169,.one),(183,.ifc),(184,.one),(191,.int .u64),(195,.one),(198,.one),(203,.one),(205,.st 1 [(0,1,false)] (some [0])),(217,.one),(224,.one),(225,.one),(229,.one),(233,.one),(235,.int .i64),(236,.sl 5 1 1 [.int .u8 0]),(237,.one),(239,.one),(244,.one),(249,.st 2 [(0,1,false),(1,1,false)] (some [0,0])),(253,.st 4 [(0,1,false),(1,1,false),(2,1,false),(3,1,false)] (some [2,2,2,2])),(258,.one),(262,.st 3 [(0,1,false),(1,1,false),(2,1,false)] none),(268,.one),(269,.one),(271,.st 1 [(0,1,false)] (some [1]))]
def ZAB:List (Nat × List Value) := [(1,[.nilFunc]),(2,[.int .i64 0]),(3,[.int .i64 0]),(4,[.bool false]),(5,[.int .u8 0]),(6,[.int .u8 0]),(7,[.int .i64 0,.int .i64 0,.bool false,.int .u8 0]),(8,[.int .i64 0,.int .i64 0,.bool false,.int .u8 0]),(9,[.string ⟨#[]⟩]),(10,[.string ⟨#[]⟩]),(11,[.string ⟨#[]⟩]),(20,[.nilIface]),(21,[.int .i32 0]),(22,[.slice none 0 0]),(23,[.slice none 0 0]),(25,[.string ⟨#[]⟩,.slice none 0 0,.slice none 0 0]),(26,[.int .i64 0]),(32,[.nilFunc]),(33,[.slice none 0 0]),(37,[.pointer none]),(39,[.slice none 0 0]),(46,[.nilFunc]),(47,[.nilFunc]),(48,[.nilFunc]),(49,[.slice none 0 0]),(50,[.string ⟨#[]⟩,.slice none 0 0]),(51,[.string ⟨#[]⟩,.slice none 0 0]),(52,[.slice none 0 0]),(54,[.nilFunc]),(55,[.int .i64 0,.string ⟨#[]⟩,.string ⟨#[]⟩,.string ⟨#[]⟩]),(56,[.int .i64 0,.string ⟨#[]⟩,.string ⟨#[]⟩,.string ⟨#[]⟩]),(57,[.int .i64 0,.int .i64 0,.int .i64 0,.string ⟨#[]⟩,.string ⟨#[]⟩,.string ⟨#[]⟩]),(58,[.int .i64 0,.int .i64 0,.int .i64 0,.string ⟨#[]⟩,.string ⟨#[]⟩,.string ⟨#[]⟩]),(59,[.slice none 0 0]),(60,[.slice none 0 0]),(62,[.int .i64 0,.slice none 0 0,.string ⟨#[]⟩,.slice none 0 0,.int .i64 0,.int .i64 0]),(64,[.int .i64 0,.string ⟨#[]⟩,.slice none 0 0,.string ⟨#[]⟩,.string ⟨#[]⟩,.int .i64 0,.slice none 0 0,.string ⟨#[]⟩,.slice none 0 0,.int .i64 0,.int .i64 0,.slice none 0 0]),(65,[.pointer none]),(66,[.string ⟨#[]⟩,.slice none 0 0,.slice none 0 0]),(67,[.string ⟨#[]⟩,.slice none 0 0,.slice none 0 0]),(68,[.map none]),(69,[.nilFunc]),(70,[.nilFunc]),(71,[.string ⟨#[]⟩,.string ⟨#[]⟩]),(72,[.nilFunc]),(73,[.nilFunc]),(74,[.nilFunc]),(75,[.nilFunc]),(76,[.nilFunc]),(77,[.nilFunc]),(78,[.nilFunc]),(79,[.nilFunc]),(80,[.nilFunc]),(81,[.pointer none]),(82,[.slice none 0 0,.int .i64 0]),(83,[.slice none 0 0,.int .i64 0]),(84,[.nilFunc]),(85,[.nilFunc]),(87,[.nilFunc]),(88,[.map none]),(90,[.nilFunc]),(92,[.nilFunc]),(93,[.nilFunc]),(97,[.nilFunc]),(99,[.nilFunc]),(100,[.nilFunc]),(102,[.nilFunc]),(103,[.nilFunc]),(104,[.nilFunc]),(105,[.map none]),(106,[.nilFunc]),(107,[.nilFunc]),(108,[.map none]),(109,[.slice none 0 0,.string ⟨#[]⟩,.int .i64 0,.int .i64 0]),(110,[.slice none 0 0,.string ⟨#[]⟩,.int .i64 0,.int .i64 0]),(112,[.nilFunc]),(113,[.string ⟨#[]⟩,.int .i64 0,.int .i64 0]),(114,[.string ⟨#[]⟩,.int .i64 0,.int .i64 0]),(115,[.nilFunc]),(116,[.nilFunc]),(117,[.nilFunc]),(118,[.nilFunc]),(119,[.nilFunc]),(120,[.nilFunc]),(121,[.nilFunc]),(122,[.nilFunc]),(125,[.int .u64 0]),(127,[.slice none 0 0,.string ⟨#[]⟩,.int .i64 0,.int .i64 0]),(150,[.slice none 0 0]),(153,[.int .i64 0]),(160,[.int .u32 0]),(162,[.int .u64 0]),(169,[.pointer none]),(183,[.nilIface]),(191,[.int .u64 0]),(195,[.pointer none]),(203,[.pointer none]),(205,[.int .i64 0]),(217,[.nilFunc]),(224,[.pointer none]),(229,[.nilFunc]),(235,[.int .i64 0]),(236,[.slice none 0 0]),(239,[.pointer none]),(242,[.int .u8 0,.int .u8 0,.int .u8 0,.int .u8 0,.int .u8 0,.int .u8 0,.int .u8 0,.int .u8 0,.int .u8 0,.int .u8 0,.int .u8 0,.int .u8 0,.int .u8 0,.int .u8 0,.int .u8 0,.int .u8 0,.int .u8 0,.int .u8 0,.int .u8 0,.int .u8 0,.int .u8 0,.int .u8 0,.int .u8 0,.int .u8 0]),(249,[.int .u8 0,.int .u8 0]),(250,[.int .u8 0,.int .u8 0,.int .u8 0,.int .u8 0,.int .u8 0,.int .u8 0,.int .u8 0,.int .u8 0,.int .u8 0,.int .u8 0,.int .u8 0,.int .u8 0,.int .u8 0,.int .u8 0,.int .u8 0,.int .u8 0,.int .u8 0,.int .u8 0,.int .u8 0,.int .u8 0,.int .u8 0,.int .u8 0,.int .u8 0,.int .u8 0,.int .u8 0,.int .u8 0,.int .u8 0,.int .u8 0,.int .u8 0,.int .u8 0,.int .u8 0,.int .u8 0]),(253,[.bool false,.bool false,.bool false,.bool false]),(262,[.string ⟨#[]⟩,.string ⟨#[]⟩,.nilIface]),(265,[.int .u64 0,.int .u64 0,.int .u64 0,.int .u64 0,.int .u64 0,.int .u64 0,.int .u64 0,.int .u64 0,.int .u64 0,.int .u64 0,.int .u64 0,.int .u64 0,.int .u64 0,.int .u64 0,.int .u64 0,.int .u64 0,.int .u64 0,.int .u64 0,.int .u64 0,.int .u64 0]),(268,[.pointer none]),(269,[.pointer none]),(271,[.string ⟨#[]⟩]),(272,[.int .u8 0,.int .u8 0,.int .u8 0,.int .u8 0,.int .u8 0,.int .u8 0,.int .u8 0,.int .u8 0,.int .u8 0,.int .u8 0,.int .u8 0,.int .u8 0,.int .u8 0,.int .u8 0,.int .u8 0,.int .u8 0,.int .u8 0,.int .u8 0,.int .u8 0,.int .u8 0,.int .u8 0,.int .u8 0,.int .u8 0,.int .u8 0,.int .u8 0,.int .u8 0,.int .u8 0,.int .u8 0,.int .u8 0,.int .u8 0,.int .u8 0,.int .u8 0]),(273,[.int .u8 0,.int .u8 0,.int .u8 0,.int .u8 0,.int .u8 0,.int .u8 0,.int .u8 0,.int .u8 0,.int .u8 0,.int .u8 0,.int .u8 0,.int .u8 0,.int .u8 0,.int .u8 0,.int .u8 0,.int .u8 0,.int .u8 0,.int .u8 0,.int .u8 0,.int .u8 0,.int .u8 0,.int .u8 0,.int .u8 0,.int .u8 0,.int .u8 0,.int .u8 0,.int .u8 0,.int .u8 0,.int .u8 0,.int .u8 0,.int .u8 0,.int .u8 0,.int .u8 0,.int .u8 0,.int .u8 0,.int .u8 0,.int .u8 0,.int .u8 0,.int .u8 0,.int .u8 0,.int .u8 0,.int .u8 0,.int .u8 0,.int .u8 0,.int .u8 0,.int .u8 0,.int .u8 0,.int .u8 0,.int .u8 0,.int .u8 0,.int .u8 0,.int .u8 0,.int .u8 0,.int .u8 0,.int .u8 0,.int .u8 0,.int .u8 0,.int .u8 0,.int .u8 0,.int .u8 0,.int .u8 0,.int .u8 0,.int .u8 0,.int .u8 0])]
def T:Nat→Option TI:=zC5 TAB
def Z:Nat→Option (List Value):=zC5 ZAB
theorem hT:TOk Tryz.prog T Z:=by
 refine ⟨fun t i h => ?_,fun t z h => ?_⟩
 ·have hall:AllT (TFact Tryz.prog) TAB:=by
   unfold TAB
   exact ⟨tf0,tf1,tf2,tf3,tf4,tf5,tf6,tf7,tf8,tf9,zQW,zQV,zQU,zQT,zQS,zQR,zQQ,zQP,zQO,zQN,zQM,zQL,zQK,zQJ,zQI,zQH,zQG,zQF,zQE,zQD,zQC,zQB,zQA,zQz,zQy,zQx,zQw,zQv,zQu,zQt,zQs,zQr,zQq,zQp,zQo,zQn,zQm,zQl,zQk,zQj,zQi,zQh,zQg,zQf,zQe,zQd,zQc,zQb,zQa,zP9,zP8,zP7,zP6,zP5,zP4,zP3,zP2,zP1,zP0,zPZ,zPY,zPX,zPW,zPV,zPU,zPT,zO9,zO8,zO7,zO6,zO5,zO4,zO3,zO2,zO1,zO0,zOZ,zOY,zOX,zOW,zOV,zOU,zOT,zOS,zOR,zOQ,zOP,zOO,zON,zOM,zOL,zOK,zOJ,zOI,zOH,zOG,zOF,zOE,zOD,zOC,zOB,zOA,zOz,zOy,zOx,zOw,zOv,zOu,zOt,zOs,zOr,zOq,zOp,zOo,zOn,zOm,zOl,zOk,zOj,zOi,zOh,zOg,zOf,zOe,zOd,zOc,zOb,zOa,trivial⟩
  exact hall.at h
 ·have hall:AllT (TZer Tryz.prog) ZAB:=by
   unfold ZAB
   exact ⟨inferInstance,inferInstance,inferInstance,inferInstance,inferInstance,inferInstance,inferInstance,inferInstance,inferInstance,inferInstance,inferInstance,inferInstance,inferInstance,inferInstance,inferInstance,inferInstance,inferInstance,inferInstance,inferInstance,inferInstance,inferInstance,inferInstance,inferInstance,inferInstance,inferInstance,inferInstance,inferInstance,inferInstance,inferInstance,inferInstance,inferInstance,inferInstance,inferInstance,inferInstance,inferInstance,inferInstance,inferInstance,inferInstance,inferInstance,inferInstance,inferInstance,inferInstance,inferInstance,inferInstance,inferInstance,inferInstance,inferInstance,inferInstance,inferInstance,inferInstance,inferInstance,inferInstance,inferInstance,inferInstance,inferInstance,inferInstance,inferInstance,inferInstance,inferInstance,inferInstance,inferInstance,inferInstance,inferInstance,inferInstance,inferInstance,inferInstance,inferInstance,inferInstance,inferInstance,inferInstance,inferInstance,inferInstance,inferInstance,inferInstance,inferInstance,inferInstance,inferInstance,inferInstance,inferInstance,inferInstance,inferInstance,inferInstance,inferInstance,inferInstance,inferInstance,inferInstance,inferInstance,inferInstance,inferInstance,inferInstance,inferInstance,inferInstance,inferInstance,inferInstance,inferInstance,inferInstance,inferInstance,inferInstance,inferInstance,inferInstance,inferInstance,inferInstance,inferInstance,inferInstance,inferInstance,inferInstance,inferInstance,inferInstance,inferInstance,inferInstance,inferInstance,inferInstance,inferInstance,inferInstance,inferInstance,trivial⟩
  exact hall.at h
theorem hM:Tryz.prog.follows .mixedOrders=true:=by kernel_rfl
theorem si {f : Nat} {fn : Go.Func} {c : Go.Code} {args : List D} {d : D} {rs : List Go.ResultVar} (l : List Nat) (hf : Tryz.prog.funcs[f]? = some fn) (hv : aN (args ++ List.replicate (fn.ntmps - args.length) .any) fun fr => vc Tryz.prog T Z (fun t => gF t l) c fr fun e fr' => Ends T e rs fr' d) (hb : fn.body = some c := by exact rfl) (hname : (fn.name == "runtime.NumGoroutine") = false := by kernel_rfl) (hcalm : d.calm = true := by exact rfl) (hargs : (args.all fun d => d.calm || d.passes) = true := by exact rfl) (hnt : Nat.ble args.length fn.ntmps = true := by exact rfl) (hrs : fn.results.toList = rs := by exact rfl) (hnd : decide (rs.map dY).Nodup = true := by exact rfl) : Sem Tryz.prog f args d :=
 zGC hT hM hf ⟨fn,hf,hname,by rw [hb];rfl⟩ hb hcalm hargs hnt hrs hnd hv
theorem sO {f : Nat} {fn : Go.Func} {c : Go.Code} {cs cs' args : List D} {d : D} {rs : List Go.ResultVar} (l : List Nat) (hf : Tryz.prog.funcs[f]? = some fn) (hv : aN (.obj cs :: args ++ List.replicate (fn.ntmps - (args.length + 1)) .any) fun fr => vc Tryz.prog T Z (fun t => gF t l) c fr fun e fr' => EndsO T e rs fr' d (some (.obj cs'))) (hb : fn.body = some c := by exact rfl) (hname : (fn.name == "runtime.NumGoroutine") = false := by kernel_rfl) (hcalm : d.calm = true := by exact rfl) (hc : cs.all D.calm1 = true := by exact rfl) (hc' : cs'.all D.calm1 = true := by exact rfl) (hargs : args.all D.passes = true := by exact rfl) (hnt : Nat.ble (args.length + 1) fn.ntmps = true := by exact rfl) (hrs : fn.results.toList = rs := by exact rfl) (hnd : decide (rs.map dY).Nodup = true := by exact rfl) (hr0 : (rs.all fun r => !Nat.beq (dY r) 0) = true := by exact rfl) : SemO Tryz.prog f (.obj cs) args d (some (.obj cs')) :=
 zEq hT hM hf ⟨fn,hf,hname,by rw [hb];rfl⟩ hb hcalm hc hc' hargs hnt hrs hnd hr0 hv
end Go.Proofs.YtnjgoldinaffgaaGreatDoor
