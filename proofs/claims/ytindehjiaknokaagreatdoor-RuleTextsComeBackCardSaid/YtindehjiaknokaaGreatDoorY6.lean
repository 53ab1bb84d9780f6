/- The tables of types for the data machine. (Written by wip/dtab.py.). -/
import Derived.Test.YtindehjiaknokaaGreatDoorY3
import Derived.Test.YtindehjiaknokaaGreatDoorY5
namespace Go.Proofs.YtindehjiaknokaaGreatDoor
open Go.RowKit
def lookT {α:Type}:List (Nat × α)→Nat→Option α
 |[],_=>none
 |(k,v)::r,t=>match Nat.beq k t with
  |true=>some v
  |false=>lookT r t
def AllT {α:Type} (R:Nat→α→Prop):List (Nat × α)→Prop
 |[]=>True
 |(k,v)::l=>R k v∧AllT R l
theorem AllT.at {α:Type} {R:Nat→α→Prop}:∀ {l:List (Nat × α)} {t:Nat} {x:α},AllT R l→lookT l t=some x→R t x
 |[],_,_,_,h=>by cases h
 |(k,v)::r,t,x,ha,h=>by
  simp only [lookT] at h
  split at h
  ·rename_i hk
   have hk:=Nat.eq_of_beq_eq_true hk
   cases h
   subst hk
   exact ha.1
  ·exact AllT.at ha.2 h
set_option maxRecDepth 100000
theorem tf0:TFact Tryz.prog 0 (.one):=(inferInstance:TOne Tryz.prog 0)
theorem tf1:TFact Tryz.prog 1 (.one):=(inferInstance:TOne Tryz.prog 1)
theorem tf2:TFact Tryz.prog 2 (.int .i64):=⟨inferInstance,inferInstance⟩
theorem tf3:TFact Tryz.prog 3 (.int .i64):=⟨inferInstance,inferInstance⟩
theorem tf4:TFact Tryz.prog 4 (.bool):=⟨inferInstance,inferInstance⟩
theorem tf5:TFact Tryz.prog 5 (.int .u8):=⟨inferInstance,inferInstance⟩
theorem tf6:TFact Tryz.prog 6 (.int .u8):=⟨inferInstance,inferInstance⟩
theorem tf7:TFact Tryz.prog 7 (.st 4 [(0,1,false),(1,1,false),(2,1,false),(3,1,false)] (some [0,0,2,0])):=⟨inferInstance,fun i off n ag h=>by
  match i,h with
  |0,h=>cases h;infer_instance
  |1,h=>cases h;infer_instance
  |2,h=>cases h;infer_instance
  |3,h=>cases h;infer_instance
  |j+4,h=>simp at h,inferInstance,fun k h=>by
  cases h;infer_instance⟩
theorem tf8:TFact Tryz.prog 8 (.st 4 [(0,1,false),(1,1,false),(2,1,false),(3,1,false)] (some [0,0,2,0])):=⟨inferInstance,fun i off n ag h=>by
  match i,h with
  |0,h=>cases h;infer_instance
  |1,h=>cases h;infer_instance
  |2,h=>cases h;infer_instance
  |3,h=>cases h;infer_instance
  |j+4,h=>simp at h,inferInstance,fun k h=>by
  cases h;infer_instance⟩
theorem tf9:TFact Tryz.prog 9 (.str):=⟨inferInstance,inferInstance⟩
theorem tf10:TFact Tryz.prog 10 (.str):=⟨inferInstance,inferInstance⟩
theorem tf11:TFact Tryz.prog 11 (.str):=⟨inferInstance,inferInstance⟩
theorem tf20:TFact Tryz.prog 20 (.ifc):=⟨inferInstance,inferInstance⟩
theorem tf21:TFact Tryz.prog 21 (.int .i32):=⟨inferInstance,inferInstance⟩
theorem tf22:TFact Tryz.prog 22 (.sl 25 6 88 [.int .i64 0,.slice none 0 0,.string ⟨#[]⟩,.slice none 0 0,.int .i64 0,.int .i64 0]):=⟨inferInstance,inferInstance,inferInstance,inferInstance,inferInstance⟩
theorem tf23:TFact Tryz.prog 23 (.sl 9 1 16 [.string ⟨#[]⟩]):=⟨inferInstance,inferInstance,inferInstance,inferInstance,inferInstance⟩
theorem tf25:TFact Tryz.prog 25 (.st 6 [(0,1,false),(1,1,false),(2,1,false),(3,1,false),(4,1,false),(5,1,false)] none):=⟨inferInstance,fun i off n ag h=>by
  match i,h with
  |0,h=>cases h;infer_instance
  |1,h=>cases h;infer_instance
  |2,h=>cases h;infer_instance
  |3,h=>cases h;infer_instance
  |4,h=>cases h;infer_instance
  |5,h=>cases h;infer_instance
  |j+6,h=>simp at h,inferInstance,fun k h=>by
  cases h⟩
theorem tf26:TFact Tryz.prog 26 (.int .i64):=⟨inferInstance,inferInstance⟩
theorem tf27:TFact Tryz.prog 27 (.one):=(inferInstance:TOne Tryz.prog 27)
theorem tf32:TFact Tryz.prog 32 (.one):=(inferInstance:TOne Tryz.prog 32)
theorem tf34:TFact Tryz.prog 34 (.one):=(inferInstance:TOne Tryz.prog 34)
theorem tf36:TFact Tryz.prog 36 (.one):=(inferInstance:TOne Tryz.prog 36)
theorem tf38:TFact Tryz.prog 38 (.one):=(inferInstance:TOne Tryz.prog 38)
theorem tf40:TFact Tryz.prog 40 (.st 1 [(0,1,false)] (some [0])):=⟨inferInstance,fun i off n ag h=>by
  match i,h with
  |0,h=>cases h;infer_instance
  |j+1,h=>simp at h,inferInstance,fun k h=>by
  cases h;infer_instance⟩
theorem tf41:TFact Tryz.prog 41 (.one):=(inferInstance:TOne Tryz.prog 41)
theorem tf44:TFact Tryz.prog 44 (.one):=(inferInstance:TOne Tryz.prog 44)
theorem tf45:TFact Tryz.prog 45 (.st 3 [(0,1,false),(1,1,false),(2,1,false)] (some [1,0,2])):=⟨inferInstance,fun i off n ag h=>by
  match i,h with
  |0,h=>cases h;infer_instance
  |1,h=>cases h;infer_instance
  |2,h=>cases h;infer_instance
  |j+3,h=>simp at h,inferInstance,fun k h=>by
  cases h;infer_instance⟩
theorem tf46:TFact Tryz.prog 46 (.st 3 [(0,1,false),(1,1,false),(2,1,false)] (some [1,0,2])):=⟨inferInstance,fun i off n ag h=>by
  match i,h with
  |0,h=>cases h;infer_instance
  |1,h=>cases h;infer_instance
  |2,h=>cases h;infer_instance
  |j+3,h=>simp at h,inferInstance,fun k h=>by
  cases h;infer_instance⟩
theorem tf47:TFact Tryz.prog 47 (.one):=(inferInstance:TOne Tryz.prog 47)
theorem tf48:TFact Tryz.prog 48 (.one):=(inferInstance:TOne Tryz.prog 48)
theorem tf49:TFact Tryz.prog 49 (.st 3 [(0,1,false),(1,1,false),(2,1,false)] (some [1,0,0])):=⟨inferInstance,fun i off n ag h=>by
  match i,h with
  |0,h=>cases h;infer_instance
  |1,h=>cases h;infer_instance
  |2,h=>cases h;infer_instance
  |j+3,h=>simp at h,inferInstance,fun k h=>by
  cases h;infer_instance⟩
theorem tf50:TFact Tryz.prog 50 (.st 3 [(0,1,false),(1,1,false),(2,1,false)] (some [1,0,0])):=⟨inferInstance,fun i off n ag h=>by
  match i,h with
  |0,h=>cases h;infer_instance
  |1,h=>cases h;infer_instance
  |2,h=>cases h;infer_instance
  |j+3,h=>simp at h,inferInstance,fun k h=>by
  cases h;infer_instance⟩
theorem tf51:TFact Tryz.prog 51 (.one):=(inferInstance:TOne Tryz.prog 51)
theorem tf52:TFact Tryz.prog 52 (.one):=(inferInstance:TOne Tryz.prog 52)
theorem tf53:TFact Tryz.prog 53 (.one):=(inferInstance:TOne Tryz.prog 53)
theorem tf54:TFact Tryz.prog 54 (.one):=(inferInstance:TOne Tryz.prog 54)
theorem tf55:TFact Tryz.prog 55 (.one):=(inferInstance:TOne Tryz.prog 55)
theorem tf56:TFact Tryz.prog 56 (.one):=(inferInstance:TOne Tryz.prog 56)
theorem tf57:TFact Tryz.prog 57 (.one):=(inferInstance:TOne Tryz.prog 57)
theorem tf58:TFact Tryz.prog 58 (.one):=(inferInstance:TOne Tryz.prog 58)
theorem tf59:TFact Tryz.prog 59 (.one):=(inferInstance:TOne Tryz.prog 59)
theorem tf63:TFact Tryz.prog 63 (.one):=(inferInstance:TOne Tryz.prog 63)
theorem tf65:TFact Tryz.prog 65 (.one):=(inferInstance:TOne Tryz.prog 65)
theorem tf66:TFact Tryz.prog 66 (.sl 5 1 1 [.int .u8 0]):=⟨inferInstance,inferInstance,inferInstance,inferInstance,inferInstance⟩
theorem tf67:TFact Tryz.prog 67 (.st 2 [(0,1,false),(1,1,false)] none):=⟨inferInstance,fun i off n ag h=>by
  match i,h with
  |0,h=>cases h;infer_instance
  |1,h=>cases h;infer_instance
  |j+2,h=>simp at h,inferInstance,fun k h=>by
  cases h⟩
theorem tf68:TFact Tryz.prog 68 (.st 2 [(0,1,false),(1,1,false)] none):=⟨inferInstance,fun i off n ag h=>by
  match i,h with
  |0,h=>cases h;infer_instance
  |1,h=>cases h;infer_instance
  |j+2,h=>simp at h,inferInstance,fun k h=>by
  cases h⟩
theorem tf69:TFact Tryz.prog 69 (.one):=(inferInstance:TOne Tryz.prog 69)
theorem tf70:TFact Tryz.prog 70 (.ifc):=⟨inferInstance,inferInstance⟩
theorem tf71:TFact Tryz.prog 71 (.ifc):=⟨inferInstance,inferInstance⟩
theorem tf72:TFact Tryz.prog 72 (.one):=(inferInstance:TOne Tryz.prog 72)
theorem tf73:TFact Tryz.prog 73 (.one):=(inferInstance:TOne Tryz.prog 73)
theorem tf74:TFact Tryz.prog 74 (.one):=(inferInstance:TOne Tryz.prog 74)
theorem tf75:TFact Tryz.prog 75 (.st 4 [(0,1,false),(1,1,false),(2,1,false),(3,1,false)] (some [2,2,2,2])):=⟨inferInstance,fun i off n ag h=>by
  match i,h with
  |0,h=>cases h;infer_instance
  |1,h=>cases h;infer_instance
  |2,h=>cases h;infer_instance
  |3,h=>cases h;infer_instance
  |j+4,h=>simp at h,inferInstance,fun k h=>by
  cases h;infer_instance⟩
theorem tf76:TFact Tryz.prog 76 (.st 4 [(0,1,false),(1,1,false),(2,1,false),(3,1,false)] (some [2,2,2,2])):=⟨inferInstance,fun i off n ag h=>by
  match i,h with
  |0,h=>cases h;infer_instance
  |1,h=>cases h;infer_instance
  |2,h=>cases h;infer_instance
  |3,h=>cases h;infer_instance
  |j+4,h=>simp at h,inferInstance,fun k h=>by
  cases h;infer_instance⟩
theorem tf77:TFact Tryz.prog 77 (.one):=(inferInstance:TOne Tryz.prog 77)
theorem tf78:TFact Tryz.prog 78 (.one):=(inferInstance:TOne Tryz.prog 78)
theorem tf79:TFact Tryz.prog 79 (.one):=(inferInstance:TOne Tryz.prog 79)
theorem tf80:TFact Tryz.prog 80 (.one):=(inferInstance:TOne Tryz.prog 80)
theorem tf81:TFact Tryz.prog 81 (.one):=(inferInstance:TOne Tryz.prog 81)
theorem tf82:TFact Tryz.prog 82 (.one):=(inferInstance:TOne Tryz.prog 82)
theorem tf83:TFact Tryz.prog 83 (.one):=(inferInstance:TOne Tryz.prog 83)
theorem tf84:TFact Tryz.prog 84 (.one):=(inferInstance:TOne Tryz.prog 84)
theorem tf85:TFact Tryz.prog 85 (.one):=(inferInstance:TOne Tryz.prog 85)
theorem tf86:TFact Tryz.prog 86 (.one):=(inferInstance:TOne Tryz.prog 86)
theorem tf90:TFact Tryz.prog 90 (.int .u32):=⟨inferInstance,inferInstance⟩
theorem tf94:TFact Tryz.prog 94 (.st 2 [(0,1,false),(1,1,false)] (some [0,0])):=⟨inferInstance,fun i off n ag h=>by
  match i,h with
  |0,h=>cases h;infer_instance
  |1,h=>cases h;infer_instance
  |j+2,h=>simp at h,inferInstance,fun k h=>by
  cases h;infer_instance⟩
theorem tf99:TFact Tryz.prog 99 (.ifc):=⟨inferInstance,inferInstance⟩
theorem tf100:TFact Tryz.prog 100 (.ifc):=⟨inferInstance,inferInstance⟩
theorem tf101:TFact Tryz.prog 101 (.st 5 [(0,3,true),(3,1,false),(4,1,false)] none):=⟨inferInstance,fun i off n ag h=>by
  match i,h with
  |0,h=>cases h;infer_instance
  |1,h=>cases h;infer_instance
  |2,h=>cases h;infer_instance
  |j+3,h=>simp at h,inferInstance,fun k h=>by
  cases h⟩
theorem tf102:TFact Tryz.prog 102 (.st 5 [(0,3,true),(3,1,false),(4,1,false)] none):=⟨inferInstance,fun i off n ag h=>by
  match i,h with
  |0,h=>cases h;infer_instance
  |1,h=>cases h;infer_instance
  |2,h=>cases h;infer_instance
  |j+3,h=>simp at h,inferInstance,fun k h=>by
  cases h⟩
theorem tf103:TFact Tryz.prog 103 (.one):=(inferInstance:TOne Tryz.prog 103)
theorem tf104:TFact Tryz.prog 104 (.one):=(inferInstance:TOne Tryz.prog 104)
theorem tf105:TFact Tryz.prog 105 (.one):=(inferInstance:TOne Tryz.prog 105)
theorem tf106:TFact Tryz.prog 106 (.st 4 [(0,1,false),(1,1,false),(2,1,false),(3,1,false)] none):=⟨inferInstance,fun i off n ag h=>by
  match i,h with
  |0,h=>cases h;infer_instance
  |1,h=>cases h;infer_instance
  |2,h=>cases h;infer_instance
  |3,h=>cases h;infer_instance
  |j+4,h=>simp at h,inferInstance,fun k h=>by
  cases h⟩
theorem tf107:TFact Tryz.prog 107 (.st 4 [(0,1,false),(1,1,false),(2,1,false),(3,1,false)] none):=⟨inferInstance,fun i off n ag h=>by
  match i,h with
  |0,h=>cases h;infer_instance
  |1,h=>cases h;infer_instance
  |2,h=>cases h;infer_instance
  |3,h=>cases h;infer_instance
  |j+4,h=>simp at h,inferInstance,fun k h=>by
  cases h⟩
theorem tf108:TFact Tryz.prog 108 (.one):=(inferInstance:TOne Tryz.prog 108)
theorem tf109:TFact Tryz.prog 109 (.one):=(inferInstance:TOne Tryz.prog 109)
theorem tf110:TFact Tryz.prog 110 (.one):=(inferInstance:TOne Tryz.prog 110)
theorem tf111:TFact Tryz.prog 111 (.st 4 [(0,1,false),(1,1,false),(2,1,false),(3,1,false)] none):=⟨inferInstance,fun i off n ag h=>by
  match i,h with
  |0,h=>cases h;infer_instance
  |1,h=>cases h;infer_instance
  |2,h=>cases h;infer_instance
  |3,h=>cases h;infer_instance
  |j+4,h=>simp at h,inferInstance,fun k h=>by
  cases h⟩
theorem tf112:TFact Tryz.prog 112 (.one):=(inferInstance:TOne Tryz.prog 112)
theorem tf113:TFact Tryz.prog 113 (.one):=(inferInstance:TOne Tryz.prog 113)
theorem tf114:TFact Tryz.prog 114 (.one):=(inferInstance:TOne Tryz.prog 114)
theorem tf115:TFact Tryz.prog 115 (.one):=(inferInstance:TOne Tryz.prog 115)
theorem tf116:TFact Tryz.prog 116 (.one):=(inferInstance:TOne Tryz.prog 116)
theorem tf117:TFact Tryz.prog 117 (.one):=(inferInstance:TOne Tryz.prog 117)
theorem tf118:TFact Tryz.prog 118 (.one):=(inferInstance:TOne Tryz.prog 118)
theorem tf119:TFact Tryz.prog 119 (.one):=(inferInstance:TOne Tryz.prog 119)
theorem tf120:TFact Tryz.prog 120 (.one):=(inferInstance:TOne Tryz.prog 120)
theorem tf121:TFact Tryz.prog 121 (.one):=(inferInstance:TOne Tryz.prog 121)
theorem tf122:TFact Tryz.prog 122 (.one):=(inferInstance:TOne Tryz.prog 122)
theorem tf124:TFact Tryz.prog 124 (.one):=(inferInstance:TOne Tryz.prog 124)
theorem tf126:TFact Tryz.prog 126 (.sl 3 1 8 [.int .i64 0]):=⟨inferInstance,inferInstance,inferInstance,inferInstance,inferInstance⟩
theorem tf131:TFact Tryz.prog 131 (.int .u64):=⟨inferInstance,inferInstance⟩
theorem tf134:TFact Tryz.prog 134 (.int .u64):=⟨inferInstance,inferInstance⟩
theorem tf137:TFact Tryz.prog 137 (.one):=(inferInstance:TOne Tryz.prog 137)
theorem tf139:TFact Tryz.prog 139 (.one):=(inferInstance:TOne Tryz.prog 139)
theorem tf141:TFact Tryz.prog 141 (.one):=(inferInstance:TOne Tryz.prog 141)
theorem tf143:TFact Tryz.prog 143 (.one):=(inferInstance:TOne Tryz.prog 143)
theorem tf145:TFact Tryz.prog 145 (.one):=(inferInstance:TOne Tryz.prog 145)
theorem tf149:TFact Tryz.prog 149 (.one):=(inferInstance:TOne Tryz.prog 149)
theorem tf152:TFact Tryz.prog 152 (.st 257 [(0,256,true),(256,1,false)] none):=⟨inferInstance,fun i off n ag h=>by
  match i,h with
  |0,h=>cases h;infer_instance
  |1,h=>cases h;infer_instance
  |j+2,h=>simp at h,inferInstance,fun k h=>by
  cases h⟩
theorem tf153:TFact Tryz.prog 153 (.one):=(inferInstance:TOne Tryz.prog 153)
theorem tf157:TFact Tryz.prog 157 (.int .i64):=⟨inferInstance,inferInstance⟩
theorem tf158:TFact Tryz.prog 158 (.one):=(inferInstance:TOne Tryz.prog 158)
theorem tf160:TFact Tryz.prog 160 (.one):=(inferInstance:TOne Tryz.prog 160)
theorem tf167:TFact Tryz.prog 167 (.one):=(inferInstance:TOne Tryz.prog 167)
theorem tf184:TFact Tryz.prog 184 (.one):=(inferInstance:TOne Tryz.prog 184)
theorem tf187:TFact Tryz.prog 187 (.one):=(inferInstance:TOne Tryz.prog 187)
theorem tf189:TFact Tryz.prog 189 (.one):=(inferInstance:TOne Tryz.prog 189)
theorem tf191:TFact Tryz.prog 191 (.one):=(inferInstance:TOne Tryz.prog 191)
theorem tf194:TFact Tryz.prog 194 (.st 3 [(0,1,false),(1,1,false),(2,1,false)] none):=⟨inferInstance,fun i off n ag h=>by
  match i,h with
  |0,h=>cases h;infer_instance
  |1,h=>cases h;infer_instance
  |2,h=>cases h;infer_instance
  |j+3,h=>simp at h,inferInstance,fun k h=>by
  cases h⟩
theorem tf196:TFact Tryz.prog 196 (.one):=(inferInstance:TOne Tryz.prog 196)
theorem tf199:TFact Tryz.prog 199 (.one):=(inferInstance:TOne Tryz.prog 199)
theorem tf201:TFact Tryz.prog 201 (.one):=(inferInstance:TOne Tryz.prog 201)
theorem tf210:TFact Tryz.prog 210 (.one):=(inferInstance:TOne Tryz.prog 210)
theorem tf212:TFact Tryz.prog 212 (.st 1 [(0,1,false)] (some [1])):=⟨inferInstance,fun i off n ag h=>by
  match i,h with
  |0,h=>cases h;infer_instance
  |j+1,h=>simp at h,inferInstance,fun k h=>by
  cases h;infer_instance⟩
theorem tf218:TFact Tryz.prog 218 (.st 2 [(0,1,false),(1,1,false)] (some [0,0])):=⟨inferInstance,fun i off n ag h=>by
  match i,h with
  |0,h=>cases h;infer_instance
  |1,h=>cases h;infer_instance
  |j+2,h=>simp at h,inferInstance,fun k h=>by
  cases h;infer_instance⟩
def TAB:List (Nat × TI) := [(0,.one),(1,.one),(2,.int .i64),(3,.int .i64),(4,.bool),(5,.int .u8),(6,.int .u8),(7,.st 4 [(0,1,false),(1,1,false),(2,1,false),(3,1,false)] (some [0,0,2,0])),(8,.st 4 [(0,1,false),(1,1,false),(2,1,false),(3,1,false)] (some [0,0,2,0])),(9,.str),(10,.str),(11,.str),(20,.ifc),(21,.int .i32),(22,.sl 25 6 88 [.int .i64 0,.slice none 0 0,.string ⟨#[]⟩,.slice none 0 0,.int .i64 0,.int .i64 0]),(23,.sl 9 1 16 [.string ⟨#[]⟩]),(25,.st 6 [(0,1,false),(1,1,false),(2,1,false),(3,1,false),(4,1,false),(5,1,false)] none),(26,.int .i64),(27,.one),(32,.one),(34,.one),(36,.one),(38,.one),(40,.st 1 [(0,1,false)] (some [0])),(41,.one),(44,.one),(45,.st 3 [(0,1,false),(1,1,false),(2,1,false)] (some [1,0,2])),(46,.st 3 [(0,1,false),(1,1,false),(2,1,false)] (some [1,0,2])),(47,.one),(48,.one),(49,.st 3 [(0,1,false),(1,1,false),(2,1,false)] (some [1,0,0])),(50,.st 3 [(0,1,false),(1,1,false),(2,1,false)] (some [1,0,0])),(51,.one),(52,.one),(53,.one),(54,.one),(55,.one),(56,.one),(57,.one),(58,.one),(59,.one),(63,.one),(65,.one),(66,.sl 5 1 1 [.int .u8 0]),(67,.st 2 [(0,1,false),(1,1,false)] none),(68,.st 2 [(0,1,false),(1,1,false)] none),(69,.one),(70,.ifc),(71,.ifc),(72,.one),(73,.one),(74,.one),(75,.st 4 [(0,1,false),(1,1,false),(2,1,false),(3,1,false)] (some [2,2,2,2])),(76,.st 4 [(0,1,false),(1,1,false),(2,1,false),(3,1,false)] (some [2,2,2,2])),(77,.one),(78,.one),(79,.one),(80,.one),(81,.one),(82,.one),(83,.one),(84,.one),(85,.one),(86,.one),(90,.int .u32),(94,.st 2 [(0,1,false),(1,1,false)] (some [0,0])),(99,.ifc),(100,.ifc),(101,.st 5 [(0,3,true),(3,1,false),(4,1,false)] none),(102,.st 5 [(0,3,true),(3,1,false),(4,1,false)] none),(103,.one),(104,.one),(105,.one),(106,.st 4 [(0,1,false),(1,1,false),(2,1,false),(3,1,false)] none),(107,.st 4 [(0,1,false),(1,1,false),(2,1,false),(3,1,false)] none),(108,.one),(109,.one),(110,.one),(111,.st 4 [(0,1,false),(1,1,false),(2,1,false),(3,1,false)] none),(112,.one),(113,.one),(114,.one),(115,.one),(116,.one),(117,.one),(118,.one),(119,.one),(120,.one),(121,.one),(122,.one),(124,.one),(126,.sl 3 1 8 [.int .i64 0]),(131,.int .u64),(134,.int .u64),(137,.one),(139,.one),(141,.one),(143,.one),(145,.one),(149,.one),(152,.st 257 [(0,256,true),(256,1,false)] none),(153,.one),(157,.int .i64),(158,.one),(160,.one),(167,.one),(184,.one),(187,.one),(189,.one),(191,.one),(194,.st 3 [(0,1,false),(1,1,false),(2,1,false)] none),(196,.one),(199,.one),(201,.one),(210,.one),(212,.st 1 [(0,1,false)] (some [1])),(218,.st 2 [(0,1,false),(1,1,false)] (some [0,0]))]
def ZAB:List (Nat × List Value) := [(1,[.nilFunc]),(2,[.int .i64 0]),(3,[.int .i64 0]),(4,[.bool false]),(5,[.int .u8 0]),(6,[.int .u8 0]),(7,[.int .i64 0,.int .i64 0,.bool false,.int .u8 0]),(8,[.int .i64 0,.int .i64 0,.bool false,.int .u8 0]),(9,[.string ⟨#[]⟩]),(10,[.string ⟨#[]⟩]),(11,[.string ⟨#[]⟩]),(20,[.nilIface]),(21,[.int .i32 0]),(22,[.slice none 0 0]),(23,[.slice none 0 0]),(25,[.int .i64 0,.slice none 0 0,.string ⟨#[]⟩,.slice none 0 0,.int .i64 0,.int .i64 0]),(26,[.int .i64 0]),(34,[.nilFunc]),(36,[.nilFunc]),(38,[.pointer none]),(40,[.int .i64 0]),(41,[.nilFunc]),(44,[.pointer none]),(45,[.string ⟨#[]⟩,.int .i64 0,.bool false]),(46,[.string ⟨#[]⟩,.int .i64 0,.bool false]),(47,[.nilFunc]),(48,[.pointer none]),(49,[.string ⟨#[]⟩,.int .i64 0,.int .i64 0]),(50,[.string ⟨#[]⟩,.int .i64 0,.int .i64 0]),(51,[.nilFunc]),(52,[.nilFunc]),(53,[.nilFunc]),(54,[.nilFunc]),(55,[.nilFunc]),(56,[.nilFunc]),(57,[.nilFunc]),(58,[.nilFunc]),(59,[.pointer none]),(63,[.pointer none]),(65,[.pointer none]),(66,[.slice none 0 0]),(67,[.pointer none,.slice none 0 0]),(68,[.pointer none,.slice none 0 0]),(69,[.nilFunc]),(70,[.nilIface]),(71,[.nilIface]),(73,[.nilFunc]),(74,[.nilFunc]),(75,[.bool false,.bool false,.bool false,.bool false]),(76,[.bool false,.bool false,.bool false,.bool false]),(77,[.nilFunc]),(78,[.nilFunc]),(79,[.nilFunc]),(80,[.nilFunc]),(82,[.nilFunc]),(83,[.nilFunc]),(84,[.nilFunc]),(85,[.nilFunc]),(86,[.nilFunc]),(90,[.int .u32 0]),(92,[.int .u32 0]),(94,[.int .i32 0,.int .u32 0]),(96,[.int .i32 0,.int .u32 0]),(97,[.int .u32 0,.int .i32 0,.int .u32 0]),(98,[.int .u32 0,.int .i32 0,.int .u32 0]),(99,[.nilIface]),(100,[.nilIface]),(101,[.int .u32 0,.int .i32 0,.int .u32 0,.nilIface,.slice none 0 0]),(102,[.int .u32 0,.int .i32 0,.int .u32 0,.nilIface,.slice none 0 0]),(103,[.pointer none]),(105,[.nilFunc]),(106,[.slice none 0 0,.string ⟨#[]⟩,.int .i64 0,.int .i64 0]),(107,[.slice none 0 0,.string ⟨#[]⟩,.int .i64 0,.int .i64 0]),(109,[.nilFunc]),(110,[.nilFunc]),(111,[.slice none 0 0,.string ⟨#[]⟩,.int .i64 0,.int .i64 0]),(113,[.nilFunc]),(114,[.nilFunc]),(115,[.nilFunc]),(116,[.nilFunc]),(117,[.pointer none]),(118,[.nilFunc]),(120,[.nilFunc]),(121,[.nilFunc]),(122,[.nilFunc]),(126,[.slice none 0 0]),(131,[.int .u64 0]),(134,[.int .u64 0]),(139,[.pointer none]),(141,[.pointer none]),(143,[.pointer none]),(145,[.pointer none]),(149,[.pointer none]),(153,[.pointer none]),(157,[.int .i64 0]),(160,[.pointer none]),(167,[.pointer none]),(187,[.pointer none]),(194,[.string ⟨#[]⟩,.string ⟨#[]⟩,.nilIface]),(199,[.pointer none]),(201,[.pointer none]),(210,[.pointer none]),(212,[.string ⟨#[]⟩]),(218,[.int .u8 0,.int .u8 0])]
def T:Nat→Option TI:=lookT TAB
def Z:Nat→Option (List Value):=lookT ZAB
theorem hT:TOk Tryz.prog T Z:=by
 refine ⟨fun t i h => ?_,fun t z h => ?_⟩
 ·have hall:AllT (TFact Tryz.prog) TAB:=by
   unfold TAB
   exact ⟨tf0,tf1,tf2,tf3,tf4,tf5,tf6,tf7,tf8,tf9,tf10,tf11,tf20,tf21,tf22,tf23,tf25,tf26,tf27,tf32,tf34,tf36,tf38,tf40,tf41,tf44,tf45,tf46,tf47,tf48,tf49,tf50,tf51,tf52,tf53,tf54,tf55,tf56,tf57,tf58,tf59,tf63,tf65,tf66,tf67,tf68,tf69,tf70,tf71,tf72,tf73,tf74,tf75,tf76,tf77,tf78,tf79,tf80,tf81,tf82,tf83,tf84,tf85,tf86,tf90,tf94,tf99,tf100,tf101,tf102,tf103,tf104,tf105,tf106,tf107,tf108,tf109,tf110,tf111,tf112,tf113,tf114,tf115,tf116,tf117,tf118,tf119,tf120,tf121,tf122,tf124,tf126,tf131,tf134,tf137,tf139,tf141,tf143,tf145,tf149,tf152,tf153,tf157,tf158,tf160,tf167,tf184,tf187,tf189,tf191,tf194,tf196,tf199,tf201,tf210,tf212,tf218,trivial⟩
  exact hall.at h
 ·have hall:AllT (TZer Tryz.prog) ZAB:=by
   unfold ZAB
   exact ⟨inferInstance,inferInstance,inferInstance,inferInstance,inferInstance,inferInstance,inferInstance,inferInstance,inferInstance,inferInstance,inferInstance,inferInstance,inferInstance,inferInstance,inferInstance,inferInstance,inferInstance,inferInstance,inferInstance,inferInstance,inferInstance,inferInstance,inferInstance,inferInstance,inferInstance,inferInstance,inferInstance,inferInstance,inferInstance,inferInstance,inferInstance,inferInstance,inferInstance,inferInstance,inferInstance,inferInstance,inferInstance,inferInstance,inferInstance,inferInstance,inferInstance,inferInstance,inferInstance,inferInstance,inferInstance,inferInstance,inferInstance,inferInstance,inferInstance,inferInstance,inferInstance,inferInstance,inferInstance,inferInstance,inferInstance,inferInstance,inferInstance,inferInstance,inferInstance,inferInstance,inferInstance,inferInstance,inferInstance,inferInstance,inferInstance,inferInstance,inferInstance,inferInstance,inferInstance,inferInstance,inferInstance,inferInstance,inferInstance,inferInstance,inferInstance,inferInstance,inferInstance,inferInstance,inferInstance,inferInstance,inferInstance,inferInstance,inferInstance,inferInstance,inferInstance,inferInstance,inferInstance,inferInstance,inferInstance,inferInstance,inferInstance,inferInstance,inferInstance,inferInstance,inferInstance,inferInstance,inferInstance,inferInstance,inferInstance,inferInstance,inferInstance,inferInstance,inferInstance,inferInstance,trivial⟩
  exact hall.at h
theorem hM:Tryz.prog.follows .mixedOrders=true:=by kernel_rfl
theorem si {f : Nat} {fn : Go.Func} {c : Go.Code} {args : List D} {d : D} {rs : List Go.ResultVar} (l : List Nat) (hf : Tryz.prog.funcs[f]? = some fn) (hv : forceL (args ++ List.replicate (fn.ntmps - args.length) .any) fun fr => vc Tryz.prog T Z (fun t => mem t l) c fr fun e fr' => Ends T e rs fr' d) (hb : fn.body = some c := by exact rfl) (hname : (fn.name == "runtime.NumGoroutine") = false := by kernel_rfl) (hcalm : d.calm = true := by exact rfl) (hargs : (args.all fun d => d.calm || d.passes) = true := by exact rfl) (hnt : Nat.ble args.length fn.ntmps = true := by exact rfl) (hrs : fn.results.toList = rs := by exact rfl) (hnd : decide (rs.map slotOf).Nodup = true := by exact rfl) : Sem Tryz.prog f args d :=
 sem_intro hT hM hf ⟨fn,hf,hname,by rw [hb];rfl⟩ hb hcalm hargs hnt hrs hnd hv
theorem sO {f : Nat} {fn : Go.Func} {c : Go.Code} {cs cs' args : List D} {d : D} {rs : List Go.ResultVar} (l : List Nat) (hf : Tryz.prog.funcs[f]? = some fn) (hv : forceL (.obj cs :: args ++ List.replicate (fn.ntmps - (args.length + 1)) .any) fun fr => vc Tryz.prog T Z (fun t => mem t l) c fr fun e fr' => EndsO T e rs fr' d (some (.obj cs'))) (hb : fn.body = some c := by exact rfl) (hname : (fn.name == "runtime.NumGoroutine") = false := by kernel_rfl) (hcalm : d.calm = true := by exact rfl) (hc : cs.all D.calm1 = true := by exact rfl) (hc' : cs'.all D.calm1 = true := by exact rfl) (hargs : args.all D.passes = true := by exact rfl) (hnt : Nat.ble (args.length + 1) fn.ntmps = true := by exact rfl) (hrs : fn.results.toList = rs := by exact rfl) (hnd : decide (rs.map slotOf).Nodup = true := by exact rfl) (hr0 : (rs.all fun r => !Nat.beq (slotOf r) 0) = true := by exact rfl) : SemO Tryz.prog f (.obj cs) args d (some (.obj cs')) :=
 semO_intro hT hM hf ⟨fn,hf,hname,by rw [hb];rfl⟩ hb hcalm hc hc' hargs hnt hrs hnd hr0 hv
end Go.Proofs.YtindehjiaknokaaGreatDoor
