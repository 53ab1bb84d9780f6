/- The tables of types for the data machine. (Written by wip/dtab.py.). -/
import Derived.Test.YtdhlopciapncfaaGreatDoorZ3
import Derived.Test.YtdhlopciapncfaaGreatDoorZ6
namespace Go.Proofs.YtdhlopciapncfaaGreatDoor
open Go.RowKit
def lookT {α:Type}:List (Nat × α)→Nat→Option α
 |[],_=>none
 |(k,v)::r,t=>match Nat.beq k t with
  |true=>some v
  |false=>lookT r t
def AllT {α:Type} (R:Nat→α→Prop):List (Nat × α)→Prop
 |[]=>True
 |(k,v)::l=>R k v∧AllT R l
theorem AllT.at {α:Type} {R:Nat→α→Prop}:∀ {l:List (Nat × α)} {t:Nat} {x:α},AllT R l→lookT l t=some x→R t x
 |[],_,_,_,h=>by cases h
 |(k,v)::r,t,x,ha,h=>by
  simp only [lookT] at h
  split at h
  ·rename_i hk
   have hk:=Nat.eq_of_beq_eq_true hk
   cases h
   subst hk
   exact ha.1
  ·exact AllT.at ha.2 h
set_option maxRecDepth 100000
theorem tf0:TFact Tryz.prog 0 (.one):=(inferInstance:TOne Tryz.prog 0)
theorem tf1:TFact Tryz.prog 1 (.one):=(inferInstance:TOne Tryz.prog 1)
theorem tf2:TFact Tryz.prog 2 (.int .i64):=⟨inferInstance,inferInstance⟩
theorem tf3:TFact Tryz.prog 3 (.int .i64):=⟨inferInstance,inferInstance⟩
theorem tf4:TFact Tryz.prog 4 (.bool):=⟨inferInstance,inferInstance⟩
theorem tf5:TFact Tryz.prog 5 (.int .u8):=⟨inferInstance,inferInstance⟩
theorem tf6:TFact Tryz.prog 6 (.int .u8):=⟨inferInstance,inferInstance⟩
theorem tf7:TFact Tryz.prog 7 (.st 4 [(0,1,false),(1,1,false),(2,1,false),(3,1,false)] (some [0,0,2,0])):=⟨inferInstance,fun i off n ag h=>by
  match i,h with
  |0,h=>cases h;infer_instance
  |1,h=>cases h;infer_instance
  |2,h=>cases h;infer_instance
  |3,h=>cases h;infer_instance
  |j+4,h=>simp at h,inferInstance,fun k h=>by
  cases h;infer_instance⟩
theorem tf8:TFact Tryz.prog 8 (.st 4 [(0,1,false),(1,1,false),(2,1,false),(3,1,false)] (some [0,0,2,0])):=⟨inferInstance,fun i off n ag h=>by
  match i,h with
  |0,h=>cases h;infer_instance
  |1,h=>cases h;infer_instance
  |2,h=>cases h;infer_instance
  |3,h=>cases h;infer_instance
  |j+4,h=>simp at h,inferInstance,fun k h=>by
  cases h;infer_instance⟩
theorem tf9:TFact Tryz.prog 9 (.str):=⟨inferInstance,inferInstance⟩
theorem tf10:TFact Tryz.prog 10 (.str):=⟨inferInstance,inferInstance⟩
theorem tf11:TFact Tryz.prog 11 (.str):=⟨inferInstance,inferInstance⟩
theorem tf20:TFact Tryz.prog 20 (.ifc):=⟨inferInstance,inferInstance⟩
theorem tf21:TFact Tryz.prog 21 (.int .i32):=⟨inferInstance,inferInstance⟩
theorem tf22:TFact Tryz.prog 22 (.sl 25 6 88 [.int .i64 0,.slice none 0 0,.string ⟨#[]⟩,.slice none 0 0,.int .i64 0,.int .i64 0]):=⟨inferInstance,inferInstance,inferInstance,inferInstance,inferInstance⟩
theorem tf23:TFact Tryz.prog 23 (.sl 9 1 16 [.string ⟨#[]⟩]):=⟨inferInstance,inferInstance,inferInstance,inferInstance,inferInstance⟩
theorem tf25:TFact Tryz.prog 25 (.st 6 [(0,1,false),(1,1,false),(2,1,false),(3,1,false),(4,1,false),(5,1,false)] none):=⟨inferInstance,fun i off n ag h=>by
  match i,h with
  |0,h=>cases h;infer_instance
  |1,h=>cases h;infer_instance
  |2,h=>cases h;infer_instance
  |3,h=>cases h;infer_instance
  |4,h=>cases h;infer_instance
  |5,h=>cases h;infer_instance
  |j+6,h=>simp at h,inferInstance,fun k h=>by
  cases h⟩
theorem tf26:TFact Tryz.prog 26 (.sl 78 4 80 [.string ⟨#[]⟩,.string ⟨#[]⟩,.slice none 0 0,.slice none 0 0]):=⟨inferInstance,inferInstance,inferInstance,inferInstance,inferInstance⟩
theorem tf27:TFact Tryz.prog 27 (.int .i64):=⟨inferInstance,inferInstance⟩
theorem tf28:TFact Tryz.prog 28 (.one):=(inferInstance:TOne Tryz.prog 28)
theorem tf31:TFact Tryz.prog 31 (.one):=(inferInstance:TOne Tryz.prog 31)
theorem tf32:TFact Tryz.prog 32 (.one):=(inferInstance:TOne Tryz.prog 32)
theorem tf33:TFact Tryz.prog 33 (.sl 26 1 24 [.slice none 0 0]):=⟨inferInstance,inferInstance,inferInstance,inferInstance,inferInstance⟩
theorem tf34:TFact Tryz.prog 34 (.one):=(inferInstance:TOne Tryz.prog 34)
theorem tf40:TFact Tryz.prog 40 (.one):=(inferInstance:TOne Tryz.prog 40)
theorem tf41:TFact Tryz.prog 41 (.one):=(inferInstance:TOne Tryz.prog 41)
theorem tf44:TFact Tryz.prog 44 (.one):=(inferInstance:TOne Tryz.prog 44)
theorem tf45:TFact Tryz.prog 45 (.one):=(inferInstance:TOne Tryz.prog 45)
theorem tf46:TFact Tryz.prog 46 (.one):=(inferInstance:TOne Tryz.prog 46)
theorem tf47:TFact Tryz.prog 47 (.st 1 [(0,1,false)] (some [0])):=⟨inferInstance,fun i off n ag h=>by
  match i,h with
  |0,h=>cases h;infer_instance
  |j+1,h=>simp at h,inferInstance,fun k h=>by
  cases h;infer_instance⟩
theorem tf48:TFact Tryz.prog 48 (.st 1 [(0,1,false)] (some [0])):=⟨inferInstance,fun i off n ag h=>by
  match i,h with
  |0,h=>cases h;infer_instance
  |j+1,h=>simp at h,inferInstance,fun k h=>by
  cases h;infer_instance⟩
theorem tf49:TFact Tryz.prog 49 (.one):=(inferInstance:TOne Tryz.prog 49)
theorem tf50:TFact Tryz.prog 50 (.one):=(inferInstance:TOne Tryz.prog 50)
theorem tf51:TFact Tryz.prog 51 (.one):=(inferInstance:TOne Tryz.prog 51)
theorem tf52:TFact Tryz.prog 52 (.one):=(inferInstance:TOne Tryz.prog 52)
theorem tf53:TFact Tryz.prog 53 (.one):=(inferInstance:TOne Tryz.prog 53)
theorem tf54:TFact Tryz.prog 54 (.one):=(inferInstance:TOne Tryz.prog 54)
theorem tf55:TFact Tryz.prog 55 (.one):=(inferInstance:TOne Tryz.prog 55)
theorem tf56:TFact Tryz.prog 56 (.st 1 [(0,1,false)] (some [0])):=⟨inferInstance,fun i off n ag h=>by
  match i,h with
  |0,h=>cases h;infer_instance
  |j+1,h=>simp at h,inferInstance,fun k h=>by
  cases h;infer_instance⟩
theorem tf57:TFact Tryz.prog 57 (.st 1 [(0,1,false)] (some [0])):=⟨inferInstance,fun i off n ag h=>by
  match i,h with
  |0,h=>cases h;infer_instance
  |j+1,h=>simp at h,inferInstance,fun k h=>by
  cases h;infer_instance⟩
theorem tf58:TFact Tryz.prog 58 (.one):=(inferInstance:TOne Tryz.prog 58)
theorem tf59:TFact Tryz.prog 59 (.one):=(inferInstance:TOne Tryz.prog 59)
theorem tf62:TFact Tryz.prog 62 (.one):=(inferInstance:TOne Tryz.prog 62)
theorem tf64:TFact Tryz.prog 64 (.st 4 [(0,1,false),(1,1,false),(2,1,false),(3,1,false)] none):=⟨inferInstance,fun i off n ag h=>by
  match i,h with
  |0,h=>cases h;infer_instance
  |1,h=>cases h;infer_instance
  |2,h=>cases h;infer_instance
  |3,h=>cases h;infer_instance
  |j+4,h=>simp at h,inferInstance,fun k h=>by
  cases h⟩
theorem tf65:TFact Tryz.prog 65 (.one):=(inferInstance:TOne Tryz.prog 65)
theorem tf66:TFact Tryz.prog 66 (.one):=(inferInstance:TOne Tryz.prog 66)
theorem tf67:TFact Tryz.prog 67 (.one):=(inferInstance:TOne Tryz.prog 67)
theorem tf68:TFact Tryz.prog 68 (.one):=(inferInstance:TOne Tryz.prog 68)
theorem tf69:TFact Tryz.prog 69 (.one):=(inferInstance:TOne Tryz.prog 69)
theorem tf70:TFact Tryz.prog 70 (.one):=(inferInstance:TOne Tryz.prog 70)
theorem tf71:TFact Tryz.prog 71 (.one):=(inferInstance:TOne Tryz.prog 71)
theorem tf72:TFact Tryz.prog 72 (.one):=(inferInstance:TOne Tryz.prog 72)
theorem tf73:TFact Tryz.prog 73 (.one):=(inferInstance:TOne Tryz.prog 73)
theorem tf74:TFact Tryz.prog 74 (.sl 93 1 24 [.slice none 0 0]):=⟨inferInstance,inferInstance,inferInstance,inferInstance,inferInstance⟩
theorem tf75:TFact Tryz.prog 75 (.st 2 [(0,1,false),(1,1,false)] none):=⟨inferInstance,fun i off n ag h=>by
  match i,h with
  |0,h=>cases h;infer_instance
  |1,h=>cases h;infer_instance
  |j+2,h=>simp at h,inferInstance,fun k h=>by
  cases h⟩
theorem tf76:TFact Tryz.prog 76 (.st 2 [(0,1,false),(1,1,false)] none):=⟨inferInstance,fun i off n ag h=>by
  match i,h with
  |0,h=>cases h;infer_instance
  |1,h=>cases h;infer_instance
  |j+2,h=>simp at h,inferInstance,fun k h=>by
  cases h⟩
theorem tf77:TFact Tryz.prog 77 (.st 4 [(0,1,false),(1,2,true),(3,1,false)] none):=⟨inferInstance,fun i off n ag h=>by
  match i,h with
  |0,h=>cases h;infer_instance
  |1,h=>cases h;infer_instance
  |2,h=>cases h;infer_instance
  |j+3,h=>simp at h,inferInstance,fun k h=>by
  cases h⟩
theorem tf78:TFact Tryz.prog 78 (.st 4 [(0,1,false),(1,2,true),(3,1,false)] none):=⟨inferInstance,fun i off n ag h=>by
  match i,h with
  |0,h=>cases h;infer_instance
  |1,h=>cases h;infer_instance
  |2,h=>cases h;infer_instance
  |j+3,h=>simp at h,inferInstance,fun k h=>by
  cases h⟩
theorem tf79:TFact Tryz.prog 79 (.one):=(inferInstance:TOne Tryz.prog 79)
theorem tf80:TFact Tryz.prog 80 (.one):=(inferInstance:TOne Tryz.prog 80)
theorem tf81:TFact Tryz.prog 81 (.one):=(inferInstance:TOne Tryz.prog 81)
theorem tf82:TFact Tryz.prog 82 (.one):=(inferInstance:TOne Tryz.prog 82)
theorem tf83:TFact Tryz.prog 83 (.one):=(inferInstance:TOne Tryz.prog 83)
theorem tf84:TFact Tryz.prog 84 (.one):=(inferInstance:TOne Tryz.prog 84)
theorem tf85:TFact Tryz.prog 85 (.one):=(inferInstance:TOne Tryz.prog 85)
theorem tf86:TFact Tryz.prog 86 (.one):=(inferInstance:TOne Tryz.prog 86)
theorem tf87:TFact Tryz.prog 87 (.one):=(inferInstance:TOne Tryz.prog 87)
theorem tf88:TFact Tryz.prog 88 (.one):=(inferInstance:TOne Tryz.prog 88)
theorem tf89:TFact Tryz.prog 89 (.one):=(inferInstance:TOne Tryz.prog 89)
theorem tf90:TFact Tryz.prog 90 (.sl 3 1 8 [.int .i64 0]):=⟨inferInstance,inferInstance,inferInstance,inferInstance,inferInstance⟩
theorem tf91:TFact Tryz.prog 91 (.sl 23 1 24 [.slice none 0 0]):=⟨inferInstance,inferInstance,inferInstance,inferInstance,inferInstance⟩
theorem tf93:TFact Tryz.prog 93 (.st 1 [(0,1,false)] none):=⟨inferInstance,fun i off n ag h=>by
  match i,h with
  |0,h=>cases h;infer_instance
  |j+1,h=>simp at h,inferInstance,fun k h=>by
  cases h⟩
theorem tf95:TFact Tryz.prog 95 (.st 3 [(0,1,false),(1,1,false),(2,1,false)] (some [0,0,0])):=⟨inferInstance,fun i off n ag h=>by
  match i,h with
  |0,h=>cases h;infer_instance
  |1,h=>cases h;infer_instance
  |2,h=>cases h;infer_instance
  |j+3,h=>simp at h,inferInstance,fun k h=>by
  cases h;infer_instance⟩
theorem tf96:TFact Tryz.prog 96 (.one):=(inferInstance:TOne Tryz.prog 96)
theorem tf97:TFact Tryz.prog 97 (.one):=(inferInstance:TOne Tryz.prog 97)
theorem tf98:TFact Tryz.prog 98 (.one):=(inferInstance:TOne Tryz.prog 98)
theorem tf99:TFact Tryz.prog 99 (.one):=(inferInstance:TOne Tryz.prog 99)
theorem tf100:TFact Tryz.prog 100 (.st 2 [(0,1,false),(1,1,false)] (some [0,0])):=⟨inferInstance,fun i off n ag h=>by
  match i,h with
  |0,h=>cases h;infer_instance
  |1,h=>cases h;infer_instance
  |j+2,h=>simp at h,inferInstance,fun k h=>by
  cases h;infer_instance⟩
theorem tf101:TFact Tryz.prog 101 (.st 2 [(0,1,false),(1,1,false)] (some [0,0])):=⟨inferInstance,fun i off n ag h=>by
  match i,h with
  |0,h=>cases h;infer_instance
  |1,h=>cases h;infer_instance
  |j+2,h=>simp at h,inferInstance,fun k h=>by
  cases h;infer_instance⟩
theorem tf102:TFact Tryz.prog 102 (.one):=(inferInstance:TOne Tryz.prog 102)
theorem tf103:TFact Tryz.prog 103 (.one):=(inferInstance:TOne Tryz.prog 103)
theorem tf104:TFact Tryz.prog 104 (.sl 144 1 4 [.int .u32 0]):=⟨inferInstance,inferInstance,inferInstance,inferInstance,inferInstance⟩
theorem tf105:TFact Tryz.prog 105 (.st 2 [(0,1,false),(1,1,false)] none):=⟨inferInstance,fun i off n ag h=>by
  match i,h with
  |0,h=>cases h;infer_instance
  |1,h=>cases h;infer_instance
  |j+2,h=>simp at h,inferInstance,fun k h=>by
  cases h⟩
theorem tf106:TFact Tryz.prog 106 (.st 2 [(0,1,false),(1,1,false)] none):=⟨inferInstance,fun i off n ag h=>by
  match i,h with
  |0,h=>cases h;infer_instance
  |1,h=>cases h;infer_instance
  |j+2,h=>simp at h,inferInstance,fun k h=>by
  cases h⟩
theorem tf107:TFact Tryz.prog 107 (.one):=(inferInstance:TOne Tryz.prog 107)
theorem tf108:TFact Tryz.prog 108 (.one):=(inferInstance:TOne Tryz.prog 108)
theorem tf109:TFact Tryz.prog 109 (.one):=(inferInstance:TOne Tryz.prog 109)
theorem tf110:TFact Tryz.prog 110 (.one):=(inferInstance:TOne Tryz.prog 110)
theorem tf111:TFact Tryz.prog 111 (.one):=(inferInstance:TOne Tryz.prog 111)
theorem tf112:TFact Tryz.prog 112 (.one):=(inferInstance:TOne Tryz.prog 112)
theorem tf113:TFact Tryz.prog 113 (.st 4 [(0,1,false),(1,1,false),(2,1,false),(3,1,false)] (some [2,2,2,2])):=⟨inferInstance,fun i off n ag h=>by
  match i,h with
  |0,h=>cases h;infer_instance
  |1,h=>cases h;infer_instance
  |2,h=>cases h;infer_instance
  |3,h=>cases h;infer_instance
  |j+4,h=>simp at h,inferInstance,fun k h=>by
  cases h;infer_instance⟩
theorem tf114:TFact Tryz.prog 114 (.st 4 [(0,1,false),(1,1,false),(2,1,false),(3,1,false)] (some [2,2,2,2])):=⟨inferInstance,fun i off n ag h=>by
  match i,h with
  |0,h=>cases h;infer_instance
  |1,h=>cases h;infer_instance
  |2,h=>cases h;infer_instance
  |3,h=>cases h;infer_instance
  |j+4,h=>simp at h,inferInstance,fun k h=>by
  cases h;infer_instance⟩
theorem tf115:TFact Tryz.prog 115 (.one):=(inferInstance:TOne Tryz.prog 115)
theorem tf116:TFact Tryz.prog 116 (.one):=(inferInstance:TOne Tryz.prog 116)
theorem tf117:TFact Tryz.prog 117 (.one):=(inferInstance:TOne Tryz.prog 117)
theorem tf118:TFact Tryz.prog 118 (.one):=(inferInstance:TOne Tryz.prog 118)
theorem tf119:TFact Tryz.prog 119 (.one):=(inferInstance:TOne Tryz.prog 119)
theorem tf120:TFact Tryz.prog 120 (.one):=(inferInstance:TOne Tryz.prog 120)
theorem tf121:TFact Tryz.prog 121 (.one):=(inferInstance:TOne Tryz.prog 121)
theorem tf122:TFact Tryz.prog 122 (.one):=(inferInstance:TOne Tryz.prog 122)
theorem tf124:TFact Tryz.prog 124 (.sl 5 1 1 [.int .u8 0]):=⟨inferInstance,inferInstance,inferInstance,inferInstance,inferInstance⟩
theorem tf129:TFact Tryz.prog 129 (.ifc):=⟨inferInstance,inferInstance⟩
theorem tf130:TFact Tryz.prog 130 (.one):=(inferInstance:TOne Tryz.prog 130)
theorem tf135:TFact Tryz.prog 135 (.sl 76 2 40 [.string ⟨#[]⟩,.slice none 0 0]):=⟨inferInstance,inferInstance,inferInstance,inferInstance,inferInstance⟩
theorem tf137:TFact Tryz.prog 137 (.one):=(inferInstance:TOne Tryz.prog 137)
theorem tf142:TFact Tryz.prog 142 (.int .u64):=⟨inferInstance,inferInstance⟩
theorem tf144:TFact Tryz.prog 144 (.int .u32):=⟨inferInstance,inferInstance⟩
theorem tf145:TFact Tryz.prog 145 (.int .u64):=⟨inferInstance,inferInstance⟩
theorem tf151:TFact Tryz.prog 151 (.one):=(inferInstance:TOne Tryz.prog 151)
theorem tf154:TFact Tryz.prog 154 (.one):=(inferInstance:TOne Tryz.prog 154)
theorem tf171:TFact Tryz.prog 171 (.one):=(inferInstance:TOne Tryz.prog 171)
theorem tf179:TFact Tryz.prog 179 (.one):=(inferInstance:TOne Tryz.prog 179)
theorem tf189:TFact Tryz.prog 189 (.int .i64):=⟨inferInstance,inferInstance⟩
theorem tf190:TFact Tryz.prog 190 (.one):=(inferInstance:TOne Tryz.prog 190)
theorem tf192:TFact Tryz.prog 192 (.one):=(inferInstance:TOne Tryz.prog 192)
theorem tf204:TFact Tryz.prog 204 (.one):=(inferInstance:TOne Tryz.prog 204)
theorem tf221:TFact Tryz.prog 221 (.one):=(inferInstance:TOne Tryz.prog 221)
theorem tf224:TFact Tryz.prog 224 (.st 3 [(0,1,false),(1,1,false),(2,1,false)] none):=⟨inferInstance,fun i off n ag h=>by
  match i,h with
  |0,h=>cases h;infer_instance
  |1,h=>cases h;infer_instance
  |2,h=>cases h;infer_instance
  |j+3,h=>simp at h,inferInstance,fun k h=>by
  cases h⟩
theorem tf227:TFact Tryz.prog 227 (.st 2 [(0,1,false),(1,1,false)] (some [0,0])):=⟨inferInstance,fun i off n ag h=>by
  match i,h with
  |0,h=>cases h;infer_instance
  |1,h=>cases h;infer_instance
  |j+2,h=>simp at h,inferInstance,fun k h=>by
  cases h;infer_instance⟩
theorem tf229:TFact Tryz.prog 229 (.one):=(inferInstance:TOne Tryz.prog 229)
theorem tf251:TFact Tryz.prog 251 (.one):=(inferInstance:TOne Tryz.prog 251)
theorem tf253:TFact Tryz.prog 253 (.st 1 [(0,1,false)] (some [1])):=⟨inferInstance,fun i off n ag h=>by
  match i,h with
  |0,h=>cases h;infer_instance
  |j+1,h=>simp at h,inferInstance,fun k h=>by
  cases h;infer_instance⟩
def TAB:List (Nat × TI) := [(0,.one),(1,.one),(2,.int .i64),(3,.int .i64),(4,.bool),(5,.int .u8),(6,.int .u8),(7,.st 4 [(0,1,false),(1,1,false),(2,1,false),(3,1,false)] (some [0,0,2,0])),(8,.st 4 [(0,1,false),(1,1,false),(2,1,false),(3,1,false)] (some [0,0,2,0])),(9,.str),(10,.str),(11,.str),(20,.ifc),(21,.int .i32),(22,.sl 25 6 88 [.int .i64 0,.slice none 0 0,.string ⟨#[]⟩,.slice none 0 0,.int .i64 0,.int .i64 0]),(23,.sl 9 1 16 [.string ⟨#[]⟩]),(25,.st 6 [(0,1,false),(1,1,false),(2,1,false),(3,1,false),(4,1,false),(5,1,false)] none),(26,.sl 78 4 80 [.string ⟨#[]⟩,.string ⟨#[]⟩,.slice none 0 0,.slice none 0 0]),(27,.int .i64),(28,.one),(31,.one),(32,.one),(33,.sl 26 1 24 [.slice none 0 0]),(34,.one),(40,.one),(41,.one),(44,.one),(45,.one),(46,.one),(47,.st 1 [(0,1,false)] (some [0])),(48,.st 1 [(0,1,false)] (some [0])),(49,.one),(50,.one),(51,.one),(52,.one),(53,.one),(54,.one),(55,.one),(56,.st 1 [(0,1,false)] (some [0])),(57,.st 1 [(0,1,false)] (some [0])),(58,.one),(59,.one),(62,.one),(64,.st 4 [(0,1,false),(1,1,false),(2,1,false),(3,1,false)] none),(65,.one),(66,.one),(67,.one),(68,.one),(69,.one),(70,.one),(71,.one),(72,.one),(73,.one),(74,.sl 93 1 24 [.slice none 0 0]),(75,.st 2 [(0,1,false),(1,1,false)] none),(76,.st 2 [(0,1,false),(1,1,false)] none),(77,.st 4 [(0,1,false),(1,2,true),(3,1,false)] none),(78,.st 4 [(0,1,false),(1,2,true),(3,1,false)] none),(79,.one),(80,.one),(81,.one),(82,.one),(83,.one),(84,.one),(85,.one),(86,.one),(87,.one),(88,.one),(89,.one),(90,.sl 3 1 8 [.int .i64 0]),(91,.sl 23 1 24 [.slice none 0 0]),(93,.st 1 [(0,1,false)] none),(95,.st 3 [(0,1,false),(1,1,false),(2,1,false)] (some [0,0,0])),(96,.one),(97,.one),(98,.one),(99,.one),(100,.st 2 [(0,1,false),(1,1,false)] (some [0,0])),(101,.st 2 [(0,1,false),(1,1,false)] (some [0,0])),(102,.one),(103,.one),(104,.sl 144 1 4 [.int .u32 0]),(105,.st 2 [(0,1,false),(1,1,false)] none),(106,.st 2 [(0,1,false),(1,1,false)] none),(107,.one),(108,.one),(109,.one),(110,.one),(111,.one),(112,.one),(113,.st 4 [(0,1,false),(1,1,false),(2,1,false),(3,1,false)] (some [2,2,2,2])),(114,.st 4 [(0,1,false),(1,1,false),(2,1,false),(3,1,false)] (some [2,2,2,2])),(115,.one),(116,.one),(117,.one),(118,.one),(119,.one),(120,.one),(121,.one),(122,.one),(124,.sl 5 1 1 [.int .u8 0]),(129,.ifc),(130,.one),(135,.sl 76 2 40 [.string ⟨#[]⟩,.slice none 0 0]),(137,.one),(142,.int .u64),(144,.int .u32),(145,.int .u64),(151,.one),(154,.one),(171,.one),(179,.one),(189,.int .i64),(190,.one),(192,.one),(204,.one),(221,.one),(224,.st 3 [(0,1,false),(1,1,false),(2,1,false)] none),(227,.st 2 [(0,1,false),(1,1,false)] (some [0,0])),(229,.one),(251,.one),(253,.st 1 [(0,1,false)] (some [1]))]
def ZAB:List (Nat × List Value) := [(1,[.nilFunc]),(2,[.int .i64 0]),(3,[.int .i64 0]),(4,[.bool false]),(5,[.int .u8 0]),(6,[.int .u8 0]),(7,[.int .i64 0,.int .i64 0,.bool false,.int .u8 0]),(8,[.int .i64 0,.int .i64 0,.bool false,.int .u8 0]),(9,[.string ⟨#[]⟩]),(10,[.string ⟨#[]⟩]),(11,[.string ⟨#[]⟩]),(20,[.nilIface]),(21,[.int .i32 0]),(22,[.slice none 0 0]),(23,[.slice none 0 0]),(25,[.int .i64 0,.slice none 0 0,.string ⟨#[]⟩,.slice none 0 0,.int .i64 0,.int .i64 0]),(26,[.slice none 0 0]),(27,[.int .i64 0]),(32,[.nilFunc]),(33,[.slice none 0 0]),(41,[.nilFunc]),(44,[.nilFunc]),(45,[.nilFunc]),(46,[.pointer none]),(47,[.int .i64 0]),(48,[.int .i64 0]),(49,[.nilFunc]),(51,[.nilFunc]),(52,[.nilFunc]),(53,[.nilFunc]),(54,[.nilFunc]),(55,[.pointer none]),(56,[.int .i64 0]),(57,[.int .i64 0]),(58,[.nilFunc]),(59,[.nilFunc]),(62,[.nilFunc]),(64,[.slice none 0 0,.string ⟨#[]⟩,.int .i64 0,.int .i64 0]),(66,[.nilFunc]),(67,[.nilFunc]),(68,[.nilFunc]),(69,[.nilFunc]),(70,[.nilFunc]),(71,[.nilFunc]),(72,[.nilFunc]),(73,[.nilFunc]),(74,[.slice none 0 0]),(75,[.string ⟨#[]⟩,.slice none 0 0]),(76,[.string ⟨#[]⟩,.slice none 0 0]),(77,[.string ⟨#[]⟩,.string ⟨#[]⟩,.slice none 0 0,.slice none 0 0]),(78,[.string ⟨#[]⟩,.string ⟨#[]⟩,.slice none 0 0,.slice none 0 0]),(79,[.nilFunc]),(80,[.nilFunc]),(81,[.nilFunc]),(82,[.nilFunc]),(83,[.nilFunc]),(84,[.nilFunc]),(85,[.nilFunc]),(86,[.nilFunc]),(87,[.nilFunc]),(89,[.nilFunc]),(90,[.slice none 0 0]),(91,[.slice none 0 0]),(93,[.slice none 0 0]),(95,[.int .i64 0,.int .i64 0,.int .i64 0]),(97,[.nilFunc]),(98,[.nilFunc]),(99,[.nilFunc]),(100,[.int .i64 0,.int .i64 0]),(101,[.int .i64 0,.int .i64 0]),(103,[.nilFunc]),(104,[.slice none 0 0]),(105,[.bool false,.slice none 0 0]),(106,[.bool false,.slice none 0 0]),(107,[.nilFunc]),(108,[.nilFunc]),(109,[.nilFunc]),(110,[.nilFunc]),(111,[.nilFunc]),(112,[.nilFunc]),(113,[.bool false,.bool false,.bool false,.bool false]),(114,[.bool false,.bool false,.bool false,.bool false]),(115,[.nilFunc]),(116,[.nilFunc]),(117,[.nilFunc]),(118,[.nilFunc]),(119,[.nilFunc]),(120,[.nilFunc]),(121,[.pointer none]),(122,[.nilFunc]),(124,[.slice none 0 0]),(129,[.nilIface]),(135,[.slice none 0 0]),(142,[.int .u64 0]),(144,[.int .u32 0]),(145,[.int .u64 0]),(154,[.pointer none]),(171,[.pointer none]),(189,[.int .i64 0]),(192,[.pointer none]),(224,[.string ⟨#[]⟩,.string ⟨#[]⟩,.nilIface]),(227,[.int .u8 0,.int .u8 0]),(251,[.pointer none]),(253,[.string ⟨#[]⟩])]
def T:Nat→Option TI:=lookT TAB
def Z:Nat→Option (List Value):=lookT ZAB
theorem hT:TOk Tryz.prog T Z:=by
 refine ⟨fun t i h => ?_,fun t z h => ?_⟩
 ·have hall:AllT (TFact Tryz.prog) TAB:=by
   unfold TAB
   exact ⟨tf0,tf1,tf2,tf3,tf4,tf5,tf6,tf7,tf8,tf9,tf10,tf11,tf20,tf21,tf22,tf23,tf25,tf26,tf27,tf28,tf31,tf32,tf33,tf34,tf40,tf41,tf44,tf45,tf46,tf47,tf48,tf49,tf50,tf51,tf52,tf53,tf54,tf55,tf56,tf57,tf58,tf59,tf62,tf64,tf65,tf66,tf67,tf68,tf69,tf70,tf71,tf72,tf73,tf74,tf75,tf76,tf77,tf78,tf79,tf80,tf81,tf82,tf83,tf84,tf85,tf86,tf87,tf88,tf89,tf90,tf91,tf93,tf95,tf96,tf97,tf98,tf99,tf100,tf101,tf102,tf103,tf104,tf105,tf106,tf107,tf108,tf109,tf110,tf111,tf112,tf113,tf114,tf115,tf116,tf117,tf118,tf119,tf120,tf121,tf122,tf124,tf129,tf130,tf135,tf137,tf142,tf144,tf145,tf151,tf154,tf171,tf179,tf189,tf190,tf192,tf204,tf221,tf224,tf227,tf229,tf251,tf253,trivial⟩
  exact hall.at h
 ·have hall:AllT (TZer Tryz.prog) ZAB:=by
   unfold ZAB
   exact ⟨inferInstance,inferInstance,inferInstance,inferInstance,inferInstance,inferInstance,inferInstance,inferInstance,inferInstance,inferInstance,inferInstance,inferInstance,inferInstance,inferInstance,inferInstance,inferInstance,inferInstance,inferInstance,inferInstance,inferInstance,inferInstance,inferInstance,inferInstance,inferInstance,inferInstance,inferInstance,inferInstance,inferInstance,inferInstance,inferInstance,inferInstance,inferInstance,inferInstance,inferInstance,inferInstance,inferInstance,inferInstance,inferInstance,inferInstance,inferInstance,inferInstance,inferInstance,inferInstance,inferInstance,inferInstance,inferInstance,inferInstance,inferInstance,inferInstance,inferInstance,inferInstance,inferInstance,inferInstance,inferInstance,inferInstance,inferInstance,inferInstance,inferInstance,inferInstance,inferInstance,inferInstance,inferInstance,inferInstance,inferInstance,inferInstance,inferInstance,inferInstance,inferInstance,inferInstance,inferInstance,inferInstance,inferInstance,inferInstance,inferInstance,inferInstance,inferInstance,inferInstance,inferInstance,inferInstance,inferInstance,inferInstance,inferInstance,inferInstance,inferInstance,inferInstance,inferInstance,inferInstance,inferInstance,inferInstance,inferInstance,inferInstance,inferInstance,inferInstance,inferInstance,inferInstance,inferInstance,inferInstance,inferInstance,inferInstance,inferInstance,inferInstance,inferInstance,inferInstance,inferInstance,trivial⟩
  exact hall.at h
theorem hM:Tryz.prog.follows .mixedOrders=true:=by kernel_rfl
theorem si {f : Nat} {fn : Go.Func} {c : Go.Code} {args : List D} {d : D} {rs : List Go.ResultVar} (l : List Nat) (hf : Tryz.prog.funcs[f]? = some fn) (hv : forceL (args ++ List.replicate (fn.ntmps - args.length) .any) fun fr => vc Tryz.prog T Z (fun t => mem t l) c fr fun e fr' => Ends T e rs fr' d) (hb : fn.body = some c := by exact rfl) (hname : (fn.name == "runtime.NumGoroutine") = false := by kernel_rfl) (hcalm : d.calm = true := by exact rfl) (hargs : (args.all fun d => d.calm || d.passes) = true := by exact rfl) (hnt : Nat.ble args.length fn.ntmps = true := by exact rfl) (hrs : fn.results.toList = rs := by exact rfl) (hnd : decide (rs.map slotOf).Nodup = true := by exact rfl) : Sem Tryz.prog f args d :=
 sem_intro hT hM hf ⟨fn,hf,hname,by rw [hb];rfl⟩ hb hcalm hargs hnt hrs hnd hv
end Go.Proofs.YtdhlopciapncfaaGreatDoor
