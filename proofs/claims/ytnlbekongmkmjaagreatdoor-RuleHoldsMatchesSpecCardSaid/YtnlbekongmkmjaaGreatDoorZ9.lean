/- The tables of types for the data machine. (Written by wip/dtab.py.). -/
import Derived.Test.YtnlbekongmkmjaaGreatDoorZ3
import Derived.Test.YtnlbekongmkmjaaGreatDoorZ8
namespace Go.Proofs.YtnlbekongmkmjaaGreatDoor
open Go.RowKit
def lookT {α:Type}:List (Nat × α)→Nat→Option α
 |[],_=>none
 |(k,v)::r,t=>match Nat.beq k t with
  |true=>some v
  |false=>lookT r t
def AllT {α:Type} (R:Nat→α→Prop):List (Nat × α)→Prop
 |[]=>True
 |(k,v)::l=>R k v∧AllT R l
theorem AllT.at {α:Type} {R:Nat→α→Prop}:∀ {l:List (Nat × α)} {t:Nat} {x:α},AllT R l→lookT l t=some x→R t x
 |[],_,_,_,h=>by cases h
 |(k,v)::r,t,x,ha,h=>by
  simp only [lookT] at h
  split at h
  ·rename_i hk
   have hk:=Nat.eq_of_beq_eq_true hk
   cases h
   subst hk
   exact ha.1
  ·exact AllT.at ha.2 h
set_option maxRecDepth 100000
theorem tf0:TFact Tryz.prog 0 (.one):=(inferInstance:TOne Tryz.prog 0)
theorem tf1:TFact Tryz.prog 1 (.one):=(inferInstance:TOne Tryz.prog 1)
theorem tf2:TFact Tryz.prog 2 (.int .i64):=⟨inferInstance,inferInstance⟩
theorem tf3:TFact Tryz.prog 3 (.int .i64):=⟨inferInstance,inferInstance⟩
theorem tf4:TFact Tryz.prog 4 (.bool):=⟨inferInstance,inferInstance⟩
theorem tf5:TFact Tryz.prog 5 (.int .u8):=⟨inferInstance,inferInstance⟩
theorem tf6:TFact Tryz.prog 6 (.int .u8):=⟨inferInstance,inferInstance⟩
theorem tf7:TFact Tryz.prog 7 (.st 4 [(0,1,false),(1,1,false),(2,1,false),(3,1,false)] (some [0,0,2,0])):=⟨inferInstance,fun i off n ag h=>by
  match i,h with
  |0,h=>cases h;infer_instance
  |1,h=>cases h;infer_instance
  |2,h=>cases h;infer_instance
  |3,h=>cases h;infer_instance
  |j+4,h=>simp at h,inferInstance,fun k h=>by
  cases h;infer_instance⟩
theorem tf8:TFact Tryz.prog 8 (.st 4 [(0,1,false),(1,1,false),(2,1,false),(3,1,false)] (some [0,0,2,0])):=⟨inferInstance,fun i off n ag h=>by
  match i,h with
  |0,h=>cases h;infer_instance
  |1,h=>cases h;infer_instance
  |2,h=>cases h;infer_instance
  |3,h=>cases h;infer_instance
  |j+4,h=>simp at h,inferInstance,fun k h=>by
  cases h;infer_instance⟩
theorem tf9:TFact Tryz.prog 9 (.str):=⟨inferInstance,inferInstance⟩
theorem tf10:TFact Tryz.prog 10 (.str):=⟨inferInstance,inferInstance⟩
theorem tf11:TFact Tryz.prog 11 (.str):=⟨inferInstance,inferInstance⟩
theorem tf20:TFact Tryz.prog 20 (.ifc):=⟨inferInstance,inferInstance⟩
theorem tf21:TFact Tryz.prog 21 (.int .i32):=⟨inferInstance,inferInstance⟩
theorem tf22:TFact Tryz.prog 22 (.sl 42 7 104 [.string ⟨#[]⟩,.int .i64 0,.slice none 0 0,.string ⟨#[]⟩,.slice none 0 0,.int .i64 0,.int .i64 0]):=⟨inferInstance,inferInstance,inferInstance,inferInstance,inferInstance⟩
theorem tf23:TFact Tryz.prog 23 (.sl 9 1 16 [.string ⟨#[]⟩]):=⟨inferInstance,inferInstance,inferInstance,inferInstance,inferInstance⟩
theorem tf24:TFact Tryz.prog 24 (.int .i64):=⟨inferInstance,inferInstance⟩
theorem tf25:TFact Tryz.prog 25 (.one):=(inferInstance:TOne Tryz.prog 25)
theorem tf30:TFact Tryz.prog 30 (.sl 32 6 88 [.int .i64 0,.slice none 0 0,.string ⟨#[]⟩,.slice none 0 0,.int .i64 0,.int .i64 0]):=⟨inferInstance,inferInstance,inferInstance,inferInstance,inferInstance⟩
theorem tf32:TFact Tryz.prog 32 (.st 6 [(0,1,false),(1,1,false),(2,1,false),(3,1,false),(4,1,false),(5,1,false)] none):=⟨inferInstance,fun i off n ag h=>by
  match i,h with
  |0,h=>cases h;infer_instance
  |1,h=>cases h;infer_instance
  |2,h=>cases h;infer_instance
  |3,h=>cases h;infer_instance
  |4,h=>cases h;infer_instance
  |5,h=>cases h;infer_instance
  |j+6,h=>simp at h,inferInstance,fun k h=>by
  cases h⟩
theorem tf33:TFact Tryz.prog 33 (.sl 113 4 80 [.string ⟨#[]⟩,.string ⟨#[]⟩,.slice none 0 0,.slice none 0 0]):=⟨inferInstance,inferInstance,inferInstance,inferInstance,inferInstance⟩
theorem tf34:TFact Tryz.prog 34 (.one):=(inferInstance:TOne Tryz.prog 34)
theorem tf40:TFact Tryz.prog 40 (.one):=(inferInstance:TOne Tryz.prog 40)
theorem tf41:TFact Tryz.prog 41 (.st 7 [(0,1,false),(1,6,true)] none):=⟨inferInstance,fun i off n ag h=>by
  match i,h with
  |0,h=>cases h;infer_instance
  |1,h=>cases h;infer_instance
  |j+2,h=>simp at h,inferInstance,fun k h=>by
  cases h⟩
theorem tf42:TFact Tryz.prog 42 (.st 7 [(0,1,false),(1,6,true)] none):=⟨inferInstance,fun i off n ag h=>by
  match i,h with
  |0,h=>cases h;infer_instance
  |1,h=>cases h;infer_instance
  |j+2,h=>simp at h,inferInstance,fun k h=>by
  cases h⟩
theorem tf43:TFact Tryz.prog 43 (.sl 48 3 40 [.int .i64 0,.int .i64 0,.slice none 0 0]):=⟨inferInstance,inferInstance,inferInstance,inferInstance,inferInstance⟩
theorem tf44:TFact Tryz.prog 44 (.one):=(inferInstance:TOne Tryz.prog 44)
theorem tf45:TFact Tryz.prog 45 (.one):=(inferInstance:TOne Tryz.prog 45)
theorem tf46:TFact Tryz.prog 46 (.sl 49 1 24 [.slice none 0 0]):=⟨inferInstance,inferInstance,inferInstance,inferInstance,inferInstance⟩
theorem tf47:TFact Tryz.prog 47 (.st 3 [(0,1,false),(1,1,false),(2,1,false)] none):=⟨inferInstance,fun i off n ag h=>by
  match i,h with
  |0,h=>cases h;infer_instance
  |1,h=>cases h;infer_instance
  |2,h=>cases h;infer_instance
  |j+3,h=>simp at h,inferInstance,fun k h=>by
  cases h⟩
theorem tf48:TFact Tryz.prog 48 (.st 3 [(0,1,false),(1,1,false),(2,1,false)] none):=⟨inferInstance,fun i off n ag h=>by
  match i,h with
  |0,h=>cases h;infer_instance
  |1,h=>cases h;infer_instance
  |2,h=>cases h;infer_instance
  |j+3,h=>simp at h,inferInstance,fun k h=>by
  cases h⟩
theorem tf49:TFact Tryz.prog 49 (.sl 4 1 1 [.bool false]):=⟨inferInstance,inferInstance,inferInstance,inferInstance,inferInstance⟩
theorem tf50:TFact Tryz.prog 50 (.one):=(inferInstance:TOne Tryz.prog 50)
theorem tf51:TFact Tryz.prog 51 (.one):=(inferInstance:TOne Tryz.prog 51)
theorem tf52:TFact Tryz.prog 52 (.one):=(inferInstance:TOne Tryz.prog 52)
theorem tf53:TFact Tryz.prog 53 (.one):=(inferInstance:TOne Tryz.prog 53)
theorem tf54:TFact Tryz.prog 54 (.one):=(inferInstance:TOne Tryz.prog 54)
theorem tf55:TFact Tryz.prog 55 (.one):=(inferInstance:TOne Tryz.prog 55)
theorem tf56:TFact Tryz.prog 56 (.one):=(inferInstance:TOne Tryz.prog 56)
theorem tf57:TFact Tryz.prog 57 (.one):=(inferInstance:TOne Tryz.prog 57)
theorem tf58:TFact Tryz.prog 58 (.one):=(inferInstance:TOne Tryz.prog 58)
theorem tf64:TFact Tryz.prog 64 (.one):=(inferInstance:TOne Tryz.prog 64)
theorem tf65:TFact Tryz.prog 65 (.one):=(inferInstance:TOne Tryz.prog 65)
theorem tf66:TFact Tryz.prog 66 (.one):=(inferInstance:TOne Tryz.prog 66)
theorem tf67:TFact Tryz.prog 67 (.one):=(inferInstance:TOne Tryz.prog 67)
theorem tf68:TFact Tryz.prog 68 (.one):=(inferInstance:TOne Tryz.prog 68)
theorem tf69:TFact Tryz.prog 69 (.one):=(inferInstance:TOne Tryz.prog 69)
theorem tf70:TFact Tryz.prog 70 (.st 1 [(0,1,false)] (some [0])):=⟨inferInstance,fun i off n ag h=>by
  match i,h with
  |0,h=>cases h;infer_instance
  |j+1,h=>simp at h,inferInstance,fun k h=>by
  cases h;infer_instance⟩
theorem tf71:TFact Tryz.prog 71 (.st 1 [(0,1,false)] (some [0])):=⟨inferInstance,fun i off n ag h=>by
  match i,h with
  |0,h=>cases h;infer_instance
  |j+1,h=>simp at h,inferInstance,fun k h=>by
  cases h;infer_instance⟩
theorem tf72:TFact Tryz.prog 72 (.one):=(inferInstance:TOne Tryz.prog 72)
theorem tf73:TFact Tryz.prog 73 (.one):=(inferInstance:TOne Tryz.prog 73)
theorem tf74:TFact Tryz.prog 74 (.st 1 [(0,1,false)] (some [0])):=⟨inferInstance,fun i off n ag h=>by
  match i,h with
  |0,h=>cases h;infer_instance
  |j+1,h=>simp at h,inferInstance,fun k h=>by
  cases h;infer_instance⟩
theorem tf75:TFact Tryz.prog 75 (.st 1 [(0,1,false)] (some [0])):=⟨inferInstance,fun i off n ag h=>by
  match i,h with
  |0,h=>cases h;infer_instance
  |j+1,h=>simp at h,inferInstance,fun k h=>by
  cases h;infer_instance⟩
theorem tf76:TFact Tryz.prog 76 (.one):=(inferInstance:TOne Tryz.prog 76)
theorem tf77:TFact Tryz.prog 77 (.one):=(inferInstance:TOne Tryz.prog 77)
theorem tf78:TFact Tryz.prog 78 (.one):=(inferInstance:TOne Tryz.prog 78)
theorem tf79:TFact Tryz.prog 79 (.sl 33 1 24 [.slice none 0 0]):=⟨inferInstance,inferInstance,inferInstance,inferInstance,inferInstance⟩
theorem tf80:TFact Tryz.prog 80 (.one):=(inferInstance:TOne Tryz.prog 80)
theorem tf81:TFact Tryz.prog 81 (.one):=(inferInstance:TOne Tryz.prog 81)
theorem tf82:TFact Tryz.prog 82 (.st 4 [(0,1,false),(1,1,false),(2,1,false),(3,1,false)] none):=⟨inferInstance,fun i off n ag h=>by
  match i,h with
  |0,h=>cases h;infer_instance
  |1,h=>cases h;infer_instance
  |2,h=>cases h;infer_instance
  |3,h=>cases h;infer_instance
  |j+4,h=>simp at h,inferInstance,fun k h=>by
  cases h⟩
theorem tf83:TFact Tryz.prog 83 (.st 4 [(0,1,false),(1,1,false),(2,1,false),(3,1,false)] none):=⟨inferInstance,fun i off n ag h=>by
  match i,h with
  |0,h=>cases h;infer_instance
  |1,h=>cases h;infer_instance
  |2,h=>cases h;infer_instance
  |3,h=>cases h;infer_instance
  |j+4,h=>simp at h,inferInstance,fun k h=>by
  cases h⟩
theorem tf84:TFact Tryz.prog 84 (.one):=(inferInstance:TOne Tryz.prog 84)
theorem tf85:TFact Tryz.prog 85 (.one):=(inferInstance:TOne Tryz.prog 85)
theorem tf86:TFact Tryz.prog 86 (.one):=(inferInstance:TOne Tryz.prog 86)
theorem tf87:TFact Tryz.prog 87 (.one):=(inferInstance:TOne Tryz.prog 87)
theorem tf88:TFact Tryz.prog 88 (.one):=(inferInstance:TOne Tryz.prog 88)
theorem tf89:TFact Tryz.prog 89 (.one):=(inferInstance:TOne Tryz.prog 89)
theorem tf90:TFact Tryz.prog 90 (.one):=(inferInstance:TOne Tryz.prog 90)
theorem tf95:TFact Tryz.prog 95 (.st 4 [(0,1,false),(1,1,false),(2,1,false),(3,1,false)] none):=⟨inferInstance,fun i off n ag h=>by
  match i,h with
  |0,h=>cases h;infer_instance
  |1,h=>cases h;infer_instance
  |2,h=>cases h;infer_instance
  |3,h=>cases h;infer_instance
  |j+4,h=>simp at h,inferInstance,fun k h=>by
  cases h⟩
theorem tf96:TFact Tryz.prog 96 (.one):=(inferInstance:TOne Tryz.prog 96)
theorem tf97:TFact Tryz.prog 97 (.one):=(inferInstance:TOne Tryz.prog 97)
theorem tf98:TFact Tryz.prog 98 (.one):=(inferInstance:TOne Tryz.prog 98)
theorem tf99:TFact Tryz.prog 99 (.one):=(inferInstance:TOne Tryz.prog 99)
theorem tf100:TFact Tryz.prog 100 (.one):=(inferInstance:TOne Tryz.prog 100)
theorem tf101:TFact Tryz.prog 101 (.one):=(inferInstance:TOne Tryz.prog 101)
theorem tf102:TFact Tryz.prog 102 (.one):=(inferInstance:TOne Tryz.prog 102)
theorem tf103:TFact Tryz.prog 103 (.one):=(inferInstance:TOne Tryz.prog 103)
theorem tf104:TFact Tryz.prog 104 (.one):=(inferInstance:TOne Tryz.prog 104)
theorem tf105:TFact Tryz.prog 105 (.one):=(inferInstance:TOne Tryz.prog 105)
theorem tf106:TFact Tryz.prog 106 (.one):=(inferInstance:TOne Tryz.prog 106)
theorem tf107:TFact Tryz.prog 107 (.one):=(inferInstance:TOne Tryz.prog 107)
theorem tf108:TFact Tryz.prog 108 (.one):=(inferInstance:TOne Tryz.prog 108)
theorem tf109:TFact Tryz.prog 109 (.sl 125 1 24 [.slice none 0 0]):=⟨inferInstance,inferInstance,inferInstance,inferInstance,inferInstance⟩
theorem tf110:TFact Tryz.prog 110 (.st 2 [(0,1,false),(1,1,false)] none):=⟨inferInstance,fun i off n ag h=>by
  match i,h with
  |0,h=>cases h;infer_instance
  |1,h=>cases h;infer_instance
  |j+2,h=>simp at h,inferInstance,fun k h=>by
  cases h⟩
theorem tf111:TFact Tryz.prog 111 (.st 2 [(0,1,false),(1,1,false)] none):=⟨inferInstance,fun i off n ag h=>by
  match i,h with
  |0,h=>cases h;infer_instance
  |1,h=>cases h;infer_instance
  |j+2,h=>simp at h,inferInstance,fun k h=>by
  cases h⟩
theorem tf112:TFact Tryz.prog 112 (.st 4 [(0,1,false),(1,2,true),(3,1,false)] none):=⟨inferInstance,fun i off n ag h=>by
  match i,h with
  |0,h=>cases h;infer_instance
  |1,h=>cases h;infer_instance
  |2,h=>cases h;infer_instance
  |j+3,h=>simp at h,inferInstance,fun k h=>by
  cases h⟩
theorem tf113:TFact Tryz.prog 113 (.st 4 [(0,1,false),(1,2,true),(3,1,false)] none):=⟨inferInstance,fun i off n ag h=>by
  match i,h with
  |0,h=>cases h;infer_instance
  |1,h=>cases h;infer_instance
  |2,h=>cases h;infer_instance
  |j+3,h=>simp at h,inferInstance,fun k h=>by
  cases h⟩
theorem tf114:TFact Tryz.prog 114 (.one):=(inferInstance:TOne Tryz.prog 114)
theorem tf115:TFact Tryz.prog 115 (.one):=(inferInstance:TOne Tryz.prog 115)
theorem tf116:TFact Tryz.prog 116 (.one):=(inferInstance:TOne Tryz.prog 116)
theorem tf117:TFact Tryz.prog 117 (.one):=(inferInstance:TOne Tryz.prog 117)
theorem tf118:TFact Tryz.prog 118 (.one):=(inferInstance:TOne Tryz.prog 118)
theorem tf119:TFact Tryz.prog 119 (.one):=(inferInstance:TOne Tryz.prog 119)
theorem tf120:TFact Tryz.prog 120 (.one):=(inferInstance:TOne Tryz.prog 120)
theorem tf121:TFact Tryz.prog 121 (.one):=(inferInstance:TOne Tryz.prog 121)
theorem tf122:TFact Tryz.prog 122 (.sl 3 1 8 [.int .i64 0]):=⟨inferInstance,inferInstance,inferInstance,inferInstance,inferInstance⟩
theorem tf123:TFact Tryz.prog 123 (.sl 23 1 24 [.slice none 0 0]):=⟨inferInstance,inferInstance,inferInstance,inferInstance,inferInstance⟩
theorem tf125:TFact Tryz.prog 125 (.st 1 [(0,1,false)] none):=⟨inferInstance,fun i off n ag h=>by
  match i,h with
  |0,h=>cases h;infer_instance
  |j+1,h=>simp at h,inferInstance,fun k h=>by
  cases h⟩
theorem tf127:TFact Tryz.prog 127 (.st 3 [(0,1,false),(1,1,false),(2,1,false)] (some [0,0,0])):=⟨inferInstance,fun i off n ag h=>by
  match i,h with
  |0,h=>cases h;infer_instance
  |1,h=>cases h;infer_instance
  |2,h=>cases h;infer_instance
  |j+3,h=>simp at h,inferInstance,fun k h=>by
  cases h;infer_instance⟩
theorem tf128:TFact Tryz.prog 128 (.one):=(inferInstance:TOne Tryz.prog 128)
theorem tf132:TFact Tryz.prog 132 (.st 2 [(0,1,false),(1,1,false)] (some [0,0])):=⟨inferInstance,fun i off n ag h=>by
  match i,h with
  |0,h=>cases h;infer_instance
  |1,h=>cases h;infer_instance
  |j+2,h=>simp at h,inferInstance,fun k h=>by
  cases h;infer_instance⟩
theorem tf133:TFact Tryz.prog 133 (.one):=(inferInstance:TOne Tryz.prog 133)
theorem tf135:TFact Tryz.prog 135 (.sl 184 1 4 [.int .u32 0]):=⟨inferInstance,inferInstance,inferInstance,inferInstance,inferInstance⟩
theorem tf137:TFact Tryz.prog 137 (.st 2 [(0,1,false),(1,1,false)] none):=⟨inferInstance,fun i off n ag h=>by
  match i,h with
  |0,h=>cases h;infer_instance
  |1,h=>cases h;infer_instance
  |j+2,h=>simp at h,inferInstance,fun k h=>by
  cases h⟩
theorem tf148:TFact Tryz.prog 148 (.one):=(inferInstance:TOne Tryz.prog 148)
theorem tf151:TFact Tryz.prog 151 (.one):=(inferInstance:TOne Tryz.prog 151)
theorem tf158:TFact Tryz.prog 158 (.sl 5 1 1 [.int .u8 0]):=⟨inferInstance,inferInstance,inferInstance,inferInstance,inferInstance⟩
theorem tf163:TFact Tryz.prog 163 (.ifc):=⟨inferInstance,inferInstance⟩
theorem tf164:TFact Tryz.prog 164 (.one):=(inferInstance:TOne Tryz.prog 164)
theorem tf168:TFact Tryz.prog 168 (.st 4 [(0,1,false),(1,1,false),(2,1,false),(3,1,false)] (some [2,2,2,2])):=⟨inferInstance,fun i off n ag h=>by
  match i,h with
  |0,h=>cases h;infer_instance
  |1,h=>cases h;infer_instance
  |2,h=>cases h;infer_instance
  |3,h=>cases h;infer_instance
  |j+4,h=>simp at h,inferInstance,fun k h=>by
  cases h;infer_instance⟩
theorem tf174:TFact Tryz.prog 174 (.sl 111 2 40 [.string ⟨#[]⟩,.slice none 0 0]):=⟨inferInstance,inferInstance,inferInstance,inferInstance,inferInstance⟩
theorem tf177:TFact Tryz.prog 177 (.one):=(inferInstance:TOne Tryz.prog 177)
theorem tf182:TFact Tryz.prog 182 (.int .u64):=⟨inferInstance,inferInstance⟩
theorem tf184:TFact Tryz.prog 184 (.int .u32):=⟨inferInstance,inferInstance⟩
theorem tf185:TFact Tryz.prog 185 (.int .u64):=⟨inferInstance,inferInstance⟩
theorem tf191:TFact Tryz.prog 191 (.st 2 [(0,1,false),(1,1,false)] none):=⟨inferInstance,fun i off n ag h=>by
  match i,h with
  |0,h=>cases h;infer_instance
  |1,h=>cases h;infer_instance
  |j+2,h=>simp at h,inferInstance,fun k h=>by
  cases h⟩
theorem tf194:TFact Tryz.prog 194 (.one):=(inferInstance:TOne Tryz.prog 194)
theorem tf213:TFact Tryz.prog 213 (.one):=(inferInstance:TOne Tryz.prog 213)
theorem tf233:TFact Tryz.prog 233 (.int .i64):=⟨inferInstance,inferInstance⟩
theorem tf234:TFact Tryz.prog 234 (.one):=(inferInstance:TOne Tryz.prog 234)
theorem tf236:TFact Tryz.prog 236 (.one):=(inferInstance:TOne Tryz.prog 236)
theorem tf247:TFact Tryz.prog 247 (.st 2 [(0,1,false),(1,1,false)] (some [0,0])):=⟨inferInstance,fun i off n ag h=>by
  match i,h with
  |0,h=>cases h;infer_instance
  |1,h=>cases h;infer_instance
  |j+2,h=>simp at h,inferInstance,fun k h=>by
  cases h;infer_instance⟩
theorem tf254:TFact Tryz.prog 254 (.one):=(inferInstance:TOne Tryz.prog 254)
theorem tf270:TFact Tryz.prog 270 (.one):=(inferInstance:TOne Tryz.prog 270)
theorem tf273:TFact Tryz.prog 273 (.st 3 [(0,1,false),(1,1,false),(2,1,false)] none):=⟨inferInstance,fun i off n ag h=>by
  match i,h with
  |0,h=>cases h;infer_instance
  |1,h=>cases h;infer_instance
  |2,h=>cases h;infer_instance
  |j+3,h=>simp at h,inferInstance,fun k h=>by
  cases h⟩
theorem tf293:TFact Tryz.prog 293 (.one):=(inferInstance:TOne Tryz.prog 293)
theorem tf296:TFact Tryz.prog 296 (.one):=(inferInstance:TOne Tryz.prog 296)
theorem tf298:TFact Tryz.prog 298 (.st 1 [(0,1,false)] (some [1])):=⟨inferInstance,fun i off n ag h=>by
  match i,h with
  |0,h=>cases h;infer_instance
  |j+1,h=>simp at h,inferInstance,fun k h=>by
  cases h;infer_instance⟩
def TAB:List (Nat × TI) := [(0,.one),(1,.one),(2,.int .i64),(3,.int .i64),(4,.bool),(5,.int .u8),(6,.int .u8),(7,.st 4 [(0,1,false),(1,1,false),(2,1,false),(3,1,false)] (some [0,0,2,0])),(8,.st 4 [(0,1,false),(1,1,false),(2,1,false),(3,1,false)] (some [0,0,2,0])),(9,.str),(10,.str),(11,.str),(20,.ifc),(21,.int .i32),(22,.sl 42 7 104 [.string ⟨#[]⟩,.int .i64 0,.slice none 0 0,.string ⟨#[]⟩,.slice none 0 0,.int .i64 0,.int .i64 0]),(23,.sl 9 1 16 [.string ⟨#[]⟩]),(24,.int .i64),(25,.one),(30,.sl 32 6 88 [.int .i64 0,.slice none 0 0,.string ⟨#[]⟩,.slice none 0 0,.int .i64 0,.int .i64 0]),(32,.st 6 [(0,1,false),(1,1,false),(2,1,false),(3,1,false),(4,1,false),(5,1,false)] none),(33,.sl 113 4 80 [.string ⟨#[]⟩,.string ⟨#[]⟩,.slice none 0 0,.slice none 0 0]),(34,.one),(40,.one),(41,.st 7 [(0,1,false),(1,6,true)] none),(42,.st 7 [(0,1,false),(1,6,true)] none),(43,.sl 48 3 40 [.int .i64 0,.int .i64 0,.slice none 0 0]),(44,.one),(45,.one),(46,.sl 49 1 24 [.slice none 0 0]),(47,.st 3 [(0,1,false),(1,1,false),(2,1,false)] none),(48,.st 3 [(0,1,false),(1,1,false),(2,1,false)] none),(49,.sl 4 1 1 [.bool false]),(50,.one),(51,.one),(52,.one),(53,.one),(54,.one),(55,.one),(56,.one),(57,.one),(58,.one),(64,.one),(65,.one),(66,.one),(67,.one),(68,.one),(69,.one),(70,.st 1 [(0,1,false)] (some [0])),(71,.st 1 [(0,1,false)] (some [0])),(72,.one),(73,.one),(74,.st 1 [(0,1,false)] (some [0])),(75,.st 1 [(0,1,false)] (some [0])),(76,.one),(77,.one),(78,.one),(79,.sl 33 1 24 [.slice none 0 0]),(80,.one),(81,.one),(82,.st 4 [(0,1,false),(1,1,false),(2,1,false),(3,1,false)] none),(83,.st 4 [(0,1,false),(1,1,false),(2,1,false),(3,1,false)] none),(84,.one),(85,.one),(86,.one),(87,.one),(88,.one),(89,.one),(90,.one),(95,.st 4 [(0,1,false),(1,1,false),(2,1,false),(3,1,false)] none),(96,.one),(97,.one),(98,.one),(99,.one),(100,.one),(101,.one),(102,.one),(103,.one),(104,.one),(105,.one),(106,.one),(107,.one),(108,.one),(109,.sl 125 1 24 [.slice none 0 0]),(110,.st 2 [(0,1,false),(1,1,false)] none),(111,.st 2 [(0,1,false),(1,1,false)] none),(112,.st 4 [(0,1,false),(1,2,true),(3,1,false)] none),(113,.st 4 [(0,1,false),(1,2,true),(3,1,false)] none),(114,.one),(115,.one),(116,.one),(117,.one),(118,.one),(119,.one),(120,.one),(121,.one),(122,.sl 3 1 8 [.int .i64 0]),(123,.sl 23 1 24 [.slice none 0 0]),(125,.st 1 [(0,1,false)] none),(127,.st 3 [(0,1,false),(1,1,false),(2,1,false)] (some [0,0,0])),(128,.one),(132,.st 2 [(0,1,false),(1,1,false)] (some [0,0])),(133,.one),(135,.sl 184 1 4 [.int .u32 0]),(137,.st 2 [(0,1,false),(1,1,false)] none),(148,.one),(151,.one),(158,.sl 5 1 1 [.int .u8 0]),(163,.ifc),(164,.one),(168,.st 4 [(0,1,false),(1,1,false),(2,1,false),(3,1,false)] (some [2,2,2,2])),(174,.sl 111 2 40 [.string ⟨#[]⟩,.slice none 0 0]),(177,.one),(182,.int .u64),(184,.int .u32),(185,.int .u64),(191,.st 2 [(0,1,false),(1,1,false)] none),(194,.one),(213,.one),(233,.int .i64),(234,.one),(236,.one),(247,.st 2 [(0,1,false),(1,1,false)] (some [0,0])),(254,.one),(270,.one),(273,.st 3 [(0,1,false),(1,1,false),(2,1,false)] none),(293,.one),(296,.one),(298,.st 1 [(0,1,false)] (some [1]))]
def ZAB:List (Nat × List Value) := [(1,[.nilFunc]),(2,[.int .i64 0]),(3,[.int .i64 0]),(4,[.bool false]),(5,[.int .u8 0]),(6,[.int .u8 0]),(7,[.int .i64 0,.int .i64 0,.bool false,.int .u8 0]),(8,[.int .i64 0,.int .i64 0,.bool false,.int .u8 0]),(9,[.string ⟨#[]⟩]),(10,[.string ⟨#[]⟩]),(11,[.string ⟨#[]⟩]),(20,[.nilIface]),(21,[.int .i32 0]),(22,[.slice none 0 0]),(23,[.slice none 0 0]),(24,[.int .i64 0]),(30,[.slice none 0 0]),(32,[.int .i64 0,.slice none 0 0,.string ⟨#[]⟩,.slice none 0 0,.int .i64 0,.int .i64 0]),(33,[.slice none 0 0]),(40,[.nilFunc]),(41,[.string ⟨#[]⟩,.int .i64 0,.slice none 0 0,.string ⟨#[]⟩,.slice none 0 0,.int .i64 0,.int .i64 0]),(42,[.string ⟨#[]⟩,.int .i64 0,.slice none 0 0,.string ⟨#[]⟩,.slice none 0 0,.int .i64 0,.int .i64 0]),(43,[.slice none 0 0]),(45,[.nilFunc]),(46,[.slice none 0 0]),(47,[.int .i64 0,.int .i64 0,.slice none 0 0]),(48,[.int .i64 0,.int .i64 0,.slice none 0 0]),(49,[.slice none 0 0]),(50,[.nilFunc]),(51,[.nilFunc]),(52,[.nilFunc]),(53,[.nilFunc]),(55,[.nilFunc]),(56,[.nilFunc]),(57,[.nilFunc]),(58,[.nilFunc]),(64,[.nilFunc]),(65,[.nilFunc]),(66,[.nilFunc]),(67,[.nilFunc]),(68,[.nilFunc]),(69,[.pointer none]),(70,[.int .i64 0]),(71,[.int .i64 0]),(72,[.nilFunc]),(73,[.pointer none]),(74,[.int .i64 0]),(75,[.int .i64 0]),(76,[.nilFunc]),(77,[.nilFunc]),(78,[.nilFunc]),(79,[.slice none 0 0]),(80,[.nilFunc]),(81,[.nilFunc]),(82,[.slice none 0 0,.string ⟨#[]⟩,.int .i64 0,.int .i64 0]),(83,[.slice none 0 0,.string ⟨#[]⟩,.int .i64 0,.int .i64 0]),(85,[.nilFunc]),(86,[.nilFunc]),(87,[.nilFunc]),(88,[.nilFunc]),(89,[.nilFunc]),(95,[.slice none 0 0,.string ⟨#[]⟩,.int .i64 0,.int .i64 0]),(97,[.nilFunc]),(98,[.nilFunc]),(99,[.nilFunc]),(100,[.nilFunc]),(101,[.nilFunc]),(102,[.nilFunc]),(103,[.nilFunc]),(104,[.nilFunc]),(105,[.nilFunc]),(106,[.nilFunc]),(107,[.nilFunc]),(108,[.nilFunc]),(109,[.slice none 0 0]),(110,[.string ⟨#[]⟩,.slice none 0 0]),(111,[.string ⟨#[]⟩,.slice none 0 0]),(112,[.string ⟨#[]⟩,.string ⟨#[]⟩,.slice none 0 0,.slice none 0 0]),(113,[.string ⟨#[]⟩,.string ⟨#[]⟩,.slice none 0 0,.slice none 0 0]),(114,[.nilFunc]),(115,[.nilFunc]),(117,[.nilFunc]),(118,[.nilFunc]),(119,[.nilFunc]),(121,[.nilFunc]),(122,[.slice none 0 0]),(123,[.slice none 0 0]),(125,[.slice none 0 0]),(127,[.int .i64 0,.int .i64 0,.int .i64 0]),(132,[.int .i64 0,.int .i64 0]),(135,[.slice none 0 0]),(137,[.bool false,.slice none 0 0]),(151,[.pointer none]),(158,[.slice none 0 0]),(163,[.nilIface]),(168,[.bool false,.bool false,.bool false,.bool false]),(174,[.slice none 0 0]),(182,[.int .u64 0]),(184,[.int .u32 0]),(185,[.int .u64 0]),(191,[.bool false,.slice none 0 0]),(213,[.pointer none]),(233,[.int .i64 0]),(236,[.pointer none]),(247,[.int .u8 0,.int .u8 0]),(273,[.string ⟨#[]⟩,.string ⟨#[]⟩,.nilIface]),(296,[.pointer none]),(298,[.string ⟨#[]⟩])]
def T:Nat→Option TI:=lookT TAB
def Z:Nat→Option (List Value):=lookT ZAB
theorem hT:TOk Tryz.prog T Z:=by
 refine ⟨fun t i h => ?_,fun t z h => ?_⟩
 ·have hall:AllT (TFact Tryz.prog) TAB:=by
   unfold TAB
   exact ⟨tf0,tf1,tf2,tf3,tf4,tf5,tf6,tf7,tf8,tf9,tf10,tf11,tf20,tf21,tf22,tf23,tf24,tf25,tf30,tf32,tf33,tf34,tf40,tf41,tf42,tf43,tf44,tf45,tf46,tf47,tf48,tf49,tf50,tf51,tf52,tf53,tf54,tf55,tf56,tf57,tf58,tf64,tf65,tf66,tf67,tf68,tf69,tf70,tf71,tf72,tf73,tf74,tf75,tf76,tf77,tf78,tf79,tf80,tf81,tf82,tf83,tf84,tf85,tf86,tf87,tf88,tf89,tf90,tf95,tf96,tf97,tf98,tf99,tf100,tf101,tf102,tf103,tf104,tf105,tf106,tf107,tf108,tf109,tf110,tf111,tf112,tf113,tf114,tf115,tf116,tf117,tf118,tf119,tf120,tf121,tf122,tf123,tf125,tf127,tf128,tf132,tf133,tf135,tf137,tf148,tf151,tf158,tf163,tf164,tf168,tf174,tf177,tf182,tf184,tf185,tf191,tf194,tf213,tf233,tf234,tf236,tf247,tf254,tf270,tf273,tf293,tf296,tf298,trivial⟩
  exact hall.at h
 ·have hall:AllT (TZer Tryz.prog) ZAB:=by
   unfold ZAB
   exact ⟨inferInstance,inferInstance,inferInstance,inferInstance,inferInstance,inferInstance,inferInstance,inferInstance,inferInstance,inferInstance,inferInstance,inferInstance,inferInstance,inferInstance,inferInstance,inferInstance,inferInstance,inferInstance,inferInstance,inferInstance,inferInstance,inferInstance,inferInstance,inferInstance,inferInstance,inferInstance,inferInstance,inferInstance,inferInstance,inferInstance,inferInstance,inferInstance,inferInstance,inferInstance,inferInstance,inferInstance,inferInstance,inferInstance,inferInstance,inferInstance,inferInstance,inferInstance,inferInstance,inferInstance,inferInstance,inferInstance,inferInstance,inferInstance,inferInstance,inferInstance,inferInstance,inferInstance,inferInstance,inferInstance,inferInstance,inferInstance,inferInstance,inferInstance,inferInstance,inferInstance,inferInstance,inferInstance,inferInstance,inferInstance,inferInstance,inferInstance,inferInstance,inferInstance,inferInstance,inferInstance,inferInstance,inferInstance,inferInstance,inferInstance,inferInstance,inferInstance,inferInstance,inferInstance,inferInstance,inferInstance,inferInstance,inferInstance,inferInstance,inferInstance,inferInstance,inferInstance,inferInstance,inferInstance,inferInstance,inferInstance,inferInstance,inferInstance,inferInstance,inferInstance,inferInstance,inferInstance,inferInstance,inferInstance,inferInstance,inferInstance,inferInstance,inferInstance,inferInstance,inferInstance,inferInstance,inferInstance,inferInstance,inferInstance,trivial⟩
  exact hall.at h
theorem hM:Tryz.prog.follows .mixedOrders=true:=by kernel_rfl
theorem si {f : Nat} {fn : Go.Func} {c : Go.Code} {args : List D} {d : D} {rs : List Go.ResultVar} (l : List Nat) (hf : Tryz.prog.funcs[f]? = some fn) (hv : forceL (args ++ List.replicate (fn.ntmps - args.length) .any) fun fr => vc Tryz.prog T Z (fun t => mem t l) c fr fun e fr' => Ends T e rs fr' d) (hb : fn.body = some c := by exact rfl) (hname : (fn.name == "runtime.NumGoroutine") = false := by kernel_rfl) (hcalm : d.calm = true := by exact rfl) (hargs : (args.all fun d => d.calm || d.passes) = true := by exact rfl) (hnt : Nat.ble args.length fn.ntmps = true := by exact rfl) (hrs : fn.results.toList = rs := by exact rfl) (hnd : decide (rs.map slotOf).Nodup = true := by exact rfl) : Sem Tryz.prog f args d :=
 sem_intro hT hM hf ⟨fn,hf,hname,by rw [hb];rfl⟩ hb hcalm hargs hnt hrs hnd hv
end Go.Proofs.YtnlbekongmkmjaaGreatDoor
