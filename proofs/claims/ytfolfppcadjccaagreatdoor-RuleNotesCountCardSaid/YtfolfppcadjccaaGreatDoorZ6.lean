/- The tables of types for the data machine. (Written by wip/dtab.py.). -/
import Derived.Test.YtfolfppcadjccaaGreatDoorZ3
import Derived.Test.YtfolfppcadjccaaGreatDoorZ5
namespace Go.Proofs.YtfolfppcadjccaaGreatDoor
open Go.RowKit
def lookT {α:Type}:List (Nat × α)→Nat→Option α
 | [],_=>none
 | (k,v)::r,t=>match Nat.beq k t with
  | true=>some v
  | false=>lookT r t
def AllT {α:Type} (R:Nat→α→Prop):List (Nat × α)→Prop
 | []=>True
 | (k,v)::l=>R k v∧AllT R l
theorem AllT.at {α:Type} {R:Nat→α→Prop}:∀ {l:List (Nat × α)} {t:Nat} {x:α},AllT R l→lookT l t=some x→R t x
 | [],_,_,_,h=>by cases h
 | (k,v)::r,t,x,ha,h=>by
  simp only [lookT] at h
  split at h
  ·rename_i hk
   have hk:=Nat.eq_of_beq_eq_true hk
   cases h
   subst hk
   exact ha.1
  ·exact AllT.at ha.2 h
set_option maxRecDepth 100000
theorem tf0:TFact Tryz.prog 0 (.one):=(inferInstance:TOne Tryz.prog 0)
theorem tf1:TFact Tryz.prog 1 (.one):=(inferInstance:TOne Tryz.prog 1)
theorem tf2:TFact Tryz.prog 2 (.int .i64):=⟨inferInstance,inferInstance⟩
theorem tf3:TFact Tryz.prog 3 (.int .i64):=⟨inferInstance,inferInstance⟩
theorem tf4:TFact Tryz.prog 4 (.bool):=⟨inferInstance,inferInstance⟩
theorem tf5:TFact Tryz.prog 5 (.int .u8):=⟨inferInstance,inferInstance⟩
theorem tf6:TFact Tryz.prog 6 (.int .u8):=⟨inferInstance,inferInstance⟩
theorem tf7:TFact Tryz.prog 7 (.st 4 [(0,1,false),(1,1,false),(2,1,false),(3,1,false)] (some [0,0,2,0])):=⟨inferInstance,fun i off n ag h=>by
  match i,h with
  | 0,h=>cases h;infer_instance
  | 1,h=>cases h;infer_instance
  | 2,h=>cases h;infer_instance
  | 3,h=>cases h;infer_instance
  | j+4,h=>simp at h,inferInstance,fun k h=>by
  cases h;infer_instance⟩
theorem tf8:TFact Tryz.prog 8 (.st 4 [(0,1,false),(1,1,false),(2,1,false),(3,1,false)] (some [0,0,2,0])):=⟨inferInstance,fun i off n ag h=>by
  match i,h with
  | 0,h=>cases h;infer_instance
  | 1,h=>cases h;infer_instance
  | 2,h=>cases h;infer_instance
  | 3,h=>cases h;infer_instance
  | j+4,h=>simp at h,inferInstance,fun k h=>by
  cases h;infer_instance⟩
theorem tf9:TFact Tryz.prog 9 (.str):=⟨inferInstance,inferInstance⟩
theorem tf10:TFact Tryz.prog 10 (.str):=⟨inferInstance,inferInstance⟩
theorem tf11:TFact Tryz.prog 11 (.str):=⟨inferInstance,inferInstance⟩
theorem tf20:TFact Tryz.prog 20 (.ifc):=⟨inferInstance,inferInstance⟩
theorem tf21:TFact Tryz.prog 21 (.int .i32):=⟨inferInstance,inferInstance⟩
theorem tf22:TFact Tryz.prog 22 (.sl 25 6 88 [.int .i64 0,.slice none 0 0,.string ⟨#[]⟩,.slice none 0 0,.int .i64 0,.int .i64 0]):=⟨inferInstance,inferInstance,inferInstance,inferInstance,inferInstance⟩
theorem tf23:TFact Tryz.prog 23 (.sl 9 1 16 [.string ⟨#[]⟩]):=⟨inferInstance,inferInstance,inferInstance,inferInstance,inferInstance⟩
theorem tf25:TFact Tryz.prog 25 (.st 6 [(0,1,false),(1,1,false),(2,1,false),(3,1,false),(4,1,false),(5,1,false)] none):=⟨inferInstance,fun i off n ag h=>by
  match i,h with
  | 0,h=>cases h;infer_instance
  | 1,h=>cases h;infer_instance
  | 2,h=>cases h;infer_instance
  | 3,h=>cases h;infer_instance
  | 4,h=>cases h;infer_instance
  | 5,h=>cases h;infer_instance
  | j+6,h=>simp at h,inferInstance,fun k h=>by
  cases h⟩
theorem tf26:TFact Tryz.prog 26 (.sl 50 4 80 [.string ⟨#[]⟩,.string ⟨#[]⟩,.slice none 0 0,.slice none 0 0]):=⟨inferInstance,inferInstance,inferInstance,inferInstance,inferInstance⟩
theorem tf27:TFact Tryz.prog 27 (.int .i64):=⟨inferInstance,inferInstance⟩
theorem tf28:TFact Tryz.prog 28 (.one):=(inferInstance:TOne Tryz.prog 28)
theorem tf32:TFact Tryz.prog 32 (.sl 63 7 104 [.string ⟨#[]⟩,.int .i64 0,.slice none 0 0,.string ⟨#[]⟩,.slice none 0 0,.int .i64 0,.int .i64 0]):=⟨inferInstance,inferInstance,inferInstance,inferInstance,inferInstance⟩
theorem tf38:TFact Tryz.prog 38 (.one):=(inferInstance:TOne Tryz.prog 38)
theorem tf40:TFact Tryz.prog 40 (.sl 26 1 24 [.slice none 0 0]):=⟨inferInstance,inferInstance,inferInstance,inferInstance,inferInstance⟩
theorem tf41:TFact Tryz.prog 41 (.one):=(inferInstance:TOne Tryz.prog 41)
theorem tf44:TFact Tryz.prog 44 (.sl 3 1 8 [.int .i64 0]):=⟨inferInstance,inferInstance,inferInstance,inferInstance,inferInstance⟩
theorem tf45:TFact Tryz.prog 45 (.sl 53 1 24 [.slice none 0 0]):=⟨inferInstance,inferInstance,inferInstance,inferInstance,inferInstance⟩
theorem tf46:TFact Tryz.prog 46 (.st 2 [(0,1,false),(1,1,false)] none):=⟨inferInstance,fun i off n ag h=>by
  match i,h with
  | 0,h=>cases h;infer_instance
  | 1,h=>cases h;infer_instance
  | j+2,h=>simp at h,inferInstance,fun k h=>by
  cases h⟩
theorem tf47:TFact Tryz.prog 47 (.st 2 [(0,1,false),(1,1,false)] none):=⟨inferInstance,fun i off n ag h=>by
  match i,h with
  | 0,h=>cases h;infer_instance
  | 1,h=>cases h;infer_instance
  | j+2,h=>simp at h,inferInstance,fun k h=>by
  cases h⟩
theorem tf48:TFact Tryz.prog 48 (.one):=(inferInstance:TOne Tryz.prog 48)
theorem tf49:TFact Tryz.prog 49 (.st 4 [(0,1,false),(1,2,true),(3,1,false)] none):=⟨inferInstance,fun i off n ag h=>by
  match i,h with
  | 0,h=>cases h;infer_instance
  | 1,h=>cases h;infer_instance
  | 2,h=>cases h;infer_instance
  | j+3,h=>simp at h,inferInstance,fun k h=>by
  cases h⟩
theorem tf50:TFact Tryz.prog 50 (.st 4 [(0,1,false),(1,2,true),(3,1,false)] none):=⟨inferInstance,fun i off n ag h=>by
  match i,h with
  | 0,h=>cases h;infer_instance
  | 1,h=>cases h;infer_instance
  | 2,h=>cases h;infer_instance
  | j+3,h=>simp at h,inferInstance,fun k h=>by
  cases h⟩
theorem tf51:TFact Tryz.prog 51 (.sl 23 1 24 [.slice none 0 0]):=⟨inferInstance,inferInstance,inferInstance,inferInstance,inferInstance⟩
theorem tf52:TFact Tryz.prog 52 (.st 1 [(0,1,false)] none):=⟨inferInstance,fun i off n ag h=>by
  match i,h with
  | 0,h=>cases h;infer_instance
  | j+1,h=>simp at h,inferInstance,fun k h=>by
  cases h⟩
theorem tf53:TFact Tryz.prog 53 (.st 1 [(0,1,false)] none):=⟨inferInstance,fun i off n ag h=>by
  match i,h with
  | 0,h=>cases h;infer_instance
  | j+1,h=>simp at h,inferInstance,fun k h=>by
  cases h⟩
theorem tf54:TFact Tryz.prog 54 (.one):=(inferInstance:TOne Tryz.prog 54)
theorem tf55:TFact Tryz.prog 55 (.one):=(inferInstance:TOne Tryz.prog 55)
theorem tf56:TFact Tryz.prog 56 (.one):=(inferInstance:TOne Tryz.prog 56)
theorem tf57:TFact Tryz.prog 57 (.one):=(inferInstance:TOne Tryz.prog 57)
theorem tf58:TFact Tryz.prog 58 (.one):=(inferInstance:TOne Tryz.prog 58)
theorem tf63:TFact Tryz.prog 63 (.st 7 [(0,1,false),(1,6,true)] none):=⟨inferInstance,fun i off n ag h=>by
  match i,h with
  | 0,h=>cases h;infer_instance
  | 1,h=>cases h;infer_instance
  | j+2,h=>simp at h,inferInstance,fun k h=>by
  cases h⟩
theorem tf65:TFact Tryz.prog 65 (.one):=(inferInstance:TOne Tryz.prog 65)
theorem tf66:TFact Tryz.prog 66 (.one):=(inferInstance:TOne Tryz.prog 66)
theorem tf67:TFact Tryz.prog 67 (.one):=(inferInstance:TOne Tryz.prog 67)
theorem tf68:TFact Tryz.prog 68 (.one):=(inferInstance:TOne Tryz.prog 68)
theorem tf69:TFact Tryz.prog 69 (.one):=(inferInstance:TOne Tryz.prog 69)
theorem tf70:TFact Tryz.prog 70 (.one):=(inferInstance:TOne Tryz.prog 70)
theorem tf71:TFact Tryz.prog 71 (.one):=(inferInstance:TOne Tryz.prog 71)
theorem tf72:TFact Tryz.prog 72 (.one):=(inferInstance:TOne Tryz.prog 72)
theorem tf73:TFact Tryz.prog 73 (.one):=(inferInstance:TOne Tryz.prog 73)
theorem tf74:TFact Tryz.prog 74 (.one):=(inferInstance:TOne Tryz.prog 74)
theorem tf75:TFact Tryz.prog 75 (.one):=(inferInstance:TOne Tryz.prog 75)
theorem tf76:TFact Tryz.prog 76 (.sl 82 3 40 [.int .i64 0,.int .i64 0,.slice none 0 0]):=⟨inferInstance,inferInstance,inferInstance,inferInstance,inferInstance⟩
theorem tf77:TFact Tryz.prog 77 (.one):=(inferInstance:TOne Tryz.prog 77)
theorem tf78:TFact Tryz.prog 78 (.one):=(inferInstance:TOne Tryz.prog 78)
theorem tf79:TFact Tryz.prog 79 (.one):=(inferInstance:TOne Tryz.prog 79)
theorem tf80:TFact Tryz.prog 80 (.sl 4 1 1 [.bool false]):=⟨inferInstance,inferInstance,inferInstance,inferInstance,inferInstance⟩
theorem tf81:TFact Tryz.prog 81 (.st 3 [(0,1,false),(1,1,false),(2,1,false)] none):=⟨inferInstance,fun i off n ag h=>by
  match i,h with
  | 0,h=>cases h;infer_instance
  | 1,h=>cases h;infer_instance
  | 2,h=>cases h;infer_instance
  | j+3,h=>simp at h,inferInstance,fun k h=>by
  cases h⟩
theorem tf82:TFact Tryz.prog 82 (.st 3 [(0,1,false),(1,1,false),(2,1,false)] none):=⟨inferInstance,fun i off n ag h=>by
  match i,h with
  | 0,h=>cases h;infer_instance
  | 1,h=>cases h;infer_instance
  | 2,h=>cases h;infer_instance
  | j+3,h=>simp at h,inferInstance,fun k h=>by
  cases h⟩
theorem tf83:TFact Tryz.prog 83 (.one):=(inferInstance:TOne Tryz.prog 83)
theorem tf84:TFact Tryz.prog 84 (.sl 80 1 24 [.slice none 0 0]):=⟨inferInstance,inferInstance,inferInstance,inferInstance,inferInstance⟩
theorem tf85:TFact Tryz.prog 85 (.one):=(inferInstance:TOne Tryz.prog 85)
theorem tf86:TFact Tryz.prog 86 (.one):=(inferInstance:TOne Tryz.prog 86)
theorem tf87:TFact Tryz.prog 87 (.one):=(inferInstance:TOne Tryz.prog 87)
theorem tf88:TFact Tryz.prog 88 (.st 1 [(0,1,false)] (some [0])):=⟨inferInstance,fun i off n ag h=>by
  match i,h with
  | 0,h=>cases h;infer_instance
  | j+1,h=>simp at h,inferInstance,fun k h=>by
  cases h;infer_instance⟩
theorem tf89:TFact Tryz.prog 89 (.st 1 [(0,1,false)] (some [0])):=⟨inferInstance,fun i off n ag h=>by
  match i,h with
  | 0,h=>cases h;infer_instance
  | j+1,h=>simp at h,inferInstance,fun k h=>by
  cases h;infer_instance⟩
theorem tf90:TFact Tryz.prog 90 (.one):=(inferInstance:TOne Tryz.prog 90)
theorem tf91:TFact Tryz.prog 91 (.one):=(inferInstance:TOne Tryz.prog 91)
theorem tf93:TFact Tryz.prog 93 (.st 1 [(0,1,false)] (some [0])):=⟨inferInstance,fun i off n ag h=>by
  match i,h with
  | 0,h=>cases h;infer_instance
  | j+1,h=>simp at h,inferInstance,fun k h=>by
  cases h;infer_instance⟩
theorem tf95:TFact Tryz.prog 95 (.one):=(inferInstance:TOne Tryz.prog 95)
theorem tf97:TFact Tryz.prog 97 (.one):=(inferInstance:TOne Tryz.prog 97)
theorem tf98:TFact Tryz.prog 98 (.one):=(inferInstance:TOne Tryz.prog 98)
theorem tf99:TFact Tryz.prog 99 (.st 4 [(0,1,false),(1,1,false),(2,1,false),(3,1,false)] none):=⟨inferInstance,fun i off n ag h=>by
  match i,h with
  | 0,h=>cases h;infer_instance
  | 1,h=>cases h;infer_instance
  | 2,h=>cases h;infer_instance
  | 3,h=>cases h;infer_instance
  | j+4,h=>simp at h,inferInstance,fun k h=>by
  cases h⟩
theorem tf100:TFact Tryz.prog 100 (.st 4 [(0,1,false),(1,1,false),(2,1,false),(3,1,false)] none):=⟨inferInstance,fun i off n ag h=>by
  match i,h with
  | 0,h=>cases h;infer_instance
  | 1,h=>cases h;infer_instance
  | 2,h=>cases h;infer_instance
  | 3,h=>cases h;infer_instance
  | j+4,h=>simp at h,inferInstance,fun k h=>by
  cases h⟩
theorem tf101:TFact Tryz.prog 101 (.one):=(inferInstance:TOne Tryz.prog 101)
theorem tf102:TFact Tryz.prog 102 (.one):=(inferInstance:TOne Tryz.prog 102)
theorem tf103:TFact Tryz.prog 103 (.one):=(inferInstance:TOne Tryz.prog 103)
theorem tf104:TFact Tryz.prog 104 (.one):=(inferInstance:TOne Tryz.prog 104)
theorem tf105:TFact Tryz.prog 105 (.one):=(inferInstance:TOne Tryz.prog 105)
theorem tf106:TFact Tryz.prog 106 (.one):=(inferInstance:TOne Tryz.prog 106)
theorem tf107:TFact Tryz.prog 107 (.one):=(inferInstance:TOne Tryz.prog 107)
theorem tf108:TFact Tryz.prog 108 (.one):=(inferInstance:TOne Tryz.prog 108)
theorem tf109:TFact Tryz.prog 109 (.one):=(inferInstance:TOne Tryz.prog 109)
theorem tf110:TFact Tryz.prog 110 (.one):=(inferInstance:TOne Tryz.prog 110)
theorem tf111:TFact Tryz.prog 111 (.one):=(inferInstance:TOne Tryz.prog 111)
theorem tf112:TFact Tryz.prog 112 (.st 4 [(0,1,false),(1,1,false),(2,1,false),(3,1,false)] none):=⟨inferInstance,fun i off n ag h=>by
  match i,h with
  | 0,h=>cases h;infer_instance
  | 1,h=>cases h;infer_instance
  | 2,h=>cases h;infer_instance
  | 3,h=>cases h;infer_instance
  | j+4,h=>simp at h,inferInstance,fun k h=>by
  cases h⟩
theorem tf113:TFact Tryz.prog 113 (.one):=(inferInstance:TOne Tryz.prog 113)
theorem tf114:TFact Tryz.prog 114 (.one):=(inferInstance:TOne Tryz.prog 114)
theorem tf115:TFact Tryz.prog 115 (.one):=(inferInstance:TOne Tryz.prog 115)
theorem tf116:TFact Tryz.prog 116 (.one):=(inferInstance:TOne Tryz.prog 116)
theorem tf117:TFact Tryz.prog 117 (.one):=(inferInstance:TOne Tryz.prog 117)
theorem tf118:TFact Tryz.prog 118 (.one):=(inferInstance:TOne Tryz.prog 118)
theorem tf119:TFact Tryz.prog 119 (.one):=(inferInstance:TOne Tryz.prog 119)
theorem tf120:TFact Tryz.prog 120 (.one):=(inferInstance:TOne Tryz.prog 120)
theorem tf121:TFact Tryz.prog 121 (.one):=(inferInstance:TOne Tryz.prog 121)
theorem tf122:TFact Tryz.prog 122 (.one):=(inferInstance:TOne Tryz.prog 122)
theorem tf136:TFact Tryz.prog 136 (.one):=(inferInstance:TOne Tryz.prog 136)
theorem tf139:TFact Tryz.prog 139 (.st 3 [(0,1,false),(1,1,false),(2,1,false)] (some [0,0,0])):=⟨inferInstance,fun i off n ag h=>by
  match i,h with
  | 0,h=>cases h;infer_instance
  | 1,h=>cases h;infer_instance
  | 2,h=>cases h;infer_instance
  | j+3,h=>simp at h,inferInstance,fun k h=>by
  cases h;infer_instance⟩
theorem tf140:TFact Tryz.prog 140 (.one):=(inferInstance:TOne Tryz.prog 140)
theorem tf144:TFact Tryz.prog 144 (.st 2 [(0,1,false),(1,1,false)] (some [0,0])):=⟨inferInstance,fun i off n ag h=>by
  match i,h with
  | 0,h=>cases h;infer_instance
  | 1,h=>cases h;infer_instance
  | j+2,h=>simp at h,inferInstance,fun k h=>by
  cases h;infer_instance⟩
theorem tf145:TFact Tryz.prog 145 (.one):=(inferInstance:TOne Tryz.prog 145)
theorem tf147:TFact Tryz.prog 147 (.sl 196 1 4 [.int .u32 0]):=⟨inferInstance,inferInstance,inferInstance,inferInstance,inferInstance⟩
theorem tf149:TFact Tryz.prog 149 (.st 2 [(0,1,false),(1,1,false)] none):=⟨inferInstance,fun i off n ag h=>by
  match i,h with
  | 0,h=>cases h;infer_instance
  | 1,h=>cases h;infer_instance
  | j+2,h=>simp at h,inferInstance,fun k h=>by
  cases h⟩
theorem tf163:TFact Tryz.prog 163 (.one):=(inferInstance:TOne Tryz.prog 163)
theorem tf166:TFact Tryz.prog 166 (.one):=(inferInstance:TOne Tryz.prog 166)
theorem tf177:TFact Tryz.prog 177 (.st 4 [(0,1,false),(1,1,false),(2,1,false),(3,1,false)] (some [2,2,2,2])):=⟨inferInstance,fun i off n ag h=>by
  match i,h with
  | 0,h=>cases h;infer_instance
  | 1,h=>cases h;infer_instance
  | 2,h=>cases h;infer_instance
  | 3,h=>cases h;infer_instance
  | j+4,h=>simp at h,inferInstance,fun k h=>by
  cases h;infer_instance⟩
theorem tf182:TFact Tryz.prog 182 (.sl 47 2 40 [.string ⟨#[]⟩,.slice none 0 0]):=⟨inferInstance,inferInstance,inferInstance,inferInstance,inferInstance⟩
theorem tf185:TFact Tryz.prog 185 (.ifc):=⟨inferInstance,inferInstance⟩
theorem tf186:TFact Tryz.prog 186 (.one):=(inferInstance:TOne Tryz.prog 186)
theorem tf189:TFact Tryz.prog 189 (.one):=(inferInstance:TOne Tryz.prog 189)
theorem tf194:TFact Tryz.prog 194 (.int .u64):=⟨inferInstance,inferInstance⟩
theorem tf196:TFact Tryz.prog 196 (.int .u32):=⟨inferInstance,inferInstance⟩
theorem tf197:TFact Tryz.prog 197 (.int .u64):=⟨inferInstance,inferInstance⟩
theorem tf208:TFact Tryz.prog 208 (.sl 5 1 1 [.int .u8 0]):=⟨inferInstance,inferInstance,inferInstance,inferInstance,inferInstance⟩
theorem tf214:TFact Tryz.prog 214 (.one):=(inferInstance:TOne Tryz.prog 214)
theorem tf220:TFact Tryz.prog 220 (.one):=(inferInstance:TOne Tryz.prog 220)
theorem tf249:TFact Tryz.prog 249 (.one):=(inferInstance:TOne Tryz.prog 249)
theorem tf257:TFact Tryz.prog 257 (.int .i64):=⟨inferInstance,inferInstance⟩
theorem tf258:TFact Tryz.prog 258 (.one):=(inferInstance:TOne Tryz.prog 258)
theorem tf260:TFact Tryz.prog 260 (.one):=(inferInstance:TOne Tryz.prog 260)
theorem tf274:TFact Tryz.prog 274 (.st 2 [(0,1,false),(1,1,false)] (some [0,0])):=⟨inferInstance,fun i off n ag h=>by
  match i,h with
  | 0,h=>cases h;infer_instance
  | 1,h=>cases h;infer_instance
  | j+2,h=>simp at h,inferInstance,fun k h=>by
  cases h;infer_instance⟩
theorem tf277:TFact Tryz.prog 277 (.one):=(inferInstance:TOne Tryz.prog 277)
theorem tf280:TFact Tryz.prog 280 (.one):=(inferInstance:TOne Tryz.prog 280)
theorem tf283:TFact Tryz.prog 283 (.st 3 [(0,1,false),(1,1,false),(2,1,false)] none):=⟨inferInstance,fun i off n ag h=>by
  match i,h with
  | 0,h=>cases h;infer_instance
  | 1,h=>cases h;infer_instance
  | 2,h=>cases h;infer_instance
  | j+3,h=>simp at h,inferInstance,fun k h=>by
  cases h⟩
theorem tf302:TFact Tryz.prog 302 (.one):=(inferInstance:TOne Tryz.prog 302)
theorem tf304:TFact Tryz.prog 304 (.st 1 [(0,1,false)] (some [1])):=⟨inferInstance,fun i off n ag h=>by
  match i,h with
  | 0,h=>cases h;infer_instance
  | j+1,h=>simp at h,inferInstance,fun k h=>by
  cases h;infer_instance⟩
def TAB:List (Nat × TI) := [(0,.one),(1,.one),(2,.int .i64),(3,.int .i64),(4,.bool),(5,.int .u8),(6,.int .u8),(7,.st 4 [(0,1,false),(1,1,false),(2,1,false),(3,1,false)] (some [0,0,2,0])),(8,.st 4 [(0,1,false),(1,1,false),(2,1,false),(3,1,false)] (some [0,0,2,0])),(9,.str),(10,.str),(11,.str),(20,.ifc),(21,.int .i32),(22,.sl 25 6 88 [.int .i64 0,.slice none 0 0,.string ⟨#[]⟩,.slice none 0 0,.int .i64 0,.int .i64 0]),(23,.sl 9 1 16 [.string ⟨#[]⟩]),(25,.st 6 [(0,1,false),(1,1,false),(2,1,false),(3,1,false),(4,1,false),(5,1,false)] none),(26,.sl 50 4 80 [.string ⟨#[]⟩,.string ⟨#[]⟩,.slice none 0 0,.slice none 0 0]),(27,.int .i64),(28,.one),(32,.sl 63 7 104 [.string ⟨#[]⟩,.int .i64 0,.slice none 0 0,.string ⟨#[]⟩,.slice none 0 0,.int .i64 0,.int .i64 0]),(38,.one),(40,.sl 26 1 24 [.slice none 0 0]),(41,.one),(44,.sl 3 1 8 [.int .i64 0]),(45,.sl 53 1 24 [.slice none 0 0]),(46,.st 2 [(0,1,false),(1,1,false)] none),(47,.st 2 [(0,1,false),(1,1,false)] none),(48,.one),(49,.st 4 [(0,1,false),(1,2,true),(3,1,false)] none),(50,.st 4 [(0,1,false),(1,2,true),(3,1,false)] none),(51,.sl 23 1 24 [.slice none 0 0]),(52,.st 1 [(0,1,false)] none),(53,.st 1 [(0,1,false)] none),(54,.one),(55,.one),(56,.one),(57,.one),(58,.one),(63,.st 7 [(0,1,false),(1,6,true)] none),(65,.one),(66,.one),(67,.one),(68,.one),(69,.one),(70,.one),(71,.one),(72,.one),(73,.one),(74,.one),(75,.one),(76,.sl 82 3 40 [.int .i64 0,.int .i64 0,.slice none 0 0]),(77,.one),(78,.one),(79,.one),(80,.sl 4 1 1 [.bool false]),(81,.st 3 [(0,1,false),(1,1,false),(2,1,false)] none),(82,.st 3 [(0,1,false),(1,1,false),(2,1,false)] none),(83,.one),(84,.sl 80 1 24 [.slice none 0 0]),(85,.one),(86,.one),(87,.one),(88,.st 1 [(0,1,false)] (some [0])),(89,.st 1 [(0,1,false)] (some [0])),(90,.one),(91,.one),(93,.st 1 [(0,1,false)] (some [0])),(95,.one),(97,.one),(98,.one),(99,.st 4 [(0,1,false),(1,1,false),(2,1,false),(3,1,false)] none),(100,.st 4 [(0,1,false),(1,1,false),(2,1,false),(3,1,false)] none),(101,.one),(102,.one),(103,.one),(104,.one),(105,.one),(106,.one),(107,.one),(108,.one),(109,.one),(110,.one),(111,.one),(112,.st 4 [(0,1,false),(1,1,false),(2,1,false),(3,1,false)] none),(113,.one),(114,.one),(115,.one),(116,.one),(117,.one),(118,.one),(119,.one),(120,.one),(121,.one),(122,.one),(136,.one),(139,.st 3 [(0,1,false),(1,1,false),(2,1,false)] (some [0,0,0])),(140,.one),(144,.st 2 [(0,1,false),(1,1,false)] (some [0,0])),(145,.one),(147,.sl 196 1 4 [.int .u32 0]),(149,.st 2 [(0,1,false),(1,1,false)] none),(163,.one),(166,.one),(177,.st 4 [(0,1,false),(1,1,false),(2,1,false),(3,1,false)] (some [2,2,2,2])),(182,.sl 47 2 40 [.string ⟨#[]⟩,.slice none 0 0]),(185,.ifc),(186,.one),(189,.one),(194,.int .u64),(196,.int .u32),(197,.int .u64),(208,.sl 5 1 1 [.int .u8 0]),(214,.one),(220,.one),(249,.one),(257,.int .i64),(258,.one),(260,.one),(274,.st 2 [(0,1,false),(1,1,false)] (some [0,0])),(277,.one),(280,.one),(283,.st 3 [(0,1,false),(1,1,false),(2,1,false)] none),(302,.one),(304,.st 1 [(0,1,false)] (some [1]))]
def ZAB:List (Nat × List Value) := [(1,[.nilFunc]),(2,[.int .i64 0]),(3,[.int .i64 0]),(4,[.bool false]),(5,[.int .u8 0]),(6,[.int .u8 0]),(7,[.int .i64 0,.int .i64 0,.bool false,.int .u8 0]),(8,[.int .i64 0,.int .i64 0,.bool false,.int .u8 0]),(9,[.string ⟨#[]⟩]),(10,[.string ⟨#[]⟩]),(11,[.string ⟨#[]⟩]),(20,[.nilIface]),(21,[.int .i32 0]),(22,[.slice none 0 0]),(23,[.slice none 0 0]),(25,[.int .i64 0,.slice none 0 0,.string ⟨#[]⟩,.slice none 0 0,.int .i64 0,.int .i64 0]),(26,[.slice none 0 0]),(27,[.int .i64 0]),(32,[.slice none 0 0]),(40,[.slice none 0 0]),(44,[.slice none 0 0]),(45,[.slice none 0 0]),(46,[.string ⟨#[]⟩,.slice none 0 0]),(47,[.string ⟨#[]⟩,.slice none 0 0]),(48,[.nilFunc]),(49,[.string ⟨#[]⟩,.string ⟨#[]⟩,.slice none 0 0,.slice none 0 0]),(50,[.string ⟨#[]⟩,.string ⟨#[]⟩,.slice none 0 0,.slice none 0 0]),(51,[.slice none 0 0]),(52,[.slice none 0 0]),(53,[.slice none 0 0]),(54,[.nilFunc]),(55,[.nilFunc]),(56,[.nilFunc]),(57,[.nilFunc]),(58,[.nilFunc]),(63,[.string ⟨#[]⟩,.int .i64 0,.slice none 0 0,.string ⟨#[]⟩,.slice none 0 0,.int .i64 0,.int .i64 0]),(65,[.nilFunc]),(67,[.nilFunc]),(68,[.nilFunc]),(69,[.nilFunc]),(70,[.nilFunc]),(71,[.nilFunc]),(72,[.nilFunc]),(73,[.nilFunc]),(74,[.nilFunc]),(75,[.nilFunc]),(76,[.slice none 0 0]),(78,[.nilFunc]),(79,[.nilFunc]),(80,[.slice none 0 0]),(81,[.int .i64 0,.int .i64 0,.slice none 0 0]),(82,[.int .i64 0,.int .i64 0,.slice none 0 0]),(83,[.nilFunc]),(84,[.slice none 0 0]),(85,[.nilFunc]),(86,[.nilFunc]),(87,[.pointer none]),(88,[.int .i64 0]),(89,[.int .i64 0]),(90,[.nilFunc]),(91,[.pointer none]),(93,[.int .i64 0]),(95,[.nilFunc]),(97,[.nilFunc]),(98,[.nilFunc]),(99,[.slice none 0 0,.string ⟨#[]⟩,.int .i64 0,.int .i64 0]),(100,[.slice none 0 0,.string ⟨#[]⟩,.int .i64 0,.int .i64 0]),(102,[.nilFunc]),(103,[.nilFunc]),(104,[.nilFunc]),(105,[.nilFunc]),(106,[.nilFunc]),(108,[.nilFunc]),(109,[.nilFunc]),(110,[.nilFunc]),(111,[.nilFunc]),(112,[.slice none 0 0,.string ⟨#[]⟩,.int .i64 0,.int .i64 0]),(114,[.nilFunc]),(115,[.nilFunc]),(116,[.nilFunc]),(117,[.nilFunc]),(119,[.nilFunc]),(120,[.nilFunc]),(121,[.nilFunc]),(122,[.nilFunc]),(139,[.int .i64 0,.int .i64 0,.int .i64 0]),(144,[.int .i64 0,.int .i64 0]),(147,[.slice none 0 0]),(149,[.bool false,.slice none 0 0]),(166,[.pointer none]),(177,[.bool false,.bool false,.bool false,.bool false]),(182,[.slice none 0 0]),(185,[.nilIface]),(194,[.int .u64 0]),(196,[.int .u32 0]),(197,[.int .u64 0]),(208,[.slice none 0 0]),(249,[.pointer none]),(257,[.int .i64 0]),(260,[.pointer none]),(274,[.int .u8 0,.int .u8 0]),(283,[.string ⟨#[]⟩,.string ⟨#[]⟩,.nilIface]),(302,[.pointer none]),(304,[.string ⟨#[]⟩])]
def T:Nat→Option TI:=lookT TAB
def Z:Nat→Option (List Value):=lookT ZAB
theorem hT:TOk Tryz.prog T Z:=by
 refine ⟨fun t i h => ?_,fun t z h => ?_⟩
 ·have hall:AllT (TFact Tryz.prog) TAB:=by
   unfold TAB
   exact ⟨tf0,tf1,tf2,tf3,tf4,tf5,tf6,tf7,tf8,tf9,tf10,tf11,tf20,tf21,tf22,tf23,tf25,tf26,tf27,tf28,tf32,tf38,tf40,tf41,tf44,tf45,tf46,tf47,tf48,tf49,tf50,tf51,tf52,tf53,tf54,tf55,tf56,tf57,tf58,tf63,tf65,tf66,tf67,tf68,tf69,tf70,tf71,tf72,tf73,tf74,tf75,tf76,tf77,tf78,tf79,tf80,tf81,tf82,tf83,tf84,tf85,tf86,tf87,tf88,tf89,tf90,tf91,tf93,tf95,tf97,tf98,tf99,tf100,tf101,tf102,tf103,tf104,tf105,tf106,tf107,tf108,tf109,tf110,tf111,tf112,tf113,tf114,tf115,tf116,tf117,tf118,tf119,tf120,tf121,tf122,tf136,tf139,tf140,tf144,tf145,tf147,tf149,tf163,tf166,tf177,tf182,tf185,tf186,tf189,tf194,tf196,tf197,tf208,tf214,tf220,tf249,tf257,tf258,tf260,tf274,tf277,tf280,tf283,tf302,tf304,trivial⟩
  exact hall.at h
 ·have hall:AllT (TZer Tryz.prog) ZAB:=by
   unfold ZAB
   exact ⟨inferInstance,inferInstance,inferInstance,inferInstance,inferInstance,inferInstance,inferInstance,inferInstance,inferInstance,inferInstance,inferInstance,inferInstance,inferInstance,inferInstance,inferInstance,inferInstance,inferInstance,inferInstance,inferInstance,inferInstance,inferInstance,inferInstance,inferInstance,inferInstance,inferInstance,inferInstance,inferInstance,inferInstance,inferInstance,inferInstance,inferInstance,inferInstance,inferInstance,inferInstance,inferInstance,inferInstance,inferInstance,inferInstance,inferInstance,inferInstance,inferInstance,inferInstance,inferInstance,inferInstance,inferInstance,inferInstance,inferInstance,inferInstance,inferInstance,inferInstance,inferInstance,inferInstance,inferInstance,inferInstance,inferInstance,inferInstance,inferInstance,inferInstance,inferInstance,inferInstance,inferInstance,inferInstance,inferInstance,inferInstance,inferInstance,inferInstance,inferInstance,inferInstance,inferInstance,inferInstance,inferInstance,inferInstance,inferInstance,inferInstance,inferInstance,inferInstance,inferInstance,inferInstance,inferInstance,inferInstance,inferInstance,inferInstance,inferInstance,inferInstance,inferInstance,inferInstance,inferInstance,inferInstance,inferInstance,inferInstance,inferInstance,inferInstance,inferInstance,inferInstance,inferInstance,inferInstance,inferInstance,inferInstance,inferInstance,inferInstance,inferInstance,inferInstance,inferInstance,inferInstance,trivial⟩
  exact hall.at h
theorem hM:Tryz.prog.follows .mixedOrders=true:=by kernel_rfl
end Go.Proofs.YtfolfppcadjccaaGreatDoor
