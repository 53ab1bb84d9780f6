/- The tables of types for the data machine. (Written by wip/dtab.py.). -/
import Derived.Test.YtalejlbiccdfjaaDoorZ8
import Derived.Test.YtalejlbiccdfjaaDoorZ4
namespace Go.Proofs.YtalejlbiccdfjaaDoor
open Go.RowKit
def lookT {α:Type}:List (Nat × α)→Nat→Option α
 |[],_=>none
 |(k,v)::r,t=>match Nat.beq k t with
  |true=>some v
  |false=>lookT r t
def AllT {α:Type} (R:Nat→α→Prop):List (Nat × α)→Prop
 |[]=>True
 |(k,v)::l=>R k v∧AllT R l
theorem AllT.at {α:Type} {R:Nat→α→Prop}:∀ {l:List (Nat × α)} {t:Nat} {x:α},AllT R l→lookT l t=some x→R t x
 |[],_,_,_,h=>by cases h
 |(k,v)::r,t,x,ha,h=>by
  simp only [lookT] at h
  split at h
  ·rename_i hk
   have hk:=Nat.eq_of_beq_eq_true hk
   cases h
   subst hk
   exact ha.1
  ·exact AllT.at ha.2 h
set_option maxRecDepth 100000
theorem tf0:TFact Tryd.prog 0 (.one):=(inferInstance:TOne Tryd.prog 0)
theorem tf1:TFact Tryd.prog 1 (.one):=(inferInstance:TOne Tryd.prog 1)
theorem tf2:TFact Tryd.prog 2 (.int .i64):=⟨inferInstance,inferInstance⟩
theorem tf3:TFact Tryd.prog 3 (.int .i64):=⟨inferInstance,inferInstance⟩
theorem tf4:TFact Tryd.prog 4 (.bool):=⟨inferInstance,inferInstance⟩
theorem tf5:TFact Tryd.prog 5 (.int .u8):=⟨inferInstance,inferInstance⟩
theorem tf6:TFact Tryd.prog 6 (.int .u8):=⟨inferInstance,inferInstance⟩
theorem tf7:TFact Tryd.prog 7 (.st 4 [(0,1,false),(1,1,false),(2,1,false),(3,1,false)] (some [0,0,2,0])):=⟨inferInstance,fun i off n ag h=>by
  match i,h with
  |0,h=>cases h;infer_instance
  |1,h=>cases h;infer_instance
  |2,h=>cases h;infer_instance
  |3,h=>cases h;infer_instance
  |j+4,h=>simp at h,inferInstance,fun k h=>by
  cases h;infer_instance⟩
theorem tf8:TFact Tryd.prog 8 (.st 4 [(0,1,false),(1,1,false),(2,1,false),(3,1,false)] (some [0,0,2,0])):=⟨inferInstance,fun i off n ag h=>by
  match i,h with
  |0,h=>cases h;infer_instance
  |1,h=>cases h;infer_instance
  |2,h=>cases h;infer_instance
  |3,h=>cases h;infer_instance
  |j+4,h=>simp at h,inferInstance,fun k h=>by
  cases h;infer_instance⟩
theorem tf9:TFact Tryd.prog 9 (.str):=⟨inferInstance,inferInstance⟩
theorem tf21:TFact Tryd.prog 21 (.int .i32):=⟨inferInstance,inferInstance⟩
theorem tf23:TFact Tryd.prog 23 (.st 2 [(0,1,false),(1,1,false)] (some [0,0])):=⟨inferInstance,fun i off n ag h=>by
  match i,h with
  |0,h=>cases h;infer_instance
  |1,h=>cases h;infer_instance
  |j+2,h=>simp at h,inferInstance,fun k h=>by
  cases h;infer_instance⟩
theorem tf24:TFact Tryd.prog 24 (.sl 33 3 32 [.int .i64 0,.int .i64 0,.string ⟨#[]⟩]):=⟨inferInstance,inferInstance,inferInstance,inferInstance,inferInstance⟩
theorem tf25:TFact Tryd.prog 25 (.sl 31 2 16 [.int .i64 0,.int .i64 0]):=⟨inferInstance,inferInstance,inferInstance,inferInstance,inferInstance⟩
theorem tf26:TFact Tryd.prog 26 (.int .i64):=⟨inferInstance,inferInstance⟩
theorem tf27:TFact Tryd.prog 27 (.one):=(inferInstance:TOne Tryd.prog 27)
theorem tf31:TFact Tryd.prog 31 (.st 2 [(0,1,false),(1,1,false)] (some [0,0])):=⟨inferInstance,fun i off n ag h=>by
  match i,h with
  |0,h=>cases h;infer_instance
  |1,h=>cases h;infer_instance
  |j+2,h=>simp at h,inferInstance,fun k h=>by
  cases h;infer_instance⟩
theorem tf33:TFact Tryd.prog 33 (.st 3 [(0,1,false),(1,1,false),(2,1,false)] (some [0,0,1])):=⟨inferInstance,fun i off n ag h=>by
  match i,h with
  |0,h=>cases h;infer_instance
  |1,h=>cases h;infer_instance
  |2,h=>cases h;infer_instance
  |j+3,h=>simp at h,inferInstance,fun k h=>by
  cases h;infer_instance⟩
theorem tf34:TFact Tryd.prog 34 (.sl 3 1 8 [.int .i64 0]):=⟨inferInstance,inferInstance,inferInstance,inferInstance,inferInstance⟩
theorem tf35:TFact Tryd.prog 35 (.one):=(inferInstance:TOne Tryd.prog 35)
theorem tf42:TFact Tryd.prog 42 (.sl 47 2 16 [.int .i64 0,.int .i64 0]):=⟨inferInstance,inferInstance,inferInstance,inferInstance,inferInstance⟩
theorem tf43:TFact Tryd.prog 43 (.one):=(inferInstance:TOne Tryd.prog 43)
theorem tf47:TFact Tryd.prog 47 (.st 2 [(0,1,false),(1,1,false)] (some [0,0])):=⟨inferInstance,fun i off n ag h=>by
  match i,h with
  |0,h=>cases h;infer_instance
  |1,h=>cases h;infer_instance
  |j+2,h=>simp at h,inferInstance,fun k h=>by
  cases h;infer_instance⟩
theorem tf48:TFact Tryd.prog 48 (.one):=(inferInstance:TOne Tryd.prog 48)
theorem tf49:TFact Tryd.prog 49 (.one):=(inferInstance:TOne Tryd.prog 49)
theorem tf50:TFact Tryd.prog 50 (.one):=(inferInstance:TOne Tryd.prog 50)
theorem tf51:TFact Tryd.prog 51 (.one):=(inferInstance:TOne Tryd.prog 51)
theorem tf52:TFact Tryd.prog 52 (.mp 3 3 (.int .i64) (.int .i64 0)):=⟨inferInstance,inferInstance,inferInstance⟩
theorem tf53:TFact Tryd.prog 53 (.st 9 [(0,2,true),(2,1,false),(3,1,false),(4,1,false),(5,1,false),(6,1,false),(7,1,false),(8,1,false)] none):=⟨inferInstance,fun i off n ag h=>by
  match i,h with
  |0,h=>cases h;infer_instance
  |1,h=>cases h;infer_instance
  |2,h=>cases h;infer_instance
  |3,h=>cases h;infer_instance
  |4,h=>cases h;infer_instance
  |5,h=>cases h;infer_instance
  |6,h=>cases h;infer_instance
  |7,h=>cases h;infer_instance
  |j+8,h=>simp at h,inferInstance,fun k h=>by
  cases h⟩
theorem tf54:TFact Tryd.prog 54 (.st 9 [(0,2,true),(2,1,false),(3,1,false),(4,1,false),(5,1,false),(6,1,false),(7,1,false),(8,1,false)] none):=⟨inferInstance,fun i off n ag h=>by
  match i,h with
  |0,h=>cases h;infer_instance
  |1,h=>cases h;infer_instance
  |2,h=>cases h;infer_instance
  |3,h=>cases h;infer_instance
  |4,h=>cases h;infer_instance
  |5,h=>cases h;infer_instance
  |6,h=>cases h;infer_instance
  |7,h=>cases h;infer_instance
  |j+8,h=>simp at h,inferInstance,fun k h=>by
  cases h⟩
theorem tf55:TFact Tryd.prog 55 (.one):=(inferInstance:TOne Tryd.prog 55)
theorem tf56:TFact Tryd.prog 56 (.one):=(inferInstance:TOne Tryd.prog 56)
theorem tf57:TFact Tryd.prog 57 (.one):=(inferInstance:TOne Tryd.prog 57)
theorem tf58:TFact Tryd.prog 58 (.sl 67 2 16 [.int .i64 0,.int .i64 0]):=⟨inferInstance,inferInstance,inferInstance,inferInstance,inferInstance⟩
theorem tf60:TFact Tryd.prog 60 (.st 8 [(0,2,true),(2,1,false),(3,1,false),(4,1,false),(5,1,false),(6,1,false),(7,1,false)] none):=⟨inferInstance,fun i off n ag h=>by
  match i,h with
  |0,h=>cases h;infer_instance
  |1,h=>cases h;infer_instance
  |2,h=>cases h;infer_instance
  |3,h=>cases h;infer_instance
  |4,h=>cases h;infer_instance
  |5,h=>cases h;infer_instance
  |6,h=>cases h;infer_instance
  |j+7,h=>simp at h,inferInstance,fun k h=>by
  cases h⟩
theorem tf61:TFact Tryd.prog 61 (.one):=(inferInstance:TOne Tryd.prog 61)
theorem tf67:TFact Tryd.prog 67 (.st 2 [(0,1,false),(1,1,false)] (some [0,0])):=⟨inferInstance,fun i off n ag h=>by
  match i,h with
  |0,h=>cases h;infer_instance
  |1,h=>cases h;infer_instance
  |j+2,h=>simp at h,inferInstance,fun k h=>by
  cases h;infer_instance⟩
theorem tf76:TFact Tryd.prog 76 (.one):=(inferInstance:TOne Tryd.prog 76)
theorem tf79:TFact Tryd.prog 79 (.one):=(inferInstance:TOne Tryd.prog 79)
theorem tf88:TFact Tryd.prog 88 (.one):=(inferInstance:TOne Tryd.prog 88)
theorem tf91:TFact Tryd.prog 91 (.one):=(inferInstance:TOne Tryd.prog 91)
theorem tf96:TFact Tryd.prog 96 (.one):=(inferInstance:TOne Tryd.prog 96)
theorem tf97:TFact Tryd.prog 97 (.one):=(inferInstance:TOne Tryd.prog 97)
theorem tf98:TFact Tryd.prog 98 (.one):=(inferInstance:TOne Tryd.prog 98)
theorem tf99:TFact Tryd.prog 99 (.one):=(inferInstance:TOne Tryd.prog 99)
theorem tf101:TFact Tryd.prog 101 (.int .u64):=⟨inferInstance,inferInstance⟩
theorem tf102:TFact Tryd.prog 102 (.st 2 [(0,1,false),(1,1,false)] (some [0,0])):=⟨inferInstance,fun i off n ag h=>by
  match i,h with
  |0,h=>cases h;infer_instance
  |1,h=>cases h;infer_instance
  |j+2,h=>simp at h,inferInstance,fun k h=>by
  cases h;infer_instance⟩
theorem tf103:TFact Tryd.prog 103 (.st 2 [(0,1,false),(1,1,false)] (some [0,0])):=⟨inferInstance,fun i off n ag h=>by
  match i,h with
  |0,h=>cases h;infer_instance
  |1,h=>cases h;infer_instance
  |j+2,h=>simp at h,inferInstance,fun k h=>by
  cases h;infer_instance⟩
def TAB:List (Nat × TI) := [(0,.one),(1,.one),(2,.int .i64),(3,.int .i64),(4,.bool),(5,.int .u8),(6,.int .u8),(7,.st 4 [(0,1,false),(1,1,false),(2,1,false),(3,1,false)] (some [0,0,2,0])),(8,.st 4 [(0,1,false),(1,1,false),(2,1,false),(3,1,false)] (some [0,0,2,0])),(9,.str),(21,.int .i32),(23,.st 2 [(0,1,false),(1,1,false)] (some [0,0])),(24,.sl 33 3 32 [.int .i64 0,.int .i64 0,.string ⟨#[]⟩]),(25,.sl 31 2 16 [.int .i64 0,.int .i64 0]),(26,.int .i64),(27,.one),(31,.st 2 [(0,1,false),(1,1,false)] (some [0,0])),(33,.st 3 [(0,1,false),(1,1,false),(2,1,false)] (some [0,0,1])),(34,.sl 3 1 8 [.int .i64 0]),(35,.one),(42,.sl 47 2 16 [.int .i64 0,.int .i64 0]),(43,.one),(47,.st 2 [(0,1,false),(1,1,false)] (some [0,0])),(48,.one),(49,.one),(50,.one),(51,.one),(52,.mp 3 3 (.int .i64) (.int .i64 0)),(53,.st 9 [(0,2,true),(2,1,false),(3,1,false),(4,1,false),(5,1,false),(6,1,false),(7,1,false),(8,1,false)] none),(54,.st 9 [(0,2,true),(2,1,false),(3,1,false),(4,1,false),(5,1,false),(6,1,false),(7,1,false),(8,1,false)] none),(55,.one),(56,.one),(57,.one),(58,.sl 67 2 16 [.int .i64 0,.int .i64 0]),(60,.st 8 [(0,2,true),(2,1,false),(3,1,false),(4,1,false),(5,1,false),(6,1,false),(7,1,false)] none),(61,.one),(67,.st 2 [(0,1,false),(1,1,false)] (some [0,0])),(76,.one),(79,.one),(88,.one),(91,.one),(96,.one),(97,.one),(98,.one),(99,.one),(101,.int .u64),(102,.st 2 [(0,1,false),(1,1,false)] (some [0,0])),(103,.st 2 [(0,1,false),(1,1,false)] (some [0,0]))]
def ZAB:List (Nat × List Value) := [(1,[.nilFunc]),(2,[.int .i64 0]),(3,[.int .i64 0]),(4,[.bool false]),(5,[.int .u8 0]),(6,[.int .u8 0]),(7,[.int .i64 0,.int .i64 0,.bool false,.int .u8 0]),(8,[.int .i64 0,.int .i64 0,.bool false,.int .u8 0]),(9,[.string ⟨#[]⟩]),(21,[.int .i32 0]),(23,[.int .i64 0,.int .i64 0]),(24,[.slice none 0 0]),(25,[.slice none 0 0]),(26,[.int .i64 0]),(31,[.int .i64 0,.int .i64 0]),(33,[.int .i64 0,.int .i64 0,.string ⟨#[]⟩]),(34,[.slice none 0 0]),(42,[.slice none 0 0]),(47,[.int .i64 0,.int .i64 0]),(48,[.nilFunc]),(49,[.pointer none]),(51,[.nilFunc]),(52,[.map none]),(53,[.int .i64 0,.int .i64 0,.int .i64 0,.slice none 0 0,.int .i64 0,.map none,.map none,.slice none 0 0,.slice none 0 0]),(54,[.int .i64 0,.int .i64 0,.int .i64 0,.slice none 0 0,.int .i64 0,.map none,.map none,.slice none 0 0,.slice none 0 0]),(56,[.nilFunc]),(57,[.nilFunc]),(58,[.slice none 0 0]),(60,[.int .i64 0,.int .i64 0,.int .i64 0,.slice none 0 0,.slice none 0 0,.int .i64 0,.slice none 0 0,.slice none 0 0]),(61,[.pointer none]),(67,[.int .i64 0,.int .i64 0]),(79,[.pointer none]),(91,[.pointer none]),(97,[.nilFunc]),(98,[.nilFunc]),(99,[.nilFunc]),(101,[.int .u64 0]),(102,[.int .u8 0,.int .u8 0]),(103,[.int .u8 0,.int .u8 0])]
def T:Nat→Option TI:=lookT TAB
def Z:Nat→Option (List Value):=lookT ZAB
theorem hT:TOk Tryd.prog T Z:=by
 refine ⟨fun t i h => ?_,fun t z h => ?_⟩
 ·have hall:AllT (TFact Tryd.prog) TAB:=by
   unfold TAB
   exact ⟨tf0,tf1,tf2,tf3,tf4,tf5,tf6,tf7,tf8,tf9,tf21,tf23,tf24,tf25,tf26,tf27,tf31,tf33,tf34,tf35,tf42,tf43,tf47,tf48,tf49,tf50,tf51,tf52,tf53,tf54,tf55,tf56,tf57,tf58,tf60,tf61,tf67,tf76,tf79,tf88,tf91,tf96,tf97,tf98,tf99,tf101,tf102,tf103,trivial⟩
  exact hall.at h
 ·have hall:AllT (TZer Tryd.prog) ZAB:=by
   unfold ZAB
   exact ⟨inferInstance,inferInstance,inferInstance,inferInstance,inferInstance,inferInstance,inferInstance,inferInstance,inferInstance,inferInstance,inferInstance,inferInstance,inferInstance,inferInstance,inferInstance,inferInstance,inferInstance,inferInstance,inferInstance,inferInstance,inferInstance,inferInstance,inferInstance,inferInstance,inferInstance,inferInstance,inferInstance,inferInstance,inferInstance,inferInstance,inferInstance,inferInstance,inferInstance,inferInstance,inferInstance,inferInstance,inferInstance,inferInstance,inferInstance,trivial⟩
  exact hall.at h
theorem hM:Tryd.prog.follows .mixedOrders=true:=by kernel_rfl
theorem si {f : Nat} {fn : Go.Func} {c : Go.Code} {args : List D} {d : D} {rs : List Go.ResultVar} (l : List Nat) (hf : Tryd.prog.funcs[f]? = some fn) (hv : forceL (args ++ List.replicate (fn.ntmps - args.length) .any) fun fr => vc Tryd.prog T Z (fun t => mem t l) c fr fun e fr' => Ends T e rs fr' d) (hb : fn.body = some c := by exact rfl) (hname : (fn.name == "runtime.NumGoroutine") = false := by kernel_rfl) (hcalm : d.calm = true := by exact rfl) (hargs : (args.all fun d => d.calm || d.passes) = true := by exact rfl) (hnt : Nat.ble args.length fn.ntmps = true := by exact rfl) (hrs : fn.results.toList = rs := by exact rfl) (hnd : decide (rs.map slotOf).Nodup = true := by exact rfl) : Sem Tryd.prog f args d :=
 sem_intro hT hM hf ⟨fn,hf,hname,by rw [hb];rfl⟩ hb hcalm hargs hnt hrs hnd hv
end Go.Proofs.YtalejlbiccdfjaaDoor
