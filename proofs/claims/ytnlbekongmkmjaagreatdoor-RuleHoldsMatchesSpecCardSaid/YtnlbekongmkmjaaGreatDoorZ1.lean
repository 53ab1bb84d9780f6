/- The rule for a region whose order Go leaves open, when every operation only adds to memory: one step an operation, whatever the order. Rules for single operations, for whatever program: what an operation leaves, from what its operands are. No search, no rewriting by hypotheses. The rules of XRules, for the next operation of a list (l_) and of a region whose order is open (p_). (Written by wip/genrules.py.). The rule for a slice that is written out. A region whose order is open and which ends in operations that can only come last, in their order: all that stands before them by any order, then those one by one. A slice that the call itself makes and appends to. '==' between structs whose fields are whole numbers, texts and truth values. What the program's own variables hold while the walks run: the tables that its library reads. Data that memory holds, as plain trees: what cells and values represent, who may write which block, and what a step of the machine leaves of it. What may be forgotten of data; frames of slots. Maps whose keys and elements are numbers, texts, truth values or structs of texts: single operations. -/
import Derived.WalkKit
import Derived.Orders
import Derived.Lib.Hide
import Derived.Deep.DeepCutAuto
import Derived.Deep.CutBlock
import Derived.Deep.RegionHeld3
import Derived.Laws.AppendOwnNone
import Derived.Lib.ItoaNum
import Derived.MapKept
import Derived.WideKeyRuns
namespace Go.Proofs.YtnlbekongmkmjaaGreatDoor
set_option linter.unusedSimpArgs false
set_option linter.unusedVariables false
open Go.RowKit
def Ext (w w':World):Prop:=Below w.heap.size w w'
theorem Ext.refl (w:World):Ext w w:=Below.refl _ w
theorem Ext.trans {a b c:World} (h:Ext a b) (k:Ext b c):Ext a c:=Below.trans h (Below.mono k h.size)
theorem Ext.drew (w:World):Ext w w.drew:=(Below.refl _ w).drew
theorem Ext.alloc (w:World) (o:Obj):Ext w (w.alloc o):=(Below.refl _ w).alloc (Nat.le_refl _) o
theorem Ext.cell {w w':World} (h:Ext w w') {p:Addr} {v:Value} (hc:w.cell? p=some v):w'.cell? p=some v:=
 (Below.cell h (block_lt_of_cell hc)).trans hc
theorem Ext.sizeOf {w w':World} (h:Ext w w'):w.heap.size≤w'.heap.size:=Below.size h
theorem Ext.below {w w':World} (h:Ext w w'):Below w.heap.size w w':=h
abbrev Unk:=Nat × Nat × Value
structure Spec where
 shape:Unk→Value
 fact:Unk→World→Prop
 mono:∀ u w w',Ext w w'→fact u w→fact u w'
def Blk (w:World) (g:Nat) (t:TypeId) (cs:Array Value):Prop:=w.heap[g]?=some (.cells cs t (0,0))
theorem Blk.lt {w:World} {g:Nat} {t:TypeId} {cs:Array Value} (h:Blk w g t cs):g < w.heap.size:=by
 rcases Nat.lt_or_ge g w.heap.size with hlt|hge
 ·exact hlt
 ·unfold Blk at h;rw [Array.getElem?_eq_none hge] at h;cases h
theorem Blk.ext {w w':World} {g:Nat} {t:TypeId} {cs:Array Value} (h:Blk w g t cs) (hx:Ext w w'):Blk w' g t cs:=(Below.block hx g h.lt).trans h
theorem Blk.cell {w:World} {g:Nat} {t:TypeId} {cs:Array Value} (h:Blk w g t cs) (i:Nat):w.cell? ⟨g,i,none⟩=cs[i]?:=cell_of_row w g i cs t (0,0) h
theorem Blk.frozen {w:World} {g:Nat} {t:TypeId} {cs:Array Value} (h:Blk w g t cs) (i:Nat):w.frozen? ⟨g,i,none⟩=false:=by
 unfold Blk at h
 simp [World.frozen?,h]
theorem Blk.new (w:World) (t:TypeId) (cs:Array Value):Blk (w.alloc (.cells cs t)) w.heap.size t cs:=heap_alloc_new w _
theorem Ext.rules {w w':World} (h:Ext w w'):(∀ b o,b < w.heap.size→w'.cell? ⟨b,o,none⟩=w.cell? ⟨b,o,none⟩)∧(∀ b o,b < w.heap.size→w'.frozen? ⟨b,o,none⟩=w.frozen? ⟨b,o,none⟩):=
 ⟨fun b o hb=>Below.cell (p:=⟨b,o,none⟩) h hb,fun b o hb=>Below.frozen (p:=⟨b,o,none⟩) h hb⟩
section
variable (P:Program) (ops:Array Oper) (Q:Exit→Act→World→Prop)
def StepAt (o:Oper) (s:Spec) (a:Act) (w:World):Prop:=
 if Region.wanted o (yielded ops a.tmps)=true then
  ∀ K:Act→World→Prop,(∀ u w',s.fact u w'→Ext w w'→K (a.put o.dst (s.shape u)) w')→o.wp P a w K (NoPanic Q)∨(o.asks P a w∧LetsOut (NoPanic Q))
 else ∃ u,s.shape u=undef∧s.fact u w
end
def depOn (o:Oper) (j:Nat):Bool:=o.after.any fun e=>Region.binds .any e && e.on == j
def parOk (ops:Array Oper):Bool:=
 Region.noSelect ops && (List.range ops.size).all fun i=>match ops[i]? with
  |some o=>(o.after.all fun e => !Region.binds .any e || decide (e.on < i)) &&
    (List.range ops.size).all fun k=>k == i || match ops[k]? with
     |some p=>match p.dst with
      |none=>true
      |some d=>o.dst != some d && (!(o.looksAt ops).contains d || depOn o k || depOn p i)
     |none=>true
  |none=>true
theorem depOn_spec {o:Oper} {j:Nat} (h:depOn o j=true):∃ e ∈ o.after,Region.binds .any e=true∧e.on=j:=by
 unfold depOn at h
 obtain ⟨e,he,hb⟩:=Array.any_eq_true'.1 h
 simp only [Bool.and_eq_true,beq_iff_eq] at hb
 exact ⟨e,he,hb.1,hb.2⟩
section
variable {ops:Array Oper}
theorem parOk_before (h:parOk ops=true) {i:Nat} {o:Oper} (ho:ops[i]?=some o) {e:Edge} (he:e ∈ o.after) (hb:Region.binds .any e=true):e.on < i:=by
 simp only [parOk,Bool.and_eq_true,List.all_eq_true,List.mem_range] at h
 have h1:=h.2 i (Array.getElem?_eq_some_iff.1 ho).1
 simp only [ho,Bool.and_eq_true] at h1
 have h2:=Array.all_eq_true_iff_forall_mem.1 h1.1 e he
 simpa [hb] using h2
theorem parOk_pair (h:parOk ops=true) {i k:Nat} {o p:Oper} (ho:ops[i]?=some o) (hp:ops[k]?=some p) (hki:k ≠ i) {d:Tmp} (hd:p.dst=some d):
  o.dst ≠ some d∧(d ∈ o.looksAt ops→depOn o k=true∨depOn p i=true):=by
 simp only [parOk,Bool.and_eq_true,List.all_eq_true,List.mem_range] at h
 have h1:=h.2 i (Array.getElem?_eq_some_iff.1 ho).1
 simp only [ho,Bool.and_eq_true,List.all_eq_true,List.mem_range] at h1
 have h2:=h1.2 k (Array.getElem?_eq_some_iff.1 hp).1
 simp only [hp,hd,Bool.or_eq_true,beq_iff_eq,hki,false_or,Bool.and_eq_true,bne_iff_ne,ne_eq,Bool.not_eq_true'] at h2
 refine ⟨h2.1,fun hm => ?_⟩
 rcases h2.2 with (h3|h3)|h3
 ·simp [hm] at h3
 ·exact .inl h3
 ·exact .inr h3
theorem parOk_noSelect (h:parOk ops=true):Region.noSelect ops=true:=by
 simp only [parOk,Bool.and_eq_true] at h
 exact h.1
end
def fillD (env:Nat→Unk) (done:Nat→Bool):List Oper→List Spec→Nat→Act→Act
 |o::r,s::ss,k,a=>fillD env done r ss (k+1) (if done k=true then a.put o.dst (s.shape (env k)) else a)
 |_,_,_,a=>a
theorem put_defers (a:Act) (d:Option Tmp) (v:Value):(a.put d v).defers=a.defers:=by cases d<;>rfl
theorem put_size (a:Act) (d:Option Tmp) (v:Value):(a.put d v).tmps.size=a.tmps.size:=by cases d<;>simp [Act.put]
theorem put_ne (a:Act) (d:Option Tmp) (v:Value) (t:Tmp) (h:d ≠ some t):(a.put d v).tmps[t]?=a.tmps[t]?:=by
 cases d with
 |none=>rfl
 |some x=>simp [Act.put,Array.getElem?_setIfInBounds_ne (fun e=>h (by rw [e]):x ≠ t)]
theorem put_eq (a:Act) (v:Value) (t:Tmp):(a.put (some t) v).tmps[t]?=if t < a.tmps.size then some v else none:=by
 simp [Act.put,Array.getElem?_setIfInBounds]
theorem act_ext {a b:Act} (hd:a.defers=b.defers) (ht:∀ t:Nat,a.tmps[t]?=b.tmps[t]?):a=b:=by
 cases a with|mk x d=>cases b with|mk y e=>
  simp only at hd ht
  have:x=y:=Array.ext_getElem? ht
  subst this hd
  rfl
section
variable {env:Nat→Unk}
theorem fillD_defers {done:Nat→Bool}:∀ (l:List Oper) (ss:List Spec) (k:Nat) (a:Act),(fillD env done l ss k a).defers=a.defers
 |[],_,_,_=>by simp [fillD]
 |_::_,[],_,_=>by simp [fillD]
 |o::r,s::ss,k,a=>by
  simp only [fillD]
  rw [fillD_defers r ss]
  split
  ·exact put_defers _ _ _
  ·rfl
theorem fillD_size {done:Nat→Bool}:∀ (l:List Oper) (ss:List Spec) (k:Nat) (a:Act),(fillD env done l ss k a).tmps.size=a.tmps.size
 |[],_,_,_=>by simp [fillD]
 |_::_,[],_,_=>by simp [fillD]
 |o::r,s::ss,k,a=>by
  simp only [fillD]
  rw [fillD_size r ss]
  split
  ·exact put_size _ _ _
  ·rfl
theorem fillD_agree {d1 d2:Nat→Bool} {t:Tmp}:∀ (l:List Oper) (ss:List Spec) (k:Nat) (a1 a2:Act),a1.tmps.size=a2.tmps.size→a1.tmps[t]?=a2.tmps[t]?→
  (∀ j o,l[j]?=some o→o.dst=some t→d1 (k+j)=d2 (k+j))→(fillD env d1 l ss k a1).tmps[t]?=(fillD env d2 l ss k a2).tmps[t]?
 |[],_,_,_,_,_,h,_=>by simpa [fillD] using h
 |_::_,[],_,_,_,_,h,_=>by simpa [fillD] using h
 |o::r,s::ss,k,a1,a2,hs,h,hd=>by
  simp only [fillD]
  refine fillD_agree r ss (k+1) _ _ ?_ ?_ (fun j o' ho hdst => ?_)
  ·split<;>split<;>simp [put_size,hs]
  ·by_cases ht:o.dst=some t
   ·have h0:=hd 0 o rfl ht
    simp only [Nat.add_zero] at h0
    rw [h0]
    split
    ·rw [ht,put_eq,put_eq,hs]
    ·exact h
   ·split<;>split<;>simp only [put_ne _ _ _ _ ht,h]
  ·have:=hd (j+1) o' (by simpa using ho) hdst
   simpa [Nat.add_assoc,Nat.add_comm 1 j] using this
theorem fillD_at {done:Nat→Bool} {t:Tmp}:∀ (l:List Oper) (ss:List Spec) (k:Nat) (a:Act) (i:Nat) (o:Oper) (s:Spec),l[i]?=some o→ss[i]?=some s→o.dst=some t→done (k+i)=true→
  (∀ j p,l[j]?=some p→j ≠ i→p.dst ≠ some t)→(fillD env done l ss k a).tmps[t]?=if t < a.tmps.size then some (s.shape (env (k+i))) else none
 |[],_,_,_,i,_,_,h,_,_,_,_=>by simp at h
 |_::_,[],_,_,i,_,_,_,h,_,_,_=>by simp at h
 |o'::r,s'::ss,k,a,0,o,s,h,hs,ht,hd,hu=>by
  simp only [List.getElem?_cons_zero,Option.some.injEq] at h hs
  subst h hs
  simp only [Nat.add_zero] at hd
  simp only [fillD,hd,if_true,Nat.add_zero]
  have hag:=fillD_agree (env:=env) (d1:=done) (d2:=fun _=>false) (t:=t) r ss (k+1) (a.put o'.dst (s'.shape (env k))) (a.put o'.dst (s'.shape (env k))) rfl rfl (fun j p hp hdst=>absurd hdst (hu (j+1) p (by simpa using hp) (by omega)))
  rw [hag]
  have hnone:∀ (l:List Oper) (ss:List Spec) (k:Nat) (a:Act),fillD env (fun _=>false) l ss k a=a:=by
   intro l
   induction l with
   |nil=>intro ss k a;simp [fillD]
   |cons o r ih=>intro ss k a;cases ss with
    |nil=>simp [fillD]
    |cons s ss=>simp [fillD,ih]
  rw [hnone,ht,put_eq]
 |o'::r,s'::ss,k,a,i+1,o,s,h,hs,ht,hd,hu=>by
  simp only [fillD]
  have:=fillD_at r ss (k+1) (if done k=true then a.put o'.dst (s'.shape (env k)) else a) i o s (by simpa using h) (by simpa using hs) ht (by simpa [Nat.add_assoc,Nat.add_comm 1 i] using hd)
   (fun j p hp hji=>hu (j+1) p (by simpa using hp) (by omega))
  rw [this]
  have e:k+1+i=k+(i+1):=by omega
  rw [e]
  have hsz:(if done k=true then a.put o'.dst (s'.shape (env k)) else a).tmps.size=a.tmps.size:=by split<;>simp [put_size]
  rw [hsz]
end
theorem wp_frame {P:Program} {Q:Exit→Act→World→Prop} {o:Oper} {a b:Act} {w:World} {K:Value→World→Prop} (he:execOp a.eval o=execOp b.eval o)
  (hin:∀ d,o.dst=some d→d < b.tmps.size)
  (h:o.wp P b w (fun a' w'=>∃ v,a'=b.put o.dst v∧K v w') (NoPanic Q)):o.wp P a w (fun a' w'=>∃ v,a'=a.put o.dst v∧K v w') (NoPanic Q):=by
 unfold Oper.wp at *
 rw [he]
 have key:∀ v w',(∃ u,b.put o.dst v=b.put o.dst u∧K u w')→∃ u,a.put o.dst v=a.put o.dst u∧K u w':=by
  rintro v w' ⟨u,hu,hk⟩
  refine ⟨u,?_,hk⟩
  cases hd:o.dst with
  |none=>rfl
  |some d=>
   rw [hd] at hu
   have hlt:=hin d hd
   have:=congrArg (fun x:Act=>x.tmps[d]?) hu
   simp only [put_eq,hlt,if_true,Option.some.injEq] at this
   rw [this]
 cases hr:(execOp b.eval o).run P w with
 |ok n w'=>
  rw [hr] at h
  cases n with
  |value v=>exact key v w' h
  |skip=>exact key undef w' h
  |defer d=>
   obtain ⟨v,hv,_⟩:=h
   have:=congrArg Act.defers hv
   rw [put_defers,put_defers] at this
   simp at this
  |enter f args=>exact Calls.mono h (fun e w'' he=>by cases e<;>first|exact key _ _ he|exact he)
  |row row args=>exact Rows.mono h (fun v w'' he=>key _ _ he)
  |_=>exact h.elim
 |halt x w'=>
  rw [hr] at h
  cases x<;>first|exact h|exact h.elim
section
variable {P:Program} {Q:Exit→Act→World→Prop}
end
/-! ### The steps, one an operation -/
section
variable {P:Program} {ops:Array Oper} {Q:Exit→Act→World→Prop} {w0:World} {o:Oper} {r:List Oper} {ss:List Spec} {fs:List (World→Prop)} {a:Act}
end
/-! ### The same with a parting of cases: what is left of every operation may hang on the case. -/
section
variable {P:Program} {ops:Array Oper} {Q:Exit→Act→World→Prop} {w0:World} {o:Oper} {r:List Oper} {fs:List (World→Prop)} {a:Act}
end
/-! ### A region whose order is fixed, by the same steps -/
section
variable {P:Program} {Q:Exit→Act→World→Prop}
end
/-! ### Operations that are carried out only if a test says so: what they leave is written with the test, and no cases are parted -/
def G (c:Bool) (v:Value):Value:=if c then v else undef
section
variable {P:Program} {ops:Array Oper} {Q:Exit→Act→World→Prop} {w0:World} {o:Oper} {r:List Oper} {ss:List Spec} {fs:List (World→Prop)} {a:Act}
def boolOf:Value→Option Bool
 |.bool b=>some b
 |_=>none
theorem wanted_at {j:Nat} {want c:Bool} {v:Value} (hg:o.guard=some (j,want)) (hy:((ops[j]?).bind (·.dst)).bind (a.tmps[·]?)=some v)
  (hc:boolOf v=some want↔c=true):Region.wanted o (yielded ops a.tmps)=c:=by
 unfold Region.wanted yielded
 rw [hg]
 simp only
 rw [hy,Bool.eq_iff_iff]
 simp only [beq_iff_eq]
 rw [← hc]
 cases v<;>rfl
theorem execOp_pick (ρ:Operand→Value) (dst:Option Tmp) (c x y:Operand) (ty:TypeId) (pos:String) (after:Array Edge) (guard:Option (Nat × Bool)) (b:Bool) (h:ρ c=.bool b) (w:World):
  (execOp ρ { dst,op:=.pick c x y,type:=ty,pos,after,guard }).run P w=.ok (.value (if b then ρ x else ρ y)) w:=by
 cases b<;>simp [execOp,h,asBool]
end
def RowAt (w:World) (b p:Nat) (cs:List Value):Prop:=∀ j u,cs[j]?=some u→w.cell? ⟨b,p+j,none⟩=some u
theorem RowAt.ext {w w':World} {b p:Nat} {cs:List Value} (h:RowAt w b p cs) (hx:Ext w w'):RowAt w' b p cs:=fun j u hu=>hx.cell (h j u hu)
theorem RowAt.lt {w:World} {b p:Nat} {c:Value} {cs:List Value} (h:RowAt w b p (c::cs)):b < w.heap.size:=block_lt_of_cell (a:=⟨b,p+0,none⟩) (h 0 c rfl)
def SlR (w:World) (sz:Nat) (v:Value) (rows:List (List Value)):Prop:=
 ∃ (A:Option Addr) (c:Nat),v=.slice A rows.length c∧rows.length≤c∧c≤9223372036854775807∧(A=none→c=0)∧
  ∀ k r,rows[k]?=some r→r.length=sz∧∃ b o,A=some ⟨b,o,none⟩∧RowAt w b (o+k * sz) r
theorem SlR.ext {w w':World} {sz:Nat} {v:Value} {rows:List (List Value)} (h:SlR w sz v rows) (hx:Ext w w'):SlR w' sz v rows:=by
 obtain ⟨A,c,h1,h2,h3,h0,h4⟩:=h
 exact ⟨A,c,h1,h2,h3,h0,fun k r hr=>by
  obtain ⟨g1,b,o,g2,g3⟩:=h4 k r hr
  exact ⟨g1,b,o,g2,g3.ext hx⟩⟩
section
variable {P:Program}
theorem run_loadVar_at (w:World) (b p:Nat) (ty:TypeId) (cs:List Value) (d:TypeDesc) (hr:RowAt w b p cs)
  (hu:P.underlying ty=some d) (hd:(match d with | .struct _ | .array _ _=>true|_=>false)=true) (hi:(P.info? ty).map (·.size)=some cs.length):
  (loadVar ty ⟨b,p,none⟩).run P w=.ok (.agg cs.toArray) w:=by
 have hl:(loadCells ⟨b,p,none⟩ cs.length).run P w=.ok cs.toArray w:=
  run_loadCells_list (P:=P) w ⟨b,p,none⟩ cs (fun j v hv=>by
   have hadd:(⟨b,p,none⟩:Addr).add j=⟨b,p+j,none⟩:=by unfold Addr.add;split<;>simp_all
   rw [hadd]
   exact hr j v hv)
 cases hq:P.info? ty with
 |none=>simp [hq] at hi
 |some i=>
  have hs:i.size=cs.length:=by simpa [hq] using hi
  have hagg:(isAgg ty).run P w=.ok true w:=by
   unfold isAgg
   rw [Sem.run_bind,run_underlying hu w]
   cases d<;>simp_all
  simp [loadVar,Sem.run_bind,hagg,sizeOf,typeInfo,hq,hs,hl]
theorem wp_load_at {o:Oper} {a:Act} {w:World} {K:Act→World→Prop} {Q:Exit→Act→World→Prop} (ty:TypeId) (x:Operand) (b p:Nat) (cs:List Value) (d:TypeDesc) (ho:o.op=.load ty x)
  (hx:a.eval x=.pointer (some ⟨b,p,none⟩)) (hr:RowAt w b p cs) (hu:P.underlying ty=some d) (hd:(match d with | .struct _ | .array _ _=>true|_=>false)=true) (hi:(P.info? ty).map (·.size)=some cs.length)
  (h:K (a.put o.dst (.agg cs.toArray)) w):o.wp P a w K Q:=by
 unfold Oper.wp execOp
 simp only [ho,hx,Instr.loadAt,Instr.sureAddr,Sem.run_bind,Sem.run_pure,Result.andThen_ok,run_loadVar_at w b p ty cs d hr hu hd hi]
 exact h
end
theorem RowAt.box (w:World) (t:TypeId) (cs:List Value):RowAt (w.alloc (.cells cs.toArray t)) w.heap.size 0 cs:=fun j u hu=>by
 rw [cell_of_row _ _ _ _ _ _ (heap_alloc_new w _)]
 simpa using hu
theorem RowAt.rule {w:World} {b:Nat} {cs:List Value} (h:RowAt w b 0 cs):∀ j,j < cs.length→w.cell? ⟨b,j,none⟩=cs[j]?:=fun j hj=>by
 have:=h j cs[j] (by simp [hj])
 rw [Nat.zero_add] at this
 rw [this]
 simp [hj]
theorem RowAt.left {w:World} {b p:Nat} {xs ys:List Value} (h:RowAt w b p (xs++ys)):RowAt w b p xs:=fun j u hj=>h j u (by
 rw [List.getElem?_append_left (List.getElem?_eq_some_iff.1 hj).1];exact hj)
theorem RowAt.right {w:World} {b p:Nat} {xs ys:List Value} (h:RowAt w b p (xs++ys)):RowAt w b (p+xs.length) ys:=fun j u hj=>by
 have:=h (xs.length+j) u (by rw [List.getElem?_append_right (by omega)];simpa using hj)
 rwa [← Nat.add_assoc] at this
theorem gLt {α:Type _} {l:List α} {i:Nat} {a:α} (h:l[i]?=some a):i < l.length:=(List.getElem?_eq_some_iff.1 h).1
theorem gMem {α:Type _} {l:List α} {i:Nat} {a:α} (h:l[i]?=some a):a ∈ l:=List.mem_of_getElem? h
def aggDesc:TypeDesc→Bool
 |.struct _ | .array _ _=>true
 |_=>false
class TInt (P:Program) (t:TypeId) (k:outParam IntKind):Prop where
 h:P.underlying t=some (.int k)
class TStr (P:Program) (t:TypeId):Prop where
 h:P.underlying t=some .string
class TBool (P:Program) (t:TypeId):Prop where
 h:P.underlying t=some .bool
class TIfc (P:Program) (t:TypeId):Prop where
 h:∃ ms,P.underlying t=some (.interface ms)
class TOne (P:Program) (t:TypeId):Prop where
 h:∃ d,P.underlying t=some d∧aggDesc d=false
 sz:(P.info? t).map (·.size)=some 1
class TRow (P:Program) (t:TypeId) (n:outParam Nat):Prop where
 h:∃ d,P.underlying t=some d∧aggDesc d=true
 sz:(P.info? t).map (·.size)=some n
class TSlice (P:Program) (t:TypeId) (e:outParam TypeId):Prop where
 h:P.underlying t=some (.slice e)
class TSize (P:Program) (t:TypeId) (n:outParam Nat):Prop where
 sz:(P.info? t).map (·.size)=some n
class TZer (P:Program) (t:TypeId) (cs:outParam (List Value)):Prop where
 h:(P.info? t).map (fun i=>i.zero.map (fun z=>z.cells.toList))=some (some cs)
class TStruct (P:Program) (t:TypeId) (pl:outParam (List (Nat × Nat))):Prop where
 h:∃ fs,P.underlying t=some (.struct fs)∧fs.toList.mapM (fun f=>(P.info? f.type).map fun i=>(f.offset,i.size))=some pl
class TFld (P:Program) (t:TypeId) (i:Nat) (off n:outParam Nat) (agg:outParam Bool):Prop where
 h:∃ fs f d,P.underlying t=some (.struct fs)∧fs[i]?=some f∧f.offset=off∧P.underlying f.type=some d∧aggDesc d=agg∧(P.info? f.type).map (·.size)=some (n+1)
class Enters (P:Program) (f:FuncId):Prop where
 h : ∃ fn, P.funcs[f]? = some fn ∧ (fn.name == "runtime.NumGoroutine") = false ∧ fn.body.isNone = false
section
variable {P:Program} {w:World}
theorem run_sizeOf_of {t n:Nat} (h:(P.info? t).map (·.size)=some n):(sizeOf t).run P w=.ok n w:=by
 cases hi:P.info? t with
 |none=>simp [hi] at h
 |some i=>
  have:i.size=n:=by simpa [hi] using h
  simp [sizeOf,typeInfo,hi,this]
theorem run_isAgg_of {t:Nat} {d:TypeDesc} (h:P.underlying t=some d):(isAgg t).run P w=.ok (aggDesc d) w:=by
 unfold isAgg
 rw [Sem.run_bind,run_underlying h w]
 cases d<;>rfl
theorem run_callFunc {f:FuncId} [e:Enters P f] (args:Array Value):(callFunc f args).run P w=.ok (.enter f args) w:=by
 obtain ⟨fn,h1,h2,h3⟩:=e.h
 have h4 : fn.name ≠ "runtime.NumGoroutine" := by simpa using h2
 have h5:fn.body ≠ none:=by intro e;rw [e] at h3;cases h3
 simp [callFunc,h1,h4,h5]
end
section
variable {P:Program} {Q:Exit→Act→World→Prop} {K:Act→World→Prop} {a:Act} {w:World}
 {dst:Option Tmp} {ty:TypeId} {pos:String} {after:Array Edge} {guard:Option (Nat × Bool)}
theorem wp_run {o:Oper} {v:Value} (h:(execOp a.eval o).run P w=.ok (.value v) w) (hk:K (a.put o.dst v) w):o.wp P a w K Q:=by
 unfold Oper.wp;rw [h];exact hk
theorem r_move {x:Operand} {v:Value} (hx:a.eval x=v) (hk:K (a.put dst v) w):(Oper.mk dst (.move x) ty pos after guard).wp P a w K Q:=
 wp_run (by simp [execOp,hx]) hk
theorem r_assign {x:Operand} {v:Value} (hx:a.eval x=v) (hk:K (a.put dst v) w):(Oper.mk dst (.assign x) ty pos after guard).wp P a w K Q:=
 wp_run (by simp [execOp,hx]) hk
theorem r_nilCheck {x:Operand} {p:Addr} (hx:a.eval x=.pointer (some p)) (hk:K (a.put dst (.pointer (some p))) w):(Oper.mk dst (.nilCheck x) ty pos after guard).wp P a w K Q:=
 wp_run (by simp [execOp,hx]) hk
theorem r_extract {x:Operand} {i:Nat} {vs:List Value} {v:Value} (hx:a.eval x=.tuple vs.toArray) (hv:vs[i]?=some v) (hk:K (a.put dst v) w):(Oper.mk dst (.extract x i) ty pos after guard).wp P a w K Q:=
 wp_run (by simp [execOp,hx,Instr.extract,hv]) hk
theorem r_not {x:Operand} {t:TypeId} {b:Bool} (hx:a.eval x=.bool b) (hk:K (a.put dst (.bool (!b))) w):(Oper.mk dst (.unOp .not t x) ty pos after guard).wp P a w K Q:=
 wp_run (by simp [execOp,hx,Op.unary]) hk
/-! whole numbers -/
section
variable {x y:Operand} {t t':TypeId} {k:IntKind} {p q:Int}
theorem int_run {op:BinOp} {v:Value} (hx:a.eval x=.int k p) (hy:a.eval y=.int k q) (hg:∀ r,(binOp op t (.int k p) (.int k q)).run P w=.ok r w→r=v) (hr:(binOp op t (.int k p) (.int k q)).run P w=.ok v w)
  (hk:K (a.put dst v) w):(Oper.mk dst (.binOp op t x y t') ty pos after guard).wp P a w K Q:=by
 refine wp_run ?_ hk
 have he:(eqGuard op t x y (.int k p) (.int k q)).run P w=.ok () w:=by
  unfold eqGuard
  cases op<;>simp
 simp only [execOp,hx,hy,Sem.run_bind,he,Result.andThen_ok,hr,Sem.run_pure]
theorem r_add {r:Int} (hx:a.eval x=.int k p) (hy:a.eval y=.int k q) (hr:k.wrap (p+q)=r) (hk:K (a.put dst (.int k r)) w):(Oper.mk dst (.binOp .add t x y t') ty pos after guard).wp P a w K Q:=
 int_run hx hy (fun _ h=>by simpa [binOp,Op.intArith,hr] using h.symm) (by simp [binOp,Op.intArith,hr]) hk
theorem r_sub {r:Int} (hx:a.eval x=.int k p) (hy:a.eval y=.int k q) (hr:k.wrap (p - q)=r) (hk:K (a.put dst (.int k r)) w):(Oper.mk dst (.binOp .sub t x y t') ty pos after guard).wp P a w K Q:=
 int_run hx hy (fun _ h=>by simpa [binOp,Op.intArith,hr] using h.symm) (by simp [binOp,Op.intArith,hr]) hk
theorem r_mul {r:Int} (hx:a.eval x=.int k p) (hy:a.eval y=.int k q) (hr:k.wrap (p * q)=r) (hk:K (a.put dst (.int k r)) w):(Oper.mk dst (.binOp .mul t x y t') ty pos after guard).wp P a w K Q:=
 int_run hx hy (fun _ h=>by simpa [binOp,Op.intArith,hr] using h.symm) (by simp [binOp,Op.intArith,hr]) hk
theorem r_quo {r:Int} (hx:a.eval x=.int k p) (hy:a.eval y=.int k q) (h0:q ≠ 0) (hr:k.wrap (p.tdiv q)=r) (hk:K (a.put dst (.int k r)) w):(Oper.mk dst (.binOp .quo t x y t') ty pos after guard).wp P a w K Q:=
 int_run hx hy (fun _ h=>by simpa [binOp,Op.intDiv,hr,h0] using h.symm) (by simp [binOp,Op.intDiv,hr,h0]) hk
theorem r_rem {r:Int} (hx:a.eval x=.int k p) (hy:a.eval y=.int k q) (h0:q ≠ 0) (hr:p.tmod q=r) (hk:K (a.put dst (.int k r)) w):(Oper.mk dst (.binOp .rem t x y t') ty pos after guard).wp P a w K Q:=
 int_run hx hy (fun _ h=>by simpa [binOp,Op.intDiv,hr,h0] using h.symm) (by simp [binOp,Op.intDiv,hr,h0]) hk
theorem r_neg {r:Int} (hx:a.eval x=.int k p) (hr:k.wrap (0 - p)=r) (hk:K (a.put dst (.int k r)) w):(Oper.mk dst (.unOp .neg t x) ty pos after guard).wp P a w K Q:=
 wp_run (by simp only [execOp,hx,Op.unary,Op.intArith,hr,Sem.run_bind,Sem.run_pure,Result.andThen_ok]) hk
theorem r_eql (hx:a.eval x=.int k p) (hy:a.eval y=.int k q) (hk:K (a.put dst (.bool (p == q))) w):(Oper.mk dst (.binOp .eql t x y t') ty pos after guard).wp P a w K Q:=
 int_run hx hy (fun _ h=>by simpa [binOp,Op.intCmp] using h.symm) (by simp [binOp,Op.intCmp]) hk
theorem r_neq (hx:a.eval x=.int k p) (hy:a.eval y=.int k q) (hk:K (a.put dst (.bool (!(p == q)))) w):(Oper.mk dst (.binOp .neq t x y t') ty pos after guard).wp P a w K Q:=
 int_run hx hy (fun _ h=>by simpa [binOp,Op.intCmp,bne] using h.symm) (by simp [binOp,Op.intCmp,bne]) hk
theorem r_lss (hx:a.eval x=.int k p) (hy:a.eval y=.int k q) (hk:K (a.put dst (.bool (decide (p < q)))) w):(Oper.mk dst (.binOp .lss t x y t') ty pos after guard).wp P a w K Q:=
 int_run hx hy (fun _ h=>by simpa [binOp,Op.intCmp] using h.symm) (by simp [binOp,Op.intCmp]) hk
theorem r_leq (hx:a.eval x=.int k p) (hy:a.eval y=.int k q) (hk:K (a.put dst (.bool (decide (p≤q)))) w):(Oper.mk dst (.binOp .leq t x y t') ty pos after guard).wp P a w K Q:=
 int_run hx hy (fun _ h=>by simpa [binOp,Op.intCmp] using h.symm) (by simp [binOp,Op.intCmp]) hk
theorem r_gtr (hx:a.eval x=.int k p) (hy:a.eval y=.int k q) (hk:K (a.put dst (.bool (decide (q < p)))) w):(Oper.mk dst (.binOp .gtr t x y t') ty pos after guard).wp P a w K Q:=
 int_run hx hy (fun _ h=>by simpa [binOp,Op.intCmp] using h.symm) (by simp [binOp,Op.intCmp]) hk
theorem r_geq (hx:a.eval x=.int k p) (hy:a.eval y=.int k q) (hk:K (a.put dst (.bool (decide (q≤p)))) w):(Oper.mk dst (.binOp .geq t x y t') ty pos after guard).wp P a w K Q:=
 int_run hx hy (fun _ h=>by simpa [binOp,Op.intCmp] using h.symm) (by simp [binOp,Op.intCmp]) hk
theorem r_max {ts:Array TypeId} (hx:a.eval x=.int k p) (hy:a.eval y=.int k q) (hk:K (a.put dst (.int k (max p q))) w):(Oper.mk dst (.call ⟨.builtin .max,#[x,y],ts⟩) ty pos after guard).wp P a w K Q:=by
 refine wp_run ?_ hk
 have e:(if q > p then q else p)=max p q:=by split<;>omega
 simp [execOp,resolve,invoke,builtin,hx,hy,Builtin.max_,Builtin.max2,e]
theorem r_min {ts:Array TypeId} (hx:a.eval x=.int k p) (hy:a.eval y=.int k q) (hk:K (a.put dst (.int k (min p q))) w):(Oper.mk dst (.call ⟨.builtin .min,#[x,y],ts⟩) ty pos after guard).wp P a w K Q:=by
 refine wp_run ?_ hk
 have e:(if q < p then q else p)=min p q:=by split<;>omega
 simp [execOp,resolve,invoke,builtin,hx,hy,Builtin.min_,Builtin.min2,e]
theorem r_conv [i:TInt P t' k] {k':IntKind} {r:Int} {s:TypeId} {d:TypeDesc} (hs:P.underlying s=some d) (hx:a.eval x=.int k' p) (hr:k.wrap p=r) (hk:K (a.put dst (.int k r)) w):(Oper.mk dst (.convert s t' x) ty pos after guard).wp P a w K Q:=by
 refine wp_run ?_ hk
 simp [execOp,hx,convert,run_underlying hs,run_underlying i.h,Conv.intToInt,hr]
theorem r_boolEq [i:TBool P t] {b c:Bool} (hx:a.eval x=.bool b) (hy:a.eval y=.bool c) (hk:K (a.put dst (.bool (b == c))) w):(Oper.mk dst (.binOp .eql t x y t') ty pos after guard).wp P a w K Q:=by
 refine wp_run ?_ hk
 have he:(eqGuard .eql t x y (.bool b) (.bool c)).run P w=.ok () w:=by unfold eqGuard;simp
 have h2:(Op.equal t (.bool b) (.bool c)).run P w=.ok (b == c) w:=by
  show (Op.equalIn (9999+1) t (.bool b) (.bool c)).run P w=_
  unfold Op.equalIn
  rw [Sem.run_bind,run_underlying i.h]
  rfl
 have h3:(binOp .eql t (.bool b) (.bool c)).run P w=.ok (.bool (b == c)) w:=by
  show (do pure (Value.bool (← Op.equal t (.bool b) (.bool c))):Sem Value).run P w=_
  rw [Sem.run_bind,h2]
  rfl
 simp only [execOp,hx,hy,Sem.run_bind,he,Result.andThen_ok,h3,Sem.run_pure]
theorem r_boolNe [i:TBool P t] {b c:Bool} (hx:a.eval x=.bool b) (hy:a.eval y=.bool c) (hk:K (a.put dst (.bool (!(b == c)))) w):(Oper.mk dst (.binOp .neq t x y t') ty pos after guard).wp P a w K Q:=by
 refine wp_run ?_ hk
 have he:(eqGuard .neq t x y (.bool b) (.bool c)).run P w=.ok () w:=by unfold eqGuard;simp
 have h2:(Op.equal t (.bool b) (.bool c)).run P w=.ok (b == c) w:=by
  show (Op.equalIn (9999+1) t (.bool b) (.bool c)).run P w=_
  unfold Op.equalIn
  rw [Sem.run_bind,run_underlying i.h]
  rfl
 have h3:(binOp .neq t (.bool b) (.bool c)).run P w=.ok (.bool (!(b == c))) w:=by
  show (do pure (Value.bool (!(← Op.equal t (.bool b) (.bool c)))):Sem Value).run P w=_
  rw [Sem.run_bind,h2]
  rfl
 simp only [execOp,hx,hy,Sem.run_bind,he,Result.andThen_ok,h3,Sem.run_pure]
end
/-! texts -/
section
variable {x y:Operand} {t t':TypeId} {s u:List UInt8}
theorem str_run {op:BinOp} {v:Value} (hx:a.eval x=.string ⟨s.toArray⟩) (hy:a.eval y=.string ⟨u.toArray⟩) (hr:(binOp op t (.string ⟨s.toArray⟩) (.string ⟨u.toArray⟩)).run P w=.ok v w)
  (hk:K (a.put dst v) w):(Oper.mk dst (.binOp op t x y t') ty pos after guard).wp P a w K Q:=by
 refine wp_run ?_ hk
 have he:(eqGuard op t x y (.string ⟨s.toArray⟩) (.string ⟨u.toArray⟩)).run P w=.ok () w:=by
  unfold eqGuard
  cases op<;>simp
 simp only [execOp,hx,hy,Sem.run_bind,he,Result.andThen_ok,hr,Sem.run_pure]
theorem r_cat (hx:a.eval x=.string ⟨s.toArray⟩) (hy:a.eval y=.string ⟨u.toArray⟩) (hl:s.length+u.length≤9223372036854775807) (hk:K (a.put dst (.string ⟨(s++u).toArray⟩)) w):(Oper.mk dst (.binOp .add t x y t') ty pos after guard).wp P a w K Q:=by
 refine str_run hx hy ?_ hk
 have e:(ByteArray.mk s.toArray++ByteArray.mk u.toArray)=ByteArray.mk (s++u).toArray:=by
  apply ByteArray.ext
  simp [ByteArray.data_append]
 have h1:(ByteArray.mk s.toArray).size=s.length:=by simp [ByteArray.size]
 have h2:(ByteArray.mk u.toArray).size=u.length:=by simp [ByteArray.size]
 have h3:¬ (((s.length+u.length:Nat):Int) > IntKind.i64.max):=by
  have:IntKind.i64.max=9223372036854775807:=by decide
  rw [this];omega
 simp only [binOp,Op.stringOp,h1,h2,if_neg h3,e,Sem.run_pure]
theorem r_seql (hx:a.eval x=.string ⟨s.toArray⟩) (hy:a.eval y=.string ⟨u.toArray⟩) (hk:K (a.put dst (.bool (s == u))) w):(Oper.mk dst (.binOp .eql t x y t') ty pos after guard).wp P a w K Q:=
 str_run hx hy (by simp [binOp,Op.stringOp]) hk
theorem r_sneq (hx:a.eval x=.string ⟨s.toArray⟩) (hy:a.eval y=.string ⟨u.toArray⟩) (hk:K (a.put dst (.bool (!(s == u)))) w):(Oper.mk dst (.binOp .neq t x y t') ty pos after guard).wp P a w K Q:=
 str_run hx hy (by simp [binOp,Op.stringOp]) hk
theorem r_slss (hx:a.eval x=.string ⟨s.toArray⟩) (hy:a.eval y=.string ⟨u.toArray⟩) (hk:K (a.put dst (.bool (Op.bytesLess s u))) w):(Oper.mk dst (.binOp .lss t x y t') ty pos after guard).wp P a w K Q:=
 str_run hx hy (by simp [binOp,Op.stringOp]) hk
theorem r_sleq (hx:a.eval x=.string ⟨s.toArray⟩) (hy:a.eval y=.string ⟨u.toArray⟩) (hk:K (a.put dst (.bool (Op.bytesLess s u || s == u))) w):(Oper.mk dst (.binOp .leq t x y t') ty pos after guard).wp P a w K Q:=
 str_run hx hy (by simp [binOp,Op.stringOp]) hk
theorem r_len_str [i:TStr P t] (hx:a.eval x=.string ⟨s.toArray⟩) (hk:K (a.put dst (.int .i64 s.length)) w):(Oper.mk dst (.call ⟨.builtin .len,#[x],#[t]⟩) ty pos after guard).wp P a w K Q:=by
 refine wp_run ?_ hk
 have hz:(ByteArray.mk s.toArray).size=s.length:=by simp [ByteArray.size]
 simp [execOp,resolve,invoke,builtin,hx,run_len_string w t ty _ i.h,goInt,hz]
theorem r_index_str [i:TStr P t] {k:IntKind} {n:Int} (hx:a.eval x=.string ⟨s.toArray⟩) (hy:a.eval y=.int k n) (h0:0≤n) (h1:n < s.length) (hk:K (a.put dst (.int .u8 (s.getD n.toNat 0).toNat)) w):(Oper.mk dst (.index t x y) ty pos after guard).wp P a w K Q:=by
 refine wp_run ?_ hk
 have hlt:n.toNat < s.length:=by omega
 have hz:(ByteArray.mk s.toArray).size=s.length:=by simp [ByteArray.size]
 have hz':n.toNat < (ByteArray.mk s.toArray).size:=by rw [hz];exact hlt
 have e:(ByteArray.mk s.toArray)[n.toNat]?=some (s.getD n.toNat 0):=by
  rw [ByteArray.getElem?_lt' _ _ hz']
  simp [List.getD_eq_getElem?_getD,hlt]
  rfl
 simp [execOp,hx,hy,Instr.index,asIntOf,run_underlying i.h,h0,e]
theorem r_slice_str [i:TStr P t] {lo hi:Option Operand} {l h:Nat} (hx:a.eval x=.string ⟨s.toArray⟩)
  (hl:match lo with|none=>l=0|some o=>∃ k:IntKind,a.eval o=.int k (l:Int)) (hh:match hi with|none=>h=s.length|some o=>∃ k:IntKind,a.eval o=.int k (h:Int)) (h1:l≤h) (h2:h≤s.length)
  (hk:K (a.put dst (.string ⟨((s.take h).drop l).toArray⟩)) w):(Oper.mk dst (.slice t x lo hi none) ty pos after guard).wp P a w K Q:=by
 refine wp_run ?_ hk
 have hz:(ByteArray.mk s.toArray).size=s.length:=by simp [ByteArray.size]
 have e:(ByteArray.mk s.toArray).extract l h=ByteArray.mk ((s.take h).drop l).toArray:=by
  rw [ByteArray.extract_mk,List.drop_take]
 cases lo with
 |none=>
  simp only at hl
  subst hl
  cases hi with
  |none=>
   simp only at hh
   subst hh
   simp [execOp,hx,Instr.sliceAt,Instr.slice,Instr.sliceBounds,run_underlying i.h,hz,e]
  |some o=>
   obtain ⟨k,hk'⟩:=hh
   have hb:(0:Int)≤h∧(h:Int)≤s.length:=by omega
   simp [execOp,hx,Instr.sliceAt,Instr.slice,Instr.sliceBounds,Instr.sliceBound,asIntOf,run_underlying i.h,hz,e,hk',h2]
 |some o=>
  obtain ⟨k,hk'⟩:=hl
  cases hi with
  |none=>
   simp only at hh
   subst hh
   simp [execOp,hx,Instr.sliceAt,Instr.slice,Instr.sliceBounds,Instr.sliceBound,asIntOf,run_underlying i.h,hz,e,hk',h1]
  |some o'=>
   obtain ⟨k',hk''⟩:=hh
   simp [execOp,hx,Instr.sliceAt,Instr.slice,Instr.sliceBounds,Instr.sliceBound,asIntOf,run_underlying i.h,hz,e,hk',hk'',h1,h2]
end
/-! parts of aggregates -/
theorem r_field1 {x:Operand} {t:TypeId} {i off n:Nat} [f:TFld P t i off n false] {cs:List Value} {v:Value} (hx:a.eval x=.agg cs.toArray) (hv:cs[off]?=some v) (hk:K (a.put dst v) w):(Oper.mk dst (.field t x i) ty pos after guard).wp P a w K Q:=by
 obtain ⟨fs,f,d,h1,h2,h3,h4,h5,h6⟩:=f.h
 refine wp_run ?_ hk
 simp [execOp,hx,Instr.field,run_underlying h1,h2,asAgg,part,run_isAgg_of h4,h5,h3,hv]
theorem r_fieldN {x:Operand} {t:TypeId} {i off n:Nat} [f:TFld P t i off n true] {cs:List Value} (hx:a.eval x=.agg cs.toArray) (hk:K (a.put dst (.agg ((cs.drop off).take (n+1)).toArray)) w):(Oper.mk dst (.field t x i) ty pos after guard).wp P a w K Q:=by
 obtain ⟨fs,f,d,h1,h2,h3,h4,h5,h6⟩:=f.h
 refine wp_run ?_ hk
 have e:cs.toArray.extract off (off+(n+1))=((cs.drop off).take (n+1)).toArray:=by simp [List.drop_take]
 simp only [execOp,hx,Instr.field,run_underlying h1,h2,asAgg,part,run_isAgg_of h4,h5,h3,run_sizeOf_of h6,Sem.run_bind,Sem.run_pure,Result.andThen_ok,if_true,e]
theorem r_fieldAddr {x:Operand} {t:TypeId} {i off n:Nat} {ag:Bool} [f:TFld P t i off n ag] {b p:Nat} (hx:a.eval x=.pointer (some ⟨b,p,none⟩)) (hk:K (a.put dst (.pointer (some ⟨b,p+off,none⟩))) w):(Oper.mk dst (.fieldAddr t x i) ty pos after guard).wp P a w K Q:=by
 obtain ⟨fs,f,d,h1,h2,h3,h4,h5,h6⟩:=f.h
 refine wp_run ?_ hk
 have e:(⟨b,p,none⟩:Addr).add off=⟨b,p+off,none⟩:=by unfold Addr.add;split<;>simp_all
 simp [execOp,hx,Instr.fieldAt,run_underlying h1,h2,Instr.sureAddr,fieldPlace,run_sizeOf_of h6,h3,e]
/-! memory -/
theorem r_load1 {x:Operand} {t:TypeId} [i:TOne P t] {p:Addr} {v:Value} (hx:a.eval x=.pointer (some p)) (hc:w.cell? p=some v) (hk:K (a.put dst v) w):(Oper.mk dst (.load t x) ty pos after guard).wp P a w K Q:=by
 obtain ⟨d,h1,h2⟩:=i.h
 refine wp_run ?_ hk
 simp [execOp,hx,Instr.loadAt,Instr.sureAddr,loadVar,run_isAgg_of h1,h2,hc]
theorem r_loadN {x:Operand} {t n:Nat} [i:TRow P t n] {b p:Nat} {cs:List Value} (hx:a.eval x=.pointer (some ⟨b,p,none⟩)) (hc:RowAt w b p cs) (hn:cs.length=n) (hk:K (a.put dst (.agg cs.toArray)) w):(Oper.mk dst (.load t x) ty pos after guard).wp P a w K Q:=by
 obtain ⟨d,h1,h2⟩:=i.h
 refine wp_load_at t x b p cs d rfl hx hc h1 (by cases d<;>simp_all [aggDesc]) (by rw [i.sz,hn]) hk
theorem r_indexAddr {x y:Operand} {t e n:Nat} [i:TSlice P t e] [z:TSize P e n] {b p l c:Nat} {k:IntKind} {j:Int} (hx:a.eval x=.slice (some ⟨b,p,none⟩) l c) (hy:a.eval y=.int k j) (h0:0≤j) (h1:j < l)
  (hk:K (a.put dst (.pointer (some ⟨b,p+j.toNat * n,none⟩))) w):(Oper.mk dst (.indexAddr t x y) ty pos after guard).wp P a w K Q:=by
 refine wp_run ?_ hk
 have e:(⟨b,p,none⟩:Addr).add (j.toNat * n)=⟨b,p+j.toNat * n,none⟩:=by unfold Addr.add;split<;>simp_all
 simp [execOp,hx,hy,Instr.indexAt,asIntOf,run_underlying i.h,h0,h1,run_sizeOf_of z.sz,e]
theorem r_len_slice {x:Operand} {t e:Nat} [i:TSlice P t e] {A:Option Addr} {l c:Nat} (hx:a.eval x=.slice A l c) (hk:K (a.put dst (.int .i64 l)) w):(Oper.mk dst (.call ⟨.builtin .len,#[x],#[t]⟩) ty pos after guard).wp P a w K Q:=by
 refine wp_run ?_ hk
 simp [execOp,resolve,invoke,builtin,hx,Builtin.len_,run_underlying i.h,goInt]
theorem r_box {x:Operand} {t:TypeId} {v:Value} (hx:a.eval x=v) (hk:∀ g w',Blk w' g t v.cells→Ext w w'→g=w.heap.size→K (a.put dst (.pointer (some ⟨g,0,none⟩))) w'):(Oper.mk dst (.box t x) ty pos after guard).wp P a w K Q:=by
 have h:=hk w.heap.size (w.alloc (.cells v.cells t)) (Blk.new _ _ _) (Ext.alloc _ _) rfl
 unfold Oper.wp
 have e:(execOp a.eval (Oper.mk dst (.box t x) ty pos after guard)).run P w=.ok (.value (.pointer (some ⟨w.heap.size,0,none⟩))) (w.alloc (.cells v.cells t)):=by
  simp [execOp,hx,Instr.box,newVar,newRow]
 rw [e]
 exact h
theorem r_alloc {t:TypeId} {cs:List Value} [i:TZer P t cs] (hk:∀ g w',Blk w' g t cs.toArray→Ext w w'→g=w.heap.size→K (a.put dst (.pointer (some ⟨g,0,none⟩))) w'):(Oper.mk dst (.alloc t) ty pos after guard).wp P a w K Q:=by
 have h:=hk w.heap.size (w.alloc (.cells cs.toArray t)) (Blk.new _ _ _) (Ext.alloc _ _) rfl
 have hz:=i.h
 unfold Oper.wp
 have e:(execOp a.eval (Oper.mk dst (.alloc t) ty pos after guard)).run P w=.ok (.value (.pointer (some ⟨w.heap.size,0,none⟩))) (w.alloc (.cells cs.toArray t)):=by
  cases hi:P.info? t with
  |none=>simp [hi] at hz
  |some inf=>
   cases hzz:inf.zero with
   |none=>simp [hi,hzz] at hz
   |some z=>
    have hzc:z.cells.toList=cs:=by simpa [hi,hzz] using hz
    have hzc':z.cells=cs.toArray:=by rw [← hzc]
    simp [execOp,Instr.alloc,zeroValue,typeInfo,hi,hzz,newVar,newRow,hzc']
 rw [e]
 exact h
/-! calls -/
theorem r_call {f:FuncId} [e:Enters P f] {xs:Array Operand} {ts:Array TypeId} {args:Array Value} {R:Ending→World→Prop} (hc:Calls P f args w R) (hx:xs.map a.eval=args)
  (hk:∀ e w',R e w'→match e with | .returned v=>K (a.put dst v) w' | .panicked ch=>Q (.panic ch) a w' | .outgrown=>LetsOut Q):(Oper.mk dst (.call ⟨.value (.func f),xs,ts⟩) ty pos after guard).wp P a w K Q:=by
 subst hx
 have e:(execOp a.eval (Oper.mk dst (.call ⟨.value (.func f),xs,ts⟩) ty pos after guard)).run P w=.ok (.enter f (xs.map a.eval)) w:=by
  simp [execOp,resolve,Act.eval,Deferred.ofValue,invoke,run_callFunc]
 unfold Oper.wp
 rw [e]
 refine Calls.mono hc fun en w' hr => ?_
 have:=hk en w' hr
 cases en<;>exact this
end
section
variable {P:Program} {Q:Exit→Act→World→Prop} {K:Act→World→Prop} {a:Act} {w:World}
theorem cell_blk {w w':World} {b j:Nat} {t:TypeId} {cs:List Value} {v:Value} (h:Blk w b t cs.toArray) (hx:Ext w w') (hv:cs[j]?=some v):w'.cell? ⟨b,j,none⟩=some v:=by
 rw [(h.ext hx).cell j];simpa using hv
theorem cell_row0 {w w':World} {b j:Nat} {cs:List Value} {v:Value} (h:RowAt w b 0 cs) (hx:Ext w w') (hv:cs[j]?=some v):w'.cell? ⟨b,j,none⟩=some v:=by
 have:=(h.ext hx) j v hv;rwa [Nat.zero_add] at this
theorem cell_rowp {w w':World} {b p:Nat} {cs:List Value} {v:Value} (h:RowAt w b p cs) (hx:Ext w w') (hv:cs[0]?=some v):w'.cell? ⟨b,p,none⟩=some v:=(h.ext hx) 0 v hv
end
/-! ### The same under short names: rewriting of frames, and the chain of worlds -/
theorem xt {a b c:World} (h:Ext a b) (k:Ext b c):Ext a c:=h.trans k
section
variable {w w':World} {b p j:Nat} {t:TypeId} {cs:List Value} {v:Value}
theorem cb (h:Blk w b t cs.toArray) (hx:Ext w w') (hv:cs[j]?=some v):w'.cell? ⟨b,j,none⟩=some v:=cell_blk h hx hv
theorem c0 (h:RowAt w b 0 cs) (hx:Ext w w') (hv:cs[j]?=some v):w'.cell? ⟨b,j,none⟩=some v:=cell_row0 h hx hv
theorem cp (h:RowAt w b p cs) (hx:Ext w w') (hv:cs[0]?=some v):w'.cell? ⟨b,p,none⟩=some v:=cell_rowp h hx hv
theorem cx {q:Addr} (h:w.cell? q=some v) (hx:Ext w w'):w'.cell? q=some v:=hx.cell h
end
section
variable {P:Program} {Q:Exit→Act→World→Prop} {a:Act} {w:World} {dst:Option Tmp} {ty:TypeId} {pos:String} {after:Array Edge} {ops:Array Oper} {rest:List Oper} {ss:List Spec} {fs:List (World→Prop)}
end
theorem foldSet_get {off:Nat}:∀ (l:List Value) (k:Nat) (arr:Array Value),off+k+l.length≤arr.size→∀ i,((l.zipIdx k).foldl (fun cs (x:Value × Nat)=>cs.setIfInBounds (off+x.2) x.1) arr)[i]? =
  if off+k≤i∧i < off+k+l.length then l[i - (off+k)]? else arr[i]?
 |[],k,arr,h,i=>by
  simp only [List.zipIdx_nil,List.foldl_nil,List.length_nil,Nat.add_zero]
  rw [if_neg (by omega)]
 |c::l,k,arr,h,i=>by
  simp only [List.length_cons] at h
  simp only [List.zipIdx_cons,List.foldl_cons]
  rw [foldSet_get l (k+1) _ (by simp;omega) i]
  simp only [List.length_cons]
  by_cases h1:i=off+k
  ·subst h1
   rw [if_neg (by omega),if_pos (by omega)]
   rw [Array.getElem?_setIfInBounds]
   simp
   omega
  ·by_cases h2:off+k≤i∧i < off+k+(l.length+1)
   ·rw [if_pos (by omega),if_pos h2]
    have e:i - (off+k)=(i - (off+(k+1)))+1:=by omega
    rw [e,List.getElem?_cons_succ]
   ·rw [if_neg (by omega),if_neg h2,Array.getElem?_setIfInBounds_ne (by omega)]
theorem foldSet {off:Nat} (l:List Value) (arr:Array Value) (h:off+l.length≤arr.size):
  (l.toArray.zipIdx.foldl (fun cs (x:Value × Nat)=>cs.setIfInBounds (off+x.2) x.1) arr)=(arr.toList.take off++l++arr.toList.drop (off+l.length)).toArray:=by
 have h0:(l.toArray.zipIdx.foldl (fun cs (x:Value × Nat)=>cs.setIfInBounds (off+x.2) x.1) arr)=(l.zipIdx 0).foldl (fun cs (x:Value × Nat)=>cs.setIfInBounds (off+x.2) x.1) arr:=by
  rw [← Array.foldl_toList];simp
 rw [h0]
 apply Array.ext_getElem?
 intro i
 rw [foldSet_get l 0 arr (by omega) i]
 simp only [Nat.add_zero,List.getElem?_toArray]
 by_cases h2:off≤i∧i < off+l.length
 ·rw [if_pos h2,List.append_assoc,List.getElem?_append_right (by simp;omega),List.getElem?_append_left (by simp;omega)]
  congr 1
  simp
  omega
 ·rw [if_neg h2]
  by_cases h3:i < off
  ·rw [List.append_assoc,List.getElem?_append_left (by simp;omega),List.getElem?_take,if_pos h3];simp
  ·rw [List.getElem?_append_right (by simp;omega),List.getElem?_drop]
   simp
   congr 1
   omega
theorem fill_rows {size:Nat}:∀ (vals:List Value) (k:Nat) (cells:Array Value),(∀ v ∈ vals,v.cells.size=size)→cells.size=(k+vals.length) * size→
  Instr.fill (fun i=>some (i * size,size)) cells (vals.zipIdx k |>.map fun x=>(x.2,x.1))=some (cells.toList.take (k * size)++(vals.map fun v=>v.cells.toList).flatten).toArray
 |[],k,cells,_,hs=>by
  simp only [List.zipIdx_nil,List.map_nil,Instr.fill,List.flatten_nil,List.append_nil]
  rw [List.take_of_length_le (by simp at hs ⊢;omega)]
 |v::vals,k,cells,hv,hs=>by
  have h1:=hv v (by simp)
  simp only [List.zipIdx_cons,List.map_cons,Instr.fill]
  have h3:(k+(v::vals).length) * size=k * size+size+vals.length * size:=by
   simp only [List.length_cons,Nat.add_mul];omega
  rw [h3] at hs
  have hb:(v.cells.size ≠ size || decide (k * size+v.cells.size > cells.size))=false:=by
   simp [h1];omega
  rw [if_neg (by rw [hb];simp)]
  have hvl:v.cells.toList.length=size:=by simpa using h1
  have hfold:=foldSet (off:=k * size) v.cells.toList cells (by rw [hvl];omega)
  simp only [Array.toArray_toList] at hfold
  rw [hfold]
  rw [fill_rows vals (k+1) _ (fun u hu=>hv u (by simp [hu])) (by
   simp only [List.size_toArray,List.length_append,List.length_take,List.length_drop,Array.length_toList,hvl,Nat.add_mul]
   omega)]
  simp only [List.map_cons,List.flatten_cons,Option.some.injEq]
  congr 1
  have e:(k+1) * size=(cells.toList.take (k * size)++v.cells.toList).length:=by
   simp only [List.length_append,List.length_take,Array.length_toList,hvl,Nat.add_mul];omega
  rw [e,List.take_left,List.append_assoc]
section
variable {P:Program} {Q:Exit→Act→World→Prop} {K:Act→World→Prop} {a:Act} {w:World}
 {dst:Option Tmp} {ty:TypeId} {pos:String} {after:Array Edge} {guard:Option (Nat × Bool)} {ops:Array Oper} {rest:List Oper} {ss:List Spec} {fs:List (World→Prop)}
theorem r_buildSlice {t e n m:Nat} {zc:List Value} [i:TSlice P t e] [z:TSize P e n] [zz:TZer P e zc] {xs:List Operand} {parts:Array (Nat × Operand)} {vals:List Value} {rows:List (List Value)} (hp:parts=(xs.zipIdx.map fun x=>(x.2,x.1)).toArray) (hm:xs.length=m) (hx:xs.map a.eval=vals)
  (hr:(vals.map fun v=>v.cells.toList)=rows) (hn:(rows.all fun r=>r.length == n)=true) (hz:(decide (0 < n) && decide (m * n≤16777216))=true)
  (hk:∀ g w',Blk w' g e rows.flatten.toArray→Ext w w'→g=w.heap.size→K (a.put dst (.slice (some ⟨g,0,none⟩) m m)) w'):(Oper.mk dst (.buildSlice t m parts) ty pos after guard).wp P a w K Q:=by
 have h:=hk w.heap.size (w.alloc (.cells rows.flatten.toArray e)) (Blk.new _ _ _) (Ext.alloc _ _) rfl
 have hz0:=zz.h
 simp only [Bool.and_eq_true,decide_eq_true_eq] at hz
 have hvs:∀ v ∈ vals,v.cells.size=n:=by
  intro v hv
  have h1:v.cells.toList ∈ rows:=by rw [← hr];exact List.mem_map_of_mem hv
  have:=List.all_eq_true.1 hn _ h1
  simpa using this
 have hlen:vals.length=m:=by rw [← hx,List.length_map,hm]
 unfold Oper.wp
 cases hi:P.info? e with
 |none=>simp [hi] at hz0
 |some inf=>
  obtain ⟨z0,hzz⟩:∃ z0,inf.zero=some z0:=by cases hq:inf.zero with|none=>simp [hi,hq] at hz0|some z=>exact ⟨z,rfl⟩
  have hpos:0 < m * n∨m * n=0:=by omega
  have key:∀ Z:Array Value,Z.size=m * n→Instr.fill (fun i=>some (i * n,n)) Z (parts.map fun (i,x)=>(i,a.eval x)).toList=some rows.flatten.toArray:=by
   intro Z hZ
   have e1:(parts.map fun (i,x)=>(i,a.eval x)).toList=(vals.zipIdx.map fun x=>(x.2,x.1)):=by
    rw [hp,← hx]
    simp [List.zipIdx_map,List.map_map,Function.comp_def]
   rw [e1,fill_rows vals 0 Z hvs (by rw [hZ,hlen];simp)]
   simp [hr]
  have e:(execOp a.eval (Oper.mk dst (.buildSlice t m parts) ty pos after guard)).run P w=.ok (.value (.slice (some ⟨w.heap.size,0,none⟩) m m)) (w.alloc (.cells rows.flatten.toArray e)):=by
   simp only [execOp,Instr.buildSlice,Sem.run_bind,run_underlying i.h,Result.andThen_ok,run_sizeOf_of z.sz]
   rw [if_neg (by omega)]
   rcases Nat.eq_zero_or_pos (m * n) with h0|h0
   ·simp only [h0,if_true,Sem.run_bind,Sem.run_pure,Result.andThen_ok]
    rw [key _ (by simp [h0])]
    simp [newRow]
   ·have hne:¬ m * n=0:=by omega
    simp only [hne,if_false,Sem.run_bind,zeroValue,typeInfo,run_program,hi,hzz,Sem.run_pure,Result.andThen_ok]
    rw [key _ (by simp)]
    simp [newRow]
  rw [e]
  exact h
theorem Ext.setRow {w w':World} {g:Nat} {cs:Array Value} (h:Ext w w') (hg:w.heap.size≤g):Ext w (w'.setRow g cs):=
 Below.trans h ⟨rfl,rfl,rfl,by simp [World.setRow],fun k hk=>setRow_other w' g k cs (by omega)⟩
def fillL (pl:List (Nat × Nat)):List Value→List (Nat × Value)→Option (List Value)
 |cells,[]=>some cells
 |cells,(i,v)::r=>match pl[i]? with
  |some (off,sz)=>if v.cells.toList.length=sz∧off+sz≤cells.length then fillL pl (cells.take off++v.cells.toList++cells.drop (off+sz)) r else none
  |none=>none
theorem fillL_fill {pl:List (Nat × Nat)}:∀ (vals:List (Nat × Value)) (cells cs:List Value),fillL pl cells vals=some cs→Instr.fill (pl.toArray[·]?) cells.toArray vals=some cs.toArray
 |[],cells,cs,h=>by simp only [fillL,Option.some.injEq] at h;subst h;rfl
 |(i,v)::r,cells,cs,h=>by
  simp only [fillL] at h
  cases hp:pl[i]? with
  |none=>rw [hp] at h;cases h
  |some x=>
   obtain ⟨off,sz⟩:=x
   rw [hp] at h
   simp only at h
   split at h
   ·rename_i hc
    have ih:=fillL_fill r _ cs h
    have hl:v.cells.size=sz:=by simpa using hc.1
    have hb:(v.cells.size ≠ sz || decide (off+v.cells.size > cells.toArray.size))=false:=by
     simp [hl];omega
    simp only [Instr.fill,List.getElem?_toArray,hp]
    rw [if_neg (by rw [hb];simp)]
    have hfold:=foldSet (off:=off) v.cells.toList cells.toArray (by simp [hl];omega)
    simp only [Array.toArray_toList] at hfold
    rw [hfold]
    have e:v.cells.toList.length=sz:=hc.1
    rw [e]
    simpa using ih
   ·cases h
theorem r_build {t:TypeId} {pl:List (Nat × Nat)} {zc:List Value} [s:TStruct P t pl] [zz:TZer P t zc] {parts:List (Nat × Operand)} {vals:List (Nat × Value)} {cs:List Value} (hx:(parts.map fun x=>(x.1,a.eval x.2))=vals) (hf:fillL pl zc vals=some cs)
  (hk:K (a.put dst (.agg cs.toArray)) w):(Oper.mk dst (.build t parts.toArray) ty pos after guard).wp P a w K Q:=by
 obtain ⟨fs,h1,h2⟩:=s.h
 have hz:=zz.h
 refine wp_build t _ rfl ?_ ?_
 all_goals
  have e:P.built t ((parts.toArray.map fun (i,x)=>(i,a.eval x)).toList)=some cs.toArray:=by
   unfold Program.built
   cases hi:P.info? t with
   |none=>simp [hi] at hz
   |some inf=>
    cases hzz:inf.zero with
    |none=>simp [hi,hzz] at hz
    |some z=>
     have hzc:z.cells.toList=zc:=by simpa [hi,hzz] using hz
     have hzc':z.cells=zc.toArray:=by rw [← hzc]
     simp only [h1,hzz,h2,hzc']
     have:=fillL_fill vals zc cs hf
     rw [← hx] at this
     simpa using this
 ·simp only [e,Option.isSome_some]
 ·simp only [e,Option.getD_some]
  exact hk
end
def reachB (l:Array Oper):Nat→Nat→Nat→Bool
 |0,_,_=>false
 |f+1,i,j=>match l[i]? with
  |some o=>o.after.any fun e=>Region.binds .any e && (e.on == j || reachB l f e.on j)
  |none=>false
def tailOk (l:Array Oper) (m:Nat):Bool:=(List.range l.size).all fun i=>decide (i < m) || (List.range i).all fun j=>reachB l l.size i j
theorem reach_listed {l:Array Oper} {listed:Array Bool} (hcl:∀ j o,l[j]?=some o→listed.getD j false=true→∀ e ∈ o.after,Region.binds .any e=true→listed.getD e.on false=true):
  ∀ (f i:Nat) (o:Oper) (j:Nat),l[i]?=some o→(∀ e ∈ o.after,Region.binds .any e=true→listed.getD e.on false=true)→reachB l f i j=true→listed.getD j false=true
 |0,_,_,_,_,_,h=>by cases h
 |f+1,i,o,j,ho,hd,h=>by
  simp only [reachB,ho] at h
  obtain ⟨e,he,hb⟩:=Array.any_eq_true'.1 h
  simp only [Bool.and_eq_true,Bool.or_eq_true,beq_iff_eq] at hb
  have hl:=hd e he hb.1
  rcases hb.2 with h1|h1
  ·rw [← h1];exact hl
  ·cases f with
   |zero=>cases h1
   |succ f=>
    cases hq:l[e.on]? with
    |none=>simp [reachB,hq] at h1
    |some p=>exact reach_listed hcl (f+1) e.on p j hq (hcl e.on p hq hl) h1
theorem count_lt:∀ (listed:Array Bool) (k:Nat),k≤listed.size→(∀ j,listed.getD j false=decide (j < k))→listed.toList.countP (fun x=>x)=k:=by
 intro ⟨l⟩ k hk h
 simp only [List.size_toArray] at hk
 have e:l=List.replicate k true++List.replicate (l.length - k) false:=by
  apply List.ext_getElem?
  intro i
  have hi:=h i
  by_cases hil:i < l.length
  ·have:l[i]=decide (i < k):=by simpa [hil] using hi
   rw [List.getElem?_eq_getElem hil,this]
   by_cases hik:i < k
   ·rw [List.getElem?_append_left (by simpa using hik)]
    simp [List.getElem?_replicate,hik]
   ·rw [List.getElem?_append_right (by simp;omega)]
    simp [List.getElem?_replicate,hik]
    omega
  ·rw [List.getElem?_eq_none (by omega),List.getElem?_eq_none (by simp;omega)]
 show l.countP (fun x=>x)=k
 rw [e,List.countP_append,List.countP_replicate,List.countP_replicate]
 simp
section
variable {P:Program} {Q:Exit→Act→World→Prop}
def tailQ (P:Program) (l:List Oper) (m:Nat) (Q:Exit→Act→World→Prop):Exit→Act→World→Prop
 |.normal,a,w=>wpList P l.toArray (NoPanic Q) (l.drop m) a w
 |e,a,w=>Q e a w
theorem wp_otherQ {o:Oper} {a:Act} {w:World} {K:Act→World→Prop} {Q1 Q2:Exit→Act→World→Prop} (hp:∀ c a w,Q1 (.panic c) a w→Q2 (.panic c) a w) (ho:LetsOut Q1→LetsOut Q2)
    (h:o.wp P a w K Q1):o.wp P a w K Q2:=by
  unfold Oper.wp at *
  generalize (execOp a.eval o).run P w=r at *
  cases r with
  |ok n w'=>
    cases n<;>simp only [Oper.upon] at h ⊢<;>first
      |exact h
      | (refine Calls.mono h fun e w'' hh => ?_
         cases e<;>first|exact hh|exact hp _ _ _ hh|exact ho hh)
  |halt x w'=>
    cases x<;>simp only [Oper.upon] at h ⊢<;>first|exact h|exact hp _ _ _ h
theorem any_of_list {l:List Oper} {m:Nat} (hok:parOk l.toArray=true) (htl:tailOk l.toArray m=true):∀ (k fuel:Nat) (listed:Array Bool) (b:Act) (w:World),m≤k→k≤l.length→listed.size=l.length→
  (∀ j,listed.getD j false=decide (j < k))→l.length≤fuel+k→wpList P l.toArray Q (l.drop k) b w→wpAny P .any l.toArray Q fuel listed b w:=by
 have hops:∀ i:Nat,l.toArray[i]?=l[i]?:=fun i=>by simp
 have only:∀ (k:Nat) (listed:Array Bool),m≤k→listed.size=l.length→(∀ j,listed.getD j false=decide (j < k))→∀ i ∈ Region.ready .any l.toArray listed,i=k∧k < l.length:=by
  intro k listed hmk hsz hl i hi
  obtain ⟨h0,o,ho',hall⟩:=mem_ready.1 hi
  have hil:i < l.length:=by have:=(Array.getElem?_eq_some_iff.1 ho').1;simpa using this
  have his:i < listed.size:=by omega
  have hun:listed.getD i false=false:=by
   simp [his] at h0 ⊢
   exact h0
  have hik:k≤i:=by
   rw [hl i] at hun
   simpa using hun
  rcases Nat.lt_or_ge k i with h1|h1
  ·exfalso
   have h2:=List.all_eq_true.1 htl i (by simpa using hil)
   simp only [Bool.or_eq_true,decide_eq_true_eq,List.all_eq_true,List.mem_range] at h2
   rcases h2 with h2|h2
   ·omega
   ·have h3:=reach_listed (l:=l.toArray) (listed:=listed) (fun j p hp hj e he hbd=>by
     have h4:=parOk_before hok hp he hbd
     rw [hl j] at hj
     rw [hl e.on]
     simp only [decide_eq_true_eq] at hj ⊢
     omega) _ i o k ho' hall (h2 k h1)
    rw [hl k] at h3
    simp at h3
  ·exact ⟨by omega,by omega⟩
 have none:∀ (k:Nat) (listed:Array Bool),k≤l.length→listed.size=l.length→(∀ j,listed.getD j false=decide (j < k))→Region.ready .any l.toArray listed = []→l.length≤k:=by
  intro k listed hk hsz hl hr
  rcases Nat.lt_or_ge k l.length with h1|h1
  ·exfalso
   have hm:k ∈ Region.ready .any l.toArray listed:=by
    rw [mem_ready]
    refine ⟨?_,l[k],by simp [h1],fun e he hbd => ?_⟩
    ·have hks:k < listed.size:=by omega
     have h2:=hl k
     simp [hks] at h2 ⊢
     exact h2
    ·have h4:=parOk_before hok (i:=k) (o:=l[k]) (by simp [h1]) he hbd
     rw [hl e.on]
     simpa using h4
   rw [hr] at hm
   cases hm
  ·exact h1
 intro k fuel
 induction fuel generalizing k with
 |zero=>
  intro listed b w hmk hk hsz hl hfu h
  have hlk:l.length≤k:=by omega
  refine ⟨?_,?_⟩
  ·rw [List.eq_nil_iff_forall_not_mem]
   intro i hi
   have:=only k listed hmk hsz hl i hi
   omega
  ·rw [List.drop_of_length_le hlk] at h
   exact h
 |succ fuel ih=>
  intro listed b w hmk hk hsz hl hfu h
  refine ⟨fun hr => ?_,fun i hi => ?_⟩
  ·rw [List.drop_of_length_le (none k listed hk hsz hl hr)] at h
   exact h
  ·obtain ⟨hik,hkl⟩:=only k listed hmk hsz hl i hi
   subst hik
   have hd:l.drop i=l[i]::l.drop (i+1):=List.drop_eq_getElem_cons hkl
   rw [hd] at h
   have hset:∀ j,(listed.setIfInBounds i true).getD j false=decide (j < i+1):=by
    intro j
    by_cases hji:j=i
    ·subst hji
     have hjs:j < listed.size:=by omega
     simp [hjs]
    ·rw [getD_set_ne false (Ne.symm hji),hl j]
     simp only [decide_eq_decide]
     omega
   have next:∀ b w,wpList P l.toArray Q (l.drop (i+1)) b w→wpAny P .any l.toArray Q fuel (listed.setIfInBounds i true) b w:=fun b w hh=>
    ih (i+1) _ b w (by omega) (by omega) (by simpa using hsz) hset (by omega) hh
   unfold wpOp
   have hoi:l.toArray[i]?=some l[i]:=by simp [hkl]
   rw [hoi]
   simp only
   unfold wpList at h
   split
   ·rename_i hw
    rw [if_pos hw] at h
    rcases h with h|h
    ·exact .inl (Oper.wp_mono next h)
    ·exact .inr h
   ·rename_i hw
    rw [if_neg hw] at h
    exact next _ _ h
end
structure Own (w:World) (B:Nat) (e:TypeId) (sz:Nat) (v:Value) (rows:List (List Value)):Prop where
 own:w.ownsRow B e sz v rows.length rows.flatten
 each:∀ r ∈ rows,r.length=sz
theorem Own.nil (w:World) (B:Nat) (e:TypeId) (sz:Nat):Own w B e sz (.slice none 0 0) []:=⟨World.ownsRow_nil w B e sz,by simp⟩
theorem grown_of_ext {w w':World} (h:Ext w w') (row:Option Nat):w.grownBy w' row:=
 ⟨h.os,h.tape,h.output,h.size,fun k hk _=>h.block k hk⟩
theorem Own.ext {w w':World} {B:Nat} {e:TypeId} {sz:Nat} {v:Value} {rows:List (List Value)} (h:Own w B e sz v rows) (hx:Ext w w'):Own w' B e sz v rows:=
 ⟨h.own.kept (grown_of_ext hx none) (by cases v.ownBlock<;>simp),h.each⟩
theorem flat_row:∀ {rows:List (List Value)} {sz:Nat},(∀ r ∈ rows,r.length=sz)→∀ (k:Nat) (r:List Value),rows[k]?=some r→∀ j,j < sz→rows.flatten[k * sz+j]?=r[j]?
 |[],_,_,k,r,h,_,_=>by simp at h
 |x::rows,sz,hall,0,r,h,j,hj=>by
  simp only [List.getElem?_cons_zero,Option.some.injEq] at h
  subst h
  have hx:=hall x (by simp)
  simp only [Nat.zero_mul,Nat.zero_add,List.flatten_cons]
  rw [List.getElem?_append_left (by omega)]
 |x::rows,sz,hall,k+1,r,h,j,hj=>by
  have hx:=hall x (by simp)
  simp only [List.flatten_cons]
  rw [List.getElem?_append_right (by rw [hx,Nat.add_mul];omega)]
  have e:(k+1) * sz+j - x.length=k * sz+j:=by rw [hx,Nat.add_mul];omega
  rw [e]
  exact flat_row (fun r hr=>hall r (by simp [hr])) k r (by simpa using h) j hj
class TElem (P:Program) (e:TypeId) (n:outParam Nat) (bytes:outParam Nat) (zc:outParam (List Value)):Prop where
 h:∃ i z,P.info? e=some i∧i.zero=some z∧i.size=n∧i.bytes=bytes∧z.cells.size=n∧0 < n
theorem TElem.of {P:Program} {e n bytes:Nat} {zc:List Value} (h:((P.info? e).map fun i=>(i.zero.map (·.cells.toList),i.size,i.bytes))=some (some zc,n,bytes)) (hz:zc.length=n) (hn:0 < n):TElem P e n bytes zc:=⟨by
 cases hi:P.info? e with
 |none=>simp [hi] at h
 |some i=>
  cases hq:i.zero with
  |none=>simp [hi,hq] at h
  |some z=>
   simp only [hi,hq,Option.map_some,Option.some.injEq,Prod.mk.injEq] at h
   obtain ⟨h1,h2,h3⟩:=h
   exact ⟨i,z,rfl,hq,h2,h3,by rw [← h2,h2,← hz,← h1];simp,hn⟩⟩
section
variable {P:Program} {Q:Exit→Act→World→Prop} {K:Act→World→Prop} {a:Act} {w:World}
 {dst:Option Tmp} {ty:TypeId} {pos:String} {after:Array Edge} {guard:Option (Nat × Bool)} {ops:Array Oper} {rest:List Oper} {ss:List Spec} {fs:List (World→Prop)}
end
/-! Facts behind a step that leaves all below B. -/
theorem Below.row {w w':World} {B b p:Nat} {cs:List Value} (h:Below B w w') (hr:RowAt w b p cs) (hb:b < B):RowAt w' b p cs:=fun j u hu=>by
 rw [h.cell (p:=⟨b,p+j,none⟩) hb];exact hr j u hu
theorem Below.ext {w w':World} {B:Nat} (h:Below B w w') (hB:w.heap.size≤B):Ext w w':=h.mono hB
def kindCode:Option TypeDesc→Nat
 |some (.int _)=>0
 |some .string=>1
 |some .bool=>2
 |_=>3
def veq:Value→Value→Bool
 |.int _ a,.int _ b=>a == b
 |.string a,.string b=>a.data.toList == b.data.toList
 |.bool a,.bool b=>a == b
 |_,_=>false
def veqs:List Value→List Value→Bool
 |x::xs,y::ys=>veq x y && veqs xs ys
 |_,_=>true
def fitsV:List Nat→List Value→List Value→Bool
 |[],[],[]=>true
 |0::ks,.int k _::xs,.int k' _::ys=>k == k' && fitsV ks xs ys
 |1::ks,.string _::xs,.string _::ys=>fitsV ks xs ys
 |2::ks,.bool _::xs,.bool _::ys=>fitsV ks xs ys
 |_,_,_=>false
class TEq (P:Program) (t:TypeId) (ks:outParam (List Nat)):Prop where
 s:P.underlying t=some (.struct (P.fieldsOf t))
 h : (P.fieldsOf t).toList.map (fun f => (f.name == "_", f.offset, kindCode (P.underlying f.type))) = ks.zipIdx.map fun x => (false, x.2, x.1)
 held:P.stoodInHeld t=false
 guard:P.eqGuardType P.depth t=false
section
variable {P:Program}
theorem eqFields_run (d : Nat) (w : World) : ∀ (fs : List Field) (ks : List Nat) (xs ys px py : List Value), fs.map (fun f => (f.name == "_", f.offset, kindCode (P.underlying f.type))) = (ks.zipIdx px.length).map (fun x => (false, x.2, x.1)) → px.length = py.length → fitsV ks xs ys = true →
  (Op.eqFields (d+1) (px++xs).toArray (py++ys).toArray fs).run P w=.ok (veqs xs ys) w
 |[],[],[],[],_,_,_,_,_=>rfl
 |[],_::_,_,_,_,_,h,_,_=>by simp at h
 |f::fs,[],_,_,_,_,h,_,_=>by simp at h
 |[],[],_::_,_,_,_,_,_,h=>by simp [fitsV] at h
 |[],[],[],_::_,_,_,_,_,h=>by simp [fitsV] at h
 |f::fs,k::ks,xs,ys,px,py,h,hp,hf=>by
  simp only [List.map_cons,List.zipIdx_cons,List.cons.injEq,Prod.mk.injEq] at h
  obtain ⟨⟨h1,h2,h3⟩,h4⟩:=h
  have hname : f.name ≠ "_" := by simpa using h1
  have next:∀ (x y:Value) (xs' ys':List Value),fitsV ks xs' ys'=true→(Op.eqFields (d+1) (px++x::xs').toArray (py++y::ys').toArray fs).run P w=.ok (veqs xs' ys') w:=fun x y xs' ys' hf'=>by
   have:=eqFields_run d w fs ks xs' ys' (px ++ [x]) (py ++ [y]) (by simpa using h4) (by simp [hp]) hf'
   simpa using this
  have parts:∀ (t:TypeDesc) (x y:Value) (xs' ys':List Value),P.underlying f.type=some t→aggDesc t=false→
    (part f.type (px++x::xs').toArray f.offset).run P w=.ok x w∧(part f.type (py++y::ys').toArray f.offset).run P w=.ok y w:=fun t x y xs' ys' ht ha=>by
   constructor<;>(unfold part;rw [Sem.run_bind,run_isAgg_of ht,ha];simp [h2,hp])
  have step:∀ (t:TypeDesc) (x y:Value) (xs' ys':List Value) (b:Bool),P.underlying f.type=some t→aggDesc t=false→(Op.equalIn (d+1) f.type x y).run P w=.ok b w→fitsV ks xs' ys'=true→
    (Op.eqFields (d+1) (px++x::xs').toArray (py++y::ys').toArray (f::fs)).run P w=.ok (b && veqs xs' ys') w:=fun t x y xs' ys' b ht ha hb hf'=>by
   obtain ⟨p1,p2⟩:=parts t x y xs' ys' ht ha
   simp only [Op.eqFields,if_pos hname,Sem.run_bind,p1,p2,hb,Result.andThen_ok]
   cases b
   ·rfl
   ·exact next x y xs' ys' hf'
  cases hu:P.underlying f.type with
  |none=>rw [hu] at h3;simp [kindCode] at h3;subst h3;simp [fitsV] at hf
  |some t=>
   rw [hu] at h3
   cases t with
   |int kd=>
    simp only [kindCode] at h3
    subst h3
    match xs,ys,hf with
    |.int k1 a::xs',.int k2 b::ys',hf=>
     simp only [fitsV,Bool.and_eq_true,beq_iff_eq] at hf
     obtain ⟨rfl,hf⟩:=hf
     exact step _ _ _ xs' ys' _ hu rfl (run_equalIn_int w d f.type k1 kd a b hu) hf
   |string=>
    simp only [kindCode] at h3
    subst h3
    match xs,ys,hf with
    |.string a::xs',.string b::ys',hf=>
     have:=run_equalIn_string w d f.type a b hu
     rw [ByteArray.toList_eq,ByteArray.toList_eq] at this
     exact step _ _ _ xs' ys' _ hu rfl this hf
   |bool=>
    simp only [kindCode] at h3
    subst h3
    match xs,ys,hf with
    |.bool a::xs',.bool b::ys',hf=>exact step _ _ _ xs' ys' _ hu rfl (run_equalIn_bool' w d f.type a b hu) hf
   |_=>simp [kindCode] at h3;subst h3;simp [fitsV] at hf
theorem struct_eq (t:TypeId) {ks:List Nat} [e:TEq P t ks] (w:World) (d:Nat) (xs ys:List Value) (hf:fitsV ks xs ys=true):(Op.equalIn (d+2) t (.agg xs.toArray) (.agg ys.toArray)).run P w=.ok (veqs xs ys) w:=by
 rw [run_equalIn_struct w (d+1) t _ _ e.s e.held]
 exact eqFields_run d w _ ks xs ys [] [] (by simpa using e.h) rfl hf
end
section
variable {P:Program} {Q:Exit→Act→World→Prop} {K:Act→World→Prop} {a:Act} {w:World}
 {dst:Option Tmp} {ty:TypeId} {pos:String} {after:Array Edge} {guard:Option (Nat × Bool)} {ops:Array Oper} {rest:List Oper} {ss:List Spec} {fs:List (World→Prop)}
theorem r_structEq {x y:Operand} {t t':TypeId} {ks:List Nat} {xs ys:List Value} [e:TEq P t ks] (hx:a.eval x=.agg xs.toArray) (hy:a.eval y=.agg ys.toArray) (hf:fitsV ks xs ys=true) (hk:K (a.put dst (.bool (veqs xs ys))) w):(Oper.mk dst (.binOp .eql t x y t') ty pos after guard).wp P a w K Q:=by
 refine wp_run ?_ hk
 have h1:=run_eqGuard_agg (P:=P) w .eql t x y xs.toArray ys.toArray e.guard
 have h2:=run_eql_struct (P:=P) w t xs.toArray ys.toArray
 rw [struct_eq t w 9998 xs ys hf] at h2
 simp only [execOp,hx,hy,Sem.run_bind,h1,h2,Result.andThen_ok,Sem.run_pure]
theorem r_structNe {x y:Operand} {t t':TypeId} {ks:List Nat} {xs ys:List Value} [e:TEq P t ks] (hx:a.eval x=.agg xs.toArray) (hy:a.eval y=.agg ys.toArray) (hf:fitsV ks xs ys=true) (hk:K (a.put dst (.bool (!veqs xs ys))) w):(Oper.mk dst (.binOp .neq t x y t') ty pos after guard).wp P a w K Q:=by
 refine wp_run ?_ hk
 have h1:=run_eqGuard_agg (P:=P) w .neq t x y xs.toArray ys.toArray e.guard
 have h2:=run_neq_struct (P:=P) w t xs.toArray ys.toArray
 rw [struct_eq t w 9998 xs ys hf] at h2
 simp only [execOp,hx,hy,Sem.run_bind,h1,h2,Result.andThen_ok,Sem.run_pure]
end
def tabO (k:IntKind) (zs:List Int):Obj→Prop:=fun o=>∃ e fz,o=.cells (zs.map fun z=>Value.int k z).toArray e fz
def bruijn:List Int := [0,1,56,2,57,49,28,3,61,58,42,50,38,29,17,4,62,47,59,36,45,43,51,22,53,39,33,30,24,18,12,5,63,55,48,27,60,41,37,16,46,35,44,21,52,32,23,11,54,26,40,15,34,20,31,10,25,14,19,9,13,8,7,6]
def intO:Obj→Prop:=fun o=>∃ (cs:Array Value) (e:TypeId) (fz:Nat × Nat) (n:Int),o=.cells cs e fz∧cs[0]?=some (.int .i64 n)
def GB:Nat→Option (Obj→Prop)
 |5=>some (tabO .u64 Lib.pow10Tab)
 |7=>some (tabO .u8 bruijn)
 |0=>some intO
  |_=>none
def sameK:IntKind→IntKind→Bool
 |.i8,.i8 | .i16,.i16 | .i32,.i32 | .i64,.i64 | .u8,.u8 | .u16,.u16 | .u32,.u32 | .u64,.u64=>true
 |_,_=>false
theorem sameK_eq {k k':IntKind} (h:sameK k k'=true):k=k':=by
 cases k<;>cases k'<;>first|rfl|cases h
inductive KD where
 |int (k:IntKind)
 |str
 |bool
 |st (ks:List Nat)
def sameKs:List Nat→List Nat→Bool
 |[],[]=>true
 |x::xs,y::ys=>Nat.beq x y && sameKs xs ys
 |_,_=>false
theorem sameKs_eq:∀ {xs ys:List Nat},sameKs xs ys=true→xs=ys
 |[],[],_=>rfl
 |x::xs,y::ys,h=>by
  simp only [sameKs,Bool.and_eq_true] at h
  rw [Nat.eq_of_beq_eq_true h.1,sameKs_eq h.2]
 |[],_::_,h=>by cases h
 |_::_,[],h=>by cases h
def sameKD:KD→KD→Bool
 |.int k,.int k'=>sameK k k'
 |.str,.str | .bool,.bool=>true
 |.st ks,.st ks'=>sameKs ks ks'
 |_,_=>false
theorem sameKD_eq {k k':KD} (h:sameKD k k'=true):k=k':=by
 cases k<;>cases k'<;>first|rfl|(cases h;done)|(simp only [sameKD] at h;rw [sameK_eq h])|(simp only [sameKD] at h;rw [sameKs_eq h])
def fitS:List Nat→List Value→Bool
 |[],[]=>true
 |1::ks,.string _::xs=>fitS ks xs
 |2::ks,.bool _::xs=>fitS ks xs
 |_,_=>false
def fitK:KD→Value→Bool
 |.int k,.int k' _=>sameK k k'
 |.str,.string _=>true
 |.bool,.bool _=>true
 |.st ks,.agg cs=>fitS ks cs.toList
 |_,_=>false
def keyEq:Value→Value→Bool
 |.agg xs,.agg ys=>veqs xs.toList ys.toList
 |x,y=>veq x y
def findV (k:Value):List (Value × Value)→Option Value
 |[]=>none
 |(k',v)::r=>match keyEq k k' with
  |true=>some v
  |false=>findV k r
def putV (k v:Value):List (Value × Value)→List (Value × Value)
 |[] => [(k,v)]
 |(k',v')::r=>match keyEq k k' with
  |true=>(k,v)::r
  |false=>(k',v')::putV k v r
def delV (k:Value):List (Value × Value)→List (Value × Value)
 |[] => []
 |(k',v')::r=>match keyEq k k' with
  |true=>r
  |false=>(k',v')::delV k r
inductive D where
 |any
 |int (k:IntKind) (n:Int)
 |bool (b:Bool)
 |str (s:List UInt8)
 |pv (v:Value)
 |nil
 |sl (m sz:Nat) (rows:List (List D))
 |ptr (cells:List D)
 |obj (cells:List D)
 |ref (t off:Nat)
 |gref (c:Bool) (t off:Nat)
 |al (t:Nat)
 |alc (t off:Nat)
 |el (t off sz k j:Nat)
 |es (t sz k j:Nat)
 |fn (f:Nat) (caps:List D)
 |gd (c:Bool) (d:D)
 |agg (cs:List D)
 |tup (ds:List D)
 |mp (kd:KD) (es:List (Value × Value))
 |nsl (sz n:Nat) (z:List D)
 |nagg (cs:List D) (off sz n:Nat) (z:List D)
instance:Inhabited D:=⟨.any⟩
structure Place where
 r:Nat
 path:List Nat
 deriving DecidableEq
def Place.at (p:Place) (i:Nat):Place:=⟨p.r,p.path ++ [i]⟩
def Place.slot (t:Nat):Place:=⟨t+2,[]⟩
def Place.res:Place:=⟨1,[]⟩
def Place.dead:Place:=⟨0,[]⟩
structure Sig where
 own:Nat→Option (Place × Nat)
 loc:Nat→Nat
def Sig.lim (S:Sig) (b:Nat):Option Nat:=(S.own b).map (·.2)
def OkC (lim:Nat→Option Nat) (b off:Nat):Prop:=∀ s,lim b=some s→off < s
inductive Fz (lim:Nat→Option Nat) (w:World):Value→D→Prop
 |any (v:Value):Fz lim w v .any
 |int (k:IntKind) (n:Int):Fz lim w (.int k n) (.int k n)
 |bool (b:Bool):Fz lim w (.bool b) (.bool b)
 |str (s:List UInt8):Fz lim w (.string ⟨s.toArray⟩) (.str s)
 |pv (v:Value):Fz lim w v (.pv v)
 |nil:Fz lim w (.slice none 0 0) .nil
 |slNil (m sz:Nat):Fz lim w (.slice none 0 0) (.sl m sz [])
 |slE (A:Addr) (sz:Nat):Fz lim w (.slice (some A) 0 0) (.sl 0 sz [])
 |sl {b o cap sz:Nat} {rows:List (List D)} (cv:Nat→Nat→Value) (hc:rows.length≤cap) (hm:cap≤maxLen) (hr:∀ (k:Nat) (r:List D),rows[k]?=some r→r.length=sz)
   (h:∀ (k:Nat) (r:List D) (j:Nat) (d:D),rows[k]?=some r→r[j]?=some d→w.cell? ⟨b,o+k * sz+j,none⟩=some (cv k j)∧OkC lim b (o+k * sz+j)∧(cv k j).oneCell'=true)
   (ih:∀ (k:Nat) (r:List D) (j:Nat) (d:D),rows[k]?=some r→r[j]?=some d→Fz lim w (cv k j) d):Fz lim w (.slice (some ⟨b,o,none⟩) rows.length cap) (.sl 0 sz rows)
 |ptr {b o:Nat} {cs:List D} (cv:Nat→Value) (h:∀ (j:Nat) (d:D),cs[j]?=some d→w.cell? ⟨b,o+j,none⟩=some (cv j)∧OkC lim b (o+j)∧(cv j).oneCell'=true)
   (ih:∀ (j:Nat) (d:D),cs[j]?=some d→Fz lim w (cv j) d):Fz lim w (.pointer (some ⟨b,o,none⟩)) (.ptr cs)
 |fn {f:Nat} {ds:List D} (vs:List Value) (hl:vs.length=ds.length) (ih:∀ (j:Nat) (d:D) (v:Value),ds[j]?=some d→vs[j]?=some v→Fz lim w v d):Fz lim w (.func (.func f) #[] vs.toArray) (.fn f ds)
 |gd {v:Value} {c:Bool} {d:D} (h1:c=true→Fz lim w v d) (h0:c=false→v=undef):Fz lim w v (.gd c d)
 |agg {cs:List D} (vs:List Value) (hl:vs.length=cs.length) (h1:∀ v:Value,v ∈ vs→v.oneCell'=true) (ih:∀ (j:Nat) (d:D) (v:Value),cs[j]?=some d→vs[j]?=some v→Fz lim w v d):Fz lim w (.agg vs.toArray) (.agg cs)
 |tup {ds:List D} (vs:List Value) (hl:vs.length=ds.length) (ih:∀ (j:Nat) (d:D) (v:Value),ds[j]?=some d→vs[j]?=some v→Fz lim w v d):Fz lim w (.tuple vs.toArray) (.tup ds)
structure OwnAt (S:Sig) (w:World) (p:Place) (b cap m sz:Nat) (rows:List (List D)) (cur:Array Value) (e:TypeId):Prop where
 mode:m=1∨m=2
 heap:w.heap[b]?=some (.cells cur e (0,0))
 le:rows.length≤cap
 max:cap≤maxLen
 size:cur.size=cap * sz
 each:∀ r:List D,r ∈ rows→r.length=sz
 own:S.own b=some (p,if m=2 then 0 else rows.length * sz)
 cells:∀ (k:Nat) (r:List D) (j:Nat) (d:D),rows[k]?=some r→r[j]?=some d→∃ v,cur[k * sz+j]?=some v∧v.oneCell'=true∧Fz S.lim w v d
inductive Rep (S:Sig) (w:World):Place→Value→D→Prop
 |fz {p:Place} {v:Value} {d:D} (h:Fz S.lim w v d):Rep S w p v d
 |own {p:Place} {b cap m sz:Nat} {rows:List (List D)} {cur:Array Value} {e:TypeId} (h:OwnAt S w p b cap m sz rows cur e):Rep S w p (.slice (some ⟨b,0,none⟩) rows.length cap) (.sl m sz rows)
 |obj {t b:Nat} {path:List Nat} {cs:List D} {cur:Array Value} {e:TypeId} (hb:S.own b=some (⟨t,path⟩,0)) (hp:path = []) (hl:S.loc t=b) (hh:w.heap[b]?=some (.cells cur e (0,0))) (hs:cs.length=cur.size)
   (h1:∀ (i:Nat) (v:Value),cur[i]?=some v→v.oneCell'=true) (ih:∀ (i:Nat) (d:D) (v:Value),cs[i]?=some d→cur[i]?=some v→Rep S w ⟨t,[i]⟩ v d):Rep S w ⟨t,path⟩ (.pointer (some ⟨b,0,none⟩)) (.obj cs)
 |ref {p:Place} {t off:Nat} (h:S.own (S.loc (t+2))=some (.slot t,0)):Rep S w p (.pointer (some ⟨S.loc (t+2),off,none⟩)) (.ref t off)
 |gref {p:Place} {t off:Nat} {c:Bool} {v:Value} (h:S.own (S.loc (t+2))=some (.slot t,0)) (hv:v=if c=true then .pointer (some ⟨S.loc (t+2),off,none⟩) else undef):Rep S w p v (.gref c t off)
 |fn {p:Place} {f:Nat} {ds:List D} (vs:List Value) (hl:vs.length=ds.length) (ih:∀ (j:Nat) (d:D) (v:Value),ds[j]?=some d→vs[j]?=some v→Rep S w .dead v d):Rep S w p (.func (.func f) #[] vs.toArray) (.fn f ds)
 |agg {p:Place} {cs:List D} (vs:List Value) (hl:vs.length=cs.length) (h1:∀ v:Value,v ∈ vs→v.oneCell'=true) (ih:∀ (j:Nat) (d:D) (v:Value),cs[j]?=some d→vs[j]?=some v→Rep S w (p.at j) v d):Rep S w p (.agg vs.toArray) (.agg cs)
 |tup {p:Place} {ds:List D} (vs:List Value) (hl:vs.length=ds.length) (ih:∀ (j:Nat) (d:D) (v:Value),ds[j]?=some d→vs[j]?=some v→Rep S w (p.at j) v d):Rep S w p (.tuple vs.toArray) (.tup ds)
 |mp {p:Place} {b clock:Nat} {kd:KD} {es:List (Value × Value)} {ents:Array MapEntry} (hb:S.own b=some (p,0)) (hh:w.heap[b]?=some (.map ents clock)) (he:ents.toList.map (fun e=>(e.key,e.val))=es) (hk:∀ x ∈ es,fitK kd x.1=true):Rep S w p (.map (some b)) (.mp kd es)
def GL (S:Sig) (w:World):Prop:=∀ (g:Nat) (φ:Obj→Prop),GB g=some φ→S.own g=none∧∃ o,w.heap[g]?=some o∧φ o
structure WF (S:Sig) (w:World):Prop where
 lt:∀ b x,S.own b=some x→b < w.heap.size
 gl:GL S w
instance {S:Sig} {w:World}:CoeFun (WF S w) fun _=>∀ b x,S.own b=some x→b < w.heap.size:=⟨WF.lt⟩
theorem GL.keep {S S':Sig} {w w':World} (h:GL S w) (k:∀ b,b < w.heap.size→S.own b=none→w'.heap[b]?=w.heap[b]?∧S'.own b=none):GL S' w':=fun g φ hg=>by
 obtain ⟨h1,o,h2,h3⟩:=h g φ hg
 obtain ⟨k1,k2⟩:=k g (Array.getElem?_eq_some_iff.1 h2).1 h1
 exact ⟨k2,o,k1.trans h2,h3⟩
theorem GL.sig {S S':Sig} {w:World} (h:GL S w) (k:∀ b,S.own b=none→S'.own b=none):GL S' w:=h.keep fun b _ hb=>⟨rfl,k b hb⟩
def Keeps (l:Nat) (o o':Option Obj):Prop:=
 ∀ cur e fz,o=some (.cells cur e fz)→∃ cur',o'=some (.cells cur' e fz)∧cur'.size=cur.size∧∀ off,off < l→cur'[off]?=cur[off]?
structure Trans (S:Sig) (w:World) (S':Sig) (w':World):Prop where
 os:w'.os=w.os
 tape:w'.tape=w.tape
 output:w'.output=w.output
 size:w.heap.size≤w'.heap.size
 free:∀ b,b < w.heap.size→S.own b=none→w'.heap[b]?=w.heap[b]?∧S'.own b=none
 foreign:∀ b p l,b < w.heap.size→S.own b=some (p,l)→p.r=0→w'.heap[b]?=w.heap[b]?∧S'.own b=some (p,l)
 held:∀ b p l,b < w.heap.size→S.own b=some (p,l)→Keeps l w.heap[b]? w'.heap[b]?∧∀ x,S'.own b=some x→l≤x.2
 loc2:S'.loc 2=S.loc 2
theorem Keeps.refl (l:Nat) (o:Option Obj):Keeps l o o:=fun cur _ _ h=>⟨cur,h,rfl,fun _ _=>rfl⟩
theorem Keeps.of_eq {l:Nat} {o o':Option Obj} (h:o'=o):Keeps l o o':=h ▸ Keeps.refl l o
theorem Keeps.trans {l l':Nat} {a b c:Option Obj} (h:Keeps l a b) (k:Keeps l' b c) (hl:l≤l'):Keeps l a c:=fun cur e fz ha=>by
 obtain ⟨cur',h1,h2,h3⟩:=h cur e fz ha
 obtain ⟨cur'',k1,k2,k3⟩:=k cur' e fz h1
 exact ⟨cur'',k1,k2.trans h2,fun off ho=>(k3 off (by omega)).trans (h3 off ho)⟩
theorem GL.trans {S S':Sig} {w w':World} (h:GL S w) (t:Trans S w S' w'):GL S' w':=h.keep fun b hb hn=>t.free b hb hn
theorem WF.of {S S':Sig} {w w':World} (h:WF S w) (t:Trans S w S' w') (k:∀ b x,S'.own b=some x→b < w'.heap.size):WF S' w':=⟨k,h.gl.trans t⟩
theorem Trans.refl (S:Sig) (w:World):Trans S w S w:=
 ⟨rfl,rfl,rfl,Nat.le_refl _,fun _ _ h=>⟨rfl,h⟩,fun _ _ _ _ h _=>⟨rfl,h⟩,fun _ _ _ _ h=>⟨Keeps.refl _ _,fun x hx=>by rw [h] at hx;cases hx;exact Nat.le_refl _⟩,rfl⟩
theorem Trans.trans {S1 S2 S3:Sig} {a b c:World} (h:Trans S1 a S2 b) (k:Trans S2 b S3 c):Trans S1 a S3 c:=by
 refine ⟨k.os.trans h.os,k.tape.trans h.tape,k.output.trans h.output,Nat.le_trans h.size k.size,fun i hi hn => ?_,fun i p l hi hs hd => ?_,fun i p l hi hs => ?_,k.loc2.trans h.loc2⟩
 ·obtain ⟨h1,h2⟩:=h.free i hi hn
  obtain ⟨k1,k2⟩:=k.free i (Nat.lt_of_lt_of_le hi h.size) h2
  exact ⟨k1.trans h1,k2⟩
 ·obtain ⟨h1,h2⟩:=h.foreign i p l hi hs hd
  obtain ⟨k1,k2⟩:=k.foreign i p l (Nat.lt_of_lt_of_le hi h.size) h2 hd
  exact ⟨k1.trans h1,k2⟩
 ·obtain ⟨h1,h2⟩:=h.held i p l hi hs
  have hi':=Nat.lt_of_lt_of_le hi h.size
  cases ho:S2.own i with
  |none=>
   obtain ⟨k1,k2⟩:=k.free i hi' ho
   exact ⟨by rw [k1];exact h1,fun x hx=>by rw [k2] at hx;cases hx⟩
  |some y=>
   obtain ⟨q,l'⟩:=y
   have hl:=h2 _ ho
   obtain ⟨k1,k2⟩:=k.held i q l' hi' ho
   exact ⟨h1.trans k1 hl,fun x hx=>Nat.le_trans hl (k2 x hx)⟩
theorem cell_lt {w:World} {b o:Nat} {v:Value} (h:w.cell? ⟨b,o,none⟩=some v):b < w.heap.size:=block_lt_of_cell h
theorem Trans.cell {S S':Sig} {w w':World} (h:Trans S w S' w') {b o:Nat} {v:Value} (hc:w.cell? ⟨b,o,none⟩=some v) (hk:OkC S.lim b o):w'.cell? ⟨b,o,none⟩=some v∧OkC S'.lim b o:=by
 have hb:=cell_lt hc
 cases ho:S.own b with
 |none=>
  obtain ⟨h1,h2⟩:=h.free b hb ho
  exact ⟨by rw [World.cell?_of_block (a:=⟨b,o,none⟩) (w:=w) h1];exact hc,fun s hs=>by simp [Sig.lim,h2] at hs⟩
 |some x=>
  obtain ⟨p,l⟩:=x
  obtain ⟨h1,h2⟩:=h.held b p l hb ho
  have hol:o < l:=hk l (by simp [Sig.lim,ho])
  refine ⟨?_,fun s hs => ?_⟩
  ·unfold World.cell? at hc ⊢
   simp only at hc ⊢
   split at hc
   ·rename_i cur e fz he
    obtain ⟨cur',k1,_,k3⟩:=h1 cur e fz he
    rw [k1]
    simp only at hc ⊢
    rw [k3 o hol]
    exact hc
   ·cases hc
  ·cases ho':S'.own b with
   |none=>simp [Sig.lim,ho'] at hs
   |some y=>
    have:=h2 y ho'
    simp only [Sig.lim,ho',Option.map_some,Option.some.injEq] at hs
    omega
theorem Fz.trans {S S':Sig} {w w':World} {v:Value} {d:D} (hf:Fz S.lim w v d) (h:Trans S w S' w'):Fz S'.lim w' v d:=by
 induction hf with
 |any v=>exact .any v
 |int k n=>exact .int k n
 |bool b=>exact .bool b
 |str s=>exact .str s
 |pv v=>exact .pv v
 |nil=>exact .nil
 |slNil m sz=>exact .slNil m sz
 |slE A sz=>exact .slE A sz
 |sl cv hc hm hr hh _ ih=>
  exact .sl cv hc hm hr (fun k r j d h1 h2=>by
   obtain ⟨g1,g2,g3⟩:=hh k r j d h1 h2
   obtain ⟨q1,q2⟩:=h.cell g1 g2
   exact ⟨q1,q2,g3⟩) ih
 |ptr cv hh _ ih=>
  exact .ptr cv (fun j d h1=>by
   obtain ⟨g1,g2,g3⟩:=hh j d h1
   obtain ⟨q1,q2⟩:=h.cell g1 g2
   exact ⟨q1,q2,g3⟩) ih
 |fn vs hl _ ih=>exact .fn vs hl ih
 |gd _ h0 ih=>exact .gd ih h0
 |agg vs hl h1 _ ih=>exact .agg vs hl h1 ih
 |tup vs hl _ ih=>exact .tup vs hl ih
theorem Fz.mono {lim lim':Nat→Option Nat} {w:World} {v:Value} {d:D} (hf:Fz lim w v d) (h:∀ b o v,w.cell? ⟨b,o,none⟩=some v→OkC lim b o→OkC lim' b o):Fz lim' w v d:=by
 induction hf with
 |any v=>exact .any v
 |int k n=>exact .int k n
 |bool b=>exact .bool b
 |str s=>exact .str s
 |pv v=>exact .pv v
 |nil=>exact .nil
 |slNil m sz=>exact .slNil m sz
 |slE A sz=>exact .slE A sz
 |sl cv hc hm hr hh _ ih=>exact .sl cv hc hm hr (fun k r j d h1 h2=>⟨(hh k r j d h1 h2).1,h _ _ _ (hh k r j d h1 h2).1 (hh k r j d h1 h2).2.1,(hh k r j d h1 h2).2.2⟩) ih
 |ptr cv hh _ ih=>exact .ptr cv (fun j d h1=>⟨(hh j d h1).1,h _ _ _ (hh j d h1).1 (hh j d h1).2.1,(hh j d h1).2.2⟩) ih
 |fn vs hl _ ih=>exact .fn vs hl ih
 |gd _ h0 ih=>exact .gd ih h0
 |agg vs hl h1 _ ih=>exact .agg vs hl h1 ih
 |tup vs hl _ ih=>exact .tup vs hl ih
def Place.under (p q:Place):Prop:=p.r=q.r∧∃ l,p.path=q.path++l
theorem Place.under_refl (p:Place):p.under p:=⟨rfl,[],by simp⟩
theorem Place.at_under (p:Place) (i:Nat):(p.at i).under p:=⟨rfl,[i],rfl⟩
theorem Place.under_trans {p q r:Place} (h:p.under q) (k:q.under r):p.under r:=by
 obtain ⟨h1,l,h2⟩:=h
 obtain ⟨k1,m,k2⟩:=k
 exact ⟨h1.trans k1,m++l,by rw [h2,k2,List.append_assoc]⟩
inductive Men (t:Nat):D→Prop
 |ref (off:Nat):Men t (.ref t off)
 |gref (c:Bool) (off:Nat):Men t (.gref c t off)
 |fn {f j:Nat} {cs:List D} {d:D} (h:cs[j]?=some d) (hm:Men t d):Men t (.fn f cs)
 |agg {j:Nat} {cs:List D} {d:D} (h:cs[j]?=some d) (hm:Men t d):Men t (.agg cs)
 |tup {j:Nat} {cs:List D} {d:D} (h:cs[j]?=some d) (hm:Men t d):Men t (.tup cs)
 |obj {j:Nat} {cs:List D} {d:D} (h:cs[j]?=some d) (hm:Men t d):Men t (.obj cs)
theorem lt_of_len {α β:Type} {l:List α} {l':List β} {j:Nat} {d:β} (h:l.length=l'.length) (hd:l'[j]?=some d):j < l.length:=by
 rw [h];exact (gLt hd)
theorem Fz.men {lim:Nat→Option Nat} {w:World} {v:Value} {d:D} (h:Fz lim w v d) {t:Nat}:¬ Men t d:=by
 induction h with
 |fn vs hl _ ih=>
  intro hm
  cases hm with|fn hd hm=>exact ih _ _ _ hd (List.getElem?_eq_getElem (lt_of_len hl hd)) hm
 |agg vs hl _ _ ih=>
  intro hm
  cases hm with|agg hd hm=>exact ih _ _ _ hd (List.getElem?_eq_getElem (lt_of_len hl hd)) hm
 |tup vs hl _ ih=>
  intro hm
  cases hm with|tup hd hm=>exact ih _ _ _ hd (List.getElem?_eq_getElem (lt_of_len hl hd)) hm
 |_=>intro hm;cases hm
theorem Rep.trans {S S':Sig} {w w':World} {p:Place} {v:Value} {d:D} (hr:Rep S w p v d) (hw:WF S w) (h:Trans S w S' w') (h0:S'.loc 0=S.loc 0)
  (ho:∀ b q l,S.own b=some (q,l)→q.under p→w'.heap[b]?=w.heap[b]?∧S'.own b=some (q,l))
  (hp:p.path = []→S'.loc p.r=S.loc p.r)
  (hl:∀ t,Men t d→S.own (S.loc (t+2))=some (.slot t,0)→S'.loc (t+2)=S.loc (t+2)∧S'.own (S.loc (t+2))=some (.slot t,0)):Rep S' w' p v d:=by
 induction hr with
 |fz hf=>exact .fz (hf.trans h)
 |@own p b cap m sz rows cur e g=>
  obtain ⟨h1,h2⟩:=ho b p _ g.own (Place.under_refl p)
  exact .own ⟨g.mode,h1.trans g.heap,g.le,g.max,g.size,g.each,h2,fun k r j d k1 k2=>by
   obtain ⟨u,u1,u2,u3⟩:=g.cells k r j d k1 k2
   exact ⟨u,u1,u2,u3.trans h⟩⟩
 |@mp p b clock kd es ents hb hh he hk=>
  obtain ⟨k1,k2⟩:=ho b p _ hb (Place.under_refl p)
  exact .mp k2 (k1.trans hh) he hk
 |@obj t b path cs cur e hb hpath hloc hh hs h1 _ ih=>
  subst hpath
  obtain ⟨k1,k2⟩:=ho b _ _ hb (Place.under_refl _)
  exact .obj k2 rfl ((hp rfl).trans hloc) (k1.trans hh) hs h1 fun i d v hd hv=>ih i d v hd hv (fun b' q l hq hu=>ho b' q l hq (Place.under_trans hu ⟨rfl,[i],rfl⟩)) (fun e=>by cases e) fun t' hm=>hl t' (.obj hd hm)
 |@ref p t off g=>
  obtain ⟨q1,q2⟩:=hl t (.ref off) g
  rw [← q1]
  exact .ref (by rw [q1];exact q2)
 |@gref p t off c v g hv=>
  obtain ⟨q1,q2⟩:=hl t (.gref c off) g
  exact .gref (by rw [q1];exact q2) (by rw [q1];exact hv)
 |@fn p f ds vs hln _ ih=>exact .fn vs hln fun j d v hd hv=>ih j d v hd hv (fun b q l hq hu=>h.foreign b q l (hw _ _ hq) hq hu.1) (fun _=>h0) fun t hm=>hl t (.fn hd hm)
 |agg vs hln h1 _ ih=>exact .agg vs hln h1 fun j d v hd hv=>ih j d v hd hv (fun b q l hq hu=>ho b q l hq (Place.under_trans hu (Place.at_under _ j))) (fun e=>by simp [Place.at] at e) fun t hm=>hl t (.agg hd hm)
 |tup vs hln _ ih=>exact .tup vs hln fun j d v hd hv=>ih j d v hd hv (fun b q l hq hu=>ho b q l hq (Place.under_trans hu (Place.at_under _ j))) (fun e=>by simp [Place.at] at e) fun t hm=>hl t (.tup hd hm)
theorem Fz.tup_inv {lim:Nat→Option Nat} {w:World} {v:Value} {ds:List D} (h:Fz lim w v (.tup ds)):∃ vs:List Value,v=.tuple vs.toArray∧vs.length=ds.length∧∀ (j:Nat) (d:D) (u:Value),ds[j]?=some d→vs[j]?=some u→Fz lim w u d:=by
 cases h with
 |tup vs hl ih=>exact ⟨vs,rfl,hl,ih⟩
theorem Fz.agg_inv {lim:Nat→Option Nat} {w:World} {v:Value} {ds:List D} (h:Fz lim w v (.agg ds)):∃ vs:List Value,v=.agg vs.toArray∧vs.length=ds.length∧(∀ u:Value,u ∈ vs→u.oneCell'=true)∧∀ (j:Nat) (d:D) (u:Value),ds[j]?=some d→vs[j]?=some u→Fz lim w u d:=by
 cases h with
 |agg vs hl h1 ih=>exact ⟨vs,rfl,hl,h1,ih⟩
theorem Rep.agg_inv {S:Sig} {w:World} {p:Place} {v:Value} {ds:List D} (h:Rep S w p v (.agg ds)):∃ vs:List Value,v=.agg vs.toArray∧vs.length=ds.length∧(∀ u:Value,u ∈ vs→u.oneCell'=true)∧∀ (j:Nat) (d:D) (u:Value),ds[j]?=some d→vs[j]?=some u→Rep S w (p.at j) u d:=by
 cases h with
 |fz hf=>
  obtain ⟨vs,h1,h2,h3,h4⟩:=hf.agg_inv
  exact ⟨vs,h1,h2,h3,fun j d u hd hu=>.fz (h4 j d u hd hu)⟩
 |agg vs hl h1 ih=>exact ⟨vs,rfl,hl,h1,ih⟩
theorem Rep.tup_inv {S:Sig} {w:World} {p:Place} {v:Value} {ds:List D} (h:Rep S w p v (.tup ds)):∃ vs:List Value,v=.tuple vs.toArray∧vs.length=ds.length∧∀ (j:Nat) (d:D) (u:Value),ds[j]?=some d→vs[j]?=some u→Rep S w (p.at j) u d:=by
 cases h with
 |fz hf=>
  obtain ⟨vs,h1,h2,h4⟩:=hf.tup_inv
  exact ⟨vs,h1,h2,fun j d u hd hu=>.fz (h4 j d u hd hu)⟩
 |tup vs hl ih=>exact ⟨vs,rfl,hl,ih⟩
theorem Rep.int_inv {S:Sig} {w:World} {p:Place} {v:Value} {k:IntKind} {n:Int} (h:Rep S w p v (.int k n)):v=.int k n:=by
 cases h with|fz h=>cases h;rfl
theorem Rep.bool_inv {S:Sig} {w:World} {p:Place} {v:Value} {b:Bool} (h:Rep S w p v (.bool b)):v=.bool b:=by
 cases h with|fz h=>cases h;rfl
theorem Rep.str_inv {S:Sig} {w:World} {p:Place} {v:Value} {s:List UInt8} (h:Rep S w p v (.str s)):v=.string ⟨s.toArray⟩:=by
 cases h with|fz h=>cases h;rfl
theorem Rep.pv_inv {S:Sig} {w:World} {p:Place} {v u:Value} (h:Rep S w p v (.pv u)):v=u:=by
 cases h with|fz h=>cases h;rfl
theorem Rep.nil_inv {S:Sig} {w:World} {p:Place} {v:Value} (h:Rep S w p v .nil):v=.slice none 0 0:=by
 cases h with|fz h=>cases h;rfl
theorem Rep.gd_inv {S:Sig} {w:World} {p:Place} {v:Value} {c:Bool} {d:D} (h:Rep S w p v (.gd c d)):(c=true→Fz S.lim w v d)∧(c=false→v=undef):=by
 cases h with|fz h=>cases h with|gd h1 h0=>exact ⟨h1,h0⟩
theorem OwnAt.fz {S:Sig} {w:World} {p:Place} {b cap sz:Nat} {rows:List (List D)} {cur:Array Value} {e:TypeId} (h:OwnAt S w p b cap 1 sz rows cur e):Fz S.lim w (.slice (some ⟨b,0,none⟩) rows.length cap) (.sl 0 sz rows):=by
 have hex:∀ k j,∃ v:Value,∀ r d,rows[k]?=some r→r[j]?=some d→cur[k * sz+j]?=some v∧v.oneCell'=true∧Fz S.lim w v d:=fun k j=>by
  cases hr:rows[k]? with
  |none=>exact ⟨undef,fun r d h1=>by cases h1⟩
  |some r=>
   cases hd:r[j]? with
   |none=>exact ⟨undef,fun r' d h1 h2=>by cases h1;rw [hd] at h2;cases h2⟩
   |some d=>
    obtain ⟨v,hv⟩:=h.cells k r j d hr hd
    exact ⟨v,fun r' d' h1 h2=>by cases h1;rw [hd] at h2;cases h2;exact hv⟩
 let cv:Nat→Nat→Value:=fun k j=>Classical.choose (hex k j)
 have hcv:∀ k j r d,rows[k]?=some r→r[j]?=some d→cur[k * sz+j]?=some (cv k j)∧(cv k j).oneCell'=true∧Fz S.lim w (cv k j) d:=fun k j=>Classical.choose_spec (hex k j)
 refine .sl cv h.le h.max (fun k r hr=>h.each r (gMem hr)) (fun k r j d hr hd => ?_) (fun k r j d hr hd=>(hcv k j r d hr hd).2.2)
 obtain ⟨h1,h2,_⟩:=hcv k j r d hr hd
 refine ⟨by rw [cell_of_row w b _ cur e (0,0) h.heap,Nat.zero_add];exact h1,fun s hs => ?_,h2⟩
 have ho:=h.own
 simp only [show ¬ ((1:Nat)=2) by decide,if_false] at ho
 simp only [Sig.lim,ho,Option.map_some,Option.some.injEq] at hs
 have hk:k < rows.length:=(gLt hr)
 have hj:j < sz:=by rw [← h.each r (gMem hr)];exact (gLt hd)
 have:(k+1) * sz≤rows.length * sz:=Nat.mul_le_mul_right _ hk
 rw [Nat.add_mul] at this
 omega
inductive DLe:D→D→Prop
 |refl (d:D):DLe d d
 |any (d:D):DLe d .any
 |nil (m sz:Nat):DLe .nil (.sl m sz [])
 |own (sz:Nat) (rows:List (List D)):DLe (.sl 1 sz rows) (.sl 0 sz rows)
 |gd {c:Bool} {d d':D} (hc:c=true) (h:DLe d d'):DLe (.gd c d) d'
 |agg {ds ds':List D} (hl:ds'.length=ds.length) (h:∀ (j:Nat) (d d':D),ds[j]?=some d→ds'[j]?=some d'→DLe d d'):DLe (.agg ds) (.agg ds')
 |tup {ds ds':List D} (hl:ds'.length=ds.length) (h:∀ (j:Nat) (d d':D),ds[j]?=some d→ds'[j]?=some d'→DLe d d'):DLe (.tup ds) (.tup ds')
 |rows {m sz:Nat} {rs rs':List (List D)} (hl:rs'.length=rs.length) (he:∀ (k:Nat) (r r':List D),rs[k]?=some r→rs'[k]?=some r'→r'.length=r.length)
   (h:∀ (k:Nat) (r r':List D) (j:Nat) (d d':D),rs[k]?=some r→rs'[k]?=some r'→r[j]?=some d→r'[j]?=some d'→DLe d d'):DLe (.sl m sz rs) (.sl m sz rs')
theorem rows_back {rs rs':List (List D)} (hl:rs'.length=rs.length) (he:∀ (k:Nat) (r r':List D),rs[k]?=some r→rs'[k]?=some r'→r'.length=r.length) {k:Nat} {r':List D} (hk:rs'[k]?=some r'):∃ r,rs[k]?=some r∧r'.length=r.length:=by
 have hlt:k < rs.length:=by rw [← hl];exact (gLt hk)
 exact ⟨rs[k],List.getElem?_eq_getElem hlt,he k _ _ (List.getElem?_eq_getElem hlt) hk⟩
theorem cells_back {r r':List D} (hl:r'.length=r.length) {j:Nat} {d':D} (hj:r'[j]?=some d'):∃ d,r[j]?=some d:=by
 have hlt:j < r.length:=by rw [← hl];exact (gLt hj)
 exact ⟨r[j],List.getElem?_eq_getElem hlt⟩
theorem Fz.le {lim:Nat→Option Nat} {w:World} {d d':D} (hd:DLe d d'):∀ {v:Value},Fz lim w v d→Fz lim w v d':=by
 induction hd with
 |refl d=>exact fun h=>h
 |any d=>exact fun _=>.any _
 |nil m sz=>intro v h;cases h with|nil=>exact .slNil m sz
 |own sz rows=>intro v h;cases h with|slNil=>exact .slNil 0 sz
 |gd hc _ ih=>intro v h;cases h with|gd h1 h0=>exact ih (h1 hc)
 |@agg ds ds' hl _ ih=>
  intro v h
  obtain ⟨vs,rfl,h2,h3,h4⟩:=h.agg_inv
  refine .agg vs (h2.trans hl.symm) h3 fun j d' u hd' hu => ?_
  obtain ⟨d,hd⟩:=cells_back hl hd'
  exact ih j d d' hd hd' (h4 j d u hd hu)
 |@tup ds ds' hl _ ih=>
  intro v h
  obtain ⟨vs,rfl,h2,h4⟩:=h.tup_inv
  refine .tup vs (h2.trans hl.symm) fun j d' u hd' hu => ?_
  obtain ⟨d,hd⟩:=cells_back hl hd'
  exact ih j d d' hd hd' (h4 j d u hd hu)
 |@rows m sz rs rs' hl he _ ih=>
  intro v h
  cases h with
  |slNil=>
   obtain rfl:rs' = []:=List.eq_nil_of_length_eq_zero hl
   exact .slNil m sz
  |slE A=>
   obtain rfl:rs' = []:=List.eq_nil_of_length_eq_zero hl
   exact .slE A sz
  |sl cv hc hm hr hh ih'=>
   rw [← hl]
   refine .sl cv (by rw [hl];exact hc) hm (fun k r' hk => ?_) (fun k r' j d' hk hd => ?_) fun k r' j d' hk hd => ?_
   ·obtain ⟨r,h1,h2⟩:=rows_back hl he hk
    rw [h2]
    exact hr k r h1
   ·obtain ⟨r,h1,h2⟩:=rows_back hl he hk
    obtain ⟨d,h3⟩:=cells_back h2 hd
    exact hh k r j d h1 h3
   ·obtain ⟨r,h1,h2⟩:=rows_back hl he hk
    obtain ⟨d,h3⟩:=cells_back h2 hd
    exact ih k r r' j d d' h1 hk h3 hd (ih' k r j d h1 h3)
theorem Rep.le {S:Sig} {w:World} {d d':D} (hd:DLe d d'):∀ {p:Place} {v:Value},Rep S w p v d→Rep S w p v d':=by
 induction hd with
 |refl d=>exact fun h=>h
 |any d=>exact fun _=>.fz (.any _)
 |nil m sz=>intro p v h;rw [h.nil_inv];exact .fz (.slNil m sz)
 |own sz rows=>
  intro p v h
  cases h with
  |fz h=>
   cases h with
   |slNil=>exact .fz (.slNil 0 sz)
  |own g=>exact .fz g.fz
 |gd hc _ ih=>intro p v h;exact ih (.fz (h.gd_inv.1 hc))
 |@agg ds ds' hl _ ih=>
  intro p v h
  obtain ⟨vs,rfl,h2,h3,h4⟩:=h.agg_inv
  refine .agg vs (h2.trans hl.symm) h3 fun j d' u hd' hu => ?_
  have hj:j < ds.length:=by rw [← hl];exact (List.getElem?_eq_some_iff.1 hd').1
  exact ih j ds[j] d' (List.getElem?_eq_getElem hj) hd' (h4 j _ u (List.getElem?_eq_getElem hj) hu)
 |@tup ds ds' hl _ ih=>
  intro p v h
  obtain ⟨vs,rfl,h2,h4⟩:=h.tup_inv
  refine .tup vs (h2.trans hl.symm) fun j d' u hd' hu => ?_
  have hj:j < ds.length:=by rw [← hl];exact (List.getElem?_eq_some_iff.1 hd').1
  exact ih j ds[j] d' (List.getElem?_eq_getElem hj) hd' (h4 j _ u (List.getElem?_eq_getElem hj) hu)
 |@rows m sz rs rs' hl he hh _=>
  intro p v h
  cases h with
  |fz h=>exact .fz (Fz.le (.rows hl he hh) h)
  |own g=>
   rw [← hl]
   refine .own ⟨g.mode,g.heap,by rw [hl];exact g.le,g.max,g.size,fun r' hr => ?_,by rw [hl];exact g.own,fun k r' j d' hk hd => ?_⟩
   ·obtain ⟨k,hk⟩:=List.mem_iff_getElem?.1 hr
    obtain ⟨r,h1,h2⟩:=rows_back hl he hk
    rw [h2]
    exact g.each r (gMem h1)
   ·obtain ⟨r,h1,h2⟩:=rows_back hl he hk
    obtain ⟨d,h3⟩:=cells_back h2 hd
    obtain ⟨u,u1,u2,u3⟩:=g.cells k r j d h1 h3
    exact ⟨u,u1,u2,Fz.le (hh k r r' j d d' h1 hk h3 hd) u3⟩
def D.one:D→Bool
 |.int _ _ | .bool _ | .str _ | .nil | .sl 0 _ _ | .ptr _=>true
 |.pv v=>v.oneCell'
 |_=>false
def D.cellsOf:D→Option (List D)
 |.agg cs=>if cs.all D.one then some cs else none
 |.fn f cs=>if cs.all D.one then some [.fn f cs] else none
 |d=>if d.one then some [d] else none
def D.plain:D→Bool
 |.agg cs=>cs.all D.one
 |.tup ds=>ds.all fun d=>match d with
  |.agg cs=>cs.all D.one
  |d=>d.one
 |.any | .gd _ _ | .ref _ _ | .gref _ _ _=>true
 |.fn _ caps=>caps.all fun d=>match d with
  |.ref _ _=>true
  |d=>d.one
 |d=>d.one
def D.owns:D→Bool
 |.sl (_+1) _ _=>true
 |.mp _ _=>true
 |.obj _=>true
 |.agg cs => !(D.agg cs).plain
 |.tup ds => !(D.tup ds).plain
 |_=>false
def RefOk (fr:List D) (d:D):Prop:=∀ t,Men t d→∃ cs,fr[t]?=some (.obj cs)
def D.isObj:D→Bool
 |.obj _=>true
 |_=>false
def D.isNm:D→Bool
 |.al _ | .alc _ _ | .el _ _ _ _ _ | .es _ _ _ _=>true
 |_=>false
structure ObjAt (S:Sig) (fr:List D) (u:Nat):Prop where
 obj:∃ cs,fr[u]?=some (.obj cs)
 own:S.own (S.loc (u+2))=some (.slot u,0)
def ElAt (s:Value) (sz k j:Nat) (v:Value):Prop:=∃ b len cap,s=.slice (some ⟨b,0,none⟩) len cap∧v=.pointer (some ⟨b,k * sz+j,none⟩)
def SlotRep (S:Sig) (w:World) (a:Act) (fr:List D) (i:Nat) (v:Value):D→Prop
 |.al u=>a.tmps[u]?=some v∧∃ d',fr[u]?=some d'∧d'.owns=true∧u ≠ i
 |.alc u off=>ObjAt S fr u∧w.cell? ⟨S.loc (u+2),off,none⟩=some v
 |.el u off sz k j=>ObjAt S fr u∧∃ s,w.cell? ⟨S.loc (u+2),off,none⟩=some s∧ElAt s sz k j v
 |.es u sz k j=>(∃ d',fr[u]?=some d'∧d'.owns=true∧u ≠ i)∧∃ s,a.tmps[u]?=some s∧ElAt s sz k j v
 |d=>Rep S w (.slot i) v d∧RefOk fr d
structure FR (S:Sig) (w:World) (a:Act) (fr:List D):Prop where
 wf:WF S w
 size:a.tmps.size=fr.length
 defers:a.defers = []
 slot:∀ (i:Nat) (d:D) (v:Value),fr[i]?=some d→a.tmps[i]?=some v→SlotRep S w a fr i v d
theorem SlotRep.of {S:Sig} {w:World} {a:Act} {fr:List D} {i:Nat} {v:Value} {d:D} (h:Rep S w (.slot i) v d) (hf:RefOk fr d):SlotRep S w a fr i v d:=by
 cases d with
 |al u=>cases h with|fz h=>cases h
 |alc u o=>cases h with|fz h=>cases h
 |el u o sz k j=>cases h with|fz h=>cases h
 |es u sz k j=>cases h with|fz h=>cases h
 |_=>exact ⟨h,hf⟩
theorem SlotRep.rep {S:Sig} {w:World} {a:Act} {fr:List D} {i:Nat} {v:Value} {d:D} (h:SlotRep S w a fr i v d) (hn:d.isNm=false):Rep S w (.slot i) v d∧RefOk fr d:=by
 cases d with
 |al u=>cases hn
 |alc u o=>cases hn
 |el u o sz k j=>cases hn
 |es u sz k j=>cases hn
 |_=>exact h
theorem D.nm_owns {d:D} (h:d.owns=true):d.isNm=false:=by cases d<;>first|rfl|cases h
theorem ObjAt.mono {S S':Sig} {w w':World} {fr fr':List D} {u:Nat} (h:ObjAt S fr u) (hf:∃ cs,fr'[u]?=some (.obj cs)) (hl:S'.loc (u+2)=S.loc (u+2)) (ho:S'.own (S.loc (u+2))=S.own (S.loc (u+2))):ObjAt S' fr' u:=
 ⟨hf,by rw [hl,ho];exact h.own⟩
theorem Rep.obj_cell {S:Sig} {w:World} {u off:Nat} {v x:Value} {cs:List D} {d:D} (h:Rep S w (.slot u) v (.obj cs)) (hd:cs[off]?=some d) (hc:w.cell? ⟨S.loc (u+2),off,none⟩=some x):Rep S w ⟨u+2,[off]⟩ x d:=by
 cases h with
 |fz h=>cases h
 |obj hb hp hl hh hs h1 ih=>
  have hl':S.loc (u+2)=_:=hl
  rw [hl',cell_of_row w _ _ _ _ (0,0) hh] at hc
  exact ih off d x hd hc
theorem FR.at {S:Sig} {w:World} {a:Act} {fr:List D} (h:FR S w a fr) {i:Nat} {d:D} (hd:fr[i]?=some d):∃ v,a.tmps[i]?=some v∧SlotRep S w a fr i v d:=by
 have hi:i < a.tmps.size:=by rw [h.size];exact (gLt hd)
 exact ⟨a.tmps[i],by simp [hi],h.slot i d _ hd (by simp [hi])⟩
def ofVal:Value→D
 |.int k n=>.int k n
 |.bool b=>.bool b
 |.string s=>.str s.data.toList
 |.slice none 0 0=>.nil
 |.agg cs=>.agg (cs.toList.map fun v=>match v with
  |.int k n=>.int k n
  |.bool b=>.bool b
  |.string s=>.str s.data.toList
  |.slice none 0 0=>.nil
  |v=>.pv v)
 |v=>.pv v
def evalD (fr:List D):Operand→D
 |.tmp t=>match fr[t]? with
  |some (.al u)=>(fr[u]?).getD .any
  |some (.alc u off)=>match fr[u]? with
   |some (.obj cs)=>(cs[off]?).getD .any
   |_=>.any
  |some (.el _ _ _ _ _)=>.any
  |some (.es _ _ _ _)=>.any
  |some d=>d
  |none=>.any
 |.const (.agg _)=>.any
 |.const v=>ofVal v
 |.global _=>.any
 |.func f=>.fn f []
theorem ofVal_rep {lim:Nat→Option Nat} {w:World} (v:Value) (hv:∀ cs,v ≠ .agg cs):Fz lim w v (ofVal v):=by
 cases v with
 |int k n=>exact .int k n
 |bool b=>exact .bool b
 |string s=>exact .str s.data.toList
 |slice a l c=>
  cases a with
  |some x=>exact .pv _
  |none=>cases l with
   |succ n=>exact .pv _
   |zero=>cases c with
    |zero=>exact .nil
    |succ n=>exact .pv _
 |agg cs=>exact absurd rfl (hv cs)
 |_=>exact .pv _
theorem FR.eval {S:Sig} {w:World} {a:Act} {fr:List D} (h:FR S w a fr) (x:Operand):∃ q,Rep S w q (a.eval x) (evalD fr x):=by
 cases x with
 |tmp t=>
  unfold evalD Act.eval
  simp only
  cases hd:fr[t]? with
  |none=>exact ⟨.dead,.fz (.any _)⟩
  |some d=>
   obtain ⟨v,hv,hr⟩:=h.at hd
   have he:a.tmps.getD t undef=v:=by simp [Array.getD_eq_getD_getElem?,hv]
   rw [he]
   cases d with
   |al u=>
    obtain ⟨h1,d',h2,h3,_⟩:=hr
    simp only [h2,Option.getD_some]
    exact ⟨.slot u,((h.slot u d' v h2 h1).rep (D.nm_owns h3)).1⟩
   |alc u off=>
    obtain ⟨⟨⟨cs,h1⟩,h2⟩,h3⟩:=hr
    simp only [h1]
    cases hc:cs[off]? with
    |none=>exact ⟨.dead,.fz (.any _)⟩
    |some d=>
     obtain ⟨v',hv',hr'⟩:=h.at h1
     exact ⟨_,hr'.1.obj_cell hc h3⟩
   |el u off sz k j=>exact ⟨.dead,.fz (.any _)⟩
   |es u sz k j=>exact ⟨.dead,.fz (.any _)⟩
   |_=>exact ⟨.slot t,hr.1⟩
 |const v=>
  unfold evalD Act.eval
  cases v with
  |agg cs=>exact ⟨.dead,.fz (.any _)⟩
  |_=>exact ⟨.dead,.fz (ofVal_rep _ (by intro cs hc;cases hc))⟩
 |global g=>exact ⟨.dead,.fz (.any _)⟩
 |func f=>exact ⟨.dead,.fz (.fn [] rfl (fun j d v hd=>by simp at hd))⟩
structure PT (S:Sig) (w:World) (S':Sig) (w':World):Prop where
 ext:Ext w w'
 own:∀ b,b < w.heap.size→S'.own b=S.own b
 loc:S'.loc=S.loc
 wf:WF S' w'
theorem Ext.block {w w':World} (h:Ext w w') {b:Nat} (hb:b < w.heap.size):w'.heap[b]?=w.heap[b]?:=Below.block h b hb
theorem PT.trans {S S':Sig} {w w':World} (h:PT S w S' w'):Trans S w S' w':=by
 refine ⟨h.ext.os,h.ext.tape,h.ext.output,h.ext.sizeOf,fun b hb hn=>⟨h.ext.block hb,by rw [h.own b hb,hn]⟩,fun b p l hb hs _=>⟨h.ext.block hb,by rw [h.own b hb,hs]⟩,fun b p l hb hs=>⟨Keeps.of_eq (h.ext.block hb),fun x hx => ?_⟩,by rw [h.loc]⟩
 rw [h.own b hb,hs] at hx
 cases hx
 exact Nat.le_refl _
theorem PT.rep {S S':Sig} {w w':World} (h:PT S w S' w') (hw:WF S w) {p:Place} {v:Value} {d:D} (hr:Rep S w p v d):Rep S' w' p v d:=by
 refine hr.trans hw h.trans (by rw [h.loc]) (fun b q l hs _=>⟨h.ext.block (hw _ _ hs),by rw [h.own b (hw _ _ hs),hs]⟩) (fun _=>by rw [h.loc]) fun t _ ht => ?_
 rw [h.loc]
 exact ⟨rfl,by rw [h.own _ (hw _ _ ht),ht]⟩
theorem PT.refl {S:Sig} {w:World} (hw:WF S w):PT S w S w:=⟨Ext.refl w,fun _ _=>rfl,rfl,hw⟩
theorem PT.comp {S1 S2 S3:Sig} {a b c:World} (h:PT S1 a S2 b) (k:PT S2 b S3 c):PT S1 a S3 c:=
 ⟨h.ext.trans k.ext,fun i hi=>(k.own i (Nat.lt_of_lt_of_le hi h.ext.sizeOf)).trans (h.own i hi),k.loc.trans h.loc,k.wf⟩
theorem PT.ext' {S:Sig} {w w':World} (hw:WF S w) (h:Ext w w'):PT S w S w':=⟨h,fun _ _=>rfl,rfl,⟨fun b x hx=>Nat.lt_of_lt_of_le (hw b x hx) h.sizeOf,hw.gl.keep fun b hb hn=>⟨h.block hb,hn⟩⟩⟩
theorem put_tmps_eq {a:Act} {t:Nat} {v:Value} (ht:t < a.tmps.size):(a.put (some t) v).tmps[t]?=some v:=by simp [Act.put,Array.getElem?_setIfInBounds,ht]
theorem put_tmps_ne {a:Act} {t i:Nat} {v:Value} (h:i ≠ t):(a.put (some t) v).tmps[i]?=a.tmps[i]?:=by simp [Act.put,Array.getElem?_setIfInBounds_ne (Ne.symm h)]
theorem FR.put {S S':Sig} {w w':World} {a:Act} {fr:List D} (h:FR S w a fr) (hp:PT S w S' w') {t:Nat} {v:Value} {d d0:D} (h0:fr[t]?=some d0) (hn:d0.owns=false) (hr:Rep S' w' (.slot t) v d) (hf:RefOk fr d):FR S' w' (a.put (some t) v) (fr.set t d):=by
 have hlt:t < fr.length:=(gLt h0)
 have hrk:∀ e,RefOk fr e→RefOk (fr.set t d) e:=fun e he x hx=>by
  obtain ⟨cs,hc⟩:=he x hx
  have hxt:t ≠ x:=fun e=>by subst e;rw [h0] at hc;cases hc;cases hn
  exact ⟨cs,by rw [List.getElem?_set_ne hxt];exact hc⟩
 have hobj:∀ {x},ObjAt S fr x→ObjAt S' (fr.set t d) x:=fun {x} hx=>by
  obtain ⟨cs,hc⟩:=hx.obj
  have hxt:t ≠ x:=fun e=>by subst e;rw [h0] at hc;cases hc;cases hn
  exact hx.mono (w:=w) (w':=w') ⟨cs,by rw [List.getElem?_set_ne hxt];exact hc⟩ (by rw [hp.loc]) (hp.own _ (h.wf _ _ hx.own))
 have hcel:∀ {x o y},ObjAt S fr x→w.cell? ⟨S.loc (x+2),o,none⟩=some y→w'.cell? ⟨S'.loc (x+2),o,none⟩=some y:=fun {x o y} hx hy=>by
  rw [hp.loc,World.cell?_of_block (a:=⟨S.loc (x+2),o,none⟩) (w:=w) (hp.ext.block (h.wf _ _ hx.own))]
  exact hy
 refine ⟨hp.wf,by simp [Act.put,h.size],by simp [Act.put,h.defers],fun i e u hi hu => ?_⟩
 by_cases hit:i=t
 ·subst hit
  rw [List.getElem?_set_self hlt] at hi
  rw [put_tmps_eq (by rw [h.size];exact hlt)] at hu
  cases hi;cases hu
  exact SlotRep.of hr (hrk _ hf)
 ·rw [List.getElem?_set_ne (Ne.symm hit)] at hi
  rw [put_tmps_ne hit] at hu
  have:=h.slot i e u hi hu
  cases e with
  |al x=>
   obtain ⟨h1,d',h2,h3,h4⟩:=this
   have hxt:x ≠ t:=fun e=>by subst e;rw [h0] at h2;cases h2;rw [hn] at h3;cases h3
   exact ⟨by rw [put_tmps_ne hxt];exact h1,d',by rw [List.getElem?_set_ne (Ne.symm hxt)];exact h2,h3,h4⟩
  |alc x o=>exact ⟨hobj this.1,hcel this.1 this.2⟩
  |el x o sz k j=>
   obtain ⟨h1,s,h2,h3⟩:=this
   exact ⟨hobj h1,s,hcel h1 h2,h3⟩
  |es x sz k j=>
   obtain ⟨⟨d',h2,h3,h4⟩,s,h1,h5⟩:=this
   have hxt:x ≠ t:=fun e=>by subst e;rw [h0] at h2;cases h2;rw [hn] at h3;cases h3
   exact ⟨⟨d',by rw [List.getElem?_set_ne (Ne.symm hxt)];exact h2,h3,h4⟩,s,by rw [put_tmps_ne hxt];exact h1,h5⟩
  |_=>exact ⟨hp.rep h.wf this.1,hrk _ this.2⟩
theorem FR.drop {S S':Sig} {w w':World} {a:Act} {fr:List D} (h:FR S w a fr) (hp:PT S w S' w'):FR S' w' a fr:=
 ⟨hp.wf,h.size,h.defers,fun i e u hi hu=>by
  have:=h.slot i e u hi hu
  have hobj:∀ {x},ObjAt S fr x→ObjAt S' fr x:=fun {x} hx=>hx.mono (w:=w) (w':=w') hx.obj (by rw [hp.loc]) (hp.own _ (h.wf _ _ hx.own))
  have hcel:∀ {x o y},ObjAt S fr x→w.cell? ⟨S.loc (x+2),o,none⟩=some y→w'.cell? ⟨S'.loc (x+2),o,none⟩=some y:=fun {x o y} hx hy=>by
   rw [hp.loc,World.cell?_of_block (a:=⟨S.loc (x+2),o,none⟩) (w:=w) (hp.ext.block (h.wf _ _ hx.own))]
   exact hy
  cases e with
  |al x=>exact this
  |alc x o=>exact ⟨hobj this.1,hcel this.1 this.2⟩
  |el x o sz k j=>
   obtain ⟨h1,s,h2,h3⟩:=this
   exact ⟨hobj h1,s,hcel h1 h2,h3⟩
  |es x sz k j=>exact this
  |_=>exact ⟨hp.rep h.wf this.1,this.2⟩⟩
def KFact (P:Program) (k:TypeId):KD→Prop
 |.int q=>P.underlying k=some (.int q)
 |.str=>P.underlying k=some .string
 |.bool=>P.underlying k=some .bool
 |.st ks=>TEq P k ks
class TMap (P:Program) (t:TypeId) (k e:outParam TypeId) (kd:outParam KD):Prop where
 h:P.underlying t=some (.map k e)
 key:KFact P k kd
class TZ1 (P:Program) (t:TypeId) (z:outParam Value):Prop where
 h:(P.info? t).map (·.zero)=some (some z)
theorem fitS_at:∀ {ks:List Nat} {xs:List Value},fitS ks xs=true→ks.length=xs.length∧∀ (j k:Nat),ks[j]?=some k→∃ x,xs[j]?=some x∧((k=1∧∃ s,x=.string s)∨(k=2∧∃ b,x=.bool b))
 |[],[],_=>⟨rfl,fun j k h=>by simp at h⟩
 |1::ks,.string s::xs,h=>by
  obtain ⟨h1,h2⟩:=fitS_at (ks:=ks) (xs:=xs) h
  refine ⟨by simp [h1],fun j k hj => ?_⟩
  cases j with
  |zero=>cases hj;exact ⟨_,rfl,.inl ⟨rfl,s,rfl⟩⟩
  |succ j=>exact h2 j k (by simpa using hj)
 |2::ks,.bool b::xs,h=>by
  obtain ⟨h1,h2⟩:=fitS_at (ks:=ks) (xs:=xs) h
  refine ⟨by simp [h1],fun j k hj => ?_⟩
  cases j with
  |zero=>cases hj;exact ⟨_,rfl,.inr ⟨rfl,b,rfl⟩⟩
  |succ j=>exact h2 j k (by simpa using hj)
theorem fitS_two:∀ {ks:List Nat} {xs ys:List Value},fitS ks xs=true→fitS ks ys=true→fitsV ks xs ys=true∧(veqs xs ys=true→xs=ys)
 |[],[],[],_,_=>⟨rfl,fun _=>rfl⟩
 |1::ks,.string s::xs,.string u::ys,h,k=>by
  obtain ⟨h1,h2⟩:=fitS_two (ks:=ks) (xs:=xs) (ys:=ys) h k
  refine ⟨by simpa [fitsV] using h1,fun he => ?_⟩
  simp only [veqs,veq,Bool.and_eq_true,beq_iff_eq] at he
  rw [h2 he.2]
  congr 2
  obtain ⟨⟨s⟩⟩:=s
  obtain ⟨⟨u⟩⟩:=u
  simpa using he.1
 |2::ks,.bool s::xs,.bool u::ys,h,k=>by
  obtain ⟨h1,h2⟩:=fitS_two (ks:=ks) (xs:=xs) (ys:=ys) h k
  refine ⟨by simpa [fitsV] using h1,fun he => ?_⟩
  simp only [veqs,veq,Bool.and_eq_true,beq_iff_eq] at he
  rw [h2 he.2,he.1]
theorem fitS_veqs:∀ {ks:List Nat} {xs:List Value},fitS ks xs=true→veqs xs xs=true
 |[],[],_=>rfl
 |1::ks,.string s::xs,h=>by simpa [veqs,veq] using fitS_veqs (ks:=ks) (xs:=xs) h
 |2::ks,.bool s::xs,h=>by simpa [veqs,veq] using fitS_veqs (ks:=ks) (xs:=xs) h
theorem bytes_veq (a b:ByteArray):(a == b)=(a.data.toList == b.data.toList):=by
 rw [Bool.eq_iff_iff,MapKept.bytes_beq]
 obtain ⟨⟨a⟩⟩:=a
 obtain ⟨⟨b⟩⟩:=b
 simp
theorem keyEq_eq {kd:KD} {a b:Value} (ha:fitK kd a=true) (hb:fitK kd b=true) (h:keyEq a b=true):a=b:=by
 cases kd with
 |int q=>
  cases a<;>try (cases ha;done)
  cases b<;>try (cases hb;done)
  rw [← sameK_eq ha,← sameK_eq hb]
  simp only [keyEq,veq,beq_iff_eq] at h
  rw [h]
 |str=>
  cases a<;>try (cases ha;done)
  cases b<;>try (cases hb;done)
  simp only [keyEq,veq] at h
  rw [← bytes_veq] at h
  rw [(MapKept.bytes_beq _ _).1 h]
 |bool=>
  cases a<;>try (cases ha;done)
  cases b<;>try (cases hb;done)
  simp only [keyEq,veq,beq_iff_eq] at h
  rw [h]
 |st ks=>
  cases a<;>try (cases ha;done)
  cases b<;>try (cases hb;done)
  have:=(fitS_two ha hb).2 h
  congr 1
  exact Array.ext' this
theorem keyEq_self {kd:KD} {a:Value} (ha:fitK kd a=true):keyEq a a=true:=by
 cases kd<;>cases a<;>first|(cases ha;done)|(simp [keyEq,veq];done)|exact fitS_veqs ha
def pr (e:MapEntry):Value × Value:=(e.key,e.val)
def findIx (k:Value):List MapEntry→Nat→Option (Nat × Value)
 |[],_=>none
 |e::es,i=>match keyEq k e.key with
  |true=>some (i,e.val)
  |false=>findIx k es (i+1)
theorem findIx_spec (k:Value):∀ (l:List MapEntry) (i:Nat),(findIx k l i=none∧findV k (l.map pr)=none∧(∀ v,putV k v (l.map pr)=l.map pr ++ [(k,v)])∧delV k (l.map pr)=l.map pr)∨
  ∃ j e,findIx k l i=some (i+j,e.val)∧l[j]?=some e∧keyEq k e.key=true∧findV k (l.map pr)=some e.val∧(∀ v,putV k v (l.map pr)=(l.map pr).set j (k,v))∧delV k (l.map pr)=(l.map pr).eraseIdx j
 |[],i=>.inl ⟨rfl,rfl,fun _=>rfl,rfl⟩
 |e::l,i=>by
  cases h:keyEq k e.key with
  |true=>exact .inr ⟨0,e,by simp [findIx,h],rfl,h,by simp [findV,pr,h],fun v=>by simp [putV,pr,h],by simp [delV,pr,h]⟩
  |false=>
   rcases findIx_spec k l (i+1) with ⟨h1,h2,h3,h4⟩|⟨j,e',h1,h2,h3,h4,h5,h6⟩
   ·exact .inl ⟨by simp [findIx,h,h1],by simp [findV,pr,h] at h2 ⊢;exact h2,fun v=>by have:=h3 v;simp [putV,pr,h] at this ⊢;exact this,by simp [delV,pr,h] at h4 ⊢;exact h4⟩
   ·exact .inr ⟨j+1,e',by simp [findIx,h,h1];omega,by simpa using h2,h3,by simp [findV,pr,h] at h4 ⊢;exact h4,fun v=>by have:=h5 v;simp [putV,pr,h] at this ⊢;exact this,by simp [delV,pr,h] at h6 ⊢;exact h6⟩
section
variable {P:Program} {w:World} {k:TypeId}
theorem plain_key {kd:KD} {v:Value} (hK:KFact P k kd) (hv:fitK kd v=true) (hn:∀ ks,kd ≠ .st ks):∃ d,P.underlying k=some d∧∀ u,fitK kd u=true→MapKept.IsKey d u:=by
 cases kd with
 |int q=>exact ⟨_,hK,fun u hu=>by cases u<;>first|(cases hu;done)|exact (sameK_eq hu).symm⟩
 |str=>exact ⟨_,hK,fun u hu=>by cases u<;>first|(cases hu;done)|trivial⟩
 |bool=>exact ⟨_,hK,fun u hu=>by cases u<;>first|(cases hu;done)|trivial⟩
 |st ks=>exact absurd rfl (hn ks)
theorem eq_field {ks : List Nat} {kt : TypeId} (e : TEq P kt ks) {j : Nat} {f : Field} (hj : (P.fieldsOf kt).toList[j]? = some f) : f.name ≠ "_" ∧ f.offset = j ∧ ∃ c, ks[j]? = some c ∧ kindCode (P.underlying f.type) = c := by
 have h:=congrArg (fun l=>l[j]?) e.h
 simp only [List.getElem?_map,hj,List.getElem?_zipIdx,Option.map_some] at h
 cases hk:ks[j]? with
 |none=>rw [hk] at h;cases h
 |some c=>
  rw [hk] at h
  simp only [Option.map_some,Option.some.injEq,Prod.mk.injEq,Nat.zero_add] at h
  exact ⟨by simpa using h.1,h.2.1,c,rfl,h.2.2⟩
theorem check_str {e:TypeId} {s:ByteArray} (h:kindCode (P.underlying e)=1) (em:Bool) (n:Nat):(Instr.checkKey em (n+1) e (.string s)).run P w=.ok () w:=by
 cases hu:P.underlying e with
 |none=>rw [hu] at h;cases h
 |some t=>rw [hu] at h;cases t<;>first|(simp [kindCode] at h;done)|simp [Instr.checkKey,run_underlying hu]
theorem check_bool {e:TypeId} {s:Bool} (h:kindCode (P.underlying e)=2) (em:Bool) (n:Nat):(Instr.checkKey em (n+1) e (.bool s)).run P w=.ok () w:=by
 cases hu:P.underlying e with
 |none=>rw [hu] at h;cases h
 |some t=>rw [hu] at h;cases t<;>first|(simp [kindCode] at h;done)|simp [Instr.checkKey,run_underlying hu]
theorem check_run {kd:KD} {v:Value} (hK:KFact P k kd) (hv:fitK kd v=true) (em:Bool):(Instr.checkKey em 10000 k v).run P w=.ok () w:=by
 cases kd with
 |st ks=>
  have e:TEq P k ks:=hK
  cases v<;>try (cases hv;done)
  rename_i cs
  obtain ⟨hl,hat⟩:=fitS_at (show fitS ks cs.toList=true from hv)
  have each : ∀ f ∈ (P.fieldsOf k).toList, f.name ≠ "_" ∧ ∃ a, (part f.type cs f.offset).run P w = .ok a w ∧ (Instr.checkKey em 9999 f.type a).run P w = .ok () w := fun f hf => by
   obtain ⟨j,hj,rfl⟩:=List.mem_iff_getElem.1 hf
   obtain ⟨h1,h2,c,h3,h4⟩:=eq_field e (List.getElem?_eq_getElem hj)
   obtain ⟨x,hx,hc⟩:=hat j c h3
   refine ⟨h1,x,?_,?_⟩
   ·have hp:∀ t,P.underlying ((P.fieldsOf k).toList[j]).type=some t→aggDesc t=false→(part ((P.fieldsOf k).toList[j]).type cs ((P.fieldsOf k).toList[j]).offset).run P w=.ok x w:=fun t ht ha=>by
     have hx':cs[j]?=some x:=by simpa using hx
     unfold part
     rw [Sem.run_bind,run_isAgg_of ht,ha,h2]
     simp [hx']
    cases hu:P.underlying ((P.fieldsOf k).toList[j]).type with
    |none=>rw [hu] at h4;simp only [kindCode] at h4;subst h4;rcases hc with ⟨h,_⟩|⟨h,_⟩<;>cases h
    |some t=>
     refine hp t hu ?_
     rw [hu] at h4
     cases t<;>first|rfl|(simp only [kindCode] at h4;subst h4;rcases hc with ⟨h,_⟩|⟨h,_⟩<;>cases h)
   ·rcases hc with ⟨rfl,s,rfl⟩|⟨rfl,s,rfl⟩
    ·exact check_str h4 em 9998
    ·exact check_bool h4 em 9998
  rw [show (10000:Nat)=9999+1 from rfl,Instr.checkKey]
  simp only [Sem.run_bind,run_underlying e.s,Result.andThen_ok]
  rw [← Array.forIn_toList]
  generalize (P.fieldsOf k).toList=L at each
  clear hv hat hl e
  induction L with
  |nil=>simp
  |cons f L ih=>
   obtain ⟨hn,a,p1,p2⟩:=each f (by simp)
   simp only [List.forIn_cons,Sem.run_bind,hn,ne_eq,not_false_eq_true,if_true,Result.andThen_ok,p1,p2,Sem.run_pure]
   exact ih (fun y hy=>each y (by simp [hy]))
 |_=>
  obtain ⟨d,hd,hi⟩:=plain_key hK hv (by intro ks h;cases h)
  exact MapKept.run_checkKey hd (hi v hv) em 9999
theorem find_run {kd:KD} {v:Value} (hK:KFact P k kd) (hv:fitK kd v=true) {es:List MapEntry} (hes:∀ x ∈ es.map pr,fitK kd x.1=true):(Instr.findKey k v es).run P w=.ok (findIx v es 0) w:=by
 have hes':∀ e ∈ es,fitK kd e.key=true:=fun e he=>hes (pr e) (List.mem_map.2 ⟨e,he,rfl⟩)
 clear hes
 cases kd with
 |st ks=>
  have e:TEq P k ks:=hK
  rw [run_findKey_eq w (by rw [e.s])]
  cases v<;>try (cases hv;done)
  rename_i cs
  generalize 0=i
  induction es generalizing i with
  |nil=>simp [Instr.findAsking,findIx]
  |cons x es ih=>
   have hx:=hes' x (by simp)
   cases hkx:x.key<;>rw [hkx] at hx<;>try (cases hx;done)
   rename_i ds
   have h1:(Op.equal k (.agg cs) (.agg ds)).run P w=.ok (veqs cs.toList ds.toList) w:=by
    have:=struct_eq (P:=P) (e:=e) k w 9998 cs.toList ds.toList (fitS_two hv hx).1
    exact this
   have h2:keyEq (.agg cs) x.key=veqs cs.toList ds.toList:=by rw [hkx];rfl
   simp only [Instr.findAsking,findIx,hkx,Sem.run_bind,h1,Result.andThen_ok]
   rw [hkx] at h2
   rw [h2]
   cases veqs cs.toList ds.toList
   ·simp only [Bool.false_eq_true,if_false]
    exact ih (fun e he=>hes' e (by simp [he])) _
   ·simp
 |_=>
  obtain ⟨d,hd,hi⟩:=plain_key hK hv (by intro ks h;cases h)
  refine MapKept.run_findKey hd ?_
  have key:∀ u,fitK _ u=true→Instr.sameNow d v u=some (keyEq v u):=fun u hu=>by
   obtain ⟨r,h1,h2⟩:=MapKept.sameNow_of_keys (hi v hv) (hi u hu)
   rw [h1]
   congr 1
   rw [Bool.eq_iff_iff,h2]
   exact ⟨fun e=>by subst e;exact keyEq_self hv,fun h=>keyEq_eq hv hu h⟩
  generalize 0=i
  induction es generalizing i with
  |nil=>rfl
  |cons x es ih=>
   simp only [Instr.findNow,findIx,key x.key (hes' x (by simp))]
   cases keyEq v x.key
   ·simp only
    exact ih (fun e he=>hes' e (by simp [he])) _
   ·rfl
theorem stays_run {kd:KD} {v:Value} (hv:fitK kd v=true):(Instr.keyThatStays v v).run P w=.ok v w:=by
 have h:Instr.sameBits 10000 v v=true:=by
  cases kd with
  |st ks=>
   cases v<;>try (cases hv;done)
   rename_i cs
   obtain ⟨hl,hat⟩:=fitS_at (show fitS ks cs.toList=true from hv)
   show Instr.sameBits (9999+1) (.agg cs) (.agg cs)=true
   simp only [Instr.sameBits,beq_self_eq_true,Bool.true_and,List.all_eq_true]
   intro p hp
   obtain ⟨i,hi,e⟩:=List.getElem_of_mem hp
   rw [List.getElem_zip] at e
   rw [← e]
   simp only
   have hi':i < cs.toList.length:=by simp at hi;simpa using hi
   obtain ⟨x,hx,hc⟩:=hat i ks[i] (List.getElem?_eq_getElem (by omega))
   rw [List.getElem?_eq_getElem hi'] at hx
   rw [Option.some.inj hx]
   rcases hc with ⟨_,s,rfl⟩|⟨_,s,rfl⟩
   ·simp only [Instr.sameBits]
    exact (MapKept.bytes_beq _ _).2 rfl
   ·simp [Instr.sameBits]
  |int q=>cases v<;>first|(cases hv;done)|simp [Instr.sameBits]
  |str=>cases v<;>first|(cases hv;done)|(simp only [Instr.sameBits];exact (MapKept.bytes_beq _ _).2 rfl)
  |bool=>cases v<;>first|(cases hv;done)|simp [Instr.sameBits]
 simp [Instr.keyThatStays,h]
end
section
variable {P:Program} {Q:Exit→Act→World→Prop} {K:Act→World→Prop} {a:Act} {w:World} {dst:Option Tmp} {ty:TypeId} {pos:String} {after:Array Edge} {guard:Option (Nat × Bool)}
theorem r_makeMap {t:TypeId} (hk:K (a.put dst (.map (some w.heap.size))) (w.alloc (.map #[] 0))):(Oper.mk dst (.makeMap t none) ty pos after guard).wp P a w K Q:=by
 unfold Oper.wp
 have e:(execOp a.eval (Oper.mk dst (.makeMap t none) ty pos after guard)).run P w=.ok (.value (.map (some w.heap.size))) (w.alloc (.map #[] 0)):=rfl
 rw [e]
 exact hk
def lookV (ok:Bool) (z:Value) (r:Option Value):Value:=if ok then .tuple #[r.getD z,.bool r.isSome] else r.getD z
theorem r_lookup {t kt et:TypeId} {kd:KD} [m:TMap P t kt et kd] {z:Value} [hz:TZ1 P et z] {x y:Operand} {ok:Bool} {b clock:Nat} {ents:Array MapEntry} {es:List (Value × Value)} {kv:Value} (hx:a.eval x=.map (some b)) (hh:w.heap[b]?=some (.map ents clock)) (he:ents.toList.map pr=es) (hes:∀ x ∈ es,fitK kd x.1=true)
  (hy:a.eval y=kv) (hkv:fitK kd kv=true) (hk:K (a.put dst (lookV ok z (findV kv es))) w):(Oper.mk dst (.lookup t x y ok) ty pos after guard).wp P a w K Q:=by
 subst he
 refine wp_run (v:=lookV ok z (findV kv (ents.toList.map pr))) ?_ hk
 have hf:=find_run (w:=w) m.key hkv hes
 have hzz:(zeroValue et).run P w=.ok z w:=by
  have h1:=hz.h
  cases hi:P.info? et with
  |none=>rw [hi] at h1;cases h1
  |some inf=>
   rw [hi] at h1
   have h2:inf.zero=some z:=by simpa using h1
   simp [zeroValue,typeInfo,hi,h2]
 have hl:(Instr.lookup t (.map (some b)) kv ok).run P w=.ok (lookV ok z (findV kv (ents.toList.map pr))) w:=by
  rcases findIx_spec kv ents.toList 0 with ⟨h1,h2,_⟩|⟨j,e,h1,_,_,h4,_⟩
  ·rw [h1] at hf
   rw [h2]
   simp [Instr.lookup,run_underlying m.h,MapKept.run_getObj_map hh,check_run m.key hkv,hf,hzz,Result.andThen,lookV]
  ·rw [h1] at hf
   rw [h4]
   simp [Instr.lookup,run_underlying m.h,MapKept.run_getObj_map hh,check_run m.key hkv,hf,Result.andThen,lookV]
 simp only [execOp,hx,hy,Sem.run_bind,hl,Result.andThen_ok,Sem.run_pure]
def World.setMap (w:World) (b:Nat) (o:Obj):World:={ w with heap:=w.heap.setIfInBounds b o }
theorem r_mapUpdate {t kt et:TypeId} {kd:KD} [m:TMap P t kt et kd] {x y v:Operand} {b clock:Nat} {ents:Array MapEntry} {es:List (Value × Value)} {kv vv:Value} (hx:a.eval x=.map (some b)) (hh:w.heap[b]?=some (.map ents clock)) (he:ents.toList.map pr=es) (hes:∀ x ∈ es,fitK kd x.1=true)
  (hy:a.eval y=kv) (hkv:fitK kd kv=true) (hv:a.eval v=vv) (hk:∀ ents' clock',ents'.toList.map pr=putV kv vv es→K (a.put dst undef) (World.setMap w b (.map ents' clock'))):(Oper.mk dst (.mapUpdate t x y v) ty pos after guard).wp P a w K Q:=by
 subst he
 have hf:=find_run (w:=w) m.key hkv hes
 have fin:∀ o,(∃ ents' clock',o=Obj.map ents' clock'∧ents'.toList.map pr=putV kv vv (ents.toList.map pr))→(Instr.mapUpdate t (.map (some b)) kv vv).run P w=.ok () (World.setMap w b o)→(Oper.mk dst (.mapUpdate t x y v) ty pos after guard).wp P a w K Q:=by
  rintro o ⟨ents',clock',rfl,h1⟩ h2
  unfold Oper.wp execOp
  simp only [hx,hy,hv,Sem.run_bind,h2,Result.andThen_ok,Sem.run_pure]
  exact hk _ _ h1
 rcases findIx_spec kv ents.toList 0 with ⟨h1,_,h3,_⟩|⟨j,e,h1,h2,h3,_,h5,_⟩
 ·rw [h1] at hf
  refine fin (.map (ents.push ⟨kv,vv,clock⟩) (clock+1)) ⟨_,_,rfl,by rw [h3];simp [pr]⟩ ?_
  simp [Instr.mapUpdate,run_underlying m.h,MapKept.run_getObj_map hh,check_run m.key hkv,hf,MapKept.run_setObj_map _ hh,Result.andThen,World.setMap]
 ·rw [h1] at hf
  have hj:ents[j]?=some e:=by simpa using h2
  have hek:fitK kd e.key=true:=hes (pr e) (List.mem_map.2 ⟨e,gMem h2,rfl⟩)
  have hkk:kv=e.key:=keyEq_eq hkv hek h3
  refine fin (.map (ents.modify j fun e=>{ e with key:=kv,val:=vv }) clock) ⟨_,_,rfl,?_⟩ ?_
  ·rw [h5]
   apply List.ext_getElem?
   intro i
   simp only [List.getElem?_map,Array.getElem?_toList,Array.getElem?_modify,List.getElem?_set,List.length_map,Array.length_toList]
   by_cases hij:j=i
   ·subst hij
    have hlt:j < ents.size:=(Array.getElem?_eq_some_iff.1 hj).1
    simp [hlt,pr]
   ·simp [hij]
  ·simp only [Nat.zero_add] at hf
   simp [Instr.mapUpdate,run_underlying m.h,MapKept.run_getObj_map hh,check_run m.key hkv,hf,hj,← hkk,stays_run hkv,MapKept.run_setObj_map _ hh,Result.andThen,World.setMap]
theorem r_lenMap {t kt et:TypeId} {kd:KD} [m:TMap P t kt et kd] {x:Operand} {b clock:Nat} {ents:Array MapEntry} (hx:a.eval x=.map (some b)) (hh:w.heap[b]?=some (.map ents clock)) (hk:K (a.put dst (.int .i64 ents.toList.length)) w):(Oper.mk dst (.call ⟨.builtin .len,#[x],#[t]⟩) ty pos after guard).wp P a w K Q:=by
 refine wp_run ?_ hk
 have e:(Builtin.len_ #[t] ty #[.map (some b)]).run P w=.ok (.int .i64 ents.size) w:=by simp [Builtin.len_,run_underlying m.h,MapKept.run_getObj_map hh,goInt,Result.andThen]
 simp only [execOp,resolve,invoke,builtin,Sem.run_bind,Sem.run_pure,Result.andThen_ok,List.map_toArray,List.map_cons,List.map_nil,hx,e,Array.length_toList]
theorem wp_delete_run {ts:Array TypeId} {xs:Array Operand} {w':World} {v:Value} (hr:(Builtin.delete_ ts ty (xs.map a.eval)).run P w=.ok v w') (hk:K (a.put dst v) w'):(Oper.mk dst (.call ⟨.builtin .delete,xs,ts⟩) ty pos after guard).wp P a w K Q:=by
 unfold Oper.wp execOp
 simp only [resolve,invoke,builtin,Sem.run_bind,Sem.run_pure,Result.andThen_ok,hr]
 exact hk
theorem r_delete {t kt et:TypeId} {kd:KD} [m:TMap P t kt et kd] {ts:Array TypeId} (hts:ts = #[t,kt]) {x y:Operand} {b clock:Nat} {ents:Array MapEntry} {es:List (Value × Value)} {kv:Value} (hx:a.eval x=.map (some b)) (hh:w.heap[b]?=some (.map ents clock)) (he:ents.toList.map pr=es) (hes:∀ x ∈ es,fitK kd x.1=true)
  (hy:a.eval y=kv) (hkv:fitK kd kv=true) (hk:∀ ents' clock',ents'.toList.map pr=delV kv es→K (a.put dst (.tuple #[])) (World.setMap w b (.map ents' clock'))):(Oper.mk dst (.call ⟨.builtin .delete,#[x,y],ts⟩) ty pos after guard).wp P a w K Q:=by
 subst he;subst hts
 have hf:=find_run (w:=w) m.key hkv hes
 have hxy:(#[x,y]:Array Operand).map a.eval = #[.map (some b),kv]:=by simp [hx,hy]
 rcases findIx_spec kv ents.toList 0 with ⟨h1,_,_,h4⟩|⟨j,e,h1,h2,h3,_,_,h6⟩
 ·rw [h1] at hf
  refine wp_delete_run (v:=.tuple #[]) (w':=World.setMap w b (.map ents clock)) ?_ (hk _ _ h4.symm)
  rw [hxy]
  simp [Builtin.delete_,run_underlying m.h,MapKept.run_getObj_map hh,check_run m.key hkv,hf,MapKept.run_setObj_map _ hh,Result.andThen,World.setMap]
 ·rw [h1] at hf
  refine wp_delete_run (v:=.tuple #[]) (w':=World.setMap w b (.map (ents.eraseIdxIfInBounds j) clock)) ?_ (hk _ _ ?_)
  ·rw [hxy]
   simp only [Nat.zero_add] at hf
   simp [Builtin.delete_,run_underlying m.h,MapKept.run_getObj_map hh,check_run m.key hkv,hf,MapKept.run_setObj_map _ hh,Result.andThen,World.setMap]
  ·rw [h6]
   have hjs:j < ents.size:=(Array.getElem?_eq_some_iff.1 (show ents[j]?=some e by simpa using h2)).1
   unfold Array.eraseIdxIfInBounds
   rw [dif_pos hjs]
   rw [Array.toList_eraseIdx]
   apply List.ext_getElem?
   intro i
   rw [List.getElem?_map,List.getElem?_eraseIdx,List.getElem?_eraseIdx]
   split<;>simp
end
end Go.Proofs.YtnlbekongmkmjaaGreatDoor
