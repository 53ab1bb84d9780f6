/- The rule for a region whose order Go leaves open, when every operation only adds to memory: one step an operation, whatever the order. What a call gives; every single operation as one function. -/
import Derived.WalkKit
import Derived.Orders
import Derived.Lib.Hide
import Derived.Deep.DeepCutAuto
import Derived.Deep.CutBlock
import Derived.Deep.RegionHeld3
import Derived.Laws.AppendOwnNone
import Derived.Lib.ItoaNum
import Derived.MapKept
import Derived.WideKeyRuns
import Derived.Laws.IdiomStrings
import Derived.Laws.MakeOwn
namespace Go.Proofs.YtnjgoldinaffgaaGreatDoor
@[reducible] def b0:Bool:=false
@[reducible] def b1:Bool:=true
set_option linter.unusedSimpArgs false
set_option linter.unusedVariables false
open Go.RowKit
variable {K:Act→World→Prop} {cs:Array Value} {t:TypeId} {w w':World}
def Ext (w w':World):Prop:=Below w.heap.size w w'
theorem Ext.refl (w:World):Ext w w:=Below.refl _ w
theorem Ext.trans {a b c:World} (h:Ext a b) (k:Ext b c):Ext a c:=Below.trans h (Below.mono k h.size)
theorem Ext.drew (w:World):Ext w w.drew:=(Below.refl _ w).drew
theorem Ext.alloc (w:World) (o:Obj):Ext w (w.alloc o):=(Below.refl _ w).alloc (Nat.le_refl _) o
theorem Ext.cell (h:Ext w w') {p:Addr} {v:Value} (hc:w.cell? p=some v):w'.cell? p=some v:=
 (Below.cell h (block_lt_of_cell hc)).trans hc
theorem Ext.sizeOf (h:Ext w w'):w.heap.size≤w'.heap.size:=Below.size h
theorem Ext.below (h:Ext w w'):Below w.heap.size w w':=h
abbrev Unk:=Nat × Nat × Value
structure Spec where
 shape:Unk→Value
 fact:Unk→World→Prop
 mono:∀ u w w',Ext w w'→fact u w→fact u w'
def Spec.det (e:Value):Spec:=⟨fun _=>e,fun _ _=>True,fun _ _ _ _ h=>h⟩
def Blk (w:World) (g:Nat) (t:TypeId) (cs:Array Value):Prop:=w.heap[g]?=some (.cells cs t (0,0))
theorem Blk.lt {g:Nat} (h:Blk w g t cs):g < w.heap.size:=by
 rcases Nat.lt_or_ge g w.heap.size with hlt|hge
 ·exact hlt
 ·unfold Blk at h;rw [Array.getElem?_eq_none hge] at h;cases h
theorem Blk.ext {g:Nat} (h:Blk w g t cs) (hx:Ext w w'):Blk w' g t cs:=(Below.block hx g h.lt).trans h
theorem Blk.cell {g:Nat} (h:Blk w g t cs) (i:Nat):w.cell? ⟨g,i,none⟩=cs[i]?:=cell_of_row w g i cs t (0,0) h
theorem Blk.frozen {g:Nat} (h:Blk w g t cs) (i:Nat):w.frozen? ⟨g,i,none⟩=false:=by
 unfold Blk at h
 simp [World.frozen?,h]
theorem Blk.new (w:World) (t:TypeId) (cs:Array Value):Blk (w.alloc (.cells cs t)) w.heap.size t cs:=heap_alloc_new w _
def Spec.blk (sh:Nat→Value) (t:TypeId) (cs:Array Value):Spec:=⟨fun u=>sh u.1,fun u w=>Blk w u.1 t cs,fun _ _ _ h k=>k.ext h⟩
theorem Ext.rules (h:Ext w w'):(∀ b o,b < w.heap.size→w'.cell? ⟨b,o,none⟩=w.cell? ⟨b,o,none⟩)∧(∀ b o,b < w.heap.size→w'.frozen? ⟨b,o,none⟩=w.frozen? ⟨b,o,none⟩):=
 ⟨fun b o hb=>Below.cell (p:=⟨b,o,none⟩) h hb,fun b o hb=>Below.frozen (p:=⟨b,o,none⟩) h hb⟩
section
variable (P:Program) (ops:Array Oper) (Q:Exit→Act→World→Prop)
def iA (o:Oper) (s:Spec) (a:Act) (w:World):Prop:=
 if Region.wanted o (yielded ops a.tmps)=true then
  ∀ K:Act→World→Prop,(∀ u w',s.fact u w'→Ext w w'→K (a.put o.dst (s.shape u)) w')→o.wp P a w K (NoPanic Q)∨(o.asks P a w∧LetsOut (NoPanic Q))
 else ∃ u,s.shape u=undef∧s.fact u w
def cF (w0:World):List Oper→List Spec→List (World→Prop)→Act→Prop
 |[],_,fs,a=>∀ w,Ext w0 w→(∀ f ∈ fs,f w)→Q .normal a w
 |_::_,[],_,_=>False
 |o::r,s::ss,fs,a=>
  (∀ w,Ext w0 w→(∀ e ∈ o.after.toList,Region.binds .any e=true→(fs.getD e.on (fun _=>True)) w)→iA P ops Q o s a w)∧
  ∀ u,cF w0 r ss (fs ++ [s.fact u]) (a.put o.dst (s.shape u))
end
def nI (o:Oper) (j:Nat):Bool:=o.after.any fun e=>Region.binds .any e && e.on == j
def jO (ops:Array Oper):Bool:=
 Region.noSelect ops && (List.range ops.size).all fun i=>match ops[i]? with
  |some o=>(o.after.all fun e => !Region.binds .any e || decide (e.on < i)) &&
    (List.range ops.size).all fun k=>k == i || match ops[k]? with
     |some p=>match p.dst with
      |none=>true
      |some d=>o.dst != some d && (!(o.looksAt ops).contains d || nI o k || nI p i)
     |none=>true
  |none=>true
theorem cW {o:Oper} {j:Nat} (h:nI o j=true):∃ e ∈ o.after,Region.binds .any e=true∧e.on=j:=by
 unfold nI at h
 obtain ⟨e,he,hb⟩:=Array.any_eq_true'.1 h
 simp only [Bool.and_eq_true,beq_iff_eq] at hb
 exact ⟨e,he,hb.1,hb.2⟩
section
variable {ops:Array Oper}
theorem bY (h:jO ops=true) {i:Nat} {o:Oper} (ho:ops[i]?=some o) {e:Edge} (he:e ∈ o.after) (hb:Region.binds .any e=true):e.on < i:=by
 simp only [jO,Bool.and_eq_true,List.all_eq_true,List.mem_range] at h
 have h1:=h.2 i (Array.getElem?_eq_some_iff.1 ho).1
 simp only [ho,Bool.and_eq_true] at h1
 have h2:=Array.all_eq_true_iff_forall_mem.1 h1.1 e he
 simpa [hb] using h2
theorem fJ (h:jO ops=true) {i k:Nat} {o p:Oper} (ho:ops[i]?=some o) (hp:ops[k]?=some p) (hki:k ≠ i) {d:Tmp} (hd:p.dst=some d):
  o.dst ≠ some d∧(d ∈ o.looksAt ops→nI o k=true∨nI p i=true):=by
 simp only [jO,Bool.and_eq_true,List.all_eq_true,List.mem_range] at h
 have h1:=h.2 i (Array.getElem?_eq_some_iff.1 ho).1
 simp only [ho,Bool.and_eq_true,List.all_eq_true,List.mem_range] at h1
 have h2:=h1.2 k (Array.getElem?_eq_some_iff.1 hp).1
 simp only [hp,hd,Bool.or_eq_true,beq_iff_eq,hki,false_or,Bool.and_eq_true,bne_iff_ne,ne_eq,Bool.not_eq_true'] at h2
 refine ⟨h2.1,fun hm => ?_⟩
 rcases h2.2 with (h3|h3)|h3
 ·simp [hm] at h3
 ·exact .inl h3
 ·exact .inr h3
theorem nV (h:jO ops=true):Region.noSelect ops=true:=by
 simp only [jO,Bool.and_eq_true] at h
 exact h.1
end
def bO (env:Nat→Unk) (done:Nat→Bool):List Oper→List Spec→Nat→Act→Act
 |o::r,s::ss,k,a=>bO env done r ss (k+1) (if done k=true then a.put o.dst (s.shape (env k)) else a)
 |_,_,_,a=>a
theorem mS (a:Act) (d:Option Tmp) (v:Value):(a.put d v).defers=a.defers:=by cases d<;>rfl
theorem xS (a:Act) (d:Option Tmp) (v:Value):(a.put d v).tmps.size=a.tmps.size:=by cases d<;>simp [Act.put]
theorem zIk (a:Act) (d:Option Tmp) (v:Value) (t:Tmp) (h:d ≠ some t):(a.put d v).tmps[t]?=a.tmps[t]?:=by
 cases d with
 |none=>rfl
 |some x=>simp [Act.put,Array.getElem?_setIfInBounds_ne (fun e=>h (by rw [e]):x ≠ t)]
theorem xT (a:Act) (v:Value) (t:Tmp):(a.put (some t) v).tmps[t]?=if t < a.tmps.size then some v else none:=by
 simp [Act.put,Array.getElem?_setIfInBounds]
theorem zGh {a b:Act} (hd:a.defers=b.defers) (ht:∀ t:Nat,a.tmps[t]?=b.tmps[t]?):a=b:=by
 cases a with|mk x d=>cases b with|mk y e=>
  simp only at hd ht
  have:x=y:=Array.ext_getElem? ht
  subst this hd
  rfl
section
variable {env:Nat→Unk}
theorem hP {done:Nat→Bool}:∀ (l:List Oper) (ss:List Spec) (k:Nat) (a:Act),(bO env done l ss k a).defers=a.defers
 |[],_,_,_=>by simp [bO]
 |_::_,[],_,_=>by simp [bO]
 |o::r,s::ss,k,a=>by
  simp only [bO]
  rw [hP r ss]
  split
  ·exact mS _ _ _
  ·rfl
theorem rL {done:Nat→Bool}:∀ (l:List Oper) (ss:List Spec) (k:Nat) (a:Act),(bO env done l ss k a).tmps.size=a.tmps.size
 |[],_,_,_=>by simp [bO]
 |_::_,[],_,_=>by simp [bO]
 |o::r,s::ss,k,a=>by
  simp only [bO]
  rw [rL r ss]
  split
  ·exact xS _ _ _
  ·rfl
theorem jE {d1 d2:Nat→Bool} {t:Tmp}:∀ (l:List Oper) (ss:List Spec) (k:Nat) (a1 a2:Act),a1.tmps.size=a2.tmps.size→a1.tmps[t]?=a2.tmps[t]?→
  (∀ j o,l[j]?=some o→o.dst=some t→d1 (k+j)=d2 (k+j))→(bO env d1 l ss k a1).tmps[t]?=(bO env d2 l ss k a2).tmps[t]?
 |[],_,_,_,_,_,h,_=>by simpa [bO] using h
 |_::_,[],_,_,_,_,h,_=>by simpa [bO] using h
 |o::r,s::ss,k,a1,a2,hs,h,hd=>by
  simp only [bO]
  refine jE r ss (k+1) _ _ ?_ ?_ (fun j o' ho hdst => ?_)
  ·split<;>split<;>simp [xS,hs]
  ·by_cases ht:o.dst=some t
   ·have h0:=hd 0 o rfl ht
    simp only [Nat.add_zero] at h0
    rw [h0]
    split
    ·rw [ht,xT,xT,hs]
    ·exact h
   ·split<;>split<;>simp only [zIk _ _ _ _ ht,h]
  ·have:=hd (j+1) o' (by simpa using ho) hdst
   simpa [Nat.add_assoc,Nat.add_comm 1 j] using this
theorem zDM {done:Nat→Bool} {t:Tmp}:∀ (l:List Oper) (ss:List Spec) (k:Nat) (a:Act) (i:Nat) (o:Oper) (s:Spec),l[i]?=some o→ss[i]?=some s→o.dst=some t→done (k+i)=true→
  (∀ j p,l[j]?=some p→j ≠ i→p.dst ≠ some t)→(bO env done l ss k a).tmps[t]?=if t < a.tmps.size then some (s.shape (env (k+i))) else none
 |[],_,_,_,i,_,_,h,_,_,_,_=>by simp at h
 |_::_,[],_,_,i,_,_,_,h,_,_,_=>by simp at h
 |o'::r,s'::ss,k,a,0,o,s,h,hs,ht,hd,hu=>by
  simp only [List.getElem?_cons_zero,Option.some.injEq] at h hs
  subst h hs
  simp only [Nat.add_zero] at hd
  simp only [bO,hd,if_true,Nat.add_zero]
  have hag:=jE (env:=env) (d1:=done) (d2:=fun _=>false) (t:=t) r ss (k+1) (a.put o'.dst (s'.shape (env k))) (a.put o'.dst (s'.shape (env k))) rfl rfl (fun j p hp hdst=>absurd hdst (hu (j+1) p (by simpa using hp) (by omega)))
  rw [hag]
  have hnone:∀ (l:List Oper) (ss:List Spec) (k:Nat) (a:Act),bO env (fun _=>false) l ss k a=a:=by
   intro l
   induction l with
   |nil=>intro ss k a;simp [bO]
   |cons o r ih=>intro ss k a;cases ss with
    |nil=>simp [bO]
    |cons s ss=>simp [bO,ih]
  rw [hnone,ht,xT]
 |o'::r,s'::ss,k,a,i+1,o,s,h,hs,ht,hd,hu=>by
  simp only [bO]
  have:=zDM r ss (k+1) (if done k=true then a.put o'.dst (s'.shape (env k)) else a) i o s (by simpa using h) (by simpa using hs) ht (by simpa [Nat.add_assoc,Nat.add_comm 1 i] using hd)
   (fun j p hp hji=>hu (j+1) p (by simpa using hp) (by omega))
  rw [this]
  have e:k+1+i=k+(i+1):=by omega
  rw [e]
  have hsz:(if done k=true then a.put o'.dst (s'.shape (env k)) else a).tmps.size=a.tmps.size:=by split<;>simp [xS]
  rw [hsz]
end
theorem zHK {P:Program} {Q:Exit→Act→World→Prop} {o:Oper} {a b:Act} {K:Value→World→Prop} (he:execOp a.eval o=execOp b.eval o)
  (hin:∀ d,o.dst=some d→d < b.tmps.size)
  (h:o.wp P b w (fun a' w'=>∃ v,a'=b.put o.dst v∧K v w') (NoPanic Q)):o.wp P a w (fun a' w'=>∃ v,a'=a.put o.dst v∧K v w') (NoPanic Q):=by
 unfold Oper.wp at *
 rw [he]
 have key:∀ v w',(∃ u,b.put o.dst v=b.put o.dst u∧K u w')→∃ u,a.put o.dst v=a.put o.dst u∧K u w':=by
  rintro v w' ⟨u,hu,hk⟩
  refine ⟨u,?_,hk⟩
  cases hd:o.dst with
  |none=>rfl
  |some d=>
   rw [hd] at hu
   have hlt:=hin d hd
   have:=congrArg (fun x:Act=>x.tmps[d]?) hu
   simp only [xT,hlt,if_true,Option.some.injEq] at this
   rw [this]
 cases hr:(execOp b.eval o).run P w with
 |ok n w'=>
  rw [hr] at h
  cases n with
  |value v=>exact key v w' h
  |skip=>exact key undef w' h
  |defer d=>
   obtain ⟨v,hv,_⟩:=h
   have:=congrArg Act.defers hv
   rw [mS,mS] at this
   simp at this
  |enter f args=>exact Calls.mono h (fun e w'' he=>by cases e<;>first|exact key _ _ he|exact he)
  |row row args=>exact Rows.mono h (fun v w'' he=>key _ _ he)
  |_=>exact h.elim
 |halt x w'=>
  rw [hr] at h
  cases x<;>first|exact h|exact h.elim
/-! ### The steps, one an operation -/
section
variable {P:Program} {ops:Array Oper} {Q:Exit→Act→World→Prop} {w0:World} {o:Oper} {r:List Oper} {ss:List Spec} {fs:List (World→Prop)} {a:Act}
theorem zK9 {e:Value} (hw:Region.wanted o (yielded ops a.tmps)=true)
  (h:∀ w,Ext w0 w→(∀ e ∈ o.after.toList,Region.binds .any e=true→(fs.getD e.on (fun _=>True)) w)→∀ K:Act→World→Prop,(∀ w',Ext w w'→K (a.put o.dst e) w')→o.wp P a w K (NoPanic Q))
  (hr:cF P ops Q w0 r ss (fs ++ [fun _=>True]) (a.put o.dst e)):cF P ops Q w0 (o::r) (Spec.det e::ss) fs a:=
 ⟨fun w hx hf=>by unfold iA;rw [if_pos hw];exact fun K hK=>.inl (h w hx hf K fun w' h2=>hK default w' trivial h2),fun _=>hr⟩
theorem sN {e:Value} (hw:Region.wanted o (yielded ops a.tmps)=true)
  (h:∀ w,Ext w0 w→∀ K:Act→World→Prop,(∀ w',Ext w w'→K (a.put o.dst e) w')→o.wp P a w K (NoPanic Q))
  (hr:cF P ops Q w0 r ss (fs ++ [fun _=>True]) (a.put o.dst e)):cF P ops Q w0 (o::r) (Spec.det e::ss) fs a:=
 zK9 hw (fun w hx _=>h w hx) hr
theorem zK8 (h:∀ w,Ext w0 w→(∀ f ∈ fs,f w)→Q .normal a w):cF P ops Q w0 [] [] fs a:=by
 simpa [cF] using h
end
/-! ### The same with a parting of cases: what is left of every operation may hang on the case. -/
/-! ### A region whose order is fixed, by the same steps -/
section
variable {P:Program} {Q:Exit→Act→World→Prop}
end
/-! ### Operations that are carried out only if a test says so: what they leave is written with the test, and no cases are parted -/
def G (c:Bool) (v:Value):Value:=if c then v else undef
section
variable {P:Program} {ops:Array Oper} {Q:Exit→Act→World→Prop} {w0:World} {o:Oper} {r:List Oper} {ss:List Spec} {fs:List (World→Prop)} {a:Act}
def rP:Value→Option Bool
 |.bool b=>some b
 |_=>none
theorem pO {j:Nat} {want c:Bool} {v:Value} (hg:o.guard=some (j,want)) (hy:((ops[j]?).bind (·.dst)).bind (a.tmps[·]?)=some v)
  (hc:rP v=some want↔c=true):Region.wanted o (yielded ops a.tmps)=c:=by
 unfold Region.wanted yielded
 rw [hg]
 simp only
 rw [hy,Bool.eq_iff_iff]
 simp only [beq_iff_eq]
 rw [← hc]
 cases v<;>rfl
theorem vX (ρ:Operand→Value) (dst:Option Tmp) (c x y:Operand) (ty:TypeId) (pos:String) (after:Array Edge) (guard:Option (Nat × Bool)) (b:Bool) (h:ρ c=.bool b) (w:World):
  (execOp ρ { dst,op:=.pick c x y,type:=ty,pos,after,guard }).run P w=.ok (.value (if b then ρ x else ρ y)) w:=by
 cases b<;>simp [execOp,h,asBool]
theorem zHL {c x:Operand} {b p:Bool} (ho:o.op=.pick c x (.const (.bool false))) (hc:a.eval c=.bool b) (hx:a.eval x=G b (.bool p))
  (hk:K (a.put o.dst (.bool (b && p))) w):o.wp P a w K Q:=by
 obtain ⟨dst,op,ty,pos,after,guard⟩:=o
 simp only at ho
 subst ho
 unfold Oper.wp
 rw [vX _ _ _ _ _ _ _ _ _ b hc]
 rw [hx]
 cases b<;>exact hk
end
def RowAt (w:World) (b p:Nat) (cs:List Value):Prop:=∀ j u,cs[j]?=some u→w.cell? ⟨b,p+j,none⟩=some u
theorem RowAt.ext {b p:Nat} {cs:List Value} (h:RowAt w b p cs) (hx:Ext w w'):RowAt w' b p cs:=fun j u hu=>hx.cell (h j u hu)
theorem RowAt.lt {b p:Nat} {c:Value} {cs:List Value} (h:RowAt w b p (c::cs)):b < w.heap.size:=block_lt_of_cell (a:=⟨b,p+0,none⟩) (h 0 c rfl)
def SlR (w:World) (sz:Nat) (v:Value) (rows:List (List Value)):Prop:=
 ∃ (A:Option Addr) (c:Nat),v=.slice A rows.length c∧rows.length≤c∧c≤9223372036854775807∧(A=none→c=0)∧
  ∀ k r,rows[k]?=some r→r.length=sz∧∃ b o,A=some ⟨b,o,none⟩∧RowAt w b (o+k * sz) r
theorem SlR.ext {sz:Nat} {v:Value} {rows:List (List Value)} (h:SlR w sz v rows) (hx:Ext w w'):SlR w' sz v rows:=by
 obtain ⟨A,c,h1,h2,h3,h0,h4⟩:=h
 exact ⟨A,c,h1,h2,h3,h0,fun k r hr=>by
  obtain ⟨g1,b,o,g2,g3⟩:=h4 k r hr
  exact ⟨g1,b,o,g2,g3.ext hx⟩⟩
section
variable {P:Program}
theorem nS (w:World) (b p:Nat) (ty:TypeId) (cs:List Value) (d:TypeDesc) (hr:RowAt w b p cs)
  (hu:P.underlying ty=some d) (hd:(match d with | .struct _ | .array _ _=>true|_=>false)=true) (hi:(P.info? ty).map (·.size)=some cs.length):
  (loadVar ty ⟨b,p,none⟩).run P w=.ok (.agg cs.toArray) w:=by
 have hl:(loadCells ⟨b,p,none⟩ cs.length).run P w=.ok cs.toArray w:=
  run_loadCells_list (P:=P) w ⟨b,p,none⟩ cs (fun j v hv=>by
   have hadd:(⟨b,p,none⟩:Addr).add j=⟨b,p+j,none⟩:=by unfold Addr.add;split<;>simp_all
   rw [hadd]
   exact hr j v hv)
 cases hq:P.info? ty with
 |none=>simp [hq] at hi
 |some i=>
  have hs:i.size=cs.length:=by simpa [hq] using hi
  have hagg:(isAgg ty).run P w=.ok true w:=by
   unfold isAgg
   rw [Sem.run_bind,run_underlying hu w]
   cases d<;>simp_all
  simp [loadVar,Sem.run_bind,hagg,sizeOf,typeInfo,hq,hs,hl]
theorem zEg {o:Oper} {a:Act} {Q:Exit→Act→World→Prop} (ty:TypeId) (x:Operand) (b p:Nat) (cs:List Value) (d:TypeDesc) (ho:o.op=.load ty x)
  (hx:a.eval x=.pointer (some ⟨b,p,none⟩)) (hr:RowAt w b p cs) (hu:P.underlying ty=some d) (hd:(match d with | .struct _ | .array _ _=>true|_=>false)=true) (hi:(P.info? ty).map (·.size)=some cs.length)
  (h:K (a.put o.dst (.agg cs.toArray)) w):o.wp P a w K Q:=by
 unfold Oper.wp execOp
 simp only [ho,hx,Instr.loadAt,Instr.sureAddr,Sem.run_bind,Sem.run_pure,Result.andThen_ok,nS w b p ty cs d hr hu hd hi]
 exact h
end
theorem RowAt.box (w:World) (t:TypeId) (cs:List Value):RowAt (w.alloc (.cells cs.toArray t)) w.heap.size 0 cs:=fun j u hu=>by
 rw [cell_of_row _ _ _ _ _ _ (heap_alloc_new w _)]
 simpa using hu
theorem RowAt.rule {b:Nat} {cs:List Value} (h:RowAt w b 0 cs):∀ j,j < cs.length→w.cell? ⟨b,j,none⟩=cs[j]?:=fun j hj=>by
 have:=h j cs[j] (by simp [hj])
 rw [Nat.zero_add] at this
 rw [this]
 simp [hj]
theorem RowAt.left {b p:Nat} {xs ys:List Value} (h:RowAt w b p (xs++ys)):RowAt w b p xs:=fun j u hj=>h j u (by
 rw [List.getElem?_append_left (List.getElem?_eq_some_iff.1 hj).1];exact hj)
theorem RowAt.right {b p:Nat} {xs ys:List Value} (h:RowAt w b p (xs++ys)):RowAt w b (p+xs.length) ys:=fun j u hj=>by
 have:=h (xs.length+j) u (by rw [List.getElem?_append_right (by omega)];simpa using hj)
 rwa [← Nat.add_assoc] at this
theorem bC {α:Type _} {l:List α} {i:Nat} {a:α} (h:l[i]?=some a):i < l.length:=(List.getElem?_eq_some_iff.1 h).1
theorem aK {α:Type _} {l:List α} {i:Nat} {a:α} (h:l[i]?=some a):a ∈ l:=List.mem_of_getElem? h
end Go.Proofs.YtnjgoldinaffgaaGreatDoor
namespace Go.Proofs.YtnjgoldinaffgaaGreatDoor
set_option linter.unusedSimpArgs false
set_option linter.unusedVariables false
open Go.RowKit
variable {n:Nat} {ops:Array Oper} {ts:Array TypeId}
def gE:TypeDesc→Bool
 |.struct _ | .array _ _=>true
 |_=>false
class TInt (P:Program) (t:TypeId) (k:outParam IntKind):Prop where
 h:P.underlying t=some (.int k)
class TStr (P:Program) (t:TypeId):Prop where
 h:P.underlying t=some .string
class TBool (P:Program) (t:TypeId):Prop where
 h:P.underlying t=some .bool
class TIfc (P:Program) (t:TypeId):Prop where
 h:∃ ms,P.underlying t=some (.interface ms)
class TOne (P:Program) (t:TypeId):Prop where
 h:∃ d,P.underlying t=some d∧gE d=false
 sz:(P.info? t).map (·.size)=some 1
class TRow (P:Program) (t:TypeId) (n:outParam Nat):Prop where
 h:∃ d,P.underlying t=some d∧gE d=true
 sz:(P.info? t).map (·.size)=some n
class TSlice (P:Program) (t:TypeId) (e:outParam TypeId):Prop where
 h:P.underlying t=some (.slice e)
class TSize (P:Program) (t:TypeId) (n:outParam Nat):Prop where
 sz:(P.info? t).map (·.size)=some n
class TZer (P:Program) (t:TypeId) (cs:outParam (List Value)):Prop where
 h:(P.info? t).map (fun i=>i.zero.map (fun z=>z.cells.toList))=some (some cs)
class TStruct (P:Program) (t:TypeId) (pl:outParam (List (Nat × Nat))):Prop where
 h:(∃ fs,P.underlying t=some (.struct fs)∧fs.toList.mapM (fun f=>(P.info? f.type).map fun i=>(f.offset,i.size))=some pl)∨(pl = []∧∃ n e k,P.underlying t=some (.array n e)∧(P.info? e).map (·.size)=some k)
class TArr (P:Program) (t:TypeId) (n:outParam Nat):Prop where
 h:∃ e,P.underlying t=some (.array n e)∧P.underlying e=some .string∧(P.info? e).map (·.size)=some 1
 guard:P.eqGuardType P.depth t=false
class TFld (P:Program) (t:TypeId) (i:Nat) (off n:outParam Nat) (agg:outParam Bool):Prop where
 h:∃ fs f d,P.underlying t=some (.struct fs)∧fs[i]?=some f∧f.offset=off∧P.underlying f.type=some d∧gE d=agg∧(P.info? f.type).map (·.size)=some (n+1)
class Enters (P:Program) (f:FuncId):Prop where
 h : ∃ fn, P.funcs[f]? = some fn ∧ (fn.name == "runtime.NumGoroutine") = false ∧ fn.body.isNone = false
section
variable {P:Program} {w:World}
theorem dD {t:Nat} (h:(P.info? t).map (·.size)=some n):(sizeOf t).run P w=.ok n w:=by
 cases hi:P.info? t with
 |none=>simp [hi] at h
 |some i=>
  have:i.size=n:=by simpa [hi] using h
  simp [sizeOf,typeInfo,hi,this]
theorem cL {t:Nat} {d:TypeDesc} (h:P.underlying t=some d):(isAgg t).run P w=.ok (gE d) w:=by
 unfold isAgg
 rw [Sem.run_bind,run_underlying h w]
 cases d<;>rfl
theorem sE {f:FuncId} [e:Enters P f] (args:Array Value):(callFunc f args).run P w=.ok (.enter f args) w:=by
 obtain ⟨fn,h1,h2,h3⟩:=e.h
 have h4 : fn.name ≠ "runtime.NumGoroutine" := by simpa using h2
 have h5:fn.body ≠ none:=by intro e;rw [e] at h3;cases h3
 simp [callFunc,h1,h4,h5]
end
section
variable {P:Program} {Q:Exit→Act→World→Prop} {K:Act→World→Prop} {a:Act} {w:World}
 {dst:Option Tmp} {ty:TypeId} {pos:String} {after:Array Edge} {guard:Option (Nat × Bool)}
theorem bL {o:Oper} {v:Value} (h:(execOp a.eval o).run P w=.ok (.value v) w) (hk:K (a.put o.dst v) w):o.wp P a w K Q:=by
 unfold Oper.wp;rw [h];exact hk
theorem jK {x:Operand} {v:Value} (hx:a.eval x=v) (hk:K (a.put dst v) w):(Oper.mk dst (.move x) ty pos after guard).wp P a w K Q:=
 bL (by simp [execOp,hx]) hk
theorem jZ {x:Operand} {v:Value} (hx:a.eval x=v) (hk:K (a.put dst v) w):(Oper.mk dst (.assign x) ty pos after guard).wp P a w K Q:=
 bL (by simp [execOp,hx]) hk
theorem iG {x:Operand} {p:Addr} (hx:a.eval x=.pointer (some p)) (hk:K (a.put dst (.pointer (some p))) w):(Oper.mk dst (.nilCheck x) ty pos after guard).wp P a w K Q:=
 bL (by simp [execOp,hx]) hk
theorem zAY {x:Operand} {i:Nat} {vs:List Value} {v:Value} (hx:a.eval x=.tuple vs.toArray) (hv:vs[i]?=some v) (hk:K (a.put dst v) w):(Oper.mk dst (.extract x i) ty pos after guard).wp P a w K Q:=
 bL (by simp [execOp,hx,Instr.extract,hv]) hk
theorem zLV {x:Operand} {t:TypeId} {b:Bool} (hx:a.eval x=.bool b) (hk:K (a.put dst (.bool (!b))) w):(Oper.mk dst (.unOp .not t x) ty pos after guard).wp P a w K Q:=
 bL (by simp [execOp,hx,Op.unary]) hk
/-! whole numbers -/
section
variable {x y:Operand} {t t':TypeId} {k:IntKind} {p q:Int}
theorem gX {op:BinOp} {v:Value} (hx:a.eval x=.int k p) (hy:a.eval y=.int k q) (hg:∀ r,(binOp op t (.int k p) (.int k q)).run P w=.ok r w→r=v) (hr:(binOp op t (.int k p) (.int k q)).run P w=.ok v w)
  (hk:K (a.put dst v) w):(Oper.mk dst (.binOp op t x y t') ty pos after guard).wp P a w K Q:=by
 refine bL ?_ hk
 have he:(eqGuard op t x y (.int k p) (.int k q)).run P w=.ok () w:=by
  unfold eqGuard
  cases op<;>simp
 simp only [execOp,hx,hy,Sem.run_bind,he,Result.andThen_ok,hr,Sem.run_pure]
theorem zLX {r:Int} (hx:a.eval x=.int k p) (hy:a.eval y=.int k q) (hr:k.wrap (p+q)=r) (hk:K (a.put dst (.int k r)) w):(Oper.mk dst (.binOp .add t x y t') ty pos after guard).wp P a w K Q:=
 gX hx hy (fun _ h=>by simpa [binOp,Op.intArith,hr] using h.symm) (by simp [binOp,Op.intArith,hr]) hk
theorem zPc {r:Int} (hx:a.eval x=.int k p) (hy:a.eval y=.int k q) (hr:k.wrap (p - q)=r) (hk:K (a.put dst (.int k r)) w):(Oper.mk dst (.binOp .sub t x y t') ty pos after guard).wp P a w K Q:=
 gX hx hy (fun _ h=>by simpa [binOp,Op.intArith,hr] using h.symm) (by simp [binOp,Op.intArith,hr]) hk
theorem zPh {r:Int} (hx:a.eval x=.int k p) (hy:a.eval y=.int k q) (hr:k.wrap (p * q)=r) (hk:K (a.put dst (.int k r)) w):(Oper.mk dst (.binOp .mul t x y t') ty pos after guard).wp P a w K Q:=
 gX hx hy (fun _ h=>by simpa [binOp,Op.intArith,hr] using h.symm) (by simp [binOp,Op.intArith,hr]) hk
theorem zPe {r:Int} (hx:a.eval x=.int k p) (hy:a.eval y=.int k q) (h0:q ≠ 0) (hr:k.wrap (p.tdiv q)=r) (hk:K (a.put dst (.int k r)) w):(Oper.mk dst (.binOp .quo t x y t') ty pos after guard).wp P a w K Q:=
 gX hx hy (fun _ h=>by simpa [binOp,Op.intDiv,hr,h0] using h.symm) (by simp [binOp,Op.intDiv,hr,h0]) hk
theorem zPd {r:Int} (hx:a.eval x=.int k p) (hy:a.eval y=.int k q) (h0:q ≠ 0) (hr:p.tmod q=r) (hk:K (a.put dst (.int k r)) w):(Oper.mk dst (.binOp .rem t x y t') ty pos after guard).wp P a w K Q:=
 gX hx hy (fun _ h=>by simpa [binOp,Op.intDiv,hr,h0] using h.symm) (by simp [binOp,Op.intDiv,hr,h0]) hk
theorem zPg {r:Int} (hx:a.eval x=.int k p) (hr:k.wrap (0 - p)=r) (hk:K (a.put dst (.int k r)) w):(Oper.mk dst (.unOp .neg t x) ty pos after guard).wp P a w K Q:=
 bL (by simp only [execOp,hx,Op.unary,Op.intArith,hr,Sem.run_bind,Sem.run_pure,Result.andThen_ok]) hk
theorem zPn (hx:a.eval x=.int k p) (hy:a.eval y=.int k q) (hk:K (a.put dst (.bool (p == q))) w):(Oper.mk dst (.binOp .eql t x y t') ty pos after guard).wp P a w K Q:=
 gX hx hy (fun _ h=>by simpa [binOp,Op.intCmp] using h.symm) (by simp [binOp,Op.intCmp]) hk
theorem zPf (hx:a.eval x=.int k p) (hy:a.eval y=.int k q) (hk:K (a.put dst (.bool (!(p == q)))) w):(Oper.mk dst (.binOp .neq t x y t') ty pos after guard).wp P a w K Q:=
 gX hx hy (fun _ h=>by simpa [binOp,Op.intCmp,bne] using h.symm) (by simp [binOp,Op.intCmp,bne]) hk
theorem zLW (hx:a.eval x=.int k p) (hy:a.eval y=.int k q) (hk:K (a.put dst (.bool (decide (p < q)))) w):(Oper.mk dst (.binOp .lss t x y t') ty pos after guard).wp P a w K Q:=
 gX hx hy (fun _ h=>by simpa [binOp,Op.intCmp] using h.symm) (by simp [binOp,Op.intCmp]) hk
theorem zPk (hx:a.eval x=.int k p) (hy:a.eval y=.int k q) (hk:K (a.put dst (.bool (decide (p≤q)))) w):(Oper.mk dst (.binOp .leq t x y t') ty pos after guard).wp P a w K Q:=
 gX hx hy (fun _ h=>by simpa [binOp,Op.intCmp] using h.symm) (by simp [binOp,Op.intCmp]) hk
theorem zPl (hx:a.eval x=.int k p) (hy:a.eval y=.int k q) (hk:K (a.put dst (.bool (decide (q < p)))) w):(Oper.mk dst (.binOp .gtr t x y t') ty pos after guard).wp P a w K Q:=
 gX hx hy (fun _ h=>by simpa [binOp,Op.intCmp] using h.symm) (by simp [binOp,Op.intCmp]) hk
theorem zPm (hx:a.eval x=.int k p) (hy:a.eval y=.int k q) (hk:K (a.put dst (.bool (decide (q≤p)))) w):(Oper.mk dst (.binOp .geq t x y t') ty pos after guard).wp P a w K Q:=
 gX hx hy (fun _ h=>by simpa [binOp,Op.intCmp] using h.symm) (by simp [binOp,Op.intCmp]) hk
theorem zPj (hx:a.eval x=.int k p) (hy:a.eval y=.int k q) (hk:K (a.put dst (.int k (max p q))) w):(Oper.mk dst (.call ⟨.builtin .max,#[x,y],ts⟩) ty pos after guard).wp P a w K Q:=by
 refine bL ?_ hk
 have e:(if q > p then q else p)=max p q:=by split<;>omega
 simp [execOp,resolve,invoke,builtin,hx,hy,Builtin.max_,Builtin.max2,e]
theorem zPi (hx:a.eval x=.int k p) (hy:a.eval y=.int k q) (hk:K (a.put dst (.int k (min p q))) w):(Oper.mk dst (.call ⟨.builtin .min,#[x,y],ts⟩) ty pos after guard).wp P a w K Q:=by
 refine bL ?_ hk
 have e:(if q < p then q else p)=min p q:=by split<;>omega
 simp [execOp,resolve,invoke,builtin,hx,hy,Builtin.min_,Builtin.min2,e]
theorem zNi [i:TInt P t' k] {k':IntKind} {r:Int} {s:TypeId} {d:TypeDesc} (hs:P.underlying s=some d) (hx:a.eval x=.int k' p) (hr:k.wrap p=r) (hk:K (a.put dst (.int k r)) w):(Oper.mk dst (.convert s t' x) ty pos after guard).wp P a w K Q:=by
 refine bL ?_ hk
 simp [execOp,hx,convert,run_underlying hs,run_underlying i.h,Conv.intToInt,hr]
theorem zIj [i:TBool P t] {b c:Bool} (hx:a.eval x=.bool b) (hy:a.eval y=.bool c) (hk:K (a.put dst (.bool (b == c))) w):(Oper.mk dst (.binOp .eql t x y t') ty pos after guard).wp P a w K Q:=by
 refine bL ?_ hk
 have he:(eqGuard .eql t x y (.bool b) (.bool c)).run P w=.ok () w:=by unfold eqGuard;simp
 have h2:(Op.equal t (.bool b) (.bool c)).run P w=.ok (b == c) w:=by
  show (Op.equalIn (9999+1) t (.bool b) (.bool c)).run P w=_
  unfold Op.equalIn
  rw [Sem.run_bind,run_underlying i.h]
  rfl
 have h3:(binOp .eql t (.bool b) (.bool c)).run P w=.ok (.bool (b == c)) w:=by
  show (do pure (Value.bool (← Op.equal t (.bool b) (.bool c))):Sem Value).run P w=_
  rw [Sem.run_bind,h2]
  rfl
 simp only [execOp,hx,hy,Sem.run_bind,he,Result.andThen_ok,h3,Sem.run_pure]
theorem zIi [i:TBool P t] {b c:Bool} (hx:a.eval x=.bool b) (hy:a.eval y=.bool c) (hk:K (a.put dst (.bool (!(b == c)))) w):(Oper.mk dst (.binOp .neq t x y t') ty pos after guard).wp P a w K Q:=by
 refine bL ?_ hk
 have he:(eqGuard .neq t x y (.bool b) (.bool c)).run P w=.ok () w:=by unfold eqGuard;simp
 have h2:(Op.equal t (.bool b) (.bool c)).run P w=.ok (b == c) w:=by
  show (Op.equalIn (9999+1) t (.bool b) (.bool c)).run P w=_
  unfold Op.equalIn
  rw [Sem.run_bind,run_underlying i.h]
  rfl
 have h3:(binOp .neq t (.bool b) (.bool c)).run P w=.ok (.bool (!(b == c))) w:=by
  show (do pure (Value.bool (!(← Op.equal t (.bool b) (.bool c)))):Sem Value).run P w=_
  rw [Sem.run_bind,h2]
  rfl
 simp only [execOp,hx,hy,Sem.run_bind,he,Result.andThen_ok,h3,Sem.run_pure]
end
/-! texts -/
section
variable {x y:Operand} {t t':TypeId} {s u:List UInt8}
theorem mM {op:BinOp} {v:Value} (hx:a.eval x=.string ⟨s.toArray⟩) (hy:a.eval y=.string ⟨u.toArray⟩) (hr:(binOp op t (.string ⟨s.toArray⟩) (.string ⟨u.toArray⟩)).run P w=.ok v w)
  (hk:K (a.put dst v) w):(Oper.mk dst (.binOp op t x y t') ty pos after guard).wp P a w K Q:=by
 refine bL ?_ hk
 have he:(eqGuard op t x y (.string ⟨s.toArray⟩) (.string ⟨u.toArray⟩)).run P w=.ok () w:=by
  unfold eqGuard
  cases op<;>simp
 simp only [execOp,hx,hy,Sem.run_bind,he,Result.andThen_ok,hr,Sem.run_pure]
theorem zIh (hx:a.eval x=.string ⟨s.toArray⟩) (hy:a.eval y=.string ⟨u.toArray⟩) (hl:s.length+u.length≤9223372036854775807) (hk:K (a.put dst (.string ⟨(s++u).toArray⟩)) w):(Oper.mk dst (.binOp .add t x y t') ty pos after guard).wp P a w K Q:=by
 refine mM hx hy ?_ hk
 have e:(ByteArray.mk s.toArray++ByteArray.mk u.toArray)=ByteArray.mk (s++u).toArray:=by
  apply ByteArray.ext
  simp [ByteArray.data_append]
 have h1:(ByteArray.mk s.toArray).size=s.length:=by simp [ByteArray.size]
 have h2:(ByteArray.mk u.toArray).size=u.length:=by simp [ByteArray.size]
 have h3:¬ (((s.length+u.length:Nat):Int) > IntKind.i64.max):=by
  have:IntKind.i64.max=9223372036854775807:=by decide
  rw [this];omega
 simp only [binOp,Op.stringOp,h1,h2,if_neg h3,e,Sem.run_pure]
theorem zNh (hx:a.eval x=.string ⟨s.toArray⟩) (hy:a.eval y=.string ⟨u.toArray⟩) (hk:K (a.put dst (.bool (s == u))) w):(Oper.mk dst (.binOp .eql t x y t') ty pos after guard).wp P a w K Q:=
 mM hx hy (by simp [binOp,Op.stringOp]) hk
theorem zId (hx:a.eval x=.string ⟨s.toArray⟩) (hy:a.eval y=.string ⟨u.toArray⟩) (hk:K (a.put dst (.bool (!(s == u)))) w):(Oper.mk dst (.binOp .neq t x y t') ty pos after guard).wp P a w K Q:=
 mM hx hy (by simp [binOp,Op.stringOp]) hk
theorem zNd (hx:a.eval x=.string ⟨s.toArray⟩) (hy:a.eval y=.string ⟨u.toArray⟩) (hk:K (a.put dst (.bool (Op.bytesLess s u))) w):(Oper.mk dst (.binOp .lss t x y t') ty pos after guard).wp P a w K Q:=
 mM hx hy (by simp [binOp,Op.stringOp]) hk
theorem zNe (hx:a.eval x=.string ⟨s.toArray⟩) (hy:a.eval y=.string ⟨u.toArray⟩) (hk:K (a.put dst (.bool (Op.bytesLess s u || s == u))) w):(Oper.mk dst (.binOp .leq t x y t') ty pos after guard).wp P a w K Q:=
 mM hx hy (by simp [binOp,Op.stringOp]) hk
theorem zGF [i:TStr P t] (hx:a.eval x=.string ⟨s.toArray⟩) (hk:K (a.put dst (.int .i64 s.length)) w):(Oper.mk dst (.call ⟨.builtin .len,#[x],#[t]⟩) ty pos after guard).wp P a w K Q:=by
 refine bL ?_ hk
 have hz:(ByteArray.mk s.toArray).size=s.length:=by simp [ByteArray.size]
 simp [execOp,resolve,invoke,builtin,hx,run_len_string w t ty _ i.h,goInt,hz]
theorem zCC [i:TStr P t] {k:IntKind} {n:Int} (hx:a.eval x=.string ⟨s.toArray⟩) (hy:a.eval y=.int k n) (h0:0≤n) (h1:n < s.length) (hk:K (a.put dst (.int .u8 (s.getD n.toNat 0).toNat)) w):(Oper.mk dst (.index t x y) ty pos after guard).wp P a w K Q:=by
 refine bL ?_ hk
 have hlt:n.toNat < s.length:=by omega
 have hz:(ByteArray.mk s.toArray).size=s.length:=by simp [ByteArray.size]
 have hz':n.toNat < (ByteArray.mk s.toArray).size:=by rw [hz];exact hlt
 have e:(ByteArray.mk s.toArray)[n.toNat]?=some (s.getD n.toNat 0):=by
  rw [ByteArray.getElem?_lt' _ _ hz']
  simp [List.getD_eq_getElem?_getD,hlt]
  rfl
 simp [execOp,hx,hy,Instr.index,asIntOf,run_underlying i.h,h0,e]
theorem zCA [i:TStr P t] {lo hi:Option Operand} {l h:Nat} (hx:a.eval x=.string ⟨s.toArray⟩)
  (hl:match lo with|none=>l=0|some o=>∃ k:IntKind,a.eval o=.int k (l:Int)) (hh:match hi with|none=>h=s.length|some o=>∃ k:IntKind,a.eval o=.int k (h:Int)) (h1:l≤h) (h2:h≤s.length)
  (hk:K (a.put dst (.string ⟨((s.take h).drop l).toArray⟩)) w):(Oper.mk dst (.slice t x lo hi none) ty pos after guard).wp P a w K Q:=by
 refine bL ?_ hk
 have hz:(ByteArray.mk s.toArray).size=s.length:=by simp [ByteArray.size]
 have e:(ByteArray.mk s.toArray).extract l h=ByteArray.mk ((s.take h).drop l).toArray:=by
  rw [ByteArray.extract_mk,List.drop_take]
 cases lo with
 |none=>
  simp only at hl
  subst hl
  cases hi with
  |none=>
   simp only at hh
   subst hh
   simp [execOp,hx,Instr.sliceAt,Instr.slice,Instr.sliceBounds,run_underlying i.h,hz,e]
  |some o=>
   obtain ⟨k,hk'⟩:=hh
   have hb:(0:Int)≤h∧(h:Int)≤s.length:=by omega
   simp [execOp,hx,Instr.sliceAt,Instr.slice,Instr.sliceBounds,Instr.sliceBound,asIntOf,run_underlying i.h,hz,e,hk',h2]
 |some o=>
  obtain ⟨k,hk'⟩:=hl
  cases hi with
  |none=>
   simp only at hh
   subst hh
   simp [execOp,hx,Instr.sliceAt,Instr.slice,Instr.sliceBounds,Instr.sliceBound,asIntOf,run_underlying i.h,hz,e,hk',h1]
  |some o'=>
   obtain ⟨k',hk''⟩:=hh
   simp [execOp,hx,Instr.sliceAt,Instr.slice,Instr.sliceBounds,Instr.sliceBound,asIntOf,run_underlying i.h,hz,e,hk',hk'',h1,h2]
end
/-! parts of aggregates -/
theorem zIg {x:Operand} {t:TypeId} {i off:Nat} [f:TFld P t i off n false] {cs:List Value} {v:Value} (hx:a.eval x=.agg cs.toArray) (hv:cs[off]?=some v) (hk:K (a.put dst v) w):(Oper.mk dst (.field t x i) ty pos after guard).wp P a w K Q:=by
 obtain ⟨fs,f,d,h1,h2,h3,h4,h5,h6⟩:=f.h
 refine bL ?_ hk
 simp [execOp,hx,Instr.field,run_underlying h1,h2,asAgg,part,cL h4,h5,h3,hv]
theorem zIf {x:Operand} {t:TypeId} {i off:Nat} [f:TFld P t i off n true] {cs:List Value} (hx:a.eval x=.agg cs.toArray) (hk:K (a.put dst (.agg ((cs.drop off).take (n+1)).toArray)) w):(Oper.mk dst (.field t x i) ty pos after guard).wp P a w K Q:=by
 obtain ⟨fs,f,d,h1,h2,h3,h4,h5,h6⟩:=f.h
 refine bL ?_ hk
 have e:cs.toArray.extract off (off+(n+1))=((cs.drop off).take (n+1)).toArray:=by simp [List.drop_take]
 simp only [execOp,hx,Instr.field,run_underlying h1,h2,asAgg,part,cL h4,h5,h3,dD h6,Sem.run_bind,Sem.run_pure,Result.andThen_ok,if_true,e]
theorem bP {x:Operand} {t:TypeId} {i off:Nat} {ag:Bool} [f:TFld P t i off n ag] {b p:Nat} (hx:a.eval x=.pointer (some ⟨b,p,none⟩)) (hk:K (a.put dst (.pointer (some ⟨b,p+off,none⟩))) w):(Oper.mk dst (.fieldAddr t x i) ty pos after guard).wp P a w K Q:=by
 obtain ⟨fs,f,d,h1,h2,h3,h4,h5,h6⟩:=f.h
 refine bL ?_ hk
 have e:(⟨b,p,none⟩:Addr).add off=⟨b,p+off,none⟩:=by unfold Addr.add;split<;>simp_all
 simp [execOp,hx,Instr.fieldAt,run_underlying h1,h2,Instr.sureAddr,fieldPlace,dD h6,h3,e]
/-! memory -/
theorem fB {x:Operand} {t:TypeId} [i:TOne P t] {p:Addr} {v:Value} (hx:a.eval x=.pointer (some p)) (hc:w.cell? p=some v) (hk:K (a.put dst v) w):(Oper.mk dst (.load t x) ty pos after guard).wp P a w K Q:=by
 obtain ⟨d,h1,h2⟩:=i.h
 refine bL ?_ hk
 simp [execOp,hx,Instr.loadAt,Instr.sureAddr,loadVar,cL h1,h2,hc]
theorem sI {x:Operand} {t:Nat} [i:TRow P t n] {b p:Nat} {cs:List Value} (hx:a.eval x=.pointer (some ⟨b,p,none⟩)) (hc:RowAt w b p cs) (hn:cs.length=n) (hk:K (a.put dst (.agg cs.toArray)) w):(Oper.mk dst (.load t x) ty pos after guard).wp P a w K Q:=by
 obtain ⟨d,h1,h2⟩:=i.h
 refine zEg t x b p cs d rfl hx hc h1 (by cases d<;>simp_all [gE]) (by rw [i.sz,hn]) hk
theorem nU {x y:Operand} {t e:Nat} [i:TSlice P t e] [z:TSize P e n] {b p l c:Nat} {k:IntKind} {j:Int} (hx:a.eval x=.slice (some ⟨b,p,none⟩) l c) (hy:a.eval y=.int k j) (h0:0≤j) (h1:j < l)
  (hk:K (a.put dst (.pointer (some ⟨b,p+j.toNat * n,none⟩))) w):(Oper.mk dst (.indexAddr t x y) ty pos after guard).wp P a w K Q:=by
 refine bL ?_ hk
 have e:(⟨b,p,none⟩:Addr).add (j.toNat * n)=⟨b,p+j.toNat * n,none⟩:=by unfold Addr.add;split<;>simp_all
 simp [execOp,hx,hy,Instr.indexAt,asIntOf,run_underlying i.h,h0,h1,dD z.sz,e]
theorem zBG {x y:Operand} {t:Nat} [i:TArr P t n] {b p:Nat} {k:IntKind} {j:Int} (hx:a.eval x=.pointer (some ⟨b,p,none⟩)) (hy:a.eval y=.int k j) (h0:0≤j) (h1:j < n)
  (hk:K (a.put dst (.pointer (some ⟨b,p+j.toNat,none⟩))) w):(Oper.mk dst (.indexAddr t x y) ty pos after guard).wp P a w K Q:=by
 obtain ⟨e,h2,h3,h4⟩:=i.h
 refine bL ?_ hk
 have e:(⟨b,p,none⟩:Addr).add j.toNat=⟨b,p+j.toNat,none⟩:=by unfold Addr.add;split<;>simp_all
 simp [execOp,hx,hy,Instr.indexAt,asIntOf,run_underlying h2,h0,h1,dD h4,e,Instr.sureAddr,asAddr]
theorem zIe {x y:Operand} {t:Nat} [i:TArr P t n] {cs:Array Value} {k:IntKind} {j:Int} {v:Value} (hx:a.eval x=.agg cs) (hy:a.eval y=.int k j) (h0:0≤j) (h1:j < n) (hv:cs[j.toNat]?=some v)
  (hk:K (a.put dst v) w):(Oper.mk dst (.index t x y) ty pos after guard).wp P a w K Q:=by
 obtain ⟨e,h2,h3,h4⟩:=i.h
 refine bL ?_ hk
 have hp:(part e cs j.toNat).run P w=.ok v w:=by unfold part;rw [Sem.run_bind,cL h3];simp [gE,hv]
 simp [execOp,hx,hy,Instr.index,asIntOf,run_underlying h2,h0,h1,dD h4,hp]
theorem nT {x:Operand} {t e:Nat} [i:TSlice P t e] {A:Option Addr} {l c:Nat} (hx:a.eval x=.slice A l c) (hk:K (a.put dst (.int .i64 l)) w):(Oper.mk dst (.call ⟨.builtin .len,#[x],#[t]⟩) ty pos after guard).wp P a w K Q:=by
 refine bL ?_ hk
 simp [execOp,resolve,invoke,builtin,hx,Builtin.len_,run_underlying i.h,goInt]
theorem zCE {x:Operand} {t:TypeId} {v:Value} (hx:a.eval x=v) (hk:∀ g w',Blk w' g t v.cells→Ext w w'→g=w.heap.size→K (a.put dst (.pointer (some ⟨g,0,none⟩))) w'):(Oper.mk dst (.box t x) ty pos after guard).wp P a w K Q:=by
 have h:=hk w.heap.size (w.alloc (.cells v.cells t)) (Blk.new _ _ _) (Ext.alloc _ _) rfl
 unfold Oper.wp
 have e:(execOp a.eval (Oper.mk dst (.box t x) ty pos after guard)).run P w=.ok (.value (.pointer (some ⟨w.heap.size,0,none⟩))) (w.alloc (.cells v.cells t)):=by
  simp [execOp,hx,Instr.box,newVar,newRow]
 rw [e]
 exact h
theorem wQ {t:TypeId} {cs:List Value} [i:TZer P t cs] (hk:∀ g w',Blk w' g t cs.toArray→Ext w w'→g=w.heap.size→K (a.put dst (.pointer (some ⟨g,0,none⟩))) w'):(Oper.mk dst (.alloc t) ty pos after guard).wp P a w K Q:=by
 have h:=hk w.heap.size (w.alloc (.cells cs.toArray t)) (Blk.new _ _ _) (Ext.alloc _ _) rfl
 have hz:=i.h
 unfold Oper.wp
 have e:(execOp a.eval (Oper.mk dst (.alloc t) ty pos after guard)).run P w=.ok (.value (.pointer (some ⟨w.heap.size,0,none⟩))) (w.alloc (.cells cs.toArray t)):=by
  cases hi:P.info? t with
  |none=>simp [hi] at hz
  |some inf=>
   cases hzz:inf.zero with
   |none=>simp [hi,hzz] at hz
   |some z=>
    have hzc:z.cells.toList=cs:=by simpa [hi,hzz] using hz
    have hzc':z.cells=cs.toArray:=by rw [← hzc]
    simp [execOp,Instr.alloc,zeroValue,typeInfo,hi,hzz,newVar,newRow,hzc']
 rw [e]
 exact h
/-! calls -/
theorem zBH {f:FuncId} [e:Enters P f] {xs:Array Operand} {args:Array Value} {R:Ending→World→Prop} (hc:Calls P f args w R) (hx:xs.map a.eval=args)
  (hk:∀ e w',R e w'→match e with | .returned v=>K (a.put dst v) w' | .panicked ch=>Q (.panic ch) a w' | .outgrown=>LetsOut Q):(Oper.mk dst (.call ⟨.value (.func f),xs,ts⟩) ty pos after guard).wp P a w K Q:=by
 subst hx
 have e:(execOp a.eval (Oper.mk dst (.call ⟨.value (.func f),xs,ts⟩) ty pos after guard)).run P w=.ok (.enter f (xs.map a.eval)) w:=by
  simp [execOp,resolve,Act.eval,Deferred.ofValue,invoke,sE]
 unfold Oper.wp
 rw [e]
 refine Calls.mono hc fun en w' hr => ?_
 have:=hk en w' hr
 cases en<;>exact this
theorem wP {f:FuncId} [e:Enters P f] {xl:List Operand} {al:List Value} (hx:xl.map a.eval=al)
  (hc:Calls P f al.toArray w (fun e w'=>match e with | .returned v=>K (a.put dst v) w' | .panicked ch=>Q (.panic ch) a w' | .outgrown=>LetsOut Q)):(Oper.mk dst (.call ⟨.value (.func f),xl.toArray,ts⟩) ty pos after guard).wp P a w K Q:=
 zBH hc (by rw [← hx];simp) fun e w' h=>by cases e<;>exact h
theorem zNj {x:Operand} {t:TypeId} {cs:List Value} (hx:a.eval x=.agg cs.toArray) (hk:∀ g w',Blk w' g t cs.toArray→Ext w w'→g=w.heap.size→K (a.put dst (.pointer (some ⟨g,0,none⟩))) w'):(Oper.mk dst (.box t x) ty pos after guard).wp P a w K Q:=
 zCE hx hk
end
section
variable {P:Program} {Q:Exit→Act→World→Prop} {K:Act→World→Prop} {a:Act} {w:World}
theorem aQ {id:Nat} {d:Bool} (h:False):(Code.region id ops d).wp P Q a w:=h.elim
theorem dS {l:List Oper} (h:False):wpList P ops Q l a w:=h.elim
theorem fM {w0:World} {l:List Oper} {ss:List Spec} {fs:List (World→Prop)} (h:False):cF P ops Q w0 l ss fs a:=h.elim
theorem zLo {o:Oper} (h:False):o.wp P a w K Q:=h.elim
theorem dR {c:Code} (h:False):(Code.loop c).wp P Q a w:=h.elim
theorem zNW (l:List Value) (d:List Deferred) (t:Nat):(Act.mk l.toArray d).eval (.tmp t)=l.getD t undef:=by simp [Act.eval]
theorem zKp (a:Act) (v:Value):a.eval (.const v)=v:=rfl
theorem zLM (a:Act) (g:Nat):a.eval (.global g)=.pointer (some ⟨g,0,none⟩):=rfl
theorem zPG (a:Act) (f:Nat):a.eval (.func f)=.func (.func f) #[] #[]:=rfl
theorem zKE {w w':World} {b j:Nat} {t:TypeId} {cs:List Value} {v:Value} (h:Blk w b t cs.toArray) (hx:Ext w w') (hv:cs[j]?=some v):w'.cell? ⟨b,j,none⟩=some v:=by
 rw [(h.ext hx).cell j];simpa using hv
theorem zHA {w w':World} {b j:Nat} {cs:List Value} {v:Value} (h:RowAt w b 0 cs) (hx:Ext w w') (hv:cs[j]?=some v):w'.cell? ⟨b,j,none⟩=some v:=by
 have:=(h.ext hx) j v hv;rwa [Nat.zero_add] at this
theorem zKD {w w':World} {b p j:Nat} {cs:List Value} {v:Value} (h:RowAt w b p cs) (hx:Ext w w') (hv:cs[j]?=some v):w'.cell? ⟨b,p+j,none⟩=some v:=(h.ext hx) j v hv
theorem zHz {w w':World} {b p:Nat} {cs:List Value} {v:Value} (h:RowAt w b p cs) (hx:Ext w w') (hv:cs[0]?=some v):w'.cell? ⟨b,p,none⟩=some v:=(h.ext hx) 0 v hv
theorem zKY {w w':World} {b:Nat} {t:TypeId} {cs:List Value} (h:Blk w b t cs.toArray) (hx:Ext w w'):RowAt w' b 0 cs:=fun j u hu=>by
 rw [Nat.zero_add,(h.ext hx).cell j];simpa using hu
end
/-! ### The same under short names: rewriting of frames, and the chain of worlds -/
theorem SS:(∀ (l:List Value) (ds:List Deferred) (d:Nat) (v:Value),(Act.mk l.toArray ds).put (some d) v=Act.mk (l.set d v).toArray ds)∧(∀ (a:Act) (v:Value),a.put none v=a)∧(∀ (v x:Value) (l:List Value),(x::l).set 0 v=v::l)∧(∀ (v x:Value) (l:List Value) (n:Nat),(x::l).set (n+1) v=x::l.set n v)∧
  (∀ n:Nat,0+n=n)∧(∀ n:Nat,n+0=n)∧(∀ n:Nat,(n:Int).toNat=n)∧(∀ n:Nat,n * 1=n)∧((0:Int).toNat=0)∧(∀ n:Nat,0 * n=0)∧(∀ l:List Value,l.drop 0=l)∧(∀ (x:Value) (l:List Value) (n:Nat),(x::l).drop (n+1)=l.drop n)∧(∀ (x:Value) (l:List Value) (n:Nat),(x::l).take (n+1)=x::l.take n)∧(∀ l:List Value,l.take 0 = []):=by
 refine ⟨fun l ds d v=>by simp [Act.put],fun _ _=>rfl,fun _ _ _=>rfl,fun _ _ _ _=>rfl,Nat.zero_add,Nat.add_zero,fun _=>rfl,Nat.mul_one,rfl,Nat.zero_mul,fun _=>rfl,fun _ _ _=>rfl,fun _ _ _=>rfl,fun l=>by simp⟩
theorem EE:(∀ (l:List Value) (d:List Deferred) (t:Nat),(Act.mk l.toArray d).eval (.tmp t)=l.getD t undef)∧(∀ (a:Act) (v:Value),a.eval (.const v)=v)∧(∀ (a:Act) (g:Nat),a.eval (.global g)=.pointer (some ⟨g,0,none⟩))∧(∀ (a:Act) (f:Nat),a.eval (.func f)=.func (.func f) #[] #[])∧
  (∀ (f:Operand→Value),[].map f = [])∧(∀ (f:Operand→Value) (x:Operand) (l:List Operand),(x::l).map f=f x::l.map f)∧(∀ (f:Nat × Operand→Nat × Value),[].map f = [])∧(∀ (f:Nat × Operand→Nat × Value) (x:Nat × Operand) (l:List (Nat × Operand)),(x::l).map f=f x::l.map f)∧
  (∀ (x:Value) (l:List Value) (d:Value),(x::l).getD 0 d=x)∧(∀ (x:Value) (l:List Value) (d:Value) (n:Nat),(x::l).getD (n+1) d=l.getD n d):=
 ⟨zNW,zKp,zLM,zPG,fun _=>rfl,fun _ _ _=>rfl,fun _=>rfl,fun _ _ _=>rfl,fun _ _ _=>rfl,fun _ _ _ _=>rfl⟩
theorem jF {p:Prop} (h:p:=by first|(simp only [EE];done)|(simp only [EE];exact rfl)|exact rfl):p:=h
theorem bff {x:Bool} (h:x=false) (k:x=true):False:=by rw [h] at k;cases k
theorem bft {x:Bool} (h:x=true) (k:x=false):False:=by rw [h] at k;cases k
theorem spE {p:Prop} (h:p:=by first|contradiction|exact (bff hb (by assumption)).elim|exact (bft hb (by assumption)).elim|(exfalso;omega)):p:=h
theorem xt {a b c:World} (h:Ext a b) (k:Ext b c):Ext a c:=h.trans k
section
variable {w w':World} {b p j:Nat} {t:TypeId} {cs:List Value} {v:Value}
theorem cb (h:Blk w b t cs.toArray) (hx:Ext w w') (hv:cs[j]?=some v):w'.cell? ⟨b,j,none⟩=some v:=zKE h hx hv
theorem c0 (h:RowAt w b 0 cs) (hx:Ext w w') (hv:cs[j]?=some v):w'.cell? ⟨b,j,none⟩=some v:=zHA h hx hv
theorem cr (h:RowAt w b p cs) (hx:Ext w w') (hv:cs[j]?=some v):w'.cell? ⟨b,p+j,none⟩=some v:=zKD h hx hv
theorem cp (h:RowAt w b p cs) (hx:Ext w w') (hv:cs[0]?=some v):w'.cell? ⟨b,p,none⟩=some v:=zHz h hx hv
theorem cx {q:Addr} (h:w.cell? q=some v) (hx:Ext w w'):w'.cell? q=some v:=hx.cell h
theorem rb (h:Blk w b t cs.toArray) (hx:Ext w w'):RowAt w' b 0 cs:=zKY h hx
end
end Go.Proofs.YtnjgoldinaffgaaGreatDoor
namespace Go.Proofs.YtnjgoldinaffgaaGreatDoor
set_option linter.unusedSimpArgs false
set_option linter.unusedVariables false
open Go.RowKit
variable {s u:List UInt8} {t t':TypeId} {ts:Array TypeId} {x y:Operand} {xl:List Operand}
section
variable {P:Program} {Q:Exit→Act→World→Prop} {a:Act} {w:World} {dst:Option Tmp} {ty:TypeId} {pos:String} {after:Array Edge} {ops:Array Oper} {rest:List Oper} {ss:List Spec} {fs:List (World→Prop)}
theorem bT {v:Value} (hx:a.eval x=v) (hr:wpList P ops Q rest (a.put dst v) w):wpList P ops Q (Oper.mk dst (.move x) ty pos after none::rest) a w:=by
 refine wpList_plain rfl fun K hK => ?_
 apply jK<;>first|assumption|exact hK _ _ hr
theorem zIt {v:Value} (hx:a.eval x=v) (hr:cF P ops Q w rest ss (fs ++ [fun _=>True]) (a.put dst v)):cF P ops Q w (Oper.mk dst (.move x) ty pos after none::rest) (Spec.det v::ss) fs a:=by
 refine sN rfl (fun w1 hw1 K hK => ?_) hr
 apply jK<;>first|assumption|exact hK _ (Ext.refl _)|exact Ext.cell hw1 (by assumption)|exact RowAt.ext (by assumption) hw1
theorem dA {v:Value} (hx:a.eval x=v) (hr:wpList P ops Q rest (a.put dst v) w):wpList P ops Q (Oper.mk dst (.assign x) ty pos after none::rest) a w:=by
 refine wpList_plain rfl fun K hK => ?_
 apply jZ<;>first|assumption|exact hK _ _ hr
theorem pV {i:Nat} {vs:List Value} {v:Value} (hx:a.eval x=.tuple vs.toArray) (hv:vs[i]?=some v) (hr:wpList P ops Q rest (a.put dst v) w):wpList P ops Q (Oper.mk dst (.extract x i) ty pos after none::rest) a w:=by
 refine wpList_plain rfl fun K hK => ?_
 apply zAY<;>first|assumption|exact hK _ _ hr
theorem yM {k:IntKind} {p q:Int} {r:Int} (hx:a.eval x=.int k p) (hy:a.eval y=.int k q) (hr:k.wrap (p+q)=r) (hr:wpList P ops Q rest (a.put dst (.int k r)) w):wpList P ops Q (Oper.mk dst (.binOp .add t x y t') ty pos after none::rest) a w:=by
 refine wpList_plain rfl fun K hK => ?_
 apply zLX<;>first|assumption|exact hK _ _ hr
theorem zDn {k:IntKind} {p q:Int} (hx:a.eval x=.int k p) (hy:a.eval y=.int k q) (hr:wpList P ops Q rest (a.put dst (.bool (decide (p < q)))) w):wpList P ops Q (Oper.mk dst (.binOp .lss t x y t') ty pos after none::rest) a w:=by
 refine wpList_plain rfl fun K hK => ?_
 apply zLW<;>first|assumption|exact hK _ _ hr
theorem zL4 (hx:a.eval x=.string ⟨s.toArray⟩) (hy:a.eval y=.string ⟨u.toArray⟩) (hl:s.length+u.length≤9223372036854775807) (hr:wpList P ops Q rest (a.put dst (.string ⟨(s++u).toArray⟩)) w):wpList P ops Q (Oper.mk dst (.binOp .add t x y t') ty pos after none::rest) a w:=by
 refine wpList_plain rfl fun K hK => ?_
 apply zIh<;>first|assumption|exact hK _ _ hr
theorem zCO (hx:a.eval x=.string ⟨s.toArray⟩) (hy:a.eval y=.string ⟨u.toArray⟩) (hl:s.length+u.length≤9223372036854775807) (hr:cF P ops Q w rest ss (fs ++ [fun _=>True]) (a.put dst (.string ⟨(s++u).toArray⟩))):cF P ops Q w (Oper.mk dst (.binOp .add t x y t') ty pos after none::rest) (Spec.det (.string ⟨(s++u).toArray⟩)::ss) fs a:=by
 refine sN rfl (fun w1 hw1 K hK => ?_) hr
 apply zIh<;>first|assumption|exact hK _ (Ext.refl _)|exact Ext.cell hw1 (by assumption)|exact RowAt.ext (by assumption) hw1
theorem zNQ (hx:a.eval x=.string ⟨s.toArray⟩) (hy:a.eval y=.string ⟨u.toArray⟩) (hr:wpList P ops Q rest (a.put dst (.bool (!(s == u)))) w):wpList P ops Q (Oper.mk dst (.binOp .neq t x y t') ty pos after none::rest) a w:=by
 refine wpList_plain rfl fun K hK => ?_
 apply zId<;>first|assumption|exact hK _ _ hr
theorem cP {i off n:Nat} {ag:Bool} [f:TFld P t i off n ag] {b p:Nat} (hx:a.eval x=.pointer (some ⟨b,p,none⟩)) (hr:wpList P ops Q rest (a.put dst (.pointer (some ⟨b,p+off,none⟩))) w):wpList P ops Q (Oper.mk dst (.fieldAddr t x i) ty pos after none::rest) a w:=by
 refine wpList_plain rfl fun K hK => ?_
 apply bP<;>first|assumption|exact hK _ _ hr
theorem nW {i off n:Nat} {ag:Bool} [f:TFld P t i off n ag] {b p:Nat} (hx:a.eval x=.pointer (some ⟨b,p,none⟩)) (hr:cF P ops Q w rest ss (fs ++ [fun _=>True]) (a.put dst (.pointer (some ⟨b,p+off,none⟩)))):cF P ops Q w (Oper.mk dst (.fieldAddr t x i) ty pos after none::rest) (Spec.det (.pointer (some ⟨b,p+off,none⟩))::ss) fs a:=by
 refine sN rfl (fun w1 hw1 K hK => ?_) hr
 apply bP<;>first|assumption|exact hK _ (Ext.refl _)|exact Ext.cell hw1 (by assumption)|exact RowAt.ext (by assumption) hw1
theorem gC [i:TOne P t] {p:Addr} {v:Value} (hx:a.eval x=.pointer (some p)) (hc:w.cell? p=some v) (hr:wpList P ops Q rest (a.put dst v) w):wpList P ops Q (Oper.mk dst (.load t x) ty pos after none::rest) a w:=by
 refine wpList_plain rfl fun K hK => ?_
 apply fB<;>first|assumption|exact hK _ _ hr
theorem zBL [i:TOne P t] {p:Addr} {v:Value} (hx:a.eval x=.pointer (some p)) (hc:w.cell? p=some v) (hr:cF P ops Q w rest ss (fs ++ [fun _=>True]) (a.put dst v)):cF P ops Q w (Oper.mk dst (.load t x) ty pos after none::rest) (Spec.det v::ss) fs a:=by
 refine sN rfl (fun w1 hw1 K hK => ?_) hr
 apply fB<;>first|assumption|exact hK _ (Ext.refl _)|exact Ext.cell hw1 (by assumption)|exact RowAt.ext (by assumption) hw1
theorem mY {t n:Nat} [i:TRow P t n] {b p:Nat} {cs:List Value} (hx:a.eval x=.pointer (some ⟨b,p,none⟩)) (hc:RowAt w b p cs) (hn:cs.length=n) (hr:wpList P ops Q rest (a.put dst (.agg cs.toArray)) w):wpList P ops Q (Oper.mk dst (.load t x) ty pos after none::rest) a w:=by
 refine wpList_plain rfl fun K hK => ?_
 apply sI<;>first|assumption|exact hK _ _ hr
theorem iZ {t e n:Nat} [i:TSlice P t e] [z:TSize P e n] {b p l c:Nat} {k:IntKind} {j:Int} (hx:a.eval x=.slice (some ⟨b,p,none⟩) l c) (hy:a.eval y=.int k j) (h0:0≤j) (h1:j < l) (hr:wpList P ops Q rest (a.put dst (.pointer (some ⟨b,p+j.toNat * n,none⟩))) w):wpList P ops Q (Oper.mk dst (.indexAddr t x y) ty pos after none::rest) a w:=by
 refine wpList_plain rfl fun K hK => ?_
 apply nU<;>first|assumption|exact hK _ _ hr
theorem iY {t e:Nat} [i:TSlice P t e] {A:Option Addr} {l c:Nat} (hx:a.eval x=.slice A l c) (hr:wpList P ops Q rest (a.put dst (.int .i64 l)) w):wpList P ops Q (Oper.mk dst (.call ⟨.builtin .len,#[x],#[t]⟩) ty pos after none::rest) a w:=by
 refine wpList_plain rfl fun K hK => ?_
 apply nT<;>first|assumption|exact hK _ _ hr
theorem zIY {cs:List Value} (hx:a.eval x=.agg cs.toArray) (hr:∀ g w',Blk w' g t cs.toArray→Ext w w'→g=w.heap.size→wpList P ops Q rest (a.put dst (.pointer (some ⟨g,0,none⟩))) w'):wpList P ops Q (Oper.mk dst (.box t x) ty pos after none::rest) a w:=
 wpList_plain rfl fun _ hK=>zNj hx fun g w' h2 h3 h4=>hK _ _ (hr g w' h2 h3 h4)
theorem pW {f:FuncId} [e:Enters P f] {al:List Value} (hx:xl.map a.eval=al)
  (hc:Calls P f al.toArray w (fun e w'=>match e with | .returned v=>wpList P ops Q rest (a.put dst v) w' | .panicked ch=>Q (.panic ch) a w' | .outgrown=>LetsOut Q)):wpList P ops Q (Oper.mk dst (.call ⟨.value (.func f),xl.toArray,ts⟩) ty pos after none::rest) a w:=
 wpList_plain rfl fun K hK=>wP hx (hc.mono fun e w' h=>by cases e<;>first|exact hK _ _ h|exact h)
theorem zFF {f:FuncId} [e:Enters P f] {al:List Value} {v:Value} (hx:xl.map a.eval=al)
  (hc:∀ w1,Ext w w1→Calls P f al.toArray w1 (fun e w'=>e=.returned v∧Ext w1 w')) (hr:cF P ops Q w rest ss (fs ++ [fun _=>True]) (a.put dst v)):cF P ops Q w (Oper.mk dst (.call ⟨.value (.func f),xl.toArray,ts⟩) ty pos after none::rest) (Spec.det v::ss) fs a:=
 sN rfl (fun w1 hw1 K hK=>wP hx ((hc w1 hw1).mono fun e w' h=>by obtain ⟨rfl,h2⟩:=h;exact hK _ h2)) hr
end
end Go.Proofs.YtnjgoldinaffgaaGreatDoor
namespace Go.Proofs.YtnjgoldinaffgaaGreatDoor
set_option linter.unusedSimpArgs false
set_option linter.unusedVariables false
open Go.RowKit
variable {rows:List (List Value)} {vals zc:List Value} {xs:List Operand}
theorem vS {off:Nat}:∀ (l:List Value) (k:Nat) (arr:Array Value),off+k+l.length≤arr.size→∀ i,((l.zipIdx k).foldl (fun cs (x:Value × Nat)=>cs.setIfInBounds (off+x.2) x.1) arr)[i]? =
  if off+k≤i∧i < off+k+l.length then l[i - (off+k)]? else arr[i]?
 |[],k,arr,h,i=>by
  simp only [List.zipIdx_nil,List.foldl_nil,List.length_nil,Nat.add_zero]
  rw [if_neg (by omega)]
 |c::l,k,arr,h,i=>by
  simp only [List.length_cons] at h
  simp only [List.zipIdx_cons,List.foldl_cons]
  rw [vS l (k+1) _ (by simp;omega) i]
  simp only [List.length_cons]
  by_cases h1:i=off+k
  ·subst h1
   rw [if_neg (by omega),if_pos (by omega)]
   rw [Array.getElem?_setIfInBounds]
   simp
   omega
  ·by_cases h2:off+k≤i∧i < off+k+(l.length+1)
   ·rw [if_pos (by omega),if_pos h2]
    have e:i - (off+k)=(i - (off+(k+1)))+1:=by omega
    rw [e,List.getElem?_cons_succ]
   ·rw [if_neg (by omega),if_neg h2,Array.getElem?_setIfInBounds_ne (by omega)]
theorem zF3 {off:Nat} (l:List Value) (arr:Array Value) (h:off+l.length≤arr.size):
  (l.toArray.zipIdx.foldl (fun cs (x:Value × Nat)=>cs.setIfInBounds (off+x.2) x.1) arr)=(arr.toList.take off++l++arr.toList.drop (off+l.length)).toArray:=by
 have h0:(l.toArray.zipIdx.foldl (fun cs (x:Value × Nat)=>cs.setIfInBounds (off+x.2) x.1) arr)=(l.zipIdx 0).foldl (fun cs (x:Value × Nat)=>cs.setIfInBounds (off+x.2) x.1) arr:=by
  rw [← Array.foldl_toList];simp
 rw [h0]
 apply Array.ext_getElem?
 intro i
 rw [vS l 0 arr (by omega) i]
 simp only [Nat.add_zero,List.getElem?_toArray]
 by_cases h2:off≤i∧i < off+l.length
 ·rw [if_pos h2,List.append_assoc,List.getElem?_append_right (by simp;omega),List.getElem?_append_left (by simp;omega)]
  congr 1
  simp
  omega
 ·rw [if_neg h2]
  by_cases h3:i < off
  ·rw [List.append_assoc,List.getElem?_append_left (by simp;omega),List.getElem?_take,if_pos h3];simp
  ·rw [List.getElem?_append_right (by simp;omega),List.getElem?_drop]
   simp
   congr 1
   omega
theorem zBl {size:Nat}:∀ (vals:List Value) (k:Nat) (cells:Array Value),(∀ v ∈ vals,v.cells.size=size)→cells.size=(k+vals.length) * size→
  Instr.fill (fun i=>some (i * size,size)) cells (vals.zipIdx k |>.map fun x=>(x.2,x.1))=some (cells.toList.take (k * size)++(vals.map fun v=>v.cells.toList).flatten).toArray
 |[],k,cells,_,hs=>by
  simp only [List.zipIdx_nil,List.map_nil,Instr.fill,List.flatten_nil,List.append_nil]
  rw [List.take_of_length_le (by simp at hs ⊢;omega)]
 |v::vals,k,cells,hv,hs=>by
  have h1:=hv v (by simp)
  simp only [List.zipIdx_cons,List.map_cons,Instr.fill]
  have h3:(k+(v::vals).length) * size=k * size+size+vals.length * size:=by
   simp only [List.length_cons,Nat.add_mul];omega
  rw [h3] at hs
  have hb:(v.cells.size ≠ size || decide (k * size+v.cells.size > cells.size))=false:=by
   simp [h1];omega
  rw [if_neg (by rw [hb];simp)]
  have hvl:v.cells.toList.length=size:=by simpa using h1
  have hfold:=zF3 (off:=k * size) v.cells.toList cells (by rw [hvl];omega)
  simp only [Array.toArray_toList] at hfold
  rw [hfold]
  rw [zBl vals (k+1) _ (fun u hu=>hv u (by simp [hu])) (by
   simp only [List.size_toArray,List.length_append,List.length_take,List.length_drop,Array.length_toList,hvl,Nat.add_mul]
   omega)]
  simp only [List.map_cons,List.flatten_cons,Option.some.injEq]
  congr 1
  have e:(k+1) * size=(cells.toList.take (k * size)++v.cells.toList).length:=by
   simp only [List.length_append,List.length_take,Array.length_toList,hvl,Nat.add_mul];omega
  rw [e,List.take_left,List.append_assoc]
section
variable {P:Program} {Q:Exit→Act→World→Prop} {K:Act→World→Prop} {a:Act} {w:World}
 {dst:Option Tmp} {ty:TypeId} {pos:String} {after:Array Edge} {guard:Option (Nat × Bool)} {ops:Array Oper} {rest:List Oper} {ss:List Spec} {fs:List (World→Prop)}
theorem sJ {t e n m:Nat} [i:TSlice P t e] [z:TSize P e n] [zz:TZer P e zc] {parts:Array (Nat × Operand)} (hp:parts=(xs.zipIdx.map fun x=>(x.2,x.1)).toArray) (hm:xs.length=m) (hx:xs.map a.eval=vals)
  (hr:(vals.map fun v=>v.cells.toList)=rows) (hn:(rows.all fun r=>r.length == n)=true) (hz:(decide (0 < n) && decide (m * n≤16777216))=true)
  (hk:∀ g w',Blk w' g e rows.flatten.toArray→Ext w w'→g=w.heap.size→K (a.put dst (.slice (some ⟨g,0,none⟩) m m)) w'):(Oper.mk dst (.buildSlice t m parts) ty pos after guard).wp P a w K Q:=by
 have h:=hk w.heap.size (w.alloc (.cells rows.flatten.toArray e)) (Blk.new _ _ _) (Ext.alloc _ _) rfl
 have hz0:=zz.h
 simp only [Bool.and_eq_true,decide_eq_true_eq] at hz
 have hvs:∀ v ∈ vals,v.cells.size=n:=by
  intro v hv
  have h1:v.cells.toList ∈ rows:=by rw [← hr];exact List.mem_map_of_mem hv
  have:=List.all_eq_true.1 hn _ h1
  simpa using this
 have hlen:vals.length=m:=by rw [← hx,List.length_map,hm]
 unfold Oper.wp
 cases hi:P.info? e with
 |none=>simp [hi] at hz0
 |some inf=>
  obtain ⟨z0,hzz⟩:∃ z0,inf.zero=some z0:=by cases hq:inf.zero with|none=>simp [hi,hq] at hz0|some z=>exact ⟨z,rfl⟩
  have hpos:0 < m * n∨m * n=0:=by omega
  have key:∀ Z:Array Value,Z.size=m * n→Instr.fill (fun i=>some (i * n,n)) Z (parts.map fun (i,x)=>(i,a.eval x)).toList=some rows.flatten.toArray:=by
   intro Z hZ
   have e1:(parts.map fun (i,x)=>(i,a.eval x)).toList=(vals.zipIdx.map fun x=>(x.2,x.1)):=by
    rw [hp,← hx]
    simp [List.zipIdx_map,List.map_map,Function.comp_def]
   rw [e1,zBl vals 0 Z hvs (by rw [hZ,hlen];simp)]
   simp [hr]
  have e:(execOp a.eval (Oper.mk dst (.buildSlice t m parts) ty pos after guard)).run P w=.ok (.value (.slice (some ⟨w.heap.size,0,none⟩) m m)) (w.alloc (.cells rows.flatten.toArray e)):=by
   simp only [execOp,Instr.buildSlice,Sem.run_bind,run_underlying i.h,Result.andThen_ok,dD z.sz]
   rw [if_neg (by omega)]
   rcases Nat.eq_zero_or_pos (m * n) with h0|h0
   ·simp only [h0,if_true,Sem.run_bind,Sem.run_pure,Result.andThen_ok]
    rw [key _ (by simp [h0])]
    simp [newRow]
   ·have hne:¬ m * n=0:=by omega
    simp only [hne,if_false,Sem.run_bind,zeroValue,typeInfo,run_program,hi,hzz,Sem.run_pure,Result.andThen_ok]
    rw [key _ (by simp)]
    simp [newRow]
  rw [e]
  exact h
theorem zBW {t e n m:Nat} [i:TSlice P t e] [z:TSize P e n] [zz:TZer P e zc] {parts:Array (Nat × Operand)} (hp:parts=(xs.zipIdx.map fun x=>(x.2,x.1)).toArray) (hm:xs.length=m) (hx:xs.map a.eval=vals)
  (hr:(vals.map fun v=>v.cells.toList)=rows) (hn:(rows.all fun r=>r.length == n)=true) (hz:(decide (0 < n) && decide (m * n≤16777216))=true)
  (hk:∀ g w',Blk w' g e rows.flatten.toArray→Ext w w'→g=w.heap.size→wpList P ops Q rest (a.put dst (.slice (some ⟨g,0,none⟩) m m)) w'):wpList P ops Q (Oper.mk dst (.buildSlice t m parts) ty pos after none::rest) a w:=
 wpList_plain rfl fun _ hK=>sJ hp hm hx hr hn hz fun g w' h2 h3 h4=>hK _ _ (hk g w' h2 h3 h4)
theorem Ext.setRow {w w':World} {g:Nat} {cs:Array Value} (h:Ext w w') (hg:w.heap.size≤g):Ext w (w'.setRow g cs):=
 Below.trans h ⟨rfl,rfl,rfl,by simp [World.setRow],fun k hk=>setRow_other w' g k cs (by omega)⟩
theorem mD {d:Nat} {t n:TypeId} [i:TZer P t zc] [r:TRow P t n] {y:Operand} {cs:List Value} {ty2:TypeId} {pos2:String} {after2:Array Edge} (hd:∀ p,(a.put (some d) p).eval (.tmp d)=p) (hy:∀ p,(a.put (some d) p).eval y=.agg cs.toArray)
  (hn:(cs.length == n && zc.length == n && cs.all (·.oneCell'))=true)
  (hk:∀ g w',Blk w' g t cs.toArray→Ext w w'→g=w.heap.size→wpList P ops Q rest ((a.put (some d) (.pointer (some ⟨g,0,none⟩))).put none undef) w'):
  wpList P ops Q (Oper.mk (some d) (.alloc t) ty pos after none::Oper.mk none (.store t (.tmp d) y) ty2 pos2 after2 none::rest) a w:=by
 simp only [Bool.and_eq_true,beq_iff_eq] at hn
 refine wpList_plain rfl fun K hK=>wQ fun g w' h2 h3 h4=>hK _ _ ?_
 refine wpList_plain rfl fun K2 hK2 => ?_
 refine wp_store_row t (.tmp d) y rfl g cs.toArray (hd _) (hy _) t zc.toArray h2 (by rw [r.sz];simp [hn.1.1]) (by simp [hn.1.1,hn.1.2]) (by simp [hn.2]) (hK2 _ _ ?_)
 exact hk g _ (setRow_heap w' g _ _ t _ h2) (Ext.setRow h3 (by omega)) h4
def tD (pl:List (Nat × Nat)):List Value→List (Nat × Value)→Option (List Value)
 |cells,[]=>some cells
 |cells,(i,v)::r=>match pl[i]? with
  |some (off,sz)=>if v.cells.toList.length=sz∧off+sz≤cells.length then tD pl (cells.take off++v.cells.toList++cells.drop (off+sz)) r else none
  |none=>none
theorem zI {pl:List (Nat × Nat)}:∀ (vals:List (Nat × Value)) (cells cs:List Value),tD pl cells vals=some cs→Instr.fill (pl.toArray[·]?) cells.toArray vals=some cs.toArray
 |[],cells,cs,h=>by simp only [tD,Option.some.injEq] at h;subst h;rfl
 |(i,v)::r,cells,cs,h=>by
  simp only [tD] at h
  cases hp:pl[i]? with
  |none=>rw [hp] at h;cases h
  |some x=>
   obtain ⟨off,sz⟩:=x
   rw [hp] at h
   simp only at h
   split at h
   ·rename_i hc
    have ih:=zI r _ cs h
    have hl:v.cells.size=sz:=by simpa using hc.1
    have hb:(v.cells.size ≠ sz || decide (off+v.cells.size > cells.toArray.size))=false:=by
     simp [hl];omega
    simp only [Instr.fill,List.getElem?_toArray,hp]
    rw [if_neg (by rw [hb];simp)]
    have hfold:=zF3 (off:=off) v.cells.toList cells.toArray (by simp [hl];omega)
    simp only [Array.toArray_toList] at hfold
    rw [hfold]
    have e:v.cells.toList.length=sz:=hc.1
    rw [e]
    simpa using ih
   ·cases h
theorem zBI {t:TypeId} {pl:List (Nat × Nat)} [s:TStruct P t pl] [zz:TZer P t zc] {parts:List (Nat × Operand)} {vals:List (Nat × Value)} {cs:List Value} (hx:(parts.map fun x=>(x.1,a.eval x.2))=vals) (hf:tD pl zc vals=some cs)
  (hk:K (a.put dst (.agg cs.toArray)) w):(Oper.mk dst (.build t parts.toArray) ty pos after guard).wp P a w K Q:=by
 have hz:=zz.h
 have key:P.built t ((parts.toArray.map fun (i,x)=>(i,a.eval x)).toList)=some cs.toArray:=by
  unfold Program.built
  cases hi:P.info? t with
  |none=>simp [hi] at hz
  |some inf=>
   cases hzz:inf.zero with
   |none=>simp [hi,hzz] at hz
   |some z=>
    have hzc:z.cells.toList=zc:=by simpa [hi,hzz] using hz
    have hzc':z.cells=zc.toArray:=by rw [← hzc]
    rcases s.h with ⟨fs,h1,h2⟩|⟨rfl,n,e,k,h1,h2⟩
    ·simp only [h1,hzz,h2,hzc']
     have:=zI vals zc cs hf
     rw [← hx] at this
     simpa using this
    ·cases vals with
     |cons v r=>
      obtain ⟨i,v⟩:=v
      simp [tD] at hf
     |nil=>
      have hp:parts = []:=List.map_eq_nil_iff.1 hx
      subst hp
      simp only [tD,Option.some.injEq] at hf
      subst hf
      cases hie:P.info? e with
      |none=>simp [hie] at h2
      |some ie=>simp [h1,hzz,hzc',hie,Instr.fill]
 refine wp_build t _ rfl ?_ ?_
 ·simp only [key,Option.isSome_some]
 ·simp only [key,Option.getD_some]
  exact hk
end
end Go.Proofs.YtnjgoldinaffgaaGreatDoor
namespace Go.Proofs.YtnjgoldinaffgaaGreatDoor
set_option linter.unusedSimpArgs false
set_option linter.unusedVariables false
open Go.RowKit
def jY (l:Array Oper):Nat→Nat→Nat→Bool
 |0,_,_=>false
 |f+1,i,j=>match l[i]? with
  |some o=>o.after.any fun e=>Region.binds .any e && (e.on == j || jY l f e.on j)
  |none=>false
def tR (l:Array Oper) (m:Nat):Bool:=(List.range l.size).all fun i=>decide (i < m) || (List.range i).all fun j=>jY l l.size i j
theorem jQ {l:Array Oper} {listed:Array Bool} (hcl:∀ j o,l[j]?=some o→listed.getD j false=true→∀ e ∈ o.after,Region.binds .any e=true→listed.getD e.on false=true):
  ∀ (f i:Nat) (o:Oper) (j:Nat),l[i]?=some o→(∀ e ∈ o.after,Region.binds .any e=true→listed.getD e.on false=true)→jY l f i j=true→listed.getD j false=true
 |0,_,_,_,_,_,h=>by cases h
 |f+1,i,o,j,ho,hd,h=>by
  simp only [jY,ho] at h
  obtain ⟨e,he,hb⟩:=Array.any_eq_true'.1 h
  simp only [Bool.and_eq_true,Bool.or_eq_true,beq_iff_eq] at hb
  have hl:=hd e he hb.1
  rcases hb.2 with h1|h1
  ·rw [← h1];exact hl
  ·cases f with
   |zero=>cases h1
   |succ f=>
    cases hq:l[e.on]? with
    |none=>simp [jY,hq] at h1
    |some p=>exact jQ hcl (f+1) e.on p j hq (hcl e.on p hq hl) h1
theorem zKB:∀ (listed:Array Bool) (k:Nat),k≤listed.size→(∀ j,listed.getD j false=decide (j < k))→listed.toList.countP (fun x=>x)=k:=by
 intro ⟨l⟩ k hk h
 simp only [List.size_toArray] at hk
 have e:l=List.replicate k true++List.replicate (l.length - k) false:=by
  apply List.ext_getElem?
  intro i
  have hi:=h i
  by_cases hil:i < l.length
  ·have:l[i]=decide (i < k):=by simpa [hil] using hi
   rw [List.getElem?_eq_getElem hil,this]
   by_cases hik:i < k
   ·rw [List.getElem?_append_left (by simpa using hik)]
    simp [List.getElem?_replicate,hik]
   ·rw [List.getElem?_append_right (by simp;omega)]
    simp [List.getElem?_replicate,hik]
    omega
  ·rw [List.getElem?_eq_none (by omega),List.getElem?_eq_none (by simp;omega)]
 show l.countP (fun x=>x)=k
 rw [e,List.countP_append,List.countP_replicate,List.countP_replicate]
 simp
section
variable {P:Program} {Q:Exit→Act→World→Prop}
def zCo (P:Program) (l:List Oper) (m:Nat) (Q:Exit→Act→World→Prop):Exit→Act→World→Prop
 |.normal,a,w=>wpList P l.toArray (NoPanic Q) (l.drop m) a w
 |e,a,w=>Q e a w
theorem zAt {o:Oper} {a:Act} {w:World} {K:Act→World→Prop} {Q1 Q2:Exit→Act→World→Prop} (hp:∀ c a w,Q1 (.panic c) a w→Q2 (.panic c) a w) (ho:LetsOut Q1→LetsOut Q2)
    (h:o.wp P a w K Q1):o.wp P a w K Q2:=by
  unfold Oper.wp at *
  generalize (execOp a.eval o).run P w=r at *
  cases r with
  |ok n w'=>
    cases n<;>simp only [Oper.upon] at h ⊢<;>first
      |exact h
      | (refine Calls.mono h fun e w'' hh => ?_
         cases e<;>first|exact hh|exact hp _ _ _ hh|exact ho hh)
  |halt x w'=>
    cases x<;>simp only [Oper.upon] at h ⊢<;>first|exact h|exact hp _ _ _ h
theorem zEa {l:List Oper} {m:Nat} (hok:jO l.toArray=true) (htl:tR l.toArray m=true):∀ (k fuel:Nat) (listed:Array Bool) (b:Act) (w:World),m≤k→k≤l.length→listed.size=l.length→
  (∀ j,listed.getD j false=decide (j < k))→l.length≤fuel+k→wpList P l.toArray Q (l.drop k) b w→wpAny P .any l.toArray Q fuel listed b w:=by
 have hops:∀ i:Nat,l.toArray[i]?=l[i]?:=fun i=>by simp
 have only:∀ (k:Nat) (listed:Array Bool),m≤k→listed.size=l.length→(∀ j,listed.getD j false=decide (j < k))→∀ i ∈ Region.ready .any l.toArray listed,i=k∧k < l.length:=by
  intro k listed hmk hsz hl i hi
  obtain ⟨h0,o,ho',hall⟩:=mem_ready.1 hi
  have hil:i < l.length:=by have:=(Array.getElem?_eq_some_iff.1 ho').1;simpa using this
  have his:i < listed.size:=by omega
  have hun:listed.getD i false=false:=by
   simp [his] at h0 ⊢
   exact h0
  have hik:k≤i:=by
   rw [hl i] at hun
   simpa using hun
  rcases Nat.lt_or_ge k i with h1|h1
  ·exfalso
   have h2:=List.all_eq_true.1 htl i (by simpa using hil)
   simp only [Bool.or_eq_true,decide_eq_true_eq,List.all_eq_true,List.mem_range] at h2
   rcases h2 with h2|h2
   ·omega
   ·have h3:=jQ (l:=l.toArray) (listed:=listed) (fun j p hp hj e he hbd=>by
     have h4:=bY hok hp he hbd
     rw [hl j] at hj
     rw [hl e.on]
     simp only [decide_eq_true_eq] at hj ⊢
     omega) _ i o k ho' hall (h2 k h1)
    rw [hl k] at h3
    simp at h3
  ·exact ⟨by omega,by omega⟩
 have none:∀ (k:Nat) (listed:Array Bool),k≤l.length→listed.size=l.length→(∀ j,listed.getD j false=decide (j < k))→Region.ready .any l.toArray listed = []→l.length≤k:=by
  intro k listed hk hsz hl hr
  rcases Nat.lt_or_ge k l.length with h1|h1
  ·exfalso
   have hm:k ∈ Region.ready .any l.toArray listed:=by
    rw [mem_ready]
    refine ⟨?_,l[k],by simp [h1],fun e he hbd => ?_⟩
    ·have hks:k < listed.size:=by omega
     have h2:=hl k
     simp [hks] at h2 ⊢
     exact h2
    ·have h4:=bY hok (i:=k) (o:=l[k]) (by simp [h1]) he hbd
     rw [hl e.on]
     simpa using h4
   rw [hr] at hm
   cases hm
  ·exact h1
 intro k fuel
 induction fuel generalizing k with
 |zero=>
  intro listed b w hmk hk hsz hl hfu h
  have hlk:l.length≤k:=by omega
  refine ⟨?_,?_⟩
  ·rw [List.eq_nil_iff_forall_not_mem]
   intro i hi
   have:=only k listed hmk hsz hl i hi
   omega
  ·rw [List.drop_of_length_le hlk] at h
   exact h
 |succ fuel ih=>
  intro listed b w hmk hk hsz hl hfu h
  refine ⟨fun hr => ?_,fun i hi => ?_⟩
  ·rw [List.drop_of_length_le (none k listed hk hsz hl hr)] at h
   exact h
  ·obtain ⟨hik,hkl⟩:=only k listed hmk hsz hl i hi
   subst hik
   have hd:l.drop i=l[i]::l.drop (i+1):=List.drop_eq_getElem_cons hkl
   rw [hd] at h
   have hset:∀ j,(listed.setIfInBounds i true).getD j false=decide (j < i+1):=by
    intro j
    by_cases hji:j=i
    ·subst hji
     have hjs:j < listed.size:=by omega
     simp [hjs]
    ·rw [getD_set_ne false (Ne.symm hji),hl j]
     simp only [decide_eq_decide]
     omega
   have next:∀ b w,wpList P l.toArray Q (l.drop (i+1)) b w→wpAny P .any l.toArray Q fuel (listed.setIfInBounds i true) b w:=fun b w hh=>
    ih (i+1) _ b w (by omega) (by omega) (by simpa using hsz) hset (by omega) hh
   unfold wpOp
   have hoi:l.toArray[i]?=some l[i]:=by simp [hkl]
   rw [hoi]
   simp only
   unfold wpList at h
   split
   ·rename_i hw
    rw [if_pos hw] at h
    rcases h with h|h
    ·exact .inl (Oper.wp_mono next h)
    ·exact .inr h
   ·rename_i hw
    rw [if_neg hw] at h
    exact next _ _ h
end
variable {w':World}
structure Own (w:World) (B:Nat) (e:TypeId) (sz:Nat) (v:Value) (rows:List (List Value)):Prop where
 own:w.ownsRow B e sz v rows.length rows.flatten
 each:∀ r ∈ rows,r.length=sz
theorem Own.nil (w:World) (B:Nat) (e:TypeId) (sz:Nat):Own w B e sz (.slice none 0 0) []:=⟨World.ownsRow_nil w B e sz,by simp⟩
theorem zB1 {w:World} (h:Ext w w') (row:Option Nat):w.grownBy w' row:=
 ⟨h.os,h.tape,h.output,h.size,fun k hk _=>h.block k hk⟩
theorem Own.ext {w:World} {B:Nat} {e:TypeId} {sz:Nat} {v:Value} {rows:List (List Value)} (h:Own w B e sz v rows) (hx:Ext w w'):Own w' B e sz v rows:=
 ⟨h.own.kept (zB1 hx none) (by cases v.ownBlock<;>simp),h.each⟩
theorem zF:∀ {rows:List (List Value)} {sz:Nat},(∀ r ∈ rows,r.length=sz)→∀ (k:Nat) (r:List Value),rows[k]?=some r→∀ j,j < sz→rows.flatten[k * sz+j]?=r[j]?
 |[],_,_,k,r,h,_,_=>by simp at h
 |x::rows,sz,hall,0,r,h,j,hj=>by
  simp only [List.getElem?_cons_zero,Option.some.injEq] at h
  subst h
  have hx:=hall x (by simp)
  simp only [Nat.zero_mul,Nat.zero_add,List.flatten_cons]
  rw [List.getElem?_append_left (by omega)]
 |x::rows,sz,hall,k+1,r,h,j,hj=>by
  have hx:=hall x (by simp)
  simp only [List.flatten_cons]
  rw [List.getElem?_append_right (by rw [hx,Nat.add_mul];omega)]
  have e:(k+1) * sz+j - x.length=k * sz+j:=by rw [hx,Nat.add_mul];omega
  rw [e]
  exact zF (fun r hr=>hall r (by simp [hr])) k r (by simpa using h) j hj
theorem Own.blk {w:World} {B g n:Nat} {e:TypeId} {sz:Nat} {cs:List Value} (h:Blk w g e cs.toArray) (hB:B≤g) (rows:List (List Value)) (hr:rows.flatten=cs) (hn:rows.length=n) (he:(rows.all fun r=>r.length == sz)=true) (hm:n≤9223372036854775807):Own w B e sz (.slice (some ⟨g,0,none⟩) n n) rows:=by
 have hall:∀ r ∈ rows,r.length=sz:=fun r hr'=>by simpa using List.all_eq_true.1 he r hr'
 have hfl:∀ (l:List (List Value)),(∀ r ∈ l,r.length=sz)→l.flatten.length=l.length * sz:=by
  intro l
  induction l with
  |nil=>intro _;simp
  |cons r l ih=>intro h;simp only [List.flatten_cons,List.length_append,List.length_cons,h r (by simp),ih (fun q hq=>h q (by simp [hq])),Nat.add_mul];omega
 have hl:=hfl rows hall
 refine ⟨⟨hl,.inr ⟨g,n,cs.toArray,by rw [hn],hB,h,by omega,by unfold maxLen;omega,by rw [← hr,← hn];simpa using hl,?_⟩⟩,hall⟩
 rw [← hr]
 simp only [List.take_of_length_le (Nat.le_of_eq hl)]
class TElem (P:Program) (e:TypeId) (n:outParam Nat) (bytes:outParam Nat) (zc:outParam (List Value)):Prop where
 h:∃ i z,P.info? e=some i∧i.zero=some z∧i.size=n∧i.bytes=bytes∧z.cells.size=n∧0 < n
theorem TElem.of {P:Program} {e n bytes:Nat} {zc:List Value} (h:((P.info? e).map fun i=>(i.zero.map (·.cells.toList),i.size,i.bytes))=some (some zc,n,bytes)) (hz:zc.length=n) (hn:0 < n):TElem P e n bytes zc:=⟨by
 cases hi:P.info? e with
 |none=>simp [hi] at h
 |some i=>
  cases hq:i.zero with
  |none=>simp [hi,hq] at h
  |some z=>
   simp only [hi,hq,Option.map_some,Option.some.injEq,Prod.mk.injEq] at h
   obtain ⟨h1,h2,h3⟩:=h
   exact ⟨i,z,rfl,hq,h2,h3,by rw [← h2,h2,← hz,← h1];simp,hn⟩⟩
section
variable {P:Program} {Q:Exit→Act→World→Prop} {K:Act→World→Prop} {a:Act} {w:World}
 {dst:Option Tmp} {ty:TypeId} {pos:String} {after:Array Edge} {guard:Option (Nat × Bool)} {ops:Array Oper} {rest:List Oper} {ss:List Spec} {fs:List (World→Prop)}
end
/-! Facts behind a step that leaves all below B. -/
theorem Below.row {w:World} {B b p:Nat} {cs:List Value} (h:Below B w w') (hr:RowAt w b p cs) (hb:b < B):RowAt w' b p cs:=fun j u hu=>by
 rw [h.cell (p:=⟨b,p+j,none⟩) hb];exact hr j u hu
theorem Below.ext {w:World} {B:Nat} (h:Below B w w') (hB:w.heap.size≤B):Ext w w':=h.mono hB
end Go.Proofs.YtnjgoldinaffgaaGreatDoor
namespace Go.Proofs.YtnjgoldinaffgaaGreatDoor
set_option linter.unusedSimpArgs false
set_option linter.unusedVariables false
open Go.RowKit
variable {ks:List Nat} {t t':TypeId} {x y:Operand}
def cE:Option TypeDesc→Nat
 |some (.int _)=>0
 |some .string=>1
 |some .bool=>2
 |_=>3
def veq:Value→Value→Bool
 |.int _ a,.int _ b=>a == b
 |.string a,.string b=>a.data.toList == b.data.toList
 |.bool a,.bool b=>a == b
 |_,_=>false
def eO:List Value→List Value→Bool
 |x::xs,y::ys=>veq x y && eO xs ys
 |_,_=>true
def bZ:List Nat→List Value→List Value→Bool
 |[],[],[]=>true
 |0::ks,.int k _::xs,.int k' _::ys=>k == k' && bZ ks xs ys
 |1::ks,.string _::xs,.string _::ys=>bZ ks xs ys
 |2::ks,.bool _::xs,.bool _::ys=>bZ ks xs ys
 |_,_,_=>false
class TEq (P:Program) (t:TypeId) (ks:outParam (List Nat)):Prop where
 s:P.underlying t=some (.struct (P.fieldsOf t))
 h : (P.fieldsOf t).toList.map (fun f => (f.name == "_", f.offset, cE (P.underlying f.type))) = ks.zipIdx.map fun x => (false, x.2, x.1)
 held:P.stoodInHeld t=false
 guard:P.eqGuardType P.depth t=false
section
variable {P:Program}
theorem tE (d : Nat) (w : World) : ∀ (fs : List Field) (ks : List Nat) (xs ys px py : List Value), fs.map (fun f => (f.name == "_", f.offset, cE (P.underlying f.type))) = (ks.zipIdx px.length).map (fun x => (false, x.2, x.1)) → px.length = py.length → bZ ks xs ys = true →
  (Op.eqFields (d+1) (px++xs).toArray (py++ys).toArray fs).run P w=.ok (eO xs ys) w
 |[],[],[],[],_,_,_,_,_=>rfl
 |[],_::_,_,_,_,_,h,_,_=>by simp at h
 |f::fs,[],_,_,_,_,h,_,_=>by simp at h
 |[],[],_::_,_,_,_,_,_,h=>by simp [bZ] at h
 |[],[],[],_::_,_,_,_,_,h=>by simp [bZ] at h
 |f::fs,k::ks,xs,ys,px,py,h,hp,hf=>by
  simp only [List.map_cons,List.zipIdx_cons,List.cons.injEq,Prod.mk.injEq] at h
  obtain ⟨⟨h1,h2,h3⟩,h4⟩:=h
  have hname : f.name ≠ "_" := by simpa using h1
  have next:∀ (x y:Value) (xs' ys':List Value),bZ ks xs' ys'=true→(Op.eqFields (d+1) (px++x::xs').toArray (py++y::ys').toArray fs).run P w=.ok (eO xs' ys') w:=fun x y xs' ys' hf'=>by
   have:=tE d w fs ks xs' ys' (px ++ [x]) (py ++ [y]) (by simpa using h4) (by simp [hp]) hf'
   simpa using this
  have parts:∀ (t:TypeDesc) (x y:Value) (xs' ys':List Value),P.underlying f.type=some t→gE t=false→
    (part f.type (px++x::xs').toArray f.offset).run P w=.ok x w∧(part f.type (py++y::ys').toArray f.offset).run P w=.ok y w:=fun t x y xs' ys' ht ha=>by
   constructor<;>(unfold part;rw [Sem.run_bind,cL ht,ha];simp [h2,hp])
  have step:∀ (t:TypeDesc) (x y:Value) (xs' ys':List Value) (b:Bool),P.underlying f.type=some t→gE t=false→(Op.equalIn (d+1) f.type x y).run P w=.ok b w→bZ ks xs' ys'=true→
    (Op.eqFields (d+1) (px++x::xs').toArray (py++y::ys').toArray (f::fs)).run P w=.ok (b && eO xs' ys') w:=fun t x y xs' ys' b ht ha hb hf'=>by
   obtain ⟨p1,p2⟩:=parts t x y xs' ys' ht ha
   simp only [Op.eqFields,if_pos hname,Sem.run_bind,p1,p2,hb,Result.andThen_ok]
   cases b
   ·rfl
   ·exact next x y xs' ys' hf'
  cases hu:P.underlying f.type with
  |none=>rw [hu] at h3;simp [cE] at h3;subst h3;simp [bZ] at hf
  |some t=>
   rw [hu] at h3
   cases t with
   |int kd=>
    simp only [cE] at h3
    subst h3
    match xs,ys,hf with
    |.int k1 a::xs',.int k2 b::ys',hf=>
     simp only [bZ,Bool.and_eq_true,beq_iff_eq] at hf
     obtain ⟨rfl,hf⟩:=hf
     exact step _ _ _ xs' ys' _ hu rfl (run_equalIn_int w d f.type k1 kd a b hu) hf
   |string=>
    simp only [cE] at h3
    subst h3
    match xs,ys,hf with
    |.string a::xs',.string b::ys',hf=>
     have:=run_equalIn_string w d f.type a b hu
     rw [ByteArray.toList_eq,ByteArray.toList_eq] at this
     exact step _ _ _ xs' ys' _ hu rfl this hf
   |bool=>
    simp only [cE] at h3
    subst h3
    match xs,ys,hf with
    |.bool a::xs',.bool b::ys',hf=>exact step _ _ _ xs' ys' _ hu rfl (run_equalIn_bool' w d f.type a b hu) hf
   |_=>simp [cE] at h3;subst h3;simp [bZ] at hf
theorem tS (t:TypeId) [e:TEq P t ks] (w:World) (d:Nat) (xs ys:List Value) (hf:bZ ks xs ys=true):(Op.equalIn (d+2) t (.agg xs.toArray) (.agg ys.toArray)).run P w=.ok (eO xs ys) w:=by
 rw [run_equalIn_struct w (d+1) t _ _ e.s e.held]
 exact tE d w _ ks xs ys [] [] (by simpa using e.h) rfl hf
end
class TEqS (P:Program) (t:TypeId) (ks:outParam (List Nat)):Prop where
 run:∀ (w:World) (d:Nat) (xs ys:List Value),bZ ks xs ys=true→(Op.equalIn (d+3) t (.agg xs.toArray) (.agg ys.toArray)).run P w=.ok (eO xs ys) w
 guard:P.eqGuardType P.depth t=false
instance TEqS.flat {P:Program} {t:TypeId} {ks:List Nat} [e:TEq P t ks]:TEqS P t ks:=⟨fun w d xs ys h=>tS t w (d+1) xs ys h,e.guard⟩
def zCd (P:Program):Nat→List (Bool × Nat × TypeId)→List (List Nat)→Prop
 |_,[],[]=>True
 |o,(b,off,ty)::l,g::gs=>b=false∧off=o∧((∃ k,g = [k]∧cE (P.underlying ty)=k)∨(TEq P ty g∧(P.info? ty).map (·.size)=some g.length))∧zCd P (o+g.length) l gs
 |_,_,_=>False
theorem zCM {P:Program} {w:World} {fs:Array Field} (hu:P.underlying t=some (.struct fs)) {n:Nat} (hn:(P.info? t).map (·.size)=some n) (px xs xs':List Value) (hl:xs.length=n):
  (part t (px++(xs++xs')).toArray px.length).run P w=.ok (.agg xs.toArray) w:=by
 obtain ⟨i,hi,hs⟩:∃ i,P.info? t=some i∧i.size=n:=by
  cases h:P.info? t with
  |none=>simp [h] at hn
  |some i=>exact ⟨i,rfl,by simpa [h] using hn⟩
 unfold part
 rw [Sem.run_bind,cL hu]
 simp [gE,sizeOf,typeInfo,hi,Sem.run_bind]
 rw [hs,← hl,List.take_left]
theorem kX:∀ (g:List Nat) {ks:List Nat} {xs ys:List Value},bZ (g++ks) xs ys=true→∃ xs1 xs2 ys1 ys2,xs=xs1++xs2∧ys=ys1++ys2∧xs1.length=g.length∧ys1.length=g.length∧bZ g xs1 ys1=true∧bZ ks xs2 ys2=true∧eO xs ys=(eO xs1 ys1 && eO xs2 ys2)
 |[],ks,xs,ys,h=>⟨[],xs,[],ys,rfl,rfl,rfl,rfl,rfl,h,by simp [eO]⟩
 |0::g,ks,.int k a::xs,.int k' b::ys,h=>by
  simp only [List.cons_append,bZ,Bool.and_eq_true] at h
  obtain ⟨x1,x2,y1,y2,rfl,rfl,h3,h4,h5,h6,h7⟩:=kX g h.2
  exact ⟨.int k a::x1,x2,.int k' b::y1,y2,rfl,rfl,by simp [h3],by simp [h4],by simp [bZ,h.1,h5],h6,by simp only [List.cons_append,eO,h7,Bool.and_assoc]⟩
 |1::g,ks,.string a::xs,.string b::ys,h=>by
  simp only [List.cons_append,bZ] at h
  obtain ⟨x1,x2,y1,y2,rfl,rfl,h3,h4,h5,h6,h7⟩:=kX g h
  exact ⟨.string a::x1,x2,.string b::y1,y2,rfl,rfl,by simp [h3],by simp [h4],by simp [bZ,h5],h6,by simp only [List.cons_append,eO,h7,Bool.and_assoc]⟩
 |2::g,ks,.bool a::xs,.bool b::ys,h=>by
  simp only [List.cons_append,bZ] at h
  obtain ⟨x1,x2,y1,y2,rfl,rfl,h3,h4,h5,h6,h7⟩:=kX g h
  exact ⟨.bool a::x1,x2,.bool b::y1,y2,rfl,rfl,by simp [h3],by simp [h4],by simp [bZ,h5],h6,by simp only [List.cons_append,eO,h7,Bool.and_assoc]⟩
 |(n+3)::g,ks,xs,ys,h=>by simp [bZ] at h
 |0::g,ks,[],ys,h=>by simp [bZ] at h
 |1::g,ks,[],ys,h=>by simp [bZ] at h
 |2::g,ks,[],ys,h=>by simp [bZ] at h
 |0::g,ks,x::xs,[],h=>by cases x<;>simp [bZ] at h
 |1::g,ks,x::xs,[],h=>by cases x<;>simp [bZ] at h
 |2::g,ks,x::xs,[],h=>by cases x<;>simp [bZ] at h
theorem qL {P : Program} (d : Nat) (w : World) : ∀ (fs : List Field) (L : List (Bool × Nat × TypeId)) (gs : List (List Nat)) (xs ys px py : List Value), fs.map (fun f => (f.name == "_", f.offset, f.type)) = L → zCd P px.length L gs → px.length = py.length → bZ gs.flatten xs ys = true →
  (Op.eqFields (d+2) (px++xs).toArray (py++ys).toArray fs).run P w=.ok (eO xs ys) w
 |[],_,[],xs,ys,px,py,h,hL,hp,hf=>by
  match xs,ys,hf with
  |[],[],_=>rfl
 |[],_,_::_,xs,ys,px,py,h,hL,hp,hf=>by subst h;exact hL.elim
 |f::fs,_,[],xs,ys,px,py,h,hL,hp,hf=>by subst h;exact hL.elim
 |f::fs,_,g::gs,xs,ys,px,py,h,hL,hp,hf=>by
  subst h
  obtain ⟨h1,h2,h3,h4⟩:=hL
  have hname : f.name ≠ "_" := by simpa using h1
  rw [List.flatten_cons] at hf
  obtain ⟨x1,x2,y1,y2,rfl,rfl,l1,l2,f1,f2,hv⟩:=kX g hf
  rw [hv]
  have next:=qL d w fs _ gs x2 y2 (px++x1) (py++y1) rfl (by simpa [l1] using h4) (by simp [hp,l1,l2]) f2
  rw [List.append_assoc,List.append_assoc] at next
  have fin:∀ (x y:Value) (b:Bool),(part f.type (px++(x1++x2)).toArray f.offset).run P w=.ok x w→(part f.type (py++(y1++y2)).toArray f.offset).run P w=.ok y w→(Op.equalIn (d+2) f.type x y).run P w=.ok b w→eO x1 y1=b→
    (Op.eqFields (d+2) (px++(x1++x2)).toArray (py++(y1++y2)).toArray (f::fs)).run P w=.ok (eO x1 y1 && eO x2 y2) w:=fun x y b p1 p2 hb e=>by
   rw [e]
   simp only [Op.eqFields,if_pos hname,Sem.run_bind,p1,p2,hb,Result.andThen_ok]
   cases b
   ·rfl
   ·exact next
  rcases h3 with ⟨k,rfl,hk⟩|⟨e,hn⟩
  ·have parts:∀ (t:TypeDesc) (x y:Value),P.underlying f.type=some t→gE t=false→x1 = [x]→y1 = [y]→
     (part f.type (px++(x1++x2)).toArray f.offset).run P w=.ok x w∧(part f.type (py++(y1++y2)).toArray f.offset).run P w=.ok y w:=fun t x y ht ha e1 e2=>by
    subst e1 e2
    constructor<;>(unfold part;rw [Sem.run_bind,cL ht,ha];simp [h2,hp])
   cases hu:P.underlying f.type with
   |none=>rw [hu] at hk;subst hk;simp [cE,bZ] at f1
   |some t=>
    rw [hu] at hk
    cases t with
    |int kd=>
     subst hk
     match x1,y1,f1 with
     |[.int k1 a],[.int k2 b],f1=>
      simp only [cE,bZ,Bool.and_eq_true,beq_iff_eq] at f1
      obtain ⟨rfl,_⟩:=f1
      obtain ⟨p1,p2⟩:=parts _ _ _ hu rfl rfl rfl
      exact fin _ _ _ p1 p2 (run_equalIn_int w (d+1) f.type k1 kd a b hu) (by simp [eO,veq])
    |string=>
     subst hk
     match x1,y1,f1 with
     |[.string a],[.string b],f1=>
      obtain ⟨p1,p2⟩:=parts _ _ _ hu rfl rfl rfl
      have:=run_equalIn_string w (d+1) f.type a b hu
      rw [ByteArray.toList_eq,ByteArray.toList_eq] at this
      exact fin _ _ _ p1 p2 this (by simp [eO,veq])
    |bool=>
     subst hk
     match x1,y1,f1 with
     |[.bool a],[.bool b],f1=>
      obtain ⟨p1,p2⟩:=parts _ _ _ hu rfl rfl rfl
      exact fin _ _ _ p1 p2 (run_equalIn_bool' w (d+1) f.type a b hu) (by simp [eO,veq])
    |_=>subst hk;simp [cE,bZ] at f1
  ·have p1:=zCM (w:=w) e.s hn px x1 x2 l1
   have p2:=zCM (w:=w) e.s hn py y1 y2 l2
   exact fin _ _ _ (h2 ▸ p1) (h2 ▸ (hp ▸ p2)) (tS f.type w d x1 y1 f1) rfl
theorem TEqS.nest {P : Program} (L : List (Bool × Nat × TypeId)) (gs : List (List Nat)) (s : P.underlying t = some (.struct (P.fieldsOf t))) (h : (P.fieldsOf t).toList.map (fun f => (f.name == "_", f.offset, f.type)) = L) (hL : zCd P 0 L gs) (hk : gs.flatten = ks)
  (held:P.stoodInHeld t=false) (guard:P.eqGuardType P.depth t=false):TEqS P t ks:=by
 subst hk
 refine ⟨fun w d xs ys hf => ?_,guard⟩
 rw [run_equalIn_struct w (d+2) t _ _ s held]
 exact qL d w _ L gs xs ys [] [] h hL rfl hf
theorem zD7 {P:Program} (t:TypeId) [e:TArr P t 2] (w:World) (d:Nat) (a b c z:List UInt8):(Op.equalIn (d+2) t (.agg #[.string ⟨a.toArray⟩,.string ⟨b.toArray⟩]) (.agg #[.string ⟨c.toArray⟩,.string ⟨z.toArray⟩])).run P w=.ok (a == c && b == z) w:=by
 obtain ⟨el,h1,h2,h3⟩:=e.h
 obtain ⟨i,hi,hs⟩:∃ i,P.info? el=some i∧i.size=1:=by
  cases h:P.info? el with
  |none=>simp [h] at h3
  |some i=>exact ⟨i,rfl,by simpa [h] using h3⟩
 have hc:P.cellsOf el=1:=by simp [Program.cellsOf,hi,hs]
 have hp:∀ (cs:Array Value) (j:Nat) (v:Value),cs[j]?=some v→(part el cs j).run P w=.ok v w:=fun cs j v hv=>by unfold part;rw [Sem.run_bind,cL h2];simp [gE,hv]
 have h4:=run_equalIn_string (P:=P) w d el ⟨a.toArray⟩ ⟨c.toArray⟩ h2
 have h5:=run_equalIn_string (P:=P) w d el ⟨b.toArray⟩ ⟨z.toArray⟩ h2
 rw [ByteArray.toList_eq,ByteArray.toList_eq] at h4 h5
 rw [run_equalIn_array w (d+1) _ _ h1 hi,hc,show List.range 2 = [0,1] from rfl]
 simp only [Op.eqItems,Sem.run_bind,Nat.mul_one,hp #[.string ⟨a.toArray⟩,.string ⟨b.toArray⟩] 0 _ rfl,hp #[.string ⟨a.toArray⟩,.string ⟨b.toArray⟩] 1 _ rfl,hp #[.string ⟨c.toArray⟩,.string ⟨z.toArray⟩] 0 _ rfl,hp #[.string ⟨c.toArray⟩,.string ⟨z.toArray⟩] 1 _ rfl,h4,h5,Result.andThen_ok]
 generalize h6:(a == c)=r at *
 cases ha:a == c<;>cases hb:b == z<;>simp_all
section
variable {P:Program} {Q:Exit→Act→World→Prop} {K:Act→World→Prop} {a:Act} {w:World}
 {dst:Option Tmp} {ty:TypeId} {pos:String} {after:Array Edge} {guard:Option (Nat × Bool)} {ops:Array Oper} {rest:List Oper} {ss:List Spec} {fs:List (World→Prop)}
theorem zEx {xs ys:List Value} [e:TEqS P t ks] (hx:a.eval x=.agg xs.toArray) (hy:a.eval y=.agg ys.toArray) (hf:bZ ks xs ys=true) (hk:K (a.put dst (.bool (eO xs ys))) w):(Oper.mk dst (.binOp .eql t x y t') ty pos after guard).wp P a w K Q:=by
 refine bL ?_ hk
 have h1:=run_eqGuard_agg (P:=P) w .eql t x y xs.toArray ys.toArray e.guard
 have h2:=run_eql_struct (P:=P) w t xs.toArray ys.toArray
 rw [e.run w 9997 xs ys hf] at h2
 simp only [execOp,hx,hy,Sem.run_bind,h1,h2,Result.andThen_ok,Sem.run_pure]
theorem zEw {xs ys:List Value} [e:TEqS P t ks] (hx:a.eval x=.agg xs.toArray) (hy:a.eval y=.agg ys.toArray) (hf:bZ ks xs ys=true) (hk:K (a.put dst (.bool (!eO xs ys))) w):(Oper.mk dst (.binOp .neq t x y t') ty pos after guard).wp P a w K Q:=by
 refine bL ?_ hk
 have h1:=run_eqGuard_agg (P:=P) w .neq t x y xs.toArray ys.toArray e.guard
 have h2:=run_neq_struct (P:=P) w t xs.toArray ys.toArray
 rw [e.run w 9997 xs ys hf] at h2
 simp only [execOp,hx,hy,Sem.run_bind,h1,h2,Result.andThen_ok,Sem.run_pure]
theorem zK4 {p q u v:List UInt8} [e:TArr P t 2] (hx:a.eval x=.agg #[.string ⟨p.toArray⟩,.string ⟨q.toArray⟩]) (hy:a.eval y=.agg #[.string ⟨u.toArray⟩,.string ⟨v.toArray⟩]) (hk:K (a.put dst (.bool (p == u && q == v))) w):(Oper.mk dst (.binOp .eql t x y t') ty pos after guard).wp P a w K Q:=by
 refine bL ?_ hk
 have h1:=run_eqGuard_agg (P:=P) w .eql t x y #[.string ⟨p.toArray⟩,.string ⟨q.toArray⟩] #[.string ⟨u.toArray⟩,.string ⟨v.toArray⟩] e.guard
 have h2:=run_eql_struct (P:=P) w t #[.string ⟨p.toArray⟩,.string ⟨q.toArray⟩] #[.string ⟨u.toArray⟩,.string ⟨v.toArray⟩]
 rw [zD7 t w 9998 p q u v] at h2
 simp only [execOp,hx,hy,Sem.run_bind,h1,h2,Result.andThen_ok,Sem.run_pure]
theorem zK3 {p q u v:List UInt8} [e:TArr P t 2] (hx:a.eval x=.agg #[.string ⟨p.toArray⟩,.string ⟨q.toArray⟩]) (hy:a.eval y=.agg #[.string ⟨u.toArray⟩,.string ⟨v.toArray⟩]) (hk:K (a.put dst (.bool (!(p == u && q == v)))) w):(Oper.mk dst (.binOp .neq t x y t') ty pos after guard).wp P a w K Q:=by
 refine bL ?_ hk
 have h1:=run_eqGuard_agg (P:=P) w .neq t x y #[.string ⟨p.toArray⟩,.string ⟨q.toArray⟩] #[.string ⟨u.toArray⟩,.string ⟨v.toArray⟩] e.guard
 have h2:=run_neq_struct (P:=P) w t #[.string ⟨p.toArray⟩,.string ⟨q.toArray⟩] #[.string ⟨u.toArray⟩,.string ⟨v.toArray⟩]
 rw [zD7 t w 9998 p q u v] at h2
 simp only [execOp,hx,hy,Sem.run_bind,h1,h2,Result.andThen_ok,Sem.run_pure]
end
end Go.Proofs.YtnjgoldinaffgaaGreatDoor
namespace Go.Proofs.YtnjgoldinaffgaaGreatDoor
set_option linter.unusedSimpArgs false
set_option linter.unusedVariables false
open Go.RowKit
def zKW (k:IntKind) (zs:List Int):Obj→Prop:=fun o=>∃ e fz,o=.cells (zs.map fun z=>Value.int k z).toArray e fz
def bruijn:List Int := [0,1,56,2,57,49,28,3,61,58,42,50,38,29,17,4,62,47,59,36,45,43,51,22,53,39,33,30,24,18,12,5,63,55,48,27,60,41,37,16,46,35,44,21,52,32,23,11,54,26,40,15,34,20,31,10,25,14,19,9,13,8,7,6]
def zNT:Obj→Prop:=fun o=>∃ (cs:Array Value) (e:TypeId) (fz:Nat × Nat) (n:Int),o=.cells cs e fz∧cs[0]?=some (.int .i64 n)
def GB:Nat→Option (Obj→Prop)
 |5=>some (zKW .u64 Lib.pow10Tab)
 |7=>some (zKW .u8 bruijn)
 |0=>some zNT
  |_=>none
variable {lim':Nat→Option Nat} {w w':World}
def zAM:IntKind→IntKind→Bool
 |.i8,.i8 | .i16,.i16 | .i32,.i32 | .i64,.i64 | .u8,.u8 | .u16,.u16 | .u32,.u32 | .u64,.u64=>true
 |_,_=>false
theorem jV {k k':IntKind} (h:zAM k k'=true):k=k':=by
 cases k<;>cases k'<;>first|rfl|cases h
inductive KD where
 |int (k:IntKind)
 |str
 |bool
 |st (ks:List Nat)
def zBF:List Nat→List Nat→Bool
 |[],[]=>true
 |x::xs,y::ys=>Nat.beq x y && zBF xs ys
 |_,_=>false
theorem zAL:∀ {xs ys:List Nat},zBF xs ys=true→xs=ys
 |[],[],_=>rfl
 |x::xs,y::ys,h=>by
  simp only [zBF,Bool.and_eq_true] at h
  rw [Nat.eq_of_beq_eq_true h.1,zAL h.2]
 |[],_::_,h=>by cases h
 |_::_,[],h=>by cases h
def qT:KD→KD→Bool
 |.int k,.int k'=>zAM k k'
 |.str,.str | .bool,.bool=>true
 |.st ks,.st ks'=>zBF ks ks'
 |_,_=>false
theorem pS {k k':KD} (h:qT k k'=true):k=k':=by
 cases k<;>cases k'<;>first|rfl|(cases h;done)|(simp only [qT] at h;rw [jV h])|(simp only [qT] at h;rw [zAL h])
def zAp:List Nat→List Value→Bool
 |[],[]=>true
 |0::ks,.int .i64 _::xs=>zAp ks xs
 |1::ks,.string _::xs=>zAp ks xs
 |2::ks,.bool _::xs=>zAp ks xs
 |_,_=>false
def fC:KD→Value→Bool
 |.int k,.int k' _=>zAM k k'
 |.str,.string _=>true
 |.bool,.bool _=>true
 |.st ks,.agg cs=>zAp ks cs.toList
 |_,_=>false
def gW:Value→Value→Bool
 |.agg xs,.agg ys=>eO xs.toList ys.toList
 |x,y=>veq x y
def gA (k:Value):List (Value × Value)→Option Value
 |[]=>none
 |(k',v)::r=>match gW k k' with
  |true=>some v
  |false=>gA k r
def mT (k v:Value):List (Value × Value)→List (Value × Value)
 |[] => [(k,v)]
 |(k',v')::r=>match gW k k' with
  |true=>(k,v)::r
  |false=>(k',v')::mT k v r
def zL (k:Value):List (Value × Value)→List (Value × Value)
 |[] => []
 |(k',v')::r=>match gW k k' with
  |true=>r
  |false=>(k',v')::zL k r
inductive D where
 |any
 |int (k:IntKind) (n:Int)
 |bool (b:Bool)
 |str (s:List UInt8)
 |pv (v:Value)
 |nil
 |sl (m sz:Nat) (rows:List (List D))
 |ptr (cells:List D)
 |obj (cells:List D)
 |ref (t off:Nat)
 |gref (c:Bool) (t off:Nat)
 |al (t:Nat)
 |alc (t off:Nat)
 |el (t off sz k j:Nat)
 |es (t sz k j:Nat)
 |fn (f:Nat) (caps:List D)
 |gd (c:Bool) (d:D)
 |agg (cs:List D)
 |tup (ds:List D)
 |mp (kd:KD) (es:List (Value × Value))
 |nsl (sz n:Nat) (z:List D)
 |nagg (cs:List D) (off sz n:Nat) (z:List D)
 |fmp (kd:KD) (es:List (Value × Value))
instance:Inhabited D:=⟨.any⟩
structure Place where
 r:Nat
 path:List Nat
 deriving DecidableEq
def Place.at (p:Place) (i:Nat):Place:=⟨p.r,p.path ++ [i]⟩
def Place.slot (t:Nat):Place:=⟨t+2,[]⟩
def Place.res:Place:=⟨1,[]⟩
def Place.dead:Place:=⟨0,[]⟩
structure Sig where
 own:Nat→Option (Place × Nat)
 loc:Nat→Nat
def Sig.lim (S:Sig) (b:Nat):Option Nat:=(S.own b).map (·.2)
def OkC (lim:Nat→Option Nat) (b off:Nat):Prop:=∀ s,lim b=some s→off < s
def cG (ents:Array MapEntry) (clock:Nat):Prop:=(∀ n ∈ ents.toList.map (·.born),n < clock)∧(ents.toList.map (·.born)).Nodup
inductive Fz (lim:Nat→Option Nat) (w:World):Value→D→Prop
 |any (v:Value):Fz lim w v .any
 |int (k:IntKind) (n:Int):Fz lim w (.int k n) (.int k n)
 |bool (b:Bool):Fz lim w (.bool b) (.bool b)
 |str (s:List UInt8):Fz lim w (.string ⟨s.toArray⟩) (.str s)
 |pv (v:Value):Fz lim w v (.pv v)
 |nil:Fz lim w (.slice none 0 0) .nil
 |slNil (m sz:Nat):Fz lim w (.slice none 0 0) (.sl m sz [])
 |slE (A:Addr) (sz:Nat):Fz lim w (.slice (some A) 0 0) (.sl 0 sz [])
 |sl {b o cap sz:Nat} {rows:List (List D)} (cv:Nat→Nat→Value) (hc:rows.length≤cap) (hm:cap≤maxLen) (hr:∀ (k:Nat) (r:List D),rows[k]?=some r→r.length=sz)
   (h:∀ (k:Nat) (r:List D) (j:Nat) (d:D),rows[k]?=some r→r[j]?=some d→w.cell? ⟨b,o+k * sz+j,none⟩=some (cv k j)∧OkC lim b (o+k * sz+j)∧(cv k j).oneCell'=true)
   (ih:∀ (k:Nat) (r:List D) (j:Nat) (d:D),rows[k]?=some r→r[j]?=some d→Fz lim w (cv k j) d):Fz lim w (.slice (some ⟨b,o,none⟩) rows.length cap) (.sl 0 sz rows)
 |ptr {b o:Nat} {cs:List D} (cv:Nat→Value) (h:∀ (j:Nat) (d:D),cs[j]?=some d→w.cell? ⟨b,o+j,none⟩=some (cv j)∧OkC lim b (o+j)∧(cv j).oneCell'=true)
   (ih:∀ (j:Nat) (d:D),cs[j]?=some d→Fz lim w (cv j) d):Fz lim w (.pointer (some ⟨b,o,none⟩)) (.ptr cs)
 |fn {f:Nat} {ds:List D} (vs:List Value) (hl:vs.length=ds.length) (ih:∀ (j:Nat) (d:D) (v:Value),ds[j]?=some d→vs[j]?=some v→Fz lim w v d):Fz lim w (.func (.func f) #[] vs.toArray) (.fn f ds)
 |gd {v:Value} {c:Bool} {d:D} (h1:c=true→Fz lim w v d) (h0:c=false→v=undef):Fz lim w v (.gd c d)
 |agg {cs:List D} (vs:List Value) (hl:vs.length=cs.length) (h1:∀ v:Value,v ∈ vs→v.oneCell'=true) (ih:∀ (j:Nat) (d:D) (v:Value),cs[j]?=some d→vs[j]?=some v→Fz lim w v d):Fz lim w (.agg vs.toArray) (.agg cs)
 |tup {ds:List D} (vs:List Value) (hl:vs.length=ds.length) (ih:∀ (j:Nat) (d:D) (v:Value),ds[j]?=some d→vs[j]?=some v→Fz lim w v d):Fz lim w (.tuple vs.toArray) (.tup ds)
 |fmp {b clock:Nat} {kd:KD} {es:List (Value × Value)} {ents:Array MapEntry} (hb:lim b=none) (hh:w.heap[b]?=some (.map ents clock)) (he:ents.toList.map (fun e=>(e.key,e.val))=es∧cG ents clock) (hk:∀ x ∈ es,fC kd x.1=true):Fz lim w (.map (some b)) (.fmp kd es)
structure OwnAt (S:Sig) (w:World) (p:Place) (b cap m sz:Nat) (rows:List (List D)) (cur:Array Value) (e:TypeId):Prop where
 mode:m=1∨m=2
 heap:w.heap[b]?=some (.cells cur e (0,0))
 le:rows.length≤cap
 max:cap≤maxLen
 size:cur.size=cap * sz
 each:∀ r:List D,r ∈ rows→r.length=sz
 own:S.own b=some (p,if m=2 then 0 else rows.length * sz)
 cells:∀ (k:Nat) (r:List D) (j:Nat) (d:D),rows[k]?=some r→r[j]?=some d→∃ v,cur[k * sz+j]?=some v∧v.oneCell'=true∧Fz S.lim w v d
inductive Rep (S:Sig) (w:World):Place→Value→D→Prop
 |fz {p:Place} {v:Value} {d:D} (h:Fz S.lim w v d):Rep S w p v d
 |own {p:Place} {b cap m sz:Nat} {rows:List (List D)} {cur:Array Value} {e:TypeId} (h:OwnAt S w p b cap m sz rows cur e):Rep S w p (.slice (some ⟨b,0,none⟩) rows.length cap) (.sl m sz rows)
 |obj {t b:Nat} {path:List Nat} {cs:List D} {cur:Array Value} {e:TypeId} (hb:S.own b=some (⟨t,path⟩,0)) (hp:path = []) (hl:S.loc t=b) (hh:w.heap[b]?=some (.cells cur e (0,0))) (hs:cs.length=cur.size)
   (h1:∀ (i:Nat) (v:Value),cur[i]?=some v→v.oneCell'=true) (ih:∀ (i:Nat) (d:D) (v:Value),cs[i]?=some d→cur[i]?=some v→Rep S w ⟨t,[i]⟩ v d):Rep S w ⟨t,path⟩ (.pointer (some ⟨b,0,none⟩)) (.obj cs)
 |ref {p:Place} {t off:Nat} (h:S.own (S.loc (t+2))=some (.slot t,0)):Rep S w p (.pointer (some ⟨S.loc (t+2),off,none⟩)) (.ref t off)
 |gref {p:Place} {t off:Nat} {c:Bool} {v:Value} (h:S.own (S.loc (t+2))=some (.slot t,0)) (hv:v=if c=true then .pointer (some ⟨S.loc (t+2),off,none⟩) else undef):Rep S w p v (.gref c t off)
 |fn {p:Place} {f:Nat} {ds:List D} (vs:List Value) (hl:vs.length=ds.length) (ih:∀ (j:Nat) (d:D) (v:Value),ds[j]?=some d→vs[j]?=some v→Rep S w .dead v d):Rep S w p (.func (.func f) #[] vs.toArray) (.fn f ds)
 |agg {p:Place} {cs:List D} (vs:List Value) (hl:vs.length=cs.length) (h1:∀ v:Value,v ∈ vs→v.oneCell'=true) (ih:∀ (j:Nat) (d:D) (v:Value),cs[j]?=some d→vs[j]?=some v→Rep S w (p.at j) v d):Rep S w p (.agg vs.toArray) (.agg cs)
 |tup {p:Place} {ds:List D} (vs:List Value) (hl:vs.length=ds.length) (ih:∀ (j:Nat) (d:D) (v:Value),ds[j]?=some d→vs[j]?=some v→Rep S w (p.at j) v d):Rep S w p (.tuple vs.toArray) (.tup ds)
 |mp {p:Place} {b clock:Nat} {kd:KD} {es:List (Value × Value)} {ents:Array MapEntry} (hb:S.own b=some (p,0)) (hh:w.heap[b]?=some (.map ents clock)) (he:ents.toList.map (fun e=>(e.key,e.val))=es∧cG ents clock) (hk:∀ x ∈ es,fC kd x.1=true):Rep S w p (.map (some b)) (.mp kd es)
def GL (S:Sig) (w:World):Prop:=∀ (g:Nat) (φ:Obj→Prop),GB g=some φ→S.own g=none∧∃ o,w.heap[g]?=some o∧φ o
structure WF (S:Sig) (w:World):Prop where
 lt:∀ b x,S.own b=some x→b < w.heap.size
 gl:GL S w
instance {S:Sig} {w:World}:CoeFun (WF S w) fun _=>∀ b x,S.own b=some x→b < w.heap.size:=⟨WF.lt⟩
theorem GL.keep {S S':Sig} (h:GL S w) (k:∀ b,b < w.heap.size→S.own b=none→w'.heap[b]?=w.heap[b]?∧S'.own b=none):GL S' w':=fun g φ hg=>by
 obtain ⟨h1,o,h2,h3⟩:=h g φ hg
 obtain ⟨k1,k2⟩:=k g (Array.getElem?_eq_some_iff.1 h2).1 h1
 exact ⟨k2,o,k1.trans h2,h3⟩
theorem GL.sig {S S':Sig} (h:GL S w) (k:∀ b,S.own b=none→S'.own b=none):GL S' w:=h.keep fun b _ hb=>⟨rfl,k b hb⟩
def Keeps (l:Nat) (o o':Option Obj):Prop:=
 ∀ cur e fz,o=some (.cells cur e fz)→∃ cur',o'=some (.cells cur' e fz)∧cur'.size=cur.size∧∀ off,off < l→cur'[off]?=cur[off]?
structure Trans (S:Sig) (w:World) (S':Sig) (w':World):Prop where
 os:w'.os=w.os
 tape:w'.tape=w.tape
 output:w'.output=w.output
 size:w.heap.size≤w'.heap.size
 free:∀ b,b < w.heap.size→S.own b=none→w'.heap[b]?=w.heap[b]?∧S'.own b=none
 foreign:∀ b p l,b < w.heap.size→S.own b=some (p,l)→p.r=0→w'.heap[b]?=w.heap[b]?∧S'.own b=some (p,l)
 held:∀ b p l,b < w.heap.size→S.own b=some (p,l)→Keeps l w.heap[b]? w'.heap[b]?∧∀ x,S'.own b=some x→l≤x.2
 loc2:S'.loc 2=S.loc 2
theorem Keeps.refl (l:Nat) (o:Option Obj):Keeps l o o:=fun cur _ _ h=>⟨cur,h,rfl,fun _ _=>rfl⟩
theorem Keeps.of_eq {l:Nat} {o o':Option Obj} (h:o'=o):Keeps l o o':=h ▸ Keeps.refl l o
theorem Keeps.trans {l l':Nat} {a b c:Option Obj} (h:Keeps l a b) (k:Keeps l' b c) (hl:l≤l'):Keeps l a c:=fun cur e fz ha=>by
 obtain ⟨cur',h1,h2,h3⟩:=h cur e fz ha
 obtain ⟨cur'',k1,k2,k3⟩:=k cur' e fz h1
 exact ⟨cur'',k1,k2.trans h2,fun off ho=>(k3 off (by omega)).trans (h3 off ho)⟩
theorem GL.trans {S S':Sig} (h:GL S w) (t:Trans S w S' w'):GL S' w':=h.keep fun b hb hn=>t.free b hb hn
theorem WF.of {S S':Sig} (h:WF S w) (t:Trans S w S' w') (k:∀ b x,S'.own b=some x→b < w'.heap.size):WF S' w':=⟨k,h.gl.trans t⟩
theorem Trans.refl (S:Sig) (w:World):Trans S w S w:=
 ⟨rfl,rfl,rfl,Nat.le_refl _,fun _ _ h=>⟨rfl,h⟩,fun _ _ _ _ h _=>⟨rfl,h⟩,fun _ _ _ _ h=>⟨Keeps.refl _ _,fun x hx=>by rw [h] at hx;cases hx;exact Nat.le_refl _⟩,rfl⟩
theorem Trans.trans {S1 S2 S3:Sig} {a b c:World} (h:Trans S1 a S2 b) (k:Trans S2 b S3 c):Trans S1 a S3 c:=by
 refine ⟨k.os.trans h.os,k.tape.trans h.tape,k.output.trans h.output,Nat.le_trans h.size k.size,fun i hi hn => ?_,fun i p l hi hs hd => ?_,fun i p l hi hs => ?_,k.loc2.trans h.loc2⟩
 ·obtain ⟨h1,h2⟩:=h.free i hi hn
  obtain ⟨k1,k2⟩:=k.free i (Nat.lt_of_lt_of_le hi h.size) h2
  exact ⟨k1.trans h1,k2⟩
 ·obtain ⟨h1,h2⟩:=h.foreign i p l hi hs hd
  obtain ⟨k1,k2⟩:=k.foreign i p l (Nat.lt_of_lt_of_le hi h.size) h2 hd
  exact ⟨k1.trans h1,k2⟩
 ·obtain ⟨h1,h2⟩:=h.held i p l hi hs
  have hi':=Nat.lt_of_lt_of_le hi h.size
  cases ho:S2.own i with
  |none=>
   obtain ⟨k1,k2⟩:=k.free i hi' ho
   exact ⟨by rw [k1];exact h1,fun x hx=>by rw [k2] at hx;cases hx⟩
  |some y=>
   obtain ⟨q,l'⟩:=y
   have hl:=h2 _ ho
   obtain ⟨k1,k2⟩:=k.held i q l' hi' ho
   exact ⟨h1.trans k1 hl,fun x hx=>Nat.le_trans hl (k2 x hx)⟩
theorem tH {b o:Nat} {v:Value} (h:w.cell? ⟨b,o,none⟩=some v):b < w.heap.size:=block_lt_of_cell h
theorem Trans.cell {S S':Sig} (h:Trans S w S' w') {b o:Nat} {v:Value} (hc:w.cell? ⟨b,o,none⟩=some v) (hk:OkC S.lim b o):w'.cell? ⟨b,o,none⟩=some v∧OkC S'.lim b o:=by
 have hb:=tH hc
 cases ho:S.own b with
 |none=>
  obtain ⟨h1,h2⟩:=h.free b hb ho
  exact ⟨by rw [World.cell?_of_block (a:=⟨b,o,none⟩) (w:=w) h1];exact hc,fun s hs=>by simp [Sig.lim,h2] at hs⟩
 |some x=>
  obtain ⟨p,l⟩:=x
  obtain ⟨h1,h2⟩:=h.held b p l hb ho
  have hol:o < l:=hk l (by simp [Sig.lim,ho])
  refine ⟨?_,fun s hs => ?_⟩
  ·unfold World.cell? at hc ⊢
   simp only at hc ⊢
   split at hc
   ·rename_i cur e fz he
    obtain ⟨cur',k1,_,k3⟩:=h1 cur e fz he
    rw [k1]
    simp only at hc ⊢
    rw [k3 o hol]
    exact hc
   ·cases hc
  ·cases ho':S'.own b with
   |none=>simp [Sig.lim,ho'] at hs
   |some y=>
    have:=h2 y ho'
    simp only [Sig.lim,ho',Option.map_some,Option.some.injEq] at hs
    omega
theorem Fz.trans {S S':Sig} {v:Value} {d:D} (hf:Fz S.lim w v d) (h:Trans S w S' w'):Fz S'.lim w' v d:=by
 induction hf with
 |any v=>exact .any v
 |int k n=>exact .int k n
 |bool b=>exact .bool b
 |str s=>exact .str s
 |pv v=>exact .pv v
 |nil=>exact .nil
 |slNil m sz=>exact .slNil m sz
 |slE A sz=>exact .slE A sz
 |sl cv hc hm hr hh _ ih=>
  exact .sl cv hc hm hr (fun k r j d h1 h2=>by
   obtain ⟨g1,g2,g3⟩:=hh k r j d h1 h2
   obtain ⟨q1,q2⟩:=h.cell g1 g2
   exact ⟨q1,q2,g3⟩) ih
 |ptr cv hh _ ih=>
  exact .ptr cv (fun j d h1=>by
   obtain ⟨g1,g2,g3⟩:=hh j d h1
   obtain ⟨q1,q2⟩:=h.cell g1 g2
   exact ⟨q1,q2,g3⟩) ih
 |fn vs hl _ ih=>exact .fn vs hl ih
 |gd _ h0 ih=>exact .gd ih h0
 |agg vs hl h1 _ ih=>exact .agg vs hl h1 ih
 |tup vs hl _ ih=>exact .tup vs hl ih
 |@fmp b clock kd es ents hb hh he hk=>
  have ho:S.own b=none:=by simpa [Sig.lim] using hb
  obtain ⟨k1,k2⟩:=h.free b (Array.getElem?_eq_some_iff.1 hh).1 ho
  exact .fmp (by simp [Sig.lim,k2]) (k1.trans hh) he hk
theorem Fz.mono {lim:Nat→Option Nat} {v:Value} {d:D} (hf:Fz lim w v d) (h:∀ b o v,w.cell? ⟨b,o,none⟩=some v→OkC lim b o→OkC lim' b o) (hn:∀ b,lim b=none→lim' b=none):Fz lim' w v d:=by
 induction hf with
 |any v=>exact .any v
 |int k n=>exact .int k n
 |bool b=>exact .bool b
 |str s=>exact .str s
 |pv v=>exact .pv v
 |nil=>exact .nil
 |slNil m sz=>exact .slNil m sz
 |slE A sz=>exact .slE A sz
 |sl cv hc hm hr hh _ ih=>exact .sl cv hc hm hr (fun k r j d h1 h2=>⟨(hh k r j d h1 h2).1,h _ _ _ (hh k r j d h1 h2).1 (hh k r j d h1 h2).2.1,(hh k r j d h1 h2).2.2⟩) ih
 |ptr cv hh _ ih=>exact .ptr cv (fun j d h1=>⟨(hh j d h1).1,h _ _ _ (hh j d h1).1 (hh j d h1).2.1,(hh j d h1).2.2⟩) ih
 |fn vs hl _ ih=>exact .fn vs hl ih
 |gd _ h0 ih=>exact .gd ih h0
 |agg vs hl h1 _ ih=>exact .agg vs hl h1 ih
 |tup vs hl _ ih=>exact .tup vs hl ih
 |fmp hb hh he hk=>exact .fmp (hn _ hb) hh he hk
theorem Fz.monoL {lim:Nat→Option Nat} {v:Value} {d:D} (hf:Fz lim w v d) (h:∀ b s,lim' b=some s→lim b=some s):Fz lim' w v d:=
 hf.mono (fun b _ _ _ hk s hs=>hk s (h b s hs)) fun b hn=>by
  cases hx:lim' b with
  |none=>rfl
  |some s=>rw [h b s hx] at hn;cases hn
def Place.under (p q:Place):Prop:=p.r=q.r∧∃ l,p.path=q.path++l
theorem Place.under_refl (p:Place):p.under p:=⟨rfl,[],by simp⟩
theorem Place.at_under (p:Place) (i:Nat):(p.at i).under p:=⟨rfl,[i],rfl⟩
theorem Place.under_trans {p q r:Place} (h:p.under q) (k:q.under r):p.under r:=by
 obtain ⟨h1,l,h2⟩:=h
 obtain ⟨k1,m,k2⟩:=k
 exact ⟨h1.trans k1,m++l,by rw [h2,k2,List.append_assoc]⟩
inductive Men (t:Nat):D→Prop
 |ref (off:Nat):Men t (.ref t off)
 |gref (c:Bool) (off:Nat):Men t (.gref c t off)
 |fn {f j:Nat} {cs:List D} {d:D} (h:cs[j]?=some d) (hm:Men t d):Men t (.fn f cs)
 |agg {j:Nat} {cs:List D} {d:D} (h:cs[j]?=some d) (hm:Men t d):Men t (.agg cs)
 |tup {j:Nat} {cs:List D} {d:D} (h:cs[j]?=some d) (hm:Men t d):Men t (.tup cs)
 |obj {j:Nat} {cs:List D} {d:D} (h:cs[j]?=some d) (hm:Men t d):Men t (.obj cs)
theorem gM {α β:Type} {l:List α} {l':List β} {j:Nat} {d:β} (h:l.length=l'.length) (hd:l'[j]?=some d):j < l.length:=by
 rw [h];exact (bC hd)
theorem Fz.men {lim:Nat→Option Nat} {v:Value} {d:D} (h:Fz lim w v d) {t:Nat}:¬ Men t d:=by
 induction h with
 |fn vs hl _ ih=>
  intro hm
  cases hm with|fn hd hm=>exact ih _ _ _ hd (List.getElem?_eq_getElem (gM hl hd)) hm
 |agg vs hl _ _ ih=>
  intro hm
  cases hm with|agg hd hm=>exact ih _ _ _ hd (List.getElem?_eq_getElem (gM hl hd)) hm
 |tup vs hl _ ih=>
  intro hm
  cases hm with|tup hd hm=>exact ih _ _ _ hd (List.getElem?_eq_getElem (gM hl hd)) hm
 |_=>intro hm;cases hm
theorem Rep.trans {S S':Sig} {p:Place} {v:Value} {d:D} (hr:Rep S w p v d) (hw:WF S w) (h:Trans S w S' w') (h0:S'.loc 0=S.loc 0)
  (ho:∀ b q l,S.own b=some (q,l)→q.under p→w'.heap[b]?=w.heap[b]?∧S'.own b=some (q,l))
  (hp:p.path = []→S'.loc p.r=S.loc p.r)
  (hl:∀ t,Men t d→S.own (S.loc (t+2))=some (.slot t,0)→S'.loc (t+2)=S.loc (t+2)∧S'.own (S.loc (t+2))=some (.slot t,0)):Rep S' w' p v d:=by
 induction hr with
 |fz hf=>exact .fz (hf.trans h)
 |@own p b cap m sz rows cur e g=>
  obtain ⟨h1,h2⟩:=ho b p _ g.own (Place.under_refl p)
  exact .own ⟨g.mode,h1.trans g.heap,g.le,g.max,g.size,g.each,h2,fun k r j d k1 k2=>by
   obtain ⟨u,u1,u2,u3⟩:=g.cells k r j d k1 k2
   exact ⟨u,u1,u2,u3.trans h⟩⟩
 |@mp p b clock kd es ents hb hh he hk=>
  obtain ⟨k1,k2⟩:=ho b p _ hb (Place.under_refl p)
  exact .mp k2 (k1.trans hh) he hk
 |@obj t b path cs cur e hb hpath hloc hh hs h1 _ ih=>
  subst hpath
  obtain ⟨k1,k2⟩:=ho b _ _ hb (Place.under_refl _)
  exact .obj k2 rfl ((hp rfl).trans hloc) (k1.trans hh) hs h1 fun i d v hd hv=>ih i d v hd hv (fun b' q l hq hu=>ho b' q l hq (Place.under_trans hu ⟨rfl,[i],rfl⟩)) (fun e=>by cases e) fun t' hm=>hl t' (.obj hd hm)
 |@ref p t off g=>
  obtain ⟨q1,q2⟩:=hl t (.ref off) g
  rw [← q1]
  exact .ref (by rw [q1];exact q2)
 |@gref p t off c v g hv=>
  obtain ⟨q1,q2⟩:=hl t (.gref c off) g
  exact .gref (by rw [q1];exact q2) (by rw [q1];exact hv)
 |@fn p f ds vs hln _ ih=>exact .fn vs hln fun j d v hd hv=>ih j d v hd hv (fun b q l hq hu=>h.foreign b q l (hw _ _ hq) hq hu.1) (fun _=>h0) fun t hm=>hl t (.fn hd hm)
 |agg vs hln h1 _ ih=>exact .agg vs hln h1 fun j d v hd hv=>ih j d v hd hv (fun b q l hq hu=>ho b q l hq (Place.under_trans hu (Place.at_under _ j))) (fun e=>by simp [Place.at] at e) fun t hm=>hl t (.agg hd hm)
 |tup vs hln _ ih=>exact .tup vs hln fun j d v hd hv=>ih j d v hd hv (fun b q l hq hu=>ho b q l hq (Place.under_trans hu (Place.at_under _ j))) (fun e=>by simp [Place.at] at e) fun t hm=>hl t (.tup hd hm)
end Go.Proofs.YtnjgoldinaffgaaGreatDoor
namespace Go.Proofs.YtnjgoldinaffgaaGreatDoor
set_option linter.unusedSimpArgs false
set_option linter.unusedVariables false
open Go.RowKit
variable {S S':Sig} {a:Act} {p:Place} {w w':World}
theorem Fz.tup_inv {lim:Nat→Option Nat} {v:Value} {ds:List D} (h:Fz lim w v (.tup ds)):∃ vs:List Value,v=.tuple vs.toArray∧vs.length=ds.length∧∀ (j:Nat) (d:D) (u:Value),ds[j]?=some d→vs[j]?=some u→Fz lim w u d:=by
 cases h with
 |tup vs hl ih=>exact ⟨vs,rfl,hl,ih⟩
theorem Fz.agg_inv {lim:Nat→Option Nat} {v:Value} {ds:List D} (h:Fz lim w v (.agg ds)):∃ vs:List Value,v=.agg vs.toArray∧vs.length=ds.length∧(∀ u:Value,u ∈ vs→u.oneCell'=true)∧∀ (j:Nat) (d:D) (u:Value),ds[j]?=some d→vs[j]?=some u→Fz lim w u d:=by
 cases h with
 |agg vs hl h1 ih=>exact ⟨vs,rfl,hl,h1,ih⟩
theorem Rep.agg_inv {v:Value} {ds:List D} (h:Rep S w p v (.agg ds)):∃ vs:List Value,v=.agg vs.toArray∧vs.length=ds.length∧(∀ u:Value,u ∈ vs→u.oneCell'=true)∧∀ (j:Nat) (d:D) (u:Value),ds[j]?=some d→vs[j]?=some u→Rep S w (p.at j) u d:=by
 cases h with
 |fz hf=>
  obtain ⟨vs,h1,h2,h3,h4⟩:=hf.agg_inv
  exact ⟨vs,h1,h2,h3,fun j d u hd hu=>.fz (h4 j d u hd hu)⟩
 |agg vs hl h1 ih=>exact ⟨vs,rfl,hl,h1,ih⟩
theorem Rep.tup_inv {v:Value} {ds:List D} (h:Rep S w p v (.tup ds)):∃ vs:List Value,v=.tuple vs.toArray∧vs.length=ds.length∧∀ (j:Nat) (d:D) (u:Value),ds[j]?=some d→vs[j]?=some u→Rep S w (p.at j) u d:=by
 cases h with
 |fz hf=>
  obtain ⟨vs,h1,h2,h4⟩:=hf.tup_inv
  exact ⟨vs,h1,h2,fun j d u hd hu=>.fz (h4 j d u hd hu)⟩
 |tup vs hl ih=>exact ⟨vs,rfl,hl,ih⟩
theorem Rep.int_inv {v:Value} {k:IntKind} {n:Int} (h:Rep S w p v (.int k n)):v=.int k n:=by
 cases h with|fz h=>cases h;rfl
theorem Rep.bool_inv {v:Value} {b:Bool} (h:Rep S w p v (.bool b)):v=.bool b:=by
 cases h with|fz h=>cases h;rfl
theorem Rep.str_inv {v:Value} {s:List UInt8} (h:Rep S w p v (.str s)):v=.string ⟨s.toArray⟩:=by
 cases h with|fz h=>cases h;rfl
theorem Rep.pv_inv {v u:Value} (h:Rep S w p v (.pv u)):v=u:=by
 cases h with|fz h=>cases h;rfl
theorem Rep.nil_inv {v:Value} (h:Rep S w p v .nil):v=.slice none 0 0:=by
 cases h with|fz h=>cases h;rfl
theorem Rep.gd_inv {v:Value} {c:Bool} {d:D} (h:Rep S w p v (.gd c d)):(c=true→Fz S.lim w v d)∧(c=false→v=undef):=by
 cases h with|fz h=>cases h with|gd h1 h0=>exact ⟨h1,h0⟩
theorem OwnAt.fz {b cap sz:Nat} {rows:List (List D)} {cur:Array Value} {e:TypeId} (h:OwnAt S w p b cap 1 sz rows cur e):Fz S.lim w (.slice (some ⟨b,0,none⟩) rows.length cap) (.sl 0 sz rows):=by
 have hex:∀ k j,∃ v:Value,∀ r d,rows[k]?=some r→r[j]?=some d→cur[k * sz+j]?=some v∧v.oneCell'=true∧Fz S.lim w v d:=fun k j=>by
  cases hr:rows[k]? with
  |none=>exact ⟨undef,fun r d h1=>by cases h1⟩
  |some r=>
   cases hd:r[j]? with
   |none=>exact ⟨undef,fun r' d h1 h2=>by cases h1;rw [hd] at h2;cases h2⟩
   |some d=>
    obtain ⟨v,hv⟩:=h.cells k r j d hr hd
    exact ⟨v,fun r' d' h1 h2=>by cases h1;rw [hd] at h2;cases h2;exact hv⟩
 let cv:Nat→Nat→Value:=fun k j=>Classical.choose (hex k j)
 have hcv:∀ k j r d,rows[k]?=some r→r[j]?=some d→cur[k * sz+j]?=some (cv k j)∧(cv k j).oneCell'=true∧Fz S.lim w (cv k j) d:=fun k j=>Classical.choose_spec (hex k j)
 refine .sl cv h.le h.max (fun k r hr=>h.each r (aK hr)) (fun k r j d hr hd => ?_) (fun k r j d hr hd=>(hcv k j r d hr hd).2.2)
 obtain ⟨h1,h2,_⟩:=hcv k j r d hr hd
 refine ⟨by rw [cell_of_row w b _ cur e (0,0) h.heap,Nat.zero_add];exact h1,fun s hs => ?_,h2⟩
 have ho:=h.own
 simp only [show ¬ ((1:Nat)=2) by decide,if_false] at ho
 simp only [Sig.lim,ho,Option.map_some,Option.some.injEq] at hs
 have hk:k < rows.length:=(bC hr)
 have hj:j < sz:=by rw [← h.each r (aK hr)];exact (bC hd)
 have:(k+1) * sz≤rows.length * sz:=Nat.mul_le_mul_right _ hk
 rw [Nat.add_mul] at this
 omega
inductive DLe:D→D→Prop
 |refl (d:D):DLe d d
 |any (d:D):DLe d .any
 |nil (m sz:Nat):DLe .nil (.sl m sz [])
 |own (sz:Nat) (rows:List (List D)):DLe (.sl 1 sz rows) (.sl 0 sz rows)
 |gd {c:Bool} {d d':D} (hc:c=true) (h:DLe d d'):DLe (.gd c d) d'
 |agg {ds ds':List D} (hl:ds'.length=ds.length) (h:∀ (j:Nat) (d d':D),ds[j]?=some d→ds'[j]?=some d'→DLe d d'):DLe (.agg ds) (.agg ds')
 |tup {ds ds':List D} (hl:ds'.length=ds.length) (h:∀ (j:Nat) (d d':D),ds[j]?=some d→ds'[j]?=some d'→DLe d d'):DLe (.tup ds) (.tup ds')
 |rows {m sz:Nat} {rs rs':List (List D)} (hl:rs'.length=rs.length) (he:∀ (k:Nat) (r r':List D),rs[k]?=some r→rs'[k]?=some r'→r'.length=r.length)
   (h:∀ (k:Nat) (r r':List D) (j:Nat) (d d':D),rs[k]?=some r→rs'[k]?=some r'→r[j]?=some d→r'[j]?=some d'→DLe d d'):DLe (.sl m sz rs) (.sl m sz rs')
theorem lX {rs rs':List (List D)} (hl:rs'.length=rs.length) (he:∀ (k:Nat) (r r':List D),rs[k]?=some r→rs'[k]?=some r'→r'.length=r.length) {k:Nat} {r':List D} (hk:rs'[k]?=some r'):∃ r,rs[k]?=some r∧r'.length=r.length:=by
 have hlt:k < rs.length:=by rw [← hl];exact (bC hk)
 exact ⟨rs[k],List.getElem?_eq_getElem hlt,he k _ _ (List.getElem?_eq_getElem hlt) hk⟩
theorem iK {r r':List D} (hl:r'.length=r.length) {j:Nat} {d':D} (hj:r'[j]?=some d'):∃ d,r[j]?=some d:=by
 have hlt:j < r.length:=by rw [← hl];exact (bC hj)
 exact ⟨r[j],List.getElem?_eq_getElem hlt⟩
theorem Fz.le {lim:Nat→Option Nat} {d d':D} (hd:DLe d d'):∀ {v:Value},Fz lim w v d→Fz lim w v d':=by
 induction hd with
 |refl d=>exact fun h=>h
 |any d=>exact fun _=>.any _
 |nil m sz=>intro v h;cases h with|nil=>exact .slNil m sz
 |own sz rows=>intro v h;cases h with|slNil=>exact .slNil 0 sz
 |gd hc _ ih=>intro v h;cases h with|gd h1 h0=>exact ih (h1 hc)
 |@agg ds ds' hl _ ih=>
  intro v h
  obtain ⟨vs,rfl,h2,h3,h4⟩:=h.agg_inv
  refine .agg vs (h2.trans hl.symm) h3 fun j d' u hd' hu => ?_
  obtain ⟨d,hd⟩:=iK hl hd'
  exact ih j d d' hd hd' (h4 j d u hd hu)
 |@tup ds ds' hl _ ih=>
  intro v h
  obtain ⟨vs,rfl,h2,h4⟩:=h.tup_inv
  refine .tup vs (h2.trans hl.symm) fun j d' u hd' hu => ?_
  obtain ⟨d,hd⟩:=iK hl hd'
  exact ih j d d' hd hd' (h4 j d u hd hu)
 |@rows m sz rs rs' hl he _ ih=>
  intro v h
  cases h with
  |slNil=>
   obtain rfl:rs' = []:=List.eq_nil_of_length_eq_zero hl
   exact .slNil m sz
  |slE A=>
   obtain rfl:rs' = []:=List.eq_nil_of_length_eq_zero hl
   exact .slE A sz
  |sl cv hc hm hr hh ih'=>
   rw [← hl]
   refine .sl cv (by rw [hl];exact hc) hm (fun k r' hk => ?_) (fun k r' j d' hk hd => ?_) fun k r' j d' hk hd => ?_
   ·obtain ⟨r,h1,h2⟩:=lX hl he hk
    rw [h2]
    exact hr k r h1
   ·obtain ⟨r,h1,h2⟩:=lX hl he hk
    obtain ⟨d,h3⟩:=iK h2 hd
    exact hh k r j d h1 h3
   ·obtain ⟨r,h1,h2⟩:=lX hl he hk
    obtain ⟨d,h3⟩:=iK h2 hd
    exact ih k r r' j d d' h1 hk h3 hd (ih' k r j d h1 h3)
theorem Rep.le {d d':D} (hd:DLe d d'):∀ {p:Place} {v:Value},Rep S w p v d→Rep S w p v d':=by
 induction hd with
 |refl d=>exact fun h=>h
 |any d=>exact fun _=>.fz (.any _)
 |nil m sz=>intro p v h;rw [h.nil_inv];exact .fz (.slNil m sz)
 |own sz rows=>
  intro p v h
  cases h with
  |fz h=>
   cases h with
   |slNil=>exact .fz (.slNil 0 sz)
  |own g=>exact .fz g.fz
 |gd hc _ ih=>intro p v h;exact ih (.fz (h.gd_inv.1 hc))
 |@agg ds ds' hl _ ih=>
  intro p v h
  obtain ⟨vs,rfl,h2,h3,h4⟩:=h.agg_inv
  refine .agg vs (h2.trans hl.symm) h3 fun j d' u hd' hu => ?_
  have hj:j < ds.length:=by rw [← hl];exact (List.getElem?_eq_some_iff.1 hd').1
  exact ih j ds[j] d' (List.getElem?_eq_getElem hj) hd' (h4 j _ u (List.getElem?_eq_getElem hj) hu)
 |@tup ds ds' hl _ ih=>
  intro p v h
  obtain ⟨vs,rfl,h2,h4⟩:=h.tup_inv
  refine .tup vs (h2.trans hl.symm) fun j d' u hd' hu => ?_
  have hj:j < ds.length:=by rw [← hl];exact (List.getElem?_eq_some_iff.1 hd').1
  exact ih j ds[j] d' (List.getElem?_eq_getElem hj) hd' (h4 j _ u (List.getElem?_eq_getElem hj) hu)
 |@rows m sz rs rs' hl he hh _=>
  intro p v h
  cases h with
  |fz h=>exact .fz (Fz.le (.rows hl he hh) h)
  |own g=>
   rw [← hl]
   refine .own ⟨g.mode,g.heap,by rw [hl];exact g.le,g.max,g.size,fun r' hr => ?_,by rw [hl];exact g.own,fun k r' j d' hk hd => ?_⟩
   ·obtain ⟨k,hk⟩:=List.mem_iff_getElem?.1 hr
    obtain ⟨r,h1,h2⟩:=lX hl he hk
    rw [h2]
    exact g.each r (aK h1)
   ·obtain ⟨r,h1,h2⟩:=lX hl he hk
    obtain ⟨d,h3⟩:=iK h2 hd
    obtain ⟨u,u1,u2,u3⟩:=g.cells k r j d h1 h3
    exact ⟨u,u1,u2,Fz.le (hh k r r' j d d' h1 hk h3 hd) u3⟩
def D.one:D→Bool
 |.int _ _ | .bool _ | .str _ | .nil | .sl 0 _ _ | .ptr _ | .fmp _ _=>true
 |.pv v=>v.oneCell'
 |_=>false
def D.cellsOf:D→Option (List D)
 |.agg cs=>if cs.all D.one then some cs else none
 |.fn f cs=>if cs.all D.one then some [.fn f cs] else none
 |d=>if d.one then some [d] else none
def D.plain:D→Bool
 |.agg cs=>cs.all D.one
 |.tup ds=>ds.all fun d=>match d with
  |.agg cs=>cs.all D.one
  |d=>d.one
 |.any | .gd _ _ | .ref _ _ | .gref _ _ _=>true
 |.fn _ caps=>caps.all fun d=>match d with
  |.ref _ _=>true
  |d=>d.one
 |d=>d.one
def D.owns:D→Bool
 |.sl (_+1) _ _=>true
 |.mp _ _=>true
 |.obj _=>true
 |.agg cs => !(D.agg cs).plain
 |.tup ds => !(D.tup ds).plain
 |_=>false
def bM (fr:List D) (d:D):Prop:=∀ t,Men t d→∃ cs,fr[t]?=some (.obj cs)
def D.isObj:D→Bool
 |.obj _=>true
 |_=>false
def D.isNm:D→Bool
 |.al _ | .alc _ _ | .el _ _ _ _ _ | .es _ _ _ _=>true
 |_=>false
structure ObjAt (S:Sig) (fr:List D) (u:Nat):Prop where
 obj:∃ cs,fr[u]?=some (.obj cs)
 own:S.own (S.loc (u+2))=some (.slot u,0)
def zAe (s:Value) (sz k j:Nat) (v:Value):Prop:=∃ b len cap,s=.slice (some ⟨b,0,none⟩) len cap∧v=.pointer (some ⟨b,k * sz+j,none⟩)
def SlotRep (S:Sig) (w:World) (a:Act) (fr:List D) (i:Nat) (v:Value):D→Prop
 |.al u=>a.tmps[u]?=some v∧∃ d',fr[u]?=some d'∧d'.owns=true∧u ≠ i
 |.alc u off=>ObjAt S fr u∧w.cell? ⟨S.loc (u+2),off,none⟩=some v
 |.el u off sz k j=>ObjAt S fr u∧∃ s,w.cell? ⟨S.loc (u+2),off,none⟩=some s∧zAe s sz k j v
 |.es u sz k j=>(∃ d',fr[u]?=some d'∧d'.owns=true∧u ≠ i)∧∃ s,a.tmps[u]?=some s∧zAe s sz k j v
 |d=>Rep S w (.slot i) v d∧bM fr d
structure FR (S:Sig) (w:World) (a:Act) (fr:List D):Prop where
 wf:WF S w
 size:a.tmps.size=fr.length
 defers:a.defers = []
 slot:∀ (i:Nat) (d:D) (v:Value),fr[i]?=some d→a.tmps[i]?=some v→SlotRep S w a fr i v d
theorem SlotRep.of {fr:List D} {i:Nat} {v:Value} {d:D} (h:Rep S w (.slot i) v d) (hf:bM fr d):SlotRep S w a fr i v d:=by
 cases d with
 |al u=>cases h with|fz h=>cases h
 |alc u o=>cases h with|fz h=>cases h
 |el u o sz k j=>cases h with|fz h=>cases h
 |es u sz k j=>cases h with|fz h=>cases h
 |_=>exact ⟨h,hf⟩
theorem SlotRep.rep {fr:List D} {i:Nat} {v:Value} {d:D} (h:SlotRep S w a fr i v d) (hn:d.isNm=false):Rep S w (.slot i) v d∧bM fr d:=by
 cases d with
 |al u=>cases hn
 |alc u o=>cases hn
 |el u o sz k j=>cases hn
 |es u sz k j=>cases hn
 |_=>exact h
theorem D.nm_owns {d:D} (h:d.owns=true):d.isNm=false:=by cases d<;>first|rfl|cases h
theorem ObjAt.mono {w w':World} {fr fr':List D} {u:Nat} (h:ObjAt S fr u) (hf:∃ cs,fr'[u]?=some (.obj cs)) (hl:S'.loc (u+2)=S.loc (u+2)) (ho:S'.own (S.loc (u+2))=S.own (S.loc (u+2))):ObjAt S' fr' u:=
 ⟨hf,by rw [hl,ho];exact h.own⟩
theorem Rep.obj_cell {u off:Nat} {v x:Value} {cs:List D} {d:D} (h:Rep S w (.slot u) v (.obj cs)) (hd:cs[off]?=some d) (hc:w.cell? ⟨S.loc (u+2),off,none⟩=some x):Rep S w ⟨u+2,[off]⟩ x d:=by
 cases h with
 |fz h=>cases h
 |obj hb hp hl hh hs h1 ih=>
  have hl':S.loc (u+2)=_:=hl
  rw [hl',cell_of_row w _ _ _ _ (0,0) hh] at hc
  exact ih off d x hd hc
theorem FR.at {fr:List D} (h:FR S w a fr) {i:Nat} {d:D} (hd:fr[i]?=some d):∃ v,a.tmps[i]?=some v∧SlotRep S w a fr i v d:=by
 have hi:i < a.tmps.size:=by rw [h.size];exact (bC hd)
 exact ⟨a.tmps[i],by simp [hi],h.slot i d _ hd (by simp [hi])⟩
def nH:Value→D
 |.int k n=>.int k n
 |.bool b=>.bool b
 |.string s=>.str s.data.toList
 |.slice none 0 0=>.nil
 | .agg cs=>.agg (cs.toList.map fun v=>match v with
  |.int k n=>.int k n
  |.bool b=>.bool b
  |.string s=>.str s.data.toList
  |.slice none 0 0=>.nil
  | v=>.pv v)
 |v=>.pv v
def bD (fr:List D):Operand→D
 |.tmp t=>match fr[t]? with
  |some (.al u)=>(fr[u]?).getD .any
  |some (.alc u off)=>match fr[u]? with
   |some (.obj cs)=>(cs[off]?).getD .any
   |_=>.any
  |some (.el _ _ _ _ _)=>.any
  |some (.es _ _ _ _)=>.any
  |some d=>d
  |none=>.any
 |.const (.agg _)=>.any
 |.const v=>nH v
 |.global _=>.any
 |.func f=>.fn f []
theorem mB {lim:Nat→Option Nat} (v:Value) (hv:∀ cs,v ≠ .agg cs):Fz lim w v (nH v):=by
 cases v with
 |int k n=>exact .int k n
 |bool b=>exact .bool b
 |string s=>exact .str s.data.toList
 |slice a l c=>
  cases a with
  |some x=>exact .pv _
  |none=>cases l with
   |succ n=>exact .pv _
   |zero=>cases c with
    |zero=>exact .nil
    |succ n=>exact .pv _
 |agg cs=>exact absurd rfl (hv cs)
 |_=>exact .pv _
theorem FR.eval {fr:List D} (h:FR S w a fr) (x:Operand):∃ q,Rep S w q (a.eval x) (bD fr x):=by
 cases x with
 |tmp t=>
  unfold bD Act.eval
  simp only
  cases hd:fr[t]? with
  |none=>exact ⟨.dead,.fz (.any _)⟩
  |some d=>
   obtain ⟨v,hv,hr⟩:=h.at hd
   have he:a.tmps.getD t undef=v:=by simp [Array.getD_eq_getD_getElem?,hv]
   rw [he]
   cases d with
   |al u=>
    obtain ⟨h1,d',h2,h3,_⟩:=hr
    simp only [h2,Option.getD_some]
    exact ⟨.slot u,((h.slot u d' v h2 h1).rep (D.nm_owns h3)).1⟩
   |alc u off=>
    obtain ⟨⟨⟨cs,h1⟩,h2⟩,h3⟩:=hr
    simp only [h1]
    cases hc:cs[off]? with
    |none=>exact ⟨.dead,.fz (.any _)⟩
    |some d=>
     obtain ⟨v',hv',hr'⟩:=h.at h1
     exact ⟨_,hr'.1.obj_cell hc h3⟩
   |el u off sz k j=>exact ⟨.dead,.fz (.any _)⟩
   |es u sz k j=>exact ⟨.dead,.fz (.any _)⟩
   |_=>exact ⟨.slot t,hr.1⟩
 |const v=>
  unfold bD Act.eval
  cases v with
  |agg cs=>exact ⟨.dead,.fz (.any _)⟩
  |_=>exact ⟨.dead,.fz (mB _ (by intro cs hc;cases hc))⟩
 |global g=>exact ⟨.dead,.fz (.any _)⟩
 |func f=>exact ⟨.dead,.fz (.fn [] rfl (fun j d v hd=>by simp at hd))⟩
structure PT (S:Sig) (w:World) (S':Sig) (w':World):Prop where
 ext:Ext w w'
 own:∀ b,b < w.heap.size→S'.own b=S.own b
 loc:S'.loc=S.loc
 wf:WF S' w'
theorem Ext.block (h:Ext w w') {b:Nat} (hb:b < w.heap.size):w'.heap[b]?=w.heap[b]?:=Below.block h b hb
theorem PT.trans (h:PT S w S' w'):Trans S w S' w':=by
 refine ⟨h.ext.os,h.ext.tape,h.ext.output,h.ext.sizeOf,fun b hb hn=>⟨h.ext.block hb,by rw [h.own b hb,hn]⟩,fun b p l hb hs _=>⟨h.ext.block hb,by rw [h.own b hb,hs]⟩,fun b p l hb hs=>⟨Keeps.of_eq (h.ext.block hb),fun x hx => ?_⟩,by rw [h.loc]⟩
 rw [h.own b hb,hs] at hx
 cases hx
 exact Nat.le_refl _
theorem PT.rep (h:PT S w S' w') (hw:WF S w) {v:Value} {d:D} (hr:Rep S w p v d):Rep S' w' p v d:=by
 refine hr.trans hw h.trans (by rw [h.loc]) (fun b q l hs _=>⟨h.ext.block (hw _ _ hs),by rw [h.own b (hw _ _ hs),hs]⟩) (fun _=>by rw [h.loc]) fun t _ ht => ?_
 rw [h.loc]
 exact ⟨rfl,by rw [h.own _ (hw _ _ ht),ht]⟩
theorem PT.refl (hw:WF S w):PT S w S w:=⟨Ext.refl w,fun _ _=>rfl,rfl,hw⟩
theorem PT.comp {S1 S2 S3:Sig} {a b c:World} (h:PT S1 a S2 b) (k:PT S2 b S3 c):PT S1 a S3 c:=
 ⟨h.ext.trans k.ext,fun i hi=>(k.own i (Nat.lt_of_lt_of_le hi h.ext.sizeOf)).trans (h.own i hi),k.loc.trans h.loc,k.wf⟩
theorem PT.ext' (hw:WF S w) (h:Ext w w'):PT S w S w':=⟨h,fun _ _=>rfl,rfl,⟨fun b x hx=>Nat.lt_of_lt_of_le (hw b x hx) h.sizeOf,hw.gl.keep fun b hb hn=>⟨h.block hb,hn⟩⟩⟩
theorem gL {t:Nat} {v:Value} (ht:t < a.tmps.size):(a.put (some t) v).tmps[t]?=some v:=by simp [Act.put,Array.getElem?_setIfInBounds,ht]
theorem bQ {t i:Nat} {v:Value} (h:i ≠ t):(a.put (some t) v).tmps[i]?=a.tmps[i]?:=by simp [Act.put,Array.getElem?_setIfInBounds_ne (Ne.symm h)]
theorem FR.put {fr:List D} (h:FR S w a fr) (hp:PT S w S' w') {t:Nat} {v:Value} {d d0:D} (h0:fr[t]?=some d0) (hn:d0.owns=false) (hr:Rep S' w' (.slot t) v d) (hf:bM fr d):FR S' w' (a.put (some t) v) (fr.set t d):=by
 have hlt:t < fr.length:=(bC h0)
 have hrk:∀ e,bM fr e→bM (fr.set t d) e:=fun e he x hx=>by
  obtain ⟨cs,hc⟩:=he x hx
  have hxt:t ≠ x:=fun e=>by subst e;rw [h0] at hc;cases hc;cases hn
  exact ⟨cs,by rw [List.getElem?_set_ne hxt];exact hc⟩
 have hobj:∀ {x},ObjAt S fr x→ObjAt S' (fr.set t d) x:=fun {x} hx=>by
  obtain ⟨cs,hc⟩:=hx.obj
  have hxt:t ≠ x:=fun e=>by subst e;rw [h0] at hc;cases hc;cases hn
  exact hx.mono (w:=w) (w':=w') ⟨cs,by rw [List.getElem?_set_ne hxt];exact hc⟩ (by rw [hp.loc]) (hp.own _ (h.wf _ _ hx.own))
 have hcel:∀ {x o y},ObjAt S fr x→w.cell? ⟨S.loc (x+2),o,none⟩=some y→w'.cell? ⟨S'.loc (x+2),o,none⟩=some y:=fun {x o y} hx hy=>by
  rw [hp.loc,World.cell?_of_block (a:=⟨S.loc (x+2),o,none⟩) (w:=w) (hp.ext.block (h.wf _ _ hx.own))]
  exact hy
 refine ⟨hp.wf,by simp [Act.put,h.size],by simp [Act.put,h.defers],fun i e u hi hu => ?_⟩
 by_cases hit:i=t
 ·subst hit
  rw [List.getElem?_set_self hlt] at hi
  rw [gL (by rw [h.size];exact hlt)] at hu
  cases hi;cases hu
  exact SlotRep.of hr (hrk _ hf)
 ·rw [List.getElem?_set_ne (Ne.symm hit)] at hi
  rw [bQ hit] at hu
  have:=h.slot i e u hi hu
  cases e with
  |al x=>
   obtain ⟨h1,d',h2,h3,h4⟩:=this
   have hxt:x ≠ t:=fun e=>by subst e;rw [h0] at h2;cases h2;rw [hn] at h3;cases h3
   exact ⟨by rw [bQ hxt];exact h1,d',by rw [List.getElem?_set_ne (Ne.symm hxt)];exact h2,h3,h4⟩
  |alc x o=>exact ⟨hobj this.1,hcel this.1 this.2⟩
  |el x o sz k j=>
   obtain ⟨h1,s,h2,h3⟩:=this
   exact ⟨hobj h1,s,hcel h1 h2,h3⟩
  |es x sz k j=>
   obtain ⟨⟨d',h2,h3,h4⟩,s,h1,h5⟩:=this
   have hxt:x ≠ t:=fun e=>by subst e;rw [h0] at h2;cases h2;rw [hn] at h3;cases h3
   exact ⟨⟨d',by rw [List.getElem?_set_ne (Ne.symm hxt)];exact h2,h3,h4⟩,s,by rw [bQ hxt];exact h1,h5⟩
  |_=>exact ⟨hp.rep h.wf this.1,hrk _ this.2⟩
theorem FR.drop {fr:List D} (h:FR S w a fr) (hp:PT S w S' w'):FR S' w' a fr:=
 ⟨hp.wf,h.size,h.defers,fun i e u hi hu=>by
  have:=h.slot i e u hi hu
  have hobj:∀ {x},ObjAt S fr x→ObjAt S' fr x:=fun {x} hx=>hx.mono (w:=w) (w':=w') hx.obj (by rw [hp.loc]) (hp.own _ (h.wf _ _ hx.own))
  have hcel:∀ {x o y},ObjAt S fr x→w.cell? ⟨S.loc (x+2),o,none⟩=some y→w'.cell? ⟨S'.loc (x+2),o,none⟩=some y:=fun {x o y} hx hy=>by
   rw [hp.loc,World.cell?_of_block (a:=⟨S.loc (x+2),o,none⟩) (w:=w) (hp.ext.block (h.wf _ _ hx.own))]
   exact hy
  cases e with
  |al x=>exact this
  |alc x o=>exact ⟨hobj this.1,hcel this.1 this.2⟩
  |el x o sz k j=>
   obtain ⟨h1,s,h2,h3⟩:=this
   exact ⟨hobj h1,s,hcel h1 h2,h3⟩
  |es x sz k j=>exact this
  | _=>exact ⟨hp.rep h.wf this.1,this.2⟩⟩
end Go.Proofs.YtnjgoldinaffgaaGreatDoor
namespace Go.Proofs.YtnjgoldinaffgaaGreatDoor
set_option linter.unusedSimpArgs false
set_option linter.unusedVariables false
open Go.RowKit
variable {clock:Nat} {es:List (Value × Value)} {et kt t:TypeId} {kd:KD} {ts:Array TypeId} {x:Operand}
def zGn (P:Program) (k:TypeId):KD→Prop
 |.int q=>P.underlying k=some (.int q)
 |.str=>P.underlying k=some .string
 |.bool=>P.underlying k=some .bool
 |.st ks=>TEq P k ks
class TMap (P:Program) (t:TypeId) (k e:outParam TypeId) (kd:outParam KD):Prop where
 h:P.underlying t=some (.map k e)
 key:zGn P k kd
class TZ1 (P:Program) (t:TypeId) (z:outParam Value):Prop where
 h:(P.info? t).map (·.zero)=some (some z)
theorem tB:∀ {ks:List Nat} {xs:List Value},zAp ks xs=true→ks.length=xs.length∧∀ (j k:Nat),ks[j]?=some k→∃ x,xs[j]?=some x∧((k=1∧∃ s,x=.string s)∨(k=2∧∃ b,x=.bool b)∨(k=0∧∃ n,x=.int .i64 n))
 |[],[],_=>⟨rfl,fun j k h=>by simp at h⟩
 |1::ks,.string s::xs,h=>by
  obtain ⟨h1,h2⟩:=tB (ks:=ks) (xs:=xs) h
  refine ⟨by simp [h1],fun j k hj => ?_⟩
  cases j with
  |zero=>cases hj;exact ⟨_,rfl,.inl ⟨rfl,s,rfl⟩⟩
  |succ j=>exact h2 j k (by simpa using hj)
 |2::ks,.bool b::xs,h=>by
  obtain ⟨h1,h2⟩:=tB (ks:=ks) (xs:=xs) h
  refine ⟨by simp [h1],fun j k hj => ?_⟩
  cases j with
  |zero=>cases hj;exact ⟨_,rfl,.inr (.inl ⟨rfl,b,rfl⟩)⟩
  |succ j=>exact h2 j k (by simpa using hj)
 |0::ks,.int .i64 n::xs,h=>by
  obtain ⟨h1,h2⟩:=tB (ks:=ks) (xs:=xs) h
  refine ⟨by simp [h1],fun j k hj => ?_⟩
  cases j with
  |zero=>cases hj;exact ⟨_,rfl,.inr (.inr ⟨rfl,n,rfl⟩)⟩
  |succ j=>exact h2 j k (by simpa using hj)
theorem oX:∀ {ks:List Nat} {xs ys:List Value},zAp ks xs=true→zAp ks ys=true→bZ ks xs ys=true∧(eO xs ys=true→xs=ys)
 |[],[],[],_,_=>⟨rfl,fun _=>rfl⟩
 |1::ks,.string s::xs,.string u::ys,h,k=>by
  obtain ⟨h1,h2⟩:=oX (ks:=ks) (xs:=xs) (ys:=ys) h k
  refine ⟨by simpa [bZ] using h1,fun he => ?_⟩
  simp only [eO,veq,Bool.and_eq_true,beq_iff_eq] at he
  rw [h2 he.2]
  congr 2
  obtain ⟨⟨s⟩⟩:=s
  obtain ⟨⟨u⟩⟩:=u
  simpa using he.1
 |2::ks,.bool s::xs,.bool u::ys,h,k=>by
  obtain ⟨h1,h2⟩:=oX (ks:=ks) (xs:=xs) (ys:=ys) h k
  refine ⟨by simpa [bZ] using h1,fun he => ?_⟩
  simp only [eO,veq,Bool.and_eq_true,beq_iff_eq] at he
  rw [h2 he.2,he.1]
 |0::ks,.int .i64 s::xs,.int .i64 u::ys,h,k=>by
  obtain ⟨h1,h2⟩:=oX (ks:=ks) (xs:=xs) (ys:=ys) h k
  refine ⟨h1,fun he => ?_⟩
  simp only [eO,veq,Bool.and_eq_true,beq_iff_eq] at he
  rw [h2 he.2,he.1]
theorem pZ:∀ {ks:List Nat} {xs:List Value},zAp ks xs=true→eO xs xs=true
 |[],[],_=>rfl
 |1::ks,.string s::xs,h=>by simpa [eO,veq] using pZ (ks:=ks) (xs:=xs) h
 |2::ks,.bool s::xs,h=>by simpa [eO,veq] using pZ (ks:=ks) (xs:=xs) h
 |0::ks,.int .i64 s::xs,h=>by simpa [eO,veq] using pZ (ks:=ks) (xs:=xs) h
theorem zHF (a b:ByteArray):(a == b)=(a.data.toList == b.data.toList):=by
 rw [Bool.eq_iff_iff,MapKept.bytes_beq]
 obtain ⟨⟨a⟩⟩:=a
 obtain ⟨⟨b⟩⟩:=b
 simp
theorem zDo {a b:Value} (ha:fC kd a=true) (hb:fC kd b=true) (h:gW a b=true):a=b:=by
 cases kd with
 |int q=>
  cases a<;>try (cases ha;done)
  cases b<;>try (cases hb;done)
  rw [← jV ha,← jV hb]
  simp only [gW,veq,beq_iff_eq] at h
  rw [h]
 |str=>
  cases a<;>try (cases ha;done)
  cases b<;>try (cases hb;done)
  simp only [gW,veq] at h
  rw [← zHF] at h
  rw [(MapKept.bytes_beq _ _).1 h]
 |bool=>
  cases a<;>try (cases ha;done)
  cases b<;>try (cases hb;done)
  simp only [gW,veq,beq_iff_eq] at h
  rw [h]
 |st ks=>
  cases a<;>try (cases ha;done)
  cases b<;>try (cases hb;done)
  have:=(oX ha hb).2 h
  congr 1
  exact Array.ext' this
theorem zEX {a:Value} (ha:fC kd a=true):gW a a=true:=by
 cases kd<;>cases a<;>first|(cases ha;done)|(simp [gW,veq];done)|exact pZ ha
def pr (e:MapEntry):Value × Value:=(e.key,e.val)
def lN (k:Value):List MapEntry→Nat→Option (Nat × Value)
 |[],_=>none
 |e::es,i=>match gW k e.key with
  |true=>some (i,e.val)
  |false=>lN k es (i+1)
theorem kY (k:Value):∀ (l:List MapEntry) (i:Nat),(lN k l i=none∧gA k (l.map pr)=none∧(∀ v,mT k v (l.map pr)=l.map pr ++ [(k,v)])∧zL k (l.map pr)=l.map pr)∨
  ∃ j e,lN k l i=some (i+j,e.val)∧l[j]?=some e∧gW k e.key=true∧gA k (l.map pr)=some e.val∧(∀ v,mT k v (l.map pr)=(l.map pr).set j (k,v))∧zL k (l.map pr)=(l.map pr).eraseIdx j
 |[],i=>.inl ⟨rfl,rfl,fun _=>rfl,rfl⟩
 |e::l,i=>by
  cases h:gW k e.key with
  |true=>exact .inr ⟨0,e,by simp [lN,h],rfl,h,by simp [gA,pr,h],fun v=>by simp [mT,pr,h],by simp [zL,pr,h]⟩
  |false=>
   rcases kY k l (i+1) with ⟨h1,h2,h3,h4⟩|⟨j,e',h1,h2,h3,h4,h5,h6⟩
   ·exact .inl ⟨by simp [lN,h,h1],by simp [gA,pr,h] at h2 ⊢;exact h2,fun v=>by have:=h3 v;simp [mT,pr,h] at this ⊢;exact this,by simp [zL,pr,h] at h4 ⊢;exact h4⟩
   ·exact .inr ⟨j+1,e',by simp [lN,h,h1];omega,by simpa using h2,h3,by simp [gA,pr,h] at h4 ⊢;exact h4,fun v=>by have:=h5 v;simp [mT,pr,h] at this ⊢;exact this,by simp [zL,pr,h] at h6 ⊢;exact h6⟩
section
variable {P:Program} {w:World} {k:TypeId}
theorem zA1 {v:Value} (hK:zGn P k kd) (hv:fC kd v=true) (hn:∀ ks,kd ≠ .st ks):∃ d,P.underlying k=some d∧∀ u,fC kd u=true→MapKept.IsKey d u:=by
 cases kd with
 |int q=>exact ⟨_,hK,fun u hu=>by cases u<;>first|(cases hu;done)|exact (jV hu).symm⟩
 |str=>exact ⟨_,hK,fun u hu=>by cases u<;>first|(cases hu;done)|trivial⟩
 |bool=>exact ⟨_,hK,fun u hu=>by cases u<;>first|(cases hu;done)|trivial⟩
 |st ks=>exact absurd rfl (hn ks)
theorem zKq {ks : List Nat} (e : TEq P kt ks) {j : Nat} {f : Field} (hj : (P.fieldsOf kt).toList[j]? = some f) : f.name ≠ "_" ∧ f.offset = j ∧ ∃ c, ks[j]? = some c ∧ cE (P.underlying f.type) = c := by
 have h:=congrArg (fun l=>l[j]?) e.h
 simp only [List.getElem?_map,hj,List.getElem?_zipIdx,Option.map_some] at h
 cases hk:ks[j]? with
 |none=>rw [hk] at h;cases h
 |some c=>
  rw [hk] at h
  simp only [Option.map_some,Option.some.injEq,Prod.mk.injEq,Nat.zero_add] at h
  exact ⟨by simpa using h.1,h.2.1,c,rfl,h.2.2⟩
theorem zHv {e:TypeId} {s:ByteArray} (h:cE (P.underlying e)=1) (em:Bool) (n:Nat):(Instr.checkKey em (n+1) e (.string s)).run P w=.ok () w:=by
 cases hu:P.underlying e with
 |none=>rw [hu] at h;cases h
 |some t=>rw [hu] at h;cases t<;>first|(simp [cE] at h;done)|simp [Instr.checkKey,run_underlying hu]
theorem zFi {e:TypeId} {s:Bool} (h:cE (P.underlying e)=2) (em:Bool) (n:Nat):(Instr.checkKey em (n+1) e (.bool s)).run P w=.ok () w:=by
 cases hu:P.underlying e with
 |none=>rw [hu] at h;cases h
 |some t=>rw [hu] at h;cases t<;>first|(simp [cE] at h;done)|simp [Instr.checkKey,run_underlying hu]
theorem zHx {e:TypeId} {q:IntKind} {s:Int} (h:cE (P.underlying e)=0) (em:Bool) (n:Nat):(Instr.checkKey em (n+1) e (.int q s)).run P w=.ok () w:=by
 cases hu:P.underlying e with
 |none=>rw [hu] at h;cases h
 |some t=>rw [hu] at h;cases t<;>first|(simp [cE] at h;done)|simp [Instr.checkKey,run_underlying hu]
theorem jT {v:Value} (hK:zGn P k kd) (hv:fC kd v=true) (em:Bool):(Instr.checkKey em 10000 k v).run P w=.ok () w:=by
 cases kd with
 |st ks=>
  have e:TEq P k ks:=hK
  cases v<;>try (cases hv;done)
  rename_i cs
  obtain ⟨hl,hat⟩:=tB (show zAp ks cs.toList=true from hv)
  have each : ∀ f ∈ (P.fieldsOf k).toList, f.name ≠ "_" ∧ ∃ a, (part f.type cs f.offset).run P w = .ok a w ∧ (Instr.checkKey em 9999 f.type a).run P w = .ok () w := fun f hf => by
   obtain ⟨j,hj,rfl⟩:=List.mem_iff_getElem.1 hf
   obtain ⟨h1,h2,c,h3,h4⟩:=zKq e (List.getElem?_eq_getElem hj)
   obtain ⟨x,hx,hc⟩:=hat j c h3
   refine ⟨h1,x,?_,?_⟩
   ·have hp:∀ t,P.underlying ((P.fieldsOf k).toList[j]).type=some t→gE t=false→(part ((P.fieldsOf k).toList[j]).type cs ((P.fieldsOf k).toList[j]).offset).run P w=.ok x w:=fun t ht ha=>by
     have hx':cs[j]?=some x:=by simpa using hx
     unfold part
     rw [Sem.run_bind,cL ht,ha,h2]
     simp [hx']
    cases hu:P.underlying ((P.fieldsOf k).toList[j]).type with
    |none=>rw [hu] at h4;simp only [cE] at h4;subst h4;rcases hc with ⟨h,_⟩|⟨h,_⟩|⟨h,_⟩<;>cases h
    |some t=>
     refine hp t hu ?_
     rw [hu] at h4
     cases t<;>first|rfl|(simp only [cE] at h4;subst h4;rcases hc with ⟨h,_⟩|⟨h,_⟩|⟨h,_⟩<;>cases h)
   ·rcases hc with ⟨rfl,s,rfl⟩|⟨rfl,s,rfl⟩|⟨rfl,s,rfl⟩
    ·exact zHv h4 em 9998
    ·exact zFi h4 em 9998
    ·exact zHx h4 em 9998
  rw [show (10000:Nat)=9999+1 from rfl,Instr.checkKey]
  simp only [Sem.run_bind,run_underlying e.s,Result.andThen_ok]
  rw [← Array.forIn_toList]
  generalize (P.fieldsOf k).toList=L at each
  clear hv hat hl e
  induction L with
  |nil=>simp
  |cons f L ih=>
   obtain ⟨hn,a,p1,p2⟩:=each f (by simp)
   simp only [List.forIn_cons,Sem.run_bind,hn,ne_eq,not_false_eq_true,if_true,Result.andThen_ok,p1,p2,Sem.run_pure]
   exact ih (fun y hy=>each y (by simp [hy]))
 |_=>
  obtain ⟨d,hd,hi⟩:=zA1 hK hv (by intro ks h;cases h)
  exact MapKept.run_checkKey hd (hi v hv) em 9999
theorem zH {v:Value} (hK:zGn P k kd) (hv:fC kd v=true) {es:List MapEntry} (hes:∀ x ∈ es.map pr,fC kd x.1=true):(Instr.findKey k v es).run P w=.ok (lN v es 0) w:=by
 have hes':∀ e ∈ es,fC kd e.key=true:=fun e he=>hes (pr e) (List.mem_map.2 ⟨e,he,rfl⟩)
 clear hes
 cases kd with
 |st ks=>
  have e:TEq P k ks:=hK
  rw [run_findKey_eq w (by rw [e.s])]
  cases v<;>try (cases hv;done)
  rename_i cs
  generalize 0=i
  induction es generalizing i with
  |nil=>simp [Instr.findAsking,lN]
  |cons x es ih=>
   have hx:=hes' x (by simp)
   cases hkx:x.key<;>rw [hkx] at hx<;>try (cases hx;done)
   rename_i ds
   have h1:(Op.equal k (.agg cs) (.agg ds)).run P w=.ok (eO cs.toList ds.toList) w:=by
    have:=tS (P:=P) (e:=e) k w 9998 cs.toList ds.toList (oX hv hx).1
    exact this
   have h2:gW (.agg cs) x.key=eO cs.toList ds.toList:=by rw [hkx];rfl
   simp only [Instr.findAsking,lN,hkx,Sem.run_bind,h1,Result.andThen_ok]
   rw [hkx] at h2
   rw [h2]
   cases eO cs.toList ds.toList
   ·simp only [Bool.false_eq_true,if_false]
    exact ih (fun e he=>hes' e (by simp [he])) _
   ·simp
 |_=>
  obtain ⟨d,hd,hi⟩:=zA1 hK hv (by intro ks h;cases h)
  refine MapKept.run_findKey hd ?_
  have key:∀ u,fC _ u=true→Instr.sameNow d v u=some (gW v u):=fun u hu=>by
   obtain ⟨r,h1,h2⟩:=MapKept.sameNow_of_keys (hi v hv) (hi u hu)
   rw [h1]
   congr 1
   rw [Bool.eq_iff_iff,h2]
   exact ⟨fun e=>by subst e;exact zEX hv,fun h=>zDo hv hu h⟩
  generalize 0=i
  induction es generalizing i with
  |nil=>rfl
  |cons x es ih=>
   simp only [Instr.findNow,lN,key x.key (hes' x (by simp))]
   cases gW v x.key
   ·simp only
    exact ih (fun e he=>hes' e (by simp [he])) _
   ·rfl
theorem zGz {v:Value} (hv:fC kd v=true):(Instr.keyThatStays v v).run P w=.ok v w:=by
 have h:Instr.sameBits 10000 v v=true:=by
  cases kd with
  |st ks=>
   cases v<;>try (cases hv;done)
   rename_i cs
   obtain ⟨hl,hat⟩:=tB (show zAp ks cs.toList=true from hv)
   show Instr.sameBits (9999+1) (.agg cs) (.agg cs)=true
   simp only [Instr.sameBits,beq_self_eq_true,Bool.true_and,List.all_eq_true]
   intro p hp
   obtain ⟨i,hi,e⟩:=List.getElem_of_mem hp
   rw [List.getElem_zip] at e
   rw [← e]
   simp only
   have hi':i < cs.toList.length:=by simp at hi;simpa using hi
   obtain ⟨x,hx,hc⟩:=hat i ks[i] (List.getElem?_eq_getElem (by omega))
   rw [List.getElem?_eq_getElem hi'] at hx
   rw [Option.some.inj hx]
   rcases hc with ⟨_,s,rfl⟩|⟨_,s,rfl⟩|⟨_,s,rfl⟩
   ·simp only [Instr.sameBits]
    exact (MapKept.bytes_beq _ _).2 rfl
   ·simp [Instr.sameBits]
   ·simp [Instr.sameBits]
  |int q=>cases v<;>first|(cases hv;done)|simp [Instr.sameBits]
  |str=>cases v<;>first|(cases hv;done)|(simp only [Instr.sameBits];exact (MapKept.bytes_beq _ _).2 rfl)
  |bool=>cases v<;>first|(cases hv;done)|simp [Instr.sameBits]
 simp [Instr.keyThatStays,h]
end
section
variable {P:Program} {Q:Exit→Act→World→Prop} {K:Act→World→Prop} {a:Act} {w:World} {dst:Option Tmp} {ty:TypeId} {pos:String} {after:Array Edge} {guard:Option (Nat × Bool)}
theorem zAX (hk:K (a.put dst (.map (some w.heap.size))) (w.alloc (.map #[] 0))):(Oper.mk dst (.makeMap t none) ty pos after guard).wp P a w K Q:=by
 unfold Oper.wp
 have e:(execOp a.eval (Oper.mk dst (.makeMap t none) ty pos after guard)).run P w=.ok (.value (.map (some w.heap.size))) (w.alloc (.map #[] 0)):=rfl
 rw [e]
 exact hk
def yJ (ok:Bool) (z:Value) (r:Option Value):Value:=if ok then .tuple #[r.getD z,.bool r.isSome] else r.getD z
theorem sH [m:TMap P t kt et kd] {z:Value} [hz:TZ1 P et z] {y:Operand} {ok:Bool} {b:Nat} {ents:Array MapEntry} {kv:Value} (hx:a.eval x=.map (some b)) (hh:w.heap[b]?=some (.map ents clock)) (he:ents.toList.map pr=es) (hes:∀ x ∈ es,fC kd x.1=true)
  (hy:a.eval y=kv) (hkv:fC kd kv=true) (hk:K (a.put dst (yJ ok z (gA kv es))) w):(Oper.mk dst (.lookup t x y ok) ty pos after guard).wp P a w K Q:=by
 subst he
 refine bL (v:=yJ ok z (gA kv (ents.toList.map pr))) ?_ hk
 have hf:=zH (w:=w) m.key hkv hes
 have hzz:(zeroValue et).run P w=.ok z w:=by
  have h1:=hz.h
  cases hi:P.info? et with
  |none=>rw [hi] at h1;cases h1
  |some inf=>
   rw [hi] at h1
   have h2:inf.zero=some z:=by simpa using h1
   simp [zeroValue,typeInfo,hi,h2]
 have hl:(Instr.lookup t (.map (some b)) kv ok).run P w=.ok (yJ ok z (gA kv (ents.toList.map pr))) w:=by
  rcases kY kv ents.toList 0 with ⟨h1,h2,_⟩|⟨j,e,h1,_,_,h4,_⟩
  ·rw [h1] at hf
   rw [h2]
   simp [Instr.lookup,run_underlying m.h,MapKept.run_getObj_map hh,jT m.key hkv,hf,hzz,Result.andThen,yJ]
  ·rw [h1] at hf
   rw [h4]
   simp [Instr.lookup,run_underlying m.h,MapKept.run_getObj_map hh,jT m.key hkv,hf,Result.andThen,yJ]
 simp only [execOp,hx,hy,Sem.run_bind,hl,Result.andThen_ok,Sem.run_pure]
theorem zBD {ents:Array MapEntry} {k v:Value} (h:cG ents clock):cG (ents.push ⟨k,v,clock⟩) (clock+1):=by
 obtain ⟨h1,h2⟩:=h
 unfold cG
 rw [Array.toList_push,List.map_append]
 refine ⟨fun n hn => ?_,List.nodup_append.2 ⟨h2,by simp,fun x hx y hy => ?_⟩⟩
 ·rcases List.mem_append.1 hn with hn|hn
  ·exact Nat.lt_succ_of_lt (h1 n hn)
  ·simp only [List.map_cons,List.map_nil,List.mem_singleton] at hn
   omega
 ·simp only [List.map_cons,List.map_nil,List.mem_singleton] at hy
  have:=h1 x hx
  omega
theorem xL {ents:Array MapEntry} {j:Nat} {k v:Value} (h:cG ents clock):cG (ents.modify j fun e=>{ e with key:=k,val:=v }) clock:=by
 have e:(ents.modify j fun e=>{ e with key:=k,val:=v }).toList.map (·.born)=ents.toList.map (·.born):=by
  apply List.ext_getElem?
  intro i
  simp only [List.getElem?_map,Array.getElem?_toList,Array.getElem?_modify]
  split
  ·subst_vars
   cases ents[i]?<;>rfl
  ·rfl
 unfold cG
 rw [e]
 exact h
theorem zAj {ents:Array MapEntry} {j:Nat} (h:cG ents clock):cG (ents.eraseIdxIfInBounds j) clock:=by
 unfold Array.eraseIdxIfInBounds
 split
 ·have hs:((ents.eraseIdx j).toList.map (·.born)).Sublist (ents.toList.map (·.born)):=by
   rw [Array.toList_eraseIdx]
   exact (List.eraseIdx_sublist _ _).map _
  exact ⟨fun n hn=>h.1 n (hs.subset hn),h.2.sublist hs⟩
 ·exact h
def World.setMap (w:World) (b:Nat) (o:Obj):World:={ w with heap:=w.heap.setIfInBounds b o }
theorem iV [m:TMap P t kt et kd] {y v:Operand} {b:Nat} {ents:Array MapEntry} {kv vv:Value} (hx:a.eval x=.map (some b)) (hh:w.heap[b]?=some (.map ents clock)) (he:ents.toList.map pr=es) (hes:∀ x ∈ es,fC kd x.1=true)
  (hy:a.eval y=kv) (hkv:fC kd kv=true) (hv:a.eval v=vv) (hk:∀ ents' clock',ents'.toList.map pr=mT kv vv es→(cG ents clock→cG ents' clock')→K (a.put dst undef) (World.setMap w b (.map ents' clock'))):(Oper.mk dst (.mapUpdate t x y v) ty pos after guard).wp P a w K Q:=by
 subst he
 have hf:=zH (w:=w) m.key hkv hes
 have fin:∀ o,(∃ ents' clock',o=Obj.map ents' clock'∧ents'.toList.map pr=mT kv vv (ents.toList.map pr)∧(cG ents clock→cG ents' clock'))→(Instr.mapUpdate t (.map (some b)) kv vv).run P w=.ok () (World.setMap w b o)→(Oper.mk dst (.mapUpdate t x y v) ty pos after guard).wp P a w K Q:=by
  rintro o ⟨ents',clock',rfl,h1,h3⟩ h2
  unfold Oper.wp execOp
  simp only [hx,hy,hv,Sem.run_bind,h2,Result.andThen_ok,Sem.run_pure]
  exact hk _ _ h1 h3
 rcases kY kv ents.toList 0 with ⟨h1,_,h3,_⟩|⟨j,e,h1,h2,h3,_,h5,_⟩
 ·rw [h1] at hf
  refine fin (.map (ents.push ⟨kv,vv,clock⟩) (clock+1)) ⟨_,_,rfl,by rw [h3];simp [pr],zBD⟩ ?_
  simp [Instr.mapUpdate,run_underlying m.h,MapKept.run_getObj_map hh,jT m.key hkv,hf,MapKept.run_setObj_map _ hh,Result.andThen,World.setMap]
 ·rw [h1] at hf
  have hj:ents[j]?=some e:=by simpa using h2
  have hek:fC kd e.key=true:=hes (pr e) (List.mem_map.2 ⟨e,aK h2,rfl⟩)
  have hkk:kv=e.key:=zDo hkv hek h3
  refine fin (.map (ents.modify j fun e=>{ e with key:=kv,val:=vv }) clock) ⟨_,_,rfl,?_,xL⟩ ?_
  ·rw [h5]
   apply List.ext_getElem?
   intro i
   simp only [List.getElem?_map,Array.getElem?_toList,Array.getElem?_modify,List.getElem?_set,List.length_map,Array.length_toList]
   by_cases hij:j=i
   ·subst hij
    have hlt:j < ents.size:=(Array.getElem?_eq_some_iff.1 hj).1
    simp [hlt,pr]
   ·simp [hij]
  ·simp only [Nat.zero_add] at hf
   simp [Instr.mapUpdate,run_underlying m.h,MapKept.run_getObj_map hh,jT m.key hkv,hf,hj,← hkk,zGz hkv,MapKept.run_setObj_map _ hh,Result.andThen,World.setMap]
theorem zCB [m:TMap P t kt et kd] {b:Nat} {ents:Array MapEntry} (hx:a.eval x=.map (some b)) (hh:w.heap[b]?=some (.map ents clock)) (hk:K (a.put dst (.int .i64 ents.toList.length)) w):(Oper.mk dst (.call ⟨.builtin .len,#[x],#[t]⟩) ty pos after guard).wp P a w K Q:=by
 refine bL ?_ hk
 have e:(Builtin.len_ #[t] ty #[.map (some b)]).run P w=.ok (.int .i64 ents.size) w:=by simp [Builtin.len_,run_underlying m.h,MapKept.run_getObj_map hh,goInt,Result.andThen]
 simp only [execOp,resolve,invoke,builtin,Sem.run_bind,Sem.run_pure,Result.andThen_ok,List.map_toArray,List.map_cons,List.map_nil,hx,e,Array.length_toList]
theorem qE {xs:Array Operand} {w':World} {v:Value} (hr:(Builtin.delete_ ts ty (xs.map a.eval)).run P w=.ok v w') (hk:K (a.put dst v) w'):(Oper.mk dst (.call ⟨.builtin .delete,xs,ts⟩) ty pos after guard).wp P a w K Q:=by
 unfold Oper.wp execOp
 simp only [resolve,invoke,builtin,Sem.run_bind,Sem.run_pure,Result.andThen_ok,hr]
 exact hk
theorem zCD [m:TMap P t kt et kd] (hts:ts = #[t,kt]) {y:Operand} {b:Nat} {ents:Array MapEntry} {kv:Value} (hx:a.eval x=.map (some b)) (hh:w.heap[b]?=some (.map ents clock)) (he:ents.toList.map pr=es) (hes:∀ x ∈ es,fC kd x.1=true)
  (hy:a.eval y=kv) (hkv:fC kd kv=true) (hk:∀ ents' clock',ents'.toList.map pr=zL kv es→(cG ents clock→cG ents' clock')→K (a.put dst (.tuple #[])) (World.setMap w b (.map ents' clock'))):(Oper.mk dst (.call ⟨.builtin .delete,#[x,y],ts⟩) ty pos after guard).wp P a w K Q:=by
 subst he;subst hts
 have hf:=zH (w:=w) m.key hkv hes
 have hxy:(#[x,y]:Array Operand).map a.eval = #[.map (some b),kv]:=by simp [hx,hy]
 rcases kY kv ents.toList 0 with ⟨h1,_,_,h4⟩|⟨j,e,h1,h2,h3,_,_,h6⟩
 ·rw [h1] at hf
  refine qE (v:=.tuple #[]) (w':=World.setMap w b (.map ents clock)) ?_ (hk _ _ h4.symm id)
  rw [hxy]
  simp [Builtin.delete_,run_underlying m.h,MapKept.run_getObj_map hh,jT m.key hkv,hf,MapKept.run_setObj_map _ hh,Result.andThen,World.setMap]
 ·rw [h1] at hf
  refine qE (v:=.tuple #[]) (w':=World.setMap w b (.map (ents.eraseIdxIfInBounds j) clock)) ?_ (hk _ _ ?_ zAj)
  ·rw [hxy]
   simp only [Nat.zero_add] at hf
   simp [Builtin.delete_,run_underlying m.h,MapKept.run_getObj_map hh,jT m.key hkv,hf,MapKept.run_setObj_map _ hh,Result.andThen,World.setMap]
  ·rw [h6]
   have hjs:j < ents.size:=(Array.getElem?_eq_some_iff.1 (show ents[j]?=some e by simpa using h2)).1
   unfold Array.eraseIdxIfInBounds
   rw [dif_pos hjs]
   rw [Array.toList_eraseIdx]
   apply List.ext_getElem?
   intro i
   rw [List.getElem?_map,List.getElem?_eraseIdx,List.getElem?_eraseIdx]
   split<;>simp
end
end Go.Proofs.YtnjgoldinaffgaaGreatDoor
namespace Go.Proofs.YtnjgoldinaffgaaGreatDoor
set_option linter.unusedSimpArgs false
set_option linter.unusedVariables false
open Go.RowKit
variable {K:Act→World→Prop} {Q:Exit→Act→World→Prop} {S:Sig} {ts:Array TypeId} {w:World}
inductive TI where
 |int (k:IntKind)
 |str
 |bool
 |one
 |ifc
 |sl (e sz bytes:Nat) (zc:List Value)
 |mp (k e:Nat) (kd:KD) (z:Value)
 |st (n:Nat) (fl:List (Nat × Nat × Bool)) (ks:Option (List Nat))
def TFact (P:Program) (t:Nat):TI→Prop
 |.int k=>TInt P t k∧TOne P t
 |.str=>TStr P t∧TOne P t
 |.bool=>TBool P t∧TOne P t
 |.one=>TOne P t
 |.ifc=>TIfc P t∧TOne P t
 |.sl e sz by' zc=>TSlice P t e∧TSize P e sz∧TOne P t∧TElem P e sz by' zc∧TZer P e zc
 |.mp k e kd z=>TMap P t k e kd∧TZ1 P e z∧TOne P t
 |.st n fl ks=>TRow P t n∧(∀ (i off n':Nat) (ag:Bool),fl[i]?=some (off,n'+1,ag)→TFld P t i off n' ag)∧TStruct P t (fl.map fun x=>(x.1,x.2.1))∧(∀ k,ks=some k→TEqS P t k)∧(fl = []→TArr P t n)
structure TOk (P:Program) (T:Nat→Option TI) (Z:Nat→Option (List Value)):Prop where
 ty:∀ t i,T t=some i→TFact P t i
 zer:∀ t z,Z t=some z→TZer P t z
theorem D.one_fz {q:Place} {v:Value} {d:D} (h:Rep S w q v d) (ho:d.one=true):Fz S.lim w v d:=by
 cases h with
 |fz h=>exact h
 |own g=>
  rcases g.mode with h|h<;>subst h<;>cases ho
 |_=>cases ho
theorem D.one_cell {lim:Nat→Option Nat} {v:Value} {d:D} (h:Fz lim w v d) (ho:d.one=true):v.oneCell'=true:=by
 cases h with
 |pv v=>exact ho
 |_=>first|rfl|cases ho
theorem Fz.cells {q:Place} {v:Value} {d:D} {cs:List D} (h:Rep S w q v d) (hc:d.cellsOf=some cs):
  v.cells.toList.length=cs.length∧(∀ u:Value,u ∈ v.cells.toList→u.oneCell'=true)∧∀ (j:Nat) (e:D) (u:Value),cs[j]?=some e→v.cells.toList[j]?=some u→Fz S.lim w u e:=by
 have single1:Fz S.lim w v d→v.oneCell'=true→cs = [d]→v.cells.toList.length=cs.length∧(∀ u:Value,u ∈ v.cells.toList→u.oneCell'=true)∧∀ (j:Nat) (e:D) (u:Value),cs[j]?=some e→v.cells.toList[j]?=some u→Fz S.lim w u e:=by
  intro hf h1 he
  subst he
  have e1:v.cells = #[v]:=by cases v<;>first|rfl|cases h1
  rw [e1]
  refine ⟨rfl,fun u hu=>by simp at hu;subst hu;exact h1,fun j e u he hu => ?_⟩
  cases j with
  |zero=>cases he;cases hu;exact hf
  |succ j=>simp at he
 have single:d.one=true→cs = [d]→v.cells.toList.length=cs.length∧(∀ u:Value,u ∈ v.cells.toList→u.oneCell'=true)∧∀ (j:Nat) (e:D) (u:Value),cs[j]?=some e→v.cells.toList[j]?=some u→Fz S.lim w u e:=fun ho he=>single1 (D.one_fz h ho) (D.one_cell (D.one_fz h ho) ho) he
 cases d with
 |fn f caps=>
  simp only [D.cellsOf] at hc
  split at hc
  ·rename_i hall
   cases hc
   cases h with
   |fz h=>refine single1 h ?_ rfl;cases h;rfl
   |fn vs hl ih=>exact single1 (.fn vs hl fun j d v hd hv=>D.one_fz (ih j d v hd hv) (List.all_eq_true.1 hall d (aK hd))) rfl rfl
  ·cases hc
 |agg cs0=>
  simp only [D.cellsOf] at hc
  split at hc
  ·rename_i hall
   cases hc
   obtain ⟨vs,rfl,h2,h3,h4⟩:=h.agg_inv
   refine ⟨by simpa [Value.cells] using h2,by simpa [Value.cells] using h3,fun j e u he hu => ?_⟩
   refine D.one_fz (h4 j e u he (by simpa [Value.cells] using hu)) ?_
   exact List.all_eq_true.1 hall e (aK he)
  ·cases hc
 |_=>
  simp only [D.cellsOf] at hc
  split at hc
  ·rename_i ho
   cases hc
   exact single ho rfl
  ·cases hc
theorem Rep.plain {q p:Place} {v:Value} {d:D} (h:Rep S w q v d) (hp:d.plain=true):Rep S w p v d:=by
 cases h with
 |fz h=>exact .fz h
 |own g=>rcases g.mode with h|h<;>subst h<;>cases hp
 |mp=>cases hp
 |obj=>cases hp
 |ref h=>exact .ref h
 |gref h hv=>exact .gref h hv
 |fn vs hl ih=>exact .fn vs hl ih
 |agg vs hl h1 ih=>
  refine .agg vs hl h1 fun j d v hd hv=>.fz (D.one_fz (ih j d v hd hv) ?_)
  exact List.all_eq_true.1 hp d (aK hd)
 |tup vs hl ih=>
  refine .tup vs hl fun j d v hd hv => ?_
  have h1:=List.all_eq_true.1 hp d (aK hd)
  have h2:=ih j d v hd hv
  cases d with
  |agg cs=>
   obtain ⟨us,rfl,k1,k2,k3⟩:=h2.agg_inv
   exact .agg us k1 k2 fun j' e u he hu=>.fz (D.one_fz (k3 j' e u he hu) (List.all_eq_true.1 h1 e (aK he)))
  |_=>exact .fz (D.one_fz h2 h1)
structure Vl (S:Sig) (w:World) (o:Op) (ρ:Operand→D) (v:Value) (d:D):Prop where
 rep:∀ p,Rep S w p v d
 men:∀ t,Men t d→∃ x ∈ o.operands.toList,Men t (ρ x)
theorem Vl.fz {o:Op} {ρ:Operand→D} {v:Value} {d:D} (h:Fz S.lim w v d):Vl S w o ρ v d:=⟨fun _=>.fz h,fun _ ht=>(h.men ht).elim⟩
def OpOk (P:Program) (o:Oper) (ρ:Operand→D) (d:D):Prop:=
 ∀ (S:Sig) (w:World) (a:Act) (p:Place),WF S w→(∀ x ∈ o.op.operands.toList,∃ q,Rep S w q (a.eval x) (ρ x))→∀ (K:Act→World→Prop) (Q:Exit→Act→World→Prop),
  (∀ v S' w',PT S w S' w'→Rep S' w' p v d→(∀ t,Men t d→∃ x ∈ o.op.operands.toList,Men t (ρ x))→K (a.put o.dst v) w')→o.wp P a w K Q
section
variable {P:Program} {dst:Option Tmp} {ty:TypeId} {pos:String} {after:Array Edge} {guard:Option (Nat × Bool)} {ρ:Operand→D}
theorem OpOk.still {o:Oper} {d:D} (h:∀ (S:Sig) (w:World) (a:Act),WF S w→(∀ x ∈ o.op.operands.toList,∃ q,Rep S w q (a.eval x) (ρ x))→∃ v,Vl S w o.op ρ v d∧∀ (K:Act→World→Prop) (Q:Exit→Act→World→Prop),K (a.put o.dst v) w→o.wp P a w K Q):OpOk P o ρ d:=by
 intro S w a p hw hx K Q hK
 obtain ⟨v,h1,h2⟩:=h S w a hw hx
 exact h2 K Q (hK v S w (PT.refl hw) (h1.rep p) h1.men)
theorem zLj {x:Operand} (hp:(ρ x).plain=true):OpOk P (Oper.mk dst (.move x) ty pos after guard) ρ (ρ x):=
 .still fun S w a _ hx=>by
  obtain ⟨q,h⟩:=hx x (by simp [Op.operands])
  exact ⟨_,⟨fun p=>h.plain hp,fun t ht=>⟨x,by simp [Op.operands],ht⟩⟩,fun K Q hk=>jK rfl hk⟩
theorem zG4 {x:Operand} (hp:(ρ x).plain=true):OpOk P (Oper.mk dst (.assign x) ty pos after guard) ρ (ρ x):=
 .still fun S w a _ hx=>by
  obtain ⟨q,h⟩:=hx x (by simp [Op.operands])
  exact ⟨_,⟨fun p=>h.plain hp,fun t ht=>⟨x,by simp [Op.operands],ht⟩⟩,fun K Q hk=>jZ rfl hk⟩
theorem Fz.ptr_inv {lim:Nat→Option Nat} {v:Value} {cs:List D} (h:Fz lim w v (.ptr cs)):∃ b o,v=.pointer (some ⟨b,o,none⟩)∧∃ cv:Nat→Value,(∀ (j:Nat) (d:D),cs[j]?=some d→w.cell? ⟨b,o+j,none⟩=some (cv j)∧OkC lim b (o+j)∧(cv j).oneCell'=true)∧∀ (j:Nat) (d:D),cs[j]?=some d→Fz lim w (cv j) d:=by
 cases h with
 |ptr cv hh ih=>exact ⟨_,_,rfl,cv,hh,ih⟩
theorem lP {a:Act} {o:Op} {ρ:Operand→D} (hr:∀ x ∈ o.operands.toList,∃ q,Rep S w q (a.eval x) (ρ x)) {x:Operand} {d:D} (hx:ρ x=d) (hm:x ∈ o.operands.toList):∃ q,Rep S w q (a.eval x) d:=by
 obtain ⟨q,h⟩:=hr x hm
 exact ⟨q,hx ▸ h⟩
theorem dM {a:Act} {o:Op} {ρ:Operand→D} (hr:∀ x ∈ o.operands.toList,∃ q,Rep S w q (a.eval x) (ρ x)) {x:Operand} {k:IntKind} {n:Int} (hx:ρ x=.int k n) (hm:x ∈ o.operands.toList):a.eval x=.int k n:=by
 obtain ⟨q,h⟩:=lP hr hx hm;exact h.int_inv
theorem zKJ {a:Act} {o:Op} {ρ:Operand→D} (hr:∀ x ∈ o.operands.toList,∃ q,Rep S w q (a.eval x) (ρ x)) {x:Operand} {b:Bool} (hx:ρ x=.bool b) (hm:x ∈ o.operands.toList):a.eval x=.bool b:=by
 obtain ⟨q,h⟩:=lP hr hx hm;exact h.bool_inv
theorem nD {a:Act} {o:Op} {ρ:Operand→D} (hr:∀ x ∈ o.operands.toList,∃ q,Rep S w q (a.eval x) (ρ x)) {x:Operand} {s:List UInt8} (hx:ρ x=.str s) (hm:x ∈ o.operands.toList):a.eval x=.string ⟨s.toArray⟩:=by
 obtain ⟨q,h⟩:=lP hr hx hm;exact h.str_inv
theorem zGR {x:Operand} {cs:List D} (hx:ρ x=.ptr cs):OpOk P (Oper.mk dst (.nilCheck x) ty pos after guard) ρ (.ptr cs):=
 .still fun S w a _ hr=>by
  obtain ⟨q,h⟩:=lP hr hx (by simp [Op.operands])
  have hf:=D.one_fz h rfl
  obtain ⟨b,o,hv,_⟩:=hf.ptr_inv
  exact ⟨_,.fz hf,fun K Q hk=>by rw [hv] at hk;exact iG hv hk⟩
theorem zGQ {x:Operand} {t o:Nat} (hx:ρ x=.ref t o):OpOk P (Oper.mk dst (.nilCheck x) ty pos after guard) ρ (.ref t o):=
 .still fun S w a _ hr=>by
  obtain ⟨q,h⟩:=lP hr hx (by simp [Op.operands])
  refine ⟨_,⟨fun p=>h.plain rfl,fun t ht=>⟨x,by simp [Op.operands],by rw [hx];exact ht⟩⟩,fun K Q hk => ?_⟩
  generalize hv:a.eval x=v at h hk
  cases h with
  |fz h=>cases h
  |ref g=>exact iG hv hk
def D.oneA:D→Bool
 |.agg cs=>cs.all D.one
 |d=>d.one
theorem D.oneA_fz {q:Place} {v:Value} {d:D} (h:Rep S w q v d) (ho:d.oneA=true):Fz S.lim w v d:=by
 cases d with
 |agg cs=>
  obtain ⟨vs,rfl,h1,h2,h3⟩:=h.agg_inv
  exact .agg vs h1 h2 fun j d v hd hv=>D.one_fz (h3 j d v hd hv) (List.all_eq_true.1 ho d (aK hd))
 |_=>exact D.one_fz h ho
theorem zEK {x:Operand} {i:Nat} {ds:List D} {d:D} (hx:ρ x=.tup ds) (hd:ds[i]?=some d) (hp:d.oneA=true):OpOk P (Oper.mk dst (.extract x i) ty pos after guard) ρ d:=
 .still fun S w a _ hr=>by
  obtain ⟨q,h⟩:=lP hr hx (by simp [Op.operands])
  obtain ⟨vs,hv,hl,hi⟩:=h.tup_inv
  have hlt:i < vs.length:=by rw [hl];exact (bC hd)
  exact ⟨vs[i],.fz (D.oneA_fz (hi i d _ hd (List.getElem?_eq_getElem hlt)) hp),fun K Q hk=>zAY hv (List.getElem?_eq_getElem hlt) hk⟩
theorem zNq {x:Operand} {t:TypeId} {b:Bool} (hx:ρ x=.bool b):OpOk P (Oper.mk dst (.unOp .not t x) ty pos after guard) ρ (.bool !b):=
 .still fun S w a _ hr=>⟨_,.fz (.bool _),fun K Q hk=>zLV (zKJ hr hx (by simp [Op.operands])) hk⟩
theorem zNs {x:Operand} {t:TypeId} {k:IntKind} {p r:Int} (hx:ρ x=.int k p) (h:k.wrap (0 - p)=r):OpOk P (Oper.mk dst (.unOp .neg t x) ty pos after guard) ρ (.int k r):=
 .still fun S w a _ hr=>⟨_,.fz (.int _ _),fun K Q hk=>zPg (dM hr hx (by simp [Op.operands])) h hk⟩
section
variable {x y:Operand} {t t':TypeId} {k:IntKind} {p q r:Int}
theorem zNE (hx:ρ x=.int k p) (hy:ρ y=.int k q) (h:k.wrap (p+q)=r):OpOk P (Oper.mk dst (.binOp .add t x y t') ty pos after guard) ρ (.int k r):=
 .still fun S w a _ hr=>⟨_,.fz (.int _ _),fun K Q hk=>zLX (dM hr hx (by simp [Op.operands])) (dM hr hy (by simp [Op.operands])) h hk⟩
theorem zNl (hx:ρ x=.int k p) (hy:ρ y=.int k q) (h:k.wrap (p - q)=r):OpOk P (Oper.mk dst (.binOp .sub t x y t') ty pos after guard) ρ (.int k r):=
 .still fun S w a _ hr=>⟨_,.fz (.int _ _),fun K Q hk=>zPc (dM hr hx (by simp [Op.operands])) (dM hr hy (by simp [Op.operands])) h hk⟩
theorem zNt (hx:ρ x=.int k p) (hy:ρ y=.int k q) (h:k.wrap (p * q)=r):OpOk P (Oper.mk dst (.binOp .mul t x y t') ty pos after guard) ρ (.int k r):=
 .still fun S w a _ hr=>⟨_,.fz (.int _ _),fun K Q hk=>zPh (dM hr hx (by simp [Op.operands])) (dM hr hy (by simp [Op.operands])) h hk⟩
theorem zNp (hx:ρ x=.int k p) (hy:ρ y=.int k q) (h0:q ≠ 0) (h:k.wrap (p.tdiv q)=r):OpOk P (Oper.mk dst (.binOp .quo t x y t') ty pos after guard) ρ (.int k r):=
 .still fun S w a _ hr=>⟨_,.fz (.int _ _),fun K Q hk=>zPe (dM hr hx (by simp [Op.operands])) (dM hr hy (by simp [Op.operands])) h0 h hk⟩
theorem zNo (hx:ρ x=.int k p) (hy:ρ y=.int k q) (h0:q ≠ 0) (h:p.tmod q=r):OpOk P (Oper.mk dst (.binOp .rem t x y t') ty pos after guard) ρ (.int k r):=
 .still fun S w a _ hr=>⟨_,.fz (.int _ _),fun K Q hk=>zPd (dM hr hx (by simp [Op.operands])) (dM hr hy (by simp [Op.operands])) h0 h hk⟩
theorem zNm {k':IntKind} (hx:ρ x=.int k p) (hy:ρ y=.int k' q) (h0:0≤q) (h1:q≤k.bits) (h:p / 2 ^ q.toNat=r):OpOk P (Oper.mk dst (.binOp .shr t x y t') ty pos after guard) ρ (.int k r):=
 .still fun S w a _ hr=>⟨_,.fz (.int _ _),fun K Q hk=>bL (v:=.int k r) (by
  have hx':=dM hr hx (by simp [Op.operands])
  have hy':=dM hr hy (by simp [Op.operands])
  have he:(eqGuard .shr t x y (.int k p) (.int k' q)).run P w=.ok () w:=rfl
  have hb:(binOp .shr t (.int k p) (.int k' q)).run P w=.ok (.int k r) w:=by
   rw [show binOp .shr t (.int k p) (.int k' q)=Op.shift .shr k p k' q from rfl,shift_shr k k' p q h0 h1,h]
   rfl
  simp only [execOp,hx',hy',Sem.run_bind,he,Result.andThen_ok,hb,Sem.run_pure]) hk⟩
def zBw (op:BinOp) (k:IntKind) (p q:Int):Int:=match op with
 |.and=>k.wrap (BitVec.ofInt k.bits p &&& BitVec.ofInt k.bits q).toNat
 |.or=>k.wrap (BitVec.ofInt k.bits p ||| BitVec.ofInt k.bits q).toNat
 |.xor=>k.wrap (BitVec.ofInt k.bits p ^^^ BitVec.ofInt k.bits q).toNat
 |_=>k.wrap (BitVec.ofInt k.bits p &&& ~~~BitVec.ofInt k.bits q).toNat
def zNS:BinOp→Bool
 |.and | .or | .xor | .andNot=>true
 |_=>false
theorem wS {op:BinOp} (ho:zNS op=true) (hx:ρ x=.int k p) (hy:ρ y=.int k q) (h:zBw op k p q=r):OpOk P (Oper.mk dst (.binOp op t x y t') ty pos after guard) ρ (.int k r):=
 .still fun S w a _ hr=>⟨_,.fz (.int _ _),fun K Q hk=>bL (v:=.int k r) (by
  have hx':=dM hr hx (by simp [Op.operands])
  have hy':=dM hr hy (by simp [Op.operands])
  have he:(eqGuard op t x y (.int k p) (.int k q)).run P w=.ok () w:=by cases op<;>first|rfl|cases ho
  have hb:(binOp op t (.int k p) (.int k q)).run P w=.ok (.int k r) w:=by
   subst h
   cases op<;>first|(cases ho;done)|(simp only [binOp,ne_eq,not_true_eq_false,if_false,Op.intBits,zBw,Sem.run_pure])
  simp only [execOp,hx',hy',Sem.run_bind,he,Result.andThen_ok,hb,Sem.run_pure]) hk⟩
theorem zNn {k':IntKind} (hx:ρ x=.int k p) (hy:ρ y=.int k' q) (h0:0≤q) (h1:q≤k.bits) (h:k.wrap (p * 2 ^ q.toNat)=r):OpOk P (Oper.mk dst (.binOp .shl t x y t') ty pos after guard) ρ (.int k r):=
 .still fun S w a _ hr=>⟨_,.fz (.int _ _),fun K Q hk=>bL (v:=.int k r) (by
  have hx':=dM hr hx (by simp [Op.operands])
  have hy':=dM hr hy (by simp [Op.operands])
  have he:(eqGuard .shl t x y (.int k p) (.int k' q)).run P w=.ok () w:=rfl
  have hb:(binOp .shl t (.int k p) (.int k' q)).run P w=.ok (.int k r) w:=by
   rw [show binOp .shl t (.int k p) (.int k' q)=Op.shift .shl k p k' q from rfl]
   unfold Op.shift
   rw [if_neg (by omega)]
   have hm:min q.toNat k.bits=q.toNat:=by omega
   simp only [hm,h,Sem.run_pure]
  simp only [execOp,hx',hy',Sem.run_bind,he,Result.andThen_ok,hb,Sem.run_pure]) hk⟩
theorem zNB (hx:ρ x=.int k p) (hy:ρ y=.int k q):OpOk P (Oper.mk dst (.binOp .eql t x y t') ty pos after guard) ρ (.bool (p == q)):=
 .still fun S w a _ hr=>⟨_,.fz (.bool _),fun K Q hk=>zPn (dM hr hx (by simp [Op.operands])) (dM hr hy (by simp [Op.operands])) hk⟩
theorem zNr (hx:ρ x=.int k p) (hy:ρ y=.int k q):OpOk P (Oper.mk dst (.binOp .neq t x y t') ty pos after guard) ρ (.bool !(p == q)):=
 .still fun S w a _ hr=>⟨_,.fz (.bool _),fun K Q hk=>zPf (dM hr hx (by simp [Op.operands])) (dM hr hy (by simp [Op.operands])) hk⟩
theorem zNw (hx:ρ x=.int k p) (hy:ρ y=.int k q):OpOk P (Oper.mk dst (.binOp .lss t x y t') ty pos after guard) ρ (.bool (decide (p < q))):=
 .still fun S w a _ hr=>⟨_,.fz (.bool _),fun K Q hk=>zLW (dM hr hx (by simp [Op.operands])) (dM hr hy (by simp [Op.operands])) hk⟩
theorem zNx (hx:ρ x=.int k p) (hy:ρ y=.int k q):OpOk P (Oper.mk dst (.binOp .leq t x y t') ty pos after guard) ρ (.bool (decide (p≤q))):=
 .still fun S w a _ hr=>⟨_,.fz (.bool _),fun K Q hk=>zPk (dM hr hx (by simp [Op.operands])) (dM hr hy (by simp [Op.operands])) hk⟩
theorem zNz (hx:ρ x=.int k p) (hy:ρ y=.int k q):OpOk P (Oper.mk dst (.binOp .gtr t x y t') ty pos after guard) ρ (.bool (decide (q < p))):=
 .still fun S w a _ hr=>⟨_,.fz (.bool _),fun K Q hk=>zPl (dM hr hx (by simp [Op.operands])) (dM hr hy (by simp [Op.operands])) hk⟩
theorem zNA (hx:ρ x=.int k p) (hy:ρ y=.int k q):OpOk P (Oper.mk dst (.binOp .geq t x y t') ty pos after guard) ρ (.bool (decide (q≤p))):=
 .still fun S w a _ hr=>⟨_,.fz (.bool _),fun K Q hk=>zPm (dM hr hx (by simp [Op.operands])) (dM hr hy (by simp [Op.operands])) hk⟩
theorem zNv (hx:ρ x=.int k p) (hy:ρ y=.int k q):OpOk P (Oper.mk dst (.call ⟨.builtin .max,#[x,y],ts⟩) ty pos after guard) ρ (.int k (max p q)):=
 .still fun S w a _ hr=>⟨_,.fz (.int _ _),fun K Q hk=>zPj (dM hr hx (by simp [Op.operands,Call.operands])) (dM hr hy (by simp [Op.operands,Call.operands])) hk⟩
theorem zNu (hx:ρ x=.int k p) (hy:ρ y=.int k q):OpOk P (Oper.mk dst (.call ⟨.builtin .min,#[x,y],ts⟩) ty pos after guard) ρ (.int k (min p q)):=
 .still fun S w a _ hr=>⟨_,.fz (.int _ _),fun K Q hk=>zPi (dM hr hx (by simp [Op.operands,Call.operands])) (dM hr hy (by simp [Op.operands,Call.operands])) hk⟩
theorem zLl {k':IntKind} [i:TInt P t' k] (hs:∃ d,P.underlying t=some d) (hx:ρ x=.int k' p) (h:k.wrap p=r):OpOk P (Oper.mk dst (.convert t t' x) ty pos after guard) ρ (.int k r):=
 .still fun S w a _ hr=>⟨_,.fz (.int _ _),fun K Q hk=>zNi hs.choose_spec (dM hr hx (by simp [Op.operands])) h hk⟩
end
section
variable {x y:Operand} {t t':TypeId} {b c:Bool} {s u:List UInt8}
theorem zG3 [TBool P t] (hx:ρ x=.bool b) (hy:ρ y=.bool c):OpOk P (Oper.mk dst (.binOp .eql t x y t') ty pos after guard) ρ (.bool (b == c)):=
 .still fun S w a _ hr=>⟨_,.fz (.bool _),fun K Q hk=>zIj (zKJ hr hx (by simp [Op.operands])) (zKJ hr hy (by simp [Op.operands])) hk⟩
theorem zG2 [TBool P t] (hx:ρ x=.bool b) (hy:ρ y=.bool c):OpOk P (Oper.mk dst (.binOp .neq t x y t') ty pos after guard) ρ (.bool !(b == c)):=
 .still fun S w a _ hr=>⟨_,.fz (.bool _),fun K Q hk=>zIi (zKJ hr hx (by simp [Op.operands])) (zKJ hr hy (by simp [Op.operands])) hk⟩
theorem zNC (hx:ρ x=.str s) (hy:ρ y=.str u) (hl:s.length+u.length≤9223372036854775807):OpOk P (Oper.mk dst (.binOp .add t x y t') ty pos after guard) ρ (.str (s++u)):=
 .still fun S w a _ hr=>⟨_,.fz (.str _),fun K Q hk=>zIh (nD hr hx (by simp [Op.operands])) (nD hr hy (by simp [Op.operands])) hl hk⟩
theorem zLi (hx:ρ x=.str s) (hy:ρ y=.str u):OpOk P (Oper.mk dst (.binOp .eql t x y t') ty pos after guard) ρ (.bool (s == u)):=
 .still fun S w a _ hr=>⟨_,.fz (.bool _),fun K Q hk=>zNh (nD hr hx (by simp [Op.operands])) (nD hr hy (by simp [Op.operands])) hk⟩
theorem zLd (hx:ρ x=.str s) (hy:ρ y=.str u):OpOk P (Oper.mk dst (.binOp .neq t x y t') ty pos after guard) ρ (.bool !(s == u)):=
 .still fun S w a _ hr=>⟨_,.fz (.bool _),fun K Q hk=>zId (nD hr hx (by simp [Op.operands])) (nD hr hy (by simp [Op.operands])) hk⟩
theorem zLe (hx:ρ x=.str s) (hy:ρ y=.str u):OpOk P (Oper.mk dst (.binOp .lss t x y t') ty pos after guard) ρ (.bool (Op.bytesLess s u)):=
 .still fun S w a _ hr=>⟨_,.fz (.bool _),fun K Q hk=>zNd (nD hr hx (by simp [Op.operands])) (nD hr hy (by simp [Op.operands])) hk⟩
theorem zLf (hx:ρ x=.str s) (hy:ρ y=.str u):OpOk P (Oper.mk dst (.binOp .leq t x y t') ty pos after guard) ρ (.bool (Op.bytesLess s u || s == u)):=
 .still fun S w a _ hr=>⟨_,.fz (.bool _),fun K Q hk=>zNe (nD hr hx (by simp [Op.operands])) (nD hr hy (by simp [Op.operands])) hk⟩
theorem zNf {x y:Operand} {t t':TypeId} {s u:List UInt8} {a:Act} (hx:a.eval x=.string ⟨s.toArray⟩) (hy:a.eval y=.string ⟨u.toArray⟩) (hk:K (a.put dst (.bool (!(Op.bytesLess s u || s == u)))) w):(Oper.mk dst (.binOp .gtr t x y t') ty pos after guard).wp P a w K Q:=
 mM hx hy (by simp [binOp,Op.stringOp]) hk
theorem zNg {x y:Operand} {t t':TypeId} {s u:List UInt8} {a:Act} (hx:a.eval x=.string ⟨s.toArray⟩) (hy:a.eval y=.string ⟨u.toArray⟩) (hk:K (a.put dst (.bool (!Op.bytesLess s u))) w):(Oper.mk dst (.binOp .geq t x y t') ty pos after guard).wp P a w K Q:=
 mM hx hy (by simp [binOp,Op.stringOp]) hk
theorem zLg (hx:ρ x=.str s) (hy:ρ y=.str u):OpOk P (Oper.mk dst (.binOp .gtr t x y t') ty pos after guard) ρ (.bool (!(Op.bytesLess s u || s == u))):=
 .still fun S w a _ hr=>⟨_,.fz (.bool _),fun K Q hk=>zNf (nD hr hx (by simp [Op.operands])) (nD hr hy (by simp [Op.operands])) hk⟩
theorem zLh (hx:ρ x=.str s) (hy:ρ y=.str u):OpOk P (Oper.mk dst (.binOp .geq t x y t') ty pos after guard) ρ (.bool (!Op.bytesLess s u)):=
 .still fun S w a _ hr=>⟨_,.fz (.bool _),fun K Q hk=>zNg (nD hr hx (by simp [Op.operands])) (nD hr hy (by simp [Op.operands])) hk⟩
theorem zLk [TStr P t] (hx:ρ x=.str s):OpOk P (Oper.mk dst (.call ⟨.builtin .len,#[x],#[t]⟩) ty pos after guard) ρ (.int .i64 s.length):=
 .still fun S w a _ hr=>⟨_,.fz (.int _ _),fun K Q hk=>zGF (nD hr hx (by simp [Op.operands,Call.operands])) hk⟩
theorem zGY [TStr P t] {k:IntKind} {n:Int} (hx:ρ x=.str s) (hy:ρ y=.int k n) (h0:0≤n) (h1:n < s.length):OpOk P (Oper.mk dst (.index t x y) ty pos after guard) ρ (.int .u8 (s.getD n.toNat 0).toNat):=
 .still fun S w a _ hr=>⟨_,.fz (.int _ _),fun K Q hk=>zCC (nD hr hx (by simp [Op.operands])) (dM hr hy (by simp [Op.operands])) h0 h1 hk⟩
def tL (ρ:Operand→D) (x:Option Operand) (dflt n:Int):Prop:=match x with
 |none=>n=dflt
 |some o=>∃ k:IntKind,ρ o=.int k n
theorem zGO [TStr P t] {lo hi:Option Operand} {l h:Int} (hx:ρ x=.str s) (hl:tL ρ lo 0 l) (hh:tL ρ hi s.length h) (h0:0≤l) (h1:l≤h) (h2:h≤s.length):OpOk P (Oper.mk dst (.slice t x lo hi none) ty pos after guard) ρ (.str ((s.take h.toNat).drop l.toNat)):=
 .still fun S w a _ hr=>⟨_,.fz (.str _),fun K Q hk=>by
  refine zCA (l:=l.toNat) (h:=h.toNat) (nD hr hx (by simp [Op.operands])) ?_ ?_ (by omega) (by omega) hk
  ·cases lo with
   |none=>simp only [tL] at hl;simp only;omega
   |some o=>
    obtain ⟨k,hk'⟩:=hl
    exact ⟨k,by rw [Int.toNat_of_nonneg h0];exact dM hr hk' (by simp [Op.operands])⟩
  ·cases hi with
   |none=>simp only [tL] at hh;simp only;omega
   |some o=>
    obtain ⟨k,hk'⟩:=hh
    exact ⟨k,by rw [Int.toNat_of_nonneg (by omega)];exact dM hr hk' (by simp [Op.operands])⟩⟩
end
end
end Go.Proofs.YtnjgoldinaffgaaGreatDoor
namespace Go.Proofs.YtnjgoldinaffgaaGreatDoor
set_option linter.unusedSimpArgs false
set_option linter.unusedVariables false
open Go.RowKit
variable {cs:List D} {off:Nat} {rows:List (List D)} {t t':TypeId} {x y:Operand}
section
variable {P:Program} {dst:Option Tmp} {ty:TypeId} {pos:String} {after:Array Edge} {guard:Option (Nat × Bool)} {ρ:Operand→D}
theorem zG1 {i:Nat} [TFld P t i off 0 false] {d:D} (hx:ρ x=.agg cs) (hd:cs[off]?=some d) (ho:d.one=true):OpOk P (Oper.mk dst (.field t x i) ty pos after guard) ρ d:=
 .still fun S w a _ hr=>by
  obtain ⟨q,h⟩:=lP hr hx (by simp [Op.operands])
  obtain ⟨vs,hv,hl,_,hi⟩:=h.agg_inv
  have hlt:off < vs.length:=by rw [hl];exact (bC hd)
  exact ⟨vs[off],.fz (D.one_fz (hi off d _ hd (List.getElem?_eq_getElem hlt)) ho),fun K Q hk=>zIg hv (List.getElem?_eq_getElem hlt) hk⟩
theorem zG0 {i n:Nat} [TFld P t i off n true] (hx:ρ x=.agg cs) (ho:cs.all D.one=true):OpOk P (Oper.mk dst (.field t x i) ty pos after guard) ρ (.agg ((cs.drop off).take (n+1))):=
 .still fun S w a _ hr=>by
  obtain ⟨q,h⟩:=lP hr hx (by simp [Op.operands])
  obtain ⟨vs,hv,hl,h1,hi⟩:=h.agg_inv
  refine ⟨_,.fz (.agg ((vs.drop off).take (n+1)) (by simp [hl]) (fun u hu=>h1 u (List.mem_of_mem_drop (List.mem_of_mem_take hu))) fun j d v hd hv => ?_),fun K Q hk=>zIf hv hk⟩
  rw [List.getElem?_take] at hd hv
  split at hd
  ·rename_i hj
   rw [if_pos hj] at hv
   rw [List.getElem?_drop] at hd hv
   exact D.one_fz (hi _ d v hd hv) (List.all_eq_true.1 ho d (aK hd))
  ·cases hd
theorem zBO {i n:Nat} {ag:Bool} [TFld P t i off n ag] (hx:ρ x=.ptr cs):OpOk P (Oper.mk dst (.fieldAddr t x i) ty pos after guard) ρ (.ptr (cs.drop off)):=
 .still fun S w a _ hr=>by
  obtain ⟨q,h⟩:=lP hr hx (by simp [Op.operands])
  obtain ⟨b,o,hv,cv,h1,h2⟩:=(D.one_fz h rfl).ptr_inv
  refine ⟨_,.fz (.ptr (o:=o+off) (fun j=>cv (off+j)) (fun j d hd => ?_) fun j d hd => ?_),fun K Q hk=>bP hv hk⟩
  ·rw [List.getElem?_drop] at hd
   have:=h1 _ d hd
   rwa [← Nat.add_assoc] at this
  ·rw [List.getElem?_drop] at hd
   exact h2 _ d hd
theorem zAn {t n:Nat} [TArr P t n] {k:IntKind} {j:Int} (hx:ρ x=.ptr cs) (hy:ρ y=.int k j) (h0:0≤j) (h1:j < n):OpOk P (Oper.mk dst (.indexAddr t x y) ty pos after guard) ρ (.ptr (cs.drop j.toNat)):=
 .still fun S w a _ hr=>by
  obtain ⟨q,h⟩:=lP hr hx (by simp [Op.operands])
  obtain ⟨b,o,hv,cv,h2,h3⟩:=(D.one_fz h rfl).ptr_inv
  refine ⟨_,.fz (.ptr (o:=o+j.toNat) (fun i=>cv (j.toNat+i)) (fun i d hd => ?_) fun i d hd => ?_),fun K Q hk=>zBG hv (dM hr hy (by simp [Op.operands])) h0 h1 hk⟩
  ·rw [List.getElem?_drop] at hd
   have:=h2 _ d hd
   rwa [← Nat.add_assoc] at this
  ·rw [List.getElem?_drop] at hd
   exact h3 _ d hd
theorem zGZ {t n:Nat} [TArr P t n] {k:IntKind} {j:Int} {d:D} (hx:ρ x=.agg cs) (hy:ρ y=.int k j) (h0:0≤j) (h1:j < n) (hd:cs[j.toNat]?=some d) (ho:d.one=true):OpOk P (Oper.mk dst (.index t x y) ty pos after guard) ρ d:=
 .still fun S w a _ hr=>by
  obtain ⟨q,h⟩:=lP hr hx (by simp [Op.operands])
  obtain ⟨vs,hv,hl,_,hi⟩:=h.agg_inv
  have hj:j.toNat < vs.length:=by rw [hl];exact (bC hd)
  have hvj:vs[j.toNat]?=some vs[j.toNat]:=List.getElem?_eq_getElem hj
  exact ⟨_,.fz (D.one_fz (hi _ d _ hd hvj) ho),fun K Q hk=>zIe hv (dM hr hy (by simp [Op.operands])) h0 h1 (by simp) hk⟩
theorem tK {S:Sig} {w:World} {q:Nat→Place} {us:List Value} {b c:List UInt8} (hl:us.length=2) (hi:∀ (j:Nat) (d:D) (v:Value),[D.str b,D.str c][j]?=some d→us[j]?=some v→Rep S w (q j) v d):us = [.string ⟨b.toArray⟩,.string ⟨c.toArray⟩]:=by
 match us,hl with
 |[u,v],_=>
  obtain rfl:=(hi 0 _ u rfl rfl).str_inv
  obtain rfl:=(hi 1 _ v rfl rfl).str_inv
  rfl
theorem zIH {a0 b0 c0 d0:List UInt8} [TArr P t 2] (hx:ρ x=.agg [.str a0,.str b0]) (hy:ρ y=.agg [.str c0,.str d0]):OpOk P (Oper.mk dst (.binOp .eql t x y t') ty pos after guard) ρ (.bool (a0 == c0 && b0 == d0)):=
 .still fun S w a _ hr=>by
  obtain ⟨q,h⟩:=lP hr hx (by simp [Op.operands])
  obtain ⟨q',h'⟩:=lP hr hy (by simp [Op.operands])
  obtain ⟨us,hu,hl,_,hi⟩:=h.agg_inv
  obtain ⟨vs,hv,hl',_,hi'⟩:=h'.agg_inv
  obtain rfl:=tK hl hi
  obtain rfl:=tK hl' hi'
  exact ⟨_,.fz (.bool _),fun K Q hk=>zK4 hu hv hk⟩
theorem zIG {a0 b0 c0 d0:List UInt8} [TArr P t 2] (hx:ρ x=.agg [.str a0,.str b0]) (hy:ρ y=.agg [.str c0,.str d0]):OpOk P (Oper.mk dst (.binOp .neq t x y t') ty pos after guard) ρ (.bool (!(a0 == c0 && b0 == d0))):=
 .still fun S w a _ hr=>by
  obtain ⟨q,h⟩:=lP hr hx (by simp [Op.operands])
  obtain ⟨q',h'⟩:=lP hr hy (by simp [Op.operands])
  obtain ⟨us,hu,hl,_,hi⟩:=h.agg_inv
  obtain ⟨vs,hv,hl',_,hi'⟩:=h'.agg_inv
  obtain rfl:=tK hl hi
  obtain rfl:=tK hl' hi'
  exact ⟨_,.fz (.bool _),fun K Q hk=>zK3 hu hv hk⟩
theorem zCW {i n:Nat} {ag:Bool} [TFld P t i off n ag] {u o:Nat} (hx:ρ x=.ref u o):OpOk P (Oper.mk dst (.fieldAddr t x i) ty pos after guard) ρ (.ref u (o+off)):=
 .still fun S w a _ hr=>by
  obtain ⟨q,h⟩:=lP hr hx (by simp [Op.operands])
  generalize hv:a.eval x=v at h
  cases h with
  |fz h=>cases h
  |ref g=>exact ⟨_,⟨fun p=>.ref g,fun t' ht=>⟨x,by simp [Op.operands],by cases ht;rw [hx];exact .ref _⟩⟩,fun K Q hk=>bP hv hk⟩
theorem zIB [TOne P t] {d:D} (hx:ρ x=.ptr (d::cs)):OpOk P (Oper.mk dst (.load t x) ty pos after guard) ρ d:=
 .still fun S w a _ hr=>by
  obtain ⟨q,h⟩:=lP hr hx (by simp [Op.operands])
  obtain ⟨b,o,hv,cv,h1,h2⟩:=(D.one_fz h rfl).ptr_inv
  exact ⟨_,.fz (h2 0 d rfl),fun K Q hk=>fB hv (h1 0 d rfl).1 hk⟩
theorem zIA {t n:Nat} [TRow P t n] (hx:ρ x=.ptr cs) (hn:n≤cs.length):OpOk P (Oper.mk dst (.load t x) ty pos after guard) ρ (.agg (cs.take n)):=
 .still fun S w a _ hr=>by
  obtain ⟨q,h⟩:=lP hr hx (by simp [Op.operands])
  obtain ⟨b,o,hv,cv,h1,h2⟩:=(D.one_fz h rfl).ptr_inv
  have hget:∀ j,j < n→∃ d,cs[j]?=some d:=fun j hj=>⟨cs[j],List.getElem?_eq_getElem (by omega)⟩
  refine ⟨.agg ((List.range n).map cv).toArray,.fz (.agg _ (by simp;omega) (fun u hu => ?_) fun j d v hd hv' => ?_),fun K Q hk=>sI (cs:=(List.range n).map cv) hv (fun j u hu => ?_) (by simp) hk⟩
  ·obtain ⟨j,hj,rfl⟩:=List.mem_map.1 hu
   obtain ⟨d,hd⟩:=hget j (List.mem_range.1 hj)
   exact (h1 j d hd).2.2
  ·rw [List.getElem?_take] at hd
   split at hd
   ·rename_i hj
    rw [List.getElem?_map,List.getElem?_range hj] at hv'
    cases hv'
    exact h2 j d hd
   ·cases hd
  ·have hj:j < n:=by have:=(bC hu);simpa using this
   rw [List.getElem?_map,List.getElem?_range hj] at hu
   cases hu
   obtain ⟨d,hd⟩:=hget j hj
   exact (h1 j d hd).1
theorem zBN {t e sz:Nat} [TSlice P t e] [TSize P e sz] {m:Nat} {k:IntKind} {j:Int} {r:List D} (hx:ρ x=.sl m sz rows) (hm:m < 2) (hy:ρ y=.int k j) (h0:0≤j) (hr':rows[j.toNat]?=some r):
  OpOk P (Oper.mk dst (.indexAddr t x y) ty pos after guard) ρ (.ptr r):=
 .still fun S w a _ hr=>by
  obtain ⟨q,h⟩:=lP hr hx (by simp [Op.operands])
  have hj:=(List.getElem?_eq_some_iff.1 hr').1
  have hf:Fz S.lim w (a.eval x) (.sl 0 sz rows):=by
   generalize a.eval x=v at h
   cases h with
   |fz h=>
    cases h with
    |slNil=>simp at hj
    |slE=>simp at hj
    |sl cv hc hmx hl hh ih=>exact .sl cv hc hmx hl hh ih
   |own g=>
    have:m=1:=by rcases g.mode with h|h<;>omega
    subst this
    exact g.fz
  generalize hv:a.eval x=v at hf
  cases hf with
  |slNil=>simp at hj
  |slE=>simp at hj
  |sl cv hc hm hl hh ih=>
   refine ⟨_,.fz (.ptr (fun i=>cv j.toNat i) (fun i d hd=>hh _ r i d hr' hd) fun i d hd=>ih _ r i d hr' hd),fun K Q hk=>nU hv (dM hr hy (by simp [Op.operands])) h0 (by omega) hk⟩
theorem zIC {t e:Nat} [TSlice P t e] {m sz:Nat} (hx:ρ x=.sl m sz rows):OpOk P (Oper.mk dst (.call ⟨.builtin .len,#[x],#[t]⟩) ty pos after guard) ρ (.int .i64 rows.length):=
 .still fun S w a _ hr=>by
  obtain ⟨q,h⟩:=lP hr hx (by simp [Op.operands,Call.operands])
  have hv:∃ A c,a.eval x=.slice A rows.length c:=by
   generalize a.eval x=v at h
   cases h with
   |fz h=>cases h<;>exact ⟨_,_,rfl⟩
   |own g=>exact ⟨_,_,rfl⟩
  obtain ⟨A,c,hv⟩:=hv
  exact ⟨_,.fz (.int _ _),fun K Q hk=>nT hv hk⟩
theorem zGU {t e:Nat} [TSlice P t e] (hx:ρ x=.nil):OpOk P (Oper.mk dst (.call ⟨.builtin .len,#[x],#[t]⟩) ty pos after guard) ρ (.int .i64 0):=
 .still fun S w a _ hr=>by
  obtain ⟨q,h⟩:=lP hr hx (by simp [Op.operands,Call.operands])
  exact ⟨_,.fz (.int _ _),fun K Q hk=>nT h.nil_inv hk⟩
theorem zND (hc:(ρ x).cellsOf=some cs):OpOk P (Oper.mk dst (.box t x) ty pos after guard) ρ (.ptr cs):=by
 intro S w a p hw hr K Q hK
 obtain ⟨q,h⟩:=hr x (by simp [Op.operands])
 obtain ⟨h1,h2,h3⟩:=Fz.cells h hc
 refine zCE rfl fun g w' hb hx hg => ?_
 have hp:=PT.ext' hw hx
 have hK':∀ v,Fz S.lim w' v (.ptr cs)→K (a.put dst v) w':=fun v hf=>hK v S w' hp (.fz hf) (fun t ht=>by cases ht)
 refine hK' _ (.ptr (fun j=>(a.eval x).cells.toList.getD j undef) (fun j d hd => ?_) fun j d hd => ?_)
 ·have hj:j < (a.eval x).cells.toList.length:=by rw [h1];exact (bC hd)
  have he:(a.eval x).cells.toList[j]?=some ((a.eval x).cells.toList.getD j undef):=by rw [List.getD_eq_getElem?_getD,List.getElem?_eq_getElem hj];rfl
  refine ⟨?_,fun s hs => ?_,h2 _ (aK he)⟩
  ·rw [Nat.zero_add,hb.cell]
   simpa using he
  ·exfalso
   simp only [Sig.lim] at hs
   cases ho:S.own g with
   |none=>rw [ho] at hs;cases hs
   |some x=>have:=hw g x ho;omega
 ·have hj:j < (a.eval x).cells.toList.length:=by rw [h1];exact (bC hd)
  have he:(a.eval x).cells.toList[j]?=some ((a.eval x).cells.toList.getD j undef):=by rw [List.getD_eq_getElem?_getD,List.getElem?_eq_getElem hj];rfl
  exact (h3 j d _ hd he).trans hp.trans
def zAq:List D→List D→Option Bool
 |[],[]=>some true
 |.int _ p::xs,.int _ q::ys=>(zAq xs ys).map fun b=>p == q && b
 |.str p::xs,.str q::ys=>(zAq xs ys).map fun b=>p == q && b
 |.bool p::xs,.bool q::ys=>(zAq xs ys).map fun b=>p == q && b
 |_,_=>none
def vV:List Nat→List D→List D→Prop
 |[],[],[]=>True
 |0::ks,.int k _::xs,.int k' _::ys=>k=k'∧vV ks xs ys
 |1::ks,.str _::xs,.str _::ys=>vV ks xs ys
 |2::ks,.bool _::xs,.bool _::ys=>vV ks xs ys
 |_,_,_=>False
theorem kI {S:Sig} {w:World}:∀ (ks:List Nat) (xs ys:List D) (us vs:List Value) (q q':Nat→Place) (b:Bool),vV ks xs ys→zAq xs ys=some b→us.length=xs.length→vs.length=ys.length→
  (∀ (j:Nat) (d:D) (v:Value),xs[j]?=some d→us[j]?=some v→Rep S w (q j) v d)→(∀ (j:Nat) (d:D) (v:Value),ys[j]?=some d→vs[j]?=some v→Rep S w (q' j) v d)→bZ ks us vs=true∧eO us vs=b
 |ks,xs,ys,us,vs,q,q',b,hf,hd,hu,hv,h1,h2=>by
  match ks,xs,ys,us,vs,hf,hd,hu,hv with
  |[],[],[],[],[],_,hd,_,_=>cases hd;exact ⟨rfl,rfl⟩
  |0::ks,.int k m::xs,.int k' n::ys,u::us,v::vs,hf,hd,hu,hv=>
   obtain ⟨rfl,hf⟩:=hf
   simp only [zAq,Option.map_eq_some_iff] at hd
   obtain ⟨b',hb',rfl⟩:=hd
   obtain rfl:=(h1 0 _ u rfl rfl).int_inv
   obtain rfl:=(h2 0 _ v rfl rfl).int_inv
   obtain ⟨e1,e2⟩:=kI ks xs ys us vs (fun j=>q (j+1)) (fun j=>q' (j+1)) b' hf hb' (by simpa using hu) (by simpa using hv) (fun j d v hd hv=>h1 (j+1) d v (by simpa using hd) (by simpa using hv)) (fun j d v hd hv=>h2 (j+1) d v (by simpa using hd) (by simpa using hv))
   exact ⟨by simp [bZ,e1],by simp [eO,veq,e2]⟩
  |1::ks,.str m::xs,.str n::ys,u::us,v::vs,hf,hd,hu,hv=>
   simp only [zAq,Option.map_eq_some_iff] at hd
   obtain ⟨b',hb',rfl⟩:=hd
   obtain rfl:=(h1 0 _ u rfl rfl).str_inv
   obtain rfl:=(h2 0 _ v rfl rfl).str_inv
   obtain ⟨e1,e2⟩:=kI ks xs ys us vs (fun j=>q (j+1)) (fun j=>q' (j+1)) b' hf hb' (by simpa using hu) (by simpa using hv) (fun j d v hd hv=>h1 (j+1) d v (by simpa using hd) (by simpa using hv)) (fun j d v hd hv=>h2 (j+1) d v (by simpa using hd) (by simpa using hv))
   exact ⟨by simp [bZ,e1],by simp [eO,veq,e2]⟩
  |2::ks,.bool m::xs,.bool n::ys,u::us,v::vs,hf,hd,hu,hv=>
   simp only [zAq,Option.map_eq_some_iff] at hd
   obtain ⟨b',hb',rfl⟩:=hd
   obtain rfl:=(h1 0 _ u rfl rfl).bool_inv
   obtain rfl:=(h2 0 _ v rfl rfl).bool_inv
   obtain ⟨e1,e2⟩:=kI ks xs ys us vs (fun j=>q (j+1)) (fun j=>q' (j+1)) b' hf hb' (by simpa using hu) (by simpa using hv) (fun j d v hd hv=>h1 (j+1) d v (by simpa using hd) (by simpa using hv)) (fun j d v hd hv=>h2 (j+1) d v (by simpa using hd) (by simpa using hv))
   exact ⟨by simp [bZ,e1],by simp [eO,veq,e2]⟩
theorem zCR {ks:List Nat} {xs ys:List D} {b:Bool} [TEqS P t ks] (hx:ρ x=.agg xs) (hy:ρ y=.agg ys) (hf:vV ks xs ys) (hb:zAq xs ys=some b):OpOk P (Oper.mk dst (.binOp .eql t x y t') ty pos after guard) ρ (.bool b):=
 .still fun S w a _ hr=>by
  obtain ⟨q,h⟩:=lP hr hx (by simp [Op.operands])
  obtain ⟨q',h'⟩:=lP hr hy (by simp [Op.operands])
  obtain ⟨us,hu,hl,_,hi⟩:=h.agg_inv
  obtain ⟨vs,hv,hl',_,hi'⟩:=h'.agg_inv
  obtain ⟨e1,e2⟩:=kI ks xs ys us vs _ _ b hf hb hl hl' hi hi'
  exact ⟨_,.fz (.bool _),fun K Q hk=>zEx hu hv e1 (by rw [e2];exact hk)⟩
theorem zCQ {ks:List Nat} {xs ys:List D} {b:Bool} [TEqS P t ks] (hx:ρ x=.agg xs) (hy:ρ y=.agg ys) (hf:vV ks xs ys) (hb:zAq xs ys=some b):OpOk P (Oper.mk dst (.binOp .neq t x y t') ty pos after guard) ρ (.bool !b):=
 .still fun S w a _ hr=>by
  obtain ⟨q,h⟩:=lP hr hx (by simp [Op.operands])
  obtain ⟨q',h'⟩:=lP hr hy (by simp [Op.operands])
  obtain ⟨us,hu,hl,_,hi⟩:=h.agg_inv
  obtain ⟨vs,hv,hl',_,hi'⟩:=h'.agg_inv
  obtain ⟨e1,e2⟩:=kI ks xs ys us vs _ _ b hf hb hl hl' hi hi'
  exact ⟨_,.fz (.bool _),fun K Q hk=>zEw hu hv e1 (by rw [e2];exact hk)⟩
end
end Go.Proofs.YtnjgoldinaffgaaGreatDoor
namespace Go.Proofs.YtnjgoldinaffgaaGreatDoor
set_option linter.unusedSimpArgs false
set_option linter.unusedVariables false
open Go.RowKit
variable {e t t':Nat} {es:List (Value × Value)} {hi lo:Option Operand} {kd:KD} {s:List UInt8} {us zc:List Value} {w:World} {x:Operand}
structure CR (lim:Nat→Option Nat) (w:World) (us:List Value) (ds:List D):Prop where
 len:us.length=ds.length
 one:∀ u:Value,u ∈ us→u.oneCell'=true
 fz:∀ (j:Nat) (d:D) (u:Value),ds[j]?=some d→us[j]?=some u→Fz lim w u d
theorem CR.of {S:Sig} {q:Place} {v:Value} {d:D} {cs:List D} (h:Rep S w q v d) (hc:d.cellsOf=some cs):CR S.lim w v.cells.toList cs:=by
 obtain ⟨h1,h2,h3⟩:=Fz.cells h hc
 exact ⟨h1,h2,h3⟩
theorem CR.append {lim:Nat→Option Nat} {vs:List Value} {ds es:List D} (h:CR lim w us ds) (k:CR lim w vs es):CR lim w (us++vs) (ds++es):=by
 refine ⟨by simp [h.len,k.len],fun u hu => ?_,fun j d u hd hu => ?_⟩
 ·rcases List.mem_append.1 hu with hu|hu
  ·exact h.one u hu
  ·exact k.one u hu
 ·by_cases hj:j < ds.length
  ·rw [List.getElem?_append_left hj] at hd
   rw [List.getElem?_append_left (by rw [h.len];exact hj)] at hu
   exact h.fz j d u hd hu
  ·rw [List.getElem?_append_right (by omega)] at hd
   rw [List.getElem?_append_right (by rw [h.len];omega),h.len] at hu
   exact k.fz _ d u hd hu
theorem CR.take {lim:Nat→Option Nat} {ds:List D} (h:CR lim w us ds) (n:Nat):CR lim w (us.take n) (ds.take n):=by
 refine ⟨by simp [h.len],fun u hu=>h.one u (List.mem_of_mem_take hu),fun j d u hd hu => ?_⟩
 rw [List.getElem?_take] at hd hu
 split at hd
 ·rename_i hj
  rw [if_pos hj] at hu
  exact h.fz j d u hd hu
 ·cases hd
theorem CR.drop {lim:Nat→Option Nat} {ds:List D} (h:CR lim w us ds) (n:Nat):CR lim w (us.drop n) (ds.drop n):=by
 refine ⟨by simp [h.len],fun u hu=>h.one u (List.mem_of_mem_drop hu),fun j d u hd hu => ?_⟩
 rw [List.getElem?_drop] at hd hu
 exact h.fz _ d u hd hu
theorem CR.agg {lim:Nat→Option Nat} {w:World} {us:List Value} {ds:List D} (h:CR lim w us ds):Fz lim w (.agg us.toArray) (.agg ds):=.agg us h.len h.one h.fz
def cX (zc:List Value):List D:=zc.map nH
theorem CR.zero {lim:Nat→Option Nat} (h:zc.all Value.oneCell'=true):CR lim w zc (cX zc):=by
 have h1:∀ u:Value,u ∈ zc→u.oneCell'=true:=fun u hu=>List.all_eq_true.1 h u hu
 refine ⟨by simp [cX],h1,fun j d u hd hu => ?_⟩
 rw [cX,List.getElem?_map,hu] at hd
 cases hd
 refine mB u fun cs hc => ?_
 have:=h1 u (aK hu)
 rw [hc] at this
 cases this
def lA (pl:List (Nat × Nat)):List D→List (Nat × Option (List D))→Option (List D)
 |cells,[]=>some cells
 |cells,(i,some cs)::r=>match pl[i]? with
  |some (off,sz)=>if cs.length=sz∧off+sz≤cells.length then lA pl (cells.take off++cs++cells.drop (off+sz)) r else none
  |none=>none
 |_,(_,none)::_=>none
theorem kZ {S:Sig} {w:World} {pl:List (Nat × Nat)}:∀ (vals:List (Nat × Value)) (parts:List (Nat × Option (List D))) (cells:List Value) (cellsD cs:List D),lA pl cellsD parts=some cs→CR S.lim w cells cellsD→
  vals.length=parts.length→(∀ (j:Nat) (x:Nat × Value) (y:Nat × Option (List D)),vals[j]?=some x→parts[j]?=some y→x.1=y.1∧∀ ds,y.2=some ds→CR S.lim w x.2.cells.toList ds)→∃ us,tD pl cells vals=some us∧CR S.lim w us cs
 |[],[],cells,cellsD,cs,h,hc,_,_=>by
  simp only [lA,Option.some.injEq] at h
  subst h
  exact ⟨cells,rfl,hc⟩
 |(i,v)::vals,(i',none)::parts,_,_,_,h,_,_,_=>by simp [lA] at h
 |(i,v)::vals,(i',some ds)::parts,cells,cellsD,cs,h,hc,hl,hr=>by
  obtain ⟨rfl,h1⟩:=hr 0 _ _ rfl rfl
  have hds:=h1 ds rfl
  simp only [lA] at h
  cases hp:pl[i]? with
  |none=>rw [hp] at h;cases h
  |some x=>
   obtain ⟨off,sz⟩:=x
   rw [hp] at h
   simp only at h
   split at h
   ·rename_i hcnd
    obtain ⟨us,k1,k2⟩:=kZ vals parts (cells.take off++v.cells.toList++cells.drop (off+sz)) _ cs h (((hc.take off).append hds).append (hc.drop (off+sz))) (by simpa using hl) (fun j x y hx hy=>hr (j+1) x y (by simpa using hx) (by simpa using hy))
    refine ⟨us,?_,k2⟩
    simp only [tD,hp]
    rw [if_pos ⟨by rw [hds.len];exact hcnd.1,by rw [hc.len];exact hcnd.2⟩]
    exact k1
   ·cases h
def zH3:List (Option (List D))→Option (List (List D))
 |[]=>some []
 |none::_=>none
 |some x::r=>(zH3 r).map (x :: ·)
theorem tV:∀ (l:List (Option (List D))) (rows:List (List D)),zH3 l=some rows→rows.length=l.length∧∀ (j:Nat) (r:List D),rows[j]?=some r→l[j]?=some (some r)
 |[],rows,h=>by cases h;exact ⟨rfl,fun j r h=>by simp at h⟩
 |none::_,rows,h=>by cases h
 |some x::l,rows,h=>by
  simp only [zH3,Option.map_eq_some_iff] at h
  obtain ⟨rows',h1,rfl⟩:=h
  obtain ⟨k1,k2⟩:=tV l rows' h1
  refine ⟨by simp [k1],fun j r hr => ?_⟩
  cases j with
  |zero=>cases hr;rfl
  |succ j=>simpa using k2 j r (by simpa using hr)
section
variable {P:Program} {dst:Option Tmp} {ty:TypeId} {pos:String} {after:Array Edge} {guard:Option (Nat × Bool)} {ρ:Operand→D}
theorem zIF {t:TypeId} {pl:List (Nat × Nat)} [TStruct P t pl] [TZer P t zc] {parts:Array (Nat × Operand)} {cs:List D} (hz:zc.all Value.oneCell'=true) (hf:lA pl (cX zc) (parts.toList.map fun x=>(x.1,(ρ x.2).cellsOf))=some cs):
  OpOk P (Oper.mk dst (.build t parts) ty pos after guard) ρ (.agg cs):=
 .still fun S w a _ hr=>by
  obtain ⟨us,h1,h2⟩:=kZ (S:=S) (w:=w) (parts.toList.map fun x=>(x.1,a.eval x.2)) _ zc (cX zc) cs hf (CR.zero hz) (by simp) (fun j x y hx hy=>by
   rw [List.getElem?_map] at hx hy
   cases hp:parts.toList[j]? with
   |none=>rw [hp] at hx;cases hx
   |some z=>
    rw [hp] at hx hy
    cases hx;cases hy
    refine ⟨rfl,fun ds hd => ?_⟩
    obtain ⟨q,h⟩:=hr z.2 (by simp only [Op.operands,List.mem_map];exact ⟨z,aK hp,rfl⟩)
    exact CR.of h hd)
  refine ⟨_,.fz h2.agg,fun K Q hk => ?_⟩
  have:=zBI (P:=P) (dst:=dst) (ty:=ty) (pos:=pos) (after:=after) (guard:=guard) (Q:=Q) (t:=t) (parts:=parts.toList) rfl h1 hk
  simpa using this
theorem zAo {n m:Nat} [TSlice P t e] [TSize P e n] [TZer P e zc] {parts:Array (Nat × Operand)} {rows:List (List D)} (hi:parts.toList.map (·.1)=List.range m) (hr0:zH3 (parts.toList.map fun x=>(ρ x.2).cellsOf)=some rows)
  (hn:(rows.all fun r=>r.length == n)=true) (hz:(decide (0 < n) && decide (m * n≤16777216))=true):OpOk P (Oper.mk dst (.buildSlice t m parts) ty pos after guard) ρ (.sl 2 n rows):=by
 intro S w a p hw hr K Q hK
 have hlen:parts.toList.length=m:=by have:=congrArg List.length hi;simpa using this
 have hp:parts=((parts.toList.map (·.2)).zipIdx.map fun x=>(x.2,x.1)).toArray:=by
  apply Array.ext'
  simp only []
  apply List.ext_getElem?
  intro j
  rw [List.getElem?_map,List.getElem?_zipIdx,List.getElem?_map]
  cases hj:parts.toList[j]? with
  |none=>rfl
  |some x=>
   have h1:(parts.toList.map (·.1))[j]?=some x.1:=by rw [List.getElem?_map,hj];rfl
   have hjm:j < m:=by rw [← hlen];exact (bC hj)
   rw [hi,List.getElem?_range hjm] at h1
   simp only [Option.some.injEq] at h1
   obtain ⟨x1,x2⟩:=x
   simp only at h1
   subst h1
   simp
 have hrl:rows.length=m:=by
  have:=(tV _ _ hr0).1
  rw [this,List.length_map,hlen]
 have hcr:∀ (j:Nat) (x:Nat × Operand) (r:List D),parts.toList[j]?=some x→rows[j]?=some r→CR S.lim w (a.eval x.2).cells.toList r:=fun j x r hx hrj=>by
  have hc:(ρ x.2).cellsOf=some r:=by
   have:=(tV _ _ hr0).2 j r hrj
   rw [List.getElem?_map,hx] at this
   exact Option.some.inj this
  obtain ⟨q,h⟩:=hr x.2 (by simp only [Op.operands,List.mem_map];exact ⟨x,aK hx,rfl⟩)
  exact CR.of h hc
 have hallD:∀ r ∈ rows,r.length=n:=fun r hr'=>by simpa using List.all_eq_true.1 hn r hr'
 let vrows:List (List Value):=(parts.toList.map (·.2)).map fun x=>(a.eval x).cells.toList
 have hvl:vrows.length=rows.length:=by simp only [vrows,List.length_map,hlen,hrl]
 have hcv:∀ (j:Nat) (u:List Value) (r:List D),vrows[j]?=some u→rows[j]?=some r→CR S.lim w u r:=fun j u r hu hrj=>by
  simp only [vrows,List.map_map,List.getElem?_map] at hu
  cases hp:parts.toList[j]? with
  |none=>rw [hp] at hu;cases hu
  |some x=>rw [hp] at hu;cases hu;exact hcr j x r hp hrj
 have hallV:∀ u ∈ vrows,u.length=n:=fun u hu=>by
  obtain ⟨j,hj,rfl⟩:=List.mem_iff_getElem.1 hu
  have hj':j < rows.length:=by omega
  have:=(hcv j _ rows[j] (List.getElem?_eq_getElem hj) (List.getElem?_eq_getElem hj')).len
  rw [this]
  exact hallD _ (List.getElem_mem hj')
 refine sJ (rows:=vrows) hp (by simpa using hlen) rfl (by simp [vrows]) (by rw [List.all_eq_true];intro u hu;simpa using hallV u hu) hz fun g w' hb hx hg => ?_
 let S':Sig:=⟨fun b=>if b=g then some (p,0) else S.own b,S.loc⟩
 have hpt:PT S w S' w':=⟨hx,fun b hb'=>if_neg (by omega),rfl,⟨fun b x hbx=>by
  by_cases hbg:b=g
  ·subst hbg;exact hb.lt
  ·have:S.own b=some x:=by simpa [S',hbg] using hbx
   exact Nat.lt_of_lt_of_le (hw b x this) hx.sizeOf,hw.gl.keep fun b hb' hn=>⟨hx.block hb',(if_neg (by omega)).trans hn⟩⟩⟩
 refine hK _ S' w' hpt ?_ (fun t ht=>by cases ht)
 have hfl:∀ (l:List (List Value)),(∀ r ∈ l,r.length=n)→l.flatten.length=l.length * n:=by
  intro l
  induction l with
  |nil=>intro _;simp
  |cons r l ih=>intro h;simp only [List.flatten_cons,List.length_append,List.length_cons,h r (by simp),ih (fun q hq=>h q (by simp [hq])),Nat.add_mul];omega
 have hmn:n≤m * n∨m=0:=by
  rcases Nat.eq_zero_or_pos m with h|h
  ·exact .inr h
  ·exact .inl (Nat.le_mul_of_pos_left n h)
 simp only [Bool.and_eq_true,decide_eq_true_eq] at hz
 have hmm:m≤m * n:=Nat.le_mul_of_pos_right m hz.1
 have ho:OwnAt S' w' p g m 2 n rows vrows.flatten.toArray e:=by
  refine ⟨.inr rfl,hb,by omega,by unfold maxLen;omega,by simp only [List.size_toArray];rw [hfl vrows hallV,hvl,hrl],hallD,by simp [S'],fun k r j d hk hd => ?_⟩
  have hkr:k < rows.length:=(bC hk)
  have hkv:k < vrows.length:=by omega
  have hj:j < n:=by rw [← hallD r (aK hk)];exact (bC hd)
  have hcrk:=hcv k vrows[k] r (List.getElem?_eq_getElem hkv) hk
  have hjv:j < vrows[k].length:=by rw [hallV _ (List.getElem_mem hkv)];exact hj
  refine ⟨vrows[k][j],?_,hcrk.one _ (List.getElem_mem hjv),(hcrk.fz j d _ hd (List.getElem?_eq_getElem hjv)).trans hpt.trans⟩
  have:=zF hallV k vrows[k] (List.getElem?_eq_getElem hkv) j hj
  simpa [List.getElem?_eq_getElem hjv] using this
 have hfin:=Rep.own ho
 rw [hrl] at hfin
 exact hfin
theorem sQ {n by':Nat} [ts:TSlice P t e] [tz:TZer P e zc] [te:TElem P e n by' zc] {l c:Operand} {q q2:Int} (hz:zc.all Value.oneCell'=true) (hl:ρ l=.int .i64 q) (hc:ρ c=.int .i64 q2) (h0:0≤q) (h2:q≤q2) (h1:q2≤1000000) (hby:by'≤1000):OpOk P (Oper.mk dst (.makeSlice t l c) ty pos after guard) ρ (.sl 2 n (List.replicate q.toNat (cX zc))):=by
 intro S w a p hw hr K Q hK
 obtain ⟨inf,z0,e1,e2,e3,e4,e5,e6⟩:=te.h
 have hzc:z0.cells.toList=zc:=by
  have:=tz.h
  rw [e1] at this
  simp only [Option.map_some,e2,Option.some.injEq] at this
  exact this
 have hzl:zc.length=n:=by rw [← hzc];simpa using e5
 obtain ⟨L,rfl⟩:∃ L:Nat,q=L:=⟨q.toNat,by omega⟩
 obtain ⟨N,rfl⟩:∃ N:Nat,q2=N:=⟨q2.toNat,by omega⟩
 have hN:N≤1000000:=by omega
 have hLN:L≤N:=by omega
 have hmul:(inf.bytes:Int) * (N:Int)≤281474976710656:=by
  have h2':inf.bytes * N≤1000 * 1000000:=Nat.mul_le_mul (by omega) hN
  have h3:((inf.bytes * N:Nat):Int)≤281474976710656:=by omega
  rwa [Int.natCast_mul] at h3
 have hrun:=run_make (P:=P) w t e inf z0 ts.h e1 e2 .i64 .i64 (L:Int) (N:Int) (by omega) (by omega) hmul (by omega)
 rw [Int.toNat_natCast,Int.toNat_natCast,e3] at hrun
 unfold Oper.wp
 rw [show (execOp a.eval (Oper.mk dst (.makeSlice t l c) ty pos after guard)).run P w=.ok (.value (.slice (some ⟨w.heap.size,0,none⟩) L N)) (w.alloc (.cells (madeCells z0.cells (N * n)) e)) by
  simp only [execOp,dM hr hl (by simp [Op.operands]),dM hr hc (by simp [Op.operands]),Sem.run_bind,hrun,Result.andThen_ok,Sem.run_pure]]
 show K (a.put dst (.slice (some ⟨w.heap.size,0,none⟩) L N)) _
 have hb:=Blk.new w e (madeCells z0.cells (N * n))
 have hx:=Ext.alloc w (.cells (madeCells z0.cells (N * n)) e)
 generalize w.alloc (.cells (madeCells z0.cells (N * n)) e)=w' at hb hx ⊢
 let S':Sig:=⟨fun b=>if b=w.heap.size then some (p,0) else S.own b,S.loc⟩
 have hpt:PT S w S' w':=⟨hx,fun b hb'=>if_neg (by omega),rfl,⟨fun b x hbx=>by
  by_cases hbg:b=w.heap.size
  ·subst hbg;exact hb.lt
  ·have:S.own b=some x:=by simpa [S',hbg] using hbx
   exact Nat.lt_of_lt_of_le (hw b x this) hx.sizeOf,hw.gl.keep fun b hb' hn=>⟨hx.block hb',(if_neg (by omega)).trans hn⟩⟩⟩
 refine hK _ S' w' hpt ?_ (fun t ht=>by cases ht)
 have hcz:=CR.zero (lim:=S'.lim) (w:=w') hz
 have ho:OwnAt S' w' p w.heap.size N 2 n (List.replicate L (cX zc)) (madeCells z0.cells (N * n)) e:=by
  refine ⟨.inr rfl,hb,by simp;omega,by unfold maxLen;omega,size_madeCells _ _,fun r hr' => ?_,by simp [S'],fun k r j d hk hd => ?_⟩
  ·rw [List.mem_replicate] at hr'
   rw [hr'.2,← hcz.len,hzl]
  ·have hkN:k < L:=by have:=(bC hk);simpa using this
   have hrz:r=cX zc:=by rw [List.getElem?_replicate,if_pos hkN] at hk;exact (Option.some.inj hk).symm
   subst hrz
   have hj:j < n:=by rw [← hzl,hcz.len];exact (bC hd)
   have hjz:j < zc.length:=by omega
   have hlt:k * n+j < N * n:=by
    have:(k+1) * n≤N * n:=Nat.mul_le_mul_right n (Nat.le_trans hkN hLN)
    rw [Nat.add_mul,Nat.one_mul] at this
    omega
   refine ⟨zc[j],?_,hcz.one _ (List.getElem_mem hjz),hcz.fz j d _ hd (List.getElem?_eq_getElem hjz)⟩
   unfold madeCells
   rw [Array.getElem?_map,Array.getElem?_range,if_pos hlt,Option.map_some,e5,Nat.mul_comm k n,Nat.mul_add_mod,Nat.mod_eq_of_lt hj]
   congr 1
   subst hzc
   rw [getElem!_pos z0.cells j (by omega)]
   simp
 have hfin:=Rep.own ho
 rw [List.length_replicate] at hfin
 exact hfin
/-! parts of slices -/
def zCf (a:Act) (x:Option Operand) (dflt n:Nat):Prop:=match x with
 |none=>n=dflt
 |some o=>∃ k:IntKind,a.eval o=.int k (n:Int)
theorem mR {sz:Nat} [i:TSlice P t e] [z:TSize P e sz] {A:Option Addr} {len cap l h:Nat} {Q:Exit→Act→World→Prop} {K:Act→World→Prop} {a:Act} (hx:a.eval x=.slice A len cap)
  (hl:zCf a lo 0 l) (hh:zCf a hi len h) (h1:l≤h) (h2:h≤len) (h3:len≤cap)
  (hk:K (a.put dst (.slice (if cap=l then A else A.map (·.add (l * sz))) (h - l) (cap - l))) w):(Oper.mk dst (.slice t x lo hi none) ty pos after guard).wp P a w K Q:=by
 refine bL (v:=.slice (if cap=l then A else A.map (·.add (l * sz))) (h - l) (cap - l)) ?_ hk
 have hs:=dD (P:=P) (w:=w) z.sz
 have hb:∀ (k:IntKind) (n y:Nat) (c:BoundsCode),n≤y→(Instr.sliceBound (.int k (n:Int)) y c).run P w=.ok n w:=fun k n y c hn=>by
  rw [run_sliceBound w k n y c (by omega) (by omega)]
  simp
 cases lo with
 |none=>
  simp only [zCf] at hl
  subst hl
  cases hi with
  |none=>
   simp only [zCf] at hh
   subst hh
   simp [execOp,hx,Instr.sliceAt,Instr.slice,Instr.sliceBounds,run_underlying i.h,hs]
  |some o=>
   obtain ⟨k,hk'⟩:=hh
   simp [execOp,hx,hk',Instr.sliceAt,Instr.slice,Instr.sliceBounds,run_underlying i.h,hs,hb k h cap _ (by omega)]
 |some o'=>
  obtain ⟨k2,hk2⟩:=hl
  cases hi with
  |none=>
   simp only [zCf] at hh
   subst hh
   simp [execOp,hx,hk2,Instr.sliceAt,Instr.slice,Instr.sliceBounds,run_underlying i.h,hs,hb k2 l h _ (by omega)]
  |some o=>
   obtain ⟨k,hk'⟩:=hh
   simp [execOp,hx,hk',hk2,Instr.sliceAt,Instr.slice,Instr.sliceBounds,run_underlying i.h,hs,hb k h cap _ (by omega),hb k2 l h _ (by omega)]
theorem zEH {sz:Nat} [TSlice P t e] [TSize P e sz] {rows:List (List D)} {l h:Int} (hx:ρ x=.sl 0 sz rows) (hl:tL ρ lo 0 l) (hh:tL ρ hi rows.length h) (h0:0≤l) (h1:l≤h) (h2:h≤rows.length):OpOk P (Oper.mk dst (.slice t x lo hi none) ty pos after guard) ρ (.sl 0 sz ((rows.take h.toNat).drop l.toNat)):=
 .still fun S w a _ hr=>by
  obtain ⟨q,hq⟩:=lP hr hx (by simp [Op.operands])
  have hf:=D.one_fz hq rfl
  have blo:zCf a lo 0 l.toNat:=by
   cases lo with
   |none=>simp only [tL] at hl;simp only [zCf];omega
   |some o=>
    obtain ⟨k,hk'⟩:=hl
    exact ⟨k,by rw [Int.toNat_of_nonneg h0];exact dM hr hk' (by simp [Op.operands])⟩
  have bhi:∀ n:Nat,n=rows.length→zCf a hi n h.toNat:=by
   intro n hn
   cases hi with
   |none=>simp only [tL] at hh;simp only [zCf];omega
   |some o=>
    obtain ⟨k,hk'⟩:=hh
    exact ⟨k,by rw [Int.toNat_of_nonneg (by omega)];exact dM hr hk' (by simp [Op.operands])⟩
  generalize hv:a.eval x=v at hf
  cases hf with
  |slNil=>
   have e1:h.toNat=0:=by simp at h2;omega
   have e2:l.toNat=0:=by omega
   refine ⟨.slice none 0 0,.fz (by rw [e1,e2];exact .slNil 0 sz),fun K Q hk=>mR hv blo (bhi 0 rfl) (by omega) (by omega) (Nat.le_refl _) ?_⟩
   rw [e1,e2]
   simpa using hk
  |slE A=>
   have e1:h.toNat=0:=by simp at h2;omega
   have e2:l.toNat=0:=by omega
   refine ⟨.slice (some A) 0 0,.fz (by rw [e1,e2];exact .slE A sz),fun K Q hk=>mR hv blo (bhi 0 rfl) (by omega) (by omega) (Nat.le_refl _) ?_⟩
   rw [e1,e2]
   simpa using hk
  |@sl b o cap _ _ cv hc hm hrw hcell ih=>
   have hlen:((rows.take h.toNat).drop l.toNat).length=h.toNat - l.toNat:=by simp;omega
   have hat:∀ (k:Nat) (r:List D),((rows.take h.toNat).drop l.toNat)[k]?=some r→rows[l.toNat+k]?=some r:=fun k r hk=>by
    rw [List.getElem?_drop,List.getElem?_take] at hk
    split at hk
    ·exact hk
    ·cases hk
   by_cases hcl:cap=l.toNat
   ·have hnil:(rows.take h.toNat).drop l.toNat = []:=List.eq_nil_of_length_eq_zero (by omega)
    refine ⟨.slice (some ⟨b,o,none⟩) 0 0,.fz (by rw [hnil];exact .slE _ sz),fun K Q hk=>mR hv blo (bhi _ rfl) (by omega) (by omega) hc ?_⟩
    rw [if_pos hcl,show h.toNat - l.toNat=0 by omega,show cap - l.toNat=0 by omega]
    exact hk
   ·refine ⟨.slice (some ⟨b,o+l.toNat * sz,none⟩) ((rows.take h.toNat).drop l.toNat).length (cap - l.toNat),.fz (.sl (fun k j=>cv (l.toNat+k) j) (by omega) (by omega) (fun k r hk=>hrw _ r (hat k r hk)) (fun k r j d hk hd => ?_) fun k r j d hk hd=>ih _ r j d (hat k r hk) hd),fun K Q hk=>mR hv blo (bhi _ rfl) (by omega) (by omega) hc ?_⟩
    ·have:=hcell _ r j d (hat k r hk) hd
     rw [Nat.add_mul,← Nat.add_assoc] at this
     exact this
    ·rw [if_neg hcl,← hlen]
     have ha:(⟨b,o,none⟩:Addr).add (l.toNat * sz)=⟨b,o+l.toNat * sz,none⟩:=by unfold Addr.add;split<;>simp_all
     simp only [Option.map_some,ha]
     exact hk
/-! maps -/
theorem Rep.source {S:Sig} {q:Place} {v:Value} {m sz:Nat} {rows:List (List D)} (h:Rep S w q v (.sl m sz rows)):
  (∃ A,v=.slice A 0 0∧rows = [])∨∃ (b o c:Nat) (news:List Value),v=.slice (some ⟨b,o,none⟩) rows.length c∧news.length=rows.length * sz∧(∀ (j:Nat) (u:Value),news[j]?=some u→w.cell? ⟨b,o+j,none⟩=some u)∧(∀ u:Value,u ∈ news→u.oneCell'=true)∧
   (∀ r ∈ rows,r.length=sz)∧∀ (k:Nat) (r:List D) (j:Nat) (d:D),rows[k]?=some r→r[j]?=some d→∃ u,news[k * sz+j]?=some u∧Fz S.lim w u d:=by
 cases h with
 |fz h=>
  cases h with
  |slNil=>exact .inl ⟨_,rfl,rfl⟩
  |slE=>exact .inl ⟨_,rfl,rfl⟩
  |@sl b o cap _ _ cv hc hm hr hh ih=>
   have hallr:∀ r ∈ rows,r.length=sz:=fun r hr'=>by
    obtain ⟨k,hk,rfl⟩:=List.mem_iff_getElem.1 hr'
    exact hr k _ (List.getElem?_eq_getElem hk)
   have hcell:∀ i,i < rows.length * sz→∃ r d,rows[i / sz]?=some r∧r[i % sz]?=some d∧i / sz * sz+i % sz=i:=fun i hi=>by
    have hz:0 < sz:=by
     rcases Nat.eq_zero_or_pos sz with h|h
     ·rw [h] at hi;omega
     ·exact h
    have hk:i / sz < rows.length:=(Nat.div_lt_iff_lt_mul hz).2 hi
    have hj:i % sz < (rows[i / sz]).length:=by rw [hallr _ (List.getElem_mem hk)];exact Nat.mod_lt _ hz
    exact ⟨_,_,List.getElem?_eq_getElem hk,List.getElem?_eq_getElem hj,Nat.div_add_mod' i sz⟩
   refine .inr ⟨b,o,cap,(List.range (rows.length * sz)).map fun i=>cv (i / sz) (i % sz),rfl,by simp,fun j u hu => ?_,fun u hu => ?_,hallr,fun k r j d hk hd => ?_⟩
   ·have hj:j < rows.length * sz:=by have:=(bC hu);simpa using this
    rw [List.getElem?_map,List.getElem?_range hj] at hu
    cases hu
    obtain ⟨r,d,h1,h2,h3⟩:=hcell j hj
    have:=(hh _ r _ d h1 h2).1
    rwa [Nat.add_assoc,h3] at this
   ·obtain ⟨i,hi,rfl⟩:=List.mem_map.1 hu
    obtain ⟨r,d,h1,h2,_⟩:=hcell i (List.mem_range.1 hi)
    exact (hh _ r _ d h1 h2).2.2
   ·have hkl:k < rows.length:=(bC hk)
    have hj:j < sz:=by rw [← hallr r (aK hk)];exact (bC hd)
    have hlt:k * sz+j < rows.length * sz:=by
     have:(k+1) * sz≤rows.length * sz:=Nat.mul_le_mul_right _ hkl
     rw [Nat.add_mul] at this
     omega
    refine ⟨cv k j,?_,ih k r j d hk hd⟩
    rw [List.getElem?_map,List.getElem?_range hlt]
    have e1:(k * sz+j) / sz=k:=by rw [Nat.mul_comm,Nat.mul_add_div (by omega),Nat.div_eq_of_lt hj];omega
    have e2:(k * sz+j) % sz=j:=by rw [Nat.mul_comm,Nat.mul_add_mod];exact Nat.mod_eq_of_lt hj
    simp only [Option.map_some,e1,e2]
 |@own _ b cap _ _ _ cur e g=>
  refine .inr ⟨b,0,cap,cur.toList.take (rows.length * sz),rfl,?_,fun j u hu => ?_,fun u hu => ?_,g.each,fun k r j d hk hd => ?_⟩
  ·have:rows.length * sz≤cap * sz:=Nat.mul_le_mul_right _ g.le
   have e:cur.toList.length=cap * sz:=by rw [Array.length_toList,g.size]
   rw [List.length_take,e]
   omega
  ·rw [List.getElem?_take] at hu
   split at hu
   ·rw [cell_of_row w b _ cur e (0,0) g.heap,Nat.zero_add]
    simpa using hu
   ·cases hu
  ·obtain ⟨i,hi,rfl⟩:=List.mem_iff_getElem.1 hu
   have hi':i < rows.length * sz:=by rw [List.length_take] at hi;omega
   have hz:0 < sz:=by
    rcases Nat.eq_zero_or_pos sz with h|h
    ·rw [h] at hi';omega
    ·exact h
   have hk:i / sz < rows.length:=(Nat.div_lt_iff_lt_mul hz).2 hi'
   have hj:i % sz < (rows[i / sz]).length:=by rw [g.each _ (List.getElem_mem hk)];exact Nat.mod_lt _ hz
   obtain ⟨x,x1,x2,_⟩:=g.cells _ _ _ _ (List.getElem?_eq_getElem hk) (List.getElem?_eq_getElem hj)
   rw [Nat.div_add_mod'] at x1
   have:(cur.toList.take (rows.length * sz))[i]=x:=by
    rw [List.getElem_take]
    have:=(Array.getElem?_eq_some_iff.1 x1).2
    simpa using this
   rw [this]
   exact x2
  ·obtain ⟨x,x1,_,x3⟩:=g.cells k r j d hk hd
   have hkl:k < rows.length:=(bC hk)
   have hj:j < sz:=by rw [← g.each r (aK hk)];exact (bC hd)
   have hlt:k * sz+j < rows.length * sz:=by
    have:(k+1) * sz≤rows.length * sz:=Nat.mul_le_mul_right _ hkl
    rw [Nat.add_mul] at this
    omega
   exact ⟨x,by rw [List.getElem?_take,if_pos hlt];simpa using x1,x3⟩
def bR (b:UInt8):List D := [.int .u8 b.toNat]
theorem zD5 {lim:Nat→Option Nat} {b o:Nat} {news:List Value} (k2:∀ (j:Nat) (u:Value),news[j]?=some u→w.cell? ⟨b,o+j,none⟩=some u) (k5:∀ (k:Nat) (r:List D) (j:Nat) (d:D),(s.map bR)[k]?=some r→r[j]?=some d→∃ u,news[k * 1+j]?=some u∧Fz lim w u d):
  ∀ j (hj:j < s.length),w.cell? ((⟨b,o,none⟩:Addr).add j)=some (.int .u8 (s[j].toNat:Int)):=fun j hj=>by
 obtain ⟨u,u1,u2⟩:=k5 j (bR s[j]) 0 (.int .u8 s[j].toNat) (by simp [hj]) rfl
 cases u2
 rw [Nat.mul_one,Nat.add_zero] at u1
 rw [show (⟨b,o,none⟩:Addr).add j=⟨b,o+j,none⟩ by unfold Addr.add;split<;>simp_all]
 exact k2 j _ u1
theorem zCX {m:Nat} [TSlice P t e] [TInt P e .u8] [TStr P t'] (hx:ρ x=.sl m 1 (s.map bR)):OpOk P (Oper.mk dst (.convert t t' x) ty pos after guard) ρ (.str s):=
 .still fun S w a _ hr=>by
  obtain ⟨q,h⟩:=lP hr hx (by simp [Op.operands])
  refine ⟨.string ⟨s.toArray⟩,.fz (.str _),fun K Q hk=>bL ?_ hk⟩
  have hs:=TSlice.h (P:=P) (t:=t) (e:=e)
  have he:=TInt.h (P:=P) (t:=e) (k:=.u8)
  have hd:=TStr.h (P:=P) (t:=t')
  rcases h.source with ⟨A,hv,h0⟩|⟨b,o,c,news,hv,k1,k2,k3,k4,k5⟩
  ·obtain rfl:s = []:=by simpa using h0
   cases A with
   |none=>
    have:=run_convert_bytes_string (P:=P) w t t' e none 0 0 hs he hd
    simp only [execOp,hv,Sem.run_bind,this,Conv.bytesToString,Sem.run_pure,Result.andThen_ok]
    rfl
   |some a0=>
    have:=run_convert_bytes_back (P:=P) w t t' e a0 0 [] hs he hd (fun j hj=>by simp at hj)
    simp only [List.length_nil] at this
    simp only [execOp,hv,Sem.run_bind,this,Sem.run_pure,Result.andThen_ok]
  ·have:=run_convert_bytes_back (P:=P) w t t' e ⟨b,o,none⟩ c s hs he hd (zD5 k2 k5)
   rw [List.length_map] at hv
   simp only [execOp,hv,Sem.run_bind,this,Sem.run_pure,Result.andThen_ok]
theorem zGP [TSlice P t e] [TInt P e .u8] [TStr P t'] (hx:ρ x=.nil):OpOk P (Oper.mk dst (.convert t t' x) ty pos after guard) ρ (.str []):=
 .still fun S w a _ hr=>by
  obtain ⟨q,h⟩:=lP hr hx (by simp [Op.operands])
  refine ⟨.string ⟨#[]⟩,.fz (.str []),fun K Q hk=>bL ?_ hk⟩
  have:=run_convert_bytes_string (P:=P) w t t' e none 0 0 (TSlice.h (P:=P) (t:=t) (e:=e)) (TInt.h (P:=P) (t:=e) (k:=.u8)) (TStr.h (P:=P) (t:=t'))
  simp only [execOp,h.nil_inv,Sem.run_bind,this,Conv.bytesToString,Sem.run_pure,Result.andThen_ok]
  rfl
theorem zGX {k k':IntKind} {n:Int} [TInt P t k'] [TStr P t'] (hx:ρ x=.int k n):OpOk P (Oper.mk dst (.convert t t' x) ty pos after guard) ρ (.str (Utf8.encode n).data.toList):=
 .still fun S w a _ hr=>by
  refine ⟨.string ⟨(Utf8.encode n).data.toList.toArray⟩,.fz (.str _),fun K Q hk=>bL ?_ hk⟩
  have hv:=dM hr hx (by simp [Op.operands])
  have h:=run_convert_int_string (P:=P) w t t' k n (by rw [TInt.h (P:=P) (t:=t) (k:=k')];rfl) (TStr.h (P:=P) (t:=t'))
  rw [show (⟨(Utf8.encode n).data.toList.toArray⟩:ByteArray)=Utf8.encode n by rw [Array.toArray_toList]]
  simp only [execOp,hv,Sem.run_bind,h,Sem.run_pure,Result.andThen_ok]
theorem zGN [TStr P t] [TStr P t'] (hx:ρ x=.str s):OpOk P (Oper.mk dst (.convert t t' x) ty pos after guard) ρ (.str s):=
 .still fun S w a _ hr=>⟨_,.fz (.str _),fun K Q hk=>bL (v:=.string ⟨s.toArray⟩) (by
  simp [execOp,nD hr hx (by simp [Op.operands]),convert,run_underlying (TStr.h (P:=P) (t:=t)),run_underlying (TStr.h (P:=P) (t:=t'))]) hk⟩
theorem zCS [TStr P t] [TSlice P t' e] [TInt P e .u8] (hx:ρ x=.str s) (hl:s.length≤1000000000):OpOk P (Oper.mk dst (.convert t t' x) ty pos after guard) ρ (.sl 0 1 (s.map bR)):=by
 intro S w a p hw hr K Q hK
 have hv:=nD hr hx (by simp [Op.operands])
 have hrun:=run_bytes_of_string (P:=P) w t t' e ⟨s.toArray⟩ (TStr.h (P:=P) (t:=t)) (TSlice.h (P:=P) (t:=t') (e:=e)) (TInt.h (P:=P) (t:=e) (k:=.u8))
 have hsz:(ByteArray.mk s.toArray).size=s.length:=by simp [ByteArray.size]
 rw [hsz] at hrun
 generalize hcap:grownCap w s.length 0 e=cap at hrun
 have hge:s.length≤cap:=hcap ▸ grownCap_ge w s.length 0 e
 have hcm:cap≤maxLen:=hcap ▸ grownCap_le_maxLen w s.length 0 e (by unfold maxLen;omega)
 generalize hw':(w.drew.alloc (.cells (bytesRow ⟨s.toArray⟩ cap) e ((bytesRow ⟨s.toArray⟩ cap).size,(bytesRow ⟨s.toArray⟩ cap).size+1)))=w' at hrun
 have hx':Ext w w':=hw' ▸ (Ext.drew w).trans (Ext.alloc _ _)
 have hcell:∀ j (hj:j < s.length),w'.cell? ⟨w.heap.size,j,none⟩=some (.int .u8 (s[j].toNat:Int)):=fun j hj=>by
  rw [← hw']
  have h1:=World.cell?_alloc_mark w.drew (bytesRow ⟨s.toArray⟩ cap) e ((bytesRow ⟨s.toArray⟩ cap).size,(bytesRow ⟨s.toArray⟩ cap).size+1) j
  rw [show w.drew.heap.size=w.heap.size from rfl] at h1
  rw [h1]
  have:=bytesRow_at ⟨s.toArray⟩ cap j (by simpa using hj)
  simpa using this
 have hwp:∀ (K:Act→World→Prop),K (a.put dst (.slice (some ⟨w.heap.size,0,none⟩) s.length cap)) w'→(Oper.mk dst (.convert t t' x) ty pos after guard).wp P a w K Q:=fun K hk=>by
  unfold Oper.wp
  have he:(execOp a.eval (Oper.mk dst (.convert t t' x) ty pos after guard)).run P w=.ok (.value (.slice (some ⟨w.heap.size,0,none⟩) s.length cap)) w':=by
   simp only [execOp,hv,Sem.run_bind,hrun,Sem.run_pure,Result.andThen_ok]
  rw [he]
  exact hk
 refine hwp K (hK _ S w' (PT.ext' hw hx') ?_ (fun t ht=>by cases ht))
 have hlen:(s.map bR).length=s.length:=List.length_map _
 have hrow:∀ (k:Nat) (r:List D),(s.map bR)[k]?=some r→∃ b,s[k]?=some b∧r=bR b:=fun k r hk=>by
  rw [List.getElem?_map] at hk
  cases hb:s[k]? with
  |none=>rw [hb] at hk;cases hk
  |some b=>rw [hb] at hk;cases hk;exact ⟨b,rfl,rfl⟩
 rw [show Value.slice (some ⟨w.heap.size,0,none⟩) s.length cap=Value.slice (some ⟨w.heap.size,0,none⟩) (s.map bR).length cap by rw [hlen]]
 refine .fz (.sl (fun k j=>.int .u8 (s.getD k 0).toNat) (by omega) hcm (fun k r hk => ?_) (fun k r j d hk hd => ?_) fun k r j d hk hd => ?_)
 ·obtain ⟨b,_,rfl⟩:=hrow k r hk;rfl
 ·obtain ⟨b,hb,rfl⟩:=hrow k r hk
  have hks:=(bC hb)
  match j,hd with
  |0,hd=>
   refine ⟨?_,fun l hl => ?_,rfl⟩
   ·have:=hcell k hks
    simp only [Nat.zero_add,Nat.mul_one,Nat.add_zero]
    rw [this]
    simp [List.getD_eq_getElem?_getD,hks]
   ·exfalso
    unfold Sig.lim at hl
    cases ho:S.own w.heap.size with
    |none=>rw [ho] at hl;cases hl
    |some x=>have:=hw _ _ ho;omega
  |j+1,hd=>simp [bR] at hd
 ·obtain ⟨b,hb,rfl⟩:=hrow k r hk
  have hks:=(bC hb)
  match j,hd with
  |0,hd=>
   cases hd
   simp only [List.getD_eq_getElem?_getD,hb,Option.getD_some]
   exact .int _ _
  |j+1,hd=>simp [bR] at hd
def D.val:D→Option Value
 |.int k n=>some (.int k n)
 |.bool b=>some (.bool b)
 |.str s=>some (.string ⟨s.toArray⟩)
 |.pv v=>some v
 |_=>none
def tN:List D→Option (List Value)
 |[]=>some []
 |d::ds=>match d.val with
  |some v=>match tN ds with
   |some vs=>some (v::vs)
   |none=>none
  |none=>none
def D.keyV:D→Option Value
 |.agg cs=>match tN cs with
  |some vs=>some (.agg vs.toArray)
  |none=>none
 |d=>d.val
theorem zHO {S:Sig} {q:Place} {v u:Value} {d:D} (h:Rep S w q v d) (hd:d.val=some u):v=u:=by
 cases d with
 |int k n=>cases hd;exact h.int_inv
 |bool b=>cases hd;exact h.bool_inv
 |str s=>cases hd;exact h.str_inv
 |pv x=>cases hd;exact h.pv_inv
 |_=>cases hd
theorem rV {S:Sig} {w:World} {q:Nat→Place}:∀ {ds:List D} {vs us:List Value},tN ds=some us→vs.length=ds.length→(∀ (j:Nat) (d:D) (v:Value),ds[j]?=some d→vs[j]?=some v→Rep S w (q j) v d)→vs=us
 |[],[],us,h,_,_=>by cases h;rfl
 |[],_::_,_,_,h,_=>by cases h
 |_::_,[],_,_,h,_=>by cases h
 |d::ds,v::vs,us,h,hl,hr=>by
  simp only [tN] at h
  split at h
  ·rename_i u hu
   split at h
   ·rename_i us' hus
    cases h
    rw [zHO (hr 0 d v rfl rfl) hu,rV (S:=S) (w:=w) (q:=fun j=>q (j+1)) (vs:=vs) hus (by simpa using hl) (fun j d v h1 h2=>hr (j+1) d v (by simpa using h1) (by simpa using h2))]
   ·cases h
  ·cases h
theorem pX {S:Sig} {q:Place} {v u:Value} {d:D} (h:Rep S w q v d) (hd:d.keyV=some u):v=u:=by
 cases d with
 |agg cs=>
  simp only [D.keyV] at hd
  split at hd
  ·rename_i vs hv
   cases hd
   obtain ⟨us,rfl,h1,_,h3⟩:=h.agg_inv
   rw [rV hv h1 h3]
  ·cases hd
 |_=>exact zHO h hd
def zLn (v:Value):D:=match v with
 |.agg _=>.any
 |v=>nH v
theorem zCY {lim:Nat→Option Nat} (v:Value):Fz lim w v (zLn v):=by
 unfold zLn
 split
 ·exact .any _
 ·rename_i h;exact mB _ h
def zA7 (es:List (Value × Value)) (k z:Value):D:=zLn ((gA k es).getD z)
theorem zEJ {k:Nat} [TMap P t k e kd]:OpOk P (Oper.mk dst (.makeMap t none) ty pos after guard) ρ (.mp kd []):=by
 intro S w a p hw hr K Q hK
 refine zAX ?_
 let S':Sig:=⟨fun b=>if b=w.heap.size then some (p,0) else S.own b,S.loc⟩
 have hx:Ext w (w.alloc (.map #[] 0)):=Ext.alloc _ _
 have hh:=(MapKept.heap_alloc w (.map #[] 0)).1
 have hpt:PT S w S' (w.alloc (.map #[] 0)):=⟨hx,fun b hb'=>if_neg (by omega),rfl,⟨fun b x hbx=>by
  by_cases hbg:b=w.heap.size
  ·subst hbg;exact (Array.getElem?_eq_some_iff.1 hh).1
  ·have:S.own b=some x:=by simpa [S',hbg] using hbx
   exact Nat.lt_of_lt_of_le (hw b x this) hx.sizeOf,hw.gl.keep fun b hb' hn=>⟨hx.block hb',(if_neg (by omega)).trans hn⟩⟩⟩
 exact hK _ S' _ hpt (.mp (by simp [S']) hh ⟨rfl,by simp [cG]⟩ (fun x hx=>by cases hx)) (fun t ht=>by cases ht)
theorem Rep.mp_inv {S:Sig} {p:Place} {v:Value} (h:Rep S w p v (.mp kd es)):∃ b clock ents,v=.map (some b)∧S.own b=some (p,0)∧w.heap[b]?=some (.map ents clock)∧(ents.toList.map pr=es∧cG ents clock)∧∀ x ∈ es,fC kd x.1=true:=by
 cases h with
 |fz h=>cases h
 |mp hb hh he hk=>exact ⟨_,_,_,rfl,hb,hh,he,hk⟩
theorem zGT {k:Nat} {z:Value} [TMap P t k e kd] [TZ1 P e z] {y:Operand} {kv:Value} {r:D} (hx:ρ x=.mp kd es) (hy:(ρ y).keyV=some kv) (hf:fC kd kv=true) (h:zA7 es kv z=r):OpOk P (Oper.mk dst (.lookup t x y false) ty pos after guard) ρ r:=
 .still fun S w a _ hr=>by
  obtain ⟨q,hq⟩:=lP hr hx (by simp [Op.operands])
  obtain ⟨q',hq'⟩:=hr y (by simp [Op.operands])
  obtain ⟨b,clock,ents,hv,_,hh,he,hk⟩:=hq.mp_inv
  subst h
  exact ⟨_,.fz (zCY _),fun K Q hK=>sH hv hh he.1 hk (pX hq' hy) hf (by simpa [yJ] using hK)⟩
theorem zCV {k:Nat} {z:Value} [TMap P t k e kd] [TZ1 P e z] {y:Operand} {kv:Value} {r:D} {o:Bool} (hx:ρ x=.mp kd es) (hy:(ρ y).keyV=some kv) (hf:fC kd kv=true) (h:zA7 es kv z=r∧(gA kv es).isSome=o):OpOk P (Oper.mk dst (.lookup t x y true) ty pos after guard) ρ (.tup [r,.bool o]):=
 .still fun S w a _ hr=>by
  obtain ⟨q,hq⟩:=lP hr hx (by simp [Op.operands])
  obtain ⟨q',hq'⟩:=hr y (by simp [Op.operands])
  obtain ⟨b,clock,ents,hv,_,hh,he,hk⟩:=hq.mp_inv
  obtain ⟨rfl,rfl⟩:=h
  refine ⟨.tuple [(gA kv es).getD z,.bool (gA kv es).isSome].toArray,.fz (.tup [(gA kv es).getD z,.bool (gA kv es).isSome] rfl fun j d v hd hv => ?_),fun K Q hK=>sH hv hh he.1 hk (pX hq' hy) hf (by simpa [yJ] using hK)⟩
  match j,hd,hv with
  |0,hd,hv=>cases hd;cases hv;exact zCY _
  |1,hd,hv=>cases hd;cases hv;exact .bool _
  |j+2,hd,hv=>simp at hd
theorem zGV {k:Nat} {kd':KD} [TMap P t k e kd] (hx:ρ x=.mp kd' es):OpOk P (Oper.mk dst (.call ⟨.builtin .len,#[x],#[t]⟩) ty pos after guard) ρ (.int .i64 es.length):=
 .still fun S w a _ hr=>by
  obtain ⟨q,hq⟩:=lP hr hx (by simp [Op.operands,Call.operands])
  obtain ⟨b,clock,ents,hv,_,hh,he,hk⟩:=hq.mp_inv
  exact ⟨_,.fz (.int _ _),fun K Q hK=>zCB hv hh (by rw [← he.1,List.length_map] at hK;exact hK)⟩
theorem zGW {k:Nat} {kd':KD} [TMap P t k e kd] (hx:ρ x=.fmp kd' es):OpOk P (Oper.mk dst (.call ⟨.builtin .len,#[x],#[t]⟩) ty pos after guard) ρ (.int .i64 es.length):=
 .still fun S w a _ hr=>by
  obtain ⟨q,hq⟩:=lP hr hx (by simp [Op.operands,Call.operands])
  generalize hv:a.eval x=v at hq
  cases hq with
  |fz hf=>cases hf with
   |fmp _ hh he hk=>exact ⟨_,.fz (.int _ _),fun K Q hK=>zCB hv hh (by rw [← he.1,List.length_map] at hK;exact hK)⟩
end
end Go.Proofs.YtnjgoldinaffgaaGreatDoor
namespace Go.Proofs.YtnjgoldinaffgaaGreatDoor
set_option linter.unusedSimpArgs false
set_option linter.unusedVariables false
open Go.RowKit
variable {ts:Array TypeId} {xs:Array Operand}
def D.calm1:D→Bool
 |.sl _ _ _=>true
 |.mp _ _=>true
 |d=>d.one
def D.calm:D→Bool
 |.agg cs=>cs.all D.calm1
 |.tup ds=>ds.all fun d=>match d with
  |.agg cs=>cs.all D.calm1
  |d=>d.calm1
 |.any=>true
 |d=>d.calm1
def D.passes:D→Bool
 |.agg cs=>cs.all D.one
 |.fn _ cs=>cs.all D.one
 |.any=>true
 |d=>d.one
theorem D.calm1_men {d:D} (h:d.calm1=true) {t:Nat}:¬ Men t d:=by
 intro hm
 cases hm<;>cases h
theorem D.calm_men {d:D} (h:d.calm=true) {t:Nat}:¬ Men t d:=by
 have key:∀ (cs:List D) (j:Nat) (d:D),cs.all D.calm1=true→cs[j]?=some d→¬ Men t d:=fun cs j d h hd=>D.calm1_men (List.all_eq_true.1 h d (aK hd))
 intro hm
 cases hm with
 |ref=>cases h
 |gref=>cases h
 |fn=>cases h
 |obj=>cases h
 |agg hd hm=>exact key _ _ _ h hd hm
 |tup hd hm=>
  rename_i j cs d
  have h1:=List.all_eq_true.1 h d (aK hd)
  cases d with
  |agg cs=>cases hm with|agg hd' hm'=>exact key _ _ _ h1 hd' hm'
  |_=>exact D.calm1_men h1 hm
theorem Rep.passes {S:Sig} {w:World} {q:Place} {v:Value} {d:D} (h:Rep S w q v d) (hp:d.passes=true):Fz S.lim w v d:=by
 cases d with
 |agg cs=>
  obtain ⟨vs,rfl,h1,h2,h3⟩:=h.agg_inv
  exact .agg vs h1 h2 fun j d v hd hv=>D.one_fz (h3 j d v hd hv) (List.all_eq_true.1 hp d (aK hd))
 |fn f cs=>
  cases h with
  |fz h=>exact h
  |fn vs hl ih=>exact .fn vs hl fun j d v hd hv=>D.one_fz (ih j d v hd hv) (List.all_eq_true.1 hp d (aK hd))
 |any=>exact .any v
 |_=>exact D.one_fz h hp
def Sem (P:Program) (f:Nat) (args:List D) (d:D):Prop:=
 Enters P f∧d.calm=true∧∀ (S:Sig) (w:World) (vs:List Value),WF S w→vs.length=args.length→(∀ (i:Nat) (d:D) (v:Value),args[i]?=some d→vs[i]?=some v→Rep S w (.slot i) v d)→
  Calls P f vs.toArray w fun e w'=>∃ v S',e=.returned v∧WF S' w'∧Trans S w S' w'∧Rep S' w' .res v d
inductive DLes:List D→List D→Prop
 |nil:DLes [] []
 |cons {d d':D} {ds ds':List D} (h:DLe d d') (hs:DLes ds ds'):DLes (d::ds) (d'::ds')
theorem DLes.refl:∀ ds:List D,DLes ds ds
 |[]=>.nil
 |d::ds=>.cons (.refl d) (DLes.refl ds)
theorem DLes.len:∀ {ds ds':List D},DLes ds ds'→ds'.length=ds.length
 |[],[],.nil=>rfl
 |_::_,_::_,.cons _ hs=>by simp [hs.len]
theorem DLes.get:∀ {ds ds':List D},DLes ds ds'→∀ {i:Nat} {d d':D},ds[i]?=some d→ds'[i]?=some d'→DLe d d'
 |_::_,_::_,.cons h _,0,_,_,h1,h2=>by cases h1;cases h2;exact h
 |_::_,_::_,.cons _ hs,i+1,_,_,h1,h2=>hs.get (i:=i) (by simpa using h1) (by simpa using h2)
 |[],[],.nil,i,_,_,h1,_=>by simp at h1
def zAc (P:Program) (f:Nat) (args:List D) (d:D):Prop:=∃ ds',DLes args ds'∧ds'.all D.passes=true∧Sem P f ds' d
def Sig.hide (S:Sig):Sig:=⟨fun b=>(S.own b).map fun x=>(.dead,x.2),S.loc⟩
theorem Sig.hide_lim (S:Sig):S.hide.lim=S.lim:=by
 funext b
 simp only [Sig.lim,Sig.hide]
 cases S.own b<;>rfl
theorem WF.hide {S:Sig} {w:World} (h:WF S w):WF S.hide w:=⟨fun b x hb=>by
 simp only [Sig.hide,Option.map_eq_some_iff] at hb
 obtain ⟨y,hy,_⟩:=hb
 exact h b y hy,h.gl.sig fun b hb=>by simp [Sig.hide,hb]⟩
def Sig.back (S:Sig) (n:Nat) (S':Sig) (p:Place):Sig:=
 ⟨fun b=>if b < n then S.own b else (S'.own b).map fun x=>(if x.1.r=1 then ⟨p.r,p.path++x.1.path⟩ else .dead,x.2),S.loc⟩
theorem Sig.back_lim {S S':Sig} {n:Nat} {p:Place} (h:∀ b,b < n→S'.own b=S.hide.own b):(S.back n S' p).lim=S'.lim:=by
 funext b
 simp only [Sig.lim,Sig.back]
 by_cases hb:b < n
 ·rw [if_pos hb,h b hb]
  simp only [Sig.hide]
  cases S.own b<;>rfl
 ·rw [if_neg hb]
  cases S'.own b<;>rfl
theorem Rep.back {S S':Sig} {n:Nat} {p:Place} {w:World} (h:∀ b,b < n→S'.own b=S.hide.own b) {v:Value} {d:D}:∀ {x:List Nat},d.calm=true→Rep S' w ⟨1,x⟩ v d→Rep (S.back n S' p) w ⟨p.r,p.path++x⟩ v d:=by
 have hlim:=Sig.back_lim (p:=p) h
 have hown:∀ {x:List Nat} {v:Value} {d:D},d.calm1=true→Rep S' w ⟨1,x⟩ v d→Rep (S.back n S' p) w ⟨p.r,p.path++x⟩ v d:=by
  intro x v d hc hr
  cases hr with
  |fz hf=>exact .fz (by rw [hlim];exact hf)
  |@own _ b cap m sz rows cur e g=>
   refine .own ⟨g.mode,g.heap,g.le,g.max,g.size,g.each,?_,fun k r j d hk hd => ?_⟩
   ·have hb:¬ b < n:=fun hb=>by
     have h1:=h b hb
     rw [g.own] at h1
     simp only [Sig.hide] at h1
     cases ho:S.own b with
     |none=>rw [ho] at h1;cases h1
     |some y=>rw [ho] at h1;cases h1
    simp only [Sig.back,if_neg hb,g.own,Option.map_some,if_true]
   ·obtain ⟨u,h1,h2,h3⟩:=g.cells k r j d hk hd
    exact ⟨u,h1,h2,by rw [hlim];exact h3⟩
  |@mp _ b clock kd es ents hown hh he hk=>
   refine .mp ?_ hh he hk
   have hb:¬ b < n:=fun hb=>by
    have h1:=h b hb
    rw [hown] at h1
    simp only [Sig.hide] at h1
    cases ho:S.own b with
    |none=>rw [ho] at h1;cases h1
    |some y=>rw [ho] at h1;cases h1
   simp only [Sig.back,if_neg hb,hown,Option.map_some,if_true]
  |obj=>cases hc
  |ref=>cases hc
  |gref=>cases hc
  |fn=>cases hc
  |agg=>cases hc
  |tup=>cases hc
 have hagg:∀ {x:List Nat} {v:Value} {cs:List D},cs.all D.calm1=true→Rep S' w ⟨1,x⟩ v (.agg cs)→Rep (S.back n S' p) w ⟨p.r,p.path++x⟩ v (.agg cs):=by
  intro x v cs hc hr
  obtain ⟨vs,rfl,h1,h2,h3⟩:=hr.agg_inv
  refine .agg vs h1 h2 fun j d v hd hv => ?_
  have:=hown (List.all_eq_true.1 hc d (aK hd)) (h3 j d v hd hv)
  simpa [Place.at,List.append_assoc] using this
 intro x hc hr
 cases d with
 |agg cs=>exact hagg hc hr
 |tup ds=>
  obtain ⟨vs,rfl,h1,h3⟩:=hr.tup_inv
  refine .tup vs h1 fun j d v hd hv => ?_
  have hc1:=List.all_eq_true.1 hc d (aK hd)
  have h4:=h3 j d v hd hv
  have:Rep (S.back n S' p) w ⟨p.r,p.path++(x ++ [j])⟩ v d:=by
   cases d with
   |agg cs=>exact hagg hc1 h4
   |_=>exact hown hc1 h4
  simpa [Place.at,List.append_assoc] using this
 |any=>exact .fz (.any v)
 |_=>exact hown hc hr
theorem zHE {P:Program} {f:Nat} {ds':List D} {d:D} (hsem:Sem P f ds' d) {S:Sig} {w:World} (hw:WF S w) {vs:List Value} (hlen:vs.length=ds'.length) (hfz:∀ (i:Nat) (d:D) (v:Value),ds'[i]?=some d→vs[i]?=some v→Fz S.lim w v d) (p:Place):
  Calls P f vs.toArray w fun e w'=>∃ v S',e=.returned v∧PT S w S' w'∧Rep S' w' p v d:=by
 obtain ⟨hen,hcalm,hsem⟩:=hsem
 have hwh:WF S.hide w:=hw.hide
 refine (hsem S.hide w vs hwh hlen fun i d v hd hv=>.fz (by rw [S.hide_lim];exact hfz i d v hd hv)).mono fun e w' ⟨v,S',he,hw',ht,hrep⟩ => ?_
 have hold:∀ b,b < w.heap.size→w'.heap[b]?=w.heap[b]?∧S'.own b=S.hide.own b:=fun b hb=>by
  cases ho:S.own b with
  |none=>
   have h0:S.hide.own b=none:=by simp [Sig.hide,ho]
   obtain ⟨k1,k2⟩:=ht.free b hb h0
   exact ⟨k1,k2.trans h0.symm⟩
  |some y=>
   have h0:S.hide.own b=some (.dead,y.2):=by simp [Sig.hide,ho]
   obtain ⟨k1,k2⟩:=ht.foreign b _ _ hb h0 rfl
   exact ⟨k1,k2.trans h0.symm⟩
 have hext:Ext w w':=⟨ht.os,ht.tape,ht.output,ht.size,fun b hb=>(hold b hb).1⟩
 have hpt:PT S w (S.back w.heap.size S' p) w':=⟨hext,fun b hb=>by simp only [Sig.back,if_pos hb],rfl,⟨fun b x hb=>by
  by_cases hlt:b < w.heap.size
  ·exact Nat.lt_of_lt_of_le hlt ht.size
  ·simp only [Sig.back,if_neg hlt,Option.map_eq_some_iff] at hb
   obtain ⟨y,hy,_⟩:=hb
   exact hw' b y hy,hw.gl.keep fun b hb hn=>⟨(hold b hb).1,by simp only [Sig.back,if_pos hb];exact hn⟩⟩⟩
 have hfin:=Rep.back (p:=p) (fun b hb=>(hold b hb).2) (x := []) hcalm hrep
 rw [List.append_nil] at hfin
 exact ⟨v,_,he,hpt,hfin⟩
def Sig.lend (S:Sig) (w:World):Sig:=⟨fun b=>(S.own b).map fun _=>(.dead,match w.heap[b]? with
 |some (.cells cur _ _)=>cur.size
 | _=>0),fun _=>0⟩
def D.flat1:D→Bool
 |.int _ _ | .bool _ | .str _=>true
 |_=>false
def D.flat:D→Bool
 |.agg cs=>cs.all D.flat1
 |.tup ds=>ds.all D.flat1
 |d=>d.flat1
theorem yK {S:Sig} {w:World} {b o:Nat} {v:Value} (h:w.cell? ⟨b,o,none⟩=some v):OkC (S.lend w).lim b o:=fun s hs=>by
 simp only [Sig.lim,Sig.lend] at hs
 cases ho:S.own b with
 |none=>rw [ho] at hs;cases hs
 |some y=>
  rw [ho] at hs
  unfold World.cell? at h
  simp only at h
  split at h
  ·rename_i cur e fz he
   rw [he] at hs
   simp only [Option.map_some,Option.some.injEq] at hs
   subst hs
   simp only [Option.isSome_none,Bool.false_eq_true,if_false] at h
   exact (Array.getElem?_eq_some_iff.1 h).1
  ·cases h
theorem Fz.lend {S:Sig} {w:World} {v:Value} {d:D} (h:Fz S.lim w v d):Fz (S.lend w).lim w v d:=h.mono (fun _ _ _ hc _=>yK hc) fun b hn=>by
 have:S.own b=none:=by simpa [Sig.lim] using hn
 simp [Sig.lim,Sig.lend,this]
theorem zG {S:Sig} {w w':World} {lim:Nat→Option Nat} {q:Place} {v:Value} {d:D} (h:Rep S w q v d) (hf:d.flat1=true):Fz lim w' v d:=by
 cases h with
 |fz h=>cases h<;>first|exact .int _ _|exact .bool _|exact .str _|cases hf
 |_=>cases hf
theorem zB3 {S:Sig} {w w':World} {lim:Nat→Option Nat} {q:Place} {v:Value} {d:D} (h:Rep S w q v d) (hf:d.flat=true):Fz lim w' v d:=by
 cases d with
 |agg cs=>
  obtain ⟨vs,rfl,h1,h2,h3⟩:=h.agg_inv
  exact .agg vs h1 h2 fun j d v hd hv=>zG (h3 j d v hd hv) (List.all_eq_true.1 hf d (aK hd))
 |tup ds=>
  obtain ⟨vs,rfl,h1,h3⟩:=h.tup_inv
  exact .tup vs h1 fun j d v hd hv=>zG (h3 j d v hd hv) (List.all_eq_true.1 hf d (aK hd))
 |_=>exact zG h hf
theorem zHD {P:Program} {f:Nat} {ds':List D} {d:D} (hsem:Sem P f ds' d) (hflat:d.flat=true) {S:Sig} {w:World} (hw:WF S w) {vs:List Value} (hlen:vs.length=ds'.length) (hfz:∀ (i:Nat) (d:D) (v:Value),ds'[i]?=some d→vs[i]?=some v→Fz (S.lend w).lim w v d):
  Calls P f vs.toArray w fun e w'=>∃ v,e=.returned v∧PT S w S w'∧∀ p,Rep S w' p v d:=by
 obtain ⟨hen,hcalm,hsem⟩:=hsem
 have hwh:WF (S.lend w) w:=⟨fun b x hb=>by
  simp only [Sig.lend,Option.map_eq_some_iff] at hb
  obtain ⟨y,hy,_⟩:=hb
  exact hw b y hy,hw.gl.sig fun b hb=>by simp [Sig.lend,hb]⟩
 refine (hsem (S.lend w) w vs hwh hlen fun i d v hd hv=>.fz (hfz i d v hd hv)).mono fun e w' ⟨v,S',he,hw',ht,hrep⟩ => ?_
 have hold:∀ b,b < w.heap.size→w'.heap[b]?=w.heap[b]?:=fun b hb=>by
  cases ho:S.own b with
  |none=>exact (ht.free b hb (by simp [Sig.lend,ho])).1
  |some y=>exact (ht.foreign b .dead _ hb (by simp only [Sig.lend,ho];rfl) rfl).1
 exact ⟨v,he,PT.ext' hw ⟨ht.os,ht.tape,ht.output,ht.size,hold⟩,fun p=>.fz (zB3 hrep hflat)⟩
theorem Rep.fn_inv {S:Sig} {w:World} {q:Place} {v:Value} {f:Nat} {cs:List D} (h:Rep S w q v (.fn f cs)):∃ vs:List Value,v=.func (.func f) #[] vs.toArray∧vs.length=cs.length∧∀ (j:Nat) (d:D) (v:Value),cs[j]?=some d→vs[j]?=some v→Rep S w .dead v d:=by
 cases h with
 |fz h=>cases h with|fn vs hl ih=>exact ⟨vs,rfl,hl,fun j d v hd hv=>.fz (ih j d v hd hv)⟩
 |fn vs hl ih=>exact ⟨vs,rfl,hl,ih⟩
theorem DLes.passes {ρ:Operand→D} {S:Sig} {w:World} {a:Act} {xs:List Operand} {ds':List D} (h1:DLes (xs.map ρ) ds') (h2:ds'.all D.passes=true) (hr:∀ x ∈ xs,∃ q,Rep S w q (a.eval x) (ρ x)):∀ (i:Nat) (d:D) (v:Value),ds'[i]?=some d→(xs.map a.eval)[i]?=some v→Fz S.lim w v d:=fun i d v hd hv=>by
 rw [List.getElem?_map] at hv
 cases hx:xs[i]? with
 |none=>rw [hx] at hv;cases hv
 |some x=>
  rw [hx] at hv
  cases hv
  obtain ⟨q,hq⟩:=hr x (aK hx)
  have hle:=h1.get (i:=i) (d:=ρ x) (by rw [List.getElem?_map,hx];rfl) hd
  exact (Rep.le hle hq).passes (List.all_eq_true.1 h2 d (aK hd))
theorem DLes.split:∀ {as bs ds:List D},DLes (as++bs) ds→∃ d1 d2,ds=d1++d2∧DLes as d1∧DLes bs d2
 |[],bs,ds,h=>⟨[],ds,rfl,.nil,h⟩
 |a::as,bs,_::ds,.cons h hs=>by
  obtain ⟨d1,d2,rfl,h1,h2⟩:=DLes.split (as:=as) hs
  exact ⟨_::d1,d2,rfl,.cons h h1,h2⟩
section
variable {P:Program} {Q:Exit→Act→World→Prop} {K:Act→World→Prop} {a:Act} {w:World} {dst:Option Tmp} {ty:TypeId} {pos:String} {after:Array Edge} {guard:Option (Nat × Bool)}
theorem zEz {f:FuncId} (hk:K (a.put dst (.func (.func f) #[] (xs.map a.eval))) w):(Oper.mk dst (.makeFunc (.func f) #[] xs) ty pos after guard).wp P a w K Q:=by
 have e:(execOp a.eval (Oper.mk dst (.makeFunc (.func f) #[] xs) ty pos after guard)).run P w=.ok (.value (.func (.func f) #[] (xs.map a.eval))) w:=by
  simp [execOp,Instr.makeFunc]
 exact bL e hk
theorem zK2 {f:FuncId} [e:Enters P f] {x:Operand} {args vs:Array Value} {R:Ending→World→Prop} (hf:a.eval x=.func (.func f) #[] vs) (hn:∀ g,x ≠ .func g) (hc:Calls P f args w R) (hx:xs.map a.eval++vs=args)
  (hk:∀ e w',R e w'→match e with | .returned v=>K (a.put dst v) w' | .panicked ch=>Q (.panic ch) a w' | .outgrown=>LetsOut Q):(Oper.mk dst (.call ⟨.value x,xs,ts⟩) ty pos after guard).wp P a w K Q:=by
 subst hx
 have e:(execOp a.eval (Oper.mk dst (.call ⟨.value x,xs,ts⟩) ty pos after guard)).run P w=.ok (.enter f (xs.map a.eval++vs)) w:=by
  simp [execOp,resolve,hf,Deferred.ofValue,invoke,sE]
 unfold Oper.wp
 rw [e]
 refine Calls.mono hc fun en w' hr => ?_
 have:=hk en w' hr
 cases en<;>exact this
end
section
variable {P:Program} {dst:Option Tmp} {ty:TypeId} {pos:String} {after:Array Edge} {guard:Option (Nat × Bool)} {ρ:Operand→D}
theorem zLm {f:Nat} {d:D} (h:zAc P f (xs.toList.map ρ) d):OpOk P (Oper.mk dst (.call ⟨.value (.func f),xs,ts⟩) ty pos after guard) ρ d:=by
 obtain ⟨ds',h1,h2,hen,hcalm,hsem⟩:=h
 intro S w a p hw hr K Q hK
 have hops:∀ x ∈ xs.toList,x ∈ (Op.call ⟨.value (.func f),xs,ts⟩).operands.toList:=fun x hx=>by simp [Op.operands,Call.operands];right;simpa using hx
 have hlen:(xs.toList.map a.eval).length=ds'.length:=by rw [h1.len];simp
 have hfz:∀ (i:Nat) (d:D) (v:Value),ds'[i]?=some d→(xs.toList.map a.eval)[i]?=some v→Fz S.lim w v d:=fun i d v hd hv=>by
  rw [List.getElem?_map] at hv
  cases hx:xs.toList[i]? with
  |none=>rw [hx] at hv;cases hv
  |some x=>
   rw [hx] at hv
   cases hv
   obtain ⟨q,hq⟩:=hr x (hops x (aK hx))
   have hle:=h1.get (i:=i) (d:=ρ x) (by rw [List.getElem?_map,hx];rfl) hd
   exact (Rep.le hle hq).passes (List.all_eq_true.1 h2 d (aK hd))
 have hwh:WF S.hide w:=hw.hide
 have hcall:=hsem S.hide w (xs.toList.map a.eval) hwh hlen fun i d v hd hv=>.fz (by rw [S.hide_lim];exact hfz i d v hd hv)
 haveI:=hen
 refine zBH hcall (by apply Array.ext';simp) fun e w' ⟨v,S',he,hw',ht,hrep⟩ => ?_
 subst he
 have hold:∀ b,b < w.heap.size→w'.heap[b]?=w.heap[b]?∧S'.own b=S.hide.own b:=fun b hb=>by
  cases ho:S.own b with
  |none=>
   have h0:S.hide.own b=none:=by simp [Sig.hide,ho]
   obtain ⟨k1,k2⟩:=ht.free b hb h0
   exact ⟨k1,k2.trans h0.symm⟩
  |some y=>
   have h0:S.hide.own b=some (.dead,y.2):=by simp [Sig.hide,ho]
   obtain ⟨k1,k2⟩:=ht.foreign b _ _ hb h0 rfl
   exact ⟨k1,k2.trans h0.symm⟩
 have hext:Ext w w':=⟨ht.os,ht.tape,ht.output,ht.size,fun b hb=>(hold b hb).1⟩
 have hpt:PT S w (S.back w.heap.size S' p) w':=⟨hext,fun b hb=>by simp only [Sig.back,if_pos hb],rfl,⟨fun b x hb=>by
  by_cases hlt:b < w.heap.size
  ·exact Nat.lt_of_lt_of_le hlt ht.size
  ·simp only [Sig.back,if_neg hlt,Option.map_eq_some_iff] at hb
   obtain ⟨y,hy,_⟩:=hb
   exact hw' b y hy,hw.gl.keep fun b hb hn=>⟨(hold b hb).1,by simp only [Sig.back,if_pos hb];exact hn⟩⟩⟩
 have hfin:=Rep.back (p:=p) (fun b hb=>(hold b hb).2) (x := []) hcalm hrep
 rw [List.append_nil] at hfin
 exact hK v _ w' hpt hfin fun t h=>(D.calm_men hcalm h).elim
theorem zIE {t f:Nat} {cs:List D} {d:D} (hf:ρ (.tmp t)=.fn f cs) (h:zAc P f (xs.toList.map ρ++cs) d):OpOk P (Oper.mk dst (.call ⟨.value (.tmp t),xs,ts⟩) ty pos after guard) ρ d:=by
 obtain ⟨ds',h1,h2,hsem⟩:=h
 intro S w a p hw hr K Q hK
 obtain ⟨q,hq⟩:=hr (.tmp t) (by simp [Op.operands,Call.operands])
 rw [hf] at hq
 obtain ⟨vs,hv,hvl,hvr⟩:=hq.fn_inv
 obtain ⟨d1,d2,rfl,l1,l2⟩:=h1.split
 rw [List.all_append,Bool.and_eq_true] at h2
 have hops:∀ x ∈ xs.toList,∃ q,Rep S w q (a.eval x) (ρ x):=fun x hx=>hr x (by simp [Op.operands,Call.operands];right;simpa using hx)
 have f1:=l1.passes h2.1 hops
 have n1:=l1.len
 have n2:=l2.len
 simp only [List.length_map] at n1
 have hcalm:=hsem.2.1
 have hcall:=zHE hsem hw (vs:=xs.toList.map a.eval++vs) (by simp [n1,n2,hvl]) (fun i d v hd hv=>by
  by_cases hi:i < d1.length
  ·rw [List.getElem?_append_left hi] at hd
   rw [List.getElem?_append_left (by simp;rw [← Array.length_toList];omega)] at hv
   exact f1 i d v hd hv
  ·rw [List.getElem?_append_right (by omega)] at hd
   rw [List.getElem?_append_right (by simp;rw [← Array.length_toList];omega)] at hv
   rw [show (xs.toList.map a.eval).length=d1.length by simp;rw [← Array.length_toList];omega] at hv
   have hcl:i - d1.length < cs.length:=by rw [← n2];exact (bC hd)
   have hle:=l2.get (List.getElem?_eq_getElem hcl) hd
   exact (Rep.le hle (hvr _ _ v (List.getElem?_eq_getElem hcl) hv)).passes (List.all_eq_true.1 h2.2 d (aK hd))) p
 haveI:=hsem.1
 refine zK2 hv (fun g e=>by cases e) hcall (by apply Array.ext';simp) fun e w' ⟨v,S',he,hpt,hrep⟩ => ?_
 subst he
 exact hK v _ w' hpt hrep fun t h=>(D.calm_men hcalm h).elim
theorem zCU {f:Nat} (h:(xs.toList.all fun x=>match ρ x with | .ref _ _=>true|d=>d.one)=true):OpOk P (Oper.mk dst (.makeFunc (.func f) #[] xs) ty pos after guard) ρ (.fn f (xs.toList.map ρ)):=by
 intro S w a p hw hr K Q hK
 refine zEz ?_
 rw [show xs.map a.eval=(xs.toList.map a.eval).toArray by apply Array.ext';simp]
 refine hK _ S w (PT.refl hw) (.fn _ (by simp) fun j d v hd hv => ?_) fun t hm => ?_
 ·rw [List.getElem?_map] at hd hv
  cases hx:xs.toList[j]? with
  |none=>rw [hx] at hd;cases hd
  |some x=>
   rw [hx] at hd hv
   cases hd;cases hv
   have hmem:=aK hx
   obtain ⟨q,hq⟩:=hr x (by simp [Op.operands];simpa using hmem)
   have h1:=List.all_eq_true.1 h x hmem
   generalize ρ x=d at hq h1
   generalize a.eval x=v at hq
   cases d with
   |ref t o=>cases hq with
    |fz h=>cases h
    |ref h=>exact .ref h
   |_=>exact .fz (D.one_fz hq h1)
 ·cases hm with
  |fn hd hm=>
   rw [List.getElem?_map] at hd
   rename_i j _
   cases hx:xs.toList[j]? with
   |none=>rw [hx] at hd;cases hd
   |some x=>
    rw [hx] at hd
    cases hd
    exact ⟨x,by simp [Op.operands];simpa using aK hx,hm⟩
end
end Go.Proofs.YtnjgoldinaffgaaGreatDoor
