/- Operations one after the other, on frames of data. -/
import Derived.Test.YtnjgoldinaffgaaGreatDoorY5
namespace Go.Proofs.YtnjgoldinaffgaaGreatDoor
set_option linter.unusedSimpArgs false
set_option linter.unusedVariables false
open Go.RowKit
variable {K:List D→Prop} {K':Act→World→Prop} {Q:Exit→Act→World→Prop} {S:Sig} {a:Act} {after:Array Edge} {cs:List D} {dst:Option Nat} {guard:Option (Nat × Bool)} {o:Oper} {off ty0 u:Nat} {ops:Array Oper} {pos:String} {rows:List (List D)} {ty:TypeId} {w:World} {x:Operand} {xs:List Operand}
def lS:D→D
 |.gd _ d=>d
 |d=>d
def aN {α:Type}:List α→(List α→Prop)→Prop
 |[],K=>K []
 |x::l,K=>aN l fun l=>K (x::l)
theorem aD {α:Type}:∀ (l:List α) (K:List α→Prop),aN l K=K l
 |[],_=>rfl
 |x::l,K=>by rw [aN,aD l]
def zE6 (d:D) (K:D→Prop):Prop:=
 match d with
 |.any=>K .any
 |.int k n=>K (.int k n)
 |.bool b=>K (.bool b)
 |.str s=>K (.str s)
 |.pv v=>K (.pv v)
 |.nil=>K .nil
 |.sl m sz rows=>K (.sl m sz rows)
 |.ptr cs=>K (.ptr cs)
 |.obj cs=>K (.obj cs)
 |.ref t o=>K (.ref t o)
 |.gref c t o=>K (.gref c t o)
 |.al t=>K (.al t)
 |.alc t o=>K (.alc t o)
 |.el t o sz k j=>K (.el t o sz k j)
 |.es t sz k j=>K (.es t sz k j)
 |.fn f cs=>K (.fn f cs)
 |.gd c d=>K (.gd c d)
 |.agg cs=>K (.agg cs)
 |.tup ds=>K (.tup ds)
 |.mp kd es=>K (.mp kd es)
 |.nsl sz n z=>K (.nsl sz n z)
 |.nagg cs off sz n z=>K (.nagg cs off sz n z)
 |.fmp kd es=>K (.fmp kd es)
theorem zBg (d:D) (K:D→Prop):zE6 d K=K d:=by cases d<;>rfl
def gG:List D→(List D→Prop)→Prop
 |[],K=>K []
 |x::l,K=>zE6 x fun x=>gG l fun l=>K (x::l)
theorem dF:∀ (l:List D) (K:List D→Prop),gG l K=K l
 |[],_=>rfl
 |x::l,K=>by rw [gG,zBg,dF l]
def fR (d:D) (K:D→Prop):Prop:=
 match d with
 |.ptr cs=>gG cs fun cs=>K (.ptr cs)
 |.obj cs=>gG cs fun cs=>K (.obj cs)
 |.fn f cs=>gG cs fun cs=>K (.fn f cs)
 |.gd c (.bool b)=>K (.gd c (.bool b))
 |.gd c (.int k n)=>K (.gd c (.int k n))
 |.gd c (.sl m sz rows)=>K (.gd c (.sl m sz rows))
 |.gd c (.str s)=>K (.gd c (.str s))
 |.gd c (.agg cs)=>gG cs fun cs=>K (.gd c (.agg cs))
 |.gd c (.ptr cs)=>gG cs fun cs=>K (.gd c (.ptr cs))
 |.gd c d=>K (.gd c d)
 |.agg cs=>gG cs fun cs=>K (.agg cs)
 |.tup ds=>gG ds fun ds=>K (.tup ds)
 |d=>zE6 d K
theorem dT (d:D) (K:D→Prop):fR d K=K d:=by
 unfold fR
 split<;>first|rfl|simp only [dF,zBg]
def bS (fr:List D) (dst:Option Nat) (d:D) (K:List D→Prop):Prop:=
 match dst with
 |none=>K fr
 |some t=>match fr[t]? with
  |some d0=>match d0.owns with
   |false=>fR d fun d=>aN (fr.set t d) K
   |true=>match d0.isObj with
    |false=>fR d fun d=>aN ((fr.map (bI t .any)).set t d) K
    |true=>False
  |none=>False
def vY (fr:List D):Operand→List D
 |.tmp t=>match fr[t]? with
  |some (.al u)=>match fr[u]? with
   |some (.sl 2 sz rows)=>fr.set u (.sl 1 sz rows)
   |_=>fr
  |some (.sl 2 sz rows)=>fr.set t (.sl 1 sz rows)
  |some (.alc u off)=>match fr[u]? with
   |some (.obj cs)=>match cs[off]? with
    |some (.sl 2 sz rows)=>fr.set u (.obj (cs.set off (.sl 1 sz rows)))
    |_=>fr
   |_=>fr
  |_=>fr
 |_=>fr
def frz1 (fr:List D):Operand→List D
 |.tmp t=>match fr[t]? with
  |some (.al u)=>match fr[u]? with
   |some (.sl (_+1) sz rows)=>(fr.map (bI u (.sl 0 sz rows))).set u (.sl 0 sz rows)
   |_=>fr
  |some (.sl (_+1) sz rows)=>(fr.map (bI t (.sl 0 sz rows))).set t (.sl 0 sz rows)
  |some (.alc u off)=>match fr[u]? with
   |some (.obj cs)=>match cs[off]? with
    |some (.sl (_+1) sz rows)=>fr.set u (.obj (cs.set off (.sl 0 sz rows)))
    |_=>fr
   |_=>fr
  |_=>fr
 |_=>fr
def oG (fr:List D):Operand→Bool
 |.tmp t=>match fr[t]? with
  |some (.al _)=>true
  |some (.sl (_+1) _ _)=>true
  |some (.alc _ _)=>true
  |_=>false
 |_=>false
def zEC (o:Op) (fr:List D):List D:=
 match o with
 |.indexAddr _ x _=>vY fr x
 |.call c=>match c.callee with
  |.value _=>(c.args.toList.filter (oG fr)).foldl vY fr
  |_=>fr
 |.box _ x=>frz1 fr x
 |.slice _ x _ _ _=>frz1 fr x
 |.build _ parts=>(parts.toList.filter fun x=>oG fr x.2).foldl (fun fr x=>frz1 fr x.2) fr
 |.buildSlice _ _ parts=>(parts.toList.filter fun x=>oG fr x.2).foldl (fun fr x=>frz1 fr x.2) fr
 |_=>fr
def zG8:Op→Bool
 |.indexAddr _ _ _ | .box _ _ | .slice _ _ _ _ _ | .build _ _ | .buildSlice _ _ _=>true
 |.call _=>true
 |_=>false
def kN (P:Program) (T:Nat→Option TI) (Z:Nat→Option (List Value)) (o:Oper) (fr:List D) (K:List D→Prop):Prop:=
 opD P T Z (bD fr) o.op fun s d=>jN s (bS fr o.dst d K)
def zFC (dc:D) (x y:Operand) (ρ:Operand→D):Option (Option Prop × Bool):=
 match dc with
 |.bool p=>match y with
  |.const (.bool false)=>match ρ x with
   |.gd p' (.bool q)=>some (some (p=true→p'=true),p && q)
   |.bool q=>some (none,p && q)
   |_=>none
  |_=>match x with
   |.const (.bool true)=>match ρ y with
    |.gd p' (.bool q)=>some (some (p=false→p'=true),p || q)
    |.bool q=>some (none,p || q)
    |_=>none
   |_=>none
 |_=>none
def zA3 (dc:D) (x y:Operand) (ρ:Operand→D) (K:Option Prop→D→Prop):Prop:=
 match zFC dc x y ρ with
 |some (s,r)=>K s (.bool r)
 |none=>False
theorem pT {dc:D} {y:Operand} {ρ:Operand→D} {K:Option Prop→D→Prop} (h:zA3 dc x y ρ K):∃ s r,zFC dc x y ρ=some (s,r)∧K s (.bool r):=by
 unfold zA3 at h
 split at h
 ·exact ⟨_,_,by assumption,h⟩
 ·exact h.elim
def jW (fr:List D):Operand→Option Nat
 |.tmp t=>match fr[t]? with
  |some (.al u)=>some u
  |some (.sl (_+1) _ _)=>some t
  |some (.mp _ _)=>some t
  |_=>none
 |_=>none
def zEt (sz:Nat):D→Option (Nat × List (List D))
 |.nil=>some (sz,[])
 |.sl _ s rows=>some (s,rows)
 |_=>none
def zCb (T:Nat→Option TI) (c:Call) (dst:Option Nat) (fr:List D) (K:List D→Prop):Prop:=
 match c.args.toList,c.argTypes.toList with
 |[s,x],[t,t']=>match T t with
  |some (.sl _ sz bytes _)=>match Nat.beq t t' && Nat.ble bytes 1000 with
   |true=>match zEt sz (bD fr x) with
    |some (s2,rows2)=>match jW fr s with
     |some u=>match fr[u]? with
      |some (.sl 1 s1 rows)=>SideD (s1=sz∧s2=sz∧rows.length+rows2.length≤1000000000) (aN ((fr.map (bI u .any)).set u .any) fun fr=>bS fr dst (.sl 1 sz (rows++rows2)) K)
      |some (.sl 2 s1 rows)=>SideD (s1=sz∧s2=sz∧rows.length+rows2.length≤1000000000) (aN ((fr.map (bI u .any)).set u .any) fun fr=>bS fr dst (.sl 2 sz (rows++rows2)) K)
      |_=>False
     |none=>match bD fr s with
      |.nil=>SideD (s2=sz∧rows2.length≤1000000000) (bS fr dst (.sl 2 sz rows2) K)
      |_=>False
    |none=>False
   |false=>match T t',bD fr x,Nat.beq sz 1 && Nat.ble bytes 1000 with
    |some .str,.str txt,true=>match jW fr s with
     |some u=>match fr[u]? with
      |some (.sl 1 s1 rows)=>SideD (s1=1∧rows.length+txt.length≤1000000000) (aN ((fr.map (bI u .any)).set u .any) fun fr=>bS fr dst (.sl 1 1 (rows++txt.map bR)) K)
      |some (.sl 2 s1 rows)=>SideD (s1=1∧rows.length+txt.length≤1000000000) (aN ((fr.map (bI u .any)).set u .any) fun fr=>bS fr dst (.sl 2 1 (rows++txt.map bR)) K)
      |_=>False
     |none=>match bD fr s with
      |.nil=>SideD (txt.length≤1000000000) (bS fr dst (.sl 2 1 (txt.map bR)) K)
      |_=>False
    |_,_,_=>False
  |_=>False
 |_,_=>False
def zCn (fr:List D) (u:Nat) (dst:Option Nat) (K:List D→Prop):Prop:=
 match fr[u]? with
 |some (.sl (m+1) sz rows)=>aN ((fr.map (bI u .any)).set u .any) fun fr=>bS fr dst (.sl (m+1) sz rows) K
 |some (.mp kd es)=>aN ((fr.map (bI u .any)).set u .any) fun fr=>bS fr dst (.mp kd es) K
 |_=>False
def zM8 (T:Nat→Option TI) (ty:Nat) (m k v:Operand) (dst:Option Nat) (fr:List D) (K:List D→Prop):Prop:=
 match dst with
 |some _=>False
 |none=>match T ty,jW fr m with
  |some (.mp _ _ kd _),some u=>match fr[u]? with
   |some (.mp kd' es)=>match (bD fr k).keyV,(bD fr v).keyV with
    |some kv,some vv=>match qT kd kd' && fC kd kv with
     |true=>aN (fr.set u (.mp kd (mT kv vv es))) K
     |false=>False
    |_,_=>False
   |_=>False
  |_,_=>False
def zNZ (T:Nat→Option TI) (c:Call) (dst:Option Nat) (fr:List D) (K:List D→Prop):Prop:=
 match dst,c.args.toList,c.argTypes.toList with
 |none,[m,k],[ty,kt]=>match T ty,jW fr m with
  |some (.mp kt' _ kd _),some u=>match Nat.beq kt kt' with
   |true=>match fr[u]? with
    |some (.mp kd' es)=>match (bD fr k).keyV with
     |some kv=>match qT kd kd' && fC kd kv with
      |true=>aN (fr.set u (.mp kd (zL kv es))) K
      |false=>False
     |none=>False
    |_=>False
   |false=>False
  |_,_=>False
 |_,_,_=>False
def zDF (u off:Nat) (fr:List D):List D:=
 match fr[u]? with
 |some (.obj cs)=>match cs[off]? with
  |some (.sl (_+1) sz rows)=>fr.set u (.obj (cs.set off (.sl 0 sz rows)))
  |_=>fr
 |_=>fr
def zLa (fr:List D) (u off:Nat):Bool:=match fr[u]? with
 |some (.obj cs)=>match cs[off]? with
  |some (.sl (_+1) _ _)=>true
  |_=>false
 |_=>false
def zD (fr0:List D) (u off:Nat):Nat→List D→List D
 |0,fr=>fr
 |n+1,fr=>match zLa fr0 u (off+n) with
  |true=>zDF u (off+n) (zD fr0 u off n fr)
  |false=>zD fr0 u off n fr
def zKl (T:Nat→Option TI) (ty u off:Nat) (fr:List D):List D:=
 match T ty with
 |some (.st n _ _)=>zD fr u off n fr
 |_=>fr
def zIQ (T:Nat→Option TI) (ty u off:Nat) (dst:Option Nat) (fr:List D) (K:List D→Prop):Prop:=
 match fr[u]? with
 |some (.obj cs)=>match T ty with
  |some (.st n _ _)=>match Nat.ble (off+n) cs.length && ((cs.drop off).take n).all D.one with
   |true=>bS fr dst (.agg ((cs.drop off).take n)) K
   |false=>False
  |some _=>match cs[off]? with
   |some d=>match d.one with
    |true=>bS fr dst d K
    |false=>False
   |none=>False
  |none=>False
 |_=>False
def eJ (fr:List D) (u:Nat) (cs:List D) (K:List D→Prop):Prop:=gG cs fun cs=>aN (fr.set u (.obj cs)) K
def zB4 (u off n:Nat) (fr:List D):List D:=match fr.any (zG7 u off n) with
 |true=>fr.map (mI u off n)
 |false=>fr
theorem wW (u off n:Nat) (fr:List D):zB4 u off n fr=fr.map (mI u off n):=by
 unfold zB4
 split
 ·rfl
 ·rename_i h;exact (zHR h).symm
def zNX (u:Nat) (fr:List D):List D:=match fr.any (nmU u) with
 |true=>fr.map (qB u)
 |false=>fr
theorem zLN (u:Nat) (fr:List D):zNX u fr=fr.map (qB u):=by
 unfold zNX
 split
 ·rfl
 ·rename_i h;exact (zHQ h).symm
def zEl (T:Nat→Option TI) (ty:Nat) (x v:Operand) (dst:Option Nat) (fr:List D) (K:List D→Prop):Prop:=
 match dst with
 |some _=>False
 |none=>match objAt fr x with
  |some (u,off)=>match fr[u]? with
   |some (.obj cs)=>match T ty with
    |some ti=>match (bD fr v).cellsOf with
     |some vs=>match Nat.beq vs.length ti.cells && Nat.ble (off+vs.length) cs.length with
      |true=>eJ (zB4 u off vs.length fr) u (cs.take off++vs++cs.drop (off+vs.length)) K
      |false=>False
     |none=>False
    |none=>False
   |_=>False
  |none=>False
def zF2 (fr:List D) (u:Nat) (K:List D→Prop):Prop:=
 match fr[u]? with
 |some (.obj cs)=>match cs.all D.one && (fr.set u .any).all (lV u) with
  |true=>aN (fr.set u (.ptr cs)) K
  |false=>False
 |_=>False
def zL1 (M:Nat→Bool) (x:Operand) (fr0:List D) (K:List D→Prop) (fr:List D):Prop:=
 match objAt fr0 x with
 |some (u,_)=>match M (2000000+u) with
  |true=>zF2 fr u K
  |false=>K fr
 |none=>K fr
def zBR (fr:List D) (t:Nat) (cs:List D) (K:List D→Prop):Prop:=
 match fr[t]? with
 |some d0=>match d0.owns || Nat.beq t 0 with
  |false=>eJ fr t cs K
  |true=>False
 |none=>False
def zFo (Z:Nat→Option (List Value)) (M:Nat→Bool) (ty:Nat) (dst:Option Nat) (fr:List D) (K:List D→Prop):Prop:=
 match dst with
 |some t=>match M t with
  |true=>match Z ty with
   |some zc=>match zc.all Value.oneCell' with
    |true=>zBR fr t (cX zc) K
    |false=>False
   |none=>False
  |false=>False
 |none=>False
def zN2 (ty:Nat) (v:Operand) (t:Nat) (fr:List D) (K:List D→Prop):Prop:=
 match (bD fr v).cellsOf with
 |some cs=>zBR fr t cs K
 |none=>False
structure CallO (F:D→Option D→Prop):Prop where
 h:∃ d out,F d out
theorem CallO.go {F:D→Option D→Prop} {d:D} {out:Option D} (h:F d out):CallO F:=⟨d,out,h⟩
def zKg (P:Program) (f u:Nat) (xs:List Operand) (dst:Option Nat) (fr:List D) (K:List D→Prop):Prop:=
 match fr[u]? with
 | some (.sl (m+1) sz rows)=>CallO fun d out=>SideD (uO P f (.sl (m+1) sz rows) (xs.map (bD fr)) d out) (match out with
  |none=>aN ((fr.map (bI u .any)).set u .any) fun fr=>bS fr dst d K
  | some d'=>aN ((fr.map (bI u .any)).set u d') fun fr=>bS fr dst d K)
 | some (.mp kd es)=>CallO fun d out=>SideD (uO P f (.mp kd es) (xs.map (bD fr)) d out) (match out with
  |none=>aN ((fr.map (bI u .any)).set u .any) fun fr=>bS fr dst d K
  | some d'=>aN ((fr.map (bI u .any)).set u d') fun fr=>bS fr dst d K)
 |_=>False
def zKf (P:Program) (f u:Nat) (xs:List Operand) (dst:Option Nat) (fr:List D) (K:List D→Prop):Prop:=
 match fr[u]? with
 |some (.obj cs)=>match cs.all D.calm1 with
  | true=>CallO fun d out=>SideD (uO P f (.obj cs) (xs.map (bD fr)) d out) (match out with
   |some (.obj cs')=>eJ (zNX u fr) u cs' fun fr=>bS fr dst d K
   | _=>False)
  |false=>False
 |_=>False
def zFL (d:D):D:=match d with
 |.sl _ sz rows=>.sl 0 sz rows
 |d=>match d.one with
  |true=>d
  |false=>.any
def zFM (fr:List D):D→D
 |.ref u off=>match fr[u]? with
  |some (.obj cs)=>.ptr ((cs.map zFL).drop off)
  |_=>.any
 |d=>match d.one with
  |true=>d
  |false=>.any
def zDc (fr:List D):D→D
 |.fn f caps=>.fn f (caps.map (zFM fr))
 |.sl _ sz rows=>.sl 0 sz rows
 |.obj cs=>.ptr (cs.map zFL)
 |.ref u off=>zFM fr (.ref u off)
 |d=>match d.passes with
  |true=>d
  |false=>.any
def zPw:D→Bool
 |.ref _ _=>true
 |.fn _ caps=>caps.any fun d=>match d with
  |.ref _ _=>true
  |_=>false
 |_=>false
structure GivesL (P:Program) (f:Nat) (args:List D) (d:D):Prop where
 flat:d.flat=true
 h:zAc P f args d
def zL3 (P:Program) (f:Nat) (xs:List Operand) (dst:Option Nat) (fr:List D) (K:List D→Prop):Prop:=
 CallE fun d=>SideD (GivesL P f (xs.map fun x=>zDc fr (bD fr x)) d) (bS fr dst d K)
def zIc (fr:List D) (x:Operand):D:=
 match x with
 |.tmp t=>match fr[t]? with
  |some (.obj _)=>.ref t 0
  |_=>bD fr (.tmp t)
 |x=>bD fr x
def fV (P:Program) (T:Nat→Option TI) (Z:Nat→Option (List Value)) (M:Nat→Bool) (o:Oper) (fr:List D) (K:List D→Prop):Prop:=
 match o.op with
 |.move (.tmp u)=>match fr[u]? with
  |some (.sl (_+1) _ _)=>match o.dst with
   |some t=>match Nat.beq t u with
    |false=>bS fr (some t) (.al u) K
    |true=>False
   |none=>K fr
  |some (.mp _ _)=>match o.dst with
   |some t=>match Nat.beq t u with
    |false=>bS fr (some t) (.al u) K
    |true=>False
   |none=>K fr
  |some (.al u')=>match o.dst with
   |some t=>match Nat.beq t u' with
    |false=>bS fr (some t) (.al u') K
    |true=>False
   |none=>K fr
  |some (.obj _)=>bS fr o.dst (.ref u 0) K
  |_=>kN P T Z o fr K
 |.assign (.tmp u)=>match fr[u]? with
  |some (.sl (_+1) _ _)=>zCn fr u o.dst K
  |some (.mp _ _)=>zCn fr u o.dst K
  |some (.al u')=>zCn fr u' o.dst K
  |some (.obj _)=>bS fr o.dst (.ref u 0) K
  |_=>kN P T Z o fr K
 |.pick c x y=>zA3 (bD fr c) x y (bD fr) fun s d=>jN s (bS fr o.dst d K)
 |.makeFunc _ _ _=>opD P T Z (zIc fr) o.op fun s d=>jN s (bS fr o.dst d K)
 |.call c=>match c.callee with
  |.builtin .append=>zCb T c o.dst fr K
  |.builtin .delete=>zNZ T c o.dst fr K
  |.builtin _=>kN P T Z o fr K
  |.value (.func f)=>match M (1000000+f) with
   |true=>match c.args.toList with
    |x::xs=>match jW fr x with
     |some u=>aN ((xs.filter (oG fr)).foldl vY fr) fun fr=>match jW fr x with
      |some u'=>match Nat.beq u' u with
       |true=>zKg P f u xs o.dst fr K
       |false=>False
      |none=>False
     |none=>match objAt fr x with
      |some (u,0)=>aN ((xs.filter (oG fr)).foldl vY fr) fun fr=>match objAt fr x with
       |some (u',0)=>zKf P f u' xs o.dst fr K
       |_=>False
      |_=>aN (zEC (.call c) fr) fun fr=>kN P T Z o fr K
    |[]=>kN P T Z o fr K
   |false=>match c.args.toList.any fun x=>zPw (bD fr x) with
    |true=>zL3 P f c.args.toList o.dst fr K
    |false=>aN (zEC (.call c) fr) fun fr=>kN P T Z o fr K
  |_=>aN (zEC (.call c) fr) fun fr=>kN P T Z o fr K
 |.nilCheck (.tmp u)=>match fr[u]? with
  |some (.obj _)=>bS fr o.dst (.ref u 0) K
  |_=>kN P T Z o fr K
 |.fieldAddr ty (.tmp u) i=>match fr[u]? with
  |some (.obj _)=>match T ty with
   |some (.st _ fl _)=>match fl[i]? with
    |some (off,_+1,_)=>bS fr o.dst (.ref u off) K
    |_=>False
   |_=>False
  |_=>kN P T Z o fr K
 |.load ty x=>match objAt fr x with
  |some (u,off)=>aN (zKl T ty u off fr) fun fr=>zIQ T ty u off o.dst fr K
  |none=>kN P T Z o fr K
 |.store ty x v=>aN (frz1 fr v) fun fr=>zEl T ty x v o.dst fr (zL1 M x fr K)
 |.mapUpdate ty m k v=>zM8 T ty m k v o.dst fr K
 |.alloc ty=>zFo Z M ty o.dst fr K
 |.box ty v=>match o.dst with
  |some t=>match M t with
   |true=>aN (frz1 fr v) fun fr=>zN2 ty v t fr K
   |false=>aN (zEC (.box ty v) fr) fun fr=>kN P T Z o fr K
  |none=>False
 |op=>match zG8 op with
  |true=>aN (zEC op fr) fun fr=>kN P T Z o fr K
  |false=>kN P T Z o fr K
def sT (fr:List D) (u:Nat) (dst:Option Nat) (K:List D→Prop):Prop:=
 match fr[u]? with
 |some (.es x sz k j)=>match dst with
  |some t=>match Nat.beq t x with
   |false=>bS fr (some t) (.es x sz k j) K
   |true=>False
  |none=>K fr
 |some (.el x off sz k j)=>bS fr dst (.el x off sz k j) K
 |some (.alc x off)=>bS fr dst (.alc x off) K
 |_=>False
def zAQ (fr:List D):D→Option (Nat × List (List D))
 |.es u _ _ _=>match fr[u]? with
  |some (.sl (_+1) sz rows)=>some (sz,rows)
  |_=>none
 |.el u off _ _ _=>match fr[u]? with
  |some (.obj cs)=>match cs[off]? with
   |some (.sl (_+1) sz rows)=>some (sz,rows)
   |_=>none
  |_=>none
 |_=>none
def zIP (T:Nat→Option TI) (ty:Nat) (rows:List (List D)) (k j:Nat) (dst:Option Nat) (fr:List D) (K:List D→Prop):Prop:=
 IdxE fun r=>SideD (0≤Int.ofNat k∧rows[(Int.ofNat k).toNat]?=some r) (match T ty with
  |some (.st n _ _)=>match Nat.ble (j+n) r.length with
   |true=>bS fr dst (.agg ((r.drop j).take n)) K
   |false=>False
  |some _=>match r[j]? with
   |some d=>match d.one with
    |true=>bS fr dst d K
    |false=>False
   |none=>False
  | none=>False)
def tT (T:Nat→Option TI) (ty:Nat) (v:Operand) (u:Nat) (sz k j:Nat) (rows:List (List D)) (fr:List D) (K:List (List D)→Prop):Prop:=
 match T ty,(bD fr v).cellsOf with
 |some ti,some vs=>match Nat.beq vs.length ti.cells && Nat.ble (j+vs.length) sz with
  |true=>IdxE fun r=>SideD (0≤Int.ofNat k∧rows[(Int.ofNat k).toNat]?=some r) (K (rows.set k (r.take j++vs++r.drop (j+vs.length))))
  |false=>False
 |_,_=>False
def wN (T:Nat→Option TI) (ty u:Nat) (v:Operand) (fr:List D) (K:List D→Prop):Prop:=
 match fr[u]? with
 |some (.es x sz k j)=>match fr[x]? with
  |some (.sl 2 sz' rows)=>match Nat.beq sz' sz with
   |true=>tT T ty v x sz k j rows fr fun rows=>aN (fr.set x (.sl 2 sz rows)) K
   |false=>False
  |_=>False
 |some (.el x c sz k j)=>match fr[x]? with
  |some (.obj cs)=>match cs[c]? with
   |some (.sl 2 sz' rows)=>match Nat.beq sz' sz with
    |true=>tT T ty v x sz k j rows fr fun rows=>eJ fr x (cs.set c (.sl 2 sz rows)) K
    |false=>False
   |_=>False
  |_=>False
 |_=>False
def zHW (fr:List D):Operand→List D
 |.tmp x=>match fr[x]? with
  |some (.alc u off)=>match fr[u]? with
   |some (.obj cs)=>match cs[off]? with
    |some (.sl (m+1) sz rows)=>(fr.set u (.obj (cs.set off .any))).set x (.sl (m+1) sz rows)
    |_=>fr
   |_=>fr
  |_=>fr
 |_=>fr
def zM1 (T:Nat→Option TI) (ty:Nat) (x v:Operand) (fr:List D) (K:List D→Prop) (E:Prop):Prop:=
 match objAt fr x,jW fr v with
 |some (u,off),some s=>match fr[u]? with
  |some (.obj cs)=>match fr[s]? with
   |some (.sl (m+1) sz rows)=>match T ty with
    |some (.sl _ _ _ _)=>match Nat.blt off cs.length with
     |true=>aN ((fr.map (bI s .any)).set s .any) fun fr=>eJ (zB4 u off 1 fr) u (cs.set off (.sl (m+1) sz rows)) K
     |false=>False
    |_=>False
   |_=>E
  |_=>E
 |_,_=>E
def zLQ:List D→Option Nat
 |[]=>none
 |.al _::_=>some 0
 |_::r=>match zLQ r with
  |some k=>some (k+1)
  |none=>none
def zIv:List D→Option Nat
 |[]=>none
 |.sl (_+1) _ _::_=>some 0
 |_::r=>match zIv r with
  |some k=>some (k+1)
  |none=>none
def zKj (T:Nat→Option TI) (ty u:Nat) (v:Operand) (fr:List D) (K:List D→Prop) (E:Prop):Prop:=
 match v with
 |.tmp x=>match fr[x]? with
  |some (.agg cs)=>match zIv cs with
   |some off=>match cs[off]? with
    |some (.sl (m+1) sz rows)=>match fr[u]? with
     |some (.obj cs0)=>match T ty with
      |some ti=>match Nat.beq ti.cells cs.length && (Nat.beq cs0.length cs.length && (cs.set off .nil).all D.one) with
       |true=>aN ((fr.map (bI x .any)).set x .any) fun fr=>eJ (zB4 u 0 cs.length fr) u (cs.set off (.sl (m+1) sz rows)) K
       |false=>False
      |none=>False
     |_=>E
    |_=>E
   |none=>E
  |_=>E
 |_=>E
def zPO (fr:List D) (dst:Option Nat) (y:Nat) (K:List D→Prop) (E:Prop):Prop:=match fr[y]? with
 |some (.agg cs)=>match zIv cs with
  |some off=>match cs[off]?,dst with
   |some (.sl (m+1) sz rows),some t=>match fr[t]? with
    |some d=>match !(Nat.beq t 0) && (!d.owns && (!(Nat.beq t y) && (cs.set off .nil).all D.one)) with
     |true=>aN ((fr.map (bI y .any)).set y .any) fun fr=>eJ fr t (cs.set off (.sl (m+1) sz rows)) K
     |false=>False
    |none=>False
   |_,_=>E
  |none=>E
 |_=>E
def zD3 (fr:List D) (u off:Nat):Bool:=match fr[u]? with
 |some (.obj cs)=>match cs[off]? with
  |some d=>d.owns
  |none=>false
 |_=>false
def zPF (M:Nat→Bool) (fr:List D) (d:D) (u:Nat):Bool:=match d with
 |.obj _=>M (4000000+u)
 |.ref x _=>M (4000000+x)
 |_=>false
def zNY (T:Nat→Option TI) (ts:List TypeId) (u off:Nat) (k:Operand) (dst:Option Nat) (fr:List D) (K:List D→Prop):Prop:=
 match dst,ts with
 |none,[ty,kt]=>match T ty,fr[u]? with
  |some (.mp kt' _ kd _),some (.obj cs)=>match Nat.beq kt kt' with
   |true=>match cs[off]? with
    |some (.mp kd' es)=>match (bD fr k).keyV with
     |some kv=>match qT kd kd' && fC kd kv with
      |true=>eJ fr u (cs.set off (.mp kd (zL kv es))) K
      |false=>False
     |none=>False
    |_=>False
   |false=>False
  |_,_=>False
 |_,_=>False
def zEs (M:Nat→Bool) (fr:List D) (x:Nat) (dst:Option Nat):Option Nat:=
 match dst with
 |some t=>match M (9000000+t) with
  |true=>match objAt fr (.tmp x) with
   |some (v,0)=>some v
   |_=>none
  |false=>none
 |none=>none
def zH6 (fr:List D) (v:Nat) (dst:Option Nat) (K:List D→Prop):Prop:=
 match fr[v]? with
 |some (.obj cs)=>aN (zF0 v cs.length fr) fun fr1=>match fr1[v]? with
  |some (.obj cs1)=>match cs1.all D.one with
   |true=>aN (fr1.map (zAu v)) fun fr2=>match (fr2.set v .any).all (lV v) with
    |true=>match fr2[v]? with
     |some (.obj cs2)=>match cs2.all D.one with
      |true=>aN (fr2.set v (.ptr cs2)) fun fr3=>bS fr3 dst (.ptr cs2) K
      |false=>False
     |_=>False
    |false=>False
   |false=>False
  |_=>False
 |_=>False
def xK (P:Program) (T:Nat→Option TI) (Z:Nat→Option (List Value)) (M:Nat→Bool) (o:Oper) (fr:List D) (K:List D→Prop):Prop:=
 match o.op with
 |.move (.tmp u)=>match fr[u]? with
  |some (.es _ _ _ _)=>sT fr u o.dst K
  |some (.el _ _ _ _ _)=>sT fr u o.dst K
  |some (.alc _ _)=>sT fr u o.dst K
  |_=>fV P T Z M o fr K
 |.assign (.tmp u)=>match fr[u]? with
  |some (.es _ _ _ _)=>sT fr u o.dst K
  |some (.el _ _ _ _ _)=>sT fr u o.dst K
  |some (.alc _ _)=>sT fr u o.dst K
  |_=>match zEs M fr u o.dst with
   |some v=>zH6 fr v o.dst K
   |none=>fV P T Z M o fr K
 |.fieldAddr ty (.tmp u) i=>match fr[u]? with
  |some (.es x sz k j)=>match T ty with
   |some (.st _ fl _)=>match fl[i]? with
    |some (off,_+1,_)=>match o.dst with
     |some t=>match Nat.beq t x with
      |false=>bS fr (some t) (.es x sz k (j+off)) K
      |true=>False
     |none=>False
    |_=>False
   |_=>False
  |some (.el x c sz k j)=>match T ty with
   |some (.st _ fl _)=>match fl[i]? with
    |some (off,_+1,_)=>bS fr o.dst (.el x c sz k (j+off)) K
    |_=>False
   |_=>False
  |_=>fV P T Z M o fr K
 |.load ty (.tmp u)=>match fr[u]? with
  |some (.es x sz k j)=>match zAQ fr (.es x sz k j) with
   |some (sz',rows)=>match Nat.beq sz' sz with
    |true=>zIP T ty rows k j o.dst fr K
    |false=>False
   |none=>False
  |some (.el x c sz k j)=>match zAQ fr (.el x c sz k j) with
   |some (sz',rows)=>match Nat.beq sz' sz with
    |true=>zIP T ty rows k j o.dst fr K
    |false=>False
   |none=>False
  |some (.ref x off)=>match zD3 fr x off with
   |true=>match T ty with
    |some (.sl _ _ _ _)=>bS fr o.dst (.alc x off) K
    |some (.mp _ _ _ _)=>bS fr o.dst (.alc x off) K
    |_=>fV P T Z M o fr K
   |false=>fV P T Z M o fr K
  |some (.obj _)=>match zD3 fr u 0 with
   |true=>match T ty with
    |some (.sl _ _ _ _)=>bS fr o.dst (.alc u 0) K
    |some (.mp _ _ _ _)=>bS fr o.dst (.alc u 0) K
    |_=>fV P T Z M o fr K
   |false=>fV P T Z M o fr K
  |_=>fV P T Z M o fr K
 |.store ty (.tmp u) v=>match fr[u]? with
  |some (.es _ _ _ _)=>match o.dst with
   |none=>aN (frz1 fr v) fun fr=>wN T ty u v fr K
   |some _=>False
  |some (.el _ _ _ _ _)=>match o.dst with
   |none=>aN (frz1 fr v) fun fr=>wN T ty u v fr K
   |some _=>False
  |some d=>match o.dst with
   |none=>match zPF M fr d u with
    |true=>zM1 T ty (.tmp u) v fr K (zKj T ty u v fr K (fV P T Z M o fr K))
    |false=>fV P T Z M o fr K
   |some _=>fV P T Z M o fr K
  |none=>fV P T Z M o fr K
 |.call c=>match c.callee with
  |.builtin .append=>match c.args.toList with
   |s::_=>aN (zHW fr s) fun fr=>fV P T Z M o fr K
   |[]=>False
  |.builtin .delete=>match c.args.toList with
   |[.tmp x,k]=>match fr[x]? with
    |some (.alc u off)=>zNY T c.argTypes.toList u off k o.dst fr K
    |_=>fV P T Z M o fr K
   |_=>fV P T Z M o fr K
  |_=>fV P T Z M o fr K
 |.box _ (.tmp y)=>zPO fr o.dst y K (fV P T Z M o fr K)
 |_=>fV P T Z M o fr K
def pC (all:List Oper) (fr:List D) (j:Nat) (want:Bool):Option Bool:=
 match all[j]? with
 |some oj=>match oj.dst with
  |some t=>match fr[t]? with
   |some (.bool b)=>match want with
    |true=>some b
    |false=>some (!b)
   |some (.gd c (.bool b))=>match want with
    |true=>some (c && b)
    |false=>some (c && !b)
   |_=>none
  |none=>none
 |none=>none
def gds (ρ:Operand→D):List Operand→Option Prop
 |[]=>none
 |x::xs=>match ρ x with
  |.gd c _=>match gds ρ xs with
   |none=>some (c=true)
   |some p=>some (c=true∧p)
  |_=>gds ρ xs
def under (c:Bool):Option Prop→Option Prop→Option Prop
 |none,none=>none
 |some g,none=>some (c=true→g)
 |none,some s=>some (c=true→s)
 |some g,some s=>some (c=true→g∧s)
theorem iU {c:Bool} {g s:Option Prop} (h:holds (under c g s)) (hc:c=true):holds g∧holds s:=by
 cases g with
 |none=>cases s with
  |none=>exact ⟨trivial,trivial⟩
  |some s=>exact ⟨trivial,h hc⟩
 |some g=>cases s with
  |none=>exact ⟨h hc,trivial⟩
  |some s=>exact h hc
def zFJ (T:Nat→Option TI) (ty u off:Nat) (c:Bool) (dst:Option Nat) (fr:List D) (K:List D→Prop):Prop:=
 match fr[u]? with
 |some (.obj cs)=>match T ty with
  |some (.st n _ _)=>match Nat.ble (off+n) cs.length && ((cs.drop off).take n).all D.one with
   |true=>bS fr dst (.gd c (.agg ((cs.drop off).take n))) K
   |false=>False
  |some _=>match cs[off]? with
   |some (.sl 1 sz rows)=>bS fr dst (.gd c (.sl 0 sz rows)) K
   |some d=>match d.one with
    |true=>bS fr dst (.gd c d) K
    |false=>False
   |none=>False
  |none=>False
 |_=>False
def zEP (dst:Option Nat) (c:Bool) (d:D) (fr:List D) (K:List D→Prop):Prop:=
 match d,dst with
 |.sl 2 sz rows,some t=>match fr[t]? with
  |some d0=>match d0.isObj with
   |false=>aN ((fr.map (bI t .any)).set t .any) fun fr=>bS fr (some t) (.gd c (.sl 0 sz rows)) K
   |true=>False
  |none=>False
 |_,_=>False
def zA (P:Program) (T:Nat→Option TI) (Z:Nat→Option (List Value)) (o:Oper) (c:Bool) (fr:List D) (K:List D→Prop):Prop:=
 match o.op with
 |.pick cc x y=>zA3 (lS (bD fr cc)) x y (bD fr) fun s d=>jN (under c (gds (bD fr) [cc]) s) (bS fr o.dst (.gd c d) K)
 |.move (.tmp u)=>match fr[u]? with
  |some (.obj _)=>bS fr o.dst (.gref c u 0) K
  | _=>opD P T Z (fun x=>lS (bD fr x)) (.move (.tmp u)) fun s d=>jN (under c (gds (bD fr) [.tmp u]) s) (match d.passes with
   |true=>bS fr o.dst (.gd c d) K
   | false=>zEP o.dst c d fr K)
 |.nilCheck (.tmp u)=>match fr[u]? with
  |some (.gref c' x off)=>SideD (c=true→c'=true) (bS fr o.dst (.gref c x off) K)
  | _=>opD P T Z (fun x=>lS (bD fr x)) (.nilCheck (.tmp u)) fun s d=>jN (under c (gds (bD fr) [.tmp u]) s) (match d.passes with
   |true=>bS fr o.dst (.gd c d) K
   | false=>zEP o.dst c d fr K)
 |.fieldAddr ty (.tmp u) i=>match fr[u]? with
  |some (.obj _)=>match T ty with
   |some (.st _ fl _)=>match fl[i]? with
    |some (off,_+1,_)=>bS fr o.dst (.gref c u off) K
    |_=>False
   |_=>False
  |some (.gref c' x off0)=>match T ty with
   |some (.st _ fl _)=>match fl[i]? with
    |some (off,_+1,_)=>SideD (c=true→c'=true) (bS fr o.dst (.gref c x (off0+off)) K)
    |_=>False
   |_=>False
  | _=>opD P T Z (fun x=>lS (bD fr x)) (.fieldAddr ty (.tmp u) i) fun s d=>jN (under c (gds (bD fr) [.tmp u]) s) (match d.passes with
   |true=>bS fr o.dst (.gd c d) K
   | false=>zEP o.dst c d fr K)
 |.load ty (.tmp x)=>match fr[x]? with
  |some (.gref c' u off)=>SideD (c=true→c'=true) (zFJ T ty u off c o.dst fr K)
  |some (.obj _)=>zFJ T ty x 0 c o.dst fr K
  | _=>opD P T Z (fun x=>lS (bD fr x)) (.load ty (.tmp x)) fun s d=>jN (under c (gds (bD fr) [.tmp x]) s) (match d.passes with
   |true=>bS fr o.dst (.gd c d) K
   | false=>zEP o.dst c d fr K)
 | op=>opD P T Z (fun x=>lS (bD fr x)) op fun s d=>jN (under c (gds (bD fr) op.operands.toList) s) (match d.passes with
  |true=>bS fr o.dst (.gd c d) K
  | false=>zEP o.dst c d fr K)
def zIs (T:Nat→Option TI) (Z:Nat→Option (List Value)) (o o2:Oper) (ty:Nat) (fr:List D) (K:List D→Prop):Prop:=
 match o.dst,o2.op,o2.dst,o2.guard with
 |some t,.store ty2 (.tmp t2) v,none,none=>match Nat.beq t t2 && Nat.beq ty ty2 with
  |true=>match T ty,Z ty with
   |some ti,some zc=>aN (frz1 fr v) fun fr=>match v with
    |.tmp tv=>match Nat.beq tv t with
     |false=>match (bD fr (.tmp tv)).cellsOf with
      |some vs=>match Nat.beq vs.length ti.cells && Nat.beq zc.length ti.cells with
       |true=>bS fr (some t) (.ptr vs) K
       |false=>False
      |none=>False
     |true=>False
    |.const c=>match (bD fr (.const c)).cellsOf with
     |some vs=>match Nat.beq vs.length ti.cells && Nat.beq zc.length ti.cells with
      |true=>bS fr (some t) (.ptr vs) K
      |false=>False
     |none=>False
    |_=>False
   |_,_=>False
  |false=>False
 |_,_,_,_=>False
def yV (M:Nat→Bool) (o:Oper):Option Nat:=
 match o.op with
 |.alloc ty=>match o.dst with
  |some t=>match M t with
   |true=>none
   |false=>some ty
  |none=>none
 |_=>none
def zPC (M:Nat→Bool) (o o2:Oper):Bool:=
 match o.op,o2.op,o2.dst with
 |.build _ _,.box _ _,some t=>M (8000000+t)
 |_,_,_=>false
def zN3 (T:Nat→Option TI) (Z:Nat→Option (List Value)) (o o2:Oper) (fr:List D) (K:List D→Prop):Prop:=
 match o.op,o.dst,o2.op,o2.dst,o2.guard with
 |.build ty parts,some t,.box _ (.tmp t2),some t3,none=>match Nat.beq t t2 with
  |true=>match T ty,Z ty with
   |some (.st _ fl _),some zc=>match zc.all Value.oneCell' with
    |true=>match lA (fl.map fun x=>(x.1,x.2.1)) (cX zc) (parts.toList.map fun x=>(x.1,zL0 fr x.2)) with
     |some cs=>match okL fr t3 (zAa 0 cs) && cs.all zLc with
      |true=>aN (zB6 (zAa 0 cs) fr) fun fr1=>match fr1[t]? with
       |some d0=>match d0.owns with
        |false=>aN (fr1.set t .any) fun fr2=>match fr2[t3]? with
         |some d3=>match d3.owns || Nat.beq t3 0 with
          |false=>eJ fr2 t3 (cs.map (vW fr)) K
          |true=>False
         |none=>False
        |true=>False
       |none=>False
      |false=>False
     |none=>False
    |false=>False
   |_,_=>False
  |false=>False
 |_,_,_,_,_=>False
def rM (u off:Nat) (fr:List D):List D:=
 match fr[u]? with
 |some (.obj cs)=>match cs[off]? with
  |some (.sl 2 sz rows)=>fr.set u (.obj (cs.set off (.sl 1 sz rows)))
  |_=>fr
 |_=>fr
def zCI (o:Oper) (fr:List D):List D:=
 match o.op with
 |.load _ (.tmp x)=>match fr[x]? with
  |some (.gref _ u off)=>rM u off fr
  |some (.obj _)=>rM x 0 fr
  |_=>fr
 |_=>fr
structure CondD (b:Bool) (x y:Prop):Prop where
 t:b=true→x
 f:b=false→y
def zL2 (M:Nat→Bool) (all:List Oper) (j:Nat):Bool:=
 match all[j]? with
 |some o=>match o.dst with
  |some t=>M (6000000+t)
  |none=>false
 |none=>false
def kL (P:Program) (T:Nat→Option TI) (Z:Nat→Option (List Value)) (M:Nat→Bool) (all:List Oper):List Oper→List D→(List D→Prop)→Prop
 |[],fr,K=>K fr
 |[o],fr,K=>match o.guard with
  |none=>xK P T Z M o fr K
  |some (j,want)=>match pC all fr j want with
   |some c=>match zL2 M all j with
    |true=>CondD c (xK P T Z M o fr K) (bS fr o.dst (.gd false (.bool false)) K)
    |false=>aN (zCI o fr) fun fr=>zA P T Z o c fr K
   |none=>False
 |o::o2::r,fr,K=>match o.guard with
  |none=>match yV M o with
   |some ty=>zIs T Z o o2 ty fr fun fr'=>kL P T Z M all r fr' K
   |none=>match zPC M o o2 with
    |true=>zN3 T Z o o2 fr fun fr'=>kL P T Z M all r fr' K
    |false=>xK P T Z M o fr fun fr'=>kL P T Z M all (o2::r) fr' K
  |some (j,want)=>match pC all fr j want with
   |some c=>match zL2 M all j with
    |true=>CondD c (xK P T Z M o fr fun fr'=>kL P T Z M all (o2::r) fr' K) (bS fr o.dst (.gd false (.bool false)) fun fr'=>kL P T Z M all (o2::r) fr' K)
    |false=>aN (zCI o fr) fun fr=>zA P T Z o c fr fun fr'=>kL P T Z M all (o2::r) fr' K
   |none=>False
section
variable {P:Program} {T:Nat→Option TI} {Z:Nat→Option (List Value)} {M:Nat→Bool}
theorem FR.evalRef {fr:List D} (h:FR S w a fr) (x:Operand):bM fr (bD fr x):=by
 cases x with
 |tmp t=>
  unfold bD
  simp only
  cases hd:fr[t]? with
  |none=>exact fun t ht=>by cases ht
  |some d=>
   obtain ⟨v,hv,hr⟩:=h.at hd
   cases d with
   |al u=>
    obtain ⟨h1,d',h2,h3,_⟩:=hr
    simp only [h2,Option.getD_some]
    exact ((h.slot u d' v h2 h1).rep (D.nm_owns h3)).2
   |alc u off=>
    obtain ⟨⟨⟨cs,h1⟩,_⟩,_⟩:=hr
    simp only [h1]
    cases hc:cs[off]? with
    |none=>exact fun t ht=>by cases ht
    |some d=>
     obtain ⟨v',hv',hr'⟩:=h.at h1
     exact fun t ht=>hr'.2 t (.obj hc ht)
   |el u off sz k j=>exact fun t ht=>by cases ht
   |es u sz k j=>exact fun t ht=>by cases ht
   |_=>exact hr.2
 |const v=>
  unfold bD
  cases v with
  |agg cs=>exact fun t ht=>by cases ht
  |_=>exact fun t ht=>((mB (lim:=fun _=>none) (w:=w) _ (by intro cs hc;cases hc)).men ht).elim
 |global g=>exact fun t ht=>by cases ht
 |func f=>exact fun t ht=>by cases ht with|fn h=>simp at h
def cR:Option Nat→Place
 |some t=>.slot t
 |none=>⟨1,[]⟩
theorem aH {fr:List D} {v:Value} {d:D} (h:FR S w a fr) (hr:Rep S w (cR dst) v d) (hf:bM fr d) (hp:bS fr dst d K):∃ fr',K fr'∧FR S w (a.put dst v) fr':=by
 cases dst with
 |none=>exact ⟨fr,hp,h⟩
 |some t=>
  simp only [bS] at hp
  split at hp
  ·rename_i d0 h0
   split at hp
   ·rename_i ho
    rw [dT,aD] at hp
    exact ⟨_,hp,h.put (PT.refl h.wf) h0 ho hr hf⟩
   ·split at hp
    ·rename_i hn
     rw [dT,aD] at hp
     exact ⟨_,hp,h.putOwn h0 hn hr hf⟩
    ·exact hp.elim
  ·exact hp.elim
theorem fH {fr:List D} {v:Value} {d:D} (h:FR S w a fr) (hd:d.isNm=true) (hsl:∀ t,dst=some t→SlotRep S w a fr t v d) (hp:bS fr dst d K):∃ fr',K fr'∧FR S w (a.put dst v) fr':=by
 cases dst with
 |none=>exact ⟨fr,hp,h⟩
 |some t=>
  simp only [bS] at hp
  split at hp
  ·rename_i d0 h0
   split at hp
   ·rename_i ho
    rw [dT,aD] at hp
    have:=h.putNm h0 (by cases d0<;>first|rfl|cases ho) hd (hsl t rfl)
    rw [h.unal_none h0 ho] at this
    exact ⟨_,hp,this⟩
   ·split at hp
    ·rename_i hn
     rw [dT,aD] at hp
     exact ⟨_,hp,h.putNm h0 hn hd (hsl t rfl)⟩
    ·exact hp.elim
  ·exact hp.elim
theorem gP {fr:List D} (h:FR S w a fr) (x:Operand):∃ S',Trans S w S' w∧FR S' w a (vY fr x):=by
 unfold vY
 split
 ·split
  ·split
   ·rename_i hu;exact h.down hu
   ·exact ⟨S,Trans.refl S w,h⟩
  ·rename_i ht;exact h.down ht
  ·split
   ·rename_i hd
    split
    ·rename_i hc;exact h.downC hd hc
    ·exact ⟨S,Trans.refl S w,h⟩
   ·exact ⟨S,Trans.refl S w,h⟩
  ·exact ⟨S,Trans.refl S w,h⟩
 ·exact ⟨S,Trans.refl S w,h⟩
theorem dV {fr:List D} (h:FR S w a fr) (x:Operand):∃ S',Trans S w S' w∧FR S' w a (frz1 fr x):=by
 unfold frz1
 split
 ·split
  ·split
   ·rename_i hu;exact h.freeze hu
   ·exact ⟨S,Trans.refl S w,h⟩
  ·rename_i ht;exact h.freeze ht
  ·split
   ·rename_i hd
    split
    ·rename_i hc;exact h.freezeC hd hc
    ·exact ⟨S,Trans.refl S w,h⟩
   ·exact ⟨S,Trans.refl S w,h⟩
  ·exact ⟨S,Trans.refl S w,h⟩
 ·exact ⟨S,Trans.refl S w,h⟩
theorem eK {α:Type} {w:World} {a:Act} {f:List D→α→List D} (hf:∀ S fr x,FR S w a fr→∃ S',Trans S w S' w∧FR S' w a (f fr x)):∀ (l:List α) (S:Sig) (fr:List D),FR S w a fr→∃ S',Trans S w S' w∧FR S' w a (l.foldl f fr)
 |[],S,fr,h=>⟨S,Trans.refl S w,h⟩
 |x::l,S,fr,h=>by
  obtain ⟨S1,t1,h1⟩:=hf S fr x h
  obtain ⟨S2,t2,h2⟩:=eK hf l S1 _ h1
  exact ⟨S2,t1.trans t2,h2⟩
theorem kC {fr:List D} (h:FR S w a fr) (o:Op):∃ S',Trans S w S' w∧FR S' w a (zEC o fr):=by
 unfold zEC
 split
 ·exact gP h _
 ·split
  ·exact eK (fun S fr x h=>gP h x) _ S fr h
  ·exact ⟨S,Trans.refl S w,h⟩
 ·exact dV h _
 ·exact dV h _
 ·exact eK (fun S fr x h=>dV h _) _ S fr h
 ·exact eK (fun S fr x h=>dV h _) _ S fr h
 ·exact ⟨S,Trans.refl S w,h⟩
def StepOk (P:Program) (S:Sig) (w:World) (a:Act) (o:Oper) (K:List D→Prop):Prop:=
 ∀ (K':Act→World→Prop) (Q:Exit→Act→World→Prop),(∀ fr' S' w' a',K fr'→Trans S w S' w'→FR S' w' a' fr'→K' a' w')→o.wp P a w K' Q
theorem StepOk.ghost {S1:Sig} (ht:Trans S w S1 w) (h:StepOk P S1 w a o K):StepOk P S w a o K:=
 fun K' Q hK=>h K' Q fun fr' S' w' a' k t f=>hK fr' S' w' a' k (ht.trans t) f
theorem StepOk.mono {K2:List D→Prop} (h:StepOk P S w a o K) (hk:∀ {fr' S' w' a'},K fr'→FR S' w' a' fr'→∃ fr'' S'',K2 fr''∧Trans S' w' S'' w'∧FR S'' w' a' fr''):StepOk P S w a o K2:=
 fun K' Q hK=>h K' Q fun fr' S' w' a' k t f=>by
  obtain ⟨fr'',S'',k2,t2,f2⟩:=hk k f
  exact hK fr'' S'' w' a' k2 (t.trans t2) f2
theorem cC (hT:TOk P T Z) {fr:List D} (h:FR S w a fr) (hs:kN P T Z o fr K):StepOk P S w a o K:=by
 intro K' Q hK
 obtain ⟨dst,op,ty,pos,after,guard⟩:=o
 obtain ⟨s,d,h12,h3⟩:=mA (dst:=dst) (ty:=ty) (pos:=pos) (after:=after) (guard:=guard) hT hs
 obtain ⟨h1,h2⟩:=hY.1 h12
 refine h3 h1 S w a (cR dst) h.wf (fun x _=>h.eval x) K' Q fun v S' w' hp hr hm => ?_
 have hrf:bM fr d:=fun t ht=>by
  obtain ⟨x,_,hx⟩:=hm t ht
  exact h.evalRef x t hx
 obtain ⟨fr',k1,k2⟩:=aH (h.drop hp) hr hrf h2
 exact hK fr' S' w' _ k1 hp.trans k2
theorem sM {c y:Operand} {p:Bool} {dst:Option Tmp} (hc:a.eval c=.bool p) (hk:K' (a.put dst (if p then a.eval x else a.eval y)) w):(Oper.mk dst (.pick c x y) ty pos after guard).wp P a w K' Q:=by
 unfold Oper.wp
 rw [vX _ _ _ _ _ _ _ _ _ p hc]
 exact hk
theorem kP {dc:D} {c y:Operand} {ρ:Operand→D} {s:Option Prop} {r:Bool} (hc:∃ q,Rep S w q (a.eval c) dc) (hrx:∃ q,Rep S w q (a.eval x) (ρ x)) (hry:∃ q,Rep S w q (a.eval y) (ρ y)) (h:zFC dc x y ρ=some (s,r)) (hs:holds s):∃ p,a.eval c=.bool p∧(if p then a.eval x else a.eval y)=.bool r:=by
 have gdv:∀ {z:Operand} {p' q:Bool},(∃ q,Rep S w q (a.eval z) (ρ z))→ρ z=.gd p' (.bool q)→p'=true→a.eval z=.bool q:=fun {z p' q} hr hz hp=>by
  obtain ⟨qq,hq⟩:=hr
  rw [hz] at hq
  have:=(hq.gd_inv.1 hp)
  exact (Rep.fz (p:=.dead) this).bool_inv
 have bv:∀ {z:Operand} {q:Bool},(∃ q,Rep S w q (a.eval z) (ρ z))→ρ z=.bool q→a.eval z=.bool q:=fun {z q} hr hz=>by
  obtain ⟨qq,hq⟩:=hr
  rw [hz] at hq
  exact hq.bool_inv
 obtain ⟨q,hq⟩:=hc
 unfold zFC at h
 split at h
 ·rename_i p
  refine ⟨p,hq.bool_inv,?_⟩
  split at h
  ·split at h
   ·rename_i hx
    cases h
    cases p with
    |true=>simp only [if_true,Bool.true_and];exact gdv hrx hx (hs rfl)
    |false=>rfl
   ·rename_i hx
    cases h
    cases p with
    |true=>simp only [if_true,Bool.true_and];exact bv hrx hx
    |false=>rfl
   ·cases h
  ·split at h
   ·split at h
    ·rename_i hy
     cases h
     cases p with
     |false=>simp only [Bool.false_or];exact gdv hry hy (hs rfl)
     |true=>rfl
    ·rename_i hy
     cases h
     cases p with
     |false=>simp only [Bool.false_or];exact bv hry hy
     |true=>rfl
    ·cases h
   ·cases h
 ·cases h
theorem zC2 {b:Bool} {fr:List D}:bM fr (.bool b):=fun t ht=>by cases ht
theorem qR {fr:List D} {u0:Nat} (h:FR S w a fr) (hu:∀ v,a.tmps[u]?=some v→a.eval (.tmp u0)=v) (hs:zCn fr u dst K):StepOk P S w a (Oper.mk dst (.assign (.tmp u0)) ty pos after guard) K:=by
 intro K' Q hK
 unfold zCn at hs
 split at hs
 ·rename_i m sz rows hd
  rw [aD] at hs
  obtain ⟨S',v,t1,t2,t3,t4⟩:=h.take (cR dst) hd
  obtain ⟨fr',k1,k2⟩:=aH t3 t4 (fun t ht=>(bG ht).elim) hs
  refine jZ (v:=v) (hu v t2) (hK fr' S' w _ k1 t1 k2)
 ·rename_i kd es hd
  rw [aD] at hs
  obtain ⟨S',v,t1,t2,t3,t4⟩:=h.takeMp (cR dst) hd
  obtain ⟨fr',k1,k2⟩:=aH t3 t4 (fun t ht=>by cases ht) hs
  refine jZ (v:=v) (hu v t2) (hK fr' S' w _ k1 t1 k2)
 ·exact hs.elim
theorem zH8 {q:Place} {v:Value} {sz s2:Nat} {d:D} (h:Rep S w q v d) (hr:zEt sz d=some (s2,rows)):∃ m,Rep S w q v (.sl m s2 rows):=by
 unfold zEt at hr
 split at hr
 ·cases hr
  rw [h.nil_inv]
  exact ⟨0,.fz (.slNil 0 sz)⟩
 ·cases hr
  exact ⟨_,h⟩
 ·cases hr
theorem gK {fr:List D} (h:FR S w a fr) {s:Operand} (hr:jW fr s=some u):a.tmps[u]?=some (a.eval s):=by
 unfold jW at hr
 split at hr
 ·rename_i t
  have ev:∀ v,a.tmps[t]?=some v→a.eval (.tmp t)=v:=fun v hv=>by simp [Act.eval,Array.getD_eq_getD_getElem?,hv]
  split at hr
  ·rename_i hd
   cases hr
   obtain ⟨v,hv,hs⟩:=h.at hd
   rw [ev v hv]
   exact hs.1
  ·rename_i hd
   cases hr
   obtain ⟨v,hv,hs⟩:=h.at hd
   rw [ev v hv]
   exact hv
  ·rename_i hd
   cases hr
   obtain ⟨v,hv,hs⟩:=h.at hd
   rw [ev v hv]
   exact hv
  ·cases hr
 ·cases hr
theorem zGs (hT:TOk P T Z) {fr:List D} {m k v:Operand} (h:FR S w a fr) (hs:zM8 T ty0 m k v dst fr K):StepOk P S w a (Oper.mk dst (.mapUpdate ty0 m k v) ty pos after guard) K:=by
 intro K' Q hK
 unfold zM8 at hs
 split at hs
 ·exact hs.elim
 ·split at hs
  ·rename_i kt et kd z u ht hu
   haveI:=(hT.ty _ _ ht).1
   have hev:=gK h hu
   split at hs
   ·rename_i kd' es hd
    split at hs
    ·rename_i kv vv hk hv
     split at hs
     ·rename_i hb
      simp only [Bool.and_eq_true] at hb
      obtain rfl:=pS hb.1
      rw [aD] at hs
      obtain ⟨v0,hv0,hsl⟩:=h.at hd
      obtain ⟨b,clock,ents,rfl,hown,hh,he,hf⟩:=hsl.1.mp_inv
      have hm:a.eval m=.map (some b):=Option.some.inj (hev.symm.trans hv0)
      obtain ⟨q1,r1⟩:=h.eval k
      obtain ⟨q2,r2⟩:=h.eval v
      refine iV hm hh he.1 hf (pX r1 hk) hb.2 (pX r2 hv) fun ents' clock' he' hst => ?_
      obtain ⟨t1,f1⟩:=h.setMap (clock':=clock') hd hv0 hown hh ⟨he',hst he.2⟩ (zCF hb.2 hf)
      exact hK _ S _ a hs t1 f1
     ·exact hs.elim
    ·exact hs.elim
   ·exact hs.elim
  ·exact hs.elim
theorem zHs (hT:TOk P T Z) {fr:List D} {c:Call} (h:FR S w a fr) (hc:c.callee=.builtin .delete) (hs:zNZ T c dst fr K):StepOk P S w a (Oper.mk dst (.call c) ty pos after guard) K:=by
 intro K' Q hK
 obtain ⟨callee,args,argTypes⟩:=c
 simp only at hc
 subst hc
 unfold zNZ at hs
 simp only at hs
 split at hs
 ·rename_i m k ty0 kt0 h1 h2
  obtain rfl:=zD8 h1
  obtain rfl:=zD8 h2
  split at hs
  ·rename_i kt et kd z u ht hu
   haveI:=(hT.ty _ _ ht).1
   have hev:=gK h hu
   split at hs
   ·rename_i hkt
    obtain rfl:=Nat.eq_of_beq_eq_true hkt
    split at hs
    ·rename_i kd' es hd
     split at hs
     ·rename_i kv hk
      split at hs
      ·rename_i hb
       simp only [Bool.and_eq_true] at hb
       obtain rfl:=pS hb.1
       rw [aD] at hs
       obtain ⟨v0,hv0,hsl⟩:=h.at hd
       obtain ⟨b,clock,ents,rfl,hown,hh,he,hf⟩:=hsl.1.mp_inv
       have hm:a.eval m=.map (some b):=Option.some.inj (hev.symm.trans hv0)
       obtain ⟨q1,r1⟩:=h.eval k
       refine zCD rfl hm hh he.1 hf (pX r1 hk) hb.2 fun ents' clock' he' hst => ?_
       obtain ⟨t1,f1⟩:=h.setMap (clock':=clock') hd hv0 hown hh ⟨he',hst he.2⟩ (zK hf)
       exact hK _ S _ a hs t1 f1
      ·exact hs.elim
     ·exact hs.elim
    ·exact hs.elim
   ·exact hs.elim
  ·exact hs.elim
 ·exact hs.elim
theorem zCa (hT:TOk P T Z) {fr:List D} {c:Call} (h:FR S w a fr) (hc:c.callee=.builtin .append) (hs:zCb T c dst fr K):StepOk P S w a (Oper.mk dst (.call c) ty pos after guard) K:=by
 intro K' Q hK
 obtain ⟨callee,args,argTypes⟩:=c
 simp only at hc
 subst hc
 unfold zCb at hs
 simp only at hs
 split at hs
 ·rename_i s x t t' h1 h2
  obtain rfl:=zD8 h1
  obtain rfl:=zD8 h2
  split at hs
  ·rename_i e sz bytes zc ht
   obtain ⟨i1,i2,i3,i4,i5⟩:=hT.ty _ _ ht
   haveI:=i1;haveI:=i4
   split at hs
   ·rename_i hb
    simp only [Bool.and_eq_true] at hb
    obtain rfl:t=t':=Nat.eq_of_beq_eq_true hb.1
    have hby:=Nat.le_of_ble_eq_true hb.2
    split at hs
    ·rename_i s2 rows2 hx
     obtain ⟨q,hq⟩:=h.eval x
     obtain ⟨m2,hq2⟩:=zH8 hq hx
     split at hs
     ·rename_i u hu
      have hev:=gK h hu
      split at hs
      ·rename_i hd
       obtain ⟨⟨rfl,rfl,hl⟩,hput⟩:=hs
       rw [aD] at hput
       refine zZ (p:=cR dst) h hd hev hq2 hl hby (.inl rfl) fun v S' w' t1 t2 t3 => ?_
       obtain ⟨fr',k1,k2⟩:=aH t2 t3 (fun t ht=>(bG ht).elim) hput
       exact hK fr' S' w' _ k1 t1 k2
      ·rename_i hd
       obtain ⟨⟨rfl,rfl,hl⟩,hput⟩:=hs
       rw [aD] at hput
       refine zZ (p:=cR dst) h hd hev hq2 hl hby (.inr rfl) fun v S' w' t1 t2 t3 => ?_
       obtain ⟨fr',k1,k2⟩:=aH t2 t3 (fun t ht=>(bG ht).elim) hput
       exact hK fr' S' w' _ k1 t1 k2
      ·exact hs.elim
     ·split at hs
      ·rename_i hnil
       obtain ⟨⟨rfl,hl⟩,hput⟩:=hs
       obtain ⟨q',hq'⟩:=h.eval s
       rw [hnil] at hq'
       refine append_nil (p:=cR dst) h.wf hq'.nil_inv hq2 hl hby (.inr rfl) fun v S' w' hp hr => ?_
       obtain ⟨fr',k1,k2⟩:=aH (h.drop hp) hr (fun t ht=>(bG ht).elim) hput
       exact hK fr' S' w' _ k1 hp.trans k2
      ·exact hs.elim
    ·exact hs.elim
   ·split at hs
    ·rename_i txt ht' hx hb
     simp only [Bool.and_eq_true] at hb
     obtain rfl:=Nat.eq_of_beq_eq_true hb.1
     have hby:=Nat.le_of_ble_eq_true hb.2
     haveI:TStr P t':=(hT.ty _ _ ht').1
     obtain ⟨q,hq⟩:=h.eval x
     rw [hx] at hq
     have hxs:=hq.str_inv
     split at hs
     ·rename_i u hu
      have hev:=gK h hu
      split at hs
      ·rename_i hd
       obtain ⟨⟨rfl,hl⟩,hput⟩:=hs
       rw [aD] at hput
       refine pK (p:=cR dst) h hd hev hxs hl hby (.inl rfl) fun v S' w' t1 t2 t3 => ?_
       obtain ⟨fr',k1,k2⟩:=aH t2 t3 (fun t ht=>(bG ht).elim) hput
       exact hK fr' S' w' _ k1 t1 k2
      ·rename_i hd
       obtain ⟨⟨rfl,hl⟩,hput⟩:=hs
       rw [aD] at hput
       refine pK (p:=cR dst) h hd hev hxs hl hby (.inr rfl) fun v S' w' t1 t2 t3 => ?_
       obtain ⟨fr',k1,k2⟩:=aH t2 t3 (fun t ht=>(bG ht).elim) hput
       exact hK fr' S' w' _ k1 t1 k2
      ·exact hs.elim
     ·split at hs
      ·rename_i hnil
       obtain ⟨hl,hput⟩:=hs
       obtain ⟨q',hq'⟩:=h.eval s
       rw [hnil] at hq'
       refine pL (p:=cR dst) h.wf hq'.nil_inv hxs hl hby (.inr rfl) fun v S' w' hp hr => ?_
       obtain ⟨fr',k1,k2⟩:=aH (h.drop hp) hr (fun t ht=>(bG ht).elim) hput
       exact hK fr' S' w' _ k1 hp.trans k2
      ·exact hs.elim
    ·exact hs.elim
  ·exact hs.elim
 ·exact hs.elim
theorem pM {fr:List D} {u0:Nat} {d:D} (h:FR S w a fr) (hd:fr[u]?=some d) (ho:d.owns=true) (hu:∀ v,a.tmps[u]?=some v→a.eval (.tmp u0)=v)
  (hs:match dst with|some t=>(match Nat.beq t u with|false=>bS fr (some t) (.al u) K|true=>False)|none=>K fr):StepOk P S w a (Oper.mk dst (.move (.tmp u0)) ty pos after guard) K:=by
 intro K' Q hK
 obtain ⟨v,hv,hrep⟩:=h.at hd
 cases dst with
 |none=>exact jK (v:=v) (hu v hv) (hK fr S w _ hs (Trans.refl S w) h)
 |some t=>
  simp only at hs
  split at hs
  ·rename_i hne
   have hne':t ≠ u:=fun e=>by subst e;simp at hne
   obtain ⟨fr',k1,k2⟩:=fH (dst:=some t) (v:=v) (d:=.al u) h rfl (fun t' e=>by cases e;exact ⟨hv,d,hd,ho,Ne.symm hne'⟩) hs
   exact jK (v:=v) (hu v hv) (hK fr' S w _ k1 (Trans.refl S w) k2)
  ·exact hs.elim
theorem iN {fr:List D} (h:FR S w a fr) (hd:fr[u]?=some (.obj cs)) (off:Nat):(∀ p,Rep S w p (.pointer (some ⟨S.loc (u+2),off,none⟩)) (.ref u off))∧bM fr (.ref u off)∧a.tmps[u]?=some (.pointer (some ⟨S.loc (u+2),0,none⟩)):=by
 obtain ⟨v,hv,hs⟩:=h.at hd
 obtain ⟨b,cur,e,rfl,hb,hloc,_⟩:=hs.1.obj_inv
 refine ⟨fun p=>.ref (by rw [hloc];exact hb),fun t ht => ?_,by rw [hv,hloc]⟩
 cases ht
 exact ⟨cs,hd⟩
theorem zAV {fr:List D} (h:FR S w a fr) (x:Operand):(∃ q,Rep S w q (a.eval x) (zIc fr x))∧bM fr (zIc fr x):=by
 unfold zIc
 split
 ·rename_i t
  split
  ·rename_i cs hd
   obtain ⟨r1,r2,r3⟩:=iN h hd 0
   have:a.eval (.tmp t)=.pointer (some ⟨S.loc (t+2),0,none⟩):=by simp [Act.eval,Array.getD_eq_getD_getElem?,r3]
   rw [this]
   exact ⟨⟨.dead,r1 _⟩,r2⟩
  ·exact ⟨h.eval _,fun t ht=>h.evalRef _ t ht⟩
 ·exact ⟨h.eval _,fun t ht=>h.evalRef _ t ht⟩
theorem zCz (hT:TOk P T Z) {fr:List D} (h:FR S w a fr) (hs:opD P T Z (zIc fr) o.op fun s d=>jN s (bS fr o.dst d K)):StepOk P S w a o K:=by
 intro K' Q hK
 obtain ⟨dst,op,ty,pos,after,guard⟩:=o
 obtain ⟨s,d,h12,h3⟩:=mA (dst:=dst) (ty:=ty) (pos:=pos) (after:=after) (guard:=guard) hT hs
 obtain ⟨h1,h2⟩:=hY.1 h12
 refine h3 h1 S w a (cR dst) h.wf (fun x _=>(zAV h x).1) K' Q fun v S' w' hp hr hm => ?_
 have hrf:bM fr d:=fun t ht=>by
  obtain ⟨x,_,hx⟩:=hm t ht
  exact (zAV h x).2 t hx
 obtain ⟨fr',k1,k2⟩:=aH (h.drop hp) hr hrf h2
 exact hK fr' S' w' _ k1 hp.trans k2
theorem zDE {fr:List D} (h:FR S w a fr) (u off:Nat):∃ S',Trans S w S' w∧FR S' w a (zDF u off fr):=by
 unfold zDF
 split
 ·rename_i hd
  split
  ·rename_i hc;exact h.freezeC hd hc
  ·exact ⟨S,Trans.refl S w,h⟩
 ·exact ⟨S,Trans.refl S w,h⟩
theorem vQ {w:World} {a:Act} (fr0:List D) (u off:Nat):∀ (n:Nat) {S:Sig} {fr:List D},FR S w a fr→∃ S',Trans S w S' w∧FR S' w a (zD fr0 u off n fr)
 |0,S,fr,h=>⟨S,Trans.refl S w,h⟩
 |n+1,S,fr,h=>by
  obtain ⟨S1,t1,h1⟩:=vQ fr0 u off n h
  rw [zD]
  split
  rotate_left
  ·exact ⟨S1,t1,h1⟩
  obtain ⟨S2,t2,h2⟩:=zDE h1 u (off+n)
  exact ⟨S2,t1.trans t2,h2⟩
theorem zE5 {fr:List D} (T:Nat→Option TI) (ty:Nat) (h:FR S w a fr) (u off:Nat):∃ S',Trans S w S' w∧FR S' w a (zKl T ty u off fr):=by
 unfold zKl
 split
 ·exact vQ _ u off _ h
 ·exact ⟨S,Trans.refl S w,h⟩
theorem zG6 {fr:List D} {u0:Nat} {cs':List D} (hd:fr[u0]?=some (.obj cs)) (x:Operand):objAt (fr.set u0 (.obj cs')) x=objAt fr x:=by
 unfold objAt
 cases x with
 |tmp t=>
  simp only
  have hlt:u0 < fr.length:=(bC hd)
  by_cases e:t=u0
  ·subst e
   rw [List.getElem?_set_self hlt,hd]
  ·rw [List.getElem?_set_ne (Ne.symm e)]
 |_=>rfl
theorem zCZ (u off:Nat) (fr:List D) (x:Operand):objAt (zDF u off fr) x=objAt fr x:=by
 unfold zDF
 split
 ·rename_i hd
  split
  ·exact zG6 hd x
  ·rfl
 ·rfl
theorem nZ (fr0:List D) (u off:Nat) (x:Operand):∀ (n:Nat) (fr:List D),objAt (zD fr0 u off n fr) x=objAt fr x
 |0,_=>rfl
 |n+1,fr=>by
  rw [zD]
  split
  ·rw [zCZ,nZ fr0 u off x n fr]
  ·exact nZ fr0 u off x n fr
theorem zEM (T:Nat→Option TI) (ty u off:Nat) (fr:List D) (x:Operand):objAt (zKl T ty u off fr) x=objAt fr x:=by
 unfold zKl
 split
 ·exact nZ _ u off x _ fr
 ·rfl
theorem zC6 (hT:TOk P T Z) {fr:List D} (h:FR S w a fr) (hx:objAt fr x=some (u,off)) (hs:zIQ T ty0 u off dst fr K):StepOk P S w a (Oper.mk dst (.load ty0 x) ty pos after guard) K:=by
 intro K' Q hK
 obtain ⟨cs0,hd0,hev⟩:=h.objAt hx
 obtain ⟨cv,hcv⟩:=h.loadObj hd0
 unfold zIQ at hs
 split at hs
 ·rename_i cs hd
  rw [hd0] at hd
  obtain rfl:cs=cs0:=(D.obj.inj (Option.some.inj hd)).symm
  split at hs
  ·rename_i n fl ks ht
   haveI:=(hT.ty _ _ ht).1
   split at hs
   ·rename_i hb
    simp only [Bool.and_eq_true] at hb
    have hle:=Nat.le_of_ble_eq_true hb.1
    have hcell:∀ j,j < n→∃ d,((cs.drop off).take n)[j]?=some d∧w.cell? ⟨S.loc (u+2),off+j,none⟩=some (cv (off+j))∧(cv (off+j)).oneCell'=true∧Fz S.lim w (cv (off+j)) d:=fun j hj=>by
     have hjl:off+j < cs.length:=by omega
     have hg:((cs.drop off).take n)[j]?=some cs[off+j]:=by rw [List.getElem?_take,if_pos hj,List.getElem?_drop,List.getElem?_eq_getElem hjl]
     obtain ⟨h1,h2,h3⟩:=hcv _ _ (List.getElem?_eq_getElem hjl)
     exact ⟨_,hg,h1,h2,D.one_fz h3 (List.all_eq_true.1 hb.2 _ (aK hg))⟩
    have hfz:Fz S.lim w (.agg ((List.range n).map fun j=>cv (off+j)).toArray) (.agg ((cs.drop off).take n)):=by
     refine .agg _ (by simp;omega) (fun v hv => ?_) fun j d v hj hv => ?_
     ·obtain ⟨j,hj,rfl⟩:=List.mem_map.1 hv
      obtain ⟨d,_,_,h2,_⟩:=hcell j (List.mem_range.1 hj)
      exact h2
     ·have hjn:j < n:=by have:=(bC hv);simpa using this
      rw [List.getElem?_map,List.getElem?_range hjn] at hv
      cases hv
      obtain ⟨d',h1,_,_,h4⟩:=hcell j hjn
      rw [hj] at h1
      cases h1
      exact h4
    obtain ⟨fr',k1,k2⟩:=aH (dst:=dst) h (.fz hfz) (fun t ht=>(hfz.men ht).elim) hs
    refine sI (cs:=(List.range n).map fun j=>cv (off+j)) hev (fun j v hv => ?_) (by simp) (hK fr' S w _ k1 (Trans.refl S w) k2)
    have hjn:j < n:=by have:=(bC hv);simpa using this
    rw [List.getElem?_map,List.getElem?_range hjn] at hv
    cases hv
    obtain ⟨d',_,h2,_⟩:=hcell j hjn
    exact h2
   ·exact hs.elim
  ·rename_i i hi ht
   haveI:=(hT.ty _ _ ht).one (fun n fl ks e=>hi n fl ks e)
   split at hs
   ·rename_i d hd
    split at hs
    ·rename_i ho
     obtain ⟨h1,h2,h3⟩:=hcv _ _ hd
     have hfz:=D.one_fz h3 ho
     obtain ⟨fr',k1,k2⟩:=aH (dst:=dst) h (.fz hfz) (fun t ht=>(hfz.men ht).elim) hs
     exact fB hev h1 (hK fr' S w _ k1 (Trans.refl S w) k2)
    ·exact hs.elim
   ·exact hs.elim
  ·exact hs.elim
 ·exact hs.elim
theorem zBC (hT:TOk P T Z) {fr:List D} {v:Operand} (h:FR S w a fr) (hs:zEl T ty0 x v dst fr K):StepOk P S w a (Oper.mk dst (.store ty0 x v) ty pos after guard) K:=by
 intro K' Q hK
 unfold zEl at hs
 split at hs
 ·exact hs.elim
 ·split at hs
  ·rename_i u off hx
   obtain ⟨cs0,hd0,hev⟩:=h.objAt hx
   split at hs
   ·rename_i cs hd
    rw [hd0] at hd
    obtain rfl:cs=cs0:=(D.obj.inj (Option.some.inj hd)).symm
    split at hs
    ·rename_i ti ht
     split at hs
     ·rename_i vs hv
      split at hs
      ·rename_i hb
       simp only [Bool.and_eq_true] at hb
       have hn:=Nat.eq_of_beq_eq_true hb.1
       have hle:=Nat.le_of_ble_eq_true hb.2
       simp only [eJ,dF,aD,wW] at hs
       obtain ⟨q,hq⟩:=h.eval v
       have hc:=CR.of hq hv
       obtain ⟨b,cur,e,hb',hloc,hh,hsz,htr,hfr⟩:=h.storeObj hd0 hc hle
       rw [hloc] at hev
       refine sG (n:=vs.length) (by rw [(hT.ty _ _ ht).sz,hn]) hev rfl hc.len hc.one hh (by omega) ?_
       exact hK _ S _ a hs htr hfr
      ·exact hs.elim
     ·exact hs.elim
    ·exact hs.elim
   ·exact hs.elim
  ·exact hs.elim
theorem sS {w':World} {fr:List D} {t g:Nat} {us:List Value} (h:FR S w a fr) (hs:zBR fr t cs K) (hb:Blk w' g ty us.toArray) (hx:Ext w w') (hg:g=w.heap.size) (hc:CR S.lim w us cs):
  ∃ fr' S',K fr'∧Trans S w S' w'∧FR S' w' (a.put (some t) (.pointer (some ⟨g,0,none⟩))) fr':=by
 unfold zBR at hs
 split at hs
 ·rename_i d0 h0
  split at hs
  ·rename_i ho
   simp only [eJ,dF,aD] at hs
   simp only [Bool.or_eq_false_iff] at ho
   obtain ⟨S',t1,f1⟩:=h.allocObj (fun e=>by subst e;simp at ho) h0 ho.1 hb hx hg hc
   exact ⟨_,S',hs,t1,f1⟩
  ·exact hs.elim
 ·exact hs.elim
theorem zCc (hT:TOk P T Z) {fr:List D} (h:FR S w a fr) (hs:zFo Z M ty0 dst fr K):StepOk P S w a (Oper.mk dst (.alloc ty0) ty pos after guard) K:=by
 intro K' Q hK
 unfold zFo at hs
 split at hs
 ·split at hs
  ·split at hs
   ·rename_i zc hz
    split at hs
    ·rename_i h1
     haveI:=hT.zer _ _ hz
     refine wQ fun g w' hb hx hg => ?_
     obtain ⟨fr',S',k,t1,f1⟩:=sS h hs hb hx hg (CR.zero h1)
     exact hK fr' S' w' _ k t1 f1
    ·exact hs.elim
   ·exact hs.elim
  ·exact hs.elim
 ·exact hs.elim
theorem zFj {fr:List D} {t:Nat} {v:Operand} (h:FR S w a fr) (hs:zN2 ty0 v t fr K):StepOk P S w a (Oper.mk (some t) (.box ty0 v) ty pos after guard) K:=by
 intro K' Q hK
 unfold zN2 at hs
 split at hs
 ·rename_i cs hc
  obtain ⟨q,hq⟩:=h.eval v
  refine zCE rfl fun g w' hb hx hg => ?_
  obtain ⟨fr',S',k,t1,f1⟩:=sS (us:=(a.eval v).cells.toList) h hs (by simpa using hb) hx hg (CR.of hq hc)
  exact hK fr' S' w' _ k t1 f1
 ·exact hs.elim
theorem zCN (hT:TOk P T Z) {fr:List D} {o2:Oper} {ty:Nat} (h:FR S w a fr) (ho:o.op=.alloc ty) (hs:zIs T Z o o2 ty fr K) {r:List Oper} (hg:o.guard=none)
  (hK:∀ fr' S' w' a',K fr'→Trans S w S' w'→FR S' w' a' fr'→wpList P ops Q r a' w'):wpList P ops Q (o::o2::r) a w:=by
 unfold zIs at hs
 split at hs
 ·rename_i t ty2 t2 v hdst hop2 hdst2 hg2
  split at hs
  ·rename_i hb
   simp only [Bool.and_eq_true] at hb
   obtain rfl:=Nat.eq_of_beq_eq_true hb.1
   obtain rfl:=Nat.eq_of_beq_eq_true hb.2
   split at hs
   ·rename_i ti zc ht hz
    rw [aD] at hs
    obtain ⟨S1,t1,h1⟩:=dV h v
    haveI:=hT.zer _ _ hz
    have key:∀ {vs:List D},(bD (frz1 fr v) v).cellsOf=some vs→(Nat.beq vs.length ti.cells && Nat.beq zc.length ti.cells)=true→bS (frz1 fr v) (some t) (.ptr vs) K→(∀ p:Value,(a.put (some t) p).eval v=a.eval v)→wpList P ops Q (o::o2::r) a w:=by
     intro vs hv hb2 hput hev
     simp only [Bool.and_eq_true] at hb2
     have hn1:=Nat.eq_of_beq_eq_true hb2.1
     have hn2:=Nat.eq_of_beq_eq_true hb2.2
     obtain ⟨q,hq⟩:=h1.eval v
     have hc:=CR.of hq hv
     obtain ⟨dst,op,oty,pos,after,guard⟩:=o
     obtain ⟨dst2,op2,oty2,pos2,after2,guard2⟩:=o2
     simp only at ho hdst hop2 hdst2 hg hg2
     subst ho;subst hdst;subst hop2;subst hdst2
     refine wpList_plain hg fun K1 hK1=>wQ fun g w' hb' hx hgs=>hK1 _ _ ?_
     refine wpList_plain hg2 fun K2 hK2 => ?_
     have ht':t < a.tmps.size:=by
      have:∃ d0,(frz1 fr v)[t]?=some d0:=by
       simp only [bS] at hput
       split at hput
       ·exact ⟨_,by assumption⟩
       ·exact hput.elim
      obtain ⟨d0,hd0⟩:=this
      rw [h1.size]
      exact (bC hd0)
     refine sG (n:=ti.cells) (us:=(a.eval v).cells.toList) (b:=g) (o:=0) (hT.ty _ _ ht).sz ?_ ?_ (by rw [hc.len,hn1]) hc.one hb' (by simp;omega) (hK2 _ _ ?_)
     ·have:=gL (v:=.pointer (some ⟨g,0,none⟩)) ht'
      simp [Act.eval,Array.getD_eq_getD_getElem?,this]
     ·rw [hev]
     ·have hx2:Ext w ((w'.setRow g (zc.toArray.toList.take 0++(a.eval v).cells.toList++zc.toArray.toList.drop (0+ti.cells)).toArray)):=Ext.setRow hx (by omega)
      have hpt:=PT.ext' h1.wf hx2
      have hrow:(w'.setRow g (zc.toArray.toList.take 0++(a.eval v).cells.toList++zc.toArray.toList.drop (0+ti.cells)).toArray).heap[g]?=some (.cells (zc.toArray.toList.take 0++(a.eval v).cells.toList++zc.toArray.toList.drop (0+ti.cells)).toArray ty (0,0)):=setRow_heap w' g _ _ ty _ hb'
      have hcells:(zc.toArray.toList.take 0++(a.eval v).cells.toList++zc.toArray.toList.drop (0+ti.cells))=(a.eval v).cells.toList:=by
       simp [List.drop_eq_nil_of_le,hn2]
      rw [hcells] at hrow hpt ⊢
      have hfz:Fz S1.lim (w'.setRow g (a.eval v).cells.toList.toArray) (.pointer (some ⟨g,0,none⟩)) (.ptr vs):=by
       refine .ptr (fun j=>(a.eval v).cells.toList.getD j undef) (fun j d hj => ?_) fun j d hj => ?_
       ·have hjl:=gM hc.len hj
        have he:(a.eval v).cells.toList[j]?=some ((a.eval v).cells.toList.getD j undef):=by rw [List.getD_eq_getElem?_getD,List.getElem?_eq_getElem hjl];rfl
        refine ⟨by rw [cell_of_row _ g _ _ ty (0,0) hrow,Nat.zero_add];simpa using he,fun s hs' => ?_,hc.one _ (aK he)⟩
        exfalso
        simp only [Sig.lim] at hs'
        cases hx':S1.own g with
        |none=>rw [hx'] at hs';cases hs'
        |some y=>have:=h1.wf g y hx';omega
       ·have hjl:=gM hc.len hj
        have he:(a.eval v).cells.toList[j]?=some ((a.eval v).cells.toList.getD j undef):=by rw [List.getD_eq_getElem?_getD,List.getElem?_eq_getElem hjl];rfl
        exact (hc.fz j d _ hj he).trans hpt.trans
      obtain ⟨fr',k1,k2⟩:=aH (dst:=some t) (v:=.pointer (some ⟨g,0,none⟩)) (h1.drop hpt) (.fz hfz) (fun t ht=>(hfz.men ht).elim) hput
      exact hK fr' S1 _ _ k1 (t1.trans hpt.trans) k2
    split at hs
    ·rename_i tv
     split at hs
     ·rename_i hne
      split at hs
      ·rename_i vs hv
       split at hs
       ·rename_i hb2
        refine key hv hb2 hs fun p => ?_
        have hne':tv ≠ t:=fun e=>by subst e;simp at hne
        simp only [Act.eval,Array.getD_eq_getD_getElem?,bQ hne']
       ·exact hs.elim
      ·exact hs.elim
     ·exact hs.elim
    ·split at hs
     ·rename_i vs hv
      split at hs
      ·rename_i hb2
       exact key hv hb2 hs fun p=>rfl
      ·exact hs.elim
     ·exact hs.elim
    ·exact hs.elim
   ·exact hs.elim
  ·exact hs.elim
 ·exact hs.elim
theorem zE2 {fr:List D} {c:Call} {f:Nat} (h:FR S w a fr) (hc:c.callee=.value (.func f)) (hargs:c.args.toList=x::xs) (hu:jW fr x=some u) (hs:zKg P f u xs dst fr K):StepOk P S w a (Oper.mk dst (.call c) ty pos after guard) K:=by
 intro K' Q hK
 obtain ⟨callee,args,argTypes⟩:=c
 simp only at hc hargs
 subst hc
 obtain rfl:args=(x::xs).toArray:=Array.ext' hargs
 unfold zKg at hs
 have key:∀ {d0:D},d0.isObj=false→d0.left=true→fr[u]?=some d0→Rep S w (.slot u) (a.eval x) d0→(CallO fun d out=>SideD (uO P f d0 (xs.map (bD fr)) d out) (match out with
  |none=>aN ((fr.map (bI u .any)).set u .any) fun fr=>bS fr dst d K
  | some d'=>aN ((fr.map (bI u .any)).set u d') fun fr=>bS fr dst d K))→(Oper.mk dst (.call ⟨.value (.func f),(x::xs).toArray,argTypes⟩) ty pos after guard).wp P a w K' Q:=fun {d0} hn hleft hd hsl hs=>by
  obtain ⟨d,out,⟨d1,ds',rfl,hl,hp,hsem⟩,hput⟩:=hs.h
  refine zIu (p:=cR dst) hn hleft h hd (gK h hu) hsl hl hp hsem fun v S' w' t1 t2 t3 => ?_
  have hcalm:=hsem.2.1
  have fin:∀ {fr1:List D},FR S' w' a fr1→bS fr1 dst d K→K' (a.put dst v) w':=fun f1 hp1=>by
   obtain ⟨fr',k1,k2⟩:=aH f1 t3 (fun t ht=>absurd ht (D.calm_men hcalm)) hp1
   exact hK fr' S' w' _ k1 t1 k2
  cases out with
  |none=>simp only [aD] at hput;exact fin t2 hput
  |some d'=>simp only [aD] at hput;exact fin t2 hput
 split at hs
 ·rename_i m sz rows hd
  obtain ⟨v0,hv0,hsl⟩:=h.at hd
  obtain rfl:v0=a.eval x:=Option.some.inj (hv0.symm.trans (gK h hu))
  exact key rfl rfl hd hsl.1 hs
 ·rename_i kd es hd
  obtain ⟨v0,hv0,hsl⟩:=h.at hd
  obtain rfl:v0=a.eval x:=Option.some.inj (hv0.symm.trans (gK h hu))
  exact key rfl rfl hd hsl.1 hs
 ·exact hs.elim
theorem yI {α β:Type} {f:α→β} {l:List α} {j:Nat} {y:β} (h:(l.map f)[j]?=some y):∃ x,l[j]?=some x∧f x=y:=by
 rw [List.getElem?_map] at h
 cases hx:l[j]? with
 |none=>rw [hx] at h;cases h
 |some x=>rw [hx] at h;exact ⟨x,rfl,Option.some.inj h⟩
theorem zDd {q:Place} {v:Value} {d:D} (hr:Rep S w q v d):Fz (S.lend w).lim w v (zFL d):=by
 have plain:∀ {d:D},Rep S w q v d→Fz (S.lend w).lim w v (match d.one with|true=>d|false=>.any):=fun {d} hr=>by
  split
  ·rename_i ho
   exact (D.one_fz hr ho).lend
  ·exact .any _
 cases d with
 |sl m sz rows=>
  cases hr with
  |fz hz=>
   have hz2:=hz.lend
   simp only [zFL]
   cases hz2 with
   |slNil=>exact .slNil 0 sz
   |slE=>exact .slE _ sz
   |sl cv a1 a2 a3 a4 a5=>exact .sl cv a1 a2 a3 a4 a5
  |@own _ b cap _ _ _ cur e g=>
   refine g.fz2 (fun hz=>hz.lend) rfl fun k hk s hs => ?_
   simp only [Sig.lim,Sig.lend,g.own,g.heap,Option.map_some,Option.some.injEq] at hs
   have h1:=g.size
   have h2:=Nat.mul_le_mul_right sz g.le
   omega
 |_=>exact plain hr
theorem vJ {fr:List D} (h:FR S w a fr) {q:Place} {v:Value} {d:D} (hr:Rep S w q v d):Fz (S.lend w).lim w v (zFM fr d):=by
 have plain:∀ {d:D},Rep S w q v d→Fz (S.lend w).lim w v (match d.one with|true=>d|false=>.any):=fun {d} hr=>by
  split
  ·rename_i ho
   exact (D.one_fz hr ho).lend
  ·exact .any _
 cases d with
 |ref u off=>
  simp only [zFM]
  split
  ·rename_i cs hd
   cases hr with
   |fz h=>cases h
   |ref hown=>
    obtain ⟨cv,hcv⟩:=h.loadObj hd
    refine .ptr (fun j=>cv (off+j)) (fun j d hj => ?_) fun j d hj => ?_
    ·rw [List.getElem?_drop] at hj
     obtain ⟨e,he,rfl⟩:=yI hj
     obtain ⟨h1,h2,h3⟩:=hcv _ _ he
     exact ⟨h1,yK h1,h2⟩
    ·rw [List.getElem?_drop] at hj
     obtain ⟨e,he,rfl⟩:=yI hj
     obtain ⟨h1,h2,h3⟩:=hcv _ _ he
     exact zDd h3
  ·exact .any _
 |_=>exact plain hr
theorem zDb {fr:List D} (h:FR S w a fr) {q:Place} {v:Value} {d:D} (hr:Rep S w q v d):Fz (S.lend w).lim w v (zDc fr d):=by
 have plain:∀ {d:D},Rep S w q v d→Fz (S.lend w).lim w v (match d.passes with|true=>d|false=>.any):=fun {d} hr=>by
  split
  ·rename_i ho
   exact (hr.passes ho).lend
  ·exact .any _
 cases d with
 |fn f caps=>
  obtain ⟨vs,rfl,hl,ih⟩:=hr.fn_inv
  refine .fn vs (by simp [hl]) fun j d v hd hv => ?_
  rw [List.getElem?_map] at hd
  cases hc:caps[j]? with
  |none=>rw [hc] at hd;cases hd
  |some e=>
   rw [hc] at hd
   cases hd
   exact vJ h (ih j e v hc hv)
 |sl m sz rows=>
  cases hr with
  |fz hz=>
   have hz2:=hz.lend
   simp only [zDc]
   cases hz2 with
   |slNil=>exact .slNil 0 sz
   |slE=>exact .slE _ sz
   |sl cv a1 a2 a3 a4 a5=>exact .sl cv a1 a2 a3 a4 a5
  |@own _ b cap _ _ _ cur e g=>
   refine g.fz2 (fun hz=>hz.lend) rfl fun k hk s hs => ?_
   simp only [Sig.lim,Sig.lend,g.own,g.heap,Option.map_some,Option.some.injEq] at hs
   have h1:=g.size
   have h2:=Nat.mul_le_mul_right sz g.le
   omega
 |obj cs=>
  simp only [zDc]
  cases hr with
  |fz h=>cases h
  |@obj t b _ _ cur e hb hp hl hh hs h1 ih=>
   refine .ptr (fun j=>cur.getD j undef) (fun j d hj => ?_) fun j d hj => ?_
   ·obtain ⟨e',he',rfl⟩:=yI hj
    have hjl:j < cur.size:=by rw [← hs];exact (List.getElem?_eq_some_iff.1 he').1
    have hc:cur[j]?=some (cur.getD j undef):=by simp [Array.getD_eq_getD_getElem?,hjl]
    have hcell:w.cell? ⟨b,0+j,none⟩=some (cur.getD j undef):=by rw [Nat.zero_add,cell_of_row w b _ cur e (0,0) hh];exact hc
    exact ⟨hcell,yK hcell,h1 j _ hc⟩
   ·obtain ⟨e',he',rfl⟩:=yI hj
    have hjl:j < cur.size:=by rw [← hs];exact (List.getElem?_eq_some_iff.1 he').1
    have hc:cur[j]?=some (cur.getD j undef):=by simp [Array.getD_eq_getD_getElem?,hjl]
    exact zDd (ih j _ _ he' hc)
 |ref u off=>exact vJ h hr
 |_=>exact plain hr
theorem zDa {fr:List D} {c:Call} {f:Nat} (h:FR S w a fr) (hc:c.callee=.value (.func f)) (hs:zL3 P f c.args.toList dst fr K):StepOk P S w a (Oper.mk dst (.call c) ty pos after guard) K:=by
 intro K' Q hK
 obtain ⟨callee,args,argTypes⟩:=c
 simp only at hc
 subst hc
 obtain ⟨d,⟨hflat,ds',h1,h2,hsem⟩,hput⟩:=hs.h
 simp only at h1
 have hlen:(args.toList.map a.eval).length=ds'.length:=by rw [h1.len];simp
 have hfz:∀ (i:Nat) (d:D) (v:Value),ds'[i]?=some d→(args.toList.map a.eval)[i]?=some v→Fz (S.lend w).lim w v d:=fun i d v hd hv=>by
  rw [List.getElem?_map] at hv
  cases hx:args.toList[i]? with
  |none=>rw [hx] at hv;cases hv
  |some x=>
   rw [hx] at hv
   cases hv
   obtain ⟨q,hq⟩:=h.eval x
   have hle:=h1.get (i:=i) (d:=zDc fr (bD fr x)) (by rw [List.getElem?_map,hx];rfl) hd
   exact ((Rep.fz (S:=S.lend w) (p:=.dead) (zDb h hq)).le hle).passes (List.all_eq_true.1 h2 d (aK hd))
 have hcalm:=hsem.2.1
 haveI:=hsem.1
 refine zBH (zHD hsem hflat h.wf hlen hfz) (by apply Array.ext';simp) fun e w' ⟨v,he,hpt,hrep⟩ => ?_
 subst he
 obtain ⟨fr',k1,k2⟩:=aH (dst:=dst) (h.drop hpt) (hrep _) (fun t ht=>absurd ht (D.calm_men hcalm)) hput
 exact hK fr' S w' _ k1 hpt.trans k2
theorem zDy {fr:List D} {c:Call} {f:Nat} (h:FR S w a fr) (hc:c.callee=.value (.func f)) (hargs:c.args.toList=x::xs) (hu:objAt fr x=some (u,0)) (hs:zKf P f u xs dst fr K):StepOk P S w a (Oper.mk dst (.call c) ty pos after guard) K:=by
 intro K' Q hK
 obtain ⟨callee,args,argTypes⟩:=c
 simp only at hc hargs
 subst hc
 obtain rfl:args=(x::xs).toArray:=Array.ext' hargs
 obtain ⟨cs0,hd0,hev⟩:=h.objAt hu
 unfold zKf at hs
 split at hs
 ·rename_i cs hd
  split at hs
  ·rename_i hcalm1
   obtain ⟨d,out,⟨d1,ds',rfl,hl,hp,hsem⟩,hput⟩:=hs.h
   split at hput
   ·rename_i cs'
    simp only [eJ,dF,aD,zLN] at hput
    refine zGL (p:=cR dst) h hd hcalm1 hev hl hp hsem fun v S' w' t1 t2 t3 => ?_
    have hcalm:=hsem.2.1
    obtain ⟨fr',k1,k2⟩:=aH t2 t3 (fun t ht=>absurd ht (D.calm_men hcalm)) hput
    exact hK fr' S' w' _ k1 t1 k2
   ·exact hput.elim
  ·exact hs.elim
 ·exact hs.elim
theorem uU (hT:TOk P T Z) {fr:List D} (h:FR S w a fr) (hs:fV P T Z M o fr K):StepOk P S w a o K:=by
 have ev:∀ t v,a.tmps[t]?=some v→a.eval (.tmp t)=v:=fun t v hv=>by simp [Act.eval,Array.getD_eq_getD_getElem?,hv]
 obtain ⟨dst,op,ty,pos,after,guard⟩:=o
 unfold fV at hs
 simp only at hs
 split at hs
 ·split at hs
  ·rename_i hd
   exact pM h hd rfl (ev _) hs
  ·rename_i hd
   exact pM h hd rfl (ev _) hs
  ·rename_i u u' hd
   obtain ⟨v,hv,hsl⟩:=h.at hd
   obtain ⟨g1,d',g2,g3,_⟩:=hsl
   refine pM h g2 g3 (fun v' hv' => ?_) hs
   rw [g1] at hv'
   cases hv'
   exact ev _ _ hv
  ·rename_i hd
   obtain ⟨r1,r2,r3⟩:=iN h hd 0
   obtain ⟨fr',k1,k2⟩:=aH h (r1 _) r2 hs
   exact fun K' Q hK=>jK (ev _ _ r3) (hK fr' S w _ k1 (Trans.refl S w) k2)
  ·exact cC hT h hs
 ·split at hs
  ·exact qR h (ev _) hs
  ·exact qR h (ev _) hs
  ·rename_i u u' hd
   obtain ⟨v,hv,hsl⟩:=h.at hd
   refine qR h (fun v' hv' => ?_) hs
   rw [hsl.1] at hv'
   cases hv'
   exact ev _ _ hv
  ·rename_i hd
   obtain ⟨r1,r2,r3⟩:=iN h hd 0
   obtain ⟨fr',k1,k2⟩:=aH h (r1 _) r2 hs
   exact fun K' Q hK=>jZ (ev _ _ r3) (hK fr' S w _ k1 (Trans.refl S w) k2)
  ·exact cC hT h hs
 ·obtain ⟨s,r,hp,h12⟩:=pT hs
  obtain ⟨h1,h2⟩:=hY.1 h12
  obtain ⟨p,h3,h4⟩:=kP (h.eval _) (h.eval _) (h.eval _) hp h1
  intro K' Q hK
  refine sM h3 ?_
  rw [h4]
  obtain ⟨fr',k1,k2⟩:=aH h (.fz (.bool r)) zC2 h2
  exact hK fr' S w _ k1 (Trans.refl S w) k2
 ·exact zCz hT h hs
 ·split at hs
  ·rename_i hc
   exact zCa hT h hc hs
  ·rename_i hc
   exact zHs hT h hc hs
  ·exact cC hT h hs
  ·rename_i f hcal
   split at hs
   ·split at hs
    ·rename_i x xs hargs
     split at hs
     ·rename_i u hu
      rw [aD] at hs
      obtain ⟨S1,t1,h1⟩:=eK (fun S fr x h=>gP h x) (xs.filter (oG fr)) _ _ h
      split at hs
      ·rename_i u' hu'
       split at hs
       ·rename_i he
        obtain rfl:=Nat.eq_of_beq_eq_true he
        exact (zE2 h1 hcal hargs hu' hs).ghost t1
       ·exact hs.elim
      ·exact hs.elim
     ·split at hs
      ·rw [aD] at hs
       obtain ⟨S1,t1,h1⟩:=eK (fun S fr x h=>gP h x) (xs.filter (oG fr)) _ _ h
       split at hs
       ·rename_i u' hu'
        exact (zDy h1 hcal hargs hu' hs).ghost t1
       ·exact hs.elim
      ·rw [aD] at hs
       obtain ⟨S1,t1,h1⟩:=kC h _
       exact (cC hT h1 hs).ghost t1
    ·exact cC hT h hs
   ·split at hs
    ·exact zDa h hcal hs
    ·rw [aD] at hs
     obtain ⟨S1,t1,h1⟩:=kC h _
     exact (cC hT h1 hs).ghost t1
  ·rw [aD] at hs
   obtain ⟨S1,t1,h1⟩:=kC h _
   exact (cC hT h1 hs).ghost t1
 ·split at hs
  ·rename_i hd
   obtain ⟨r1,r2,r3⟩:=iN h hd 0
   obtain ⟨fr',k1,k2⟩:=aH h (r1 _) r2 hs
   exact fun K' Q hK=>iG (ev _ _ r3) (hK fr' S w _ k1 (Trans.refl S w) k2)
  ·exact cC hT h hs
 ·split at hs
  ·rename_i hd
   split at hs
   ·rename_i ht
    split at hs
    ·rename_i off n ag hf
     haveI:=(hT.ty _ _ ht).2.1 _ _ _ _ hf
     obtain ⟨r1,r2,_⟩:=iN h hd off
     obtain ⟨_,_,r3⟩:=iN h hd 0
     obtain ⟨fr',k1,k2⟩:=aH h (r1 _) r2 hs
     exact fun K' Q hK=>bP (ev _ _ r3) (by rw [Nat.zero_add];exact hK fr' S w _ k1 (Trans.refl S w) k2)
    ·exact hs.elim
   ·exact hs.elim
  ·exact cC hT h hs
 ·split at hs
  ·rename_i hx
   rw [aD] at hs
   obtain ⟨S1,t1,h1⟩:=zE5 T _ h _ _
   exact StepOk.ghost t1 (zC6 hT h1 (by rw [zEM];exact hx) hs)
  ·exact cC hT h hs
 ·rw [aD] at hs
  obtain ⟨S1,t1,h1⟩:=dV h _
  refine ((zBC hT h1 hs).mono fun {fr' S' w' a'} k f => ?_).ghost t1
  unfold zL1 at k
  split at k
  ·split at k
   ·unfold zF2 at k
    split at k
    ·rename_i hd
     split at k
     ·rename_i hb
      simp only [Bool.and_eq_true] at hb
      rw [aD] at k
      obtain ⟨S2,t2,f2⟩:=f.freezeObj hd hb.1 hb.2
      exact ⟨_,S2,k,t2,f2⟩
     ·exact k.elim
    ·exact k.elim
   ·exact ⟨_,_,k,Trans.refl _ _,f⟩
  ·exact ⟨_,_,k,Trans.refl _ _,f⟩
 ·exact zGs hT h hs
 ·exact zCc hT h hs
 ·split at hs
  ·split at hs
   ·rw [aD] at hs
    obtain ⟨S1,t1,h1⟩:=dV h _
    exact (zFj h1 hs).ghost t1
   ·rw [aD] at hs
    obtain ⟨S1,t1,h1⟩:=kC h _
    exact (cC hT h1 hs).ghost t1
  ·exact hs.elim
 ·split at hs
  ·rw [aD] at hs
   obtain ⟨S1,t1,h1⟩:=kC h _
   exact (cC hT h1 hs).ghost t1
  ·exact cC hT h hs
theorem zER {fr:List D} (h:FR S w a fr) (hs:sT fr u dst K):∃ v,a.tmps[u]?=some v∧∃ fr',K fr'∧FR S w (a.put dst v) fr'∧((∃ x sz k j,fr[u]?=some (.es x sz k j))∨(∃ x o sz k j,fr[u]?=some (.el x o sz k j))→∃ p,v=.pointer (some p)):=by
 unfold sT at hs
 split at hs
 ·rename_i x sz k j hd
  obtain ⟨v,hv,hsl⟩:=h.at hd
  have hp:∃ p,v=.pointer (some p):=by
   obtain ⟨_,s,_,b,l,c,_,rfl⟩:=hsl
   exact ⟨_,rfl⟩
  refine ⟨v,hv,?_⟩
  cases dst with
  |none=>exact ⟨fr,hs,h,fun _=>hp⟩
  |some t=>
   simp only at hs
   split at hs
   ·rename_i hne
    have hne':x ≠ t:=fun e=>by subst e;simp at hne
    obtain ⟨⟨d',g1,g2,_⟩,g3⟩:=hsl
    obtain ⟨fr',k1,k2⟩:=fH (dst:=some t) (v:=v) h rfl (fun t' e=>by cases e;exact ⟨⟨d',g1,g2,hne'⟩,g3⟩) hs
    exact ⟨fr',k1,k2,fun _=>hp⟩
   ·exact hs.elim
 ·rename_i x off sz k j hd
  obtain ⟨v,hv,hsl⟩:=h.at hd
  have hp:∃ p,v=.pointer (some p):=by
   obtain ⟨_,s,_,b,l,c,_,rfl⟩:=hsl
   exact ⟨_,rfl⟩
  obtain ⟨fr',k1,k2⟩:=fH (dst:=dst) (v:=v) (d:=.el x off sz k j) h rfl (fun t' e=>(hsl:SlotRep S w a fr t' v (.el x off sz k j))) hs
  exact ⟨v,hv,fr',k1,k2,fun _=>hp⟩
 ·rename_i x off hd
  obtain ⟨v,hv,hsl⟩:=h.at hd
  obtain ⟨fr',k1,k2⟩:=fH (dst:=dst) (v:=v) (d:=.alc x off) h rfl (fun t' e=>(hsl:SlotRep S w a fr t' v (.alc x off))) hs
  refine ⟨v,hv,fr',k1,k2,fun e => ?_⟩
  rw [hd] at e
  rcases e with ⟨_,_,_,_,e⟩|⟨_,_,_,_,_,e⟩<;>cases e
 ·exact hs.elim
theorem eA {fr:List D} (h:FR S w a fr) (hs:sT fr u dst K):
  StepOk P S w a (Oper.mk dst (.move (.tmp u)) ty pos after guard) K∧StepOk P S w a (Oper.mk dst (.assign (.tmp u)) ty pos after guard) K:=by
 obtain ⟨v,hv,fr',k1,k2,_⟩:=zER h hs
 have he:a.eval (.tmp u)=v:=by simp [Act.eval,Array.getD_eq_getD_getElem?,hv]
 exact ⟨fun K' Q hK=>jK he (hK fr' S w _ k1 (Trans.refl S w) k2),fun K' Q hK=>jZ he (hK fr' S w _ k1 (Trans.refl S w) k2)⟩
theorem zH9 {fr:List D} (h:FR S w a fr) {t sz k j:Nat} {v:Value} {sz':Nat} (hsl:SlotRep S w a fr t v (.es u sz k j)) (hr:zAQ fr (.es u sz k j)=some (sz',rows)):
  ∃ s m q,zAe s sz k j v∧Rep S w q s (.sl (m+1) sz' rows):=by
 simp only [zAQ] at hr
 split at hr
 ·rename_i m sz2 rows2 hd
  cases hr
  obtain ⟨_,s,hs,he⟩:=hsl
  obtain ⟨v',hv',hs'⟩:=h.at hd
  obtain rfl:s=v':=Option.some.inj (hs.symm.trans hv')
  exact ⟨s,m,_,he,hs'.1⟩
 ·cases hr
theorem zIa {fr:List D} (h:FR S w a fr) {t sz k j:Nat} {v:Value} {sz':Nat} (hsl:SlotRep S w a fr t v (.el u off sz k j)) (hr:zAQ fr (.el u off sz k j)=some (sz',rows)):
  ∃ s m q,zAe s sz k j v∧Rep S w q s (.sl (m+1) sz' rows):=by
 simp only [zAQ] at hr
 split at hr
 ·rename_i cs hd
  split at hr
  ·rename_i m sz2 rows2 hc
   cases hr
   obtain ⟨_,s,hs,he⟩:=hsl
   obtain ⟨v',hv',hs'⟩:=h.at hd
   exact ⟨s,m,_,he,hs'.1.obj_cell hc hs⟩
  ·cases hr
 ·cases hr
theorem vH (hT:TOk P T Z) {fr:List D} {p:Place} {s v:Value} {m sz k j:Nat} (h:FR S w a fr) (hv:a.tmps[u]?=some v) (he:zAe s sz k j v) (hrep:Rep S w p s (.sl (m+1) sz rows)) (hs:zIP T ty0 rows k j dst fr K):
  StepOk P S w a (Oper.mk dst (.load ty0 (.tmp u)) ty pos after guard) K:=by
 intro K' Q hK
 obtain ⟨r,⟨_,hr⟩,hs⟩:=hs.h
 have hr:rows[k]?=some r:=hr
 obtain ⟨b,cap,cur,e,rfl,rfl,g⟩:=zF7 hrep he hr
 have hev:a.eval (.tmp u)=.pointer (some ⟨b,k * sz+j,none⟩):=by simp [Act.eval,Array.getD_eq_getD_getElem?,hv]
 have hel:∀ i d,r[i]?=some d→∃ x,w.cell? ⟨b,k * sz+i,none⟩=some x∧x.oneCell'=true∧Fz S.lim w x d:=fun i d hd=>g.elem hr hd
 split at hs
 ·rename_i n fl ks ht
  haveI:=(hT.ty _ _ ht).1
  split at hs
  ·rename_i hb
   have hle:=Nat.le_of_ble_eq_true hb
   have hex:∀ i,∃ x:Value,∀ d,r[j+i]?=some d→w.cell? ⟨b,k * sz+(j+i),none⟩=some x∧x.oneCell'=true∧Fz S.lim w x d:=fun i=>by
    cases hd:r[j+i]? with
    |none=>exact ⟨undef,fun d hd'=>by cases hd'⟩
    |some d=>
     obtain ⟨x,hx⟩:=hel _ _ hd
     exact ⟨x,fun d' hd'=>by cases hd';exact hx⟩
   let cv:Nat→Value:=fun i=>Classical.choose (hex i)
   have hcv:∀ i d,r[j+i]?=some d→w.cell? ⟨b,k * sz+(j+i),none⟩=some (cv i)∧(cv i).oneCell'=true∧Fz S.lim w (cv i) d:=fun i=>Classical.choose_spec (hex i)
   have hget:∀ i,i < n→∃ d,r[j+i]?=some d∧((r.drop j).take n)[i]?=some d:=fun i hi=>by
    have hlt:j+i < r.length:=by omega
    exact ⟨r[j+i],List.getElem?_eq_getElem hlt,by rw [List.getElem?_take,if_pos hi,List.getElem?_drop,List.getElem?_eq_getElem hlt]⟩
   have hfz:Fz S.lim w (.agg ((List.range n).map cv).toArray) (.agg ((r.drop j).take n)):=by
    refine .agg _ (by simp;omega) (fun v hv => ?_) fun i d v hi hv => ?_
    ·obtain ⟨i,hi,rfl⟩:=List.mem_map.1 hv
     obtain ⟨d,h1,_⟩:=hget i (List.mem_range.1 hi)
     exact (hcv i d h1).2.1
    ·have hin:i < n:=by have:=(bC hv);simpa using this
     rw [List.getElem?_map,List.getElem?_range hin] at hv
     cases hv
     obtain ⟨d',h1,h2⟩:=hget i hin
     rw [hi] at h2
     cases h2
     exact (hcv i d h1).2.2
   obtain ⟨fr',k1,k2⟩:=aH (dst:=dst) h (.fz hfz) (fun t ht=>(hfz.men ht).elim) hs
   refine sI (cs:=(List.range n).map cv) hev (fun i v hv => ?_) (by simp) (hK fr' S w _ k1 (Trans.refl S w) k2)
   have hin:i < n:=by have:=(bC hv);simpa using this
   rw [List.getElem?_map,List.getElem?_range hin] at hv
   cases hv
   obtain ⟨d,h1,_⟩:=hget i hin
   have:=(hcv i d h1).1
   rwa [← Nat.add_assoc] at this
  ·exact hs.elim
 ·rename_i i hi ht
  haveI:=(hT.ty _ _ ht).one (fun n fl ks e=>hi n fl ks e)
  split at hs
  ·rename_i d hd
   split at hs
   ·obtain ⟨x,h1,h2,h3⟩:=hel _ _ hd
    obtain ⟨fr',k1,k2⟩:=aH (dst:=dst) h (.fz h3) (fun t ht=>(h3.men ht).elim) hs
    exact fB hev h1 (hK fr' S w _ k1 (Trans.refl S w) k2)
   ·exact hs.elim
  ·exact hs.elim
 ·exact hs.elim
theorem zCm {fr:List D} (h:FR S w a fr) (x:Operand):∃ S',Trans S w S' w∧FR S' w a (zHW fr x):=by
 unfold zHW
 split
 ·split
  ·rename_i hx
   split
   ·rename_i hd
    split
    ·rename_i hc
     exact h.takeC hx hd hc
    ·exact ⟨S,Trans.refl S w,h⟩
   ·exact ⟨S,Trans.refl S w,h⟩
  ·exact ⟨S,Trans.refl S w,h⟩
 ·exact ⟨S,Trans.refl S w,h⟩
theorem uT (hT:TOk P T Z) {v:Operand} {o:Nat} {ti:TI} {vs:List D} {us:List Value} {b:Nat} {cur:Array Value} {e:TypeId} 
  (ht:T ty0=some ti) (hn:vs.length=ti.cells) (hev:a.eval (.tmp u)=.pointer (some ⟨b,o,none⟩)) (hus:(a.eval v).cells.toList=us) (hul:us.length=vs.length) (hone:∀ u:Value,u ∈ us→u.oneCell'=true) (hh:w.heap[b]?=some (.cells cur e (0,0))) (hle:o+vs.length≤cur.size)
  (hk:K' (a.put dst undef) (w.setRow b (cur.toList.take o++us++cur.toList.drop (o+vs.length)).toArray)):(Oper.mk dst (.store ty0 (.tmp u) v) ty pos after guard).wp P a w K' Q:=
 sG (n:=vs.length) (by rw [(hT.ty _ _ ht).sz,hn]) hev hus hul hone hh hle hk
theorem zAh (hT:TOk P T Z) {fr:List D} {x sz k j:Nat} {v0:Value} {v:Operand} (h:FR S w a fr) (hv:a.tmps[u]?=some v0) (hsl:SlotRep S w a fr u v0 (.es x sz k j)) (hd:fr[x]?=some (.sl 2 sz rows))
  (hs:tT T ty0 v x sz k j rows fr fun rows=>aN (fr.set x (.sl 2 sz rows)) K):StepOk P S w a (Oper.mk none (.store ty0 (.tmp u) v) ty pos after guard) K:=by
 intro K' Q hK
 unfold tT at hs
 split at hs
 ·rename_i ti vs ht hvs
  split at hs
  ·rename_i hb
   simp only [Bool.and_eq_true] at hb
   have hn:=Nat.eq_of_beq_eq_true hb.1
   have hle:=Nat.le_of_ble_eq_true hb.2
   obtain ⟨r,⟨_,hr⟩,hs⟩:=hs.h
   have hr:rows[k]?=some r:=hr
   rw [aD] at hs
   obtain ⟨_,s,hs1,he⟩:=hsl
   obtain ⟨v',hv',hs'⟩:=h.at hd
   obtain rfl:s=v':=Option.some.inj (hs1.symm.trans hv')
   obtain ⟨b,cap,cur,e,rfl,rfl,g⟩:=zF7 hs'.1 he hr
   have hev:a.eval (.tmp u)=.pointer (some ⟨b,k * sz+j,none⟩):=by simp [Act.eval,Array.getD_eq_getD_getElem?,hv]
   obtain ⟨q,hq⟩:=h.eval v
   have hc:=CR.of hq hvs
   obtain ⟨h1,hbt,CUR,g'⟩:=g.store h.wf (by simp [Place.slot]) hr hc hle
   refine uT hT ht hn hev rfl hc.len hc.one g.heap h1 ?_
   refine hK _ S _ a hs hbt.tr (h.reown hbt g.own rfl hd rfl (fun y hy => ?_) (fun t=>bG) rfl)
   rw [hs1] at hy
   cases hy
   have:=Rep.own g'
   rwa [List.length_set] at this
  ·exact hs.elim
 ·exact hs.elim
theorem zAi (hT:TOk P T Z) {fr:List D} {x c sz k j:Nat} {v0:Value} {v:Operand} (h:FR S w a fr) (hv:a.tmps[u]?=some v0) (hsl:SlotRep S w a fr u v0 (.el x c sz k j)) (hd:fr[x]?=some (.obj cs)) (hcc:cs[c]?=some (.sl 2 sz rows))
  (hs:tT T ty0 v x sz k j rows fr fun rows=>eJ fr x (cs.set c (.sl 2 sz rows)) K):StepOk P S w a (Oper.mk none (.store ty0 (.tmp u) v) ty pos after guard) K:=by
 intro K' Q hK
 unfold tT at hs
 split at hs
 ·rename_i ti vs ht hvs
  split at hs
  ·rename_i hb
   simp only [Bool.and_eq_true] at hb
   have hn:=Nat.eq_of_beq_eq_true hb.1
   have hle:=Nat.le_of_ble_eq_true hb.2
   obtain ⟨r,⟨_,hr⟩,hs⟩:=hs.h
   have hr:rows[k]?=some r:=hr
   simp only [eJ,dF,aD] at hs
   obtain ⟨_,s,hs1,he⟩:=hsl
   obtain ⟨v',hv',hs'⟩:=h.at hd
   have hrep:=hs'.1.obj_cell hcc hs1
   obtain ⟨b,cap,cur,e,rfl,rfl,g⟩:=zF7 hrep he hr
   have hev:a.eval (.tmp u)=.pointer (some ⟨b,k * sz+j,none⟩):=by simp [Act.eval,Array.getD_eq_getD_getElem?,hv]
   obtain ⟨q,hq⟩:=h.eval v
   have hc:=CR.of hq hvs
   obtain ⟨h1,hbt,CUR,g'⟩:=g.store h.wf (by simp) hr hc hle
   refine uT hT ht hn hev rfl hc.len hc.one g.heap h1 ?_
   refine hK _ S _ a hs hbt.tr (h.reownC hbt g.own hd (fun y hy => ?_) (fun t=>bG))
   rw [hs1] at hy
   cases hy
   have:=Rep.own g'
   rwa [List.length_set] at this
  ·exact hs.elim
 ·exact hs.elim
theorem zBE {d:D} (h:off < cs.length):cs.take off ++ [d]++cs.drop (off+1)=cs.set off d:=by
 rw [List.set_eq_take_append_cons_drop,if_pos h]
 simp
theorem zE3 (hT:TOk P T Z) {fr:List D} {v:Operand} {s m sz:Nat} (h:FR S w a fr) {e0 sz0 by0:Nat} {zc0:List Value} (ht:T ty0=some (.sl e0 sz0 by0 zc0))
  (hx:objAt fr x=some (u,off)) (hr:jW fr v=some s) (hd:fr[u]?=some (.obj cs)) (hsl:fr[s]?=some (.sl (m+1) sz rows)) (hlt:off < cs.length)
  (hs:K ((zB4 u off 1 ((fr.map (bI s .any)).set s .any)).set u (.obj (cs.set off (.sl (m+1) sz rows))))):StepOk P S w a (Oper.mk none (.store ty0 x v) ty pos after guard) K:=by
 intro K' Q hK
 obtain ⟨cs0,hd0,hev⟩:=h.objAt hx
 have hv:=gK h hr
 have hus:u ≠ s:=fun e=>by subst e;rw [hd] at hsl;cases hsl
 obtain ⟨S1,v',t1,t2,f1,r1⟩:=h.take ⟨u+2,[off]⟩ hsl
 obtain rfl:v'=a.eval v:=Option.some.inj (t2.symm.trans hv)
 have hd1:((fr.map (bI s .any)).set s .any)[u]?=some (.obj cs):=by
  rw [List.getElem?_set_ne (Ne.symm hus),List.getElem?_map,hd]
  rfl
 -- the object stays where it is
 obtain ⟨vo,hvo,hso⟩:=h.at hd
 obtain ⟨b0,_,_,hvo0,hbo0,hloc0,_⟩:=hso.1.obj_inv
 have f2:=f1.recell hd1 off (r0:=.any) (fun _ _=>.fz (.any _)) (fun t ht=>by cases ht)
 have hd2:((((fr.map (bI s .any)).set s .any)).set u (.obj (cs.set off .any)))[u]?=some (.obj (cs.set off .any)):=List.getElem?_set_self (by
  have:=(bC hd)
  simpa using this)
 have one:(a.eval v).oneCell'=true:=by
  rcases r1.sl_inv with ⟨e,_⟩|⟨b,cap,cur,e,e',_⟩
  ·rw [e];rfl
  ·rw [e'];rfl
 have hcells:(a.eval v).cells.toList = [a.eval v]:=by
  rcases r1.sl_inv with ⟨e,_⟩|⟨b,cap,cur,e,e',_⟩
  ·rw [e];rfl
  ·rw [e'];rfl
 have hc:CR S1.lim w [a.eval v] [D.any]:=⟨rfl,fun u hu=>by simp only [List.mem_singleton] at hu;subst hu;exact one,fun j d u hj hu=>by
  match j,hj with
  |0,hj=>cases hj;exact .any _
  | j+1,hj=>simp at hj⟩
 obtain ⟨b,cur,e,hb',hloc,hh,hsz,htr,f3⟩:=f2.storeObj (off:=off) hd2 hc (by simp;omega)
 have hevS:a.eval x=.pointer (some ⟨b,off,none⟩):=by
  rw [hev,hloc0]
  congr 3
  obtain ⟨vo1,hvo1,hso1⟩:=f1.at hd1
  obtain ⟨b1,_,_,hvo1',_,hloc1,_⟩:=hso1.1.obj_inv
  have e1:vo1=vo:=Option.some.inj (hvo1.symm.trans hvo)
  rw [hvo1',hvo0] at e1
  have:b1=b0:=by cases e1;rfl
  rw [← this,← hloc1,hloc]
 refine sG (n:=1) (by rw [(hT.ty _ _ ht).sz];rfl) hevS hcells rfl (fun u hu=>by simp only [List.mem_singleton] at hu;subst hu;exact one) hh (by rw [← hsz];simp;omega) ?_
 have hlen1 : [D.any].length=1:=rfl
 rw [hlen1] at htr f3
 rw [zBE (by simpa using hlt),List.set_set] at f3
 -- what the cell holds now
 have hd3:(((((fr.map (bI s .any)).set s .any)).set u (.obj (cs.set off .any))).map (mI u off 1)).set u (.obj (cs.set off .any))=(zB4 u off 1 ((fr.map (bI s .any)).set s .any)).set u (.obj (cs.set off .any)):=by
  rw [wW,List.map_set,List.set_set]
 rw [hd3] at f3
 have hul:u < (zB4 u off 1 ((fr.map (bI s .any)).set s .any)).length:=by
  have:=(bC hd)
  rw [wW]
  simpa using this
 obtain ⟨hCs,hcell⟩:=zH1 (cur:=cur) (us := [a.eval v]) (off:=off) (n:=1) rfl (by rw [← hsz];simp;omega)
 have hheap:(w.setRow b (cur.toList.take off ++ [a.eval v]++cur.toList.drop (off+1)).toArray).heap[b]?=some (.cells (cur.toList.take off ++ [a.eval v]++cur.toList.drop (off+1)).toArray e (0,0)):=setRow_heap w b cur _ e (0,0) hh
 have f4:=f3.recell (List.getElem?_set_self hul) off (r0:=.sl (m+1) sz rows) (fun y hy => ?_) (fun t=>bG)
 ·rw [List.set_set,List.set_set] at f4
  exact hK _ S1 _ a hs (t1.trans htr) f4
 ·rw [hloc,cell_of_row _ b _ _ e (0,0) hheap,hcell,if_neg (by omega),if_pos (by omega),Nat.sub_self] at hy
  cases hy
  refine r1.trans f1.wf htr rfl (fun k q l hs hu=>⟨setRow_other w b k _ (fun e => ?_),hs⟩) (fun _=>rfl) fun t ht=>by cases ht
  subst e
  rw [hb'] at hs
  cases hs
  obtain ⟨_,l',hl⟩:=hu
  simp [Place.slot] at hl
theorem lB {t:Nat} {v:Value} (hv:a.tmps[t]?=some v):a.eval (.tmp t)=v:=by simp [Act.eval,Array.getD_eq_getD_getElem?,hv]
theorem zGg:∀ {cs:List D} {off:Nat},zLQ cs=some off→∃ s,cs[off]?=some (.al s)
 |[],_,h=>by cases h
 |d::r,off,h=>by
  cases d with
  |al s=>cases h;exact ⟨s,rfl⟩
  |_=>
   simp only [zLQ] at h
   split at h
   ·rename_i k hk
    cases h
    obtain ⟨s,hs⟩:=zGg hk
    exact ⟨s,by simpa using hs⟩
   ·cases h
def zCK (v:Value):D→D
 |.al _=>.pv v
 |d=>d
theorem yC {v:Value} {d:D} (h:d.one=true):zCK v d=d:=by cases d<;>first|rfl|cases h
theorem zEG {v:Value} (h:cs.all D.one=true):cs.map (zCK v)=cs:=by
 have:∀ d ∈ cs,zCK v d=id d:=fun d hd=>yC (List.all_eq_true.1 h d hd)
 rw [List.map_congr_left this,List.map_id]
theorem uF (f:D→D) {pl:List (Nat × Nat)}:∀ (parts:List (Nat × Option (List D))) (cells cs:List D),lA pl cells parts=some cs→lA pl (cells.map f) (parts.map fun x=>(x.1,x.2.map (List.map f)))=some (cs.map f)
 |[],cells,cs,h=>by
  simp only [lA,Option.some.injEq] at h
  subst h
  rfl
 |(i,none)::r,cells,cs,h=>by simp [lA] at h
 |(i,some ds)::r,cells,cs,h=>by
  simp only [lA,List.map_cons,Option.map_some] at h ⊢
  cases hp:pl[i]? with
  |none=>rw [hp] at h;cases h
  |some y=>
   obtain ⟨off,sz⟩:=y
   rw [hp] at h
   simp only at h ⊢
   split at h
   ·rename_i hc
    have:=uF f r _ cs h
    rw [if_pos (by simpa using hc)]
    simpa only [List.map_append,List.map_take,List.map_drop] using this
   ·cases h
theorem zG5 (u v:Value) (hu:u.oneCell'=true):zCK v (nH u)=nH u:=by
 unfold nH
 split<;>rfl
theorem zGq {v:Value} {zc:List Value} (h:zc.all Value.oneCell'=true):(cX zc).map (zCK v)=cX zc:=by
 unfold cX
 rw [List.map_map]
 exact List.map_congr_left fun u hu=>zG5 u v (List.all_eq_true.1 h u hu)
theorem zD0 {v:Value} {d:D} {ds:List D} (h:d.cellsOf=some ds):ds.map (zCK v)=ds:=by
 unfold D.cellsOf at h
 split at h
 ·split at h
  ·rename_i hc
   cases h
   exact zEG hc
  ·cases h
 ·split at h
  ·cases h;rfl
  ·cases h
 ·split at h
  ·rename_i ho
   cases h
   rw [List.map_cons,List.map_nil,yC ho]
  ·cases h
theorem FR.takeA {fr:List D} (h:FR S w a fr) {x m sz:Nat} (p:Place) (hd:fr[x]?=some (.agg cs)) (ho:cs[off]?=some (.sl (m+1) sz rows)) (hone:(cs.set off .nil).all D.one=true):
  ∃ S' vs v,Trans S w S' w∧a.tmps[x]?=some (.agg (List.toArray vs))∧vs.length=cs.length∧(∀ u:Value,u ∈ vs→u.oneCell'=true)∧vs[off]?=some v∧FR S' w a ((fr.map (bI x .any)).set x .any)∧(∀ (j:Nat) (d:D) (u:Value),j ≠ off→cs[j]?=some d→vs[j]?=some u→Fz S'.lim w u d)∧Rep S' w p v (.sl (m+1) sz rows):=by
 obtain ⟨va,hva,hs⟩:=h.at hd
 obtain ⟨vs,rfl,hl,h1,ih⟩:=hs.1.agg_inv
 have hlt:off < vs.length:=by rw [hl];exact (bC ho)
 have hv:vs[off]?=some vs[off]:=List.getElem?_eq_getElem hlt
 have hf:∀ (j:Nat) (d:D) (u:Value),j ≠ off→cs[j]?=some d→vs[j]?=some u→Fz S.lim w u d:=fun j d u hj hd hu=>by
  have hod:d.one=true:=List.all_eq_true.1 hone d (aK (by rw [List.getElem?_set_ne (Ne.symm hj)];exact hd))
  exact D.one_fz (ih j d u hd hu) hod
 rcases (ih off _ _ ho hv).sl_inv with ⟨e,rfl⟩|⟨b,cap,cur,e,e',g⟩
 ·exact ⟨S,vs,_,Trans.refl S w,hva,hl,h1,hv,h.forget hd rfl,hf,by rw [e];exact .fz (.slNil _ _)⟩
 ·have hb:BT S w (S.set b (some (p,if m+1=2 then 0 else rows.length * sz))) w b:=BT.ghost h.wf g.own (by simp [Place.at,Place.slot]) (fun y hy=>by cases hy;simp)
  refine ⟨_,vs,_,hb.tr,hva,hl,h1,hv,h.rebuild hb g.own rfl hd rfl (fun v' p hv'=>.fz (.any _)) (fun t ht=>by cases ht) (fun v' hv'=>.fz (.any _)) (fun t ht=>by cases ht),fun j d u hj hd hu=>(hf j d u hj hd hu).trans hb.tr,?_⟩
  rw [e']
  refine .own ⟨g.mode,g.heap,g.le,g.max,g.size,g.each,by rw [S.set_at],fun k r j d k1 k2 => ?_⟩
  obtain ⟨x,x1,x2,x3⟩:=g.cells k r j d k1 k2
  exact ⟨x,x1,x2,x3.trans hb.tr⟩
theorem zDA (hT:TOk P T Z) {fr:List D} {x m sz:Nat} {ti:TI} {cs0:List D} (h:FR S w a fr) (ht:T ty0=some ti)
  (hd:fr[x]?=some (.agg cs)) (ho:cs[off]?=some (.sl (m+1) sz rows)) (hu:fr[u]?=some (.obj cs0)) (hn:ti.cells=cs.length) (hl0:cs0.length=cs.length) (hone:(cs.set off .nil).all D.one=true)
  (hs:K ((zB4 u 0 cs.length ((fr.map (bI x .any)).set x .any)).set u (.obj (cs.set off (.sl (m+1) sz rows))))):StepOk P S w a (Oper.mk none (.store ty0 (.tmp u) (.tmp x)) ty pos after guard) K:=by
 intro K' Q hK
 have hux:u ≠ x:=fun e=>by subst e;rw [hd] at hu;cases hu
 obtain ⟨S1,vs,v,t1,hva,hl,h1,hv,f1,hf,r1⟩:=h.takeA ⟨u+2,[off]⟩ hd ho hone
 have hlt:off < cs.length:=(bC ho)
 have hd1:((fr.map (bI x .any)).set x .any)[u]?=some (.obj cs0):=by
  rw [List.getElem?_set_ne (Ne.symm hux),List.getElem?_map,hu]
  rfl
 have hc:CR S1.lim w vs (cs.set off .any):=⟨by rw [List.length_set];exact hl,h1,fun j d u hj hu=>by
  by_cases e:j=off
  ·subst e
   rw [List.getElem?_set_self hlt] at hj
   cases hj
   exact .any _
  ·rw [List.getElem?_set_ne (Ne.symm e)] at hj
   exact hf j d u e hj hu⟩
 have hl2:(cs.set off .any).length=cs.length:=List.length_set
 obtain ⟨b,cur,e,hb',hloc,hh,hsz,htr,f3⟩:=f1.storeObj (off:=0) hd1 hc (by rw [hl2];omega)
 obtain ⟨vo,hvo,hso⟩:=f1.at hd1
 obtain ⟨b1,_,_,hvo',_,hloc1,_⟩:=hso.1.obj_inv
 have hev:a.eval (.tmp u)=.pointer (some ⟨b,0,none⟩):=by rw [lB hvo,hvo',← hloc1,hloc]
 have hx:a.eval (.tmp x)=.agg (List.toArray vs):=lB hva
 refine sG (n:=cs.length) (by rw [(hT.ty _ _ ht).sz,hn]) hev (us:=vs) (by rw [hx];rfl) hl h1 hh (by omega) ?_
 rw [hl2] at htr f3
 have hfull:cs0.take 0++cs.set off .any++cs0.drop (0+cs.length)=cs.set off .any:=by
  rw [List.take_zero,List.nil_append,Nat.zero_add,List.drop_of_length_le (by omega),List.append_nil]
 rw [hfull] at f3
 have hul:u < (((fr.map (bI x .any)).set x .any).map (mI u 0 cs.length)).length:=by
  have:=(bC hu)
  simpa using this
 have f4:=f3.recell (List.getElem?_set_self hul) off (r0:=.sl (m+1) sz rows) (fun y hy => ?_) (fun t=>bG)
 ·rw [List.set_set,List.set_set,← wW] at f4
  exact hK _ S1 _ a hs (t1.trans htr) f4
 ·have hcl:(cur.toList.take 0++vs++cur.toList.drop (0+cs.length))=vs:=by
   rw [List.take_zero,List.nil_append,Nat.zero_add,List.drop_of_length_le (by rw [Array.length_toList];omega),List.append_nil]
  have hheap:(w.setRow b (cur.toList.take 0++vs++cur.toList.drop (0+cs.length)).toArray).heap[b]?=some (.cells (cur.toList.take 0++vs++cur.toList.drop (0+cs.length)).toArray e (0,0)):=setRow_heap w b cur _ e (0,0) hh
  rw [hloc,cell_of_row _ b _ _ e (0,0) hheap,hcl] at hy
  have hy':vs[off]?=some y:=by simpa using hy
  rw [hv] at hy'
  cases hy'
  refine r1.trans f1.wf htr rfl (fun k q l hs hu=>⟨setRow_other w b k _ (fun e => ?_),hs⟩) (fun _=>rfl) fun t ht=>by cases ht
  subst e
  rw [hb'] at hs
  cases hs
  obtain ⟨_,l',hl⟩:=hu
  simp [Place.slot] at hl
theorem zKG {fr:List D} (h:zD3 fr u off=true):∃ cs d,fr[u]?=some (.obj cs)∧cs[off]?=some d:=by
 unfold zD3 at h
 split at h
 ·rename_i cs hd
  split at h
  ·rename_i d hc
   exact ⟨cs,d,hd,hc⟩
  ·cases h
 ·cases h
def TI.isOne:TI→Bool
 |.st _ _ _=>false
 |_=>true
theorem TFact.one' {P:Program} {t:Nat} {i:TI} (h:TFact P t i) (hn:i.isOne=true):TOne P t:=h.one fun n fl ks e=>by subst e;cases hn
theorem kS (hT:TOk P T Z) {fr:List D} {x:Nat} {i:TI} (h:FR S w a fr) (ht:T ty0=some i) (hi:i.isOne=true) (hx:objAt fr (.tmp x)=some (u,off)) (hc:zD3 fr u off=true) (hs:bS fr dst (.alc u off) K):
  StepOk P S w a (Oper.mk dst (.load ty0 (.tmp x)) ty pos after guard) K:=by
 intro K' Q hK
 obtain ⟨cs,d,hd,hcs⟩:=zKG hc
 obtain ⟨_,_,hev⟩:=h.objAt hx
 obtain ⟨y,hy,_,_,hn⟩:=h.nameC hd hcs
 haveI:=(hT.ty _ _ ht).one' hi
 obtain ⟨fr',k1,k2⟩:=fH (dst:=dst) (v:=y) (d:=.alc u off) h rfl (fun t _=>hn t) hs
 exact fB hev hy (hK fr' S w _ k1 (Trans.refl S w) k2)
theorem zJ {s v:Value} {sz k j:Nat} (h:zAe s sz k j v):∃ b,v=.pointer (some ⟨b,k * sz+j,none⟩)∧zAe s sz k (j+off) (.pointer (some ⟨b,k * sz+j+off,none⟩)):=by
 obtain ⟨b,l,c,hs,rfl⟩:=h
 exact ⟨b,rfl,b,l,c,hs,by rw [Nat.add_assoc]⟩
theorem qG (hT:TOk P T Z) {fr:List D} {v:Operand} (h:FR S w a fr) (hs:wN T ty0 u v fr K):StepOk P S w a (Oper.mk none (.store ty0 (.tmp u) v) ty pos after guard) K:=by
 unfold wN at hs
 split at hs
 ·rename_i x sz k j hd
  obtain ⟨v0,hv0,hsl⟩:=h.at hd
  split at hs
  ·rename_i sz' rows hdx
   split at hs
   ·rename_i he
    obtain rfl:=Nat.eq_of_beq_eq_true he
    exact zAh hT h hv0 hsl hdx hs
   ·exact hs.elim
  ·exact hs.elim
 ·rename_i x c sz k j hd
  obtain ⟨v0,hv0,hsl⟩:=h.at hd
  split at hs
  ·rename_i cs hdx
   split at hs
   ·rename_i sz' rows hc
    split at hs
    ·rename_i he
     obtain rfl:=Nat.eq_of_beq_eq_true he
     exact zAi hT h hv0 hsl hdx hc hs
    ·exact hs.elim
   ·exact hs.elim
  ·exact hs.elim
 ·exact hs.elim
theorem zFk (hT:TOk P T Z) {fr:List D} {o2:Oper} (h:FR S w a fr) (hs:zN3 T Z o o2 fr K) {r:List Oper} (hg:o.guard=none)
  (hK:∀ fr' S' w' a',K fr'→Trans S w S' w'→FR S' w' a' fr'→wpList P ops Q r a' w'):wpList P ops Q (o::o2::r) a w:=by
 unfold zN3 at hs
 split at hs
 ·rename_i ty parts t ty2 t2 t3 hop hdst hop2 hdst2 hg2
  split at hs
  ·rename_i htt
   obtain rfl:=Nat.eq_of_beq_eq_true htt
   split at hs
   ·rename_i n0 fl ks zc hty hz
    split at hs
    ·rename_i hzc
     split at hs
     ·rename_i cs hf
      split at hs
      ·rename_i hok
       simp only [Bool.and_eq_true] at hok
       obtain ⟨hnd,hown⟩:=zNF hok.1
       rw [aD] at hs
       split at hs
       ·rename_i d0 h0
        split at hs
        ·rename_i ho0
         rw [aD] at hs
         split at hs
         ·rename_i d3 h3
          split at hs
          ·rename_i hb3
           simp only [Bool.or_eq_false_iff] at hb3
           simp only [eJ,dF,aD] at hs
           obtain ⟨dst,op,oty,pos,after,guard⟩:=o
           obtain ⟨dst2,op2,oty2,pos2,after2,guard2⟩:=o2
           simp only at hop hdst hop2 hdst2 hg hg2
           subst hop;subst hdst;subst hop2;subst hdst2
           obtain ⟨S1,t1,f1,l1,k1,m1⟩:=zFr t3 (zAa 0 cs) h hown hnd
           haveI:=(hT.ty _ _ hty).2.2.1
           haveI:=hT.zer _ _ hz
           have hf':=uF (zAl a) _ _ _ hf
           rw [zEe] at hf'
           obtain ⟨us,h1,h2⟩:=kZ (S:=S1) (w:=w) (parts.toList.map fun x=>(x.1,a.eval x.2)) _ zc (cX zc) _ hf' (CR.zero hzc) (by simp) (fun j x y hx hy=>by
            rw [List.getElem?_map] at hx
            rw [List.getElem?_map,List.getElem?_map] at hy
            cases hp:parts.toList[j]? with
            |none=>rw [hp] at hx;cases hx
            |some z=>
             rw [hp] at hx hy
             cases hx;cases hy
             refine ⟨rfl,fun ds hd => ?_⟩
             obtain ⟨i,x⟩:=z
             simp only [Option.map_eq_some_iff] at hd
             obtain ⟨ds0,hd0,rfl⟩:=hd
             have gen:(bD fr x).cellsOf=some ds0→CR S1.lim w (a.eval x).cells.toList (ds0.map (zAl a)):=fun g=>by
              rw [zB7 g]
              obtain ⟨q,hq⟩:=h.eval x
              have hc:=CR.of hq g
              exact ⟨hc.len,hc.one,fun j d u hd hu=>(hc.fz j d u hd hu).trans t1⟩
             cases x with
             |tmp y=>
              simp only [zL0] at hd0
              split at hd0
              ·rename_i e he
               split at hd0
               ·rename_i hoe
                cases hd0
                obtain ⟨v,hv,hsl⟩:=h.at he
                have hcv:v.oneCell'=true∧v.cells.toList = [v]:=by
                 obtain ⟨_,v',_,hv',g1,g2,_⟩:=h.takeX .dead he hoe
                 obtain rfl:v=v':=Option.some.inj (hv.symm.trans hv')
                 exact ⟨g1,g2⟩
                show CR S1.lim w (a.eval (.tmp y)).cells.toList [.pv ((a.tmps[y]?).getD undef)]
                rw [lB hv,hcv.2,hv]
                refine ⟨rfl,fun u hu => ?_,fun j d u hj hu => ?_⟩
                ·simp only [List.mem_singleton] at hu;subst hu;exact hcv.1
                ·match j,hj,hu with
                 |0,hj,hu=>cases hj;cases hu;exact .pv _
                 |j+1,hj,_=>simp at hj
               ·exact gen hd0
              ·cases hd0
             |const c=>exact gen hd0
             |global g=>exact gen hd0
             | func g=>exact gen hd0)
           have hlen:us.length=cs.length:=by rw [h2.len,List.length_map]
           refine wpList_plain hg fun K1 hK1 => ?_
           have:=zBI (P:=P) (dst:=some t) (ty:=oty) (pos:=pos) (after:=after) (guard:=guard) (Q:=Q) (K:=K1) (t:=ty) (parts:=parts.toList) (a:=a) (w:=w) rfl h1 (hK1 _ _ ?_)
           ·simpa using this
           ·have f2:=f1.put (v:=.agg us.toArray) (d:=.any) (PT.refl f1.wf) h0 ho0 (.fz (.any _)) (fun t ht=>by cases ht)
            have htl:t < a.tmps.size:=by rw [f1.size];exact (bC h0)
            refine wpList_plain hg2 fun K2 hK2=>zCE (v:=.agg us.toArray) (lB (gL htl)) fun g w' hb' hx hgs=>hK2 _ _ ?_
            have hbu:Blk w' g ty2 us.toArray:=hb'
            obtain ⟨S2,⟨t2,f3⟩,own2,loc2,locg⟩:=f2.allocObjX (fun e=>by subst e;simp at hb3) h3 hb3.1 hbu hx hgs h2
            have hlt3:t3 < ((zB6 (zAa 0 cs) fr).set t .any).length:=(bC h3)
            have f4:=f3.recellAll (u:=t3) (cs':=cs.map (vW fr)) (List.getElem?_set_self hlt3) (by simp) (fun i d' x hd hxc => ?_) (fun d' hd t hm => ?_)
            ·rw [List.set_set] at f4
             exact hK _ S2 w' _ hs (t1.trans t2) f4
            ·obtain ⟨c,hc,rfl⟩:=yI hd
             have hil:i < us.length:=by rw [hlen];exact (bC hc)
             rw [locg,cell_of_row w' g _ _ ty2 (0,0) hbu] at hxc
             have hxc:us[i]?=some x:=by simpa using hxc
             have hfz:=h2.fz i (zAl a c) x (by rw [List.getElem?_map,hc];rfl) hxc
             have hoa:=List.all_eq_true.1 hok.2 c (aK hc)
             have one:c.one=true→Rep S2 w' ⟨t3+2,[i]⟩ x (vW fr c):=fun ho=>by
              rw [yB ho] at hfz
              have e:vW fr c=c:=by cases c<;>first|rfl|cases ho
              rw [e]
              exact .fz (hfz.trans t2)
             cases c with
             |al y=>
              have hm:=uL (k:=0) hc
              rw [Nat.zero_add] at hm
              obtain ⟨d,v,g1,g2,g3,g4,g5,g6⟩:=m1 _ hm
              simp only at g1 g3 g6
              have e:vW fr (.al y)=d:=by simp [vW,g1]
              rw [e]
              simp only [zAl,g3,Option.getD_some] at hfz
              obtain rfl:x=v:=by cases hfz;rfl
              refine g6.trans f2.wf t2 (loc2 0 (by omega)) (fun b q l hb hu=>⟨hx.block (f2.wf _ _ hb),by rw [own2 b (f2.wf _ _ hb)];exact hb⟩) (fun e=>by cases e) fun x hm=>(nX g2 hm).elim
             |_=>exact one hoa
            ·obtain ⟨c,hc,rfl⟩:=List.mem_map.1 hd
             have hoa:=List.all_eq_true.1 hok.2 c hc
             cases c with
             |al y=>
              obtain ⟨i,hi⟩:=List.mem_iff_getElem?.1 hc
              have hmm:=uL (k:=0) hi
              obtain ⟨d,v,g1,g2,_⟩:=m1 _ hmm
              simp only at g1
              have e:vW fr (.al y)=d:=by simp [vW,g1]
              rw [e] at hm
              exact nX g2 hm
             |_=>
              cases hm<;>cases hoa
          ·exact hs.elim
         ·exact hs.elim
        ·exact hs.elim
       ·exact hs.elim
      ·exact hs.elim
     ·exact hs.elim
    ·exact hs.elim
   ·exact hs.elim
  ·exact hs.elim
 ·exact hs.elim
theorem zFd (hT:TOk P T Z) {fr:List D} {x:Nat} {k:Operand} {c:Call} (h:FR S w a fr) (hc:c.callee=.builtin .delete) (hargs:c.args.toList = [.tmp x,k]) (hx:fr[x]?=some (.alc u off)) (hs:zNY T c.argTypes.toList u off k dst fr K):StepOk P S w a (Oper.mk dst (.call c) ty pos after guard) K:=by
 intro K' Q hK
 obtain ⟨callee,args,argTypes⟩:=c
 simp only at hc hargs hs
 subst hc
 obtain rfl:=zD8 hargs
 unfold zNY at hs
 split at hs
 ·rename_i ty0 kt0 h2
  obtain rfl:=zD8 h2
  split at hs
  ·rename_i kt et kd z cs ht hd
   haveI:=(hT.ty _ _ ht).1
   split at hs
   ·rename_i hkt
    obtain rfl:=Nat.eq_of_beq_eq_true hkt
    split at hs
    ·rename_i kd' es hcc
     split at hs
     ·rename_i kv hk
      split at hs
      ·rename_i hb
       simp only [Bool.and_eq_true] at hb
       obtain rfl:=pS hb.1
       simp only [eJ,dF,aD] at hs
       obtain ⟨v0,hv0,hsl⟩:=h.at hx
       obtain ⟨y,hy,_,hrep,_⟩:=h.nameC hd hcc
       obtain rfl:v0=y:=Option.some.inj (hsl.2.symm.trans hy)
       obtain ⟨b,clock,ents,rfl,hown,hh,he,hf⟩:=hrep.mp_inv
       obtain ⟨q1,r1⟩:=h.eval k
       refine zCD rfl (lB hv0) hh he.1 hf (pX r1 hk) hb.2 fun ents' clock' he' hst => ?_
       obtain ⟨t1,f1⟩:=h.setMapC (clock':=clock') hd hy hown hh ⟨he',hst he.2⟩ (zK hf)
       exact hK _ S _ a hs t1 f1
      ·exact hs.elim
     ·exact hs.elim
    ·exact hs.elim
   ·exact hs.elim
  ·exact hs.elim
 ·exact hs.elim
theorem zGD {M:Nat→Bool} {fr:List D} {x v:Nat} (h:zEs M fr x dst=some v):objAt fr (.tmp x)=some (v,0):=by
 unfold zEs at h
 split at h
 ·split at h
  ·split at h
   ·cases h;assumption
   ·cases h
  ·cases h
 ·cases h
theorem zEr {fr:List D} {x v:Nat} (h:FR S w a fr) (hx:objAt fr (.tmp x)=some (v,0)) (hs:zH6 fr v dst K):StepOk P S w a (Oper.mk dst (.assign (.tmp x)) ty pos after guard) K:=by
 intro K' Q hK
 obtain ⟨cs0,hd0,hev⟩:=h.objAt hx
 obtain ⟨p0,hp0,hsl0⟩:=h.at hd0
 obtain ⟨b,_,_,rfl,_,hloc,_⟩:=hsl0.1.obj_inv
 unfold zH6 at hs
 split at hs
 ·rename_i cs hd
  rw [aD] at hs
  obtain ⟨S1,t1,f1⟩:=vP v cs.length h
  split at hs
  ·rename_i cs1 hd1
   split at hs
   ·rw [aD] at hs
    have f2:=f1.wipe (zAu v) (zHM v)
    split at hs
    ·rename_i hsafe
     split at hs
     ·rename_i cs2 hd2
      split at hs
      ·rename_i hone
       rw [aD] at hs
       obtain ⟨S2,t2,f3⟩:=f2.freezeObj hd2 hone hsafe
       have hlt:v < ((zF0 v cs.length fr).map (zAu v)).length:=(bC hd2)
       obtain ⟨p,hp,hsl⟩:=f3.at (List.getElem?_set_self hlt)
       obtain rfl:p=.pointer (some ⟨b,0,none⟩):=Option.some.inj (hp.symm.trans hp0)
       have hfz:Fz S2.lim w (.pointer (some ⟨b,0,none⟩)) (.ptr cs2):=by
        have:=hsl.1
        cases this with
        |fz h=>exact h
       obtain ⟨fr',k1,k2⟩:=aH (dst:=dst) f3 (.fz hfz) (fun t ht=>(hfz.men ht).elim) hs
       exact jZ (by rw [hev,hloc]) (hK fr' S2 w _ k1 (t1.trans t2) k2)
      ·exact hs.elim
     ·exact hs.elim
    ·exact hs.elim
   ·exact hs.elim
  ·exact hs.elim
 ·exact hs.elim
theorem zFl {fr:List D} {t y m sz:Nat} {d3:D} {ty0:TypeId} (h:FR S w a fr)
  (hd:fr[y]?=some (.agg cs)) (ho:cs[off]?=some (.sl (m+1) sz rows)) (h3:fr[t]?=some d3) (ht0:t ≠ 0) (hno:d3.owns=false) (hty:t ≠ y) (hone:(cs.set off .nil).all D.one=true)
  (hs:K (((fr.map (bI y .any)).set y .any).set t (.obj (cs.set off (.sl (m+1) sz rows))))):StepOk P S w a (Oper.mk (some t) (.box ty0 (.tmp y)) ty pos after guard) K:=by
 intro K' Q hK
 obtain ⟨S1,vs,v,t1,hva,hl,h1,hv,f1,hf,r1⟩:=h.takeA ⟨t+2,[off]⟩ hd ho hone
 have hlt:off < cs.length:=(bC ho)
 have hc:CR S1.lim w vs (cs.set off .any):=⟨by rw [List.length_set];exact hl,h1,fun j d u hj hu=>by
  by_cases e:j=off
  ·subst e
   rw [List.getElem?_set_self hlt] at hj
   cases hj
   exact .any _
  ·rw [List.getElem?_set_ne (Ne.symm e)] at hj
   exact hf j d u e hj hu⟩
 have hx:a.eval (.tmp y)=.agg (List.toArray vs):=lB hva
 have h3':∃ d,((fr.map (bI y .any)).set y .any)[t]?=some d∧d.owns=false:=by
  rw [List.getElem?_set_ne (Ne.symm hty),List.getElem?_map,h3]
  refine ⟨_,rfl,?_⟩
  cases d3<;>first|exact hno|(simp only [bI];split<;>rfl)|rfl
 obtain ⟨d4,h4,hno4⟩:=h3'
 refine zCE hx fun g w' hb' hx' hgs => ?_
 have hbu:Blk w' g ty0 vs.toArray:=hb'
 obtain ⟨S2,⟨t2,f3⟩,own2,loc2,locg⟩:=f1.allocObjX ht0 h4 hno4 hbu hx' hgs hc
 have hlt3:t < ((fr.map (bI y .any)).set y .any).length:=(bC h4)
 have f4:=f3.recell (List.getElem?_set_self hlt3) off (r0:=.sl (m+1) sz rows) (fun u hu => ?_) (fun t=>bG)
 ·rw [List.set_set,List.set_set] at f4
  exact hK _ S2 w' _ hs (t1.trans t2) f4
 ·rw [locg,cell_of_row w' g _ _ ty0 (0,0) hbu] at hu
  have hu:vs[off]?=some u:=by simpa using hu
  rw [hv] at hu
  cases hu
  exact r1.trans f1.wf t2 (loc2 0 (by omega)) (fun b q l hb hu=>⟨hx'.block (f1.wf _ _ hb),by rw [own2 b (f1.wf _ _ hb)];exact hb⟩) (fun e=>by cases e) fun x hm=>(bG hm).elim
theorem gJ (hT:TOk P T Z) {fr:List D} (h:FR S w a fr) (hs:xK P T Z M o fr K):StepOk P S w a o K:=by
 have base:fV P T Z M o fr K→StepOk P S w a o K:=fun h'=>uU hT h h'
 obtain ⟨dst,op,ty,pos,after,guard⟩:=o
 unfold xK at hs
 simp only at hs
 split at hs
 ·split at hs
  ·exact (eA h hs).1
  ·exact (eA h hs).1
  ·exact (eA h hs).1
  ·exact base hs
 ·split at hs
  ·exact (eA h hs).2
  ·exact (eA h hs).2
  ·exact (eA h hs).2
  ·split at hs
   ·rename_i hsl
    exact zEr h (zGD hsl) hs
   ·exact base hs
 ·split at hs
  ·rename_i x sz k j hd
   split at hs
   ·rename_i ht
    split at hs
    ·rename_i off n ag hf
     haveI:=(hT.ty _ _ ht).2.1 _ _ _ _ hf
     split at hs
     ·rename_i t
      split at hs
      ·rename_i hne
       have hne':x ≠ t:=fun e=>by subst e;simp at hne
       obtain ⟨v,hv,hsl⟩:=h.at hd
       obtain ⟨⟨d',g1,g2,_⟩,s,g3,g4⟩:=hsl
       obtain ⟨b,rfl,g5⟩:=zJ (off:=off) g4
       obtain ⟨fr',k1,k2⟩:=fH (dst:=some t) (d:=.es x sz k (j+off)) h rfl (fun t' e=>by cases e;exact ⟨⟨d',g1,g2,hne'⟩,s,g3,g5⟩) hs
       exact fun K' Q hK=>bP (lB hv) (hK fr' S w _ k1 (Trans.refl S w) k2)
      ·exact hs.elim
     ·exact hs.elim
    ·exact hs.elim
   ·exact hs.elim
  ·rename_i x c sz k j hd
   split at hs
   ·rename_i ht
    split at hs
    ·rename_i off n ag hf
     haveI:=(hT.ty _ _ ht).2.1 _ _ _ _ hf
     obtain ⟨v,hv,hsl⟩:=h.at hd
     obtain ⟨g1,s,g3,g4⟩:=hsl
     obtain ⟨b,rfl,g5⟩:=zJ (off:=off) g4
     obtain ⟨fr',k1,k2⟩:=fH (dst:=dst) (d:=.el x c sz k (j+off)) h rfl (fun t' e=>(⟨g1,s,g3,g5⟩:SlotRep S w a fr t' _ (.el x c sz k (j+off)))) hs
     exact fun K' Q hK=>bP (lB hv) (hK fr' S w _ k1 (Trans.refl S w) k2)
    ·exact hs.elim
   ·exact hs.elim
  ·exact base hs
 ·split at hs
  ·rename_i x sz k j hd
   split at hs
   ·rename_i sz' rows hr
    split at hs
    ·rename_i he
     obtain rfl:=Nat.eq_of_beq_eq_true he
     obtain ⟨v,hv,hsl⟩:=h.at hd
     obtain ⟨s,m,q,h1,h2⟩:=zH9 h hsl hr
     exact vH hT h hv h1 h2 hs
    ·exact hs.elim
   ·exact hs.elim
  ·rename_i x c sz k j hd
   split at hs
   ·rename_i sz' rows hr
    split at hs
    ·rename_i he
     obtain rfl:=Nat.eq_of_beq_eq_true he
     obtain ⟨v,hv,hsl⟩:=h.at hd
     obtain ⟨s,m,q,h1,h2⟩:=zIa h hsl hr
     exact vH hT h hv h1 h2 hs
    ·exact hs.elim
   ·exact hs.elim
  ·rename_i x off hd
   split at hs
   ·rename_i hc
    split at hs
    ·rename_i ht;exact kS hT h ht rfl (by simp only [objAt,hd]) hc hs
    ·rename_i ht;exact kS hT h ht rfl (by simp only [objAt,hd]) hc hs
    ·exact base hs
   ·exact base hs
  ·rename_i cs hd
   split at hs
   ·rename_i hc
    split at hs
    ·rename_i ht;exact kS hT h ht rfl (by simp only [objAt,hd]) hc hs
    ·rename_i ht;exact kS hT h ht rfl (by simp only [objAt,hd]) hc hs
    ·exact base hs
   ·exact base hs
  ·exact base hs
 ·rename_i ty0 u v
  split at hs
  ·split at hs
   ·rw [aD] at hs
    obtain ⟨S1,t1,h1⟩:=dV h v
    exact (qG hT h1 hs).ghost t1
   ·exact hs.elim
  ·split at hs
   ·rw [aD] at hs
    obtain ⟨S1,t1,h1⟩:=dV h v
    exact (qG hT h1 hs).ghost t1
   ·exact hs.elim
  ·split at hs
   ·split at hs
    ·have giveA_case:zKj T ty0 u v fr K (fV P T Z M (Oper.mk none (.store ty0 (.tmp u) v) ty pos after guard) fr K)→StepOk P S w a (Oper.mk none (.store ty0 (.tmp u) v) ty pos after guard) K:=fun hs=>by
      unfold zKj at hs
      split at hs
      ·rename_i x
       split at hs
       ·rename_i cs hd
        split at hs
        ·split at hs
         ·rename_i ho
          split at hs
          ·rename_i hu
           split at hs
           ·rename_i ti ht
            split at hs
            ·rename_i hb
             simp only [Bool.and_eq_true] at hb
             simp only [aD,eJ,dF] at hs
             exact zDA hT h ht hd ho hu (Nat.eq_of_beq_eq_true hb.1) (Nat.eq_of_beq_eq_true hb.2.1) hb.2.2 hs
            ·exact hs.elim
           ·exact hs.elim
          ·exact base hs
         ·exact base hs
        ·exact base hs
       ·exact base hs
      ·exact base hs
     unfold zM1 at hs
     split at hs
     ·rename_i hx hr
      split at hs
      ·rename_i hd
       split at hs
       ·rename_i hsl
        split at hs
        ·rename_i ht
         split at hs
         ·rename_i hlt
          have hlt:=Nat.lt_of_succ_le (Nat.le_of_ble_eq_true hlt)
          simp only [aD,eJ,dF] at hs
          exact zE3 hT h ht hx hr hd hsl hlt hs
         ·exact hs.elim
        ·exact hs.elim
       ·exact giveA_case hs
      ·exact giveA_case hs
     ·exact giveA_case hs
    ·exact base hs
   ·exact base hs
  ·exact base hs
 ·split at hs
  ·split at hs
   ·rename_i c hcal s xs hargs
    rw [aD] at hs
    obtain ⟨S1,t1,h1⟩:=zCm h s
    exact (uU hT h1 hs).ghost t1
   ·exact hs.elim
  ·rename_i c hcal
   split at hs
   ·rename_i hargs
    split at hs
    ·rename_i hx
     exact zFd hT h hcal hargs hx hs
    ·exact base hs
   ·exact base hs
  ·exact base hs
 ·unfold zPO at hs
  split at hs
  ·rename_i cs hd
   split at hs
   ·rename_i off hoff
    split at hs
    ·rename_i m sz rows t ho
     split at hs
     ·rename_i d3 h3
      split at hs
      ·rename_i hb
       simp only [Bool.and_eq_true] at hb
       simp only [aD,eJ,dF] at hs
       exact zFl h hd ho h3 (fun e=>by have:=hb.1;rw [e,Nat.beq_refl] at this;cases this) (by simpa using hb.2.1) (fun e=>by have:=hb.2.2.1;rw [e,Nat.beq_refl] at this;cases this) hb.2.2.2 hs
      ·exact hs.elim
     ·exact hs.elim
    ·exact base hs
   ·exact base hs
  ·exact base hs
 ·exact base hs
end
end Go.Proofs.YtnjgoldinaffgaaGreatDoor
