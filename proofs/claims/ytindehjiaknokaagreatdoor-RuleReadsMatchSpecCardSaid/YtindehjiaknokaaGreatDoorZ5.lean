/- Operations one after the other, on frames of data. A drawn region by all sets of operations that may have come so far: one frame a set. -/
import Derived.Test.YtindehjiaknokaaGreatDoorZ4
namespace Go.Proofs.YtindehjiaknokaaGreatDoor
set_option linter.unusedSimpArgs false
set_option linter.unusedVariables false
open Go.RowKit
variable {K:List D→Prop} {K':Act→World→Prop} {Q:Exit→Act→World→Prop} {S:Sig} {a:Act} {after:Array Edge} {cs:List D} {dst:Option Nat} {guard:Option (Nat × Bool)} {o:Oper} {off ty0 u:Nat} {ops:Array Oper} {pos:String} {rows:List (List D)} {ty:TypeId} {w:World} {x:Operand} {xs:List Operand}
def strip:D→D
 |.gd _ d=>d
 |d=>d
def forceL {α:Type}:List α→(List α→Prop)→Prop
 |[],K=>K []
 |x::l,K=>forceL l fun l=>K (x::l)
theorem forceL_eq {α:Type}:∀ (l:List α) (K:List α→Prop),forceL l K=K l
 |[],_=>rfl
 |x::l,K=>by rw [forceL,forceL_eq l]
def force1 (d:D) (K:D→Prop):Prop:=
 match d with
 |.any=>K .any
 |.int k n=>K (.int k n)
 |.bool b=>K (.bool b)
 |.str s=>K (.str s)
 |.pv v=>K (.pv v)
 |.nil=>K .nil
 |.sl m sz rows=>K (.sl m sz rows)
 |.ptr cs=>K (.ptr cs)
 |.obj cs=>K (.obj cs)
 |.ref t o=>K (.ref t o)
 |.gref c t o=>K (.gref c t o)
 |.al t=>K (.al t)
 |.alc t o=>K (.alc t o)
 |.el t o sz k j=>K (.el t o sz k j)
 |.es t sz k j=>K (.es t sz k j)
 |.fn f cs=>K (.fn f cs)
 |.gd c d=>K (.gd c d)
 |.agg cs=>K (.agg cs)
 |.tup ds=>K (.tup ds)
 |.mp kd es=>K (.mp kd es)
 |.nsl sz n z=>K (.nsl sz n z)
 |.nagg cs off sz n z=>K (.nagg cs off sz n z)
 |.fmp kd es=>K (.fmp kd es)
theorem force1_eq (d:D) (K:D→Prop):force1 d K=K d:=by cases d<;>rfl
def forceH:List D→(List D→Prop)→Prop
 |[],K=>K []
 |x::l,K=>force1 x fun x=>forceH l fun l=>K (x::l)
theorem forceH_eq:∀ (l:List D) (K:List D→Prop),forceH l K=K l
 |[],_=>rfl
 |x::l,K=>by rw [forceH,force1_eq,forceH_eq l]
def force (d:D) (K:D→Prop):Prop:=
 match d with
 |.ptr cs=>forceH cs fun cs=>K (.ptr cs)
 |.obj cs=>forceH cs fun cs=>K (.obj cs)
 |.fn f cs=>forceH cs fun cs=>K (.fn f cs)
 |.gd c (.bool b)=>K (.gd c (.bool b))
 |.gd c (.int k n)=>K (.gd c (.int k n))
 |.gd c (.agg cs)=>forceH cs fun cs=>K (.gd c (.agg cs))
 |.gd c (.ptr cs)=>forceH cs fun cs=>K (.gd c (.ptr cs))
 |.gd c d=>K (.gd c d)
 |.agg cs=>forceH cs fun cs=>K (.agg cs)
 |.tup ds=>forceH ds fun ds=>K (.tup ds)
 |d=>force1 d K
theorem force_eq (d:D) (K:D→Prop):force d K=K d:=by
 unfold force
 split<;>first|rfl|simp only [forceH_eq,force1_eq]
def putD (fr:List D) (dst:Option Nat) (d:D) (K:List D→Prop):Prop:=
 match dst with
 |none=>K fr
 |some t=>match fr[t]? with
  |some d0=>match d0.owns with
   |false=>force d fun d=>forceL (fr.set t d) K
   |true=>match d0.isObj with
    |false=>force d fun d=>forceL ((fr.map (unal t .any)).set t d) K
    |true=>False
  |none=>False
def down1 (fr:List D):Operand→List D
 |.tmp t=>match fr[t]? with
  |some (.al u)=>match fr[u]? with
   |some (.sl 2 sz rows)=>fr.set u (.sl 1 sz rows)
   |_=>fr
  |some (.sl 2 sz rows)=>fr.set t (.sl 1 sz rows)
  |some (.alc u off)=>match fr[u]? with
   |some (.obj cs)=>match cs[off]? with
    |some (.sl 2 sz rows)=>fr.set u (.obj (cs.set off (.sl 1 sz rows)))
    |_=>fr
   |_=>fr
  |_=>fr
 |_=>fr
def frz1 (fr:List D):Operand→List D
 |.tmp t=>match fr[t]? with
  |some (.al u)=>match fr[u]? with
   |some (.sl (_+1) sz rows)=>(fr.map (unal u (.sl 0 sz rows))).set u (.sl 0 sz rows)
   |_=>fr
  |some (.sl (_+1) sz rows)=>(fr.map (unal t (.sl 0 sz rows))).set t (.sl 0 sz rows)
  |some (.alc u off)=>match fr[u]? with
   |some (.obj cs)=>match cs[off]? with
    |some (.sl (_+1) sz rows)=>fr.set u (.obj (cs.set off (.sl 0 sz rows)))
    |_=>fr
   |_=>fr
  |_=>fr
 |_=>fr
def prep (o:Op) (fr:List D):List D:=
 match o with
 |.indexAddr _ x _=>down1 fr x
 |.call c=>match c.callee with
  |.value _=>c.args.toList.foldl down1 fr
  |_=>fr
 |.box _ x=>frz1 fr x
 |.slice _ x _ _ _=>frz1 fr x
 |.build _ parts=>parts.toList.foldl (fun fr x=>frz1 fr x.2) fr
 |.buildSlice _ _ parts=>parts.toList.foldl (fun fr x=>frz1 fr x.2) fr
 |_=>fr
def needsPrep:Op→Bool
 |.indexAddr _ _ _ | .box _ _ | .slice _ _ _ _ _ | .build _ _ | .buildSlice _ _ _=>true
 |.call _=>true
 |_=>false
def pureD (P:Program) (T:Nat→Option TI) (Z:Nat→Option (List Value)) (o:Oper) (fr:List D) (K:List D→Prop):Prop:=
 opD P T Z (evalD fr) o.op fun s d=>andO s (putD fr o.dst d K)
def pickR (dc:D) (x y:Operand) (ρ:Operand→D):Option (Option Prop × Bool):=
 match dc with
 |.bool p=>match y with
  |.const (.bool false)=>match ρ x with
   |.gd p' (.bool q)=>some (some (p=true→p'=true),p && q)
   |.bool q=>some (none,p && q)
   |_=>none
  |_=>match x with
   |.const (.bool true)=>match ρ y with
    |.gd p' (.bool q)=>some (some (p=false→p'=true),p || q)
    |.bool q=>some (none,p || q)
    |_=>none
   |_=>none
 |_=>none
def pickD (dc:D) (x y:Operand) (ρ:Operand→D) (K:Option Prop→D→Prop):Prop:=
 match pickR dc x y ρ with
 |some (s,r)=>K s (.bool r)
 |none=>False
theorem pickD_inv {dc:D} {y:Operand} {ρ:Operand→D} {K:Option Prop→D→Prop} (h:pickD dc x y ρ K):∃ s r,pickR dc x y ρ=some (s,r)∧K s (.bool r):=by
 unfold pickD at h
 split at h
 ·exact ⟨_,_,by assumption,h⟩
 ·exact h.elim
def rootOf (fr:List D):Operand→Option Nat
 |.tmp t=>match fr[t]? with
  |some (.al u)=>some u
  |some (.sl (_+1) _ _)=>some t
  |some (.mp _ _)=>some t
  |_=>none
 |_=>none
def rowsOf (sz:Nat):D→Option (Nat × List (List D))
 |.nil=>some (sz,[])
 |.sl _ s rows=>some (s,rows)
 |_=>none
def appendD (T:Nat→Option TI) (c:Call) (dst:Option Nat) (fr:List D) (K:List D→Prop):Prop:=
 match c.args.toList,c.argTypes.toList with
 |[s,x],[t,t']=>match T t with
  |some (.sl _ sz bytes _)=>match Nat.beq t t' && Nat.ble bytes 1000 with
   |true=>match rowsOf sz (evalD fr x) with
    |some (s2,rows2)=>match rootOf fr s with
     |some u=>match fr[u]? with
      |some (.sl 1 s1 rows)=>SideD (s1=sz∧s2=sz∧rows.length+rows2.length≤1000000000) (forceL ((fr.map (unal u .any)).set u .any) fun fr=>putD fr dst (.sl 1 sz (rows++rows2)) K)
      |some (.sl 2 s1 rows)=>SideD (s1=sz∧s2=sz∧rows.length+rows2.length≤1000000000) (forceL ((fr.map (unal u .any)).set u .any) fun fr=>putD fr dst (.sl 2 sz (rows++rows2)) K)
      |_=>False
     |none=>match evalD fr s with
      |.nil=>SideD (s2=sz∧rows2.length≤1000000000) (putD fr dst (.sl 2 sz rows2) K)
      |_=>False
    |none=>False
   |false=>match T t',evalD fr x,Nat.beq sz 1 && Nat.ble bytes 1000 with
    |some .str,.str txt,true=>match rootOf fr s with
     |some u=>match fr[u]? with
      |some (.sl 1 s1 rows)=>SideD (s1=1∧rows.length+txt.length≤1000000000) (forceL ((fr.map (unal u .any)).set u .any) fun fr=>putD fr dst (.sl 1 1 (rows++txt.map bR)) K)
      |some (.sl 2 s1 rows)=>SideD (s1=1∧rows.length+txt.length≤1000000000) (forceL ((fr.map (unal u .any)).set u .any) fun fr=>putD fr dst (.sl 2 1 (rows++txt.map bR)) K)
      |_=>False
     |none=>match evalD fr s with
      |.nil=>SideD (txt.length≤1000000000) (putD fr dst (.sl 2 1 (txt.map bR)) K)
      |_=>False
    |_,_,_=>False
  |_=>False
 |_,_=>False
def takeD (fr:List D) (u:Nat) (dst:Option Nat) (K:List D→Prop):Prop:=
 match fr[u]? with
 |some (.sl (m+1) sz rows)=>forceL ((fr.map (unal u .any)).set u .any) fun fr=>putD fr dst (.sl (m+1) sz rows) K
 |some (.mp kd es)=>forceL ((fr.map (unal u .any)).set u .any) fun fr=>putD fr dst (.mp kd es) K
 |_=>False
def updD (T:Nat→Option TI) (ty:Nat) (m k v:Operand) (dst:Option Nat) (fr:List D) (K:List D→Prop):Prop:=
 match dst with
 |some _=>False
 |none=>match T ty,rootOf fr m with
  |some (.mp _ _ kd _),some u=>match fr[u]? with
   |some (.mp kd' es)=>match (evalD fr k).keyV,(evalD fr v).keyV with
    |some kv,some vv=>match sameKD kd kd' && fitK kd kv with
     |true=>forceL (fr.set u (.mp kd (putV kv vv es))) K
     |false=>False
    |_,_=>False
   |_=>False
  |_,_=>False
def delD (T:Nat→Option TI) (c:Call) (dst:Option Nat) (fr:List D) (K:List D→Prop):Prop:=
 match dst,c.args.toList,c.argTypes.toList with
 |none,[m,k],[ty,kt]=>match T ty,rootOf fr m with
  |some (.mp kt' _ kd _),some u=>match Nat.beq kt kt' with
   |true=>match fr[u]? with
    |some (.mp kd' es)=>match (evalD fr k).keyV with
     |some kv=>match sameKD kd kd' && fitK kd kv with
      |true=>forceL (fr.set u (.mp kd (delV kv es))) K
      |false=>False
     |none=>False
    |_=>False
   |false=>False
  |_,_=>False
 |_,_,_=>False
def frzC1 (u off:Nat) (fr:List D):List D:=
 match fr[u]? with
 |some (.obj cs)=>match cs[off]? with
  |some (.sl (_+1) sz rows)=>fr.set u (.obj (cs.set off (.sl 0 sz rows)))
  |_=>fr
 |_=>fr
def frzCs (u off:Nat):Nat→List D→List D
 |0,fr=>fr
 |n+1,fr=>frzC1 u (off+n) (frzCs u off n fr)
def frzL (T:Nat→Option TI) (ty u off:Nat) (fr:List D):List D:=
 match T ty with
 |some (.st n _ _)=>frzCs u off n fr
 |_=>fr
def loadD (T:Nat→Option TI) (ty u off:Nat) (dst:Option Nat) (fr:List D) (K:List D→Prop):Prop:=
 match fr[u]? with
 |some (.obj cs)=>match T ty with
  |some (.st n _ _)=>match Nat.ble (off+n) cs.length && ((cs.drop off).take n).all D.one with
   |true=>putD fr dst (.agg ((cs.drop off).take n)) K
   |false=>False
  |some _=>match cs[off]? with
   |some d=>match d.one with
    |true=>putD fr dst d K
    |false=>False
   |none=>False
  |none=>False
 |_=>False
def putObj (fr:List D) (u:Nat) (cs:List D) (K:List D→Prop):Prop:=forceH cs fun cs=>forceL (fr.set u (.obj cs)) K
def eraC (u off n:Nat) (fr:List D):List D:=match fr.any (nmOf u off n) with
 |true=>fr.map (unac u off n)
 |false=>fr
theorem eraC_eq (u off n:Nat) (fr:List D):eraC u off n fr=fr.map (unac u off n):=by
 unfold eraC
 split
 ·rfl
 ·rename_i h;exact (unac_map h).symm
def eraU (u:Nat) (fr:List D):List D:=match fr.any (nmU u) with
 |true=>fr.map (unob u)
 |false=>fr
theorem eraU_eq (u:Nat) (fr:List D):eraU u fr=fr.map (unob u):=by
 unfold eraU
 split
 ·rfl
 ·rename_i h;exact (unob_map h).symm
def storeD (T:Nat→Option TI) (ty:Nat) (x v:Operand) (dst:Option Nat) (fr:List D) (K:List D→Prop):Prop:=
 match dst with
 |some _=>False
 |none=>match objAt fr x with
  |some (u,off)=>match fr[u]? with
   |some (.obj cs)=>match T ty with
    |some ti=>match (evalD fr v).cellsOf with
     |some vs=>match Nat.beq vs.length ti.cells && Nat.ble (off+vs.length) cs.length with
      |true=>putObj (eraC u off vs.length fr) u (cs.take off++vs++cs.drop (off+vs.length)) K
      |false=>False
     |none=>False
    |none=>False
   |_=>False
  |none=>False
def freezeD (fr:List D) (u:Nat) (K:List D→Prop):Prop:=
 match fr[u]? with
 |some (.obj cs)=>match cs.all D.one && (fr.set u .any).all (safeB u) with
  |true=>forceL (fr.set u (.ptr cs)) K
  |false=>False
 |_=>False
def onceD (M:Nat→Bool) (x:Operand) (fr0:List D) (K:List D→Prop) (fr:List D):Prop:=
 match objAt fr0 x with
 |some (u,_)=>match M (2000000+u) with
  |true=>freezeD fr u K
  |false=>K fr
 |none=>K fr
def newObj (fr:List D) (t:Nat) (cs:List D) (K:List D→Prop):Prop:=
 match fr[t]? with
 |some d0=>match d0.owns || Nat.beq t 0 with
  |false=>putObj fr t cs K
  |true=>False
 |none=>False
def allocD (Z:Nat→Option (List Value)) (M:Nat→Bool) (ty:Nat) (dst:Option Nat) (fr:List D) (K:List D→Prop):Prop:=
 match dst with
 |some t=>match M t with
  |true=>match Z ty with
   |some zc=>match zc.all Value.oneCell' with
    |true=>newObj fr t (zeroD zc) K
    |false=>False
   |none=>False
  |false=>False
 |none=>False
def boxD (ty:Nat) (v:Operand) (t:Nat) (fr:List D) (K:List D→Prop):Prop:=
 match (evalD fr v).cellsOf with
 |some cs=>newObj fr t cs K
 |none=>False
structure CallO (F:D→Option D→Prop):Prop where
 h:∃ d out,F d out
theorem CallO.go {F:D→Option D→Prop} {d:D} {out:Option D} (h:F d out):CallO F:=⟨d,out,h⟩
def handD (P:Program) (f u:Nat) (xs:List Operand) (dst:Option Nat) (fr:List D) (K:List D→Prop):Prop:=
 match fr[u]? with
 | some (.sl (m+1) sz rows)=>CallO fun d out=>SideD (GivesO P f (.sl (m+1) sz rows) (xs.map (evalD fr)) d out) (match out with
  |none=>forceL ((fr.map (unal u .any)).set u .any) fun fr=>putD fr dst d K
  | some d'=>forceL ((fr.map (unal u .any)).set u d') fun fr=>putD fr dst d K)
 |_=>False
def handO (P:Program) (f u:Nat) (xs:List Operand) (dst:Option Nat) (fr:List D) (K:List D→Prop):Prop:=
 match fr[u]? with
 |some (.obj cs)=>match cs.all D.calm1 with
  | true=>CallO fun d out=>SideD (GivesO P f (.obj cs) (xs.map (evalD fr)) d out) (match out with
   |some (.obj cs')=>putObj (eraU u fr) u cs' fun fr=>putD fr dst d K
   | _=>False)
  |false=>False
 |_=>False
def lendC (d:D):D:=match d with
 |.sl _ sz rows=>.sl 0 sz rows
 |d=>match d.one with
  |true=>d
  |false=>.any
def lend1 (fr:List D):D→D
 |.ref u off=>match fr[u]? with
  |some (.obj cs)=>.ptr ((cs.map lendC).drop off)
  |_=>.any
 |d=>match d.one with
  |true=>d
  |false=>.any
def lendD (fr:List D):D→D
 |.fn f caps=>.fn f (caps.map (lend1 fr))
 |.sl _ sz rows=>.sl 0 sz rows
 |.obj cs=>.ptr (cs.map lendC)
 |.ref u off=>lend1 fr (.ref u off)
 |d=>match d.passes with
  |true=>d
  |false=>.any
def lends:D→Bool
 |.ref _ _=>true
 |.fn _ caps=>caps.any fun d=>match d with
  |.ref _ _=>true
  |_=>false
 |_=>false
structure GivesL (P:Program) (f:Nat) (args:List D) (d:D):Prop where
 flat:d.flat=true
 h:Gives P f args d
def lendE (P:Program) (f:Nat) (xs:List Operand) (dst:Option Nat) (fr:List D) (K:List D→Prop):Prop:=
 CallE fun d=>SideD (GivesL P f (xs.map fun x=>lendD fr (evalD fr x)) d) (putD fr dst d K)
def refD (fr:List D) (x:Operand):D:=
 match x with
 |.tmp t=>match fr[t]? with
  |some (.obj _)=>.ref t 0
  |_=>evalD fr (.tmp t)
 |x=>evalD fr x
def stepD (P:Program) (T:Nat→Option TI) (Z:Nat→Option (List Value)) (M:Nat→Bool) (o:Oper) (fr:List D) (K:List D→Prop):Prop:=
 match o.op with
 |.move (.tmp u)=>match fr[u]? with
  |some (.sl (_+1) _ _)=>match o.dst with
   |some t=>match Nat.beq t u with
    |false=>putD fr (some t) (.al u) K
    |true=>False
   |none=>K fr
  |some (.mp _ _)=>match o.dst with
   |some t=>match Nat.beq t u with
    |false=>putD fr (some t) (.al u) K
    |true=>False
   |none=>K fr
  |some (.al u')=>match o.dst with
   |some t=>match Nat.beq t u' with
    |false=>putD fr (some t) (.al u') K
    |true=>False
   |none=>K fr
  |some (.obj _)=>putD fr o.dst (.ref u 0) K
  |_=>pureD P T Z o fr K
 |.assign (.tmp u)=>match fr[u]? with
  |some (.sl (_+1) _ _)=>takeD fr u o.dst K
  |some (.mp _ _)=>takeD fr u o.dst K
  |some (.al u')=>takeD fr u' o.dst K
  |some (.obj _)=>putD fr o.dst (.ref u 0) K
  |_=>pureD P T Z o fr K
 |.pick c x y=>pickD (evalD fr c) x y (evalD fr) fun s d=>andO s (putD fr o.dst d K)
 |.makeFunc _ _ _=>opD P T Z (refD fr) o.op fun s d=>andO s (putD fr o.dst d K)
 |.call c=>match c.callee with
  |.builtin .append=>appendD T c o.dst fr K
  |.builtin .delete=>delD T c o.dst fr K
  |.builtin _=>pureD P T Z o fr K
  |.value (.func f)=>match M (1000000+f) with
   |true=>match c.args.toList with
    |x::xs=>match rootOf fr x with
     |some u=>forceL (xs.foldl down1 fr) fun fr=>match rootOf fr x with
      |some u'=>match Nat.beq u' u with
       |true=>handD P f u xs o.dst fr K
       |false=>False
      |none=>False
     |none=>match objAt fr x with
      |some (u,0)=>forceL (xs.foldl down1 fr) fun fr=>match objAt fr x with
       |some (u',0)=>handO P f u' xs o.dst fr K
       |_=>False
      |_=>forceL (prep (.call c) fr) fun fr=>pureD P T Z o fr K
    |[]=>pureD P T Z o fr K
   |false=>match c.args.toList.any fun x=>lends (evalD fr x) with
    |true=>lendE P f c.args.toList o.dst fr K
    |false=>forceL (prep (.call c) fr) fun fr=>pureD P T Z o fr K
  |_=>forceL (prep (.call c) fr) fun fr=>pureD P T Z o fr K
 |.nilCheck (.tmp u)=>match fr[u]? with
  |some (.obj _)=>putD fr o.dst (.ref u 0) K
  |_=>pureD P T Z o fr K
 |.fieldAddr ty (.tmp u) i=>match fr[u]? with
  |some (.obj _)=>match T ty with
   |some (.st _ fl _)=>match fl[i]? with
    |some (off,_+1,_)=>putD fr o.dst (.ref u off) K
    |_=>False
   |_=>False
  |_=>pureD P T Z o fr K
 |.load ty x=>match objAt fr x with
  |some (u,off)=>forceL (frzL T ty u off fr) fun fr=>loadD T ty u off o.dst fr K
  |none=>pureD P T Z o fr K
 |.store ty x v=>forceL (frz1 fr v) fun fr=>storeD T ty x v o.dst fr (onceD M x fr K)
 |.mapUpdate ty m k v=>updD T ty m k v o.dst fr K
 |.alloc ty=>allocD Z M ty o.dst fr K
 |.box ty v=>match o.dst with
  |some t=>match M t with
   |true=>forceL (frz1 fr v) fun fr=>boxD ty v t fr K
   |false=>forceL (prep (.box ty v) fr) fun fr=>pureD P T Z o fr K
  |none=>False
 |op=>match needsPrep op with
  |true=>forceL (prep op fr) fun fr=>pureD P T Z o fr K
  |false=>pureD P T Z o fr K
def nameD (fr:List D) (u:Nat) (dst:Option Nat) (K:List D→Prop):Prop:=
 match fr[u]? with
 |some (.es x sz k j)=>match dst with
  |some t=>match Nat.beq t x with
   |false=>putD fr (some t) (.es x sz k j) K
   |true=>False
  |none=>K fr
 |some (.el x off sz k j)=>putD fr dst (.el x off sz k j) K
 |some (.alc x off)=>putD fr dst (.alc x off) K
 |_=>False
def rowsN (fr:List D):D→Option (Nat × List (List D))
 |.es u _ _ _=>match fr[u]? with
  |some (.sl (_+1) sz rows)=>some (sz,rows)
  |_=>none
 |.el u off _ _ _=>match fr[u]? with
  |some (.obj cs)=>match cs[off]? with
   |some (.sl (_+1) sz rows)=>some (sz,rows)
   |_=>none
  |_=>none
 |_=>none
def loadR (T:Nat→Option TI) (ty:Nat) (rows:List (List D)) (k j:Nat) (dst:Option Nat) (fr:List D) (K:List D→Prop):Prop:=
 IdxE fun r=>SideD (0≤Int.ofNat k∧rows[(Int.ofNat k).toNat]?=some r) (match T ty with
  |some (.st n _ _)=>match Nat.ble (j+n) r.length with
   |true=>putD fr dst (.agg ((r.drop j).take n)) K
   |false=>False
  |some _=>match r[j]? with
   |some d=>match d.one with
    |true=>putD fr dst d K
    |false=>False
   |none=>False
  | none=>False)
def storeR (T:Nat→Option TI) (ty:Nat) (v:Operand) (u:Nat) (sz k j:Nat) (rows:List (List D)) (fr:List D) (K:List (List D)→Prop):Prop:=
 match T ty,(evalD fr v).cellsOf with
 |some ti,some vs=>match Nat.beq vs.length ti.cells && Nat.ble (j+vs.length) sz with
  |true=>IdxE fun r=>SideD (0≤Int.ofNat k∧rows[(Int.ofNat k).toNat]?=some r) (K (rows.set k (r.take j++vs++r.drop (j+vs.length))))
  |false=>False
 |_,_=>False
def storeNm (T:Nat→Option TI) (ty u:Nat) (v:Operand) (fr:List D) (K:List D→Prop):Prop:=
 match fr[u]? with
 |some (.es x sz k j)=>match fr[x]? with
  |some (.sl 2 sz' rows)=>match Nat.beq sz' sz with
   |true=>storeR T ty v x sz k j rows fr fun rows=>forceL (fr.set x (.sl 2 sz rows)) K
   |false=>False
  |_=>False
 |some (.el x c sz k j)=>match fr[x]? with
  |some (.obj cs)=>match cs[c]? with
   |some (.sl 2 sz' rows)=>match Nat.beq sz' sz with
    |true=>storeR T ty v x sz k j rows fr fun rows=>putObj fr x (cs.set c (.sl 2 sz rows)) K
    |false=>False
   |_=>False
  |_=>False
 |_=>False
def takeN (fr:List D):Operand→List D
 |.tmp x=>match fr[x]? with
  |some (.alc u off)=>match fr[u]? with
   |some (.obj cs)=>match cs[off]? with
    |some (.sl (m+1) sz rows)=>(fr.set u (.obj (cs.set off .any))).set x (.sl (m+1) sz rows)
    |_=>fr
   |_=>fr
  |_=>fr
 |_=>fr
def giveD (T:Nat→Option TI) (ty:Nat) (x v:Operand) (fr:List D) (K:List D→Prop) (E:Prop):Prop:=
 match objAt fr x,rootOf fr v with
 |some (u,off),some s=>match fr[u]? with
  |some (.obj cs)=>match fr[s]? with
   |some (.sl (m+1) sz rows)=>match T ty with
    |some (.sl _ _ _ _)=>match Nat.blt off cs.length with
     |true=>forceL ((fr.map (unal s .any)).set s .any) fun fr=>putObj (eraC u off 1 fr) u (cs.set off (.sl (m+1) sz rows)) K
     |false=>False
    |_=>False
   |_=>E
  |_=>E
 |_,_=>E
def ownAt:List D→Option Nat
 |[]=>none
 |.sl (_+1) _ _::_=>some 0
 |_::r=>match ownAt r with
  |some k=>some (k+1)
  |none=>none
def giveA (T:Nat→Option TI) (ty u:Nat) (v:Operand) (fr:List D) (K:List D→Prop) (E:Prop):Prop:=
 match v with
 |.tmp x=>match fr[x]? with
  |some (.agg cs)=>match ownAt cs with
   |some off=>match cs[off]? with
    |some (.sl (m+1) sz rows)=>match fr[u]? with
     |some (.obj cs0)=>match T ty with
      |some ti=>match Nat.beq ti.cells cs.length && (Nat.beq cs0.length cs.length && (cs.set off .nil).all D.one) with
       |true=>forceL ((fr.map (unal x .any)).set x .any) fun fr=>putObj (eraC u 0 cs.length fr) u (cs.set off (.sl (m+1) sz rows)) K
       |false=>False
      |none=>False
     |_=>E
    |_=>E
   |none=>E
  |_=>E
 |_=>E
def cellN (fr:List D) (u off:Nat):Bool:=match fr[u]? with
 |some (.obj cs)=>match cs[off]? with
  |some d=>d.owns
  |none=>false
 |_=>false
def giveM (M:Nat→Bool) (fr:List D) (d:D) (u:Nat):Bool:=match d with
 |.obj _=>M (4000000+u)
 |.ref x _=>M (4000000+x)
 |_=>false
def delN (T:Nat→Option TI) (ts:List TypeId) (u off:Nat) (k:Operand) (dst:Option Nat) (fr:List D) (K:List D→Prop):Prop:=
 match dst,ts with
 |none,[ty,kt]=>match T ty,fr[u]? with
  |some (.mp kt' _ kd _),some (.obj cs)=>match Nat.beq kt kt' with
   |true=>match cs[off]? with
    |some (.mp kd' es)=>match (evalD fr k).keyV with
     |some kv=>match sameKD kd kd' && fitK kd kv with
      |true=>putObj fr u (cs.set off (.mp kd (delV kv es))) K
      |false=>False
     |none=>False
    |_=>False
   |false=>False
  |_,_=>False
 |_,_=>False
def sealAt (M:Nat→Bool) (fr:List D) (x:Nat) (dst:Option Nat):Option Nat:=
 match dst with
 |some t=>match M (9000000+t) with
  |true=>match objAt fr (.tmp x) with
   |some (v,0)=>some v
   |_=>none
  |false=>none
 |none=>none
def sealD (fr:List D) (v:Nat) (dst:Option Nat) (K:List D→Prop):Prop:=
 match fr[v]? with
 |some (.obj cs)=>forceL (frzSs v cs.length fr) fun fr1=>match fr1[v]? with
  |some (.obj cs1)=>match cs1.all D.one with
   |true=>forceL (fr1.map (wipeB v)) fun fr2=>match (fr2.set v .any).all (safeB v) with
    |true=>match fr2[v]? with
     |some (.obj cs2)=>match cs2.all D.one with
      |true=>forceL (fr2.set v (.ptr cs2)) fun fr3=>putD fr3 dst (.ptr cs2) K
      |false=>False
     |_=>False
    |false=>False
   |false=>False
  |_=>False
 |_=>False
def stepN (P:Program) (T:Nat→Option TI) (Z:Nat→Option (List Value)) (M:Nat→Bool) (o:Oper) (fr:List D) (K:List D→Prop):Prop:=
 match o.op with
 |.move (.tmp u)=>match fr[u]? with
  |some (.es _ _ _ _)=>nameD fr u o.dst K
  |some (.el _ _ _ _ _)=>nameD fr u o.dst K
  |some (.alc _ _)=>nameD fr u o.dst K
  |_=>stepD P T Z M o fr K
 |.assign (.tmp u)=>match fr[u]? with
  |some (.es _ _ _ _)=>nameD fr u o.dst K
  |some (.el _ _ _ _ _)=>nameD fr u o.dst K
  |some (.alc _ _)=>nameD fr u o.dst K
  |_=>match sealAt M fr u o.dst with
   |some v=>sealD fr v o.dst K
   |none=>stepD P T Z M o fr K
 |.nilCheck (.tmp u)=>match fr[u]? with
  |some (.es _ _ _ _)=>nameD fr u o.dst K
  |some (.el _ _ _ _ _)=>nameD fr u o.dst K
  |_=>stepD P T Z M o fr K
 |.fieldAddr ty (.tmp u) i=>match fr[u]? with
  |some (.es x sz k j)=>match T ty with
   |some (.st _ fl _)=>match fl[i]? with
    |some (off,_+1,_)=>match o.dst with
     |some t=>match Nat.beq t x with
      |false=>putD fr (some t) (.es x sz k (j+off)) K
      |true=>False
     |none=>False
    |_=>False
   |_=>False
  |some (.el x c sz k j)=>match T ty with
   |some (.st _ fl _)=>match fl[i]? with
    |some (off,_+1,_)=>putD fr o.dst (.el x c sz k (j+off)) K
    |_=>False
   |_=>False
  |_=>stepD P T Z M o fr K
 |.indexAddr ty (.tmp t) y=>match fr[t]? with
  |some (.alc u off)=>match fr[u]? with
   |some (.obj cs)=>match cs[off]? with
    |some (.sl 2 sz rows)=>match T ty,evalD fr y with
     |some (.sl _ sz' _ _),.int _ j=>match Nat.beq sz' sz with
      |true=>SideD (0≤j∧j < rows.length) (putD fr o.dst (.el u off sz j.toNat 0) K)
      |false=>False
     |_,_=>False
    |_=>stepD P T Z M o fr K
   |_=>stepD P T Z M o fr K
  |_=>match rootOf fr (.tmp t) with
   |some u=>match M (3000000+u) with
    |true=>match fr[u]? with
     |some (.sl 2 sz rows)=>match T ty,evalD fr y with
      |some (.sl _ sz' _ _),.int _ j=>match Nat.beq sz' sz with
       |true=>match o.dst with
        |some d=>match Nat.beq d u with
         |false=>SideD (0≤j∧j < rows.length) (putD fr (some d) (.es u sz j.toNat 0) K)
         |true=>False
        |none=>False
       |false=>False
      |_,_=>False
     |_=>stepD P T Z M o fr K
    |false=>stepD P T Z M o fr K
   |none=>stepD P T Z M o fr K
 |.load ty (.tmp u)=>match fr[u]? with
  |some (.es x sz k j)=>match rowsN fr (.es x sz k j) with
   |some (sz',rows)=>match Nat.beq sz' sz with
    |true=>loadR T ty rows k j o.dst fr K
    |false=>False
   |none=>False
  |some (.el x c sz k j)=>match rowsN fr (.el x c sz k j) with
   |some (sz',rows)=>match Nat.beq sz' sz with
    |true=>loadR T ty rows k j o.dst fr K
    |false=>False
   |none=>False
  |some (.ref x off)=>match cellN fr x off with
   |true=>match T ty with
    |some (.sl _ _ _ _)=>putD fr o.dst (.alc x off) K
    |some (.mp _ _ _ _)=>putD fr o.dst (.alc x off) K
    |_=>stepD P T Z M o fr K
   |false=>stepD P T Z M o fr K
  |some (.obj _)=>match cellN fr u 0 with
   |true=>match T ty with
    |some (.sl _ _ _ _)=>putD fr o.dst (.alc u 0) K
    |some (.mp _ _ _ _)=>putD fr o.dst (.alc u 0) K
    |_=>stepD P T Z M o fr K
   |false=>stepD P T Z M o fr K
  |_=>stepD P T Z M o fr K
 |.store ty (.tmp u) v=>match fr[u]? with
  |some (.es _ _ _ _)=>match o.dst with
   |none=>forceL (frz1 fr v) fun fr=>storeNm T ty u v fr K
   |some _=>False
  |some (.el _ _ _ _ _)=>match o.dst with
   |none=>forceL (frz1 fr v) fun fr=>storeNm T ty u v fr K
   |some _=>False
  |some d=>match o.dst with
   |none=>match giveM M fr d u with
    |true=>giveD T ty (.tmp u) v fr K (giveA T ty u v fr K (stepD P T Z M o fr K))
    |false=>stepD P T Z M o fr K
   |some _=>stepD P T Z M o fr K
  |none=>stepD P T Z M o fr K
 |.call c=>match c.callee with
  |.builtin .append=>match c.args.toList with
   |s::_=>forceL (takeN fr s) fun fr=>stepD P T Z M o fr K
   |[]=>False
  |.builtin .delete=>match c.args.toList with
   |[.tmp x,k]=>match fr[x]? with
    |some (.alc u off)=>delN T c.argTypes.toList u off k o.dst fr K
    |_=>stepD P T Z M o fr K
   |_=>stepD P T Z M o fr K
  |_=>stepD P T Z M o fr K
 |_=>stepD P T Z M o fr K
def condOf (all:List Oper) (fr:List D) (j:Nat) (want:Bool):Option Bool:=
 match all[j]? with
 |some oj=>match oj.dst with
  |some t=>match fr[t]? with
   |some (.bool b)=>match want with
    |true=>some b
    |false=>some (!b)
   |some (.gd c (.bool b))=>match want with
    |true=>some (c && b)
    |false=>some (c && !b)
   |_=>none
  |none=>none
 |none=>none
def gds (ρ:Operand→D):List Operand→Option Prop
 |[]=>none
 |x::xs=>match ρ x with
  |.gd c _=>match gds ρ xs with
   |none=>some (c=true)
   |some p=>some (c=true∧p)
  |_=>gds ρ xs
def under (c:Bool):Option Prop→Option Prop→Option Prop
 |none,none=>none
 |some g,none=>some (c=true→g)
 |none,some s=>some (c=true→s)
 |some g,some s=>some (c=true→g∧s)
theorem under_holds {c:Bool} {g s:Option Prop} (h:holds (under c g s)) (hc:c=true):holds g∧holds s:=by
 cases g with
 |none=>cases s with
  |none=>exact ⟨trivial,trivial⟩
  |some s=>exact ⟨trivial,h hc⟩
 |some g=>cases s with
  |none=>exact ⟨h hc,trivial⟩
  |some s=>exact h hc
def loadG (T:Nat→Option TI) (ty u off:Nat) (c:Bool) (dst:Option Nat) (fr:List D) (K:List D→Prop):Prop:=
 match fr[u]? with
 |some (.obj cs)=>match T ty with
  |some (.st n _ _)=>match Nat.ble (off+n) cs.length && ((cs.drop off).take n).all D.one with
   |true=>putD fr dst (.gd c (.agg ((cs.drop off).take n))) K
   |false=>False
  |some _=>match cs[off]? with
   |some (.sl 1 sz rows)=>putD fr dst (.gd c (.sl 0 sz rows)) K
   |some d=>match d.one with
    |true=>putD fr dst (.gd c d) K
    |false=>False
   |none=>False
  |none=>False
 |_=>False
def newG (dst:Option Nat) (c:Bool) (d:D) (fr:List D) (K:List D→Prop):Prop:=
 match d,dst with
 |.sl 2 sz rows,some t=>match fr[t]? with
  |some d0=>match d0.isObj with
   |false=>forceL ((fr.map (unal t .any)).set t .any) fun fr=>putD fr (some t) (.gd c (.sl 0 sz rows)) K
   |true=>False
  |none=>False
 |_,_=>False
def gstepD (P:Program) (T:Nat→Option TI) (Z:Nat→Option (List Value)) (o:Oper) (c:Bool) (fr:List D) (K:List D→Prop):Prop:=
 match o.op with
 |.pick cc x y=>pickD (strip (evalD fr cc)) x y (evalD fr) fun s d=>andO (under c (gds (evalD fr) [cc]) s) (putD fr o.dst (.gd c d) K)
 |.move (.tmp u)=>match fr[u]? with
  |some (.obj _)=>putD fr o.dst (.gref c u 0) K
  | _=>opD P T Z (fun x=>strip (evalD fr x)) (.move (.tmp u)) fun s d=>andO (under c (gds (evalD fr) [.tmp u]) s) (match d.passes with
   |true=>putD fr o.dst (.gd c d) K
   | false=>newG o.dst c d fr K)
 |.nilCheck (.tmp u)=>match fr[u]? with
  |some (.gref c' x off)=>SideD (c=true→c'=true) (putD fr o.dst (.gref c x off) K)
  | _=>opD P T Z (fun x=>strip (evalD fr x)) (.nilCheck (.tmp u)) fun s d=>andO (under c (gds (evalD fr) [.tmp u]) s) (match d.passes with
   |true=>putD fr o.dst (.gd c d) K
   | false=>newG o.dst c d fr K)
 |.fieldAddr ty (.tmp u) i=>match fr[u]? with
  |some (.obj _)=>match T ty with
   |some (.st _ fl _)=>match fl[i]? with
    |some (off,_+1,_)=>putD fr o.dst (.gref c u off) K
    |_=>False
   |_=>False
  |some (.gref c' x off0)=>match T ty with
   |some (.st _ fl _)=>match fl[i]? with
    |some (off,_+1,_)=>SideD (c=true→c'=true) (putD fr o.dst (.gref c x (off0+off)) K)
    |_=>False
   |_=>False
  | _=>opD P T Z (fun x=>strip (evalD fr x)) (.fieldAddr ty (.tmp u) i) fun s d=>andO (under c (gds (evalD fr) [.tmp u]) s) (match d.passes with
   |true=>putD fr o.dst (.gd c d) K
   | false=>newG o.dst c d fr K)
 |.load ty (.tmp x)=>match fr[x]? with
  |some (.gref c' u off)=>SideD (c=true→c'=true) (loadG T ty u off c o.dst fr K)
  |some (.obj _)=>loadG T ty x 0 c o.dst fr K
  | _=>opD P T Z (fun x=>strip (evalD fr x)) (.load ty (.tmp x)) fun s d=>andO (under c (gds (evalD fr) [.tmp x]) s) (match d.passes with
   |true=>putD fr o.dst (.gd c d) K
   | false=>newG o.dst c d fr K)
 | op=>opD P T Z (fun x=>strip (evalD fr x)) op fun s d=>andO (under c (gds (evalD fr) op.operands.toList) s) (match d.passes with
  |true=>putD fr o.dst (.gd c d) K
  | false=>newG o.dst c d fr K)
def pairD (T:Nat→Option TI) (Z:Nat→Option (List Value)) (o o2:Oper) (ty:Nat) (fr:List D) (K:List D→Prop):Prop:=
 match o.dst,o2.op,o2.dst,o2.guard with
 |some t,.store ty2 (.tmp t2) v,none,none=>match Nat.beq t t2 && Nat.beq ty ty2 with
  |true=>match T ty,Z ty with
   |some ti,some zc=>forceL (frz1 fr v) fun fr=>match v with
    |.tmp tv=>match Nat.beq tv t with
     |false=>match (evalD fr (.tmp tv)).cellsOf with
      |some vs=>match Nat.beq vs.length ti.cells && Nat.beq zc.length ti.cells with
       |true=>putD fr (some t) (.ptr vs) K
       |false=>False
      |none=>False
     |true=>False
    |.const c=>match (evalD fr (.const c)).cellsOf with
     |some vs=>match Nat.beq vs.length ti.cells && Nat.beq zc.length ti.cells with
      |true=>putD fr (some t) (.ptr vs) K
      |false=>False
     |none=>False
    |_=>False
   |_,_=>False
  |false=>False
 |_,_,_,_=>False
def isFrzAlloc (M:Nat→Bool) (o:Oper):Option Nat:=
 match o.op with
 |.alloc ty=>match o.dst with
  |some t=>match M t with
   |true=>none
   |false=>some ty
  |none=>none
 |_=>none
def isBox (M:Nat→Bool) (o o2:Oper):Bool:=
 match o.op,o2.op,o2.dst with
 |.build _ _,.box _ _,some t=>M (8000000+t)
 |_,_,_=>false
def boxB (T:Nat→Option TI) (Z:Nat→Option (List Value)) (o o2:Oper) (fr:List D) (K:List D→Prop):Prop:=
 match o.op,o.dst,o2.op,o2.dst,o2.guard with
 |.build ty parts,some t,.box _ (.tmp t2),some t3,none=>match Nat.beq t t2 with
  |true=>match T ty,Z ty with
   |some (.st _ fl _),some zc=>match zc.all Value.oneCell' with
    |true=>match fillR (fl.map fun x=>(x.1,x.2.1)) (zeroD zc) (parts.toList.map fun x=>(x.1,partM fr x.2)) with
     |some cs=>match okL fr t3 (alsOf 0 cs) && cs.all oneOrAl with
      |true=>forceL (clearL (alsOf 0 cs) fr) fun fr1=>match fr1[t]? with
       |some d0=>match d0.owns with
        |false=>forceL (fr1.set t .any) fun fr2=>match fr2[t3]? with
         |some d3=>match d3.owns || Nat.beq t3 0 with
          |false=>putObj fr2 t3 (cs.map (fillA fr)) K
          |true=>False
         |none=>False
        |true=>False
       |none=>False
      |false=>False
     |none=>False
    |false=>False
   |_,_=>False
  |false=>False
 |_,_,_,_,_=>False
def downC1 (u off:Nat) (fr:List D):List D:=
 match fr[u]? with
 |some (.obj cs)=>match cs[off]? with
  |some (.sl 2 sz rows)=>fr.set u (.obj (cs.set off (.sl 1 sz rows)))
  |_=>fr
 |_=>fr
def prepG (o:Oper) (fr:List D):List D:=
 match o.op with
 |.load _ (.tmp x)=>match fr[x]? with
  |some (.gref _ u off)=>downC1 u off fr
  |some (.obj _)=>downC1 x 0 fr
  |_=>fr
 |_=>fr
structure CondD (b:Bool) (x y:Prop):Prop where
 t:b=true→x
 f:b=false→y
def litOf (M:Nat→Bool) (all:List Oper) (j:Nat):Bool:=
 match all[j]? with
 |some o=>match o.dst with
  |some t=>M (6000000+t)
  |none=>false
 |none=>false
def vcOps (P:Program) (T:Nat→Option TI) (Z:Nat→Option (List Value)) (M:Nat→Bool) (all:List Oper):List Oper→List D→(List D→Prop)→Prop
 |[],fr,K=>K fr
 |[o],fr,K=>match o.guard with
  |none=>stepN P T Z M o fr K
  |some (j,want)=>match condOf all fr j want with
   |some c=>match litOf M all j with
    |true=>CondD c (stepN P T Z M o fr K) (putD fr o.dst (.gd false (.bool false)) K)
    |false=>forceL (prepG o fr) fun fr=>gstepD P T Z o c fr K
   |none=>False
 |o::o2::r,fr,K=>match o.guard with
  |none=>match isFrzAlloc M o with
   |some ty=>pairD T Z o o2 ty fr fun fr'=>vcOps P T Z M all r fr' K
   |none=>match isBox M o o2 with
    |true=>boxB T Z o o2 fr fun fr'=>vcOps P T Z M all r fr' K
    |false=>stepN P T Z M o fr fun fr'=>vcOps P T Z M all (o2::r) fr' K
  |some (j,want)=>match condOf all fr j want with
   |some c=>match litOf M all j with
    |true=>CondD c (stepN P T Z M o fr fun fr'=>vcOps P T Z M all (o2::r) fr' K) (putD fr o.dst (.gd false (.bool false)) fun fr'=>vcOps P T Z M all (o2::r) fr' K)
    |false=>forceL (prepG o fr) fun fr=>gstepD P T Z o c fr fun fr'=>vcOps P T Z M all (o2::r) fr' K
   |none=>False
section
variable {P:Program} {T:Nat→Option TI} {Z:Nat→Option (List Value)} {M:Nat→Bool}
theorem FR.evalRef {fr:List D} (h:FR S w a fr) (x:Operand):RefOk fr (evalD fr x):=by
 cases x with
 |tmp t=>
  unfold evalD
  simp only
  cases hd:fr[t]? with
  |none=>exact fun t ht=>by cases ht
  |some d=>
   obtain ⟨v,hv,hr⟩:=h.at hd
   cases d with
   |al u=>
    obtain ⟨h1,d',h2,h3,_⟩:=hr
    simp only [h2,Option.getD_some]
    exact ((h.slot u d' v h2 h1).rep (D.nm_owns h3)).2
   |alc u off=>
    obtain ⟨⟨⟨cs,h1⟩,_⟩,_⟩:=hr
    simp only [h1]
    cases hc:cs[off]? with
    |none=>exact fun t ht=>by cases ht
    |some d=>
     obtain ⟨v',hv',hr'⟩:=h.at h1
     exact fun t ht=>hr'.2 t (.obj hc ht)
   |el u off sz k j=>exact fun t ht=>by cases ht
   |es u sz k j=>exact fun t ht=>by cases ht
   |_=>exact hr.2
 |const v=>
  unfold evalD
  cases v with
  |agg cs=>exact fun t ht=>by cases ht
  |_=>exact fun t ht=>((ofVal_rep (lim:=fun _=>none) (w:=w) _ (by intro cs hc;cases hc)).men ht).elim
 |global g=>exact fun t ht=>by cases ht
 |func f=>exact fun t ht=>by cases ht with|fn h=>simp at h
def dstPlace:Option Nat→Place
 |some t=>.slot t
 |none=>⟨1,[]⟩
theorem putD_sound {fr:List D} {v:Value} {d:D} (h:FR S w a fr) (hr:Rep S w (dstPlace dst) v d) (hf:RefOk fr d) (hp:putD fr dst d K):∃ fr',K fr'∧FR S w (a.put dst v) fr':=by
 cases dst with
 |none=>exact ⟨fr,hp,h⟩
 |some t=>
  simp only [putD] at hp
  split at hp
  ·rename_i d0 h0
   split at hp
   ·rename_i ho
    rw [force_eq,forceL_eq] at hp
    exact ⟨_,hp,h.put (PT.refl h.wf) h0 ho hr hf⟩
   ·split at hp
    ·rename_i hn
     rw [force_eq,forceL_eq] at hp
     exact ⟨_,hp,h.putOwn h0 hn hr hf⟩
    ·exact hp.elim
  ·exact hp.elim
theorem putNm_sound {fr:List D} {v:Value} {d:D} (h:FR S w a fr) (hd:d.isNm=true) (hsl:∀ t,dst=some t→SlotRep S w a fr t v d) (hp:putD fr dst d K):∃ fr',K fr'∧FR S w (a.put dst v) fr':=by
 cases dst with
 |none=>exact ⟨fr,hp,h⟩
 |some t=>
  simp only [putD] at hp
  split at hp
  ·rename_i d0 h0
   split at hp
   ·rename_i ho
    rw [force_eq,forceL_eq] at hp
    have:=h.putNm h0 (by cases d0<;>first|rfl|cases ho) hd (hsl t rfl)
    rw [h.unal_none h0 ho] at this
    exact ⟨_,hp,this⟩
   ·split at hp
    ·rename_i hn
     rw [force_eq,forceL_eq] at hp
     exact ⟨_,hp,h.putNm h0 hn hd (hsl t rfl)⟩
    ·exact hp.elim
  ·exact hp.elim
theorem down1_sound {fr:List D} (h:FR S w a fr) (x:Operand):∃ S',Trans S w S' w∧FR S' w a (down1 fr x):=by
 unfold down1
 split
 ·split
  ·split
   ·rename_i hu;exact h.down hu
   ·exact ⟨S,Trans.refl S w,h⟩
  ·rename_i ht;exact h.down ht
  ·split
   ·rename_i hd
    split
    ·rename_i hc;exact h.downC hd hc
    ·exact ⟨S,Trans.refl S w,h⟩
   ·exact ⟨S,Trans.refl S w,h⟩
  ·exact ⟨S,Trans.refl S w,h⟩
 ·exact ⟨S,Trans.refl S w,h⟩
theorem frz1_sound {fr:List D} (h:FR S w a fr) (x:Operand):∃ S',Trans S w S' w∧FR S' w a (frz1 fr x):=by
 unfold frz1
 split
 ·split
  ·split
   ·rename_i hu;exact h.freeze hu
   ·exact ⟨S,Trans.refl S w,h⟩
  ·rename_i ht;exact h.freeze ht
  ·split
   ·rename_i hd
    split
    ·rename_i hc;exact h.freezeC hd hc
    ·exact ⟨S,Trans.refl S w,h⟩
   ·exact ⟨S,Trans.refl S w,h⟩
  ·exact ⟨S,Trans.refl S w,h⟩
 ·exact ⟨S,Trans.refl S w,h⟩
theorem fold_sound {α:Type} {w:World} {a:Act} {f:List D→α→List D} (hf:∀ S fr x,FR S w a fr→∃ S',Trans S w S' w∧FR S' w a (f fr x)):∀ (l:List α) (S:Sig) (fr:List D),FR S w a fr→∃ S',Trans S w S' w∧FR S' w a (l.foldl f fr)
 |[],S,fr,h=>⟨S,Trans.refl S w,h⟩
 |x::l,S,fr,h=>by
  obtain ⟨S1,t1,h1⟩:=hf S fr x h
  obtain ⟨S2,t2,h2⟩:=fold_sound hf l S1 _ h1
  exact ⟨S2,t1.trans t2,h2⟩
theorem prep_sound {fr:List D} (h:FR S w a fr) (o:Op):∃ S',Trans S w S' w∧FR S' w a (prep o fr):=by
 unfold prep
 split
 ·exact down1_sound h _
 ·split
  ·exact fold_sound (fun S fr x h=>down1_sound h x) _ S fr h
  ·exact ⟨S,Trans.refl S w,h⟩
 ·exact frz1_sound h _
 ·exact frz1_sound h _
 ·exact fold_sound (fun S fr x h=>frz1_sound h _) _ S fr h
 ·exact fold_sound (fun S fr x h=>frz1_sound h _) _ S fr h
 ·exact ⟨S,Trans.refl S w,h⟩
def StepOk (P:Program) (S:Sig) (w:World) (a:Act) (o:Oper) (K:List D→Prop):Prop:=
 ∀ (K':Act→World→Prop) (Q:Exit→Act→World→Prop),(∀ fr' S' w' a',K fr'→Trans S w S' w'→FR S' w' a' fr'→K' a' w')→o.wp P a w K' Q
theorem StepOk.ghost {S1:Sig} (ht:Trans S w S1 w) (h:StepOk P S1 w a o K):StepOk P S w a o K:=
 fun K' Q hK=>h K' Q fun fr' S' w' a' k t f=>hK fr' S' w' a' k (ht.trans t) f
theorem StepOk.mono {K2:List D→Prop} (h:StepOk P S w a o K) (hk:∀ {fr' S' w' a'},K fr'→FR S' w' a' fr'→∃ fr'' S'',K2 fr''∧Trans S' w' S'' w'∧FR S'' w' a' fr''):StepOk P S w a o K2:=
 fun K' Q hK=>h K' Q fun fr' S' w' a' k t f=>by
  obtain ⟨fr'',S'',k2,t2,f2⟩:=hk k f
  exact hK fr'' S'' w' a' k2 (t.trans t2) f2
theorem pureD_sound (hT:TOk P T Z) {fr:List D} (h:FR S w a fr) (hs:pureD P T Z o fr K):StepOk P S w a o K:=by
 intro K' Q hK
 obtain ⟨dst,op,ty,pos,after,guard⟩:=o
 obtain ⟨s,d,h12,h3⟩:=opD_sound (dst:=dst) (ty:=ty) (pos:=pos) (after:=after) (guard:=guard) hT hs
 obtain ⟨h1,h2⟩:=andO_iff.1 h12
 refine h3 h1 S w a (dstPlace dst) h.wf (fun x _=>h.eval x) K' Q fun v S' w' hp hr hm => ?_
 have hrf:RefOk fr d:=fun t ht=>by
  obtain ⟨x,_,hx⟩:=hm t ht
  exact h.evalRef x t hx
 obtain ⟨fr',k1,k2⟩:=putD_sound (h.drop hp) hr hrf h2
 exact hK fr' S' w' _ k1 hp.trans k2
theorem pick_run {c y:Operand} {p:Bool} {dst:Option Tmp} (hc:a.eval c=.bool p) (hk:K' (a.put dst (if p then a.eval x else a.eval y)) w):(Oper.mk dst (.pick c x y) ty pos after guard).wp P a w K' Q:=by
 unfold Oper.wp
 rw [execOp_pick _ _ _ _ _ _ _ _ _ p hc]
 exact hk
theorem pickR_sound {dc:D} {c y:Operand} {ρ:Operand→D} {s:Option Prop} {r:Bool} (hc:∃ q,Rep S w q (a.eval c) dc) (hrx:∃ q,Rep S w q (a.eval x) (ρ x)) (hry:∃ q,Rep S w q (a.eval y) (ρ y)) (h:pickR dc x y ρ=some (s,r)) (hs:holds s):∃ p,a.eval c=.bool p∧(if p then a.eval x else a.eval y)=.bool r:=by
 have gdv:∀ {z:Operand} {p' q:Bool},(∃ q,Rep S w q (a.eval z) (ρ z))→ρ z=.gd p' (.bool q)→p'=true→a.eval z=.bool q:=fun {z p' q} hr hz hp=>by
  obtain ⟨qq,hq⟩:=hr
  rw [hz] at hq
  have:=(hq.gd_inv.1 hp)
  exact (Rep.fz (p:=.dead) this).bool_inv
 have bv:∀ {z:Operand} {q:Bool},(∃ q,Rep S w q (a.eval z) (ρ z))→ρ z=.bool q→a.eval z=.bool q:=fun {z q} hr hz=>by
  obtain ⟨qq,hq⟩:=hr
  rw [hz] at hq
  exact hq.bool_inv
 obtain ⟨q,hq⟩:=hc
 unfold pickR at h
 split at h
 ·rename_i p
  refine ⟨p,hq.bool_inv,?_⟩
  split at h
  ·split at h
   ·rename_i hx
    cases h
    cases p with
    |true=>simp only [if_true,Bool.true_and];exact gdv hrx hx (hs rfl)
    |false=>rfl
   ·rename_i hx
    cases h
    cases p with
    |true=>simp only [if_true,Bool.true_and];exact bv hrx hx
    |false=>rfl
   ·cases h
  ·split at h
   ·split at h
    ·rename_i hy
     cases h
     cases p with
     |false=>simp only [Bool.false_or];exact gdv hry hy (hs rfl)
     |true=>rfl
    ·rename_i hy
     cases h
     cases p with
     |false=>simp only [Bool.false_or];exact bv hry hy
     |true=>rfl
    ·cases h
   ·cases h
 ·cases h
theorem no_men_bool {b:Bool} {fr:List D}:RefOk fr (.bool b):=fun t ht=>by cases ht
theorem take_sound {fr:List D} {u0:Nat} (h:FR S w a fr) (hu:∀ v,a.tmps[u]?=some v→a.eval (.tmp u0)=v) (hs:takeD fr u dst K):StepOk P S w a (Oper.mk dst (.assign (.tmp u0)) ty pos after guard) K:=by
 intro K' Q hK
 unfold takeD at hs
 split at hs
 ·rename_i m sz rows hd
  rw [forceL_eq] at hs
  obtain ⟨S',v,t1,t2,t3,t4⟩:=h.take (dstPlace dst) hd
  obtain ⟨fr',k1,k2⟩:=putD_sound t3 t4 (fun t ht=>(no_men_sl ht).elim) hs
  refine r_assign (v:=v) (hu v t2) (hK fr' S' w _ k1 t1 k2)
 ·rename_i kd es hd
  rw [forceL_eq] at hs
  obtain ⟨S',v,t1,t2,t3,t4⟩:=h.takeMp (dstPlace dst) hd
  obtain ⟨fr',k1,k2⟩:=putD_sound t3 t4 (fun t ht=>by cases ht) hs
  refine r_assign (v:=v) (hu v t2) (hK fr' S' w _ k1 t1 k2)
 ·exact hs.elim
theorem rows_rep {q:Place} {v:Value} {sz s2:Nat} {d:D} (h:Rep S w q v d) (hr:rowsOf sz d=some (s2,rows)):∃ m,Rep S w q v (.sl m s2 rows):=by
 unfold rowsOf at hr
 split at hr
 ·cases hr
  rw [h.nil_inv]
  exact ⟨0,.fz (.slNil 0 sz)⟩
 ·cases hr
  exact ⟨_,h⟩
 ·cases hr
theorem root_eval {fr:List D} (h:FR S w a fr) {s:Operand} (hr:rootOf fr s=some u):a.tmps[u]?=some (a.eval s):=by
 unfold rootOf at hr
 split at hr
 ·rename_i t
  have ev:∀ v,a.tmps[t]?=some v→a.eval (.tmp t)=v:=fun v hv=>by simp [Act.eval,Array.getD_eq_getD_getElem?,hv]
  split at hr
  ·rename_i hd
   cases hr
   obtain ⟨v,hv,hs⟩:=h.at hd
   rw [ev v hv]
   exact hs.1
  ·rename_i hd
   cases hr
   obtain ⟨v,hv,hs⟩:=h.at hd
   rw [ev v hv]
   exact hv
  ·rename_i hd
   cases hr
   obtain ⟨v,hv,hs⟩:=h.at hd
   rw [ev v hv]
   exact hv
  ·cases hr
 ·cases hr
theorem upd_sound (hT:TOk P T Z) {fr:List D} {m k v:Operand} (h:FR S w a fr) (hs:updD T ty0 m k v dst fr K):StepOk P S w a (Oper.mk dst (.mapUpdate ty0 m k v) ty pos after guard) K:=by
 intro K' Q hK
 unfold updD at hs
 split at hs
 ·exact hs.elim
 ·split at hs
  ·rename_i kt et kd z u ht hu
   haveI:=(hT.ty _ _ ht).1
   have hev:=root_eval h hu
   split at hs
   ·rename_i kd' es hd
    split at hs
    ·rename_i kv vv hk hv
     split at hs
     ·rename_i hb
      simp only [Bool.and_eq_true] at hb
      obtain rfl:=sameKD_eq hb.1
      rw [forceL_eq] at hs
      obtain ⟨v0,hv0,hsl⟩:=h.at hd
      obtain ⟨b,clock,ents,rfl,hown,hh,he,hf⟩:=hsl.1.mp_inv
      have hm:a.eval m=.map (some b):=Option.some.inj (hev.symm.trans hv0)
      obtain ⟨q1,r1⟩:=h.eval k
      obtain ⟨q2,r2⟩:=h.eval v
      refine r_mapUpdate hm hh he.1 hf (keyV_eq r1 hk) hb.2 (keyV_eq r2 hv) fun ents' clock' he' hst => ?_
      obtain ⟨t1,f1⟩:=h.setMap (clock':=clock') hd hv0 hown hh ⟨he',hst he.2⟩ (putV_fit hb.2 hf)
      exact hK _ S _ a hs t1 f1
     ·exact hs.elim
    ·exact hs.elim
   ·exact hs.elim
  ·exact hs.elim
theorem del_sound (hT:TOk P T Z) {fr:List D} {c:Call} (h:FR S w a fr) (hc:c.callee=.builtin .delete) (hs:delD T c dst fr K):StepOk P S w a (Oper.mk dst (.call c) ty pos after guard) K:=by
 intro K' Q hK
 obtain ⟨callee,args,argTypes⟩:=c
 simp only at hc
 subst hc
 unfold delD at hs
 simp only at hs
 split at hs
 ·rename_i m k ty0 kt0 h1 h2
  obtain rfl:=arr2 h1
  obtain rfl:=arr2 h2
  split at hs
  ·rename_i kt et kd z u ht hu
   haveI:=(hT.ty _ _ ht).1
   have hev:=root_eval h hu
   split at hs
   ·rename_i hkt
    obtain rfl:=Nat.eq_of_beq_eq_true hkt
    split at hs
    ·rename_i kd' es hd
     split at hs
     ·rename_i kv hk
      split at hs
      ·rename_i hb
       simp only [Bool.and_eq_true] at hb
       obtain rfl:=sameKD_eq hb.1
       rw [forceL_eq] at hs
       obtain ⟨v0,hv0,hsl⟩:=h.at hd
       obtain ⟨b,clock,ents,rfl,hown,hh,he,hf⟩:=hsl.1.mp_inv
       have hm:a.eval m=.map (some b):=Option.some.inj (hev.symm.trans hv0)
       obtain ⟨q1,r1⟩:=h.eval k
       refine r_delete rfl hm hh he.1 hf (keyV_eq r1 hk) hb.2 fun ents' clock' he' hst => ?_
       obtain ⟨t1,f1⟩:=h.setMap (clock':=clock') hd hv0 hown hh ⟨he',hst he.2⟩ (delV_fit hf)
       exact hK _ S _ a hs t1 f1
      ·exact hs.elim
     ·exact hs.elim
    ·exact hs.elim
   ·exact hs.elim
  ·exact hs.elim
 ·exact hs.elim
theorem append_sound (hT:TOk P T Z) {fr:List D} {c:Call} (h:FR S w a fr) (hc:c.callee=.builtin .append) (hs:appendD T c dst fr K):StepOk P S w a (Oper.mk dst (.call c) ty pos after guard) K:=by
 intro K' Q hK
 obtain ⟨callee,args,argTypes⟩:=c
 simp only at hc
 subst hc
 unfold appendD at hs
 simp only at hs
 split at hs
 ·rename_i s x t t' h1 h2
  obtain rfl:=arr2 h1
  obtain rfl:=arr2 h2
  split at hs
  ·rename_i e sz bytes zc ht
   obtain ⟨i1,i2,i3,i4,i5⟩:=hT.ty _ _ ht
   haveI:=i1;haveI:=i4
   split at hs
   ·rename_i hb
    simp only [Bool.and_eq_true] at hb
    obtain rfl:t=t':=Nat.eq_of_beq_eq_true hb.1
    have hby:=Nat.le_of_ble_eq_true hb.2
    split at hs
    ·rename_i s2 rows2 hx
     obtain ⟨q,hq⟩:=h.eval x
     obtain ⟨m2,hq2⟩:=rows_rep hq hx
     split at hs
     ·rename_i u hu
      have hev:=root_eval h hu
      split at hs
      ·rename_i hd
       obtain ⟨⟨rfl,rfl,hl⟩,hput⟩:=hs
       rw [forceL_eq] at hput
       refine append_own (p:=dstPlace dst) h hd hev hq2 hl hby (.inl rfl) fun v S' w' t1 t2 t3 => ?_
       obtain ⟨fr',k1,k2⟩:=putD_sound t2 t3 (fun t ht=>(no_men_sl ht).elim) hput
       exact hK fr' S' w' _ k1 t1 k2
      ·rename_i hd
       obtain ⟨⟨rfl,rfl,hl⟩,hput⟩:=hs
       rw [forceL_eq] at hput
       refine append_own (p:=dstPlace dst) h hd hev hq2 hl hby (.inr rfl) fun v S' w' t1 t2 t3 => ?_
       obtain ⟨fr',k1,k2⟩:=putD_sound t2 t3 (fun t ht=>(no_men_sl ht).elim) hput
       exact hK fr' S' w' _ k1 t1 k2
      ·exact hs.elim
     ·split at hs
      ·rename_i hnil
       obtain ⟨⟨rfl,hl⟩,hput⟩:=hs
       obtain ⟨q',hq'⟩:=h.eval s
       rw [hnil] at hq'
       refine append_nil (p:=dstPlace dst) h.wf hq'.nil_inv hq2 hl hby (.inr rfl) fun v S' w' hp hr => ?_
       obtain ⟨fr',k1,k2⟩:=putD_sound (h.drop hp) hr (fun t ht=>(no_men_sl ht).elim) hput
       exact hK fr' S' w' _ k1 hp.trans k2
      ·exact hs.elim
    ·exact hs.elim
   ·split at hs
    ·rename_i txt ht' hx hb
     simp only [Bool.and_eq_true] at hb
     obtain rfl:=Nat.eq_of_beq_eq_true hb.1
     have hby:=Nat.le_of_ble_eq_true hb.2
     haveI:TStr P t':=(hT.ty _ _ ht').1
     obtain ⟨q,hq⟩:=h.eval x
     rw [hx] at hq
     have hxs:=hq.str_inv
     split at hs
     ·rename_i u hu
      have hev:=root_eval h hu
      split at hs
      ·rename_i hd
       obtain ⟨⟨rfl,hl⟩,hput⟩:=hs
       rw [forceL_eq] at hput
       refine append_own_str (p:=dstPlace dst) h hd hev hxs hl hby (.inl rfl) fun v S' w' t1 t2 t3 => ?_
       obtain ⟨fr',k1,k2⟩:=putD_sound t2 t3 (fun t ht=>(no_men_sl ht).elim) hput
       exact hK fr' S' w' _ k1 t1 k2
      ·rename_i hd
       obtain ⟨⟨rfl,hl⟩,hput⟩:=hs
       rw [forceL_eq] at hput
       refine append_own_str (p:=dstPlace dst) h hd hev hxs hl hby (.inr rfl) fun v S' w' t1 t2 t3 => ?_
       obtain ⟨fr',k1,k2⟩:=putD_sound t2 t3 (fun t ht=>(no_men_sl ht).elim) hput
       exact hK fr' S' w' _ k1 t1 k2
      ·exact hs.elim
     ·split at hs
      ·rename_i hnil
       obtain ⟨hl,hput⟩:=hs
       obtain ⟨q',hq'⟩:=h.eval s
       rw [hnil] at hq'
       refine append_nil_str (p:=dstPlace dst) h.wf hq'.nil_inv hxs hl hby (.inr rfl) fun v S' w' hp hr => ?_
       obtain ⟨fr',k1,k2⟩:=putD_sound (h.drop hp) hr (fun t ht=>(no_men_sl ht).elim) hput
       exact hK fr' S' w' _ k1 hp.trans k2
      ·exact hs.elim
    ·exact hs.elim
  ·exact hs.elim
 ·exact hs.elim
theorem alias_sound {fr:List D} {u0:Nat} {d:D} (h:FR S w a fr) (hd:fr[u]?=some d) (ho:d.owns=true) (hu:∀ v,a.tmps[u]?=some v→a.eval (.tmp u0)=v)
  (hs:match dst with|some t=>(match Nat.beq t u with|false=>putD fr (some t) (.al u) K|true=>False)|none=>K fr):StepOk P S w a (Oper.mk dst (.move (.tmp u0)) ty pos after guard) K:=by
 intro K' Q hK
 obtain ⟨v,hv,hrep⟩:=h.at hd
 cases dst with
 |none=>exact r_move (v:=v) (hu v hv) (hK fr S w _ hs (Trans.refl S w) h)
 |some t=>
  simp only at hs
  split at hs
  ·rename_i hne
   have hne':t ≠ u:=fun e=>by subst e;simp at hne
   obtain ⟨fr',k1,k2⟩:=putNm_sound (dst:=some t) (v:=v) (d:=.al u) h rfl (fun t' e=>by cases e;exact ⟨hv,d,hd,ho,Ne.symm hne'⟩) hs
   exact r_move (v:=v) (hu v hv) (hK fr' S w _ k1 (Trans.refl S w) k2)
  ·exact hs.elim
theorem ref_rep {fr:List D} (h:FR S w a fr) (hd:fr[u]?=some (.obj cs)) (off:Nat):(∀ p,Rep S w p (.pointer (some ⟨S.loc (u+2),off,none⟩)) (.ref u off))∧RefOk fr (.ref u off)∧a.tmps[u]?=some (.pointer (some ⟨S.loc (u+2),0,none⟩)):=by
 obtain ⟨v,hv,hs⟩:=h.at hd
 obtain ⟨b,cur,e,rfl,hb,hloc,_⟩:=hs.1.obj_inv
 refine ⟨fun p=>.ref (by rw [hloc];exact hb),fun t ht => ?_,by rw [hv,hloc]⟩
 cases ht
 exact ⟨cs,hd⟩
theorem refD_eval {fr:List D} (h:FR S w a fr) (x:Operand):(∃ q,Rep S w q (a.eval x) (refD fr x))∧RefOk fr (refD fr x):=by
 unfold refD
 split
 ·rename_i t
  split
  ·rename_i cs hd
   obtain ⟨r1,r2,r3⟩:=ref_rep h hd 0
   have:a.eval (.tmp t)=.pointer (some ⟨S.loc (t+2),0,none⟩):=by simp [Act.eval,Array.getD_eq_getD_getElem?,r3]
   rw [this]
   exact ⟨⟨.dead,r1 _⟩,r2⟩
  ·exact ⟨h.eval _,fun t ht=>h.evalRef _ t ht⟩
 ·exact ⟨h.eval _,fun t ht=>h.evalRef _ t ht⟩
theorem refOp_sound (hT:TOk P T Z) {fr:List D} (h:FR S w a fr) (hs:opD P T Z (refD fr) o.op fun s d=>andO s (putD fr o.dst d K)):StepOk P S w a o K:=by
 intro K' Q hK
 obtain ⟨dst,op,ty,pos,after,guard⟩:=o
 obtain ⟨s,d,h12,h3⟩:=opD_sound (dst:=dst) (ty:=ty) (pos:=pos) (after:=after) (guard:=guard) hT hs
 obtain ⟨h1,h2⟩:=andO_iff.1 h12
 refine h3 h1 S w a (dstPlace dst) h.wf (fun x _=>(refD_eval h x).1) K' Q fun v S' w' hp hr hm => ?_
 have hrf:RefOk fr d:=fun t ht=>by
  obtain ⟨x,_,hx⟩:=hm t ht
  exact (refD_eval h x).2 t hx
 obtain ⟨fr',k1,k2⟩:=putD_sound (h.drop hp) hr hrf h2
 exact hK fr' S' w' _ k1 hp.trans k2
theorem frzC1_sound {fr:List D} (h:FR S w a fr) (u off:Nat):∃ S',Trans S w S' w∧FR S' w a (frzC1 u off fr):=by
 unfold frzC1
 split
 ·rename_i hd
  split
  ·rename_i hc;exact h.freezeC hd hc
  ·exact ⟨S,Trans.refl S w,h⟩
 ·exact ⟨S,Trans.refl S w,h⟩
theorem frzCs_sound {w:World} {a:Act} (u off:Nat):∀ (n:Nat) {S:Sig} {fr:List D},FR S w a fr→∃ S',Trans S w S' w∧FR S' w a (frzCs u off n fr)
 |0,S,fr,h=>⟨S,Trans.refl S w,h⟩
 |n+1,S,fr,h=>by
  obtain ⟨S1,t1,h1⟩:=frzCs_sound u off n h
  obtain ⟨S2,t2,h2⟩:=frzC1_sound h1 u (off+n)
  exact ⟨S2,t1.trans t2,h2⟩
theorem frzL_sound {fr:List D} (T:Nat→Option TI) (ty:Nat) (h:FR S w a fr) (u off:Nat):∃ S',Trans S w S' w∧FR S' w a (frzL T ty u off fr):=by
 unfold frzL
 split
 ·exact frzCs_sound u off _ h
 ·exact ⟨S,Trans.refl S w,h⟩
theorem objAt_set {fr:List D} {u0:Nat} {cs':List D} (hd:fr[u0]?=some (.obj cs)) (x:Operand):objAt (fr.set u0 (.obj cs')) x=objAt fr x:=by
 unfold objAt
 cases x with
 |tmp t=>
  simp only
  have hlt:u0 < fr.length:=(gLt hd)
  by_cases e:t=u0
  ·subst e
   rw [List.getElem?_set_self hlt,hd]
  ·rw [List.getElem?_set_ne (Ne.symm e)]
 |_=>rfl
theorem objAt_frzC1 (u off:Nat) (fr:List D) (x:Operand):objAt (frzC1 u off fr) x=objAt fr x:=by
 unfold frzC1
 split
 ·rename_i hd
  split
  ·exact objAt_set hd x
  ·rfl
 ·rfl
theorem objAt_frzCs (u off:Nat) (x:Operand):∀ (n:Nat) (fr:List D),objAt (frzCs u off n fr) x=objAt fr x
 |0,_=>rfl
 |n+1,fr=>by rw [frzCs,objAt_frzC1,objAt_frzCs u off x n fr]
theorem objAt_frzL (T:Nat→Option TI) (ty u off:Nat) (fr:List D) (x:Operand):objAt (frzL T ty u off fr) x=objAt fr x:=by
 unfold frzL
 split
 ·exact objAt_frzCs u off x _ fr
 ·rfl
theorem loadD_sound (hT:TOk P T Z) {fr:List D} (h:FR S w a fr) (hx:objAt fr x=some (u,off)) (hs:loadD T ty0 u off dst fr K):StepOk P S w a (Oper.mk dst (.load ty0 x) ty pos after guard) K:=by
 intro K' Q hK
 obtain ⟨cs0,hd0,hev⟩:=h.objAt hx
 obtain ⟨cv,hcv⟩:=h.loadObj hd0
 unfold loadD at hs
 split at hs
 ·rename_i cs hd
  rw [hd0] at hd
  obtain rfl:cs=cs0:=(D.obj.inj (Option.some.inj hd)).symm
  split at hs
  ·rename_i n fl ks ht
   haveI:=(hT.ty _ _ ht).1
   split at hs
   ·rename_i hb
    simp only [Bool.and_eq_true] at hb
    have hle:=Nat.le_of_ble_eq_true hb.1
    have hcell:∀ j,j < n→∃ d,((cs.drop off).take n)[j]?=some d∧w.cell? ⟨S.loc (u+2),off+j,none⟩=some (cv (off+j))∧(cv (off+j)).oneCell'=true∧Fz S.lim w (cv (off+j)) d:=fun j hj=>by
     have hjl:off+j < cs.length:=by omega
     have hg:((cs.drop off).take n)[j]?=some cs[off+j]:=by rw [List.getElem?_take,if_pos hj,List.getElem?_drop,List.getElem?_eq_getElem hjl]
     obtain ⟨h1,h2,h3⟩:=hcv _ _ (List.getElem?_eq_getElem hjl)
     exact ⟨_,hg,h1,h2,D.one_fz h3 (List.all_eq_true.1 hb.2 _ (gMem hg))⟩
    have hfz:Fz S.lim w (.agg ((List.range n).map fun j=>cv (off+j)).toArray) (.agg ((cs.drop off).take n)):=by
     refine .agg _ (by simp;omega) (fun v hv => ?_) fun j d v hj hv => ?_
     ·obtain ⟨j,hj,rfl⟩:=List.mem_map.1 hv
      obtain ⟨d,_,_,h2,_⟩:=hcell j (List.mem_range.1 hj)
      exact h2
     ·have hjn:j < n:=by have:=(gLt hv);simpa using this
      rw [List.getElem?_map,List.getElem?_range hjn] at hv
      cases hv
      obtain ⟨d',h1,_,_,h4⟩:=hcell j hjn
      rw [hj] at h1
      cases h1
      exact h4
    obtain ⟨fr',k1,k2⟩:=putD_sound (dst:=dst) h (.fz hfz) (fun t ht=>(hfz.men ht).elim) hs
    refine r_loadN (cs:=(List.range n).map fun j=>cv (off+j)) hev (fun j v hv => ?_) (by simp) (hK fr' S w _ k1 (Trans.refl S w) k2)
    have hjn:j < n:=by have:=(gLt hv);simpa using this
    rw [List.getElem?_map,List.getElem?_range hjn] at hv
    cases hv
    obtain ⟨d',_,h2,_⟩:=hcell j hjn
    exact h2
   ·exact hs.elim
  ·rename_i i hi ht
   haveI:=(hT.ty _ _ ht).one (fun n fl ks e=>hi n fl ks e)
   split at hs
   ·rename_i d hd
    split at hs
    ·rename_i ho
     obtain ⟨h1,h2,h3⟩:=hcv _ _ hd
     have hfz:=D.one_fz h3 ho
     obtain ⟨fr',k1,k2⟩:=putD_sound (dst:=dst) h (.fz hfz) (fun t ht=>(hfz.men ht).elim) hs
     exact r_load1 hev h1 (hK fr' S w _ k1 (Trans.refl S w) k2)
    ·exact hs.elim
   ·exact hs.elim
  ·exact hs.elim
 ·exact hs.elim
theorem storeD_sound (hT:TOk P T Z) {fr:List D} {v:Operand} (h:FR S w a fr) (hs:storeD T ty0 x v dst fr K):StepOk P S w a (Oper.mk dst (.store ty0 x v) ty pos after guard) K:=by
 intro K' Q hK
 unfold storeD at hs
 split at hs
 ·exact hs.elim
 ·split at hs
  ·rename_i u off hx
   obtain ⟨cs0,hd0,hev⟩:=h.objAt hx
   split at hs
   ·rename_i cs hd
    rw [hd0] at hd
    obtain rfl:cs=cs0:=(D.obj.inj (Option.some.inj hd)).symm
    split at hs
    ·rename_i ti ht
     split at hs
     ·rename_i vs hv
      split at hs
      ·rename_i hb
       simp only [Bool.and_eq_true] at hb
       have hn:=Nat.eq_of_beq_eq_true hb.1
       have hle:=Nat.le_of_ble_eq_true hb.2
       simp only [putObj,forceH_eq,forceL_eq,eraC_eq] at hs
       obtain ⟨q,hq⟩:=h.eval v
       have hc:=CR.of hq hv
       obtain ⟨b,cur,e,hb',hloc,hh,hsz,htr,hfr⟩:=h.storeObj hd0 hc hle
       rw [hloc] at hev
       refine r_store (n:=vs.length) (by rw [(hT.ty _ _ ht).sz,hn]) hev rfl hc.len hc.one hh (by omega) ?_
       exact hK _ S _ a hs htr hfr
      ·exact hs.elim
     ·exact hs.elim
    ·exact hs.elim
   ·exact hs.elim
  ·exact hs.elim
theorem newObj_sound {w':World} {fr:List D} {t g:Nat} {us:List Value} (h:FR S w a fr) (hs:newObj fr t cs K) (hb:Blk w' g ty us.toArray) (hx:Ext w w') (hg:g=w.heap.size) (hc:CR S.lim w us cs):
  ∃ fr' S',K fr'∧Trans S w S' w'∧FR S' w' (a.put (some t) (.pointer (some ⟨g,0,none⟩))) fr':=by
 unfold newObj at hs
 split at hs
 ·rename_i d0 h0
  split at hs
  ·rename_i ho
   simp only [putObj,forceH_eq,forceL_eq] at hs
   simp only [Bool.or_eq_false_iff] at ho
   obtain ⟨S',t1,f1⟩:=h.allocObj (fun e=>by subst e;simp at ho) h0 ho.1 hb hx hg hc
   exact ⟨_,S',hs,t1,f1⟩
  ·exact hs.elim
 ·exact hs.elim
theorem allocD_sound (hT:TOk P T Z) {fr:List D} (h:FR S w a fr) (hs:allocD Z M ty0 dst fr K):StepOk P S w a (Oper.mk dst (.alloc ty0) ty pos after guard) K:=by
 intro K' Q hK
 unfold allocD at hs
 split at hs
 ·split at hs
  ·split at hs
   ·rename_i zc hz
    split at hs
    ·rename_i h1
     haveI:=hT.zer _ _ hz
     refine r_alloc fun g w' hb hx hg => ?_
     obtain ⟨fr',S',k,t1,f1⟩:=newObj_sound h hs hb hx hg (CR.zero h1)
     exact hK fr' S' w' _ k t1 f1
    ·exact hs.elim
   ·exact hs.elim
  ·exact hs.elim
 ·exact hs.elim
theorem boxD_sound {fr:List D} {t:Nat} {v:Operand} (h:FR S w a fr) (hs:boxD ty0 v t fr K):StepOk P S w a (Oper.mk (some t) (.box ty0 v) ty pos after guard) K:=by
 intro K' Q hK
 unfold boxD at hs
 split at hs
 ·rename_i cs hc
  obtain ⟨q,hq⟩:=h.eval v
  refine r_box rfl fun g w' hb hx hg => ?_
  obtain ⟨fr',S',k,t1,f1⟩:=newObj_sound (us:=(a.eval v).cells.toList) h hs (by simpa using hb) hx hg (CR.of hq hc)
  exact hK fr' S' w' _ k t1 f1
 ·exact hs.elim
theorem pairD_sound (hT:TOk P T Z) {fr:List D} {o2:Oper} {ty:Nat} (h:FR S w a fr) (ho:o.op=.alloc ty) (hs:pairD T Z o o2 ty fr K) {r:List Oper} (hg:o.guard=none)
  (hK:∀ fr' S' w' a',K fr'→Trans S w S' w'→FR S' w' a' fr'→wpList P ops Q r a' w'):wpList P ops Q (o::o2::r) a w:=by
 unfold pairD at hs
 split at hs
 ·rename_i t ty2 t2 v hdst hop2 hdst2 hg2
  split at hs
  ·rename_i hb
   simp only [Bool.and_eq_true] at hb
   obtain rfl:=Nat.eq_of_beq_eq_true hb.1
   obtain rfl:=Nat.eq_of_beq_eq_true hb.2
   split at hs
   ·rename_i ti zc ht hz
    rw [forceL_eq] at hs
    obtain ⟨S1,t1,h1⟩:=frz1_sound h v
    haveI:=hT.zer _ _ hz
    have key:∀ {vs:List D},(evalD (frz1 fr v) v).cellsOf=some vs→(Nat.beq vs.length ti.cells && Nat.beq zc.length ti.cells)=true→putD (frz1 fr v) (some t) (.ptr vs) K→(∀ p:Value,(a.put (some t) p).eval v=a.eval v)→wpList P ops Q (o::o2::r) a w:=by
     intro vs hv hb2 hput hev
     simp only [Bool.and_eq_true] at hb2
     have hn1:=Nat.eq_of_beq_eq_true hb2.1
     have hn2:=Nat.eq_of_beq_eq_true hb2.2
     obtain ⟨q,hq⟩:=h1.eval v
     have hc:=CR.of hq hv
     obtain ⟨dst,op,oty,pos,after,guard⟩:=o
     obtain ⟨dst2,op2,oty2,pos2,after2,guard2⟩:=o2
     simp only at ho hdst hop2 hdst2 hg hg2
     subst ho;subst hdst;subst hop2;subst hdst2
     refine wpList_plain hg fun K1 hK1=>r_alloc fun g w' hb' hx hgs=>hK1 _ _ ?_
     refine wpList_plain hg2 fun K2 hK2 => ?_
     have ht':t < a.tmps.size:=by
      have:∃ d0,(frz1 fr v)[t]?=some d0:=by
       simp only [putD] at hput
       split at hput
       ·exact ⟨_,by assumption⟩
       ·exact hput.elim
      obtain ⟨d0,hd0⟩:=this
      rw [h1.size]
      exact (gLt hd0)
     refine r_store (n:=ti.cells) (us:=(a.eval v).cells.toList) (b:=g) (o:=0) (hT.ty _ _ ht).sz ?_ ?_ (by rw [hc.len,hn1]) hc.one hb' (by simp;omega) (hK2 _ _ ?_)
     ·have:=put_tmps_eq (v:=.pointer (some ⟨g,0,none⟩)) ht'
      simp [Act.eval,Array.getD_eq_getD_getElem?,this]
     ·rw [hev]
     ·have hx2:Ext w ((w'.setRow g (zc.toArray.toList.take 0++(a.eval v).cells.toList++zc.toArray.toList.drop (0+ti.cells)).toArray)):=Ext.setRow hx (by omega)
      have hpt:=PT.ext' h1.wf hx2
      have hrow:(w'.setRow g (zc.toArray.toList.take 0++(a.eval v).cells.toList++zc.toArray.toList.drop (0+ti.cells)).toArray).heap[g]?=some (.cells (zc.toArray.toList.take 0++(a.eval v).cells.toList++zc.toArray.toList.drop (0+ti.cells)).toArray ty (0,0)):=setRow_heap w' g _ _ ty _ hb'
      have hcells:(zc.toArray.toList.take 0++(a.eval v).cells.toList++zc.toArray.toList.drop (0+ti.cells))=(a.eval v).cells.toList:=by
       simp [List.drop_eq_nil_of_le,hn2]
      rw [hcells] at hrow hpt ⊢
      have hfz:Fz S1.lim (w'.setRow g (a.eval v).cells.toList.toArray) (.pointer (some ⟨g,0,none⟩)) (.ptr vs):=by
       refine .ptr (fun j=>(a.eval v).cells.toList.getD j undef) (fun j d hj => ?_) fun j d hj => ?_
       ·have hjl:=lt_of_len hc.len hj
        have he:(a.eval v).cells.toList[j]?=some ((a.eval v).cells.toList.getD j undef):=by rw [List.getD_eq_getElem?_getD,List.getElem?_eq_getElem hjl];rfl
        refine ⟨by rw [cell_of_row _ g _ _ ty (0,0) hrow,Nat.zero_add];simpa using he,fun s hs' => ?_,hc.one _ (gMem he)⟩
        exfalso
        simp only [Sig.lim] at hs'
        cases hx':S1.own g with
        |none=>rw [hx'] at hs';cases hs'
        |some y=>have:=h1.wf g y hx';omega
       ·have hjl:=lt_of_len hc.len hj
        have he:(a.eval v).cells.toList[j]?=some ((a.eval v).cells.toList.getD j undef):=by rw [List.getD_eq_getElem?_getD,List.getElem?_eq_getElem hjl];rfl
        exact (hc.fz j d _ hj he).trans hpt.trans
      obtain ⟨fr',k1,k2⟩:=putD_sound (dst:=some t) (v:=.pointer (some ⟨g,0,none⟩)) (h1.drop hpt) (.fz hfz) (fun t ht=>(hfz.men ht).elim) hput
      exact hK fr' S1 _ _ k1 (t1.trans hpt.trans) k2
    split at hs
    ·rename_i tv
     split at hs
     ·rename_i hne
      split at hs
      ·rename_i vs hv
       split at hs
       ·rename_i hb2
        refine key hv hb2 hs fun p => ?_
        have hne':tv ≠ t:=fun e=>by subst e;simp at hne
        simp only [Act.eval,Array.getD_eq_getD_getElem?,put_tmps_ne hne']
       ·exact hs.elim
      ·exact hs.elim
     ·exact hs.elim
    ·split at hs
     ·rename_i vs hv
      split at hs
      ·rename_i hb2
       exact key hv hb2 hs fun p=>rfl
      ·exact hs.elim
     ·exact hs.elim
    ·exact hs.elim
   ·exact hs.elim
  ·exact hs.elim
 ·exact hs.elim
theorem hand_sound {fr:List D} {c:Call} {f:Nat} (h:FR S w a fr) (hc:c.callee=.value (.func f)) (hargs:c.args.toList=x::xs) (hu:rootOf fr x=some u) (hs:handD P f u xs dst fr K):StepOk P S w a (Oper.mk dst (.call c) ty pos after guard) K:=by
 intro K' Q hK
 obtain ⟨callee,args,argTypes⟩:=c
 simp only at hc hargs
 subst hc
 obtain rfl:args=(x::xs).toArray:=Array.ext' hargs
 unfold handD at hs
 split at hs
 ·rename_i m sz rows hd
  obtain ⟨d,out,⟨d1,ds',rfl,hl,hp,hsem⟩,hput⟩:=hs.h
  refine own_call (p:=dstPlace dst) h hd (root_eval h hu) hl hp hsem fun v S' w' t1 t2 t3 => ?_
  have hcalm:=hsem.2.1
  have fin:∀ {fr1:List D},FR S' w' a fr1→putD fr1 dst d K→K' (a.put dst v) w':=fun f1 hp1=>by
   obtain ⟨fr',k1,k2⟩:=putD_sound f1 t3 (fun t ht=>absurd ht (D.calm_men hcalm)) hp1
   exact hK fr' S' w' _ k1 t1 k2
  cases out with
  |none=>simp only [forceL_eq] at hput;exact fin t2 hput
  |some d'=>simp only [forceL_eq] at hput;exact fin t2 hput
 ·exact hs.elim
theorem map_at {α β:Type} {f:α→β} {l:List α} {j:Nat} {y:β} (h:(l.map f)[j]?=some y):∃ x,l[j]?=some x∧f x=y:=by
 rw [List.getElem?_map] at h
 cases hx:l[j]? with
 |none=>rw [hx] at h;cases h
 |some x=>rw [hx] at h;exact ⟨x,rfl,Option.some.inj h⟩
theorem lendC_ok {q:Place} {v:Value} {d:D} (hr:Rep S w q v d):Fz (S.lend w).lim w v (lendC d):=by
 have plain:∀ {d:D},Rep S w q v d→Fz (S.lend w).lim w v (match d.one with|true=>d|false=>.any):=fun {d} hr=>by
  split
  ·rename_i ho
   exact (D.one_fz hr ho).lend
  ·exact .any _
 cases d with
 |sl m sz rows=>
  cases hr with
  |fz hz=>
   have hz2:=hz.lend
   simp only [lendC]
   cases hz2 with
   |slNil=>exact .slNil 0 sz
   |slE=>exact .slE _ sz
   |sl cv a1 a2 a3 a4 a5=>exact .sl cv a1 a2 a3 a4 a5
  |@own _ b cap _ _ _ cur e g=>
   refine g.fz2 (fun hz=>hz.lend) rfl fun k hk s hs => ?_
   simp only [Sig.lim,Sig.lend,g.own,g.heap,Option.map_some,Option.some.injEq] at hs
   have h1:=g.size
   have h2:=Nat.mul_le_mul_right sz g.le
   omega
 |_=>exact plain hr
theorem lend1_sound {fr:List D} (h:FR S w a fr) {q:Place} {v:Value} {d:D} (hr:Rep S w q v d):Fz (S.lend w).lim w v (lend1 fr d):=by
 have plain:∀ {d:D},Rep S w q v d→Fz (S.lend w).lim w v (match d.one with|true=>d|false=>.any):=fun {d} hr=>by
  split
  ·rename_i ho
   exact (D.one_fz hr ho).lend
  ·exact .any _
 cases d with
 |ref u off=>
  simp only [lend1]
  split
  ·rename_i cs hd
   cases hr with
   |fz h=>cases h
   |ref hown=>
    obtain ⟨cv,hcv⟩:=h.loadObj hd
    refine .ptr (fun j=>cv (off+j)) (fun j d hj => ?_) fun j d hj => ?_
    ·rw [List.getElem?_drop] at hj
     obtain ⟨e,he,rfl⟩:=map_at hj
     obtain ⟨h1,h2,h3⟩:=hcv _ _ he
     exact ⟨h1,lend_okc h1,h2⟩
    ·rw [List.getElem?_drop] at hj
     obtain ⟨e,he,rfl⟩:=map_at hj
     obtain ⟨h1,h2,h3⟩:=hcv _ _ he
     exact lendC_ok h3
  ·exact .any _
 |_=>exact plain hr
theorem lendD_sound {fr:List D} (h:FR S w a fr) {q:Place} {v:Value} {d:D} (hr:Rep S w q v d):Fz (S.lend w).lim w v (lendD fr d):=by
 have plain:∀ {d:D},Rep S w q v d→Fz (S.lend w).lim w v (match d.passes with|true=>d|false=>.any):=fun {d} hr=>by
  split
  ·rename_i ho
   exact (hr.passes ho).lend
  ·exact .any _
 cases d with
 |fn f caps=>
  obtain ⟨vs,rfl,hl,ih⟩:=hr.fn_inv
  refine .fn vs (by simp [hl]) fun j d v hd hv => ?_
  rw [List.getElem?_map] at hd
  cases hc:caps[j]? with
  |none=>rw [hc] at hd;cases hd
  |some e=>
   rw [hc] at hd
   cases hd
   exact lend1_sound h (ih j e v hc hv)
 |sl m sz rows=>
  cases hr with
  |fz hz=>
   have hz2:=hz.lend
   simp only [lendD]
   cases hz2 with
   |slNil=>exact .slNil 0 sz
   |slE=>exact .slE _ sz
   |sl cv a1 a2 a3 a4 a5=>exact .sl cv a1 a2 a3 a4 a5
  |@own _ b cap _ _ _ cur e g=>
   refine g.fz2 (fun hz=>hz.lend) rfl fun k hk s hs => ?_
   simp only [Sig.lim,Sig.lend,g.own,g.heap,Option.map_some,Option.some.injEq] at hs
   have h1:=g.size
   have h2:=Nat.mul_le_mul_right sz g.le
   omega
 |obj cs=>
  simp only [lendD]
  cases hr with
  |fz h=>cases h
  |@obj t b _ _ cur e hb hp hl hh hs h1 ih=>
   refine .ptr (fun j=>cur.getD j undef) (fun j d hj => ?_) fun j d hj => ?_
   ·obtain ⟨e',he',rfl⟩:=map_at hj
    have hjl:j < cur.size:=by rw [← hs];exact (List.getElem?_eq_some_iff.1 he').1
    have hc:cur[j]?=some (cur.getD j undef):=by simp [Array.getD_eq_getD_getElem?,hjl]
    have hcell:w.cell? ⟨b,0+j,none⟩=some (cur.getD j undef):=by rw [Nat.zero_add,cell_of_row w b _ cur e (0,0) hh];exact hc
    exact ⟨hcell,lend_okc hcell,h1 j _ hc⟩
   ·obtain ⟨e',he',rfl⟩:=map_at hj
    have hjl:j < cur.size:=by rw [← hs];exact (List.getElem?_eq_some_iff.1 he').1
    have hc:cur[j]?=some (cur.getD j undef):=by simp [Array.getD_eq_getD_getElem?,hjl]
    exact lendC_ok (ih j _ _ he' hc)
 |ref u off=>exact lend1_sound h hr
 |_=>exact plain hr
theorem lendE_sound {fr:List D} {c:Call} {f:Nat} (h:FR S w a fr) (hc:c.callee=.value (.func f)) (hs:lendE P f c.args.toList dst fr K):StepOk P S w a (Oper.mk dst (.call c) ty pos after guard) K:=by
 intro K' Q hK
 obtain ⟨callee,args,argTypes⟩:=c
 simp only at hc
 subst hc
 obtain ⟨d,⟨hflat,ds',h1,h2,hsem⟩,hput⟩:=hs.h
 simp only at h1
 have hlen:(args.toList.map a.eval).length=ds'.length:=by rw [h1.len];simp
 have hfz:∀ (i:Nat) (d:D) (v:Value),ds'[i]?=some d→(args.toList.map a.eval)[i]?=some v→Fz (S.lend w).lim w v d:=fun i d v hd hv=>by
  rw [List.getElem?_map] at hv
  cases hx:args.toList[i]? with
  |none=>rw [hx] at hv;cases hv
  |some x=>
   rw [hx] at hv
   cases hv
   obtain ⟨q,hq⟩:=h.eval x
   have hle:=h1.get (i:=i) (d:=lendD fr (evalD fr x)) (by rw [List.getElem?_map,hx];rfl) hd
   exact ((Rep.fz (S:=S.lend w) (p:=.dead) (lendD_sound h hq)).le hle).passes (List.all_eq_true.1 h2 d (gMem hd))
 have hcalm:=hsem.2.1
 haveI:=hsem.1
 refine r_call (call_lend hsem hflat h.wf hlen hfz) (by apply Array.ext';simp) fun e w' ⟨v,he,hpt,hrep⟩ => ?_
 subst he
 obtain ⟨fr',k1,k2⟩:=putD_sound (dst:=dst) (h.drop hpt) (hrep _) (fun t ht=>absurd ht (D.calm_men hcalm)) hput
 exact hK fr' S w' _ k1 hpt.trans k2
theorem handO_sound {fr:List D} {c:Call} {f:Nat} (h:FR S w a fr) (hc:c.callee=.value (.func f)) (hargs:c.args.toList=x::xs) (hu:objAt fr x=some (u,0)) (hs:handO P f u xs dst fr K):StepOk P S w a (Oper.mk dst (.call c) ty pos after guard) K:=by
 intro K' Q hK
 obtain ⟨callee,args,argTypes⟩:=c
 simp only at hc hargs
 subst hc
 obtain rfl:args=(x::xs).toArray:=Array.ext' hargs
 obtain ⟨cs0,hd0,hev⟩:=h.objAt hu
 unfold handO at hs
 split at hs
 ·rename_i cs hd
  split at hs
  ·rename_i hcalm1
   obtain ⟨d,out,⟨d1,ds',rfl,hl,hp,hsem⟩,hput⟩:=hs.h
   split at hput
   ·rename_i cs'
    simp only [putObj,forceH_eq,forceL_eq,eraU_eq] at hput
    refine own_callO (p:=dstPlace dst) h hd hcalm1 hev hl hp hsem fun v S' w' t1 t2 t3 => ?_
    have hcalm:=hsem.2.1
    obtain ⟨fr',k1,k2⟩:=putD_sound t2 t3 (fun t ht=>absurd ht (D.calm_men hcalm)) hput
    exact hK fr' S' w' _ k1 t1 k2
   ·exact hput.elim
  ·exact hs.elim
 ·exact hs.elim
theorem stepD_sound (hT:TOk P T Z) {fr:List D} (h:FR S w a fr) (hs:stepD P T Z M o fr K):StepOk P S w a o K:=by
 have ev:∀ t v,a.tmps[t]?=some v→a.eval (.tmp t)=v:=fun t v hv=>by simp [Act.eval,Array.getD_eq_getD_getElem?,hv]
 obtain ⟨dst,op,ty,pos,after,guard⟩:=o
 unfold stepD at hs
 simp only at hs
 split at hs
 ·split at hs
  ·rename_i hd
   exact alias_sound h hd rfl (ev _) hs
  ·rename_i hd
   exact alias_sound h hd rfl (ev _) hs
  ·rename_i u u' hd
   obtain ⟨v,hv,hsl⟩:=h.at hd
   obtain ⟨g1,d',g2,g3,_⟩:=hsl
   refine alias_sound h g2 g3 (fun v' hv' => ?_) hs
   rw [g1] at hv'
   cases hv'
   exact ev _ _ hv
  ·rename_i hd
   obtain ⟨r1,r2,r3⟩:=ref_rep h hd 0
   obtain ⟨fr',k1,k2⟩:=putD_sound h (r1 _) r2 hs
   exact fun K' Q hK=>r_move (ev _ _ r3) (hK fr' S w _ k1 (Trans.refl S w) k2)
  ·exact pureD_sound hT h hs
 ·split at hs
  ·exact take_sound h (ev _) hs
  ·exact take_sound h (ev _) hs
  ·rename_i u u' hd
   obtain ⟨v,hv,hsl⟩:=h.at hd
   refine take_sound h (fun v' hv' => ?_) hs
   rw [hsl.1] at hv'
   cases hv'
   exact ev _ _ hv
  ·rename_i hd
   obtain ⟨r1,r2,r3⟩:=ref_rep h hd 0
   obtain ⟨fr',k1,k2⟩:=putD_sound h (r1 _) r2 hs
   exact fun K' Q hK=>r_assign (ev _ _ r3) (hK fr' S w _ k1 (Trans.refl S w) k2)
  ·exact pureD_sound hT h hs
 ·obtain ⟨s,r,hp,h12⟩:=pickD_inv hs
  obtain ⟨h1,h2⟩:=andO_iff.1 h12
  obtain ⟨p,h3,h4⟩:=pickR_sound (h.eval _) (h.eval _) (h.eval _) hp h1
  intro K' Q hK
  refine pick_run h3 ?_
  rw [h4]
  obtain ⟨fr',k1,k2⟩:=putD_sound h (.fz (.bool r)) no_men_bool h2
  exact hK fr' S w _ k1 (Trans.refl S w) k2
 ·exact refOp_sound hT h hs
 ·split at hs
  ·rename_i hc
   exact append_sound hT h hc hs
  ·rename_i hc
   exact del_sound hT h hc hs
  ·exact pureD_sound hT h hs
  ·rename_i f hcal
   split at hs
   ·split at hs
    ·rename_i x xs hargs
     split at hs
     ·rename_i u hu
      rw [forceL_eq] at hs
      obtain ⟨S1,t1,h1⟩:=fold_sound (fun S fr x h=>down1_sound h x) xs _ _ h
      split at hs
      ·rename_i u' hu'
       split at hs
       ·rename_i he
        obtain rfl:=Nat.eq_of_beq_eq_true he
        exact (hand_sound h1 hcal hargs hu' hs).ghost t1
       ·exact hs.elim
      ·exact hs.elim
     ·split at hs
      ·rw [forceL_eq] at hs
       obtain ⟨S1,t1,h1⟩:=fold_sound (fun S fr x h=>down1_sound h x) xs _ _ h
       split at hs
       ·rename_i u' hu'
        exact (handO_sound h1 hcal hargs hu' hs).ghost t1
       ·exact hs.elim
      ·rw [forceL_eq] at hs
       obtain ⟨S1,t1,h1⟩:=prep_sound h _
       exact (pureD_sound hT h1 hs).ghost t1
    ·exact pureD_sound hT h hs
   ·split at hs
    ·exact lendE_sound h hcal hs
    ·rw [forceL_eq] at hs
     obtain ⟨S1,t1,h1⟩:=prep_sound h _
     exact (pureD_sound hT h1 hs).ghost t1
  ·rw [forceL_eq] at hs
   obtain ⟨S1,t1,h1⟩:=prep_sound h _
   exact (pureD_sound hT h1 hs).ghost t1
 ·split at hs
  ·rename_i hd
   obtain ⟨r1,r2,r3⟩:=ref_rep h hd 0
   obtain ⟨fr',k1,k2⟩:=putD_sound h (r1 _) r2 hs
   exact fun K' Q hK=>r_nilCheck (ev _ _ r3) (hK fr' S w _ k1 (Trans.refl S w) k2)
  ·exact pureD_sound hT h hs
 ·split at hs
  ·rename_i hd
   split at hs
   ·rename_i ht
    split at hs
    ·rename_i off n ag hf
     haveI:=(hT.ty _ _ ht).2.1 _ _ _ _ hf
     obtain ⟨r1,r2,_⟩:=ref_rep h hd off
     obtain ⟨_,_,r3⟩:=ref_rep h hd 0
     obtain ⟨fr',k1,k2⟩:=putD_sound h (r1 _) r2 hs
     exact fun K' Q hK=>r_fieldAddr (ev _ _ r3) (by rw [Nat.zero_add];exact hK fr' S w _ k1 (Trans.refl S w) k2)
    ·exact hs.elim
   ·exact hs.elim
  ·exact pureD_sound hT h hs
 ·split at hs
  ·rename_i hx
   rw [forceL_eq] at hs
   obtain ⟨S1,t1,h1⟩:=frzL_sound T _ h _ _
   exact StepOk.ghost t1 (loadD_sound hT h1 (by rw [objAt_frzL];exact hx) hs)
  ·exact pureD_sound hT h hs
 ·rw [forceL_eq] at hs
  obtain ⟨S1,t1,h1⟩:=frz1_sound h _
  refine ((storeD_sound hT h1 hs).mono fun {fr' S' w' a'} k f => ?_).ghost t1
  unfold onceD at k
  split at k
  ·split at k
   ·unfold freezeD at k
    split at k
    ·rename_i hd
     split at k
     ·rename_i hb
      simp only [Bool.and_eq_true] at hb
      rw [forceL_eq] at k
      obtain ⟨S2,t2,f2⟩:=f.freezeObj hd hb.1 hb.2
      exact ⟨_,S2,k,t2,f2⟩
     ·exact k.elim
    ·exact k.elim
   ·exact ⟨_,_,k,Trans.refl _ _,f⟩
  ·exact ⟨_,_,k,Trans.refl _ _,f⟩
 ·exact upd_sound hT h hs
 ·exact allocD_sound hT h hs
 ·split at hs
  ·split at hs
   ·rw [forceL_eq] at hs
    obtain ⟨S1,t1,h1⟩:=frz1_sound h _
    exact (boxD_sound h1 hs).ghost t1
   ·rw [forceL_eq] at hs
    obtain ⟨S1,t1,h1⟩:=prep_sound h _
    exact (pureD_sound hT h1 hs).ghost t1
  ·exact hs.elim
 ·split at hs
  ·rw [forceL_eq] at hs
   obtain ⟨S1,t1,h1⟩:=prep_sound h _
   exact (pureD_sound hT h1 hs).ghost t1
  ·exact pureD_sound hT h hs
theorem name_sound {fr:List D} (h:FR S w a fr) (hs:nameD fr u dst K):∃ v,a.tmps[u]?=some v∧∃ fr',K fr'∧FR S w (a.put dst v) fr'∧((∃ x sz k j,fr[u]?=some (.es x sz k j))∨(∃ x o sz k j,fr[u]?=some (.el x o sz k j))→∃ p,v=.pointer (some p)):=by
 unfold nameD at hs
 split at hs
 ·rename_i x sz k j hd
  obtain ⟨v,hv,hsl⟩:=h.at hd
  have hp:∃ p,v=.pointer (some p):=by
   obtain ⟨_,s,_,b,l,c,_,rfl⟩:=hsl
   exact ⟨_,rfl⟩
  refine ⟨v,hv,?_⟩
  cases dst with
  |none=>exact ⟨fr,hs,h,fun _=>hp⟩
  |some t=>
   simp only at hs
   split at hs
   ·rename_i hne
    have hne':x ≠ t:=fun e=>by subst e;simp at hne
    obtain ⟨⟨d',g1,g2,_⟩,g3⟩:=hsl
    obtain ⟨fr',k1,k2⟩:=putNm_sound (dst:=some t) (v:=v) h rfl (fun t' e=>by cases e;exact ⟨⟨d',g1,g2,hne'⟩,g3⟩) hs
    exact ⟨fr',k1,k2,fun _=>hp⟩
   ·exact hs.elim
 ·rename_i x off sz k j hd
  obtain ⟨v,hv,hsl⟩:=h.at hd
  have hp:∃ p,v=.pointer (some p):=by
   obtain ⟨_,s,_,b,l,c,_,rfl⟩:=hsl
   exact ⟨_,rfl⟩
  obtain ⟨fr',k1,k2⟩:=putNm_sound (dst:=dst) (v:=v) (d:=.el x off sz k j) h rfl (fun t' e=>(hsl:SlotRep S w a fr t' v (.el x off sz k j))) hs
  exact ⟨v,hv,fr',k1,k2,fun _=>hp⟩
 ·rename_i x off hd
  obtain ⟨v,hv,hsl⟩:=h.at hd
  obtain ⟨fr',k1,k2⟩:=putNm_sound (dst:=dst) (v:=v) (d:=.alc x off) h rfl (fun t' e=>(hsl:SlotRep S w a fr t' v (.alc x off))) hs
  refine ⟨v,hv,fr',k1,k2,fun e => ?_⟩
  rw [hd] at e
  rcases e with ⟨_,_,_,_,e⟩|⟨_,_,_,_,_,e⟩<;>cases e
 ·exact hs.elim
theorem nameMove_sound {fr:List D} (h:FR S w a fr) (hs:nameD fr u dst K):
  StepOk P S w a (Oper.mk dst (.move (.tmp u)) ty pos after guard) K∧StepOk P S w a (Oper.mk dst (.assign (.tmp u)) ty pos after guard) K:=by
 obtain ⟨v,hv,fr',k1,k2,_⟩:=name_sound h hs
 have he:a.eval (.tmp u)=v:=by simp [Act.eval,Array.getD_eq_getD_getElem?,hv]
 exact ⟨fun K' Q hK=>r_move he (hK fr' S w _ k1 (Trans.refl S w) k2),fun K' Q hK=>r_assign he (hK fr' S w _ k1 (Trans.refl S w) k2)⟩
theorem nameNil_sound {fr:List D} (h:FR S w a fr) (hd:(∃ x sz k j,fr[u]?=some (.es x sz k j))∨(∃ x o sz k j,fr[u]?=some (.el x o sz k j))) (hs:nameD fr u dst K):
  StepOk P S w a (Oper.mk dst (.nilCheck (.tmp u)) ty pos after guard) K:=by
 obtain ⟨v,hv,fr',k1,k2,k3⟩:=name_sound h hs
 obtain ⟨p,rfl⟩:=k3 hd
 have he:a.eval (.tmp u)=.pointer (some p):=by simp [Act.eval,Array.getD_eq_getD_getElem?,hv]
 exact fun K' Q hK=>r_nilCheck he (hK fr' S w _ k1 (Trans.refl S w) k2)
theorem rowsN_es {fr:List D} (h:FR S w a fr) {t sz k j:Nat} {v:Value} {sz':Nat} (hsl:SlotRep S w a fr t v (.es u sz k j)) (hr:rowsN fr (.es u sz k j)=some (sz',rows)):
  ∃ s m q,ElAt s sz k j v∧Rep S w q s (.sl (m+1) sz' rows):=by
 simp only [rowsN] at hr
 split at hr
 ·rename_i m sz2 rows2 hd
  cases hr
  obtain ⟨_,s,hs,he⟩:=hsl
  obtain ⟨v',hv',hs'⟩:=h.at hd
  obtain rfl:s=v':=Option.some.inj (hs.symm.trans hv')
  exact ⟨s,m,_,he,hs'.1⟩
 ·cases hr
theorem rowsN_el {fr:List D} (h:FR S w a fr) {t sz k j:Nat} {v:Value} {sz':Nat} (hsl:SlotRep S w a fr t v (.el u off sz k j)) (hr:rowsN fr (.el u off sz k j)=some (sz',rows)):
  ∃ s m q,ElAt s sz k j v∧Rep S w q s (.sl (m+1) sz' rows):=by
 simp only [rowsN] at hr
 split at hr
 ·rename_i cs hd
  split at hr
  ·rename_i m sz2 rows2 hc
   cases hr
   obtain ⟨_,s,hs,he⟩:=hsl
   obtain ⟨v',hv',hs'⟩:=h.at hd
   exact ⟨s,m,_,he,hs'.1.obj_cell hc hs⟩
  ·cases hr
 ·cases hr
theorem loadR_sound (hT:TOk P T Z) {fr:List D} {p:Place} {s v:Value} {m sz k j:Nat} (h:FR S w a fr) (hv:a.tmps[u]?=some v) (he:ElAt s sz k j v) (hrep:Rep S w p s (.sl (m+1) sz rows)) (hs:loadR T ty0 rows k j dst fr K):
  StepOk P S w a (Oper.mk dst (.load ty0 (.tmp u)) ty pos after guard) K:=by
 intro K' Q hK
 obtain ⟨r,⟨_,hr⟩,hs⟩:=hs.h
 have hr:rows[k]?=some r:=hr
 obtain ⟨b,cap,cur,e,rfl,rfl,g⟩:=el_at hrep he hr
 have hev:a.eval (.tmp u)=.pointer (some ⟨b,k * sz+j,none⟩):=by simp [Act.eval,Array.getD_eq_getD_getElem?,hv]
 have hel:∀ i d,r[i]?=some d→∃ x,w.cell? ⟨b,k * sz+i,none⟩=some x∧x.oneCell'=true∧Fz S.lim w x d:=fun i d hd=>g.elem hr hd
 split at hs
 ·rename_i n fl ks ht
  haveI:=(hT.ty _ _ ht).1
  split at hs
  ·rename_i hb
   have hle:=Nat.le_of_ble_eq_true hb
   have hex:∀ i,∃ x:Value,∀ d,r[j+i]?=some d→w.cell? ⟨b,k * sz+(j+i),none⟩=some x∧x.oneCell'=true∧Fz S.lim w x d:=fun i=>by
    cases hd:r[j+i]? with
    |none=>exact ⟨undef,fun d hd'=>by cases hd'⟩
    |some d=>
     obtain ⟨x,hx⟩:=hel _ _ hd
     exact ⟨x,fun d' hd'=>by cases hd';exact hx⟩
   let cv:Nat→Value:=fun i=>Classical.choose (hex i)
   have hcv:∀ i d,r[j+i]?=some d→w.cell? ⟨b,k * sz+(j+i),none⟩=some (cv i)∧(cv i).oneCell'=true∧Fz S.lim w (cv i) d:=fun i=>Classical.choose_spec (hex i)
   have hget:∀ i,i < n→∃ d,r[j+i]?=some d∧((r.drop j).take n)[i]?=some d:=fun i hi=>by
    have hlt:j+i < r.length:=by omega
    exact ⟨r[j+i],List.getElem?_eq_getElem hlt,by rw [List.getElem?_take,if_pos hi,List.getElem?_drop,List.getElem?_eq_getElem hlt]⟩
   have hfz:Fz S.lim w (.agg ((List.range n).map cv).toArray) (.agg ((r.drop j).take n)):=by
    refine .agg _ (by simp;omega) (fun v hv => ?_) fun i d v hi hv => ?_
    ·obtain ⟨i,hi,rfl⟩:=List.mem_map.1 hv
     obtain ⟨d,h1,_⟩:=hget i (List.mem_range.1 hi)
     exact (hcv i d h1).2.1
    ·have hin:i < n:=by have:=(gLt hv);simpa using this
     rw [List.getElem?_map,List.getElem?_range hin] at hv
     cases hv
     obtain ⟨d',h1,h2⟩:=hget i hin
     rw [hi] at h2
     cases h2
     exact (hcv i d h1).2.2
   obtain ⟨fr',k1,k2⟩:=putD_sound (dst:=dst) h (.fz hfz) (fun t ht=>(hfz.men ht).elim) hs
   refine r_loadN (cs:=(List.range n).map cv) hev (fun i v hv => ?_) (by simp) (hK fr' S w _ k1 (Trans.refl S w) k2)
   have hin:i < n:=by have:=(gLt hv);simpa using this
   rw [List.getElem?_map,List.getElem?_range hin] at hv
   cases hv
   obtain ⟨d,h1,_⟩:=hget i hin
   have:=(hcv i d h1).1
   rwa [← Nat.add_assoc] at this
  ·exact hs.elim
 ·rename_i i hi ht
  haveI:=(hT.ty _ _ ht).one (fun n fl ks e=>hi n fl ks e)
  split at hs
  ·rename_i d hd
   split at hs
   ·obtain ⟨x,h1,h2,h3⟩:=hel _ _ hd
    obtain ⟨fr',k1,k2⟩:=putD_sound (dst:=dst) h (.fz h3) (fun t ht=>(h3.men ht).elim) hs
    exact r_load1 hev h1 (hK fr' S w _ k1 (Trans.refl S w) k2)
   ·exact hs.elim
  ·exact hs.elim
 ·exact hs.elim
theorem takeN_sound {fr:List D} (h:FR S w a fr) (x:Operand):∃ S',Trans S w S' w∧FR S' w a (takeN fr x):=by
 unfold takeN
 split
 ·split
  ·rename_i hx
   split
   ·rename_i hd
    split
    ·rename_i hc
     exact h.takeC hx hd hc
    ·exact ⟨S,Trans.refl S w,h⟩
   ·exact ⟨S,Trans.refl S w,h⟩
  ·exact ⟨S,Trans.refl S w,h⟩
 ·exact ⟨S,Trans.refl S w,h⟩
theorem storeEl_run (hT:TOk P T Z) {v:Operand} {o:Nat} {ti:TI} {vs:List D} {us:List Value} {b:Nat} {cur:Array Value} {e:TypeId} 
  (ht:T ty0=some ti) (hn:vs.length=ti.cells) (hev:a.eval (.tmp u)=.pointer (some ⟨b,o,none⟩)) (hus:(a.eval v).cells.toList=us) (hul:us.length=vs.length) (hone:∀ u:Value,u ∈ us→u.oneCell'=true) (hh:w.heap[b]?=some (.cells cur e (0,0))) (hle:o+vs.length≤cur.size)
  (hk:K' (a.put dst undef) (w.setRow b (cur.toList.take o++us++cur.toList.drop (o+vs.length)).toArray)):(Oper.mk dst (.store ty0 (.tmp u) v) ty pos after guard).wp P a w K' Q:=
 r_store (n:=vs.length) (by rw [(hT.ty _ _ ht).sz,hn]) hev hus hul hone hh hle hk
theorem storeEs_sound (hT:TOk P T Z) {fr:List D} {x sz k j:Nat} {v0:Value} {v:Operand} (h:FR S w a fr) (hv:a.tmps[u]?=some v0) (hsl:SlotRep S w a fr u v0 (.es x sz k j)) (hd:fr[x]?=some (.sl 2 sz rows))
  (hs:storeR T ty0 v x sz k j rows fr fun rows=>forceL (fr.set x (.sl 2 sz rows)) K):StepOk P S w a (Oper.mk none (.store ty0 (.tmp u) v) ty pos after guard) K:=by
 intro K' Q hK
 unfold storeR at hs
 split at hs
 ·rename_i ti vs ht hvs
  split at hs
  ·rename_i hb
   simp only [Bool.and_eq_true] at hb
   have hn:=Nat.eq_of_beq_eq_true hb.1
   have hle:=Nat.le_of_ble_eq_true hb.2
   obtain ⟨r,⟨_,hr⟩,hs⟩:=hs.h
   have hr:rows[k]?=some r:=hr
   rw [forceL_eq] at hs
   obtain ⟨_,s,hs1,he⟩:=hsl
   obtain ⟨v',hv',hs'⟩:=h.at hd
   obtain rfl:s=v':=Option.some.inj (hs1.symm.trans hv')
   obtain ⟨b,cap,cur,e,rfl,rfl,g⟩:=el_at hs'.1 he hr
   have hev:a.eval (.tmp u)=.pointer (some ⟨b,k * sz+j,none⟩):=by simp [Act.eval,Array.getD_eq_getD_getElem?,hv]
   obtain ⟨q,hq⟩:=h.eval v
   have hc:=CR.of hq hvs
   obtain ⟨h1,hbt,CUR,g'⟩:=g.store h.wf (by simp [Place.slot]) hr hc hle
   refine storeEl_run hT ht hn hev rfl hc.len hc.one g.heap h1 ?_
   refine hK _ S _ a hs hbt.tr (h.reown hbt g.own rfl hd rfl (fun y hy => ?_) (fun t=>no_men_sl) rfl)
   rw [hs1] at hy
   cases hy
   have:=Rep.own g'
   rwa [List.length_set] at this
  ·exact hs.elim
 ·exact hs.elim
theorem storeEl_sound (hT:TOk P T Z) {fr:List D} {x c sz k j:Nat} {v0:Value} {v:Operand} (h:FR S w a fr) (hv:a.tmps[u]?=some v0) (hsl:SlotRep S w a fr u v0 (.el x c sz k j)) (hd:fr[x]?=some (.obj cs)) (hcc:cs[c]?=some (.sl 2 sz rows))
  (hs:storeR T ty0 v x sz k j rows fr fun rows=>putObj fr x (cs.set c (.sl 2 sz rows)) K):StepOk P S w a (Oper.mk none (.store ty0 (.tmp u) v) ty pos after guard) K:=by
 intro K' Q hK
 unfold storeR at hs
 split at hs
 ·rename_i ti vs ht hvs
  split at hs
  ·rename_i hb
   simp only [Bool.and_eq_true] at hb
   have hn:=Nat.eq_of_beq_eq_true hb.1
   have hle:=Nat.le_of_ble_eq_true hb.2
   obtain ⟨r,⟨_,hr⟩,hs⟩:=hs.h
   have hr:rows[k]?=some r:=hr
   simp only [putObj,forceH_eq,forceL_eq] at hs
   obtain ⟨_,s,hs1,he⟩:=hsl
   obtain ⟨v',hv',hs'⟩:=h.at hd
   have hrep:=hs'.1.obj_cell hcc hs1
   obtain ⟨b,cap,cur,e,rfl,rfl,g⟩:=el_at hrep he hr
   have hev:a.eval (.tmp u)=.pointer (some ⟨b,k * sz+j,none⟩):=by simp [Act.eval,Array.getD_eq_getD_getElem?,hv]
   obtain ⟨q,hq⟩:=h.eval v
   have hc:=CR.of hq hvs
   obtain ⟨h1,hbt,CUR,g'⟩:=g.store h.wf (by simp) hr hc hle
   refine storeEl_run hT ht hn hev rfl hc.len hc.one g.heap h1 ?_
   refine hK _ S _ a hs hbt.tr (h.reownC hbt g.own hd (fun y hy => ?_) (fun t=>no_men_sl))
   rw [hs1] at hy
   cases hy
   have:=Rep.own g'
   rwa [List.length_set] at this
  ·exact hs.elim
 ·exact hs.elim
theorem set_at_split {d:D} (h:off < cs.length):cs.take off ++ [d]++cs.drop (off+1)=cs.set off d:=by
 rw [List.set_eq_take_append_cons_drop,if_pos h]
 simp
theorem give_sound (hT:TOk P T Z) {fr:List D} {v:Operand} {s m sz:Nat} (h:FR S w a fr) {e0 sz0 by0:Nat} {zc0:List Value} (ht:T ty0=some (.sl e0 sz0 by0 zc0))
  (hx:objAt fr x=some (u,off)) (hr:rootOf fr v=some s) (hd:fr[u]?=some (.obj cs)) (hsl:fr[s]?=some (.sl (m+1) sz rows)) (hlt:off < cs.length)
  (hs:K ((eraC u off 1 ((fr.map (unal s .any)).set s .any)).set u (.obj (cs.set off (.sl (m+1) sz rows))))):StepOk P S w a (Oper.mk none (.store ty0 x v) ty pos after guard) K:=by
 intro K' Q hK
 obtain ⟨cs0,hd0,hev⟩:=h.objAt hx
 have hv:=root_eval h hr
 have hus:u ≠ s:=fun e=>by subst e;rw [hd] at hsl;cases hsl
 obtain ⟨S1,v',t1,t2,f1,r1⟩:=h.take ⟨u+2,[off]⟩ hsl
 obtain rfl:v'=a.eval v:=Option.some.inj (t2.symm.trans hv)
 have hd1:((fr.map (unal s .any)).set s .any)[u]?=some (.obj cs):=by
  rw [List.getElem?_set_ne (Ne.symm hus),List.getElem?_map,hd]
  rfl
 -- the object stays where it is
 obtain ⟨vo,hvo,hso⟩:=h.at hd
 obtain ⟨b0,_,_,hvo0,hbo0,hloc0,_⟩:=hso.1.obj_inv
 have f2:=f1.recell hd1 off (r0:=.any) (fun _ _=>.fz (.any _)) (fun t ht=>by cases ht)
 have hd2:((((fr.map (unal s .any)).set s .any)).set u (.obj (cs.set off .any)))[u]?=some (.obj (cs.set off .any)):=List.getElem?_set_self (by
  have:=(gLt hd)
  simpa using this)
 have one:(a.eval v).oneCell'=true:=by
  rcases r1.sl_inv with ⟨e,_⟩|⟨b,cap,cur,e,e',_⟩
  ·rw [e];rfl
  ·rw [e'];rfl
 have hcells:(a.eval v).cells.toList = [a.eval v]:=by
  rcases r1.sl_inv with ⟨e,_⟩|⟨b,cap,cur,e,e',_⟩
  ·rw [e];rfl
  ·rw [e'];rfl
 have hc:CR S1.lim w [a.eval v] [D.any]:=⟨rfl,fun u hu=>by simp only [List.mem_singleton] at hu;subst hu;exact one,fun j d u hj hu=>by
  match j,hj with
  |0,hj=>cases hj;exact .any _
  | j+1,hj=>simp at hj⟩
 obtain ⟨b,cur,e,hb',hloc,hh,hsz,htr,f3⟩:=f2.storeObj (off:=off) hd2 hc (by simp;omega)
 have hevS:a.eval x=.pointer (some ⟨b,off,none⟩):=by
  rw [hev,hloc0]
  congr 3
  obtain ⟨vo1,hvo1,hso1⟩:=f1.at hd1
  obtain ⟨b1,_,_,hvo1',_,hloc1,_⟩:=hso1.1.obj_inv
  have e1:vo1=vo:=Option.some.inj (hvo1.symm.trans hvo)
  rw [hvo1',hvo0] at e1
  have:b1=b0:=by cases e1;rfl
  rw [← this,← hloc1,hloc]
 refine r_store (n:=1) (by rw [(hT.ty _ _ ht).sz];rfl) hevS hcells rfl (fun u hu=>by simp only [List.mem_singleton] at hu;subst hu;exact one) hh (by rw [← hsz];simp;omega) ?_
 have hlen1 : [D.any].length=1:=rfl
 rw [hlen1] at htr f3
 rw [set_at_split (by simpa using hlt),List.set_set] at f3
 -- what the cell holds now
 have hd3:(((((fr.map (unal s .any)).set s .any)).set u (.obj (cs.set off .any))).map (unac u off 1)).set u (.obj (cs.set off .any))=(eraC u off 1 ((fr.map (unal s .any)).set s .any)).set u (.obj (cs.set off .any)):=by
  rw [eraC_eq,List.map_set,List.set_set]
 rw [hd3] at f3
 have hul:u < (eraC u off 1 ((fr.map (unal s .any)).set s .any)).length:=by
  have:=(gLt hd)
  rw [eraC_eq]
  simpa using this
 obtain ⟨hCs,hcell⟩:=splice (cur:=cur) (us := [a.eval v]) (off:=off) (n:=1) rfl (by rw [← hsz];simp;omega)
 have hheap:(w.setRow b (cur.toList.take off ++ [a.eval v]++cur.toList.drop (off+1)).toArray).heap[b]?=some (.cells (cur.toList.take off ++ [a.eval v]++cur.toList.drop (off+1)).toArray e (0,0)):=setRow_heap w b cur _ e (0,0) hh
 have f4:=f3.recell (List.getElem?_set_self hul) off (r0:=.sl (m+1) sz rows) (fun y hy => ?_) (fun t=>no_men_sl)
 ·rw [List.set_set,List.set_set] at f4
  exact hK _ S1 _ a hs (t1.trans htr) f4
 ·rw [hloc,cell_of_row _ b _ _ e (0,0) hheap,hcell,if_neg (by omega),if_pos (by omega),Nat.sub_self] at hy
  cases hy
  refine r1.trans f1.wf htr rfl (fun k q l hs hu=>⟨setRow_other w b k _ (fun e => ?_),hs⟩) (fun _=>rfl) fun t ht=>by cases ht
  subst e
  rw [hb'] at hs
  cases hs
  obtain ⟨_,l',hl⟩:=hu
  simp [Place.slot] at hl
theorem ev_tmp' {t:Nat} {v:Value} (hv:a.tmps[t]?=some v):a.eval (.tmp t)=v:=by simp [Act.eval,Array.getD_eq_getD_getElem?,hv]
theorem fillR_map (f:D→D) {pl:List (Nat × Nat)}:∀ (parts:List (Nat × Option (List D))) (cells cs:List D),fillR pl cells parts=some cs→fillR pl (cells.map f) (parts.map fun x=>(x.1,x.2.map (List.map f)))=some (cs.map f)
 |[],cells,cs,h=>by
  simp only [fillR,Option.some.injEq] at h
  subst h
  rfl
 |(i,none)::r,cells,cs,h=>by simp [fillR] at h
 |(i,some ds)::r,cells,cs,h=>by
  simp only [fillR,List.map_cons,Option.map_some] at h ⊢
  cases hp:pl[i]? with
  |none=>rw [hp] at h;cases h
  |some y=>
   obtain ⟨off,sz⟩:=y
   rw [hp] at h
   simp only at h ⊢
   split at h
   ·rename_i hc
    have:=fillR_map f r _ cs h
    rw [if_pos (by simpa using hc)]
    simpa only [List.map_append,List.map_take,List.map_drop] using this
   ·cases h
theorem FR.takeA {fr:List D} (h:FR S w a fr) {x m sz:Nat} (p:Place) (hd:fr[x]?=some (.agg cs)) (ho:cs[off]?=some (.sl (m+1) sz rows)) (hone:(cs.set off .nil).all D.one=true):
  ∃ S' vs v,Trans S w S' w∧a.tmps[x]?=some (.agg (List.toArray vs))∧vs.length=cs.length∧(∀ u:Value,u ∈ vs→u.oneCell'=true)∧vs[off]?=some v∧FR S' w a ((fr.map (unal x .any)).set x .any)∧(∀ (j:Nat) (d:D) (u:Value),j ≠ off→cs[j]?=some d→vs[j]?=some u→Fz S'.lim w u d)∧Rep S' w p v (.sl (m+1) sz rows):=by
 obtain ⟨va,hva,hs⟩:=h.at hd
 obtain ⟨vs,rfl,hl,h1,ih⟩:=hs.1.agg_inv
 have hlt:off < vs.length:=by rw [hl];exact (gLt ho)
 have hv:vs[off]?=some vs[off]:=List.getElem?_eq_getElem hlt
 have hf:∀ (j:Nat) (d:D) (u:Value),j ≠ off→cs[j]?=some d→vs[j]?=some u→Fz S.lim w u d:=fun j d u hj hd hu=>by
  have hod:d.one=true:=List.all_eq_true.1 hone d (gMem (by rw [List.getElem?_set_ne (Ne.symm hj)];exact hd))
  exact D.one_fz (ih j d u hd hu) hod
 rcases (ih off _ _ ho hv).sl_inv with ⟨e,rfl⟩|⟨b,cap,cur,e,e',g⟩
 ·exact ⟨S,vs,_,Trans.refl S w,hva,hl,h1,hv,h.forget hd rfl,hf,by rw [e];exact .fz (.slNil _ _)⟩
 ·have hb:BT S w (S.set b (some (p,if m+1=2 then 0 else rows.length * sz))) w b:=BT.ghost h.wf g.own (by simp [Place.at,Place.slot]) (fun y hy=>by cases hy;simp)
  refine ⟨_,vs,_,hb.tr,hva,hl,h1,hv,h.rebuild hb g.own rfl hd rfl (fun v' p hv'=>.fz (.any _)) (fun t ht=>by cases ht) (fun v' hv'=>.fz (.any _)) (fun t ht=>by cases ht),fun j d u hj hd hu=>(hf j d u hj hd hu).trans hb.tr,?_⟩
  rw [e']
  refine .own ⟨g.mode,g.heap,g.le,g.max,g.size,g.each,by rw [S.set_at],fun k r j d k1 k2 => ?_⟩
  obtain ⟨x,x1,x2,x3⟩:=g.cells k r j d k1 k2
  exact ⟨x,x1,x2,x3.trans hb.tr⟩
theorem giveA_sound (hT:TOk P T Z) {fr:List D} {x m sz:Nat} {ti:TI} {cs0:List D} (h:FR S w a fr) (ht:T ty0=some ti)
  (hd:fr[x]?=some (.agg cs)) (ho:cs[off]?=some (.sl (m+1) sz rows)) (hu:fr[u]?=some (.obj cs0)) (hn:ti.cells=cs.length) (hl0:cs0.length=cs.length) (hone:(cs.set off .nil).all D.one=true)
  (hs:K ((eraC u 0 cs.length ((fr.map (unal x .any)).set x .any)).set u (.obj (cs.set off (.sl (m+1) sz rows))))):StepOk P S w a (Oper.mk none (.store ty0 (.tmp u) (.tmp x)) ty pos after guard) K:=by
 intro K' Q hK
 have hux:u ≠ x:=fun e=>by subst e;rw [hd] at hu;cases hu
 obtain ⟨S1,vs,v,t1,hva,hl,h1,hv,f1,hf,r1⟩:=h.takeA ⟨u+2,[off]⟩ hd ho hone
 have hlt:off < cs.length:=(gLt ho)
 have hd1:((fr.map (unal x .any)).set x .any)[u]?=some (.obj cs0):=by
  rw [List.getElem?_set_ne (Ne.symm hux),List.getElem?_map,hu]
  rfl
 have hc:CR S1.lim w vs (cs.set off .any):=⟨by rw [List.length_set];exact hl,h1,fun j d u hj hu=>by
  by_cases e:j=off
  ·subst e
   rw [List.getElem?_set_self hlt] at hj
   cases hj
   exact .any _
  ·rw [List.getElem?_set_ne (Ne.symm e)] at hj
   exact hf j d u e hj hu⟩
 have hl2:(cs.set off .any).length=cs.length:=List.length_set
 obtain ⟨b,cur,e,hb',hloc,hh,hsz,htr,f3⟩:=f1.storeObj (off:=0) hd1 hc (by rw [hl2];omega)
 obtain ⟨vo,hvo,hso⟩:=f1.at hd1
 obtain ⟨b1,_,_,hvo',_,hloc1,_⟩:=hso.1.obj_inv
 have hev:a.eval (.tmp u)=.pointer (some ⟨b,0,none⟩):=by rw [ev_tmp' hvo,hvo',← hloc1,hloc]
 have hx:a.eval (.tmp x)=.agg (List.toArray vs):=ev_tmp' hva
 refine r_store (n:=cs.length) (by rw [(hT.ty _ _ ht).sz,hn]) hev (us:=vs) (by rw [hx];rfl) hl h1 hh (by omega) ?_
 rw [hl2] at htr f3
 have hfull:cs0.take 0++cs.set off .any++cs0.drop (0+cs.length)=cs.set off .any:=by
  rw [List.take_zero,List.nil_append,Nat.zero_add,List.drop_of_length_le (by omega),List.append_nil]
 rw [hfull] at f3
 have hul:u < (((fr.map (unal x .any)).set x .any).map (unac u 0 cs.length)).length:=by
  have:=(gLt hu)
  simpa using this
 have f4:=f3.recell (List.getElem?_set_self hul) off (r0:=.sl (m+1) sz rows) (fun y hy => ?_) (fun t=>no_men_sl)
 ·rw [List.set_set,List.set_set,← eraC_eq] at f4
  exact hK _ S1 _ a hs (t1.trans htr) f4
 ·have hcl:(cur.toList.take 0++vs++cur.toList.drop (0+cs.length))=vs:=by
   rw [List.take_zero,List.nil_append,Nat.zero_add,List.drop_of_length_le (by rw [Array.length_toList];omega),List.append_nil]
  have hheap:(w.setRow b (cur.toList.take 0++vs++cur.toList.drop (0+cs.length)).toArray).heap[b]?=some (.cells (cur.toList.take 0++vs++cur.toList.drop (0+cs.length)).toArray e (0,0)):=setRow_heap w b cur _ e (0,0) hh
  rw [hloc,cell_of_row _ b _ _ e (0,0) hheap,hcl] at hy
  have hy':vs[off]?=some y:=by simpa using hy
  rw [hv] at hy'
  cases hy'
  refine r1.trans f1.wf htr rfl (fun k q l hs hu=>⟨setRow_other w b k _ (fun e => ?_),hs⟩) (fun _=>rfl) fun t ht=>by cases ht
  subst e
  rw [hb'] at hs
  cases hs
  obtain ⟨_,l',hl⟩:=hu
  simp [Place.slot] at hl
theorem cellN_ok {fr:List D} (h:cellN fr u off=true):∃ cs d,fr[u]?=some (.obj cs)∧cs[off]?=some d:=by
 unfold cellN at h
 split at h
 ·rename_i cs hd
  split at h
  ·rename_i d hc
   exact ⟨cs,d,hd,hc⟩
  ·cases h
 ·cases h
def TI.isOne:TI→Bool
 |.st _ _ _=>false
 |_=>true
theorem TFact.one' {P:Program} {t:Nat} {i:TI} (h:TFact P t i) (hn:i.isOne=true):TOne P t:=h.one fun n fl ks e=>by subst e;cases hn
theorem loadC_sound (hT:TOk P T Z) {fr:List D} {x:Nat} {i:TI} (h:FR S w a fr) (ht:T ty0=some i) (hi:i.isOne=true) (hx:objAt fr (.tmp x)=some (u,off)) (hc:cellN fr u off=true) (hs:putD fr dst (.alc u off) K):
  StepOk P S w a (Oper.mk dst (.load ty0 (.tmp x)) ty pos after guard) K:=by
 intro K' Q hK
 obtain ⟨cs,d,hd,hcs⟩:=cellN_ok hc
 obtain ⟨_,_,hev⟩:=h.objAt hx
 obtain ⟨y,hy,_,_,hn⟩:=h.nameC hd hcs
 haveI:=(hT.ty _ _ ht).one' hi
 obtain ⟨fr',k1,k2⟩:=putNm_sound (dst:=dst) (v:=y) (d:=.alc u off) h rfl (fun t _=>hn t) hs
 exact r_load1 hev hy (hK fr' S w _ k1 (Trans.refl S w) k2)
theorem elAt_field {s v:Value} {sz k j:Nat} (h:ElAt s sz k j v):∃ b,v=.pointer (some ⟨b,k * sz+j,none⟩)∧ElAt s sz k (j+off) (.pointer (some ⟨b,k * sz+j+off,none⟩)):=by
 obtain ⟨b,l,c,hs,rfl⟩:=h
 exact ⟨b,rfl,b,l,c,hs,by rw [Nat.add_assoc]⟩
theorem storeNm_sound (hT:TOk P T Z) {fr:List D} {v:Operand} (h:FR S w a fr) (hs:storeNm T ty0 u v fr K):StepOk P S w a (Oper.mk none (.store ty0 (.tmp u) v) ty pos after guard) K:=by
 unfold storeNm at hs
 split at hs
 ·rename_i x sz k j hd
  obtain ⟨v0,hv0,hsl⟩:=h.at hd
  split at hs
  ·rename_i sz' rows hdx
   split at hs
   ·rename_i he
    obtain rfl:=Nat.eq_of_beq_eq_true he
    exact storeEs_sound hT h hv0 hsl hdx hs
   ·exact hs.elim
  ·exact hs.elim
 ·rename_i x c sz k j hd
  obtain ⟨v0,hv0,hsl⟩:=h.at hd
  split at hs
  ·rename_i cs hdx
   split at hs
   ·rename_i sz' rows hc
    split at hs
    ·rename_i he
     obtain rfl:=Nat.eq_of_beq_eq_true he
     exact storeEl_sound hT h hv0 hsl hdx hc hs
    ·exact hs.elim
   ·exact hs.elim
  ·exact hs.elim
 ·exact hs.elim
theorem boxB_sound (hT:TOk P T Z) {fr:List D} {o2:Oper} (h:FR S w a fr) (hs:boxB T Z o o2 fr K) {r:List Oper} (hg:o.guard=none)
  (hK:∀ fr' S' w' a',K fr'→Trans S w S' w'→FR S' w' a' fr'→wpList P ops Q r a' w'):wpList P ops Q (o::o2::r) a w:=by
 unfold boxB at hs
 split at hs
 ·rename_i ty parts t ty2 t2 t3 hop hdst hop2 hdst2 hg2
  split at hs
  ·rename_i htt
   obtain rfl:=Nat.eq_of_beq_eq_true htt
   split at hs
   ·rename_i n0 fl ks zc hty hz
    split at hs
    ·rename_i hzc
     split at hs
     ·rename_i cs hf
      split at hs
      ·rename_i hok
       simp only [Bool.and_eq_true] at hok
       obtain ⟨hnd,hown⟩:=okL_ok hok.1
       rw [forceL_eq] at hs
       split at hs
       ·rename_i d0 h0
        split at hs
        ·rename_i ho0
         rw [forceL_eq] at hs
         split at hs
         ·rename_i d3 h3
          split at hs
          ·rename_i hb3
           simp only [Bool.or_eq_false_iff] at hb3
           simp only [putObj,forceH_eq,forceL_eq] at hs
           obtain ⟨dst,op,oty,pos,after,guard⟩:=o
           obtain ⟨dst2,op2,oty2,pos2,after2,guard2⟩:=o2
           simp only at hop hdst hop2 hdst2 hg hg2
           subst hop;subst hdst;subst hop2;subst hdst2
           obtain ⟨S1,t1,f1,l1,k1,m1⟩:=takeAll t3 (alsOf 0 cs) h hown hnd
           haveI:=(hT.ty _ _ hty).2.2.1
           haveI:=hT.zer _ _ hz
           have hf':=fillR_map (pinF a) _ _ _ hf
           rw [zeroD_pinF] at hf'
           obtain ⟨us,h1,h2⟩:=fillR_sound (S:=S1) (w:=w) (parts.toList.map fun x=>(x.1,a.eval x.2)) _ zc (zeroD zc) _ hf' (CR.zero hzc) (by simp) (fun j x y hx hy=>by
            rw [List.getElem?_map] at hx
            rw [List.getElem?_map,List.getElem?_map] at hy
            cases hp:parts.toList[j]? with
            |none=>rw [hp] at hx;cases hx
            |some z=>
             rw [hp] at hx hy
             cases hx;cases hy
             refine ⟨rfl,fun ds hd => ?_⟩
             obtain ⟨i,x⟩:=z
             simp only [Option.map_eq_some_iff] at hd
             obtain ⟨ds0,hd0,rfl⟩:=hd
             have gen:(evalD fr x).cellsOf=some ds0→CR S1.lim w (a.eval x).cells.toList (ds0.map (pinF a)):=fun g=>by
              rw [cellsOf_pinF g]
              obtain ⟨q,hq⟩:=h.eval x
              have hc:=CR.of hq g
              exact ⟨hc.len,hc.one,fun j d u hd hu=>(hc.fz j d u hd hu).trans t1⟩
             cases x with
             |tmp y=>
              simp only [partM] at hd0
              split at hd0
              ·rename_i e he
               split at hd0
               ·rename_i hoe
                cases hd0
                obtain ⟨v,hv,hsl⟩:=h.at he
                have hcv:v.oneCell'=true∧v.cells.toList = [v]:=by
                 obtain ⟨_,v',_,hv',g1,g2,_⟩:=h.takeX .dead he hoe
                 obtain rfl:v=v':=Option.some.inj (hv.symm.trans hv')
                 exact ⟨g1,g2⟩
                show CR S1.lim w (a.eval (.tmp y)).cells.toList [.pv ((a.tmps[y]?).getD undef)]
                rw [ev_tmp' hv,hcv.2,hv]
                refine ⟨rfl,fun u hu => ?_,fun j d u hj hu => ?_⟩
                ·simp only [List.mem_singleton] at hu;subst hu;exact hcv.1
                ·match j,hj,hu with
                 |0,hj,hu=>cases hj;cases hu;exact .pv _
                 |j+1,hj,_=>simp at hj
               ·exact gen hd0
              ·cases hd0
             |const c=>exact gen hd0
             |global g=>exact gen hd0
             | func g=>exact gen hd0)
           have hlen:us.length=cs.length:=by rw [h2.len,List.length_map]
           refine wpList_plain hg fun K1 hK1 => ?_
           have:=r_build (P:=P) (dst:=some t) (ty:=oty) (pos:=pos) (after:=after) (guard:=guard) (Q:=Q) (K:=K1) (t:=ty) (parts:=parts.toList) (a:=a) (w:=w) rfl h1 (hK1 _ _ ?_)
           ·simpa using this
           ·have f2:=f1.put (v:=.agg us.toArray) (d:=.any) (PT.refl f1.wf) h0 ho0 (.fz (.any _)) (fun t ht=>by cases ht)
            have htl:t < a.tmps.size:=by rw [f1.size];exact (gLt h0)
            refine wpList_plain hg2 fun K2 hK2=>r_box (v:=.agg us.toArray) (ev_tmp' (put_tmps_eq htl)) fun g w' hb' hx hgs=>hK2 _ _ ?_
            have hbu:Blk w' g ty2 us.toArray:=hb'
            obtain ⟨S2,⟨t2,f3⟩,own2,loc2,locg⟩:=f2.allocObjX (fun e=>by subst e;simp at hb3) h3 hb3.1 hbu hx hgs h2
            have hlt3:t3 < ((clearL (alsOf 0 cs) fr).set t .any).length:=(gLt h3)
            have f4:=f3.recellAll (u:=t3) (cs':=cs.map (fillA fr)) (List.getElem?_set_self hlt3) (by simp) (fun i d' x hd hxc => ?_) (fun d' hd t hm => ?_)
            ·rw [List.set_set] at f4
             exact hK _ S2 w' _ hs (t1.trans t2) f4
            ·obtain ⟨c,hc,rfl⟩:=map_at hd
             have hil:i < us.length:=by rw [hlen];exact (gLt hc)
             rw [locg,cell_of_row w' g _ _ ty2 (0,0) hbu] at hxc
             have hxc:us[i]?=some x:=by simpa using hxc
             have hfz:=h2.fz i (pinF a c) x (by rw [List.getElem?_map,hc];rfl) hxc
             have hoa:=List.all_eq_true.1 hok.2 c (gMem hc)
             have one:c.one=true→Rep S2 w' ⟨t3+2,[i]⟩ x (fillA fr c):=fun ho=>by
              rw [pinF_one ho] at hfz
              have e:fillA fr c=c:=by cases c<;>first|rfl|cases ho
              rw [e]
              exact .fz (hfz.trans t2)
             cases c with
             |al y=>
              have hm:=alsOf_mem (k:=0) hc
              rw [Nat.zero_add] at hm
              obtain ⟨d,v,g1,g2,g3,g4,g5,g6⟩:=m1 _ hm
              simp only at g1 g3 g6
              have e:fillA fr (.al y)=d:=by simp [fillA,g1]
              rw [e]
              simp only [pinF,g3,Option.getD_some] at hfz
              obtain rfl:x=v:=by cases hfz;rfl
              refine g6.trans f2.wf t2 (loc2 0 (by omega)) (fun b q l hb hu=>⟨hx.block (f2.wf _ _ hb),by rw [own2 b (f2.wf _ _ hb)];exact hb⟩) (fun e=>by cases e) fun x hm=>(ownD_men g2 hm).elim
             |_=>exact one hoa
            ·obtain ⟨c,hc,rfl⟩:=List.mem_map.1 hd
             have hoa:=List.all_eq_true.1 hok.2 c hc
             cases c with
             |al y=>
              obtain ⟨i,hi⟩:=List.mem_iff_getElem?.1 hc
              have hmm:=alsOf_mem (k:=0) hi
              obtain ⟨d,v,g1,g2,_⟩:=m1 _ hmm
              simp only at g1
              have e:fillA fr (.al y)=d:=by simp [fillA,g1]
              rw [e] at hm
              exact ownD_men g2 hm
             |_=>
              cases hm<;>cases hoa
          ·exact hs.elim
         ·exact hs.elim
        ·exact hs.elim
       ·exact hs.elim
      ·exact hs.elim
     ·exact hs.elim
    ·exact hs.elim
   ·exact hs.elim
  ·exact hs.elim
 ·exact hs.elim
theorem delN_sound (hT:TOk P T Z) {fr:List D} {x:Nat} {k:Operand} {c:Call} (h:FR S w a fr) (hc:c.callee=.builtin .delete) (hargs:c.args.toList = [.tmp x,k]) (hx:fr[x]?=some (.alc u off)) (hs:delN T c.argTypes.toList u off k dst fr K):StepOk P S w a (Oper.mk dst (.call c) ty pos after guard) K:=by
 intro K' Q hK
 obtain ⟨callee,args,argTypes⟩:=c
 simp only at hc hargs hs
 subst hc
 obtain rfl:=arr2 hargs
 unfold delN at hs
 split at hs
 ·rename_i ty0 kt0 h2
  obtain rfl:=arr2 h2
  split at hs
  ·rename_i kt et kd z cs ht hd
   haveI:=(hT.ty _ _ ht).1
   split at hs
   ·rename_i hkt
    obtain rfl:=Nat.eq_of_beq_eq_true hkt
    split at hs
    ·rename_i kd' es hcc
     split at hs
     ·rename_i kv hk
      split at hs
      ·rename_i hb
       simp only [Bool.and_eq_true] at hb
       obtain rfl:=sameKD_eq hb.1
       simp only [putObj,forceH_eq,forceL_eq] at hs
       obtain ⟨v0,hv0,hsl⟩:=h.at hx
       obtain ⟨y,hy,_,hrep,_⟩:=h.nameC hd hcc
       obtain rfl:v0=y:=Option.some.inj (hsl.2.symm.trans hy)
       obtain ⟨b,clock,ents,rfl,hown,hh,he,hf⟩:=hrep.mp_inv
       obtain ⟨q1,r1⟩:=h.eval k
       refine r_delete rfl (ev_tmp' hv0) hh he.1 hf (keyV_eq r1 hk) hb.2 fun ents' clock' he' hst => ?_
       obtain ⟨t1,f1⟩:=h.setMapC (clock':=clock') hd hy hown hh ⟨he',hst he.2⟩ (delV_fit hf)
       exact hK _ S _ a hs t1 f1
      ·exact hs.elim
     ·exact hs.elim
    ·exact hs.elim
   ·exact hs.elim
  ·exact hs.elim
 ·exact hs.elim
theorem sealAt_ok {M:Nat→Bool} {fr:List D} {x v:Nat} (h:sealAt M fr x dst=some v):objAt fr (.tmp x)=some (v,0):=by
 unfold sealAt at h
 split at h
 ·split at h
  ·split at h
   ·cases h;assumption
   ·cases h
  ·cases h
 ·cases h
theorem seal_sound {fr:List D} {x v:Nat} (h:FR S w a fr) (hx:objAt fr (.tmp x)=some (v,0)) (hs:sealD fr v dst K):StepOk P S w a (Oper.mk dst (.assign (.tmp x)) ty pos after guard) K:=by
 intro K' Q hK
 obtain ⟨cs0,hd0,hev⟩:=h.objAt hx
 obtain ⟨p0,hp0,hsl0⟩:=h.at hd0
 obtain ⟨b,_,_,rfl,_,hloc,_⟩:=hsl0.1.obj_inv
 unfold sealD at hs
 split at hs
 ·rename_i cs hd
  rw [forceL_eq] at hs
  obtain ⟨S1,t1,f1⟩:=frzSs_sound v cs.length h
  split at hs
  ·rename_i cs1 hd1
   split at hs
   ·rw [forceL_eq] at hs
    have f2:=f1.wipe (wipeB v) (wipeB_or v)
    split at hs
    ·rename_i hsafe
     split at hs
     ·rename_i cs2 hd2
      split at hs
      ·rename_i hone
       rw [forceL_eq] at hs
       obtain ⟨S2,t2,f3⟩:=f2.freezeObj hd2 hone hsafe
       have hlt:v < ((frzSs v cs.length fr).map (wipeB v)).length:=(gLt hd2)
       obtain ⟨p,hp,hsl⟩:=f3.at (List.getElem?_set_self hlt)
       obtain rfl:p=.pointer (some ⟨b,0,none⟩):=Option.some.inj (hp.symm.trans hp0)
       have hfz:Fz S2.lim w (.pointer (some ⟨b,0,none⟩)) (.ptr cs2):=by
        have:=hsl.1
        cases this with
        |fz h=>exact h
       obtain ⟨fr',k1,k2⟩:=putD_sound (dst:=dst) f3 (.fz hfz) (fun t ht=>(hfz.men ht).elim) hs
       exact r_assign (by rw [hev,hloc]) (hK fr' S2 w _ k1 (t1.trans t2) k2)
      ·exact hs.elim
     ·exact hs.elim
    ·exact hs.elim
   ·exact hs.elim
  ·exact hs.elim
 ·exact hs.elim
theorem stepN_sound (hT:TOk P T Z) {fr:List D} (h:FR S w a fr) (hs:stepN P T Z M o fr K):StepOk P S w a o K:=by
 have base:stepD P T Z M o fr K→StepOk P S w a o K:=fun h'=>stepD_sound hT h h'
 obtain ⟨dst,op,ty,pos,after,guard⟩:=o
 unfold stepN at hs
 simp only at hs
 split at hs
 ·split at hs
  ·exact (nameMove_sound h hs).1
  ·exact (nameMove_sound h hs).1
  ·exact (nameMove_sound h hs).1
  ·exact base hs
 ·split at hs
  ·exact (nameMove_sound h hs).2
  ·exact (nameMove_sound h hs).2
  ·exact (nameMove_sound h hs).2
  ·split at hs
   ·rename_i hsl
    exact seal_sound h (sealAt_ok hsl) hs
   ·exact base hs
 ·split at hs
  ·rename_i hd;exact nameNil_sound h (.inl ⟨_,_,_,_,hd⟩) hs
  ·rename_i hd;exact nameNil_sound h (.inr ⟨_,_,_,_,_,hd⟩) hs
  ·exact base hs
 ·split at hs
  ·rename_i x sz k j hd
   split at hs
   ·rename_i ht
    split at hs
    ·rename_i off n ag hf
     haveI:=(hT.ty _ _ ht).2.1 _ _ _ _ hf
     split at hs
     ·rename_i t
      split at hs
      ·rename_i hne
       have hne':x ≠ t:=fun e=>by subst e;simp at hne
       obtain ⟨v,hv,hsl⟩:=h.at hd
       obtain ⟨⟨d',g1,g2,_⟩,s,g3,g4⟩:=hsl
       obtain ⟨b,rfl,g5⟩:=elAt_field (off:=off) g4
       obtain ⟨fr',k1,k2⟩:=putNm_sound (dst:=some t) (d:=.es x sz k (j+off)) h rfl (fun t' e=>by cases e;exact ⟨⟨d',g1,g2,hne'⟩,s,g3,g5⟩) hs
       exact fun K' Q hK=>r_fieldAddr (ev_tmp' hv) (hK fr' S w _ k1 (Trans.refl S w) k2)
      ·exact hs.elim
     ·exact hs.elim
    ·exact hs.elim
   ·exact hs.elim
  ·rename_i x c sz k j hd
   split at hs
   ·rename_i ht
    split at hs
    ·rename_i off n ag hf
     haveI:=(hT.ty _ _ ht).2.1 _ _ _ _ hf
     obtain ⟨v,hv,hsl⟩:=h.at hd
     obtain ⟨g1,s,g3,g4⟩:=hsl
     obtain ⟨b,rfl,g5⟩:=elAt_field (off:=off) g4
     obtain ⟨fr',k1,k2⟩:=putNm_sound (dst:=dst) (d:=.el x c sz k (j+off)) h rfl (fun t' e=>(⟨g1,s,g3,g5⟩:SlotRep S w a fr t' _ (.el x c sz k (j+off)))) hs
     exact fun K' Q hK=>r_fieldAddr (ev_tmp' hv) (hK fr' S w _ k1 (Trans.refl S w) k2)
    ·exact hs.elim
   ·exact hs.elim
  ·exact base hs
 ·rename_i t y
  split at hs
  ·rename_i u off hx
   split at hs
   ·rename_i cs hd
    split at hs
    ·rename_i sz rows hc
     split at hs
     ·rename_i e sz' by' zc ki j ht hy
      split at hs
      ·rename_i he
       obtain rfl:=Nat.eq_of_beq_eq_true he
       obtain ⟨⟨h0,h1⟩,hput⟩:=hs
       haveI:=(hT.ty _ _ ht).1
       haveI:=(hT.ty _ _ ht).2.1
       obtain ⟨v,hv,hsl⟩:=h.at hx
       obtain ⟨v',hv',hs'⟩:=h.at hd
       have hrep:=hs'.1.obj_cell hc hsl.2
       obtain ⟨q,hq⟩:=h.eval y
       rw [hy] at hq
       rcases hrep.sl_inv with ⟨_,rfl⟩|⟨b,cap,cur,e2,rfl,g⟩
       ·simp at h1;omega
       ·obtain ⟨fr',k1,k2⟩:=putNm_sound (dst:=dst) (v:=.pointer (some ⟨b,0+j.toNat * sz',none⟩)) (d:=.el u off sz' j.toNat 0) h rfl (fun t' e=>(⟨hsl.1,_,hsl.2,b,_,_,rfl,by rw [Nat.zero_add,Nat.add_zero]⟩:SlotRep S w a fr t' _ (.el u off sz' j.toNat 0))) hput
        exact fun K' Q hK=>r_indexAddr (ev_tmp' hv) hq.int_inv h0 h1 (hK fr' S w _ k1 (Trans.refl S w) k2)
      ·exact hs.elim
     ·exact hs.elim
    ·exact base hs
   ·exact base hs
  ·split at hs
   ·rename_i u hu
    split at hs
    ·split at hs
     ·rename_i sz rows hd
      split at hs
      ·rename_i e sz' by' zc ki j ht hy
       split at hs
       ·rename_i he
        obtain rfl:=Nat.eq_of_beq_eq_true he
        split at hs
        ·rename_i d
         split at hs
         ·rename_i hne
          have hne':u ≠ d:=fun e=>by subst e;simp at hne
          obtain ⟨⟨h0,h1⟩,hput⟩:=hs
          haveI:=(hT.ty _ _ ht).1
          haveI:=(hT.ty _ _ ht).2.1
          have hev:=root_eval h hu
          obtain ⟨v,hv,hsl⟩:=h.at hd
          obtain rfl:v=a.eval (.tmp t):=Option.some.inj (hv.symm.trans hev)
          obtain ⟨q,hq⟩:=h.eval y
          rw [hy] at hq
          rcases hsl.1.sl_inv with ⟨_,rfl⟩|⟨b,cap,cur,e2,he2,g⟩
          ·simp at h1;omega
          ·obtain ⟨fr',k1,k2⟩:=putNm_sound (dst:=some d) (v:=.pointer (some ⟨b,0+j.toNat * sz',none⟩)) (d:=.es u sz' j.toNat 0) h rfl (fun t' e=>by cases e;exact ⟨⟨_,hd,rfl,hne'⟩,_,hv,b,_,_,he2,by rw [Nat.zero_add,Nat.add_zero]⟩) hput
           exact fun K' Q hK=>r_indexAddr he2 hq.int_inv h0 h1 (hK fr' S w _ k1 (Trans.refl S w) k2)
         ·exact hs.elim
        ·exact hs.elim
       ·exact hs.elim
      ·exact hs.elim
     ·exact base hs
    ·exact base hs
   ·exact base hs
 ·split at hs
  ·rename_i x sz k j hd
   split at hs
   ·rename_i sz' rows hr
    split at hs
    ·rename_i he
     obtain rfl:=Nat.eq_of_beq_eq_true he
     obtain ⟨v,hv,hsl⟩:=h.at hd
     obtain ⟨s,m,q,h1,h2⟩:=rowsN_es h hsl hr
     exact loadR_sound hT h hv h1 h2 hs
    ·exact hs.elim
   ·exact hs.elim
  ·rename_i x c sz k j hd
   split at hs
   ·rename_i sz' rows hr
    split at hs
    ·rename_i he
     obtain rfl:=Nat.eq_of_beq_eq_true he
     obtain ⟨v,hv,hsl⟩:=h.at hd
     obtain ⟨s,m,q,h1,h2⟩:=rowsN_el h hsl hr
     exact loadR_sound hT h hv h1 h2 hs
    ·exact hs.elim
   ·exact hs.elim
  ·rename_i x off hd
   split at hs
   ·rename_i hc
    split at hs
    ·rename_i ht;exact loadC_sound hT h ht rfl (by simp only [objAt,hd]) hc hs
    ·rename_i ht;exact loadC_sound hT h ht rfl (by simp only [objAt,hd]) hc hs
    ·exact base hs
   ·exact base hs
  ·rename_i cs hd
   split at hs
   ·rename_i hc
    split at hs
    ·rename_i ht;exact loadC_sound hT h ht rfl (by simp only [objAt,hd]) hc hs
    ·rename_i ht;exact loadC_sound hT h ht rfl (by simp only [objAt,hd]) hc hs
    ·exact base hs
   ·exact base hs
  ·exact base hs
 ·rename_i ty0 u v
  split at hs
  ·split at hs
   ·rw [forceL_eq] at hs
    obtain ⟨S1,t1,h1⟩:=frz1_sound h v
    exact (storeNm_sound hT h1 hs).ghost t1
   ·exact hs.elim
  ·split at hs
   ·rw [forceL_eq] at hs
    obtain ⟨S1,t1,h1⟩:=frz1_sound h v
    exact (storeNm_sound hT h1 hs).ghost t1
   ·exact hs.elim
  ·split at hs
   ·split at hs
    ·have giveA_case:giveA T ty0 u v fr K (stepD P T Z M (Oper.mk none (.store ty0 (.tmp u) v) ty pos after guard) fr K)→StepOk P S w a (Oper.mk none (.store ty0 (.tmp u) v) ty pos after guard) K:=fun hs=>by
      unfold giveA at hs
      split at hs
      ·rename_i x
       split at hs
       ·rename_i cs hd
        split at hs
        ·split at hs
         ·rename_i ho
          split at hs
          ·rename_i hu
           split at hs
           ·rename_i ti ht
            split at hs
            ·rename_i hb
             simp only [Bool.and_eq_true] at hb
             simp only [forceL_eq,putObj,forceH_eq] at hs
             exact giveA_sound hT h ht hd ho hu (Nat.eq_of_beq_eq_true hb.1) (Nat.eq_of_beq_eq_true hb.2.1) hb.2.2 hs
            ·exact hs.elim
           ·exact hs.elim
          ·exact base hs
         ·exact base hs
        ·exact base hs
       ·exact base hs
      ·exact base hs
     unfold giveD at hs
     split at hs
     ·rename_i hx hr
      split at hs
      ·rename_i hd
       split at hs
       ·rename_i hsl
        split at hs
        ·rename_i ht
         split at hs
         ·rename_i hlt
          have hlt:=Nat.lt_of_succ_le (Nat.le_of_ble_eq_true hlt)
          simp only [forceL_eq,putObj,forceH_eq] at hs
          exact give_sound hT h ht hx hr hd hsl hlt hs
         ·exact hs.elim
        ·exact hs.elim
       ·exact giveA_case hs
      ·exact giveA_case hs
     ·exact giveA_case hs
    ·exact base hs
   ·exact base hs
  ·exact base hs
 ·split at hs
  ·split at hs
   ·rename_i c hcal s xs hargs
    rw [forceL_eq] at hs
    obtain ⟨S1,t1,h1⟩:=takeN_sound h s
    exact (stepD_sound hT h1 hs).ghost t1
   ·exact hs.elim
  ·rename_i c hcal
   split at hs
   ·rename_i hargs
    split at hs
    ·rename_i hx
     exact delN_sound hT h hcal hargs hx hs
    ·exact base hs
   ·exact base hs
  ·exact base hs
 ·exact base hs
end
end Go.Proofs.YtindehjiaknokaaGreatDoor
namespace Go.Proofs.YtindehjiaknokaaGreatDoor
set_option linter.unusedSimpArgs false
set_option linter.unusedVariables false
open Go.RowKit
variable {K:List D→Prop} {w:World}
section
variable {P:Program} {T:Nat→Option TI} {Z:Nat→Option (List Value)} {M:Nat→Bool}
theorem wanted_cond {S:Sig} {a:Act} {fr:List D} {l:List Oper} {o:Oper} {j:Nat} {want c:Bool} (h:FR S w a fr) (hg:o.guard=some (j,want)) (hc:condOf l fr j want=some c):Region.wanted o (yielded l.toArray a.tmps)=c:=by
 unfold condOf at hc
 split at hc
 ·rename_i oj hj
  split at hc
  ·rename_i t ht
   have hy:∀ v,a.tmps[t]?=some v→((l.toArray[j]?).bind (·.dst)).bind (a.tmps[·]?)=some v:=fun v hv=>by
    simp only [List.getElem?_toArray,hj,Option.bind_some,ht,hv]
   split at hc
   ·rename_i b hd
    obtain ⟨v,hv,hs⟩:=h.at hd
    obtain rfl:=hs.1.bool_inv
    refine wanted_at hg (hy _ hv) ?_
    cases want<;>simp only [Option.some.injEq] at hc<;>subst hc<;>simp [boolOf]
   ·rename_i c0 b hd
    obtain ⟨v,hv,hs⟩:=h.at hd
    obtain ⟨k1,k0⟩:=hs.1.gd_inv
    refine wanted_at hg (hy _ hv) ?_
    cases c0 with
    |true=>
     obtain rfl:=(Rep.fz (S:=S) (p:=.dead) (k1 rfl)).bool_inv
     cases want<;>simp only [Option.some.injEq] at hc<;>subst hc<;>simp [boolOf]
    |false=>
     rw [k0 rfl]
     cases want<;>simp only [Option.some.injEq] at hc<;>subst hc<;>simp [boolOf,undef]
   ·cases hc
  ·cases hc
 ·cases hc
theorem gds_rep {S:Sig} {w:World} {a:Act} {fr:List D} (h:FR S w a fr):∀ (xs:List Operand),holds (gds (evalD fr) xs)→∀ x ∈ xs,∃ q,Rep S w q (a.eval x) (strip (evalD fr x))
 |[],_,x,hx=>by cases hx
 |y::xs,hg,x,hx=>by
  simp only [gds] at hg
  have key:holds (gds (evalD fr) xs)∧∃ q,Rep S w q (a.eval y) (strip (evalD fr y)):=by
   obtain ⟨q,hq⟩:=h.eval y
   split at hg
   ·rename_i c d hy
    rw [hy] at hq ⊢
    split at hg
    ·rename_i hn
     rw [hn]
     exact ⟨trivial,.dead,.fz (hq.gd_inv.1 hg)⟩
    ·rename_i p hp
     rw [hp]
     exact ⟨hg.2,.dead,.fz (hq.gd_inv.1 hg.1)⟩
   ·rename_i hn
    refine ⟨hg,q,?_⟩
    generalize evalD fr y=d at hq hn ⊢
    cases d with
    |gd c d=>exact absurd rfl (hn c d)
    |_=>exact hq
  rcases List.mem_cons.1 hx with rfl|hx
  ·exact key.2
  ·exact gds_rep h xs key.1 x hx
theorem refOk_gd {fr:List D} {c:Bool} {d:D}:RefOk fr (.gd c d):=fun t ht=>by cases ht
theorem loadG_sound (hT:TOk P T Z) {S:Sig} {a:Act} {fr:List D} {ty0 u off:Nat} {x:Operand} {c:Bool} {dst:Option Nat} {ty:TypeId} {pos:String} {after:Array Edge} {guard:Option (Nat × Bool)} (h:FR S w a fr) (hev:c=true→a.eval x=.pointer (some ⟨S.loc (u+2),off,none⟩)) (hs:loadG T ty0 u off c dst fr K):
  (c=true→StepOk P S w a (Oper.mk dst (.load ty0 x) ty pos after guard) K)∧(c=false→∃ fr',K fr'∧FR S w (a.put dst undef) fr'):=by
 have skip:∀ {d:D},putD fr dst (.gd c d) K→c=false→∃ fr',K fr'∧FR S w (a.put dst undef) fr':=fun hp hc=>by
  subst hc
  exact putD_sound h (.fz (.gd (fun e=>by cases e) (fun _=>rfl))) refOk_gd hp
 unfold loadG at hs
 split at hs
 ·rename_i cs hd
  obtain ⟨cv,hcv⟩:=h.loadObj hd
  split at hs
  ·rename_i n fl ks ht
   haveI:=(hT.ty _ _ ht).1
   split at hs
   ·rename_i hb
    simp only [Bool.and_eq_true] at hb
    have hle:=Nat.le_of_ble_eq_true hb.1
    refine ⟨fun hc K' Q hK => ?_,fun hc=>skip hs hc⟩
    have hcell:∀ j,j < n→∃ d,((cs.drop off).take n)[j]?=some d∧w.cell? ⟨S.loc (u+2),off+j,none⟩=some (cv (off+j))∧(cv (off+j)).oneCell'=true∧Fz S.lim w (cv (off+j)) d:=fun j hj=>by
     have hjl:off+j < cs.length:=by omega
     have hg:((cs.drop off).take n)[j]?=some cs[off+j]:=by rw [List.getElem?_take,if_pos hj,List.getElem?_drop,List.getElem?_eq_getElem hjl]
     obtain ⟨h1,h2,h3⟩:=hcv _ _ (List.getElem?_eq_getElem hjl)
     exact ⟨_,hg,h1,h2,D.one_fz h3 (List.all_eq_true.1 hb.2 _ (gMem hg))⟩
    have hfz:Fz S.lim w (.agg ((List.range n).map fun j=>cv (off+j)).toArray) (.agg ((cs.drop off).take n)):=by
     refine .agg _ (by simp;omega) (fun v hv => ?_) fun j d v hj hv => ?_
     ·obtain ⟨j,hj,rfl⟩:=List.mem_map.1 hv
      obtain ⟨d,_,_,h2,_⟩:=hcell j (List.mem_range.1 hj)
      exact h2
     ·have hjn:j < n:=by have:=(gLt hv);simpa using this
      rw [List.getElem?_map,List.getElem?_range hjn] at hv
      cases hv
      obtain ⟨d',h1,_,_,h4⟩:=hcell j hjn
      rw [hj] at h1
      cases h1
      exact h4
    obtain ⟨fr',k1,k2⟩:=putD_sound (dst:=dst) h (.fz (.gd (fun _=>hfz) (fun e=>by rw [hc] at e;cases e))) refOk_gd hs
    refine r_loadN (cs:=(List.range n).map fun j=>cv (off+j)) (hev hc) (fun j v hv => ?_) (by simp) (hK fr' S w _ k1 (Trans.refl S w) k2)
    have hjn:j < n:=by have:=(gLt hv);simpa using this
    rw [List.getElem?_map,List.getElem?_range hjn] at hv
    cases hv
    obtain ⟨d',_,h2,_⟩:=hcell j hjn
    exact h2
   ·exact hs.elim
  ·rename_i i hi ht
   haveI:=(hT.ty _ _ ht).one (fun n fl ks e=>hi n fl ks e)
   split at hs
   ·rename_i sz0 rows0 hd'
    refine ⟨fun hc K' Q hK => ?_,fun hc=>skip hs hc⟩
    obtain ⟨y,hy,_,hrep,_⟩:=h.nameC hd hd'
    have hfz:Fz S.lim w y (.sl 0 sz0 rows0):=(Rep.le (.own sz0 rows0) hrep).passes rfl
    obtain ⟨fr',k1,k2⟩:=putD_sound (dst:=dst) h (.fz (.gd (fun _=>hfz) (fun e=>by rw [hc] at e;cases e))) refOk_gd hs
    exact r_load1 (hev hc) hy (hK fr' S w _ k1 (Trans.refl S w) k2)
   ·rename_i d _ hd'
    split at hs
    ·rename_i ho
     refine ⟨fun hc K' Q hK => ?_,fun hc=>skip hs hc⟩
     obtain ⟨h1,h2,h3⟩:=hcv _ _ hd'
     have hfz:=D.one_fz h3 ho
     obtain ⟨fr',k1,k2⟩:=putD_sound (dst:=dst) h (.fz (.gd (fun _=>hfz) (fun e=>by rw [hc] at e;cases e))) refOk_gd hs
     exact r_load1 (hev hc) h1 (hK fr' S w _ k1 (Trans.refl S w) k2)
    ·exact hs.elim
   ·exact hs.elim
  ·exact hs.elim
 ·exact hs.elim
theorem newG_frz {S:Sig} {a:Act} {fr:List D} {t sz:Nat} {d0:D} {v:Value} {rows:List (List D)} (h:FR S w a fr) (hd:fr[t]?=some d0) (hn:d0.isObj=false) (hr:Rep S w (dstPlace (some t)) v (.sl 2 sz rows)):
  ∃ S',Trans S w S' w∧FR S' w a ((fr.map (unal t .any)).set t .any)∧Fz S'.lim w v (.sl 0 sz rows):=by
 rcases hr.sl_inv with ⟨rfl,rfl⟩|⟨b,cap,cur,e,rfl,g⟩
 ·exact ⟨S,Trans.refl S w,h.forget hd hn,.slNil 0 sz⟩
 ·have hb:BT S w (S.set b none) w b:=BT.ghost h.wf g.own (by simp [dstPlace,Place.slot]) (fun y hy=>by cases hy)
  have hf:Fz (S.set b none).lim w (.slice (some ⟨b,0,none⟩) rows.length cap) (.sl 0 sz rows):=g.fz2 (fun h=>h.trans hb.tr) rfl (fun k _ s hs=>by simp [Sig.lim,S.set_at] at hs)
  exact ⟨_,hb.tr,h.rebuild hb g.own rfl hd hn (fun v' p hv'=>.fz (.any _)) (fun t ht=>by cases ht) (fun v' hv'=>.fz (.any _)) (fun t ht=>by cases ht),hf⟩
theorem gstep_sound (hT:TOk P T Z) {S:Sig} {a:Act} {fr:List D} {o:Oper} {c:Bool} (h:FR S w a fr) (hs:gstepD P T Z o c fr K):
  (c=true→StepOk P S w a o K)∧(c=false→∃ fr',K fr'∧FR S w (a.put o.dst undef) fr'):=by
 obtain ⟨dst,op,ty,pos,after,guard⟩:=o
 have skip:∀ {d:D},putD fr dst (.gd c d) K→c=false→∃ fr',K fr'∧FR S w (a.put dst undef) fr':=fun hp hc=>by
  subst hc
  exact putD_sound h (.fz (.gd (fun e=>by cases e) (fun _=>rfl))) refOk_gd hp
 have rest:∀ {xs:List Operand},xs=op.operands.toList→(opD P T Z (fun x=>strip (evalD fr x)) op fun s d=>andO (under c (gds (evalD fr) xs) s) (match d.passes with|true=>putD fr dst (.gd c d) K|false=>newG dst c d fr K))→
   (c=true→StepOk P S w a ⟨dst,op,ty,pos,after,guard⟩ K)∧(c=false→∃ fr',K fr'∧FR S w (a.put dst undef) fr'):=by
  intro xs hxs hs
  subst hxs
  obtain ⟨s,d,h1,h3⟩:=opD_sound (dst:=dst) (ty:=ty) (pos:=pos) (after:=after) (guard:=guard) hT hs
  obtain ⟨hu,h2⟩:=andO_iff.1 h1
  clear h1
  split at h2
  ·rename_i hp
   refine ⟨fun hc => ?_,fun hc=>skip h2 hc⟩
   obtain ⟨hg,hs'⟩:=under_holds hu hc
   intro K' Q hK
   refine h3 hs' S w a (dstPlace dst) h.wf (fun x hx=>gds_rep h _ hg x hx) K' Q fun v S' w' hpt hr hm => ?_
   obtain ⟨fr',k1,k2⟩:=putD_sound (v:=v) (h.drop hpt) (.fz (.gd (fun _=>hr.passes hp) (fun e=>by rw [hc] at e;cases e))) refOk_gd h2
   exact hK fr' S' w' _ k1 hpt.trans k2
  ·unfold newG at h2
   split at h2
   ·rename_i sz rows t _ _
    split at h2
    ·rename_i d0 hd0
     split at h2
     ·rename_i hob
      rw [forceL_eq] at h2
      refine ⟨fun hc => ?_,fun hc => ?_⟩
      ·obtain ⟨hg,hs'⟩:=under_holds hu hc
       intro K' Q hK
       refine h3 hs' S w a (dstPlace (some t)) h.wf (fun x hx=>gds_rep h _ hg x hx) K' Q fun v S' w' hpt hr hm => ?_
       obtain ⟨S2,t2,f2,z2⟩:=newG_frz (h.drop hpt) hd0 hob hr
       obtain ⟨fr',k1,k2⟩:=putD_sound (dst:=some t) (v:=v) f2 (.fz (.gd (fun _=>z2) (fun e=>by rw [hc] at e;cases e))) refOk_gd h2
       exact hK fr' S2 w' _ k1 (hpt.trans.trans t2) k2
      ·subst hc
       exact putD_sound (dst:=some t) (h.forget hd0 hob) (.fz (.gd (fun e=>by cases e) (fun _=>rfl))) refOk_gd h2
     ·exact h2.elim
    ·exact h2.elim
   ·exact h2.elim
 have tmp_ev:∀ {t:Nat} {v:Value},a.tmps[t]?=some v→a.eval (.tmp t)=v:=fun hv=>by simp [Act.eval,Array.getD_eq_getD_getElem?,hv]
 unfold gstepD at hs
 simp only at hs
 split at hs
 ·rename_i cc x y
  obtain ⟨s,r,hp,h12⟩:=pickD_inv hs
  obtain ⟨h1,h2⟩:=andO_iff.1 h12
  refine ⟨fun hc => ?_,fun hc=>skip h2 hc⟩
  obtain ⟨hg,hs'⟩:=under_holds h1 hc
  obtain ⟨p,h3,h4⟩:=pickR_sound (gds_rep h [cc] hg cc (by simp)) (h.eval _) (h.eval _) hp hs'
  intro K' Q hK
  refine pick_run h3 ?_
  rw [h4]
  obtain ⟨fr',k1,k2⟩:=putD_sound (v:=.bool r) h (.fz (.gd (fun _=>.bool r) (fun e=>by rw [hc] at e;cases e))) refOk_gd h2
  exact hK fr' S w _ k1 (Trans.refl S w) k2
 ·rename_i u
  split at hs
  ·rename_i ds hd
   obtain ⟨_,_,r3⟩:=ref_rep h hd 0
   have hown:S.own (S.loc (u+2))=some (.slot u,0):=by
    obtain ⟨v0,hv0,hs0⟩:=h.at hd
    obtain ⟨b,cur,e,_,hb,hloc,_⟩:=hs0.1.obj_inv
    rw [hloc]
    exact hb
   have hro:RefOk fr (.gref c u 0):=fun t ht=>by cases ht;exact ⟨ds,hd⟩
   refine ⟨fun hc K' Q hK => ?_,fun hc => ?_⟩
   ·obtain ⟨fr',k1,k2⟩:=putD_sound (dst:=dst) (v:=.pointer (some ⟨S.loc (u+2),0,none⟩)) h (.gref hown (by rw [if_pos hc])) hro hs
    exact r_move (tmp_ev r3) (hK fr' S w _ k1 (Trans.refl S w) k2)
   ·exact putD_sound h (.gref hown (by rw [if_neg (by rw [hc];decide)])) hro hs
  ·exact rest rfl hs
 ·rename_i u
  split at hs
  ·rename_i c' x off hd
   obtain ⟨hcc,hs⟩:=hs
   obtain ⟨v,hv,hsl⟩:=h.at hd
   have hro:RefOk fr (.gref c x off):=fun t ht=>hsl.2 t (by cases ht;constructor)
   cases hsl.1 with
   |fz h=>cases h
   |gref hown hv2=>
    refine ⟨fun hc K' Q hK => ?_,fun hc => ?_⟩
    ·rw [if_pos (hcc hc)] at hv2
     obtain ⟨fr',k1,k2⟩:=putD_sound (dst:=dst) (v:=.pointer (some ⟨S.loc (x+2),off,none⟩)) h (.gref hown (by rw [if_pos hc])) hro hs
     exact r_nilCheck ((tmp_ev hv).trans hv2) (hK fr' S w _ k1 (Trans.refl S w) k2)
    ·exact putD_sound h (.gref hown (by rw [if_neg (by rw [hc];decide)])) hro hs
  ·exact rest rfl hs
 ·rename_i ty0 u i
  split at hs
  ·rename_i ds hd
   split at hs
   ·rename_i ht
    split at hs
    ·rename_i off n ag hfl
     haveI:=(hT.ty _ _ ht).2.1 _ _ _ _ hfl
     obtain ⟨r1,r2,_⟩:=ref_rep h hd off
     obtain ⟨_,_,r3⟩:=ref_rep h hd 0
     have hown:S.own (S.loc (u+2))=some (.slot u,0):=by
      obtain ⟨v0,hv0,hs0⟩:=h.at hd
      obtain ⟨b,cur,e,_,hb,hloc,_⟩:=hs0.1.obj_inv
      rw [hloc]
      exact hb
     have hro:RefOk fr (.gref c u off):=fun t ht=>by cases ht;exact ⟨ds,hd⟩
     refine ⟨fun hc K' Q hK => ?_,fun hc => ?_⟩
     ·obtain ⟨fr',k1,k2⟩:=putD_sound (dst:=dst) (v:=.pointer (some ⟨S.loc (u+2),off,none⟩)) h (.gref hown (by rw [if_pos hc])) hro hs
      refine r_fieldAddr (tmp_ev r3) (by rw [Nat.zero_add];exact hK fr' S w _ k1 (Trans.refl S w) k2)
     ·exact putD_sound h (.gref hown (by rw [if_neg (by rw [hc];decide)])) hro hs
    ·exact hs.elim
   ·exact hs.elim
  ·rename_i c' x off0 hd
   split at hs
   ·rename_i ht
    split at hs
    ·rename_i off n ag hfl
     haveI:=(hT.ty _ _ ht).2.1 _ _ _ _ hfl
     obtain ⟨hcc,hs⟩:=hs
     obtain ⟨v,hv,hsl⟩:=h.at hd
     have hro:RefOk fr (.gref c x (off0+off)):=fun t ht=>hsl.2 t (by cases ht;constructor)
     cases hsl.1 with
     |fz h=>cases h
     |gref hown hv2=>
      refine ⟨fun hc K' Q hK => ?_,fun hc => ?_⟩
      ·rw [if_pos (hcc hc)] at hv2
       obtain ⟨fr',k1,k2⟩:=putD_sound (dst:=dst) (v:=.pointer (some ⟨S.loc (x+2),off0+off,none⟩)) h (.gref hown (by rw [if_pos hc])) hro hs
       exact r_fieldAddr ((tmp_ev hv).trans hv2) (hK fr' S w _ k1 (Trans.refl S w) k2)
      ·exact putD_sound h (.gref hown (by rw [if_neg (by rw [hc];decide)])) hro hs
    ·exact hs.elim
   ·exact hs.elim
  ·exact rest rfl hs
 ·rename_i ty0 x
  split at hs
  ·rename_i c' u off hd
   obtain ⟨hcc,hs⟩:=hs
   obtain ⟨v,hv,hsl⟩:=h.at hd
   refine loadG_sound hT h (fun hc => ?_) hs
   rw [tmp_ev hv]
   cases hsl.1 with
   |fz h=>cases h
   |gref g hv=>rw [hv,if_pos (hcc hc)]
  ·rename_i ds hd
   obtain ⟨_,_,r3⟩:=ref_rep h hd 0
   exact loadG_sound hT h (fun _=>tmp_ev r3) hs
  ·exact rest rfl hs
 ·exact rest rfl hs
theorem prepG_sound {S:Sig} {a:Act} {fr:List D} (h:FR S w a fr) (o:Oper):∃ S',Trans S w S' w∧FR S' w a (prepG o fr):=by
 have key:∀ u off,∃ S',Trans S w S' w∧FR S' w a (downC1 u off fr):=fun u off=>by
  unfold downC1
  split
  ·rename_i hd
   split
   ·rename_i hc;exact h.downC hd hc
   ·exact ⟨S,Trans.refl S w,h⟩
  ·exact ⟨S,Trans.refl S w,h⟩
 unfold prepG
 split
 ·split
  ·exact key _ _
  ·exact key _ _
  ·exact ⟨S,Trans.refl S w,h⟩
 ·exact ⟨S,Trans.refl S w,h⟩
theorem vcOps_sound (hT:TOk P T Z) {l:List Oper} {Q:Exit→Act→World→Prop} {K:List D→Prop}:∀ (r:List Oper) {S:Sig} {w:World} {a:Act} {fr:List D},FR S w a fr→vcOps P T Z M l r fr K→
  (∀ fr' S' w' a',K fr'→Trans S w S' w'→FR S' w' a' fr'→Q .normal a' w')→wpList P l.toArray Q r a w
 |[],S,w,a,fr,h,hs,hK=>wpList_nil (hK fr S w a hs (Trans.refl S w) h)
 |[o],S,w,a,fr,h,hs,hK=>by
  simp only [vcOps] at hs
  split at hs
  ·rename_i hg
   refine wpList_plain hg fun K' hK'=>stepN_sound hT h hs K' Q fun fr' S' w' a' k t f=>hK' _ _ (wpList_nil (hK fr' S' w' a' k t f))
  ·rename_i j want hg
   split at hs
   ·rename_i c hc
    have hw:=wanted_cond h hg hc
    split at hs
    ·unfold wpList
     rw [hw]
     cases c with
     |true=>
      rw [if_pos rfl]
      exact .inl (stepN_sound hT h (hs.t rfl) _ Q fun fr' S' w' a' k t f=>wpList_nil (hK fr' S' w' a' k t f))
     |false=>
      rw [if_neg (by simp)]
      obtain ⟨fr',k,f⟩:=putD_sound h (.fz (.gd (fun e=>by cases e) (fun _=>rfl))) refOk_gd (hs.f rfl)
      exact wpList_nil (hK fr' S w _ k (Trans.refl S w) f)
    ·rw [forceL_eq] at hs
     obtain ⟨S1,t1,h1⟩:=prepG_sound h o
     obtain ⟨g1,g0⟩:=gstep_sound hT h1 hs
     unfold wpList
     rw [hw]
     cases c with
     |true=>
      rw [if_pos rfl]
      exact .inl (g1 rfl _ Q fun fr' S' w' a' k t f=>wpList_nil (hK fr' S' w' a' k (t1.trans t) f))
     |false=>
      rw [if_neg (by simp)]
      obtain ⟨fr',k,f⟩:=g0 rfl
      exact wpList_nil (hK fr' S1 w _ k t1 f)
   ·exact hs.elim
 |o::o2::r,S,w,a,fr,h,hs,hK=>by
  simp only [vcOps] at hs
  split at hs
  ·rename_i hg
   split at hs
   ·rename_i ty hfa
    have hop:o.op=.alloc ty:=by
     unfold isFrzAlloc at hfa
     split at hfa
     ·rename_i ty' hop
      split at hfa
      ·split at hfa
       ·cases hfa
       ·cases hfa;exact hop
      ·cases hfa
     ·cases hfa
    exact pairD_sound hT h hop hs hg fun fr' S' w' a' k t f=>vcOps_sound hT r f k fun fr'' S'' w'' a'' k2 t2 f2=>hK fr'' S'' w'' a'' k2 (t.trans t2) f2
   ·split at hs
    ·exact boxB_sound hT h hs hg fun fr' S' w' a' k t f=>vcOps_sound hT r f k fun fr'' S'' w'' a'' k2 t2 f2=>hK fr'' S'' w'' a'' k2 (t.trans t2) f2
    refine wpList_plain hg fun K' hK'=>stepN_sound hT h hs K' Q fun fr' S' w' a' k t f=>hK' _ _ ?_
    exact vcOps_sound hT (o2::r) f k fun fr'' S'' w'' a'' k2 t2 f2=>hK fr'' S'' w'' a'' k2 (t.trans t2) f2
  ·rename_i j want hg
   split at hs
   ·rename_i c hc
    have hw:=wanted_cond h hg hc
    split at hs
    ·unfold wpList
     rw [hw]
     cases c with
     |true=>
      rw [if_pos rfl]
      exact .inl (stepN_sound hT h (hs.t rfl) _ Q fun fr' S' w' a' k t f=>vcOps_sound hT (o2::r) f k fun fr'' S'' w'' a'' k2 t2 f2=>hK fr'' S'' w'' a'' k2 (t.trans t2) f2)
     |false=>
      rw [if_neg (by simp)]
      obtain ⟨fr',k,f⟩:=putD_sound h (.fz (.gd (fun e=>by cases e) (fun _=>rfl))) refOk_gd (hs.f rfl)
      exact vcOps_sound hT (o2::r) f k fun fr'' S'' w'' a'' k2 t2 f2=>hK fr'' S'' w'' a'' k2 t2 f2
    ·rw [forceL_eq] at hs
     obtain ⟨S1,t1,h1⟩:=prepG_sound h o
     obtain ⟨g1,g0⟩:=gstep_sound hT h1 hs
     unfold wpList
     rw [hw]
     cases c with
     |true=>
      rw [if_pos rfl]
      exact .inl (g1 rfl _ Q fun fr' S' w' a' k t f=>vcOps_sound hT (o2::r) f k fun fr'' S'' w'' a'' k2 t2 f2=>hK fr'' S'' w'' a'' k2 ((t1.trans t).trans t2) f2)
     |false=>
      rw [if_neg (by simp)]
      obtain ⟨fr',k,f⟩:=g0 rfl
      exact vcOps_sound hT (o2::r) f k fun fr'' S'' w'' a'' k2 t2 f2=>hK fr'' S'' w'' a'' k2 (t1.trans t2) f2
   ·exact hs.elim
end
end Go.Proofs.YtindehjiaknokaaGreatDoor
namespace Go.Proofs.YtindehjiaknokaaGreatDoor
set_option linter.unusedSimpArgs false
set_option linter.unusedVariables false
open Go.RowKit
variable {w:World}
def frz1d:D→D
 |.sl _ sz rows=>.sl 0 sz rows
 |.mp _ _=>.any
 |d=>d
def D.frz:D→D
 |.sl _ sz rows=>.sl 0 sz rows
 |.mp _ _=>.any
 |.agg cs=>.agg (cs.map frz1d)
 | .tup ds=>.tup (ds.map fun d=>match d with
  |.agg cs=>.agg (cs.map frz1d)
  | d=>frz1d d)
 |d=>d
def frzQ (d:D):D:=match d.passes with
 |true=>d
 |false=>d.frz
def okQ (d:D):Bool:=match d.passes with
 |true=>true
 |false=>match d with
  |.tup ds=>ds.all fun d=>match d with
   |.agg cs=>cs.all D.calm1
   |d=>d.calm1
  |.agg cs=>cs.all D.calm1
  |.sl _ _ _=>true
  |_=>false
def evalQ (fr0 fr:List D):Operand→D
 |.tmp t=>match fr[t]? with
  |some (.al u)=>(fr0[u]?).getD .any
  |some (.obj cs)=>match fr0[t]? with
   |some (.obj _)=>.obj cs
   |_=>.any
  |some (.alc _ _)=>.any
  |some (.el _ _ _ _ _)=>.any
  |some (.nsl _ _ _)=>.any
  |some (.nagg _ _ _ _ _)=>.any
  |some d=>d
  |none=>.any
 |x=>evalD [] x
def opG (P:Program) (T:Nat→Option TI) (Z:Nat→Option (List Value)) (fr0 fr:List D) (c:Bool) (op:Op) (K:D→Prop):Prop:=
 opD P T Z (fun x=>strip (evalQ fr0 fr x)) op fun s d=>andO (under c (gds (evalQ fr0 fr) op.operands.toList) s) (match d.passes with
  |true=>force (.gd c d) K
  | false=>False)
def stepQ (P:Program) (T:Nat→Option TI) (Z:Nat→Option (List Value)) (all:List Oper) (cs:Nat) (fr0 fr:List D) (o:Oper) (K:D→Prop):Prop:=
 match o.guard with
 |none=>match o.op with
  |.move (.tmp u)=>match Nat.beq u cs with
   |true=>match fr0[u]? with
    |some _=>K (.al u)
    |none=>False
   |false=>match fr[u]? with
    |some (.sl (_+1) _ _)=>match fr0[u]? with
     |some (.sl (_+1) _ _)=>K (.al u)
     |_=>False
    |some (.al u')=>match Nat.beq u' cs with
     |true=>match fr0[u']? with
      |some _=>K (.al u')
      |none=>False
     |false=>match fr0[u']? with
      |some (.sl (_+1) _ _)=>K (.al u')
      |_=>False
    |some (.obj _)=>match fr0[u]? with
     |some (.obj _)=>K (.ref u 0)
     |_=>False
    |some (.ref x off)=>match fr0[x]? with
     |some (.obj _)=>K (.ref x off)
     |_=>False
    | _=>opD P T Z (evalQ fr0 fr) o.op fun s d=>andO s (match okQ d with
     |true=>force (frzQ d) K
     | false=>False)
  |.pick c x y=>pickD (evalQ fr0 fr c) x y (evalQ fr0 fr) fun s d=>andO s (force d K)
  |.alloc ty=>match Z ty with
   |some zc=>match zc.all Value.oneCell' with
    |true=>force (.obj (zeroD zc)) K
    |false=>False
   |none=>False
  |.fieldAddr ty (.tmp u) i=>match fr0[u]? with
   |some (.obj _)=>match T ty with
    |some (.st _ fl _)=>match fl[i]? with
     |some (off,_+1,_)=>K (.ref u off)
     |_=>False
    |_=>False
   |_=>match fr[u]? with
    |some (.ref x off0)=>match fr0[x]? with
     |some (.obj _)=>match T ty with
      |some (.st _ fl _)=>match fl[i]? with
       |some (off,_+1,_)=>K (.ref x (off0+off))
       |_=>False
      |_=>False
     |_=>False
    |some (.el x c0 sz k j)=>match T ty with
     |some (.st _ fl _)=>match fl[i]? with
      |some (off,_+1,_)=>match fr0[x]? with
       |some (.obj _)=>K (.el x c0 sz k (j+off))
       |_=>False
      |_=>False
     |_=>False
    | _=>opD P T Z (evalQ fr0 fr) o.op fun s d=>andO s (match okQ d with
    |true=>force (frzQ d) K
    | false=>False)
  |.nilCheck (.tmp u)=>match fr[u]? with
   |some (.ref x off)=>match fr0[x]? with
    |some (.obj _)=>K (.ref x off)
    |_=>False
   | _=>opD P T Z (evalQ fr0 fr) o.op fun s d=>andO s (match okQ d with
    |true=>force (frzQ d) K
    | false=>False)
  |.load ty (.tmp u)=>match fr[u]? with
   |some (.ref x off)=>match fr0[x]? with
    |some (.obj ds)=>match ds[off]? with
     |some (.sl 2 _ _)=>match T ty with
      |some (.sl _ _ _ _)=>K (.alc x off)
      |_=>False
     |some (.sl 1 sz rows)=>match T ty with
      |some (.sl _ _ _ _)=>force (.sl 0 sz rows) K
      |_=>False
     |some d=>match d.one with
      |true=>match T ty with
       |some (.st _ _ _)=>False
       |some _=>force d K
       |none=>False
      |false=>False
     |none=>False
    |_=>False
   |some (.el x c sz k j)=>match fr0[x]? with
    |some (.obj ds)=>match ds[c]? with
     |some (.sl 2 sz' rows)=>match Nat.beq sz' sz with
      |true=>match T ty with
       |some (.st _ _ _)=>False
       | some _=>IdxE fun r=>SideD (0≤Int.ofNat k∧rows[(Int.ofNat k).toNat]?=some r) (match r[j]? with
        |some d=>match d.one with
         |true=>force d K
         |false=>False
        | none=>False)
       |none=>False
      |false=>False
     |_=>False
    |_=>False
   | _=>opD P T Z (evalQ fr0 fr) o.op fun s d=>andO s (match okQ d with
    |true=>force (frzQ d) K
    | false=>False)
  |.indexAddr ty (.tmp t) y=>match fr[t]? with
   |some (.alc x off)=>match fr0[x]? with
    |some (.obj ds)=>match ds[off]? with
     |some (.sl 2 sz rows)=>match T ty,evalQ fr0 fr y with
      |some (.sl _ sz' _ _),.int _ j=>match Nat.beq sz' sz with
       |true=>SideD (0≤j∧j < rows.length) (K (.el x off sz j.toNat 0))
       |false=>False
      |_,_=>False
     |_=>False
    |_=>False
   | _=>opD P T Z (evalQ fr0 fr) o.op fun s d=>andO s (match okQ d with
    |true=>force (frzQ d) K
    | false=>False)
  | _=>opD P T Z (evalQ fr0 fr) o.op fun s d=>andO s (match okQ d with
   |true=>force (frzQ d) K
   | false=>False)
 |some (j,want)=>match condOf all fr j want with
  |some c=>match o.op with
   |.pick cc x y=>pickD (strip (evalQ fr0 fr cc)) x y (evalQ fr0 fr) fun s d=>andO (under c (gds (evalQ fr0 fr) [cc]) s) (K (.gd c d))
   |.move (.tmp u)=>match fr0[u]? with
    |some (.obj _)=>K (.gref c u 0)
    |_=>opG P T Z fr0 fr c o.op K
   |.nilCheck (.tmp u)=>match fr[u]? with
    |some (.gref c' x off)=>match fr0[x]? with
     |some (.obj _)=>SideD (c=true→c'=true) (K (.gref c x off))
     |_=>False
    |_=>opG P T Z fr0 fr c o.op K
   |.fieldAddr ty (.tmp u) i=>match fr[u]? with
    |some (.gref c' x off0)=>match fr0[x]? with
     |some (.obj _)=>match T ty with
      |some (.st _ fl _)=>match fl[i]? with
       |some (off,_+1,_)=>SideD (c=true→c'=true) (K (.gref c x (off0+off)))
       |_=>False
      |_=>False
     |_=>False
    |_=>opG P T Z fr0 fr c o.op K
   |.load ty (.tmp u)=>match fr[u]? with
    |some (.gref c' x off)=>match fr0[x]? with
     |some (.obj ds)=>match ds[off]? with
      |some (.sl 1 sz rows)=>match T ty with
       |some (.sl _ _ _ _)=>SideD (c=true→c'=true) (force (.gd c (.sl 0 sz rows)) K)
       |_=>False
      |some d=>match d.one with
       |true=>match T ty with
        |some (.st _ _ _)=>False
        |some _=>SideD (c=true→c'=true) (force (.gd c d) K)
        |none=>False
       |false=>False
      |none=>False
     |_=>False
    |_=>opG P T Z fr0 fr c o.op K
   |_=>opG P T Z fr0 fr c o.op K
  |none=>False
def writeQ (P:Program) (cs:Nat) (d0:D) (fr0 fr:List D) (o:Oper) (K:D→Prop):Prop:=
 match o.guard with
 |some _=>False
 |none=>match o.op with
  |.call c=>match c.callee with
   |.value (.func f)=>match c.args.toList with
    |.tmp t::xs=>match Nat.beq t cs || (match fr[t]? with|some (.al u)=>Nat.beq u cs|_=>false) with
     |true=>match d0 with
      | .sl (m+1) sz rows=>CallO fun d out=>SideD (GivesO P f (.sl (m+1) sz rows) (xs.map (evalQ fr0 fr)) d out) (match okQ d with
       |true=>force (frzQ d) K
       | false=>False)
      |_=>False
     |false=>False
    |_=>False
   |_=>False
  |_=>False
def vcQ (P:Program) (T:Nat→Option TI) (Z:Nat→Option (List Value)) (all:List Oper) (k cs:Nat) (d0:D) (fr0:List D):Nat→List Oper→List D→(List D→Prop)→Prop
 |_,[],fr,K=>K fr
 |i,o::r,fr,K=>
  let K':=fun d=>match o.dst with
   |none=>vcQ P T Z all k cs d0 fr0 (i+1) r fr K
   |some t=>match fr[t]? with
    |some d1=>match d1.owns || Nat.beq t cs with
     |false=>forceL (fr.set t d) fun fr=>vcQ P T Z all k cs d0 fr0 (i+1) r fr K
     |true=>False
    |none=>False
  match Nat.beq i k with
  |false=>stepQ P T Z all cs fr0 fr o K'
  |true=>writeQ P cs d0 fr0 fr o K'
section
variable {P:Program} {T:Nat→Option TI} {Z:Nat→Option (List Value)}
theorem fresh_place (S:Sig) (w:World) (hw:WF S w):∃ p:Place,p.r ≠ 0∧p.path ≠ []∧∀ b x,S.own b=some x→¬ x.1.under p:=by
 have key:∀ n,∃ N,∀ b x,b < n→S.own b=some x→∀ y ∈ x.1.path,y < N:=by
  intro n
  induction n with
  |zero=>exact ⟨0,fun b x hb=>by omega⟩
  |succ n ih=>
   obtain ⟨N,hN⟩:=ih
   have hl:∀ l:List Nat,∃ M,∀ y ∈ l,y < M:=by
    intro l
    induction l with
    |nil=>exact ⟨0,fun y hy=>by cases hy⟩
    |cons x l ih=>
     obtain ⟨M,hM⟩:=ih
     exact ⟨max M (x+1),fun y hy=>by
      rcases List.mem_cons.1 hy with rfl|hy
      ·omega
      ·have:=hM y hy;omega⟩
   cases ho:S.own n with
   | none=>exact ⟨N,fun b x hb hx=>by
     by_cases hbn:b=n
     ·subst hbn;rw [ho] at hx;cases hx
     ·exact hN b x (by omega) hx⟩
   |some z=>
    obtain ⟨M,hM⟩:=hl z.1.path
    exact ⟨max N M,fun b x hb hx y hy=>by
     by_cases hbn:b=n
     ·subst hbn;rw [ho] at hx;cases hx;have:=hM y hy;omega
     ·have:=hN b x (by omega) hx y hy;omega⟩
 obtain ⟨N,hN⟩:=key w.heap.size
 refine ⟨⟨2,[N]⟩,by simp,by simp,fun b x hx hu => ?_⟩
 obtain ⟨_,l,hl⟩:=hu
 have:=hN b x (hw b x hx) hx N (by rw [hl];simp)
 omega
theorem Fz.frz1 {lim:Nat→Option Nat} {v:Value} {d:D} (h:Fz lim w v d):Fz lim w v (frz1d d):=by
 cases d with
 |sl m sz rows=>
  cases h with
  |slNil=>exact .slNil 0 sz
  |slE=>exact .slE _ sz
  |sl cv a1 a2 a3 a4 a5=>exact .sl cv a1 a2 a3 a4 a5
 |mp es=>exact .any _
 |_=>exact h
theorem unown {S S':Sig} {w':World} (hw:WF S w) (hp:PT S w S' w') {p:Place} (hf:∀ b x,S.own b=some x→¬ x.1.under p) {v:Value} {d:D} (hr:Rep S' w' p v d) (ho:okQ d=true):Fz S.lim w' v (frzQ d):=by
 have hlim:∀ {v:Value} {d:D},Fz S'.lim w' v d→Fz S.lim w' v d:=fun h=>h.monoL fun b s hs=>by
  by_cases hb:b < w.heap.size
  ·simp only [Sig.lim,hp.own b hb]
   exact hs
  ·exfalso
   simp only [Sig.lim] at hs
   cases hx:S.own b with
   |none=>rw [hx] at hs;cases hs
   |some x=>exact hb (hw b x hx)
 have one:∀ {q:Place} {v:Value} {d:D},q.under p→Rep S' w' q v d→d.calm1=true→Fz S.lim w' v (frz1d d):=by
  intro q v d hq hr hc
  cases hr with
  |fz h=>exact hlim h.frz1
  |@own _ b cap m sz rows cur e g=>
   have hb:¬ b < w.heap.size:=fun hb=>hf b _ ((hp.own b hb).symm.trans g.own) hq
   have hnone:S.own b=none:=by
    cases hx:S.own b with
    |none=>rfl
    |some x=>exact absurd (hw b x hx) hb
   exact g.fz2 hlim rfl fun k _ s hs=>by simp [Sig.lim,hnone] at hs
  |mp=>exact .any _
  |obj=>cases hc
  |ref=>cases hc
  |gref=>cases hc
  |fn=>cases hc
  |agg=>cases hc
  |tup=>cases hc
 have agg:∀ {q:Place} {v:Value} {cs:List D},q.under p→Rep S' w' q v (.agg cs)→cs.all D.calm1=true→Fz S.lim w' v (.agg (cs.map frz1d)):=by
  intro q v cs hq hr hc
  obtain ⟨vs,rfl,h1,h2,h3⟩:=hr.agg_inv
  refine .agg vs (by simp [h1]) h2 fun j d u hd hu => ?_
  rw [List.getElem?_map] at hd
  cases hcj:cs[j]? with
  |none=>rw [hcj] at hd;cases hd
  |some e=>
   rw [hcj] at hd
   cases hd
   exact one (Place.under_trans (Place.at_under _ j) hq) (h3 j e u hcj hu) (List.all_eq_true.1 hc e (gMem hcj))
 unfold frzQ
 split
 ·rename_i hpass
  exact hlim (hr.passes hpass)
 ·rename_i hpass
  unfold okQ at ho
  rw [hpass] at ho
  simp only at ho
  split at ho
  ·rename_i ds
   obtain ⟨vs,rfl,h1,h3⟩:=hr.tup_inv
   refine .tup vs (by simp [h1]) fun j d u hd hu => ?_
   rw [List.getElem?_map] at hd
   cases hcj:ds[j]? with
   |none=>rw [hcj] at hd;cases hd
   |some e=>
    rw [hcj] at hd
    cases hd
    have hc1:=List.all_eq_true.1 ho e (gMem hcj)
    have h4:=h3 j e u hcj hu
    have hu':=Place.at_under p j
    cases e with
    |agg cs=>exact agg hu' h4 hc1
    |_=>exact one hu' h4 hc1
  ·exact agg (Place.under_refl p) hr ho
  ·exact one (Place.under_refl p) hr rfl
  ·cases ho
def Sig.drop (S:Sig) (u:Nat):Sig:=⟨fun b=>match mine u (S.own b) with
 |true=>none
 | false=>S.own b,S.loc⟩
theorem drop_own {S:Sig} {u b:Nat} (h:mine u (S.own b)=false):(S.drop u).own b=S.own b:=by
 simp only [Sig.drop,h]
theorem drop_some {S:Sig} {u b:Nat} {x:Place × Nat} (h:(S.drop u).own b=some x):S.own b=some x∧mine u (S.own b)=false:=by
 simp only [Sig.drop] at h
 split at h
 ·cases h
 ·exact ⟨h,by assumption⟩
theorem drop_lim {S:Sig} {u:Nat} {v:Value} {d:D} (h:Fz S.lim w v d):Fz (S.drop u).lim w v d:=h.monoL fun b s hs=>by
 simp only [Sig.lim] at hs
 cases hx:(S.drop u).own b with
 |none=>rw [hx] at hs;cases hs
 |some x=>
  rw [hx] at hs
  simp only [Sig.lim]
  rw [(drop_some hx).1]
  exact hs
theorem drop_wf {S:Sig} {u:Nat} (h:WF S w):WF (S.drop u) w:=⟨fun b x hx=>h b x (drop_some hx).1,h.gl.sig fun b hb=>by
 cases hx:(S.drop u).own b with
 |none=>rfl
 | some x=>rw [(drop_some hx).1] at hb;cases hb⟩
theorem unhand {S S':Sig} {w':World} {u:Nat} (hw:WF S w) (ht:Trans (S.hand u) w S' w') {v:Value} {d:D} (hr:Rep S' w' .res v d) (ho:okQ d=true):Fz (S.drop u).lim w' v (frzQ d):=by
 have hold:∀ b x,(S.drop u).own b=some x→S'.own b=some (.dead,x.2):=fun b x hx=>by
  obtain ⟨h1,h2⟩:=drop_some hx
  have:=(hand_old ht (hw b x h1) h2).2
  rw [this,h1]
  rfl
 have hlim:∀ {v:Value} {d:D},Fz S'.lim w' v d→Fz (S.drop u).lim w' v d:=fun h=>h.monoL fun b s hs=>by
  simp only [Sig.lim] at hs
  cases hx:(S.drop u).own b with
  |none=>rw [hx] at hs;cases hs
  |some x=>
   rw [hx] at hs
   simp only [Sig.lim]
   rw [hold b x hx]
   exact hs
 have one:∀ {q:Place} {v:Value} {d:D},q.r=1→Rep S' w' q v d→d.calm1=true→Fz (S.drop u).lim w' v (frz1d d):=by
  intro q v d hq hr hc
  cases hr with
  |fz h=>exact hlim h.frz1
  |@own _ b cap m sz rows cur e g=>
   have hnone:(S.drop u).own b=none:=by
    cases hx:(S.drop u).own b with
    |none=>rfl
    |some x=>
     have h1:=hold b x hx
     rw [g.own] at h1
     have h2:=congrArg Prod.fst (Option.some.inj h1)
     simp only at h2
     rw [h2] at hq
     cases hq
   exact g.fz2 hlim rfl fun k _ s hs=>by simp [Sig.lim,hnone] at hs
  |mp=>exact .any _
  |obj=>cases hc
  |ref=>cases hc
  |gref=>cases hc
  |fn=>cases hc
  |agg=>cases hc
  |tup=>cases hc
 have agg:∀ {q:Place} {v:Value} {cs:List D},q.r=1→Rep S' w' q v (.agg cs)→cs.all D.calm1=true→Fz (S.drop u).lim w' v (.agg (cs.map frz1d)):=by
  intro q v cs hq hr hc
  obtain ⟨vs,rfl,h1,h2,h3⟩:=hr.agg_inv
  refine .agg vs (by simp [h1]) h2 fun j d u hd hu => ?_
  rw [List.getElem?_map] at hd
  cases hcj:cs[j]? with
  |none=>rw [hcj] at hd;cases hd
  |some e=>
   rw [hcj] at hd
   cases hd
   exact one (q:=q.at j) hq (h3 j e u hcj hu) (List.all_eq_true.1 hc e (gMem hcj))
 unfold frzQ
 split
 ·rename_i hpass
  exact hlim (hr.passes hpass)
 ·rename_i hpass
  unfold okQ at ho
  rw [hpass] at ho
  simp only at ho
  split at ho
  ·rename_i ds
   obtain ⟨vs,rfl,h1,h3⟩:=hr.tup_inv
   refine .tup vs (by simp [h1]) fun j d u hd hu => ?_
   rw [List.getElem?_map] at hd
   cases hcj:ds[j]? with
   |none=>rw [hcj] at hd;cases hd
   |some e=>
    rw [hcj] at hd
    cases hd
    have hc1:=List.all_eq_true.1 ho e (gMem hcj)
    have h4:=h3 j e u hcj hu
    cases e with
    |agg cs=>exact agg (q:=Place.res.at j) rfl h4 hc1
    |_=>exact one (q:=Place.res.at j) rfl h4 hc1
  ·exact agg rfl hr ho
  ·exact one rfl hr rfl
  ·cases ho
end
end Go.Proofs.YtindehjiaknokaaGreatDoor
namespace Go.Proofs.YtindehjiaknokaaGreatDoor
set_option linter.unusedSimpArgs false
set_option linter.unusedVariables false
open Go.RowKit
variable {Q:Exit→Act→World→Prop} {S S':Sig} {a a0:Act} {c cs n0 off u:Nat} {fs:List (World→Prop)} {l:List Oper} {o:Oper} {w w' w0:World}
def NewB (S:Sig) (n0:Nat) (cs:List D) (v:Value) (w:World):Prop:=∃ (b:Nat) (e:TypeId) (zc:List Value),v=.pointer (some ⟨b,0,none⟩)∧n0≤b∧S.own b=none∧w.heap[b]?=some (.cells zc.toArray e (0,0))∧cs=zeroD zc∧zc.all Value.oneCell'=true
def NewS (S:Sig) (n0 sz n:Nat) (z:List D) (v:Value) (w:World):Prop:=∃ (b cap:Nat) (cur:Array Value) (e:TypeId),v=.slice (some ⟨b,0,none⟩) n cap∧n0≤b∧S.own b=none∧w.heap[b]?=some (.cells cur e (0,0))∧1≤n∧n≤cap∧cap≤maxLen∧cur.size=cap * sz∧z.length=sz∧
 ∀ (k j:Nat) (d:D),k < n→z[j]?=some d→∃ u,cur[k * sz+j]?=some u∧u.oneCell'=true∧d.flat1=true∧Fz S.lim w u d
def NewA (S:Sig) (n0:Nat) (cs:List D) (off sz n:Nat) (z:List D) (v:Value) (w:World):Prop:=∃ (us:List Value) (u:Value),v=.agg us.toArray∧us.length=cs.length∧(∀ x:Value,x ∈ us→x.oneCell'=true)∧us[off]?=some u∧NewS S n0 sz n z u w∧
 ∀ (j:Nat) (d:D) (x:Value),j ≠ off→cs[j]?=some d→us[j]?=some x→d.one=true∧Fz S.lim w x d
theorem flat1_any {lim lim':Nat→Option Nat} {u:Value} {d:D} (h:d.flat1=true) (hf:Fz lim w u d):Fz lim' w' u d:=by
 cases d with
 |int k n=>cases hf;exact .int k n
 |bool b=>cases hf;exact .bool b
 |str s=>cases hf;exact .str s
 |_=>cases h
theorem NewS.keep {sz n:Nat} {z:List D} {v:Value} (hk:∀ b,b < w.heap.size→S.own b=none→w'.heap[b]?=w.heap[b]?) (h:NewS S n0 sz n z v w):NewS S n0 sz n z v w':=by
 obtain ⟨b,cap,cur,e,h1,h2,h3,h4,h5,h6,h7,h8,h9,h10⟩:=h
 refine ⟨b,cap,cur,e,h1,h2,h3,(hk b (Array.getElem?_eq_some_iff.1 h4).1 h3).trans h4,h5,h6,h7,h8,h9,fun k j d g1 g2 => ?_⟩
 obtain ⟨u,u1,u2,u3,u4⟩:=h10 k j d g1 g2
 exact ⟨u,u1,u2,u3,flat1_any u3 u4⟩
theorem NewA.keep {cs:List D} {sz n:Nat} {z:List D} {v:Value} (hk:∀ b,b < w.heap.size→S.own b=none→w'.heap[b]?=w.heap[b]?) (hf:∀ {x:Value} {d:D},Fz S.lim w x d→Fz S.lim w' x d) (h:NewA S n0 cs off sz n z v w):NewA S n0 cs off sz n z v w':=by
 obtain ⟨us,u,h1,h2,h3,h4,h5,h6⟩:=h
 exact ⟨us,u,h1,h2,h3,h4,h5.keep hk,fun j d x g1 g2 g3=>⟨(h6 j d x g1 g2 g3).1,hf (h6 j d x g1 g2 g3).2⟩⟩
def Fact (S:Sig) (n0:Nat) (a0:Act) (d:D) (v:Value) (w:World):Prop:=WF S w∧match d with
 |.al u=>v=a0.eval (.tmp u)
 |.ref u off=>v=.pointer (some ⟨S.loc (u+2),off,none⟩)
 |.gref c u off=>v=if c=true then .pointer (some ⟨S.loc (u+2),off,none⟩) else undef
 |.obj cs=>NewB S n0 cs v w
 |.alc u off=>w.cell? ⟨S.loc (u+2),off,none⟩=some v
 |.el u off sz k j=>∃ s,w.cell? ⟨S.loc (u+2),off,none⟩=some s∧ElAt s sz k j v
 |.nsl sz n z=>NewS S n0 sz n z v w
 |.nagg cs off sz n z=>NewA S n0 cs off sz n z v w
 |d=>Fz S.lim w v d
theorem NewB.mono {cs:List D} {v:Value} (hx:Ext w w') (h:NewB S n0 cs v w):NewB S n0 cs v w':=by
 obtain ⟨b,e,zc,h1,h2,h3,h4,h5⟩:=h
 have hb:b < w.heap.size:=(Array.getElem?_eq_some_iff.1 h4).1
 exact ⟨b,e,zc,h1,h2,h3,(hx.block hb).trans h4,h5⟩
theorem ext_cell {b o:Nat} {v:Value} (hx:Ext w w') (h:w.cell? ⟨b,o,none⟩=some v):w'.cell? ⟨b,o,none⟩=some v:=by
 rw [World.cell?_of_block (a:=⟨b,o,none⟩) (w:=w) (hx.block (cell_lt h))]
 exact h
theorem Fact.mono {d:D} {v:Value} (hx:Ext w w') (h:Fact S n0 a0 d v w):Fact S n0 a0 d v w':=by
 have hp:=PT.ext' h.1 hx
 refine ⟨hp.wf,?_⟩
 have h2:=h.2
 cases d with
 |al u=>exact h2
 |ref u off=>exact h2
 |gref c u off=>exact h2
 |obj cs=>exact NewB.mono hx h2
 |alc u off=>exact ext_cell hx h2
 |el u off sz k j=>
  obtain ⟨s,h3,h4⟩:=h2
  exact ⟨s,ext_cell hx h3,h4⟩
 |nsl sz n z=>exact NewS.keep (fun b hb _=>hx.block hb) h2
 |nagg cs off sz n z=>exact NewA.keep (fun b hb _=>hx.block hb) (fun h=>h.trans hp.trans) h2
 |_=>exact h2.trans hp.trans
def factSpec (S:Sig) (n0:Nat) (a0:Act) (d:D):Spec:=⟨fun u=>u.2.2,fun u w=>Fact S n0 a0 d u.2.2 w,fun _ _ _ hx h=>h.mono hx⟩
structure Rw (S:Sig) (u:Nat) (w w':World):Prop where
 os:w'.os=w.os
 tape:w'.tape=w.tape
 output:w'.output=w.output
 size:w.heap.size≤w'.heap.size
 same:∀ b,b < w.heap.size→mine u (S.own b)=false→w'.heap[b]?=w.heap[b]?
 held:∀ b p l,S.own b=some (p,l)→p.r=u+2→Keeps l w.heap[b]? w'.heap[b]?
theorem Rw.ext (h:Ext w w'):Rw S u w w':=by
 refine ⟨h.os,h.tape,h.output,h.sizeOf,fun b hb _=>h.block hb,fun b p l _ _ => ?_⟩
 by_cases hb:b < w.heap.size
 ·exact Keeps.of_eq (h.block hb)
 ·intro cur e fz hh
  rw [Array.getElem?_eq_none (by omega)] at hh
  cases hh
theorem Rw.comp {a b c:World} (h:Rw S u a b) (k:Rw S u b c):Rw S u a c:=
 ⟨k.os.trans h.os,k.tape.trans h.tape,k.output.trans h.output,Nat.le_trans h.size k.size,fun i hi hn=>(k.same i (Nat.lt_of_lt_of_le hi h.size) hn).trans (h.same i hi hn),fun i p l hl hr=>(h.held i p l hl hr).trans (k.held i p l hl hr) (Nat.le_refl _)⟩
theorem Rw.wf (h:Rw S u w w') (hw:WF S w):WF S w':=⟨fun b x hx=>Nat.lt_of_lt_of_le (hw b x hx) h.size,hw.gl.keep fun b hb hn=>⟨h.same b hb (by rw [hn];rfl),hn⟩⟩
theorem Rw.to (h:Rw S u w w') (hS:S'=S∨S'=S.drop u):Trans S w S' w':=by
 refine ⟨h.os,h.tape,h.output,h.size,fun b hb hn => ?_,fun b p l hb hs hd => ?_,fun b p l hb hs => ?_,by rcases hS with rfl|rfl<;>rfl⟩
 ·have hno:mine u (S.own b)=false:=by rw [hn];rfl
  refine ⟨h.same b hb hno,?_⟩
  rcases hS with rfl|rfl
  ·exact hn
  ·rw [drop_own hno,hn]
 ·have hno:mine u (S.own b)=false:=by rw [hs];simp [mine,hd]
  refine ⟨h.same b hb hno,?_⟩
  rcases hS with rfl|rfl
  ·exact hs
  ·rw [drop_own hno,hs]
 ·refine ⟨?_,fun x hx => ?_⟩
  ·by_cases hno:mine u (S.own b)=false
   ·exact Keeps.of_eq (h.same b hb hno)
   ·have hq:p.r=u+2:=by rw [hs] at hno;simpa [mine] using hno
    exact h.held b p l hs hq
  ·have:S.own b=some x:=by
    rcases hS with rfl|rfl
    ·exact hx
    ·exact (drop_some hx).1
   rw [hs] at this
   cases this
   exact Nat.le_refl _
theorem Rw.rep (h:Rw S u w w') (hw:WF S w) (hS:S'=S∨S'=S.drop u) {fr:List D} (hno:∀ cs,fr[u]? ≠ some (.obj cs)) {i:Nat} (hi:i ≠ u) {v:Value} {e:D} (hr:Rep S w (.slot i) v e) (hf:RefOk fr e):Rep S' w' (.slot i) v e:=by
 have old:∀ b q l,S.own b=some (q,l)→q.r ≠ u+2→w'.heap[b]?=w.heap[b]?∧S'.own b=some (q,l):=fun b q l hs hq=>by
  have hno:mine u (S.own b)=false:=by rw [hs];simp [mine,hq]
  refine ⟨h.same b (hw _ _ hs) hno,?_⟩
  rcases hS with rfl|rfl
  ·exact hs
  ·rw [drop_own hno,hs]
 have hloc:S'.loc=S.loc:=by rcases hS with rfl|rfl<;>rfl
 refine hr.trans hw (h.to hS) (by rw [hloc]) (fun b q l hs hu=>old b q l hs fun e => ?_) (fun _=>by rw [hloc]) fun t hm ho=>⟨by rw [hloc],(old _ _ _ ho fun e => ?_).2⟩
 ·have:=hu.1
  simp only [Place.slot] at this
  omega
 ·obtain ⟨cs,hc⟩:=hf t hm
  simp only [Place.slot] at e
  have:t=u:=by omega
  subst this
  exact hno cs hc
def lateOf (l:Array Oper) (c:Nat) (i:Nat):Bool:=decide (i=c) || reachB l l.size i c
def lateOk (l:Array Oper) (c:Nat):Bool:=(List.range l.size).all fun i=>match l[i]? with
 |some o=>o.after.all fun e => !Region.binds .any e || !lateOf l c e.on || (lateOf l c i && !decide (i=c))
 |none=>true
def ways (S:Sig) (l:Array Oper) (c u:Nat):Ways:=⟨Rw S u,c,lateOf l c,fun _ _ h=>Rw.ext h,fun _ _ _ h k=>h.comp k⟩
def sg (S:Sig) (l:Array Oper) (c u i:Nat):Sig:=if lateOf l c i=true then S.drop u else S
theorem late_dep {l:Array Oper} {i:Nat} (h:lateOk l c=true) (ho:l[i]?=some o) {e:Edge} (he:e ∈ o.after.toList) (hb:Region.binds .any e=true) (hl:lateOf l c e.on=true):lateOf l c i=true∧i ≠ c:=by
 have h1:=List.all_eq_true.1 h i (by simpa using (Array.getElem?_eq_some_iff.1 ho).1)
 simp only [ho] at h1
 have h2:=Array.all_eq_true'.1 h1 e (by simpa using he)
 simpa [hb,hl] using h2
def AlOk (fr0:List D) (cs u:Nat):Prop:=(u=cs∧∃ e,fr0[u]?=some e)∨∃ d',fr0[u]?=some d'∧d'.owns=true
def NmOk (fr0:List D) (cs:Nat):D→Prop
 |.al u=>AlOk fr0 cs u
 |.ref u _ | .gref _ u _ | .alc u _ | .el u _ _ _ _=>∃ c,fr0[u]?=some (.obj c)
 |_=>True
structure QInv (S:Sig) (l:Array Oper) (c cs n0:Nat) (a0:Act) (fr0:List D) (pre:List Oper) (fs:List (World→Prop)) (a:Act) (fr:List D):Prop where
 size:a.tmps.size=fr.length
 len:fr.length=fr0.length
 defers:a.defers = []
 fslen:fs.length=pre.length
 slot:∀ (t:Nat) (d:D),fr[t]?=some d→(a.tmps[t]?=a0.tmps[t]?∧fr0[t]?=some d)∨
  ∃ (k:Nat) (o:Oper) (v:Value),pre[k]?=some o∧o.dst=some t∧a.tmps[t]?=some v∧fs[k]?=some (Fact (sg S l c cs k) n0 a0 d v)∧NmOk fr0 cs d
 own:∀ (u:Nat) (d:D),fr0[u]?=some d→d.owns=true→fr[u]?=some d∧a.tmps[u]?=a0.tmps[u]?
 keep:a.tmps[cs]?=a0.tmps[cs]?
theorem QInv.slot' {l:Array Oper} {fr0:List D} {pre:List Oper} {fr:List D} (h:QInv S l c cs n0 a0 fr0 pre fs a fr) (t:Nat) (d:D) (hd:fr[t]?=some d):(a.tmps[t]?=a0.tmps[t]?∧fr0[t]?=some d)∨
  (∃ (k:Nat) (o:Oper) (v:Value),pre[k]?=some o∧o.dst=some t∧a.tmps[t]?=some v∧fs[k]?=some (Fact (sg S l c cs k) n0 a0 d v)∧NmOk fr0 cs d)∧∀ x,d=.obj x→∀ c',fr0[t]? ≠ some (.obj c'):=by
 rcases h.slot t d hd with h1|h1
 ·exact .inl h1
 ·by_cases hob:∃ c',fr0[t]?=some (.obj c')
  ·obtain ⟨c',hc'⟩:=hob
   obtain ⟨g1,g2⟩:=h.own t _ hc' rfl
   rw [hd] at g1
   cases g1
   exact .inl ⟨g2,hc'⟩
  ·exact .inr ⟨h1,fun x _ c' e=>hob ⟨c',e⟩⟩
structure QC (S:Sig) (l:List Oper) (c cs:Nat) (a0:Act) (frF fr0:List D) (w0:World):Prop where
 hF:FR S w0 a0 frF
 hX:fr0=frF.set cs .any
 hno:∀ x,frF[cs]? ≠ some (.obj x)
 hok:parOk l.toArray=true
 hlate:lateOk l.toArray c=true
 nonm:∀ (i:Nat) (d:D),frF[i]?=some d→d.nm3=false
theorem QC.isNm {frF fr0:List D} (h:QC S l c cs a0 frF fr0 w0) {i:Nat} {d:D} (hd:frF[i]?=some d) (hn:∀ x,d ≠ .al x):d.isNm=false:=by
 have:=h.nonm i d hd
 cases d<;>first|rfl|(cases this;done)|exact absurd rfl (hn _)
theorem QC.other {frF fr0:List D} (h:QC S l c cs a0 frF fr0 w0) {i:Nat} (hi:i ≠ cs):fr0[i]?=frF[i]?:=by rw [h.hX,List.getElem?_set_ne (Ne.symm hi)]
theorem QC.at_cs {frF fr0:List D} (h:QC S l c cs a0 frF fr0 w0) {d:D} (hd:fr0[cs]?=some d):d=.any:=by
 rw [h.hX] at hd
 have hlt:=(gLt hd)
 rw [List.getElem?_set_self (by simpa using hlt)] at hd
 cases hd
 rfl
theorem QC.hold {frF fr0:List D} (h:QC S l c cs a0 frF fr0 w0) (hR:Rw S cs w0 w) (hS:S'=S∨S'=S.drop cs) {i:Nat} {d:D} {v:Value} (hd:fr0[i]?=some d) (hv:a0.tmps[i]?=some v) (hn:∀ x,d ≠ .al x):Rep S' w (.slot i) v d:=by
 by_cases hi:i=cs
 ·subst hi
  obtain rfl:=h.at_cs hd
  exact .fz (.any _)
 ·rw [h.other hi] at hd
  obtain ⟨h1,h2⟩:=(h.hF.slot i d v hd hv).rep (h.isNm hd hn)
  exact hR.rep h.hF.wf hS h.hno hi h1 h2
theorem QC.wf {frF fr0:List D} (h:QC S l c cs a0 frF fr0 w0) (hR:Rw S cs w0 w) (hS:S'=S∨S'=S.drop cs):WF S' w:=by
 have:=hR.wf h.hF.wf
 rcases hS with rfl|rfl
 ·exact this
 ·exact drop_wf this
theorem sg_or {l:Array Oper} {i:Nat}:sg S l c cs i=S∨sg S l c cs i=S.drop cs:=by
 unfold sg
 split
 ·exact .inr rfl
 ·exact .inl rfl
theorem sg_to {l:Array Oper} {k:Nat} (hS:S'=S∨S'=S.drop cs) (hl:lateOf l c k=true→S'=S.drop cs) {v:Value} {d:D} (h:Fz (sg S l c cs k).lim w v d):Fz S'.lim w v d:=by
 unfold sg at h
 split at h
 ·rename_i hk
  rw [hl hk]
  exact h
 ·rcases hS with rfl|rfl
  ·exact h
  ·exact drop_lim h
theorem sg_loc {l:Array Oper} {k:Nat}:(sg S l c cs k).loc=S.loc:=by
 unfold sg
 split<;>rfl
theorem QC.refOwn {frF fr0:List D} (h:QC S l c cs a0 frF fr0 w0) (hR:Rw S cs w0 w) (hS:S'=S∨S'=S.drop cs) {ds:List D} (hd:fr0[u]?=some (.obj ds)):S'.own (S'.loc (u+2))=some (.slot u,0)∧S'.loc=S.loc:=by
 have hlt:u < a0.tmps.size:=by
  rw [h.hF.size]
  have:=(gLt hd)
  rw [h.hX] at this
  simpa using this
 have hv:a0.tmps[u]?=some a0.tmps[u]:=by simp [hlt]
 have hr:=h.hold hR hS hd hv (fun x e=>by cases e)
 obtain ⟨b,cur,e,_,hb,hloc,_⟩:=hr.obj_inv
 exact ⟨by rw [hloc];exact hb,by rcases hS with rfl|rfl<;>rfl⟩
theorem QC.objVal {frF fr0:List D} (h:QC S l c cs a0 frF fr0 w0) {ds:List D} (hd:fr0[u]?=some (.obj ds)):a0.tmps[u]?=some (.pointer (some ⟨S.loc (u+2),0,none⟩)):=by
 have huc:u ≠ cs:=fun e=>by subst e;have:=h.at_cs hd;cases this
 rw [h.other huc] at hd
 obtain ⟨v,hv,hs⟩:=h.hF.at hd
 obtain ⟨b,cur,e,rfl,_,hloc,_⟩:=hs.1.obj_inv
 rw [hv,hloc]
section
variable {P:Program} {T:Nat→Option TI} {Z:Nat→Option (List Value)}
theorem evalD_nil {x:Operand} (hx:∀ t,x ≠ .tmp t):∃ q,Rep S w q (a.eval x) (evalD [] x):=by
 cases x with
 |tmp t=>exact absurd rfl (hx t)
 |const v=>
  unfold evalD Act.eval
  cases v with
  |agg cs=>exact ⟨.dead,.fz (.any _)⟩
  |_=>exact ⟨.dead,.fz (ofVal_rep _ (by intro cs hc;cases hc))⟩
 |global g=>exact ⟨.dead,.fz (.any _)⟩
 |func f=>exact ⟨.dead,.fz (.fn [] rfl (fun j d v hd=>by simp at hd))⟩
theorem tmp_eval {t:Nat} {v:Value} (h:a.tmps[t]?=some v):a.eval (.tmp t)=v:=by simp [Act.eval,Array.getD_eq_getD_getElem?,h]
theorem QInv.eval {frF fr0 fr:List D} {pre:List Oper} (h:QInv S l.toArray c cs n0 a0 fr0 pre fs a fr) (hC:QC S l c cs a0 frF fr0 w0) (hpre:∀ (k:Nat) (p:Oper),pre[k]?=some p→l[k]?=some p) (ho:l[pre.length]?=some o)
  (hR:Rw S cs w0 w) (hS:S'=S∨S'=S.drop cs) (hSd:∀ e ∈ o.after.toList,Region.binds .any e=true→lateOf l.toArray c e.on=true→S'=S.drop cs)
  (hf:∀ e ∈ o.after.toList,Region.binds .any e=true→(fs.getD e.on (fun _=>True)) w) {x:Operand} (hm:∀ t,x=.tmp t→t ∈ o.looksAt l.toArray):∃ q,Rep S' w q (a.eval x) (evalQ fr0 fr x):=by
 have hF:=hC.hF
 have hok:=hC.hok
 cases x with
 |tmp t=>
  unfold evalQ
  simp only
  cases hd:fr[t]? with
  |none=>exact ⟨.dead,.fz (.any _)⟩
  |some d=>
   rcases h.slot' t d hd with ⟨h1,h2⟩|⟨⟨k,p,v,k1,k2,k3,k4,k5⟩,hno⟩
   ·have hlt:t < a0.tmps.size:=by
     rw [hF.size]
     have:=(gLt h2)
     rw [hC.hX] at this
     simpa using this
    have hv:a0.tmps[t]?=some a0.tmps[t]:=by simp [hlt]
    generalize a0.tmps[t]=v at hv
    have hav:a.eval (.tmp t)=v:=tmp_eval (h1.trans hv)
    rw [hav]
    cases d with
    |al u=>
     have htc:t ≠ cs:=fun e=>by subst e;have:=hC.at_cs h2;cases this
     rw [hC.other htc] at h2
     obtain ⟨g1,d',g2,g3,_⟩:=hF.slot t _ v h2 hv
     simp only
     by_cases huc:u=cs
     ·cases hdu:fr0[u]? with
      |none=>exact ⟨.dead,.fz (.any _)⟩
      |some e=>
       subst huc
       obtain rfl:=hC.at_cs hdu
       exact ⟨.dead,.fz (.any _)⟩
     ·rw [← hC.other huc] at g2
      simp only [g2,Option.getD_some]
      exact ⟨_,hC.hold hR hS g2 g1 (fun x e=>by subst e;simp [D.owns] at g3)⟩
    |obj cs'=>
     simp only [h2]
     exact ⟨.slot t,hC.hold hR hS h2 hv (fun x e=>by cases e)⟩
    |alc u off=>exact ⟨.dead,.fz (.any _)⟩
    |el u off sz k j=>exact ⟨.dead,.fz (.any _)⟩
    |nsl sz n z=>exact ⟨.dead,.fz (.any _)⟩
    |nagg cs' off sz n z=>exact ⟨.dead,.fz (.any _)⟩
    |_=>exact ⟨.slot t,hC.hold hR hS h2 hv (fun x e=>by cases e)⟩
   ·have hkl:k < pre.length:=(gLt k1)
    have hpair:=(parOk_pair hok (i:=pre.length) (k:=k) (o:=o) (p:=p) (by simpa using ho) (by simpa using hpre k p k1) (by omega) k2).2 (hm t rfl)
    have hdep:depOn o k=true:=by
     rcases hpair with h|h
     ·exact h
     ·obtain ⟨e,he,hb,hek⟩:=depOn_spec h
      have:=parOk_before hok (i:=k) (o:=p) (by simpa using hpre k p k1) he hb
      omega
    obtain ⟨e,he,hb,hek⟩:=depOn_spec hdep
    have hfact:=hf e (by simpa using he) hb
    rw [hek,List.getD_eq_getElem?_getD,k4] at hfact
    have hav:a.eval (.tmp t)=v:=tmp_eval k3
    rw [hav]
    simp only [Option.getD_some] at hfact
    have h2:=hfact.2
    have hsd:lateOf l.toArray c k=true→S'=S.drop cs:=fun hk=>hSd e (by simpa using he) hb (by rw [hek];exact hk)
    cases d with
    |al u=>
     simp only
     rcases (k5:AlOk fr0 cs u) with ⟨rfl,_⟩|⟨d',g2,g3⟩
     ·cases hdu:fr0[u]? with
      |none=>exact ⟨.dead,.fz (.any _)⟩
      |some e=>
       obtain rfl:=hC.at_cs hdu
       exact ⟨.dead,.fz (.any _)⟩
     ·have hlt:u < a0.tmps.size:=by
       rw [hF.size]
       have:=(gLt g2)
       rw [hC.hX] at this
       simpa using this
      have hv':a0.tmps[u]?=some a0.tmps[u]:=by simp [hlt]
      simp only at h2
      rw [tmp_eval hv'] at h2
      subst h2
      simp only [g2,Option.getD_some]
      exact ⟨_,hC.hold hR hS g2 hv' (fun x e=>by subst e;simp [D.owns] at g3)⟩
    |ref u off=>
     obtain ⟨ds,hc⟩:=(k5:∃ c,fr0[u]?=some (.obj c))
     have hob:=hC.refOwn hR hS hc
     have hl:(sg S l.toArray c cs k).loc=S'.loc:=by rw [sg_loc,hob.2]
     simp only at h2
     rw [h2,hl]
     exact ⟨.dead,.ref hob.1⟩
    |gref c1 u off=>
     obtain ⟨ds,hc⟩:=(k5:∃ c,fr0[u]?=some (.obj c))
     have hob:=hC.refOwn hR hS hc
     have hl:(sg S l.toArray c cs k).loc=S'.loc:=by rw [sg_loc,hob.2]
     simp only at h2
     rw [hl] at h2
     exact ⟨.dead,.gref hob.1 h2⟩
    |obj cs'=>
     simp only
     split
     ·rename_i c' hc'
      exact absurd hc' (hno _ rfl c')
     ·exact ⟨.dead,.fz (.any _)⟩
    |alc u off=>exact ⟨.dead,.fz (.any _)⟩
    |el u off sz k j=>exact ⟨.dead,.fz (.any _)⟩
    |nsl sz n z=>exact ⟨.dead,.fz (.any _)⟩
    |nagg cs' off sz n z=>exact ⟨.dead,.fz (.any _)⟩
    |_=>exact ⟨.dead,.fz (sg_to hS hsd h2)⟩
 |const v=>exact evalD_nil (fun t e=>by cases e)
 |global g=>exact evalD_nil (fun t e=>by cases e)
 |func f=>exact evalD_nil (fun t e=>by cases e)
theorem gdsQ_rep {S:Sig} {w:World} {a:Act} {fr0 fr:List D}:∀ (xs:List Operand),(∀ x ∈ xs,∃ q,Rep S w q (a.eval x) (evalQ fr0 fr x))→holds (gds (evalQ fr0 fr) xs)→∀ x ∈ xs,∃ q,Rep S w q (a.eval x) (strip (evalQ fr0 fr x))
 |[],_,_,x,hx=>by cases hx
 |y::xs,hr,hg,x,hx=>by
  simp only [gds] at hg
  have key:holds (gds (evalQ fr0 fr) xs)∧∃ q,Rep S w q (a.eval y) (strip (evalQ fr0 fr y)):=by
   obtain ⟨q,hq⟩:=hr y (by simp)
   split at hg
   ·rename_i c d hy
    rw [hy] at hq ⊢
    split at hg
    ·rename_i hn
     rw [hn]
     exact ⟨trivial,.dead,.fz (hq.gd_inv.1 hg)⟩
    ·rename_i p hp
     rw [hp]
     exact ⟨hg.2,.dead,.fz (hq.gd_inv.1 hg.1)⟩
   ·rename_i hn
    refine ⟨hg,q,?_⟩
    generalize evalQ fr0 fr y=d at hq hn ⊢
    cases d with
    |gd c d=>exact absurd rfl (hn c d)
    |_=>exact hq
  rcases List.mem_cons.1 hx with rfl|hx
  ·exact key.2
  ·exact gdsQ_rep xs (fun x hx=>hr x (by simp [hx])) key.1 x hx
theorem QInv.wanted {frF fr0 fr:List D} {pre:List Oper} (h:QInv S l.toArray c cs n0 a0 fr0 pre fs a fr) (hC:QC S l c cs a0 frF fr0 w0) (hpre:∀ (k:Nat) (p:Oper),pre[k]?=some p→l[k]?=some p) (ho:l[pre.length]?=some o)
  (hR:Rw S cs w0 w) (hS:S'=S∨S'=S.drop cs) (hSd:∀ e ∈ o.after.toList,Region.binds .any e=true→lateOf l.toArray c e.on=true→S'=S.drop cs)
  (hf:∀ e ∈ o.after.toList,Region.binds .any e=true→(fs.getD e.on (fun _=>True)) w) {j:Nat} {want cb:Bool} (hg:o.guard=some (j,want)) (hc:condOf l fr j want=some cb):Region.wanted o (yielded l.toArray a.tmps)=cb:=by
 unfold condOf at hc
 split at hc
 ·rename_i oj hj
  split at hc
  ·rename_i t ht
   have hlook:t ∈ o.looksAt l.toArray:=by
    unfold Oper.looksAt
    refine List.mem_append_right _ ?_
    rw [hg]
    simp [hj,ht]
   have hy:∀ v,a.tmps[t]?=some v→((l.toArray[j]?).bind (·.dst)).bind (a.tmps[·]?)=some v:=fun v hv=>by
    simp only [List.getElem?_toArray,hj,Option.bind_some,ht,hv]
   obtain ⟨q,hq⟩:=h.eval hC hpre ho hR hS hSd hf (x:=.tmp t) (fun t' e=>by cases e;exact hlook)
   split at hc
   ·rename_i b hd
    have hlt:t < a.tmps.size:=by rw [h.size];exact (gLt hd)
    have hv:a.tmps[t]?=some a.tmps[t]:=by simp [hlt]
    rw [tmp_eval hv] at hq
    simp only [evalQ,hd] at hq
    have hb:=hq.bool_inv
    refine wanted_at hg (hy _ hv) ?_
    rw [hb]
    cases want<;>simp only [Option.some.injEq] at hc<;>subst hc<;>simp [boolOf]
   ·rename_i c0 b hd
    have hlt:t < a.tmps.size:=by rw [h.size];exact (gLt hd)
    have hv:a.tmps[t]?=some a.tmps[t]:=by simp [hlt]
    rw [tmp_eval hv] at hq
    simp only [evalQ,hd] at hq
    obtain ⟨k1,k0⟩:=hq.gd_inv
    refine wanted_at hg (hy _ hv) ?_
    cases c0 with
    |true=>
     rw [(Rep.fz (S:=S') (p:=.dead) (k1 rfl)).bool_inv]
     cases want<;>simp only [Option.some.injEq] at hc<;>subst hc<;>simp [boolOf]
    |false=>
     rw [k0 rfl]
     cases want<;>simp only [Option.some.injEq] at hc<;>subst hc<;>simp [boolOf,undef]
   ·cases hc
  ·cases hc
 ·cases hc
theorem frzQ_noal {d:D} (ho:okQ d=true):∀ u,frzQ d ≠ .al u:=by
 intro u e
 unfold frzQ at e
 split at e
 ·subst e;rename_i h;cases h
 ·rename_i h
  cases d<;>first|exact Bool.noConfusion (show true=false from h)|exact Bool.noConfusion (show false=true from ho)|(simp [D.frz] at e;done)
theorem frzQ_noref {d:D} (ho:okQ d=true):∀ u off,frzQ d ≠ .ref u off:=by
 intro u off e
 unfold frzQ at e
 split at e
 ·subst e;rename_i h;cases h
 ·rename_i h
  cases d<;>first|exact Bool.noConfusion (show true=false from h)|exact Bool.noConfusion (show false=true from ho)|(simp [D.frz] at e;done)
theorem frzQ_noalc {d:D} (ho:okQ d=true):∀ u off,frzQ d ≠ .alc u off:=by
 intro u off e
 unfold frzQ at e
 split at e
 ·subst e;rename_i h;cases h
 ·rename_i h
  cases d<;>first|exact Bool.noConfusion (show true=false from h)|exact Bool.noConfusion (show false=true from ho)|(simp [D.frz] at e;done)
theorem frzQ_noel {d:D} (ho:okQ d=true):∀ u off sz k j,frzQ d ≠ .el u off sz k j:=by
 intro u off sz k j e
 unfold frzQ at e
 split at e
 ·subst e;rename_i h;cases h
 ·rename_i h
  cases d<;>first|exact Bool.noConfusion (show true=false from h)|exact Bool.noConfusion (show false=true from ho)|(simp [D.frz] at e;done)
theorem frzQ_nogref {d:D} (ho:okQ d=true):∀ c u off,frzQ d ≠ .gref c u off:=by
 intro c u off e
 unfold frzQ at e
 split at e
 ·subst e;rename_i h;cases h
 ·rename_i h
  cases d<;>first|exact Bool.noConfusion (show true=false from h)|exact Bool.noConfusion (show false=true from ho)|(simp [D.frz] at e;done)
theorem frzQ_nm {d:D} (ho:okQ d=true) {fr0:List D} :NmOk fr0 cs (frzQ d):=by
 have h1:=frzQ_noal ho
 have h2:=frzQ_noref ho
 have h3:=frzQ_noalc ho
 have h4:=frzQ_noel ho
 have h5:=frzQ_nogref ho
 generalize frzQ d=e at *
 cases e with
 |al u=>exact absurd rfl (h1 u)
 |gref c u off=>exact absurd rfl (h5 c u off)
 |ref u off=>exact absurd rfl (h2 u off)
 |alc u off=>exact absurd rfl (h3 u off)
 |el u off sz k j=>exact absurd rfl (h4 u off sz k j)
 |_=>trivial
theorem QInv.evAl {frF fr0 fr:List D} {pre:List Oper} (hI:QInv S l.toArray c cs n0 a0 fr0 pre fs a fr) (hC:QC S l c cs a0 frF fr0 w0) (hpre:∀ (k:Nat) (p:Oper),pre[k]?=some p→l[k]?=some p) (ho:l[pre.length]?=some o) {u0:Nat} (hlook:u0 ∈ o.looksAt l.toArray) (hd:fr[u0]?=some (.al u))
  (hf:∀ e ∈ o.after.toList,Region.binds .any e=true→(fs.getD e.on (fun _=>True)) w):a.eval (.tmp u0)=a0.eval (.tmp u):=by
 have hF:=hC.hF
 have hok:=hC.hok
 rcases hI.slot _ _ hd with ⟨h1,h2⟩|⟨k,p,v,k1,k2,k3,k4,k5⟩
 ·have htc:u0 ≠ cs:=fun e=>by subst e;have:=hC.at_cs h2;cases this
  rw [hC.other htc] at h2
  obtain ⟨v,hv,hsl⟩:=hF.at h2
  rw [tmp_eval (h1.trans hv),tmp_eval hsl.1]
 ·have hkl:k < pre.length:=(gLt k1)
  have hpair:=(parOk_pair hok (i:=pre.length) (k:=k) (o:=o) (p:=p) (by simpa using ho) (by simpa using hpre k p k1) (by omega) k2).2 hlook
  have hdep:depOn o k=true:=by
   rcases hpair with h|h
   ·exact h
   ·obtain ⟨e,he,hb,hek⟩:=depOn_spec h
    have:=parOk_before hok (i:=k) (o:=p) (by simpa using hpre k p k1) he hb
    omega
  obtain ⟨e,he,hb,hek⟩:=depOn_spec hdep
  have hfact:=hf e (by simpa using he) hb
  rw [hek,List.getD_eq_getElem?_getD,k4] at hfact
  rw [tmp_eval k3]
  exact hfact.2
theorem one_fact {d:D} {v:Value} (hw:WF S w) (h:d.one=true) (hf:Fz S.lim w v d):Fact S n0 a0 d v w:=by
 refine ⟨hw,?_⟩
 cases d<;>first|exact hf|cases h
theorem Rep.gref_val {q:Place} {v:Value} {c:Bool} (h:Rep S w q v (.gref c u off)):v=if c=true then .pointer (some ⟨S.loc (u+2),off,none⟩) else undef:=by
 cases h with
 |fz h=>cases h
 |gref _ h=>exact h
theorem Rep.ref_val {q:Place} {v:Value} (h:Rep S w q v (.ref u off)):v=.pointer (some ⟨S.loc (u+2),off,none⟩):=by
 cases h with
 |fz h=>cases h
 |ref h=>rfl
theorem QInv.evNm {frF fr0 fr:List D} {pre:List Oper} (hI:QInv S l.toArray c cs n0 a0 fr0 pre fs a fr) (hC:QC S l c cs a0 frF fr0 w0) (hpre:∀ (k:Nat) (p:Oper),pre[k]?=some p→l[k]?=some p) (ho:l[pre.length]?=some o) {u0:Nat} {d:D} (hd:fr[u0]?=some d) (hn:d.nm3=true) (hlook:u0 ∈ o.looksAt l.toArray)
  (hf:∀ e ∈ o.after.toList,Region.binds .any e=true→(fs.getD e.on (fun _=>True)) w):∃ k,Fact (sg S l.toArray c cs k) n0 a0 d (a.eval (.tmp u0)) w∧NmOk fr0 cs d:=by
 have hok:=hC.hok
 rcases hI.slot _ _ hd with ⟨h1,h2⟩|⟨k,p,v,k1,k2,k3,k4,k5⟩
 ·exfalso
  by_cases htc:u0=cs
  ·subst htc
   obtain rfl:=hC.at_cs h2
   cases hn
  ·rw [hC.other htc] at h2
   rw [hC.nonm _ _ h2] at hn
   cases hn
 ·have hkl:k < pre.length:=(gLt k1)
  have hpair:=(parOk_pair hok (i:=pre.length) (k:=k) (o:=o) (p:=p) (by simpa using ho) (by simpa using hpre k p k1) (by omega) k2).2 hlook
  have hdep:depOn o k=true:=by
   rcases hpair with h|h
   ·exact h
   ·obtain ⟨e,he,hb,hek⟩:=depOn_spec h
    have:=parOk_before hok (i:=k) (o:=p) (by simpa using hpre k p k1) he hb
    omega
  obtain ⟨e,he,hb,hek⟩:=depOn_spec hdep
  have hfact:=hf e (by simpa using he) hb
  rw [hek,List.getD_eq_getElem?_getD,k4] at hfact
  rw [tmp_eval k3]
  exact ⟨k,hfact,k5⟩
theorem NewS.sg {sz n:Nat} {z:List D} {v:Value} (h:NewS S n0 sz n z v w) (ho:∀ b,S.own b=none→S'.own b=none):NewS S' n0 sz n z v w:=by
 obtain ⟨b,cap,cur,e,h1,h2,h3,h4,h5,h6,h7,h8,h9,h10⟩:=h
 refine ⟨b,cap,cur,e,h1,h2,ho b h3,h4,h5,h6,h7,h8,h9,fun k j d g1 g2 => ?_⟩
 obtain ⟨u,u1,u2,u3,u4⟩:=h10 k j d g1 g2
 exact ⟨u,u1,u2,u3,flat1_any u3 u4⟩
theorem QC.cellAt {frF fr0:List D} (h:QC S l c cs a0 frF fr0 w0) (hR:Rw S cs w0 w) (hS:S'=S∨S'=S.drop cs) {ds:List D} {d:D} (hd:fr0[u]?=some (.obj ds)) (hc:ds[off]?=some d):∃ y,w.cell? ⟨S.loc (u+2),off,none⟩=some y∧Rep S' w ⟨u+2,[off]⟩ y d:=by
 have hval:=h.objVal hd
 have hr:=h.hold hR hS hd hval (fun x e=>by cases e)
 obtain ⟨b,cur,e,hv,hb,hloc,hh,hsz,h1,ih⟩:=hr.obj_inv
 have hlt:off < cur.size:=by rw [← hsz];exact (gLt hc)
 have hb2:S.loc (u+2)=b:=by cases hv;rfl
 refine ⟨cur[off],?_,ih off d _ hc (by simp [hlt])⟩
 rw [hb2,cell_of_row w b _ _ e (0,0) hh]
 simp [hlt]
theorem stepQ_sound (hT:TOk P T Z) {ci:Nat} {frF fr0 fr:List D} {pre:List Oper} {K:D→Prop} (hC:QC S l ci cs a0 frF fr0 w0) (hpre:∀ (k:Nat) (p:Oper),pre[k]?=some p→l[k]?=some p) (ho:l[pre.length]?=some o)
  (hn0:n0≤w0.heap.size) (hs:stepQ P T Z l cs fr0 fr o K):∃ d,K d∧NmOk fr0 cs d∧∀ (fs:List (World→Prop)) (a:Act),QInv S l.toArray ci cs n0 a0 fr0 pre fs a fr→∀ w,Rw S cs w0 w→(∀ e ∈ o.after.toList,Region.binds .any e=true→(fs.getD e.on (fun _=>True)) w)→StepAt P l.toArray Q o (factSpec (sg S l.toArray ci cs pre.length) n0 a0 d) a w:=by
 obtain ⟨S1,hS1⟩:∃ S1,S1=sg S l.toArray ci cs pre.length:=⟨_,rfl⟩
 rw [← hS1]
 have hSd:∀ e ∈ o.after.toList,Region.binds .any e=true→lateOf l.toArray ci e.on=true→S1=S.drop cs:=fun e he hb hl=>by
  rw [hS1]
  unfold sg
  rw [if_pos (late_dep hC.hlate (by simpa using ho) he hb hl).1]
 have hS1o:S1=S∨S1=S.drop cs:=hS1 ▸ sg_or
 have hF:=hC.hF
 have hok:=hC.hok
 have hops:∀ x ∈ o.op.operands.toList,∀ t,x=.tmp t→t ∈ o.looksAt l.toArray:=fun x hx t e=>by
  subst e
  exact List.mem_append_left _ (List.mem_filterMap.2 ⟨.tmp t,hx,rfl⟩)
 have wfw:∀ {w:World},Rw S cs w0 w→WF S1 w:=fun hx=>hC.wf hx hS1o
 -- a value that is known to be so
 have done:∀ {d:D} (a:Act) (w:World),Rw S cs w0 w→Region.wanted o (yielded l.toArray a.tmps)=true→(∀ K',(∀ v w',Fact S1 n0 a0 d v w'→Ext w w'→K' (a.put o.dst v) w')→o.wp P a w K' (NoPanic Q))→StepAt P l.toArray Q o (factSpec S1 n0 a0 d) a w:=by
  intro d a w _ hw h
  unfold StepAt
  rw [if_pos hw]
  exact fun K' hK=>.inl (h K' fun v w' h1 h2=>hK (0,0,v) w' h1 h2)
 have plainOp:∀ {s:Option Prop} {d:D},holds s→okQ d=true→(holds s→OpOk P o (evalQ fr0 fr) d)→NmOk fr0 cs (frzQ d)∧∀ (fs:List (World→Prop)) (a:Act),QInv S l.toArray ci cs n0 a0 fr0 pre fs a fr→o.guard=none→∀ w,Rw S cs w0 w→(∀ e ∈ o.after.toList,Region.binds .any e=true→(fs.getD e.on (fun _=>True)) w)→StepAt P l.toArray Q o (factSpec S1 n0 a0 (frzQ d)) a w:=by
  intro s d h1 h2 h3
  refine ⟨frzQ_nm h2,fun fs a hI hg w hx hf=>done a w hx (by unfold Region.wanted;rw [hg]) fun K' hK => ?_⟩
  obtain ⟨p,_,_,hp⟩:=fresh_place S1 w (wfw hx)
  refine h3 h1 S1 w a p (wfw hx) (fun x hx'=>hI.eval hC hpre ho hx hS1o hSd hf (hops x hx')) K' _ fun v S' w' hpt hr _=>hK v w' ⟨?_,?_⟩ hpt.ext
  ·exact (PT.ext' (wfw hx) hpt.ext).wf
  ·have hz:=unown (wfw hx) hpt hp hr h2
   have hn:=frzQ_noal h2
   have hn':=frzQ_noref h2
   generalize frzQ d=e at hz hn hn' ⊢
   cases e with
   |al u=>exact absurd rfl (hn u)
   |ref u off=>exact absurd rfl (hn' u off)
   |obj x=>cases hz
   |gref c u off=>cases hz
   |alc u off=>cases hz
   |el u off sz k j=>cases hz
   |nsl sz n z=>cases hz
   |nagg cs' off sz n z=>cases hz
   |_=>exact hz
 unfold stepQ at hs
 split at hs
 ·rename_i hg
  have hopD:(opD P T Z (evalQ fr0 fr) o.op fun s d=>andO s (match okQ d with|true=>force (frzQ d) K|false=>False))→∃ d,K d∧NmOk fr0 cs d∧∀ (fs:List (World→Prop)) (a:Act),QInv S l.toArray ci cs n0 a0 fr0 pre fs a fr→∀ w,Rw S cs w0 w→(∀ e ∈ o.after.toList,Region.binds .any e=true→(fs.getD e.on (fun _=>True)) w)→StepAt P l.toArray Q o (factSpec S1 n0 a0 d) a w:=by
   intro h
   obtain ⟨s,d,h1,h3⟩:=opD_sound (dst:=o.dst) (ty:=o.type) (pos:=o.pos) (after:=o.after) (guard:=o.guard) hT h
   obtain ⟨g1,g2⟩:=andO_iff.1 h1
   split at g2
   ·rename_i hq
    rw [force_eq] at g2
    obtain ⟨k1,k2⟩:=plainOp g1 hq h3
    exact ⟨_,g2,k1,fun fs a hI w hx hf=>k2 fs a hI hg w hx hf⟩
   ·exact g2.elim
  have aliasOp:∀ {u0 u:Nat},o.op=.move (.tmp u0)→AlOk fr0 cs u→(∀ (fs:List (World→Prop)) (a:Act),QInv S l.toArray ci cs n0 a0 fr0 pre fs a fr→∀ w,(∀ e ∈ o.after.toList,Region.binds .any e=true→(fs.getD e.on (fun _=>True)) w)→a.eval (.tmp u0)=a0.eval (.tmp u))→K (.al u)→∃ d,K d∧NmOk fr0 cs d∧∀ (fs:List (World→Prop)) (a:Act),QInv S l.toArray ci cs n0 a0 fr0 pre fs a fr→∀ w,Rw S cs w0 w→(∀ e ∈ o.after.toList,Region.binds .any e=true→(fs.getD e.on (fun _=>True)) w)→StepAt P l.toArray Q o (factSpec S1 n0 a0 d) a w:=by
   intro u0 u hop hown hev hK
   refine ⟨_,hK,hown,fun fs a hI w hx hf=>done a w hx (by unfold Region.wanted;rw [hg]) fun K' hK' => ?_⟩
   obtain ⟨dst,op,ty,pos,after,guard⟩:=o
   simp only at hop
   subst hop
   exact r_move rfl (hK' _ w ⟨wfw hx,hev fs a hI w hf⟩ (Ext.refl w))
  have evAl:∀ {u0 u:Nat},o.op=.move (.tmp u0)→fr[u0]?=some (.al u)→∀ (fs:List (World→Prop)) (a:Act),QInv S l.toArray ci cs n0 a0 fr0 pre fs a fr→∀ w,(∀ e ∈ o.after.toList,Region.binds .any e=true→(fs.getD e.on (fun _=>True)) w)→a.eval (.tmp u0)=a0.eval (.tmp u):=fun hop hd fs a hI w hf=>hI.evAl hC hpre ho (hops (.tmp _) (by rw [hop];simp [Op.operands]) _ rfl) hd hf
  have evRef:∀ {u x off:Nat},.tmp u ∈ o.op.operands.toList→fr[u]?=some (.ref x off)→∀ (fs:List (World→Prop)) (a:Act),QInv S l.toArray ci cs n0 a0 fr0 pre fs a fr→∀ w,Rw S cs w0 w→(∀ e ∈ o.after.toList,Region.binds .any e=true→(fs.getD e.on (fun _=>True)) w)→a.eval (.tmp u)=.pointer (some ⟨S.loc (x+2),off,none⟩):=fun hm hd fs a hI w hx hf=>by
   have hloc:S1.loc=S.loc:=by rcases hS1o with rfl|rfl<;>rfl
   obtain ⟨q,hq⟩:=hI.eval hC hpre ho hx hS1o hSd hf (x:=.tmp _) (fun t e=>by cases e;exact hops _ hm _ rfl)
   simp only [evalQ,hd] at hq
   rw [← hloc]
   exact hq.ref_val
  split at hs
  ·rename_i u0 hop
   split at hs
   ·rename_i hu
    have:=Nat.eq_of_beq_eq_true hu
    subst this
    split at hs
    ·rename_i e he
     refine aliasOp hop (.inl ⟨rfl,e,he⟩) (fun fs a hI w hf => ?_) hs
     simp [Act.eval,Array.getD_eq_getD_getElem?,hI.keep]
    ·exact hs.elim
   ·rename_i hu
    split at hs
    ·rename_i m sz rows hd
     split at hs
     ·rename_i hd0
      refine aliasOp hop (.inr ⟨_,hd0,rfl⟩) (fun fs a hI w hf => ?_) hs
      obtain ⟨_,h2⟩:=hI.own _ _ hd0 rfl
      simp [Act.eval,Array.getD_eq_getD_getElem?,h2]
     ·exact hs.elim
    ·rename_i u' hd
     split at hs
     ·rename_i hu'
      have:=Nat.eq_of_beq_eq_true hu'
      subst this
      split at hs
      ·rename_i e he
       exact aliasOp hop (.inl ⟨rfl,e,he⟩) (evAl hop hd) hs
      ·exact hs.elim
     ·split at hs
      ·rename_i hd0
       exact aliasOp hop (.inr ⟨_,hd0,rfl⟩) (evAl hop hd) hs
      ·exact hs.elim
    ·split at hs
     ·rename_i ds hd0
      refine ⟨_,hs,⟨ds,hd0⟩,fun fs a hI w hx hf=>done a w hx (by unfold Region.wanted;rw [hg]) fun K' hK => ?_⟩
      obtain ⟨_,h2⟩:=hI.own _ _ hd0 rfl
      have hval:=hC.objVal hd0
      have hloc:S1.loc=S.loc:=by rcases hS1o with rfl|rfl<;>rfl
      obtain ⟨dst,op,ty,pos,after,guard⟩:=o
      simp only at hop
      subst hop
      exact r_move (tmp_eval (h2.trans hval)) (hK _ w ⟨wfw hx,by rw [hloc]⟩ (Ext.refl w))
     ·exact hs.elim
    ·rename_i x off hd
     split at hs
     ·rename_i ds hd0
      refine ⟨_,hs,⟨ds,hd0⟩,fun fs a hI w hx hf=>done a w hx (by unfold Region.wanted;rw [hg]) fun K' hK => ?_⟩
      have hev:=evRef (by rw [hop];simp [Op.operands]) hd fs a hI w hx hf
      have hloc:S1.loc=S.loc:=by rcases hS1o with rfl|rfl<;>rfl
      obtain ⟨dst,op,ty,pos,after,guard⟩:=o
      simp only at hop
      subst hop
      exact r_move hev (hK _ w ⟨wfw hx,by rw [hloc]⟩ (Ext.refl w))
     ·exact hs.elim
    ·exact hopD hs
  ·rename_i c x y hop
   have hm:∀ z,z ∈ [c,x,y]→∀ t,z=.tmp t→t ∈ o.looksAt l.toArray:=fun z hz=>hops z (by rw [hop];simpa [Op.operands] using hz)
   obtain ⟨s,r,hp,h12⟩:=pickD_inv hs
   obtain ⟨h1,h2⟩:=andO_iff.1 h12
   rw [force_eq] at h2
   refine ⟨_,h2,trivial,fun fs a hI w hx hf=>done a w hx (by unfold Region.wanted;rw [hg]) fun K' hK => ?_⟩
   have hev:∀ z,z ∈ [c,x,y]→∃ q,Rep S1 w q (a.eval z) (evalQ fr0 fr z):=fun z hz=>hI.eval hC hpre ho hx hS1o hSd hf (hm z hz)
   obtain ⟨p,h3,h4⟩:=pickR_sound (hev c (by simp)) (hev x (by simp)) (hev y (by simp)) hp h1
   obtain ⟨dst,op,ty,pos,after,guard⟩:=o
   simp only at hop
   subst hop
   refine pick_run h3 ?_
   rw [h4]
   exact hK _ w ⟨wfw hx,.bool r⟩ (Ext.refl w)
  ·rename_i ty0 hop
   split at hs
   ·rename_i zc hz
    split at hs
    ·rename_i h1
     rw [force_eq] at hs
     haveI:=hT.zer _ _ hz
     refine ⟨_,hs,trivial,fun fs a hI w hx hf=>done a w hx (by unfold Region.wanted;rw [hg]) fun K' hK => ?_⟩
     obtain ⟨dst,op,ty,pos,after,guard⟩:=o
     simp only at hop
     subst hop
     refine r_alloc fun g w' hb hx' hgs => ?_
     have hw1:=wfw hx
     refine hK _ w' ⟨(PT.ext' hw1 hx').wf,g,_,zc,rfl,?_,?_,hb,rfl,h1⟩ hx'
     ·have:=hx.size
      omega
     ·cases hob:S1.own g with
      |none=>rfl
      |some x=>have:=hw1 g x hob;omega
    ·exact hs.elim
   ·exact hs.elim
  ·rename_i ty0 u i hop
   split at hs
   ·rename_i ds hd
    split at hs
    ·rename_i ht
     split at hs
     ·rename_i off n ag hfl
      haveI:=(hT.ty _ _ ht).2.1 _ _ _ _ hfl
      refine ⟨_,hs,⟨ds,hd⟩,fun fs a hI w hx hf=>done a w hx (by unfold Region.wanted;rw [hg]) fun K' hK => ?_⟩
      obtain ⟨_,h2⟩:=hI.own u _ hd rfl
      have hval:=hC.objVal hd
      have hloc:S1.loc=S.loc:=by rcases hS1o with rfl|rfl<;>rfl
      obtain ⟨dst,op,ty,pos,after,guard⟩:=o
      simp only at hop
      subst hop
      refine r_fieldAddr (tmp_eval (h2.trans hval)) ?_
      rw [Nat.zero_add]
      exact hK _ w ⟨wfw hx,by rw [hloc]⟩ (Ext.refl w)
     ·exact hs.elim
    ·exact hs.elim
   ·split at hs
    ·rename_i x off0 hd
     split at hs
     ·rename_i ds hdx
      split at hs
      ·rename_i ht
       split at hs
       ·rename_i off n ag hfl
        haveI:=(hT.ty _ _ ht).2.1 _ _ _ _ hfl
        refine ⟨_,hs,⟨ds,hdx⟩,fun fs a hI w hx hf=>done a w hx (by unfold Region.wanted;rw [hg]) fun K' hK => ?_⟩
        have hev:=evRef (by rw [hop];simp [Op.operands]) hd fs a hI w hx hf
        have hloc:S1.loc=S.loc:=by rcases hS1o with rfl|rfl<;>rfl
        obtain ⟨dst,op,ty,pos,after,guard⟩:=o
        simp only at hop
        subst hop
        refine r_fieldAddr hev ?_
        exact hK _ w ⟨wfw hx,by rw [hloc]⟩ (Ext.refl w)
       ·exact hs.elim
      ·exact hs.elim
     ·exact hs.elim
    ·rename_i x c0 sz k j hd
     split at hs
     ·rename_i ht
      split at hs
      ·rename_i off n ag hfl
       split at hs
       ·rename_i ds hdx
        haveI:=(hT.ty _ _ ht).2.1 _ _ _ _ hfl
        have hlook:u ∈ o.looksAt l.toArray:=hops (.tmp u) (by rw [hop];simp [Op.operands]) u rfl
        refine ⟨_,hs,⟨ds,hdx⟩,fun fs a hI w hx hf=>done a w hx (by unfold Region.wanted;rw [hg]) fun K' hK => ?_⟩
        have hloc:S1.loc=S.loc:=by rcases hS1o with rfl|rfl<;>rfl
        obtain ⟨k',hfact,_⟩:=hI.evNm hC hpre ho hd rfl hlook hf
        obtain ⟨s,hs1,b,cap,m,e1,e2⟩:=hfact.2
        rw [sg_loc] at hs1
        obtain ⟨dst,op,ty,pos,after,guard⟩:=o
        simp only at hop
        subst hop
        refine r_fieldAddr e2 ?_
        refine hK _ w ⟨wfw hx,s,by rw [hloc];exact hs1,b,cap,m,e1,?_⟩ (Ext.refl w)
        rw [Nat.add_assoc]
       ·exact hs.elim
      ·exact hs.elim
     ·exact hs.elim
    ·exact hopD hs
  ·rename_i u hop
   split at hs
   ·rename_i x off hd
    split at hs
    ·rename_i ds hdx
     refine ⟨_,hs,⟨ds,hdx⟩,fun fs a hI w hx hf=>done a w hx (by unfold Region.wanted;rw [hg]) fun K' hK => ?_⟩
     have hev:=evRef (by rw [hop];simp [Op.operands]) hd fs a hI w hx hf
     have hloc:S1.loc=S.loc:=by rcases hS1o with rfl|rfl<;>rfl
     obtain ⟨dst,op,ty,pos,after,guard⟩:=o
     simp only at hop
     subst hop
     exact r_nilCheck hev (hK _ w ⟨wfw hx,by rw [hloc]⟩ (Ext.refl w))
    ·exact hs.elim
   ·exact hopD hs
  ·rename_i ty0 u hop
   have hloc:S1.loc=S.loc:=by rcases hS1o with rfl|rfl<;>rfl
   have hlook:u ∈ o.looksAt l.toArray:=hops (.tmp u) (by rw [hop];simp [Op.operands]) u rfl
   have oneK:∀ {d:D},d.one=true→(∀ (fs:List (World→Prop)) (a:Act),QInv S l.toArray ci cs n0 a0 fr0 pre fs a fr→∀ w,Rw S cs w0 w→(∀ e ∈ o.after.toList,Region.binds .any e=true→(fs.getD e.on (fun _=>True)) w)→∃ A y,a.eval (.tmp u)=.pointer (some A)∧w.cell? A=some y∧Fz S1.lim w y d)→TOne P ty0→K d→∃ d,K d∧NmOk fr0 cs d∧∀ (fs:List (World→Prop)) (a:Act),QInv S l.toArray ci cs n0 a0 fr0 pre fs a fr→∀ w,Rw S cs w0 w→(∀ e ∈ o.after.toList,Region.binds .any e=true→(fs.getD e.on (fun _=>True)) w)→StepAt P l.toArray Q o (factSpec S1 n0 a0 d) a w:=by
    intro d h1 h2 h3 h4
    haveI:=h3
    refine ⟨d,h4,(by cases d<;>first|trivial|cases h1),fun fs a hI w hx hf=>done a w hx (by unfold Region.wanted;rw [hg]) fun K' hK => ?_⟩
    obtain ⟨A,y,e1,e2,e3⟩:=h2 fs a hI w hx hf
    obtain ⟨dst,op,ty,pos,after,guard⟩:=o
    simp only at hop
    subst hop
    exact r_load1 e1 e2 (hK _ w (one_fact (wfw hx) h1 e3) (Ext.refl w))
   split at hs
   ·rename_i x off hd
    have evr:∀ (fs:List (World→Prop)) (a:Act),QInv S l.toArray ci cs n0 a0 fr0 pre fs a fr→∀ w,Rw S cs w0 w→(∀ e ∈ o.after.toList,Region.binds .any e=true→(fs.getD e.on (fun _=>True)) w)→a.eval (.tmp u)=.pointer (some ⟨S.loc (x+2),off,none⟩):=fun fs a hI w hx hf=>by
     obtain ⟨q,hq⟩:=hI.eval hC hpre ho hx hS1o hSd hf (x:=.tmp u) (fun t e=>by cases e;exact hlook)
     simp only [evalQ,hd] at hq
     rw [← hloc]
     exact hq.ref_val
    split at hs
    ·rename_i ds hob
     split at hs
     ·rename_i sz rows hc
      split at hs
      ·rename_i e1 sz1 by1 zc1 ht
       haveI:=(hT.ty _ _ ht).one (fun n fl ks e=>by cases e)
       refine ⟨_,hs,⟨ds,hob⟩,fun fs a hI w hx hf=>done a w hx (by unfold Region.wanted;rw [hg]) fun K' hK => ?_⟩
       have e1:=evr fs a hI w hx hf
       obtain ⟨y,hy,_⟩:=hC.cellAt hx hS1o hob hc
       obtain ⟨dst,op,ty,pos,after,guard⟩:=o
       simp only at hop
       subst hop
       exact r_load1 e1 hy (hK _ w ⟨wfw hx,by show w.cell? ⟨S1.loc (x+2),off,none⟩=some y;rw [hloc];exact hy⟩ (Ext.refl w))
      ·exact hs.elim
     ·rename_i sz rows hc
      split at hs
      ·rename_i e1 sz1 by1 zc1 ht
       rw [force_eq] at hs
       refine oneK (d:=.sl 0 sz rows) rfl (fun fs a hI w hx hf => ?_) ((hT.ty _ _ ht).one (fun n fl ks e=>by cases e)) hs
       obtain ⟨y,hy,hr⟩:=hC.cellAt hx hS1o hob hc
       exact ⟨_,y,evr fs a hI w hx hf,hy,(hr.le (.own sz rows)).passes rfl⟩
      ·exact hs.elim
     ·rename_i d _ hc
      split at hs
      ·rename_i h1
       split at hs
       ·exact hs.elim
       ·rename_i i hi ht
        rw [force_eq] at hs
        refine oneK h1 (fun fs a hI w hx hf => ?_) ((hT.ty _ _ ht).one (fun n fl ks e=>hi n fl ks e)) hs
        obtain ⟨y,hy,hr⟩:=hC.cellAt hx hS1o hob hc
        exact ⟨_,y,evr fs a hI w hx hf,hy,D.one_fz hr h1⟩
       ·exact hs.elim
      ·exact hs.elim
     ·exact hs.elim
    ·exact hs.elim
   ·rename_i x c0 sz k j hd
    split at hs
    ·rename_i ds hob
     split at hs
     ·rename_i sz' rows hc
      split at hs
      ·rename_i he
       obtain rfl:=Nat.eq_of_beq_eq_true he
       split at hs
       ·exact hs.elim
       ·rename_i i hi ht
        obtain ⟨r,⟨_,hr⟩,hs⟩:=hs.h
        have hr:rows[k]?=some r:=hr
        split at hs
        ·rename_i d hrd
         split at hs
         ·rename_i h1
          rw [force_eq] at hs
          refine oneK h1 (fun fs a hI w hx hf => ?_) ((hT.ty _ _ ht).one (fun n fl ks e=>hi n fl ks e)) hs
          obtain ⟨k',hfact,_⟩:=hI.evNm hC hpre ho hd rfl hlook hf
          obtain ⟨s,hs1,hs2⟩:=hfact.2
          rw [sg_loc] at hs1
          obtain ⟨y,hy,hrep⟩:=hC.cellAt hx hS1o hob hc
          rw [hy] at hs1
          cases hs1
          obtain ⟨b,cap,cur,e,hv1,hv2,g⟩:=el_at hrep hs2 hr
          obtain ⟨z,z1,z2,z3⟩:=g.elem hr hrd
          exact ⟨_,z,by first|exact hv1|exact hv2,z1,z3⟩
         ·exact hs.elim
        ·exact hs.elim
       ·exact hs.elim
      ·exact hs.elim
     ·exact hs.elim
    ·exact hs.elim
   ·exact hopD hs
  ·rename_i ty0 u y0 hop
   have hloc:S1.loc=S.loc:=by rcases hS1o with rfl|rfl<;>rfl
   have hlook:u ∈ o.looksAt l.toArray:=hops (.tmp u) (by rw [hop];simp [Op.operands]) u rfl
   split at hs
   ·rename_i x off hd
    split at hs
    ·rename_i ds hob
     split at hs
     ·rename_i sz rows hc
      split at hs
      ·rename_i e1 sz' by1 zc1 ki j ht hy0
       split at hs
       ·rename_i he
        obtain rfl:=Nat.eq_of_beq_eq_true he
        obtain ⟨⟨h0,h1⟩,hs⟩:=hs
        haveI:=(hT.ty _ _ ht).1
        haveI:=(hT.ty _ _ ht).2.1
        refine ⟨_,hs,⟨ds,hob⟩,fun fs a hI w hx hf=>done a w hx (by unfold Region.wanted;rw [hg]) fun K' hK => ?_⟩
        obtain ⟨k',hfact,_⟩:=hI.evNm hC hpre ho hd rfl hlook hf
        have hs1:w.cell? ⟨(sg S l.toArray ci cs k').loc (x+2),off,none⟩=some (a.eval (.tmp u)):=hfact.2
        rw [sg_loc] at hs1
        obtain ⟨y,hy,hrep⟩:=hC.cellAt hx hS1o hob hc
        rw [hy] at hs1
        have hye:y=a.eval (.tmp u):=Option.some.inj hs1
        obtain ⟨q,hq⟩:=hI.eval hC hpre ho hx hS1o hSd hf (x:=y0) (fun t e=>hops y0 (by rw [hop];simp [Op.operands]) t e)
        rw [hy0] at hq
        rcases hrep.sl_inv with ⟨_,rfl⟩|⟨b,cap,cur,e2,hv,g⟩
        ·simp at h1;omega
        ·obtain ⟨dst,op,ty,pos,after,guard⟩:=o
         simp only at hop
         subst hop
         refine r_indexAddr (by rw [← hye];exact hv) hq.int_inv h0 h1 (hK _ w ⟨wfw hx,?_⟩ (Ext.refl w))
         show ∃ s,w.cell? ⟨S1.loc (x+2),off,none⟩=some s∧ElAt s _ _ _ _
         rw [hloc]
         exact ⟨y,hy,b,_,_,hv,by rw [Nat.zero_add,Nat.add_zero]⟩
       ·exact hs.elim
      ·exact hs.elim
     ·exact hs.elim
    ·exact hs.elim
   ·exact hopD hs
  ·exact hopD hs
 ·rename_i j want hg
  split at hs
  ·rename_i c hc
   -- carried out, or passed over
   have both:∀ {d:D} (a:Act) (w:World) (fs:List (World→Prop)),QInv S l.toArray ci cs n0 a0 fr0 pre fs a fr→Rw S cs w0 w→(∀ e ∈ o.after.toList,Region.binds .any e=true→(fs.getD e.on (fun _=>True)) w)→
     (c=true→∀ K',(∀ v w',Fz S1.lim w' v d→Ext w w'→K' (a.put o.dst v) w')→o.wp P a w K' (NoPanic Q))→StepAt P l.toArray Q o (factSpec S1 n0 a0 (.gd c d)) a w:=by
    intro d a w fs hI hx hf h
    have hw:=hI.wanted hC hpre ho hx hS1o hSd hf hg hc
    unfold StepAt
    rw [hw]
    cases c with
    |true=>
     rw [if_pos rfl]
     exact fun K' hK=>.inl (h rfl K' fun v w' h1 h2=>hK (0,0,v) w' ⟨(PT.ext' (wfw hx) h2).wf,.gd (fun _=>h1) (fun e=>by cases e)⟩ h2)
    |false=>
     rw [if_neg (by simp)]
     exact ⟨(0,0,undef),rfl,wfw hx,.gd (fun e=>by cases e) (fun _=>rfl)⟩
   have hopG:opG P T Z fr0 fr c o.op K→∃ d,K d∧NmOk fr0 cs d∧∀ (fs:List (World→Prop)) (a:Act),QInv S l.toArray ci cs n0 a0 fr0 pre fs a fr→∀ w,Rw S cs w0 w→(∀ e ∈ o.after.toList,Region.binds .any e=true→(fs.getD e.on (fun _=>True)) w)→StepAt P l.toArray Q o (factSpec S1 n0 a0 d) a w:=by
    intro hs
    unfold opG at hs
    obtain ⟨s,d,h1,h3⟩:=opD_sound (dst:=o.dst) (ty:=o.type) (pos:=o.pos) (after:=o.after) (guard:=o.guard) hT hs
    obtain ⟨h1,h2⟩:=andO_iff.1 h1
    split at h2
    ·rename_i hpass
     rw [force_eq] at h2
     refine ⟨_,h2,trivial,fun fs a hI w hx hf=>both a w fs hI hx hf fun hct K' hK => ?_⟩
     obtain ⟨hgd,hs'⟩:=under_holds h1 hct
     obtain ⟨p,_,_,hp⟩:=fresh_place S1 w (wfw hx)
     refine h3 hs' S1 w a p (wfw hx) (fun x hx'=>gdsQ_rep _ (fun z hz=>hI.eval hC hpre ho hx hS1o hSd hf (hops z hz)) hgd x hx') K' _ fun v S' w' hpt hr _=>hK v w' ?_ hpt.ext
     have hok':okQ d=true:=by unfold okQ;rw [hpass]
     have hz:=unown (wfw hx) hpt hp hr hok'
     have e:frzQ d=d:=by unfold frzQ;rw [hpass]
     rwa [e] at hz
    ·exact h2.elim
   have hloc:S1.loc=S.loc:=by rcases hS1o with rfl|rfl<;>rfl
   have bothR:∀ {x off:Nat} (a:Act) (w:World) (fs:List (World→Prop)),QInv S l.toArray ci cs n0 a0 fr0 pre fs a fr→Rw S cs w0 w→(∀ e ∈ o.after.toList,Region.binds .any e=true→(fs.getD e.on (fun _=>True)) w)→
     (c=true→∀ K':Act→World→Prop,K' (a.put o.dst (.pointer (some ⟨S.loc (x+2),off,none⟩))) w→o.wp P a w K' (NoPanic Q))→StepAt P l.toArray Q o (factSpec S1 n0 a0 (.gref c x off)) a w:=by
    intro x off a w fs hI hx hf h
    have hw:=hI.wanted hC hpre ho hx hS1o hSd hf hg hc
    unfold StepAt
    rw [hw]
    cases c with
    |true=>
     rw [if_pos rfl]
     exact fun K' hK=>.inl (h rfl K' (hK (0,0,_) w ⟨wfw hx,by show (_:Value)=if true=true then _ else _;rw [hloc,if_pos rfl]⟩ (Ext.refl w)))
    |false=>
     rw [if_neg (by simp)]
     exact ⟨(0,0,undef),rfl,wfw hx,rfl⟩
   have evG:∀ {u x off:Nat} {c':Bool},.tmp u ∈ o.op.operands.toList→fr[u]?=some (.gref c' x off)→∀ (fs:List (World→Prop)) (a:Act),QInv S l.toArray ci cs n0 a0 fr0 pre fs a fr→∀ w,Rw S cs w0 w→(∀ e ∈ o.after.toList,Region.binds .any e=true→(fs.getD e.on (fun _=>True)) w)→c'=true→a.eval (.tmp u)=.pointer (some ⟨S.loc (x+2),off,none⟩):=fun hm hd fs a hI w hx hf hct=>by
    obtain ⟨q,hq⟩:=hI.eval hC hpre ho hx hS1o hSd hf (x:=.tmp _) (fun t e=>by cases e;exact hops _ hm _ rfl)
    simp only [evalQ,hd] at hq
    rw [hq.gref_val,if_pos hct,hloc]
   split at hs
   ·rename_i cc x y hop
    have hm:∀ z,z ∈ [cc,x,y]→∀ t,z=.tmp t→t ∈ o.looksAt l.toArray:=fun z hz=>hops z (by rw [hop];simpa [Op.operands] using hz)
    obtain ⟨s,r,hp,h12⟩:=pickD_inv hs
    obtain ⟨h1,h2⟩:=andO_iff.1 h12
    refine ⟨_,h2,trivial,fun fs a hI w hx hf=>both a w fs hI hx hf fun hct K' hK => ?_⟩
    have hev:∀ z,z ∈ [cc,x,y]→∃ q,Rep S1 w q (a.eval z) (evalQ fr0 fr z):=fun z hz=>hI.eval hC hpre ho hx hS1o hSd hf (hm z hz)
    obtain ⟨hgd,hs'⟩:=under_holds h1 hct
    obtain ⟨p,h3,h4⟩:=pickR_sound (gdsQ_rep [cc] (fun z hz=>hev z (by simp at hz;simp [hz])) hgd cc (by simp)) (hev x (by simp)) (hev y (by simp)) hp hs'
    obtain ⟨dst,op,ty,pos,after,guard⟩:=o
    simp only at hop
    subst hop
    refine pick_run h3 ?_
    rw [h4]
    exact hK _ w (.bool r) (Ext.refl w)
   ·rename_i u hop
    split at hs
    ·rename_i ds hob
     refine ⟨_,hs,⟨ds,hob⟩,fun fs a hI w hx hf=>bothR a w fs hI hx hf fun hct K' hK => ?_⟩
     obtain ⟨_,h2⟩:=hI.own u _ hob rfl
     have hval:=hC.objVal hob
     obtain ⟨dst,op,ty,pos,after,guard⟩:=o
     simp only at hop
     subst hop
     exact r_move (tmp_eval (h2.trans hval)) hK
    ·exact hopG hs
   ·rename_i u hop
    split at hs
    ·rename_i c' x off hd
     split at hs
     ·rename_i ds hob
      obtain ⟨hcc,hs⟩:=hs
      refine ⟨_,hs,⟨ds,hob⟩,fun fs a hI w hx hf=>bothR a w fs hI hx hf fun hct K' hK => ?_⟩
      have hev:=evG (by rw [hop];simp [Op.operands]) hd fs a hI w hx hf (hcc hct)
      obtain ⟨dst,op,ty,pos,after,guard⟩:=o
      simp only at hop
      subst hop
      exact r_nilCheck hev hK
     ·exact hs.elim
    ·exact hopG hs
   ·rename_i ty0 u i hop
    split at hs
    ·rename_i c' x off0 hd
     split at hs
     ·rename_i ds hob
      split at hs
      ·rename_i ht
       split at hs
       ·rename_i off n ag hfl
        obtain ⟨hcc,hs⟩:=hs
        haveI:=(hT.ty _ _ ht).2.1 _ _ _ _ hfl
        refine ⟨_,hs,⟨ds,hob⟩,fun fs a hI w hx hf=>bothR a w fs hI hx hf fun hct K' hK => ?_⟩
        have hev:=evG (by rw [hop];simp [Op.operands]) hd fs a hI w hx hf (hcc hct)
        obtain ⟨dst,op,ty,pos,after,guard⟩:=o
        simp only at hop
        subst hop
        exact r_fieldAddr hev hK
       ·exact hs.elim
      ·exact hs.elim
     ·exact hs.elim
    ·exact hopG hs
   ·rename_i ty0 u hop
    split at hs
    ·rename_i c' x off hd
     split at hs
     ·rename_i ds hob
      split at hs
      ·rename_i sz rows hcd
       split at hs
       ·rename_i e1 sz1 by1 zc1 ht
        obtain ⟨hcc,hs⟩:=hs
        rw [force_eq] at hs
        haveI:=(hT.ty _ _ ht).one (fun n fl ks e=>by cases e)
        refine ⟨_,hs,trivial,fun fs a hI w hx hf=>both a w fs hI hx hf fun hct K' hK => ?_⟩
        have hev:=evG (by rw [hop];simp [Op.operands]) hd fs a hI w hx hf (hcc hct)
        obtain ⟨y,hy,hr⟩:=hC.cellAt hx hS1o hob hcd
        obtain ⟨dst,op,ty,pos,after,guard⟩:=o
        simp only at hop
        subst hop
        exact r_load1 hev hy (hK _ w ((hr.le (.own sz rows)).passes rfl) (Ext.refl w))
       ·exact hs.elim
      ·rename_i d _ hcd
       split at hs
       ·rename_i h1
        split at hs
        ·exact hs.elim
        ·rename_i i hi ht
         obtain ⟨hcc,hs⟩:=hs
         rw [force_eq] at hs
         haveI:=(hT.ty _ _ ht).one (fun n fl ks e=>hi n fl ks e)
         refine ⟨_,hs,trivial,fun fs a hI w hx hf=>both a w fs hI hx hf fun hct K' hK => ?_⟩
         have hev:=evG (by rw [hop];simp [Op.operands]) hd fs a hI w hx hf (hcc hct)
         obtain ⟨y,hy,hr⟩:=hC.cellAt hx hS1o hob hcd
         obtain ⟨dst,op,ty,pos,after,guard⟩:=o
         simp only at hop
         subst hop
         exact r_load1 hev hy (hK _ w (D.one_fz hr h1) (Ext.refl w))
        ·exact hs.elim
       ·exact hs.elim
      ·exact hs.elim
     ·exact hs.elim
    ·exact hopG hs
   ·exact hopG hs
  ·exact hs.elim
theorem QInv.step {fr0 fr:List D} {pre:List Oper} {d:D} {v:Value} (h:QInv S l.toArray c cs n0 a0 fr0 pre fs a fr)
  (hal:NmOk fr0 cs d) {fr':List D} (hfr:(o.dst=none∧fr'=fr)∨∃ t d0,o.dst=some t∧fr[t]?=some d0∧d0.owns=false∧t ≠ cs∧fr'=fr.set t d):QInv S l.toArray c cs n0 a0 fr0 (pre ++ [o]) (fs ++ [Fact (sg S l.toArray c cs pre.length) n0 a0 d v]) (a.put o.dst v) fr':=by
 have ext:∀ (k:Nat) (p:Oper),pre[k]?=some p→(pre ++ [o])[k]?=some p:=fun k p hk=>by
  rw [List.getElem?_append_left (gLt hk)];exact hk
 have extf:∀ (k:Nat) (f:World→Prop),fs[k]?=some f→(fs ++ [Fact (sg S l.toArray c cs pre.length) n0 a0 d v])[k]?=some f:=fun k p hk=>by
  rw [List.getElem?_append_left (gLt hk)];exact hk
 rcases hfr with ⟨hn,rfl⟩|⟨t,d0,ht,h0,hd0,htc,rfl⟩
 ·rw [hn]
  refine ⟨h.size,h.len,h.defers,by simp [h.fslen],fun t e he => ?_,h.own,h.keep⟩
  rcases h.slot t e he with hl|⟨k,p,u,k1,k2,k3,k4,k5⟩
  ·exact .inl hl
  ·exact .inr ⟨k,p,u,ext k p k1,k2,k3,extf k _ k4,k5⟩
 ·rw [ht]
  have hlt:t < fr.length:=(gLt h0)
  refine ⟨by simp [Act.put,h.size],by simp [h.len],by simp [Act.put,h.defers],by simp [h.fslen],fun x e he => ?_,fun u e he hoe => ?_,by rw [put_tmps_ne (Ne.symm htc)];exact h.keep⟩
  ·by_cases hxt:x=t
   ·subst hxt
    rw [List.getElem?_set_self hlt] at he
    cases he
    refine .inr ⟨pre.length,o,v,by simp,ht,put_tmps_eq (by rw [h.size];exact hlt),?_,hal⟩
    rw [← h.fslen];simp
   ·rw [List.getElem?_set_ne (Ne.symm hxt)] at he
    rw [put_tmps_ne hxt]
    rcases h.slot x e he with hl|⟨k,p,u,k1,k2,k3,k4,k5⟩
    ·exact .inl hl
    ·exact .inr ⟨k,p,u,ext k p k1,k2,k3,extf k _ k4,k5⟩
  ·obtain ⟨g1,g2⟩:=h.own u e he hoe
   have hut:u ≠ t:=fun e'=>by subst e';rw [g1] at h0;cases h0;rw [hoe] at hd0;cases hd0
   exact ⟨by rw [List.getElem?_set_ne (Ne.symm hut)];exact g1,by rw [put_tmps_ne hut];exact g2⟩
def D.isNew:D→Bool
 |.nsl _ _ _ | .nagg _ _ _ _ _=>true
 |_=>false
theorem QInv.fr {frF fr0 fr:List D} {pre:List Oper} (h:QInv S l.toArray c cs n0 a0 fr0 pre fs a fr) (hC:QC S l c cs a0 frF fr0 w0) (hR:Rw S cs w0 w) (hf:∀ f ∈ fs,f w) (hnob:∀ (i:Nat) (x:List D),fr[i]?=some (D.obj x)→∃ c':List D,fr0[i]?=some (D.obj c')) (hnew:∀ (i:Nat) (d:D),fr[i]?=some d→d.isNew=false):FR (S.drop cs) w a (fr.map (unal cs .any))∧(fr0[cs]?=none→FR (S.drop cs) w a fr):=by
 have hF:=hC.hF
 have hwf:=hC.wf hR (.inr rfl)
 -- whatever frame holds what the owners are
 have key:∀ F:List D,(∀ u d,u ≠ cs→fr0[u]?=some d→d.owns=true→F[u]?=some d)→∀ (i:Nat) (d:D) (v:Value),fr[i]?=some d→a.tmps[i]?=some v→d ≠ .al cs→SlotRep (S.drop cs) w a F i v d:=by
  intro F hFo i d v hd hv hnc
  have hrk:∀ e,RefOk frF e→RefOk F e:=fun e he x hx=>by
   obtain ⟨cs',hc⟩:=he x hx
   have hxc:x ≠ cs:=fun e=>by subst e;exact hC.hno _ hc
   rw [← hC.other hxc] at hc
   exact ⟨cs',hFo x _ hxc hc rfl⟩
  rcases h.slot' i d hd with ⟨h1,h2⟩|⟨⟨k,p,u,k1,k2,k3,k4,k5⟩,hnx⟩
  ·by_cases hic:i=cs
   ·subst hic
    obtain rfl:=hC.at_cs h2
    exact SlotRep.of (.fz (.any _)) fun t ht=>by cases ht
   ·rw [hC.other hic] at h2
    have hs:=hF.slot i d v h2 (h1.symm.trans hv)
    cases d with
    |al x=>
     obtain ⟨g1,d',g2,g3,g4⟩:=hs
     have hxc:x ≠ cs:=fun e=>hnc (by rw [e])
     rw [← hC.other hxc] at g2
     obtain ⟨q1,q2⟩:=h.own x d' g2 g3
     exact ⟨q2.trans g1,d',hFo x d' hxc g2 g3,g3,g4⟩
    |alc x o=>exact absurd (hC.nonm i _ h2) (fun e=>by cases e)
    |el x o sz k j=>exact absurd (hC.nonm i _ h2) (fun e=>by cases e)
    |es x sz k j=>exact absurd (hC.nonm i _ h2) (fun e=>by cases e)
    |_=>exact ⟨hR.rep hF.wf (.inr rfl) hC.hno hic hs.1 hs.2,hrk _ hs.2⟩
  ·obtain rfl:u=v:=Option.some.inj (k3.symm.trans hv)
   have h2:=(hf _ (gMem k4)).2
   cases d with
   |al x=>
    rcases (k5:AlOk fr0 cs x) with ⟨rfl,_⟩|⟨d',g2,g3⟩
    ·exact absurd rfl hnc
    ·have hxc:x ≠ cs:=fun e=>hnc (by rw [e])
     obtain ⟨q1,q2⟩:=h.own x d' g2 g3
     have hg2:=g2
     rw [hC.other hxc] at hg2
     obtain ⟨v',hv',_⟩:=hF.at hg2
     simp only at h2
     rw [tmp_eval hv'] at h2
     subst h2
     refine ⟨q2.trans hv',d',hFo x d' hxc g2 g3,g3,fun e => ?_⟩
     subst e
     rw [q1] at hd
     cases hd
     cases g3
   |ref x off=>
    obtain ⟨ds,hds⟩:=(k5:∃ c,fr0[x]?=some (.obj c))
    have hxc:x ≠ cs:=fun e=>by subst e;have:=hC.at_cs hds;cases this
    have hob:=hC.refOwn hR (.inr rfl) hds
    simp only at h2
    rw [sg_loc,← hob.2] at h2
    rw [h2]
    exact ⟨.ref hob.1,fun t ht=>by cases ht;exact ⟨ds,hFo x _ hxc hds rfl⟩⟩
   |gref c1 x off=>
    obtain ⟨ds,hds⟩:=(k5:∃ c,fr0[x]?=some (.obj c))
    have hxc:x ≠ cs:=fun e=>by subst e;have:=hC.at_cs hds;cases this
    have hob:=hC.refOwn hR (.inr rfl) hds
    simp only at h2
    rw [sg_loc,← hob.2] at h2
    exact ⟨.gref hob.1 h2,fun t ht=>by cases ht;exact ⟨ds,hFo x _ hxc hds rfl⟩⟩
   |obj x=>
    obtain ⟨c',hc'⟩:=hnob i x hd
    exact absurd hc' (hnx x rfl c')
   |alc x o=>
    obtain ⟨ds,hds⟩:=(k5:∃ c,fr0[x]?=some (.obj c))
    have hxc:x ≠ cs:=fun e=>by subst e;have:=hC.at_cs hds;cases this
    have hob:=hC.refOwn hR (.inr rfl) hds
    have h2:w.cell? ⟨(sg S l.toArray c cs k).loc (x+2),o,none⟩=some u:=h2
    rw [sg_loc,← hob.2] at h2
    exact ⟨⟨⟨ds,hFo x _ hxc hds rfl⟩,hob.1⟩,h2⟩
   |el x o sz k0 j=>
    obtain ⟨ds,hds⟩:=(k5:∃ c,fr0[x]?=some (.obj c))
    have hxc:x ≠ cs:=fun e=>by subst e;have:=hC.at_cs hds;cases this
    have hob:=hC.refOwn hR (.inr rfl) hds
    obtain ⟨s,h3,h4⟩:∃ s,w.cell? ⟨(sg S l.toArray c cs k).loc (x+2),o,none⟩=some s∧ElAt s sz k0 j u:=h2
    rw [sg_loc,← hob.2] at h3
    exact ⟨⟨⟨ds,hFo x _ hxc hds rfl⟩,hob.1⟩,s,h3,h4⟩
   |es x sz k j=>exact absurd (h2:Fz _ _ _ _) (fun e=>by cases e)
   |nsl sz n z=>cases hnew i _ hd
   |nagg cs' off sz n z=>cases hnew i _ hd
   |_=>exact ⟨.fz (sg_to (.inr rfl) (fun _=>rfl) h2),fun t ht=>(Fz.men h2 ht).elim⟩
 refine ⟨⟨hwf,by simp [h.size],h.defers,fun i d v hd hv => ?_⟩,fun hn=>⟨hwf,h.size,h.defers,fun i d v hd hv=>key fr (fun u d _ h1 h2=>(h.own u d h1 h2).1) i d v hd hv fun e => ?_⟩⟩
 ·rw [List.getElem?_map] at hd
  cases hfi:fr[i]? with
  |none=>rw [hfi] at hd;cases hd
  |some e=>
   rw [hfi] at hd
   cases hd
   by_cases hnc:e=.al cs
   ·subst hnc
    simp only [unal,if_pos]
    exact SlotRep.of (.fz (.any _)) fun t ht=>by cases ht
   ·have hk:=key (fr.map (unal cs .any)) (fun u d _ h1 h2=>by
     rw [List.getElem?_map,(h.own u d h1 h2).1]
     cases d<;>first|rfl|cases h2) i e v hfi hv hnc
    have he:unal cs .any e=e:=by
     cases e with
     |al x=>simp only [unal];rw [if_neg (fun e'=>hnc (by rw [e']))]
     |es x sz k j=>
      exfalso
      rcases h.slot' i _ hfi with ⟨_,h2⟩|⟨⟨k,p,u,k1,k2,k3,k4,k5⟩,_⟩
      ·by_cases hic:i=cs
       ·subst hic
        cases hC.at_cs h2
       ·rw [hC.other hic] at h2
        exact absurd (hC.nonm i _ h2) (fun e=>by cases e)
      ·have h2:=(hf _ (gMem k4)).2
       exact absurd (h2:Fz _ _ _ _) (fun e=>by cases e)
     |_=>rfl
    rw [he]
    exact hk
 ·subst e
  rcases h.slot i _ hd with ⟨h1,h2⟩|⟨k,p,u,k1,k2,k3,k4,k5⟩
  ·have hic:i ≠ cs:=fun e=>by subst e;rw [hn] at h2;cases h2
   rw [hC.other hic] at h2
   obtain ⟨g1,d',g2,g3,g4⟩:=hF.slot i _ v h2 (h1.symm.trans hv)
   rw [hC.hX,List.getElem?_set] at hn
   simp only [if_true] at hn
   split at hn
   ·cases hn
   ·rename_i hlt
    exact hlt (gLt g2)
  ·rcases (k5:AlOk fr0 cs cs) with ⟨_,e,he⟩|⟨d',g2,_⟩
   ·rw [hn] at he;cases he
   ·rw [hn] at g2;cases g2
def keepQ (t:Nat) (d:D):D:=
 match d with
 |.ref u o=>match Nat.beq u t with
  |true=>.any
  |false=>.ref u o
 |.al u=>match Nat.beq u t with
  |true=>.any
  |false=>.al u
 |.gd c d=>match d.flat with
  |true=>.gd c d
  |false=>.any
 |d=>match d.flat with
  |true=>d
  |false=>.any
def memN (t:Nat):List Nat→Bool
 |[]=>false
 |x::r=>Nat.beq t x || memN t r
theorem memN_iff {t:Nat}:∀ {l:List Nat},memN t l=true↔t ∈ l
 |[]=>by simp [memN]
 |x::r=>by simp [memN,memN_iff (l:=r)]
def ownsAt (fr0:List D) (i:Nat):Bool:=match fr0[i]? with
 |some d=>d.owns
 |none=>false
def keepL (t:Nat) (wr:List Nat) (fr0:List D):Nat→List D→List D
 |_,[] => []
 | i,d::r=>(match memN i wr && !(Nat.beq i t || ownsAt fr0 i) with
  |true=>keepQ t d
  | false=>d)::keepL t wr fr0 (i+1) r
theorem keepL_at {t:Nat} {wr:List Nat} {fr0:List D}:∀ {l:List D} {i j:Nat},(keepL t wr fr0 i l)[j]?=l[j]?.map fun d=>match memN (i+j) wr && !(Nat.beq (i+j) t || ownsAt fr0 (i+j)) with
  |true=>keepQ t d
  |false=>d
 |[],i,j=>by simp [keepL]
 |d::r,i,0=>by simp [keepL]
 |d::r,i,j+1=>by
  rw [keepL,List.getElem?_cons_succ,List.getElem?_cons_succ,keepL_at (l:=r),show i+1+j=i+(j+1) by omega]
theorem keepL_len {t:Nat} {wr:List Nat} {fr0:List D}:∀ {l:List D} {i:Nat},(keepL t wr fr0 i l).length=l.length
 |[],i=>rfl
 |d::r,i=>by simp [keepL,keepL_len (l:=r)]
def newAt (fr0 fr:List D):List Nat→Option Nat
 |[]=>none
 |t::r=>match fr[t]? with
  |some (.obj _)=>match fr0[t]? with
   |some (.obj _)=>newAt fr0 fr r
   |_=>some t
  |_=>newAt fr0 fr r
theorem newAt_some {fr0 fr:List D} {t:Nat}:∀ {wr:List Nat},newAt fr0 fr wr=some t→(∃ x,fr[t]?=some (.obj x))∧∀ c',fr0[t]? ≠ some (.obj c')
 |[],h=>by cases h
 |u::r,h=>by
  unfold newAt at h
  split at h
  ·rename_i x hx
   split at h
   ·exact newAt_some h
   ·rename_i hno
    cases h
    exact ⟨⟨x,hx⟩,fun c' e=>hno c' e⟩
  ·exact newAt_some h
theorem newAt_none {fr0 fr:List D}:∀ {wr:List Nat},newAt fr0 fr wr=none→∀ t ∈ wr,∀ x,fr[t]?=some (.obj x)→∃ c',fr0[t]?=some (.obj c')
 |[],_,t,ht,_,_=>by cases ht
 |u::r,h,t,ht,x,hx=>by
  unfold newAt at h
  split at h
  ·rename_i y hy
   split at h
   ·rename_i c' hc'
    rcases List.mem_cons.1 ht with rfl|ht
    ·exact ⟨c',hc'⟩
    ·exact newAt_none h t ht x hx
   ·cases h
  ·rename_i hno
   rcases List.mem_cons.1 ht with rfl|ht
   ·exact absurd hx (hno x)
   ·exact newAt_none h t ht x hx
def wrOf (ops:List Oper):List Nat:=ops.filterMap (·.dst)
theorem QInv.nob {fr0 fr:List D} {pre:List Oper} (h:QInv S l.toArray c cs n0 a0 fr0 pre fs a fr) (hn:newAt fr0 fr (wrOf pre)=none):∀ (i:Nat) (x:List D),fr[i]?=some (D.obj x)→∃ c':List D,fr0[i]?=some (D.obj c'):=fun i x hx=>by
 rcases h.slot' i _ hx with ⟨_,h2⟩|⟨⟨k,p,u,k1,k2,_⟩,_⟩
 ·exact ⟨x,h2⟩
 ·exact newAt_none hn i (List.mem_filterMap.2 ⟨p,gMem k1,k2⟩) x hx
theorem keepQ_cases (t:Nat) (d:D):keepQ t d=.any∨(keepQ t d=d∧((∃ u o,d=.ref u o∧u ≠ t)∨(∃ u,d=.al u∧u ≠ t)∨(∃ c e,d=.gd c e∧e.flat=true)∨d.flat=true)):=by
 have flat:∀ {e:D},keepQ t e=(match e.flat with|true=>e|false=>.any)→keepQ t e=.any∨(keepQ t e=e∧((∃ u o,e=.ref u o∧u ≠ t)∨(∃ u,e=.al u∧u ≠ t)∨(∃ c x,e=.gd c x∧x.flat=true)∨e.flat=true)):=fun {e} h=>by
  cases hf:e.flat with
  |true=>rw [hf] at h;exact .inr ⟨h,.inr (.inr (.inr rfl))⟩
  |false=>rw [hf] at h;exact .inl h
 cases d with
 |ref u o=>
  cases hb:Nat.beq u t with
  |true=>exact .inl (by simp only [keepQ,hb])
  |false=>exact .inr ⟨by simp only [keepQ,hb],.inl ⟨u,o,rfl,fun e=>by subst e;simp at hb⟩⟩
 |al u=>
  cases hb:Nat.beq u t with
  |true=>exact .inl (by simp only [keepQ,hb])
  |false=>exact .inr ⟨by simp only [keepQ,hb],.inr (.inl ⟨u,rfl,fun e=>by subst e;simp at hb⟩)⟩
 |gd c e=>
  cases hb:e.flat with
  |true=>exact .inr ⟨by simp only [keepQ,hb],.inr (.inr (.inl ⟨c,e,rfl,hb⟩))⟩
  |false=>exact .inl (by simp only [keepQ,hb])
 |_=>exact flat rfl
theorem QInv.frN (B2:Option (Nat × Place)) {frF fr0 fr:List D} {pre:List Oper} (h:QInv S l.toArray c cs w0.heap.size a0 fr0 pre fs a fr) (hC:QC S l c cs a0 frF fr0 w0) (hcs:frF[cs]?=none) (hR:Rw S cs w0 w) (hf:∀ f ∈ fs,f w) {t:Nat} (ht:newAt fr0 fr (wrOf pre)=some t) (ht0:t ≠ 0)
  (hB:∀ b2 q2,B2=some (b2,q2)→w0.heap.size≤b2∧∃ cur e,w.heap[b2]?=some (.cells cur e (0,0))∧∀ (zc:List Value),fr[t]?=some (.obj (zeroD zc))→cur ≠ zc.toArray):
  ∃ S',Trans S w0 S' w∧FR S' w a (keepL t (wrOf pre) fr0 0 fr)∧∀ b2 q2,B2=some (b2,q2)→S'.own b2=some (q2,0):=by
 have hF:=hC.hF
 have h00:fr0=frF:=by rw [hC.hX,List.set_eq_of_length_le (List.getElem?_eq_none_iff.1 hcs)]
 obtain ⟨⟨x,hx⟩,hno⟩:=newAt_some ht
 obtain ⟨b,e,zc,v,hv,rfl,hb0,hbo,hbh,rfl,hz⟩:∃ (b:Nat) (e:TypeId) (zc:List Value) (v:Value),a.tmps[t]?=some v∧v=.pointer (some ⟨b,0,none⟩)∧w0.heap.size≤b∧(S.drop cs).own b=none∧w.heap[b]?=some (.cells zc.toArray e (0,0))∧x=zeroD zc∧zc.all Value.oneCell'=true:=by
  rcases h.slot' t _ hx with ⟨_,h2⟩|⟨⟨k,p,v,k1,k2,k3,k4,k5⟩,_⟩
  ·exact absurd h2 (hno x)
  ·obtain ⟨b,e,zc,g1,g2,g3,g4,g5,g6⟩:=(hf _ (gMem k4)).2
   refine ⟨b,e,zc,v,k3,g1,g2,?_,g4,g5,g6⟩
   cases hb:(S.drop cs).own b with
   |none=>rfl
   |some y=>have:=hF.wf b y (drop_some hb).1;omega
 have t0:=hR.to (S':=S.drop cs) (.inr rfl)
 obtain ⟨own2,ho2⟩:∃ f:Nat→Option (Place × Nat),f=fun k=>B2.elim ((S.drop cs).own k) fun y=>if k=y.1 then some (y.2,0) else (S.drop cs).own k:=⟨_,rfl⟩
 have hold2:∀ k,k < w0.heap.size→own2 k=(S.drop cs).own k:=fun k hk=>by
  rw [ho2]
  cases hB2:B2 with
  |none=>rfl
  |some y=>
   have:=(hB y.1 y.2 (by rw [hB2])).1
   simp only [Option.elim]
   rw [if_neg (by omega)]
 have hlt2:∀ k y,own2 k=some y→(S.drop cs).own k=some y∨k < w.heap.size:=fun k y hy=>by
  rw [ho2] at hy
  cases hB2:B2 with
  |none=>rw [hB2] at hy;exact .inl hy
  |some y2=>
   rw [hB2] at hy
   simp only [Option.elim] at hy
   split at hy
   ·rename_i hk
    obtain ⟨_,cur,e',h3,_⟩:=hB y2.1 y2.2 (by rw [hB2])
    exact .inr (by rw [hk];exact (Array.getElem?_eq_some_iff.1 h3).1)
   ·exact .inl hy
 let S':Sig:=⟨fun k=>if k=b then some (.slot t,0) else own2 k,fun r=>if r=t+2 then b else S.loc r⟩
 have hold:∀ k,k < w0.heap.size→S'.own k=(S.drop cs).own k:=fun k hk=>(if_neg (by omega)).trans (hold2 k hk)
 have hwd:=hC.wf hR (S':=S.drop cs) (.inr rfl)
 have hblt:b < w.heap.size:=(Array.getElem?_eq_some_iff.1 hbh).1
 have hwf:WF S' w:=⟨fun k y hy=>by
  by_cases hkb:k=b
  ·subst hkb;exact hblt
  ·have:own2 k=some y:=by simpa [S',hkb] using hy
   rcases hlt2 k y this with h1|h1
   ·exact hwd k y h1
   ·exact h1,hF.wf.gl.keep fun k hk hn=>by
  rw [hold k hk]
  exact t0.free k hk hn⟩
 have htr:Trans S w0 S' w:=⟨t0.os,t0.tape,t0.output,t0.size,fun k hk hn=>by rw [hold k hk];exact t0.free k hk hn,fun k p q hk hs hd=>by rw [hold k hk];exact t0.foreign k p q hk hs hd,fun k p q hk hs=>by rw [hold k hk];exact t0.held k p q hk hs,if_neg (by omega)⟩
 have hxt:∀ u c',frF[u]?=some (.obj c')→u ≠ t:=fun u c' hu e=>by subst e;rw [← h00] at hu;exact hno c' hu
 have hlc:∀ {u:Nat},u ≠ t→S'.loc (u+2)=S.loc (u+2):=fun hu=>if_neg (by omega)
 have keep:∀ {i:Nat} {v:Value} {d:D},i ≠ t→i ≠ cs→Rep S w0 (.slot i) v d→RefOk frF d→Rep S' w (.slot i) v d:=fun {i v d} hit hic hr hk=>by
  have old:∀ k q m,S.own k=some (q,m)→q.r ≠ cs+2→w.heap[k]?=w0.heap[k]?∧S'.own k=some (q,m):=fun k q m hs hq=>by
   have hm:mine cs (S.own k)=false:=by rw [hs];simp [mine,hq]
   have hk:=hF.wf _ _ hs
   refine ⟨hR.same k hk hm,?_⟩
   rw [hold k hk,drop_own hm,hs]
  refine hr.trans hF.wf htr (by simp [S']) (fun k q m hs hu=>old k q m hs fun e => ?_) (fun _=>hlc hit) fun u hm ho => ?_
  ·have:=hu.1
   simp only [Place.slot] at this
   omega
  ·obtain ⟨c',hc'⟩:=hk u hm
   refine ⟨hlc (hxt u c' hc'),(old _ _ _ ho fun e => ?_).2⟩
   simp only [Place.slot] at e
   have:u=cs:=by omega
   subst this
   rw [hcs] at hc'
   cases hc'
 have hat:∀ i,(keepL t (wrOf pre) fr0 0 fr)[i]?=fr[i]?.map fun d=>match memN i (wrOf pre) && !(Nat.beq i t || ownsAt fr0 i) with
   |true=>keepQ t d
   |false=>d:=fun i=>by rw [keepL_at,Nat.zero_add]
 -- owners stay
 have hown:∀ (u:Nat) (d:D),fr0[u]?=some d→d.owns=true→(keepL t (wrOf pre) fr0 0 fr)[u]?=some d∧a.tmps[u]?=a0.tmps[u]?:=fun u d hd ho=>by
  obtain ⟨g1,g2⟩:=h.own u d hd ho
  refine ⟨?_,g2⟩
  have:ownsAt fr0 u=true:=by simp [ownsAt,hd,ho]
  rw [hat,g1,this]
  simp
 have hrk:∀ d,RefOk frF d→RefOk (keepL t (wrOf pre) fr0 0 fr) d:=fun d hd u hu=>by
  obtain ⟨c',hc'⟩:=hd u hu
  rw [← h00] at hc'
  exact ⟨c',(hown u _ hc' rfl).1⟩
 have fin2:∀ b2 q2,B2=some (b2,q2)→S'.own b2=some (q2,0):=fun b2 q2 hB2=>by
  obtain ⟨_,cur,e',h3,h4⟩:=hB b2 q2 hB2
  have hne:b2 ≠ b:=fun e2=>by
   subst e2
   rw [hbh] at h3
   cases h3
   exact h4 zc hx rfl
  show (if b2=b then _ else own2 b2)=_
  rw [if_neg hne,ho2,hB2]
  simp
 refine ⟨S',htr,⟨hwf,by rw [keepL_len];exact h.size,h.defers,fun i d v' hd hv' => ?_⟩,fin2⟩
 rw [hat] at hd
 cases hfi:fr[i]? with
 |none=>rw [hfi] at hd;cases hd
 |some d0=>
  rw [hfi] at hd
  simp only [Option.map_some,Option.some.injEq] at hd
  by_cases hit:i=t
  ·subst hit
   rw [show Nat.beq i i=true by simp] at hd
   simp only [Bool.true_or,Bool.not_true,Bool.and_false] at hd
   subst hd
   rw [hx] at hfi
   cases hfi
   rw [hv] at hv'
   cases hv'
   refine SlotRep.of (.obj (by simp [S',Place.slot]) rfl (by simp [S']) hbh (by simp [zeroD]) (fun j y hj => ?_) fun j d y hj hy=>.fz ?_) fun u hu => ?_
   ·have:=Array.mem_of_getElem? hj
    exact List.all_eq_true.1 hz y (by simpa using this)
   ·have hc:=CR.zero (lim:=S'.lim) (w:=w) hz
    exact hc.fz j d y hj (by simpa using hy)
   ·have hc:=CR.zero (lim:=S'.lim) (w:=w) hz
    cases hu with
    |obj hj hm=>exact ((hc.fz _ _ _ hj (List.getElem?_eq_getElem (lt_of_len hc.len hj))).men hm).elim
  ·-- a slot that is as it was
   have left:a.tmps[i]?=a0.tmps[i]?→fr0[i]?=some d0→SlotRep S' w a (keepL t (wrOf pre) fr0 0 fr) i v' d0:=fun h1 h2=>by
    rw [h00] at h2
    have hic:i ≠ cs:=fun e=>by subst e;rw [hcs] at h2;cases h2
    have hs:=hF.slot i d0 v' h2 (h1.symm.trans hv')
    cases d0 with
    |al u=>
     obtain ⟨g1,d',g2,g3,g4⟩:=hs
     rw [← h00] at g2
     obtain ⟨q1,q2⟩:=hown u d' g2 g3
     exact ⟨q2.trans g1,d',q1,g3,g4⟩
    |alc x o=>exact absurd (hC.nonm i _ h2) (fun e=>by cases e)
    |el x o sz k j=>exact absurd (hC.nonm i _ h2) (fun e=>by cases e)
    |es x sz k j=>exact absurd (hC.nonm i _ h2) (fun e=>by cases e)
    |_=>exact ⟨keep hit hic hs.1 hs.2,hrk _ hs.2⟩
   have anyOk:SlotRep S' w a (keepL t (wrOf pre) fr0 0 fr) i v' .any:=SlotRep.of (.fz (.any _)) fun u hu=>by cases hu
   have hcase:d=.any∨(d=d0∧((memN i (wrOf pre)=false∨ownsAt fr0 i=true)∨((∃ u o,d0=.ref u o∧u ≠ t)∨(∃ u,d0=.al u∧u ≠ t)∨(∃ c e,d0=.gd c e∧e.flat=true)∨d0.flat=true))):=by
    split at hd
    ·rcases keepQ_cases t d0 with h1|⟨h1,h2⟩
     ·exact .inl (hd.symm.trans h1)
     ·exact .inr ⟨hd.symm.trans h1,.inr h2⟩
    ·rename_i hm
     refine .inr ⟨hd.symm,.inl ?_⟩
     cases hmm:memN i (wrOf pre) with
     |false=>exact .inl rfl
     |true=>
      right
      have:Nat.beq i t=false:=by
       cases hb:Nat.beq i t with
       |false=>rfl
       |true=>exact absurd (Nat.eq_of_beq_eq_true hb) hit
      rw [hmm,this] at hm
      simpa using hm
   rcases hcase with rfl|⟨rfl,hwhy⟩
   ·exact anyOk
   ·rcases h.slot' i _ hfi with ⟨h1,h2⟩|⟨⟨k,p,u,k1,k2,k3,k4,k5⟩,hnx⟩
    ·exact left h1 h2
    ·obtain rfl:u=v':=Option.some.inj (k3.symm.trans hv')
     have h2:=(hf _ (gMem k4)).2
     have hin:memN i (wrOf pre)=true:=memN_iff.2 (List.mem_filterMap.2 ⟨p,gMem k1,k2⟩)
     rcases hwhy with (hw1|hw1)|hw1
     ·rw [hin] at hw1;cases hw1
     ·unfold ownsAt at hw1
      split at hw1
      ·rename_i d1 hd1
       obtain ⟨q1,q2⟩:=h.own i d1 hd1 hw1
       rw [hfi] at q1
       cases q1
       exact left q2 hd1
      ·cases hw1
     ·rcases hw1 with ⟨y,o,rfl,hyt⟩|⟨y,rfl,hyt⟩|⟨cc,ee,rfl,hfl⟩|hfl
      ·obtain ⟨ds,hds⟩:=(k5:∃ c,fr0[y]?=some (.obj c))
       have hob:=hC.refOwn hR (S':=S.drop cs) (.inr rfl) hds
       simp only at h2
       rw [sg_loc] at h2
       rw [h2]
       have ho:S.own (S.loc (y+2))=some (.slot y,0):=by
        have:=hob.1
        rw [hob.2] at this
        exact (drop_some this).1
       have ho':S'.own (S'.loc (y+2))=some (.slot y,0):=by
        rw [hlc hyt,hold _ (hF.wf _ _ ho)]
        have:=hob.1
        rw [hob.2] at this
        exact this
       rw [← hlc hyt]
       exact ⟨.ref ho',fun z hz=>by cases hz;exact ⟨ds,(hown _ _ hds rfl).1⟩⟩
      ·rcases (k5:AlOk fr0 cs y) with ⟨rfl,e,he⟩|⟨d',g2,g3⟩
       ·rw [h00,hcs] at he;cases he
       ·obtain ⟨q1,q2⟩:=hown y d' g2 g3
        have hg2:=g2
        rw [h00] at hg2
        obtain ⟨v2,hv2,_⟩:=hF.at hg2
        simp only at h2
        rw [tmp_eval hv2] at h2
        subst h2
        refine ⟨q2.trans hv2,d',q1,g3,fun e => ?_⟩
        subst e
        obtain ⟨q3,_⟩:=h.own _ _ g2 g3
        rw [hfi] at q3
        cases q3
        cases g3
      ·have hg:=(Rep.fz (p:=.dead) h2:Rep _ w _ _ (.gd cc ee)).gd_inv
       exact ⟨.fz (.gd (fun hc=>flat_fz (.fz (p:=.dead) (hg.1 hc)) hfl) hg.2),fun z hz=>by cases hz⟩
      ·have hfz:∀ {lim:Nat→Option Nat},Fz lim w u d:=fun {lim}=>by
        cases d with
        |al y=>exact Bool.noConfusion (show false=true from hfl)
        |ref y o=>exact Bool.noConfusion (show false=true from hfl)
        |obj y=>exact Bool.noConfusion (show false=true from hfl)
        |gref c y o=>exact Bool.noConfusion (show false=true from hfl)
        |alc y o=>exact Bool.noConfusion (show false=true from hfl)
        |el y o sz k j=>exact Bool.noConfusion (show false=true from hfl)
        |es y sz k j=>exact Bool.noConfusion (show false=true from hfl)
        |nsl sz n z=>exact Bool.noConfusion (show false=true from hfl)
        |nagg cs' off sz n z=>exact Bool.noConfusion (show false=true from hfl)
        |_=>exact flat_fz (Rep.fz (p:=.dead) h2) hfl
       have hmen:∀ z,¬ Men z d:=fun z hz=>((hfz (lim:=S.lim)).men hz).elim
       refine SlotRep.of (.fz hfz) fun z hz=>(hmen z hz).elim
theorem hand_rw (hw:WF S w) (ht:Trans (S.hand u) w S' w'):Rw S u w w':=by
 refine ⟨ht.os,ht.tape,ht.output,ht.size,fun b hb hn=>(hand_old ht hb hn).1,fun b q l hs hq => ?_⟩
 exact (ht.held b ⟨2,q.path⟩ l (hw b _ hs) (by simp [Sig.hand,hs,hq])).1
theorem QC.rw_cell {frF fr0:List D} (h:QC S l c cs a0 frF fr0 w0) (hx:Rw S cs w w') {ds:List D} {v:Value} (hd:fr0[u]?=some (.obj ds)) (hc:w.cell? ⟨S.loc (u+2),off,none⟩=some v):w'.cell? ⟨S.loc (u+2),off,none⟩=some v:=by
 have huc:u ≠ cs:=fun e=>by subst e;have:=h.at_cs hd;cases this
 have hob:=(h.refOwn (Rw.ext (Ext.refl w0)) (.inl rfl) hd).1
 rw [World.cell?_of_block (a:=⟨S.loc (u+2),off,none⟩) (w:=w) (hx.same _ (cell_lt hc) (by rw [hob];simp [mine,Place.slot];omega))]
 exact hc
theorem writeQ_sound {ci:Nat} {frF fr0 fr:List D} {pre:List Oper} {d0:D} {K:D→Prop} (hC:QC S l ci cs a0 frF fr0 w0) (hpre:∀ (k:Nat) (p:Oper),pre[k]?=some p→l[k]?=some p) (ho:l[pre.length]?=some o) (hic:pre.length=ci)
  (hd0:∀ m sz rows,d0=.sl (m+1) sz rows→frF[cs]?=some d0) (hs:writeQ P cs d0 fr0 fr o K):∃ d,K d∧NmOk fr0 cs d∧∀ (fs:List (World→Prop)) (a:Act),QInv S l.toArray ci cs n0 a0 fr0 pre fs a fr→∀ w,Ext w0 w→(∀ e ∈ o.after.toList,Region.binds .any e=true→(fs.getD e.on (fun _=>True)) w)→StepG P l.toArray Q (Rw S cs) o (factSpec (S.drop cs) n0 a0 d) a w:=by
 have hops:∀ x ∈ o.op.operands.toList,∀ t,x=.tmp t→t ∈ o.looksAt l.toArray:=fun x hx t e=>by
  subst e
  exact List.mem_append_left _ (List.mem_filterMap.2 ⟨.tmp t,hx,rfl⟩)
 unfold writeQ at hs
 split at hs
 ·exact hs.elim
 ·rename_i hg
  split at hs
  ·rename_i c hop
   split at hs
   ·rename_i f hcal
    split at hs
    ·rename_i t xs hargs
     split at hs
     ·rename_i hroot
      split at hs
      ·rename_i m sz rows
       have hdF:=hd0 m sz rows rfl
       obtain ⟨d,out,⟨d1,ds',rfl,hl,hp,hsem⟩,hput⟩:=hs.h
       split at hput
       ·rename_i hq
        rw [force_eq] at hput
        refine ⟨_,hput,frzQ_nm hq,fun fs a hI w hx hf => ?_⟩
        have hopr:∀ y,y ∈ Operand.tmp t::xs→∀ t',y=.tmp t'→t' ∈ o.looksAt l.toArray:=fun y hy=>hops y (by
         rw [hop]
         simp only [Op.operands,Call.operands]
         have:y ∈ c.args.toList:=by rw [hargs];exact hy
         simp
         right
         simpa using this)
        have hev:a.eval (.tmp t)=a0.eval (.tmp cs):=by
         simp only [Bool.or_eq_true] at hroot
         rcases hroot with hb|hb
         ·rw [Nat.eq_of_beq_eq_true hb]
          simp [Act.eval,Array.getD_eq_getD_getElem?,hI.keep]
         ·split at hb
          ·rename_i u hd
           obtain rfl:=Nat.eq_of_beq_eq_true hb
           exact hI.evAl hC hpre ho (hopr _ (by simp) t rfl) hd hf
          ·cases hb
        have hw:=(PT.ext' hC.hF.wf hx).wf
        have hrep:Rep S w (.slot cs) (a.eval (.tmp t)) (.sl (m+1) sz rows):=by
         obtain ⟨v,hv,hsl⟩:=hC.hF.at hdF
         rw [hev,tmp_eval hv]
         exact (PT.ext' hC.hF.wf hx).rep hC.hF.wf hsl.1
        unfold StepG
        rw [if_pos (by unfold Region.wanted;rw [hg])]
        refine fun K' hK=>.inl ?_
        obtain ⟨dst,op,ty,pos,after,guard⟩:=o
        obtain ⟨callee,args,argTypes⟩:=c
        simp only at hop hcal hargs
        subst hop;subst hcal
        obtain rfl:args=(.tmp t::xs).toArray:=Array.ext' hargs
        refine own_call0 (ρ:=evalQ fr0 fr) hw rfl hrep (fun y hy=>hI.eval hC hpre ho (Rw.ext hx) (.inl rfl) (fun e he hb hlt=>absurd hic (late_dep hC.hlate (by simpa using ho) he hb hlt).2) hf (hopr y (by simp [hy]))) hl hp hsem fun v S' w' hw' ht hrep' hout => ?_
        have hrw:=hand_rw hw ht
        refine hK (0,0,v) w' ⟨drop_wf (hrw.wf hw),?_⟩ hrw
        have hz:=unhand hw ht hrep' hq
        have hn:=frzQ_noal hq
        have hn':=frzQ_noref hq
        generalize frzQ d=e at hz hn hn' ⊢
        cases e with
        |al u=>exact absurd rfl (hn u)
        |ref u off=>exact absurd rfl (hn' u off)
        |obj x=>cases hz
        |gref c u off=>cases hz
        |alc u off=>cases hz
        |el u off sz k j=>cases hz
        |nsl sz n z=>cases hz
        |nagg cs' off sz n z=>cases hz
        |_=>exact hz
       ·exact hput.elim
      ·exact hs.elim
     ·exact hs.elim
    ·exact hs.elim
   ·exact hs.elim
  ·exact hs.elim
theorem vcQ_sound (hT:TOk P T Z) {S:Sig} {ci cs n0:Nat} {a0:Act} {frF fr0:List D} {l:List Oper} {w0:World} {d0:D} {Q:Exit→Act→World→Prop} {K:List D→Prop} (hC:QC S l ci cs a0 frF fr0 w0) (hd0:∀ m sz rows,d0=.sl (m+1) sz rows→frF[cs]?=some d0)
  (hn0:n0≤w0.heap.size) {L:List Oper} (hQ:∀ fr fs a w,K fr→Rw S cs w0 w→QInv S l.toArray ci cs n0 a0 fr0 L fs a fr→(∀ f ∈ fs,f w)→Q .normal a w):
  ∀ (r pre:List Oper) (fr:List D),pre++r=L→(∀ (k:Nat) (p:Oper),(pre++r)[k]?=some p→l[k]?=some p)→vcQ P T Z l ci cs d0 fr0 pre.length r fr K→∃ ss,∀ (fs:List (World→Prop)) (a:Act),QInv S l.toArray ci cs n0 a0 fr0 pre fs a fr→ParW P l.toArray Q (ways S l.toArray ci cs) w0 pre.length r ss fs a
 | [],pre,fr,hL,_,hs=>⟨[],fun fs a hI=>fun w hx hf=>by
   rw [List.append_nil] at hL
   subst hL
   exact hQ fr fs a w hs hx hI hf⟩
 |o::r,pre,fr,hL,hpre,hs=>by
  have hpre':∀ (k:Nat) (p:Oper),pre[k]?=some p→l[k]?=some p:=fun k p hk=>hpre k p (by rw [List.getElem?_append_left (gLt hk)];exact hk)
  have ho:l[pre.length]?=some o:=hpre _ o (by simp)
  have fin:∀ {d:D},(match o.dst with
   |none=>vcQ P T Z l ci cs d0 fr0 (pre.length+1) r fr K
   |some t=>match fr[t]? with
    |some d1=>match d1.owns || Nat.beq t cs with
     |false=>forceL (fr.set t d) fun fr=>vcQ P T Z l ci cs d0 fr0 (pre.length+1) r fr K
     |true=>False
    | none=>False)→NmOk fr0 cs d→
    (∀ (fs:List (World→Prop)) (a:Act),QInv S l.toArray ci cs n0 a0 fr0 pre fs a fr→∀ w,(ways S l.toArray ci cs).sees pre.length w0 w→(∀ e ∈ o.after.toList,Region.binds .any e=true→(fs.getD e.on (fun _=>True)) w)→StepG P l.toArray Q ((ways S l.toArray ci cs).does pre.length) o (factSpec (sg S l.toArray ci cs pre.length) n0 a0 d) a w)→
    ∃ ss,∀ (fs:List (World→Prop)) (a:Act),QInv S l.toArray ci cs n0 a0 fr0 pre fs a fr→ParW P l.toArray Q (ways S l.toArray ci cs) w0 pre.length (o::r) ss fs a:=by
   intro d hK hal hstep
   have rest:∀ {fr':List D},((o.dst=none∧fr'=fr)∨∃ t d0,o.dst=some t∧fr[t]?=some d0∧d0.owns=false∧t ≠ cs∧fr'=fr.set t d)→vcQ P T Z l ci cs d0 fr0 (pre.length+1) r fr' K→∃ ss,∀ (fs:List (World→Prop)) (a:Act),QInv S l.toArray ci cs n0 a0 fr0 pre fs a fr→ParW P l.toArray Q (ways S l.toArray ci cs) w0 pre.length (o::r) ss fs a:=by
    intro fr' hfr hv
    obtain ⟨ss,hss⟩:=vcQ_sound hT hC hd0 hn0 hQ r (pre ++ [o]) fr' (by simpa using hL) (fun k p hk=>hpre k p (by simpa using hk)) (by simpa using hv)
    refine ⟨factSpec (sg S l.toArray ci cs pre.length) n0 a0 d::ss,fun fs a hI=>⟨fun w hx hf=>hstep fs a hI w hx hf,fun hlate u w w' hx hf => ?_,fun u => ?_⟩⟩
    ·have e:sg S l.toArray ci cs pre.length=S:=by
      unfold sg
      have hl:lateOf l.toArray ci pre.length=false:=hlate
      rw [hl]
      rfl
     simp only [factSpec] at hf ⊢
     rw [e] at hf ⊢
     have hx':Rw S cs w w':=hx
     refine ⟨hx'.wf hf.1,?_⟩
     have h2:=hf.2
     cases d with
     |al u=>exact h2
     |ref u off=>exact h2
     |gref c u off=>exact h2
     |obj x=>
      obtain ⟨b,e,zc,g1,g2,g3,g4,g5⟩:=h2
      exact ⟨b,e,zc,g1,g2,g3,(hx'.same b (Array.getElem?_eq_some_iff.1 g4).1 (by rw [g3];rfl)).trans g4,g5⟩
     |alc y off=>
      obtain ⟨ds,hds⟩:=(hal:∃ c,fr0[y]?=some (.obj c))
      exact hC.rw_cell hx' hds h2
     |el y off sz k j=>
      obtain ⟨ds,hds⟩:=(hal:∃ c,fr0[y]?=some (.obj c))
      obtain ⟨s,h3,h4⟩:=h2
      exact ⟨s,hC.rw_cell hx' hds h3,h4⟩
     |nsl sz n z=>exact NewS.keep (fun b hb hn=>hx'.same b hb (by rw [hn];rfl)) h2
     |nagg cs' off sz n z=>exact NewA.keep (fun b hb hn=>hx'.same b hb (by rw [hn];rfl)) (fun h=>h.trans (hx'.to (.inl rfl))) h2
     |_=>exact h2.trans (hx'.to (.inl rfl))
    ·have:=hss _ _ (hI.step (v:=u.2.2) hal hfr)
     rw [List.length_append] at this
     exact this
   split at hK
   ·rename_i hn
    exact rest (.inl ⟨hn,rfl⟩) hK
   ·rename_i t ht
    split at hK
    ·rename_i d1 h0
     split at hK
     ·rename_i hd1
      simp only [Bool.or_eq_false_iff] at hd1
      rw [forceL_eq] at hK
      exact rest (.inr ⟨t,d1,ht,h0,hd1.1,fun e=>by subst e;simp at hd1,rfl⟩) hK
     ·exact hK.elim
    ·exact hK.elim
  unfold vcQ at hs
  simp only at hs
  split at hs
  ·rename_i hic
   have hne:pre.length ≠ ci:=fun e=>by rw [e] at hic;simp at hic
   obtain ⟨d,hK,hal,hstep⟩:=stepQ_sound hT hC hpre' ho (Q:=Q) hn0 hs
   refine fin hK hal fun fs a hI w hx hf => ?_
   have e1:(ways S l.toArray ci cs).sees pre.length=Rw S cs:=if_neg hne
   have e2:(ways S l.toArray ci cs).does pre.length=Ext:=if_neg hne
   rw [e1] at hx
   rw [e2]
   exact hstep fs a hI w hx hf
  ·rename_i hic
   have he:=Nat.eq_of_beq_eq_true hic
   obtain ⟨d,hK,hal,hstep⟩:=writeQ_sound hC hpre' ho he hd0 (Q:=Q) hs
   refine fin hK hal fun fs a hI w hx hf => ?_
   have e1:(ways S l.toArray ci cs).sees pre.length=Ext:=if_pos he
   have e2:(ways S l.toArray ci cs).does pre.length=Rw S cs:=if_pos he
   have e3:sg S l.toArray ci cs pre.length=S.drop cs:=by
    unfold sg lateOf
    rw [he]
    simp
   rw [e1] at hx
   rw [e2,e3]
   exact hstep fs a hI w hx hf
end
end Go.Proofs.YtindehjiaknokaaGreatDoor
namespace Go.Proofs.YtindehjiaknokaaGreatDoor
set_option linter.unusedSimpArgs false
set_option linter.unusedVariables false
open Go.RowKit
variable {ops:List Oper}
def bitI (E:List Bool) (i:Nat):Bool:=E.getD i false
def readyI (ops:List Oper) (E:List Bool):List Nat:=(List.range ops.length).filter fun i => !(bitI E i) && (match ops[i]? with
 |some o=>o.after.toList.all fun e => !(Region.binds .any e) || bitI E e.on
 | none=>false)
def sameB:List Bool→List Bool→Bool
 |[],[]=>true
 |true::r,true::s=>sameB r s
 |false::r,false::s=>sameB r s
 |_,_=>false
theorem sameB_eq:∀ {a b:List Bool},sameB a b=true→a=b
 |[],[],_=>rfl
 |true::r,true::s,h=>by rw [sameB_eq (a:=r) (b:=s) h]
 |false::r,false::s,h=>by rw [sameB_eq (a:=r) (b:=s) h]
 |[],_::_,h=>by cases h
 |true::_,[],h=>by cases h
 |false::_,[],h=>by cases h
 |true::_,false::_,h=>by cases h
 |false::_,true::_,h=>by cases h
def findI:List (List Bool)→List Bool→Nat→Option Nat
 |[],_,_=>none
 |x::r,E,k=>match sameB x E with
  |true=>some k
  |false=>findI r E (k+1)
theorem findI_at:∀ {L:List (List Bool)} {E:List Bool} {k p:Nat},findI L E k=some p→k≤p∧L[p - k]?=some E
 |[],_,_,_,h=>by cases h
 |x::r,E,k,p,h=>by
  simp only [findI] at h
  split at h
  ·rename_i hx
   cases h
   have:=sameB_eq hx
   subst this
   exact ⟨Nat.le_refl _,by simp⟩
  ·obtain ⟨h1,h2⟩:=findI_at h
   refine ⟨by omega,?_⟩
   rw [show p - k=(p - (k+1))+1 by omega,List.getElem?_cons_succ]
   exact h2
def okI (ops:List Oper) (n:Nat) (L:List (List Bool)):Bool:=
 (match L with
  |E::_=>sameB E (ops.map fun _=>false)
  | _=>false) &&
 (L.all fun E=>Nat.beq E.length ops.length && (match readyI ops E with
  |[]=>sameB E (L.getLastD []) && E.all (fun b=>b)
  | _ => !(E.all fun b=>b))) &&
 ((match findI L (L.getLastD []) 0 with
  |some p=>Nat.beq (p+1) L.length
  |none=>false) && (ops.all fun o=>match o.dst with
  |some d=>Nat.blt d n
  | none=>true))
structure EqF (a b:List D):Prop where
 h:a=b
structure AndI (p q:Prop):Prop where
 l:p
 r:q
structure ExE (F:List D→Prop):Prop where
 h:∃ f,F f
theorem ExE.go {F:List D→Prop} {f:List D} (h:F f):ExE F:=⟨f,h⟩
def ExF:Nat→(List (List D)→Prop)→Prop
 |0,K=>K []
 |n+1,K=>ExE fun f=>ExF n fun l=>K (f::l)
theorem ExF_ok:∀ {n:Nat} {K:List (List D)→Prop},ExF n K→∃ l:List (List D),l.length=n∧K l
 |0,K,h=>⟨[],rfl,h⟩
 |n+1,K,h=>by
  obtain ⟨f,h⟩:=h.h
  obtain ⟨l,hl,hk⟩:=ExF_ok h
  exact ⟨f::l,by simp [hl],hk⟩
def stepG (P:Program) (T:Nat→Option TI) (Z:Nat→Option (List Value)) (M:Nat→Bool) (ops:List Oper) (o:Oper) (fr:List D) (K:List D→Prop):Prop:=
 match o.guard with
 |none=>stepN P T Z M o fr K
 |some (j,want)=>match condOf ops fr j want with
  |some c=>forceL (prepG o fr) fun fr=>gstepD P T Z o c fr K
  |none=>False
def stepsAt (P:Program) (T:Nat→Option TI) (Z:Nat→Option (List Value)) (M:Nat→Bool) (ops:List Oper) (L:List (List Bool)) (F:List (List D)) (fr:List D) (E:List Bool):List Nat→Prop
 |[]=>True
 | i::r=>AndI (match ops[i]? with
  |some o=>match findI L (E.set i true) 0 with
   |some p=>match F[p]? with
    |some g=>stepG P T Z M ops o fr fun fr'=>EqF fr' g
    |none=>False
   |none=>False
  | none=>False) (stepsAt P T Z M ops L F fr E r)
def stepsI (P:Program) (T:Nat→Option TI) (Z:Nat→Option (List Value)) (M:Nat→Bool) (ops:List Oper) (L:List (List Bool)) (F:List (List D)):List (List Bool)→List (List D)→Prop
 |[],[]=>True
 |E::Ls,fr::Fs=>AndI (stepsAt P T Z M ops L F fr E (readyI ops E)) (stepsI P T Z M ops L F Ls Fs)
 |_,_=>False
structure DrawI (ops:List Oper) (n:Nat) (F:List (List Bool)→Prop):Prop where
 h:∃ L,okI ops n L=true∧F L
theorem DrawI.go {n:Nat} {F:List (List Bool)→Prop} (L:List (List Bool)) (h1:okI ops n L=true) (h2:F L):DrawI ops n F:=⟨L,h1,h2⟩
def vcI (P:Program) (T:Nat→Option TI) (Z:Nat→Option (List Value)) (M:Nat→Bool) (ops:List Oper) (fr:List D) (K:List D→Prop):Prop:=
 DrawI ops fr.length fun L=>ExF (L.length - 1) fun Fs=>AndI (stepsI P T Z M ops L (fr::Fs) L (fr::Fs)) (K ((fr::Fs).getLastD []))
section
variable {P:Program} {T:Nat→Option TI} {Z:Nat→Option (List Value)} {M:Nat→Bool}
theorem stepsAt_at {ops:List Oper} {L:List (List Bool)} {F:List (List D)} {fr:List D} {E:List Bool}:∀ {is:List Nat},stepsAt P T Z M ops L F fr E is→∀ i ∈ is,∃ (o:Oper) (p:Nat) (g:List D),ops[i]?=some o∧findI L (E.set i true) 0=some p∧F[p]?=some g∧stepG P T Z M ops o fr fun fr'=>EqF fr' g
 |[],_,i,hi=>by cases hi
 |k::r,h,i,hi=>by
  rcases List.mem_cons.1 hi with rfl|hi
  ·have h1:=h.l
   split at h1
   ·rename_i o ho
    split at h1
    ·rename_i p hp
     split at h1
     ·rename_i g hg
      exact ⟨o,p,g,ho,hp,hg,h1⟩
     ·exact h1.elim
    ·exact h1.elim
   ·exact h1.elim
  ·exact stepsAt_at h.r i hi
theorem stepsI_at {ops:List Oper} {L:List (List Bool)} {F:List (List D)}:∀ {Ls:List (List Bool)} {Fs:List (List D)},stepsI P T Z M ops L F Ls Fs→Ls.length=Fs.length∧∀ (p:Nat) (E:List Bool) (fr:List D),Ls[p]?=some E→Fs[p]?=some fr→stepsAt P T Z M ops L F fr E (readyI ops E)
 |[],[],_=>⟨rfl,fun p E fr h=>by simp at h⟩
 |E::Ls,fr::Fs,h=>by
  obtain ⟨h1,h2⟩:=stepsI_at h.r
  refine ⟨by simp [h1],fun p E' fr' hE hF => ?_⟩
  cases p with
  |zero=>cases hE;cases hF;exact h.l
  |succ p=>exact h2 p E' fr' (by simpa using hE) (by simpa using hF)
 |[],_::_,h=>h.elim
 |_::_,[],h=>h.elim
theorem vcI_sound (hT:TOk P T Z) (hm:P.follows .mixedOrders=true) {id:Nat} {l:List Oper} {fr:List D} {K:List D→Prop} (h:vcI P T Z M l fr K) {S:Sig} {w:World} {a:Act} (hF:FR S w a fr) {Q:Exit→Act→World→Prop}
  (hK:∀ fr' S' w' a',K fr'→Trans S w S' w'→FR S' w' a' fr'→Q .normal a' w'):(Code.region id l.toArray true).wp P Q a w:=by
 obtain ⟨L,hok,h⟩:=h.h
 obtain ⟨Fs,hFl,hst,hk⟩:=ExF_ok h
 simp only [okI,Bool.and_eq_true] at hok
 obtain ⟨⟨h0,hall⟩,hlast,hops⟩:=hok
 obtain ⟨hlen,hsteps⟩:=stepsI_at hst
 refine wp_region_noPanic (wp_region_any hm ?_)
 have hE:∀ p E,L[p]?=some E→E.length=l.length∧((readyI l E = []∧E=L.getLastD []∧∀ j,j < l.length→bitI E j=true)∨(readyI l E ≠ []∧∃ j,j < l.length∧bitI E j=false)):=fun p E hp=>by
  have:=List.all_eq_true.1 hall E (gMem hp)
  simp only [Bool.and_eq_true] at this
  have hl:=Nat.eq_of_beq_eq_true this.1
  refine ⟨hl,?_⟩
  have h2:=this.2
  split at h2
  ·rename_i hr
   simp only [Bool.and_eq_true] at h2
   refine .inl ⟨hr,sameB_eq h2.1,fun j hj => ?_⟩
   have hjl:j < E.length:=by omega
   have:=List.all_eq_true.1 h2.2 E[j] (List.getElem_mem hjl)
   simp only [bitI,List.getD_eq_getElem?_getD,List.getElem?_eq_getElem hjl,Option.getD_some]
   exact this
  ·rename_i hr
   refine .inr ⟨hr,?_⟩
   simp only [Bool.not_eq_true',List.all_eq_false] at h2
   obtain ⟨b,hb,hbf⟩:=h2
   obtain ⟨j,hj,rfl⟩:=List.mem_iff_getElem.1 hb
   refine ⟨j,by omega,?_⟩
   simp only [bitI,List.getD_eq_getElem?_getD,List.getElem?_eq_getElem hj,Option.getD_some]
   simpa using hbf
 -- whatever came: the rest goes well
 have key:∀ (fuel p:Nat) (E:List Bool) (g:List D),findI L E 0=some p→(fr::Fs)[p]?=some g→∀ (listed:Array Bool) (S1:Sig) (w1:World) (b:Act),listed.size=l.length→(∀ j,j < l.length→listed.getD j false=bitI E j)→l.length≤fuel+listed.toList.countP (fun x=>x)→FR S1 w1 b g→Trans S w S1 w1→
   wpAny P .any l.toArray (NoPanic Q) fuel listed b w1:=by
  have hready:∀ (E:List Bool) (listed:Array Bool),listed.size=l.length→(∀ j,j < l.length→listed.getD j false=bitI E j)→E.length=l.length→∀ i,i ∈ Region.ready .any l.toArray listed↔i ∈ readyI l E:=fun E listed hsz hbit hEl i=>by
   have hb:∀ k,listed.getD k false=bitI E k:=fun k=>by
    rcases Nat.lt_or_ge k l.length with hk|hk
    ·exact hbit k hk
    ·have h1:¬ k < listed.size:=by omega
     have h2:E[k]?=none:=List.getElem?_eq_none (by omega)
     simp [bitI,h1,List.getD_eq_getElem?_getD,h2]
   rw [mem_ready,readyI,List.mem_filter,List.mem_range]
   simp only [Bool.and_eq_true,Bool.not_eq_true']
   constructor
   ·rintro ⟨g0,o,ho,hal⟩
    have ho':l[i]?=some o:=by simpa using ho
    have hil:=(List.getElem?_eq_some_iff.1 ho').1
    refine ⟨hil,?_,?_⟩
    ·rw [← hb]
     have:i < listed.size:=by omega
     simp [this] at g0 ⊢
     exact g0
    ·rw [ho']
     simp only [List.all_eq_true,Bool.or_eq_true,Bool.not_eq_true']
     intro e he
     cases hbd:Region.binds .any e with
     |false=>exact .inl rfl
     |true=>right;rw [← hb];exact hal e (by simpa using he) hbd
   ·rintro ⟨hil,g0,g1⟩
    rw [← hb] at g0
    have hsi:i < listed.size:=by omega
    have ho':l[i]?=some l[i]:=List.getElem?_eq_getElem hil
    rw [ho'] at g1
    simp only [List.all_eq_true,Bool.or_eq_true,Bool.not_eq_true'] at g1
    refine ⟨by simp [hsi] at g0 ⊢;exact g0,l[i],by simp [hil],fun e he hbd => ?_⟩
    rcases g1 e (by simpa using he) with h1|h1
    ·rw [hbd] at h1;cases h1
    ·rw [hb];exact h1
  have fin:∀ (p:Nat) (E:List Bool) (g:List D),findI L E 0=some p→(fr::Fs)[p]?=some g→readyI l E = []→∀ (S1:Sig) (w1:World) (b:Act),FR S1 w1 b g→Trans S w S1 w1→NoPanic Q .normal b w1:=fun p E g hp hg hr S1 w1 b hf ht=>by
   have hpE:=(findI_at hp).2
   rw [Nat.sub_zero] at hpE
   rcases (hE p E hpE).2 with ⟨_,rfl,_⟩|⟨hn,_⟩
   ·rw [hp] at hlast
    simp only at hlast
    have hpl:=Nat.eq_of_beq_eq_true hlast
    have:(fr::Fs).getLastD []=g:=by
     rw [List.getLastD_eq_getLast?,List.getLast?_eq_getElem?,← hlen]
     rw [show L.length - 1=p by omega,hg]
     rfl
    rw [this] at hk
    exact NoPanic.normal (hK g S1 w1 b hk ht hf)
   ·exact absurd hr hn
  intro fuel
  induction fuel with
  |zero=>
   intro p E g hp hg listed S1 w1 b hsz hbit hfu hf ht
   have hpE:=(findI_at hp).2
   rw [Nat.sub_zero] at hpE
   obtain ⟨hEl,hcase⟩:=hE p E hpE
   have hall:∀ j,j < l.length→bitI E j=true:=by
    intro j hj
    rw [← hbit j hj]
    have hc:listed.toList.countP (fun x=>x)=listed.toList.length:=by
     have:=List.countP_le_length (p:=fun x=>x) (l:=listed.toList)
     simp only [Array.length_toList] at *
     omega
    have:=List.countP_eq_length.1 hc
    have hjs:j < listed.size:=by omega
    simp [hjs]
    exact this _ (by simp)
   have hr:readyI l E = []:=by
    rcases hcase with ⟨hr,_⟩|⟨_,j,hj,hjf⟩
    ·exact hr
    ·rw [hall j hj] at hjf;cases hjf
   refine ⟨?_,fin p E g hp hg hr S1 w1 b hf ht⟩
   rw [List.eq_nil_iff_forall_not_mem]
   intro i hi
   have:=(hready E listed hsz hbit hEl i).1 hi
   rw [hr] at this
   cases this
  |succ fuel ih=>
   intro p E g hp hg listed S1 w1 b hsz hbit hfu hf ht
   have hpE:=(findI_at hp).2
   rw [Nat.sub_zero] at hpE
   obtain ⟨hEl,hcase⟩:=hE p E hpE
   refine ⟨fun hr => ?_,fun i hi => ?_⟩
   ·refine fin p E g hp hg ?_ S1 w1 b hf ht
    rw [List.eq_nil_iff_forall_not_mem]
    intro i hi
    have:=(hready E listed hsz hbit hEl i).2 hi
    rw [hr] at this
    cases this
   ·have hi':=(hready E listed hsz hbit hEl i).1 hi
    obtain ⟨o,p',g',ho,hp',hg',hstep⟩:=stepsAt_at (hsteps p E g hpE hg) i hi'
    have hil:i < l.length:=(gLt ho)
    have cont:∀ (fr':List D) (S':Sig) (w':World) (a':Act),EqF fr' g'→Trans S1 w1 S' w'→FR S' w' a' fr'→wpAny P .any l.toArray (NoPanic Q) fuel (listed.setIfInBounds i true) a' w':=fun fr' S' w' a' he t f => ?_
    ·unfold wpOp
     simp only [show l.toArray[i]?=some o by simpa using ho]
     unfold stepG at hstep
     split at hstep
     ·rename_i hgd
      rw [if_pos (by unfold Region.wanted;rw [hgd])]
      exact .inl (stepN_sound hT hf hstep _ _ cont)
     ·rename_i j want hgd
      split at hstep
      ·rename_i c hc
       have hw:=wanted_cond hf hgd hc
       rw [forceL_eq] at hstep
       obtain ⟨S2,t2,h2⟩:=prepG_sound hf o
       obtain ⟨g1,g0⟩:=gstep_sound hT h2 hstep
       rw [hw]
       cases c with
       |true=>
        rw [if_pos rfl]
        exact .inl (g1 rfl _ _ fun fr' S' w' a' he t f=>cont fr' S' w' a' he (t2.trans t) f)
       |false=>
        rw [if_neg (by simp)]
        obtain ⟨fr',k,f⟩:=g0 rfl
        exact cont fr' S2 w1 _ k t2 f
      ·exact hstep.elim
    obtain ⟨rfl⟩:=he
    have his:i < listed.size:=by omega
    have hnb:bitI E i=false:=by
     have:=(List.mem_filter.1 hi').2
     simp only [Bool.and_eq_true,Bool.not_eq_true'] at this
     exact this.1
    refine ih p' (E.set i true) fr' hp' hg' _ S' w' a' (by simpa using hsz) (fun j hj => ?_) ?_ f (ht.trans t)
    ·by_cases hji:j=i
     ·subst hji
      have:j < E.length:=by omega
      simp [bitI,his,List.getD_eq_getElem?_getD,this]
     ·rw [getD_set_ne false (Ne.symm hji),hbit j hj]
      simp only [bitI,List.getD_eq_getElem?_getD,List.getElem?_set_ne (Ne.symm hji)]
    ·have hc:(listed.setIfInBounds i true).toList.countP (fun x=>x)=listed.toList.countP (fun x=>x)+1:=by
      have hi2:i < listed.toList.length:=by simpa using his
      simp only [Array.toList_setIfInBounds]
      rw [List.countP_set (h:=hi2)]
      have:listed.toList[i]=false:=by
       have:=(hbit i hil).trans hnb
       simp [his] at this
       simpa using this
      rw [this]
      simp
     rw [hc]
     omega
 have hp0:findI L (l.map fun _=>false) 0=some 0:=by
  split at h0
  ·rename_i E r
   simp only [findI,h0]
  ·cases h0
 refine key l.toArray.size 0 (l.map fun _=>false) fr hp0 rfl _ S w.drew a (by simp) (fun j hj => ?_) (by simp) (hF.drop (PT.ext' hF.wf (Ext.drew w))) (PT.ext' hF.wf (Ext.drew w)).trans
 simp [bitI,List.getD_eq_getElem?_getD,hj]
end
end Go.Proofs.YtindehjiaknokaaGreatDoor
