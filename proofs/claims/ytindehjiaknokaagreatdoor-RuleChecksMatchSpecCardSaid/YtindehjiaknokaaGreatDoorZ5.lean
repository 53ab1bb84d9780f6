/- Operations one after the other, on frames of data. Operations under guards, and regions in the order of the text. Regions whose order Go leaves open: whatever the order, the data are the same. -/
import Derived.Test.YtindehjiaknokaaGreatDoorZ4
namespace Go.Proofs.YtindehjiaknokaaGreatDoor
set_option linter.unusedSimpArgs false
set_option linter.unusedVariables false
open Go.RowKit
def strip:D→D
 |.gd _ d=>d
 |d=>d
def forceL {α:Type}:List α→(List α→Prop)→Prop
 |[],K=>K []
 |x::l,K=>forceL l fun l=>K (x::l)
theorem forceL_eq {α:Type}:∀ (l:List α) (K:List α→Prop),forceL l K=K l
 |[],_=>rfl
 |x::l,K=>by rw [forceL,forceL_eq l]
def force1 (d:D) (K:D→Prop):Prop:=
 match d with
 |.any=>K .any
 |.int k n=>K (.int k n)
 |.bool b=>K (.bool b)
 |.str s=>K (.str s)
 |.pv v=>K (.pv v)
 |.nil=>K .nil
 |.sl m sz rows=>K (.sl m sz rows)
 |.ptr cs=>K (.ptr cs)
 |.obj cs=>K (.obj cs)
 |.ref t o=>K (.ref t o)
 |.gref c t o=>K (.gref c t o)
 |.al t=>K (.al t)
 |.alc t o=>K (.alc t o)
 |.el t o sz k j=>K (.el t o sz k j)
 |.es t sz k j=>K (.es t sz k j)
 |.fn f cs=>K (.fn f cs)
 |.gd c d=>K (.gd c d)
 |.agg cs=>K (.agg cs)
 |.tup ds=>K (.tup ds)
 |.mp kd es=>K (.mp kd es)
 |.nsl sz n z=>K (.nsl sz n z)
 |.nagg cs off sz n z=>K (.nagg cs off sz n z)
 |.fmp kd es=>K (.fmp kd es)
theorem force1_eq (d:D) (K:D→Prop):force1 d K=K d:=by cases d<;>rfl
def forceH:List D→(List D→Prop)→Prop
 |[],K=>K []
 |x::l,K=>force1 x fun x=>forceH l fun l=>K (x::l)
theorem forceH_eq:∀ (l:List D) (K:List D→Prop),forceH l K=K l
 |[],_=>rfl
 |x::l,K=>by rw [forceH,force1_eq,forceH_eq l]
def force (d:D) (K:D→Prop):Prop:=
 match d with
 |.ptr cs=>forceH cs fun cs=>K (.ptr cs)
 |.obj cs=>forceH cs fun cs=>K (.obj cs)
 |.fn f cs=>forceH cs fun cs=>K (.fn f cs)
 |.gd c (.bool b)=>K (.gd c (.bool b))
 |.gd c (.int k n)=>K (.gd c (.int k n))
 |.gd c (.agg cs)=>forceH cs fun cs=>K (.gd c (.agg cs))
 |.gd c (.ptr cs)=>forceH cs fun cs=>K (.gd c (.ptr cs))
 |.gd c d=>K (.gd c d)
 |.agg cs=>forceH cs fun cs=>K (.agg cs)
 |.tup ds=>forceH ds fun ds=>K (.tup ds)
 |d=>force1 d K
theorem force_eq (d:D) (K:D→Prop):force d K=K d:=by
 unfold force
 split<;>first|rfl|simp only [forceH_eq,force1_eq]
def putD (fr:List D) (dst:Option Nat) (d:D) (K:List D→Prop):Prop:=
 match dst with
 |none=>K fr
 |some t=>match fr[t]? with
  |some d0=>match d0.owns with
   |false=>force d fun d=>forceL (fr.set t d) K
   |true=>match d0.isObj with
    |false=>force d fun d=>forceL ((fr.map (unal t .any)).set t d) K
    |true=>False
  |none=>False
def down1 (fr:List D):Operand→List D
 |.tmp t=>match fr[t]? with
  |some (.al u)=>match fr[u]? with
   |some (.sl 2 sz rows)=>fr.set u (.sl 1 sz rows)
   |_=>fr
  |some (.sl 2 sz rows)=>fr.set t (.sl 1 sz rows)
  |some (.alc u off)=>match fr[u]? with
   |some (.obj cs)=>match cs[off]? with
    |some (.sl 2 sz rows)=>fr.set u (.obj (cs.set off (.sl 1 sz rows)))
    |_=>fr
   |_=>fr
  |_=>fr
 |_=>fr
def frz1 (fr:List D):Operand→List D
 |.tmp t=>match fr[t]? with
  |some (.al u)=>match fr[u]? with
   |some (.sl (_+1) sz rows)=>(fr.map (unal u (.sl 0 sz rows))).set u (.sl 0 sz rows)
   |_=>fr
  |some (.sl (_+1) sz rows)=>(fr.map (unal t (.sl 0 sz rows))).set t (.sl 0 sz rows)
  |some (.alc u off)=>match fr[u]? with
   |some (.obj cs)=>match cs[off]? with
    |some (.sl (_+1) sz rows)=>fr.set u (.obj (cs.set off (.sl 0 sz rows)))
    |_=>fr
   |_=>fr
  |_=>fr
 |_=>fr
def prep (o:Op) (fr:List D):List D:=
 match o with
 |.indexAddr _ x _=>down1 fr x
 |.call c=>match c.callee with
  |.value _=>c.args.toList.foldl down1 fr
  |_=>fr
 |.box _ x=>frz1 fr x
 |.slice _ x _ _ _=>frz1 fr x
 |.build _ parts=>parts.toList.foldl (fun fr x=>frz1 fr x.2) fr
 |.buildSlice _ _ parts=>parts.toList.foldl (fun fr x=>frz1 fr x.2) fr
 |_=>fr
def needsPrep:Op→Bool
 |.indexAddr _ _ _ | .box _ _ | .slice _ _ _ _ _ | .build _ _ | .buildSlice _ _ _=>true
 |.call _=>true
 |_=>false
def pureD (P:Program) (T:Nat→Option TI) (Z:Nat→Option (List Value)) (o:Oper) (fr:List D) (K:List D→Prop):Prop:=
 opD P T Z (evalD fr) o.op fun s d=>andO s (putD fr o.dst d K)
def pickR (dc:D) (x y:Operand) (ρ:Operand→D):Option (Option Prop × Bool):=
 match dc with
 |.bool p=>match y with
  |.const (.bool false)=>match ρ x with
   |.gd p' (.bool q)=>some (some (p=true→p'=true),p && q)
   |.bool q=>some (none,p && q)
   |_=>none
  |_=>match x with
   |.const (.bool true)=>match ρ y with
    |.gd p' (.bool q)=>some (some (p=false→p'=true),p || q)
    |.bool q=>some (none,p || q)
    |_=>none
   |_=>none
 |_=>none
def pickD (dc:D) (x y:Operand) (ρ:Operand→D) (K:Option Prop→D→Prop):Prop:=
 match pickR dc x y ρ with
 |some (s,r)=>K s (.bool r)
 |none=>False
theorem pickD_inv {dc:D} {x y:Operand} {ρ:Operand→D} {K:Option Prop→D→Prop} (h:pickD dc x y ρ K):∃ s r,pickR dc x y ρ=some (s,r)∧K s (.bool r):=by
 unfold pickD at h
 split at h
 ·exact ⟨_,_,by assumption,h⟩
 ·exact h.elim
def rootOf (fr:List D):Operand→Option Nat
 |.tmp t=>match fr[t]? with
  |some (.al u)=>some u
  |some (.sl (_+1) _ _)=>some t
  |some (.mp _ _)=>some t
  |_=>none
 |_=>none
def rowsOf (sz:Nat):D→Option (Nat × List (List D))
 |.nil=>some (sz,[])
 |.sl _ s rows=>some (s,rows)
 |_=>none
def appendD (T:Nat→Option TI) (c:Call) (dst:Option Nat) (fr:List D) (K:List D→Prop):Prop:=
 match c.args.toList,c.argTypes.toList with
 |[s,x],[t,t']=>match T t with
  |some (.sl _ sz bytes _)=>match Nat.beq t t' && Nat.ble bytes 1000 with
   |true=>match rowsOf sz (evalD fr x) with
    |some (s2,rows2)=>match rootOf fr s with
     |some u=>match fr[u]? with
      |some (.sl 1 s1 rows)=>SideD (s1=sz∧s2=sz∧rows.length+rows2.length≤1000000000) (forceL ((fr.map (unal u .any)).set u .any) fun fr=>putD fr dst (.sl 1 sz (rows++rows2)) K)
      |some (.sl 2 s1 rows)=>SideD (s1=sz∧s2=sz∧rows.length+rows2.length≤1000000000) (forceL ((fr.map (unal u .any)).set u .any) fun fr=>putD fr dst (.sl 2 sz (rows++rows2)) K)
      |_=>False
     |none=>match evalD fr s with
      |.nil=>SideD (s2=sz∧rows2.length≤1000000000) (putD fr dst (.sl 2 sz rows2) K)
      |_=>False
    |none=>False
   |false=>match T t',evalD fr x,Nat.beq sz 1 && Nat.ble bytes 1000 with
    |some .str,.str txt,true=>match rootOf fr s with
     |some u=>match fr[u]? with
      |some (.sl 1 s1 rows)=>SideD (s1=1∧rows.length+txt.length≤1000000000) (forceL ((fr.map (unal u .any)).set u .any) fun fr=>putD fr dst (.sl 1 1 (rows++txt.map bR)) K)
      |some (.sl 2 s1 rows)=>SideD (s1=1∧rows.length+txt.length≤1000000000) (forceL ((fr.map (unal u .any)).set u .any) fun fr=>putD fr dst (.sl 2 1 (rows++txt.map bR)) K)
      |_=>False
     |none=>match evalD fr s with
      |.nil=>SideD (txt.length≤1000000000) (putD fr dst (.sl 2 1 (txt.map bR)) K)
      |_=>False
    |_,_,_=>False
  |_=>False
 |_,_=>False
def takeD (fr:List D) (u:Nat) (dst:Option Nat) (K:List D→Prop):Prop:=
 match fr[u]? with
 |some (.sl (m+1) sz rows)=>forceL ((fr.map (unal u .any)).set u .any) fun fr=>putD fr dst (.sl (m+1) sz rows) K
 |some (.mp kd es)=>forceL ((fr.map (unal u .any)).set u .any) fun fr=>putD fr dst (.mp kd es) K
 |_=>False
def updD (T:Nat→Option TI) (ty:Nat) (m k v:Operand) (dst:Option Nat) (fr:List D) (K:List D→Prop):Prop:=
 match dst with
 |some _=>False
 |none=>match T ty,rootOf fr m with
  |some (.mp _ _ kd _),some u=>match fr[u]? with
   |some (.mp kd' es)=>match (evalD fr k).keyV,(evalD fr v).keyV with
    |some kv,some vv=>match sameKD kd kd' && fitK kd kv with
     |true=>forceL (fr.set u (.mp kd (putV kv vv es))) K
     |false=>False
    |_,_=>False
   |_=>False
  |_,_=>False
def delD (T:Nat→Option TI) (c:Call) (dst:Option Nat) (fr:List D) (K:List D→Prop):Prop:=
 match dst,c.args.toList,c.argTypes.toList with
 |none,[m,k],[ty,kt]=>match T ty,rootOf fr m with
  |some (.mp kt' _ kd _),some u=>match Nat.beq kt kt' with
   |true=>match fr[u]? with
    |some (.mp kd' es)=>match (evalD fr k).keyV with
     |some kv=>match sameKD kd kd' && fitK kd kv with
      |true=>forceL (fr.set u (.mp kd (delV kv es))) K
      |false=>False
     |none=>False
    |_=>False
   |false=>False
  |_,_=>False
 |_,_,_=>False
def frzC1 (u off:Nat) (fr:List D):List D:=
 match fr[u]? with
 |some (.obj cs)=>match cs[off]? with
  |some (.sl (_+1) sz rows)=>fr.set u (.obj (cs.set off (.sl 0 sz rows)))
  |_=>fr
 |_=>fr
def frzCs (u off:Nat):Nat→List D→List D
 |0,fr=>fr
 |n+1,fr=>frzC1 u (off+n) (frzCs u off n fr)
def frzL (T:Nat→Option TI) (ty u off:Nat) (fr:List D):List D:=
 match T ty with
 |some (.st n _ _)=>frzCs u off n fr
 |_=>fr
def loadD (T:Nat→Option TI) (ty u off:Nat) (dst:Option Nat) (fr:List D) (K:List D→Prop):Prop:=
 match fr[u]? with
 |some (.obj cs)=>match T ty with
  |some (.st n _ _)=>match Nat.ble (off+n) cs.length && ((cs.drop off).take n).all D.one with
   |true=>putD fr dst (.agg ((cs.drop off).take n)) K
   |false=>False
  |some _=>match cs[off]? with
   |some d=>match d.one with
    |true=>putD fr dst d K
    |false=>False
   |none=>False
  |none=>False
 |_=>False
def putObj (fr:List D) (u:Nat) (cs:List D) (K:List D→Prop):Prop:=forceH cs fun cs=>forceL (fr.set u (.obj cs)) K
def eraC (u off n:Nat) (fr:List D):List D:=match fr.any (nmOf u off n) with
 |true=>fr.map (unac u off n)
 |false=>fr
theorem eraC_eq (u off n:Nat) (fr:List D):eraC u off n fr=fr.map (unac u off n):=by
 unfold eraC
 split
 ·rfl
 ·rename_i h;exact (unac_map h).symm
def eraU (u:Nat) (fr:List D):List D:=match fr.any (nmU u) with
 |true=>fr.map (unob u)
 |false=>fr
theorem eraU_eq (u:Nat) (fr:List D):eraU u fr=fr.map (unob u):=by
 unfold eraU
 split
 ·rfl
 ·rename_i h;exact (unob_map h).symm
def storeD (T:Nat→Option TI) (ty:Nat) (x v:Operand) (dst:Option Nat) (fr:List D) (K:List D→Prop):Prop:=
 match dst with
 |some _=>False
 |none=>match objAt fr x with
  |some (u,off)=>match fr[u]? with
   |some (.obj cs)=>match T ty with
    |some ti=>match (evalD fr v).cellsOf with
     |some vs=>match Nat.beq vs.length ti.cells && Nat.ble (off+vs.length) cs.length with
      |true=>putObj (eraC u off vs.length fr) u (cs.take off++vs++cs.drop (off+vs.length)) K
      |false=>False
     |none=>False
    |none=>False
   |_=>False
  |none=>False
def freezeD (fr:List D) (u:Nat) (K:List D→Prop):Prop:=
 match fr[u]? with
 |some (.obj cs)=>match cs.all D.one && (fr.set u .any).all (safeB u) with
  |true=>forceL (fr.set u (.ptr cs)) K
  |false=>False
 |_=>False
def onceD (M:Nat→Bool) (x:Operand) (fr0:List D) (K:List D→Prop) (fr:List D):Prop:=
 match objAt fr0 x with
 |some (u,_)=>match M (2000000+u) with
  |true=>freezeD fr u K
  |false=>K fr
 |none=>K fr
def newObj (fr:List D) (t:Nat) (cs:List D) (K:List D→Prop):Prop:=
 match fr[t]? with
 |some d0=>match d0.owns || Nat.beq t 0 with
  |false=>putObj fr t cs K
  |true=>False
 |none=>False
def allocD (Z:Nat→Option (List Value)) (M:Nat→Bool) (ty:Nat) (dst:Option Nat) (fr:List D) (K:List D→Prop):Prop:=
 match dst with
 |some t=>match M t with
  |true=>match Z ty with
   |some zc=>match zc.all Value.oneCell' with
    |true=>newObj fr t (zeroD zc) K
    |false=>False
   |none=>False
  |false=>False
 |none=>False
def boxD (ty:Nat) (v:Operand) (t:Nat) (fr:List D) (K:List D→Prop):Prop:=
 match (evalD fr v).cellsOf with
 |some cs=>newObj fr t cs K
 |none=>False
structure CallO (F:D→Option D→Prop):Prop where
 h:∃ d out,F d out
theorem CallO.go {F:D→Option D→Prop} {d:D} {out:Option D} (h:F d out):CallO F:=⟨d,out,h⟩
def handD (P:Program) (f u:Nat) (xs:List Operand) (dst:Option Nat) (fr:List D) (K:List D→Prop):Prop:=
 match fr[u]? with
 | some (.sl (m+1) sz rows)=>CallO fun d out=>SideD (GivesO P f (.sl (m+1) sz rows) (xs.map (evalD fr)) d out) (match out with
  |none=>forceL ((fr.map (unal u .any)).set u .any) fun fr=>putD fr dst d K
  | some d'=>forceL ((fr.map (unal u .any)).set u d') fun fr=>putD fr dst d K)
 |_=>False
def handO (P:Program) (f u:Nat) (xs:List Operand) (dst:Option Nat) (fr:List D) (K:List D→Prop):Prop:=
 match fr[u]? with
 |some (.obj cs)=>match cs.all D.calm1 with
  | true=>CallO fun d out=>SideD (GivesO P f (.obj cs) (xs.map (evalD fr)) d out) (match out with
   |some (.obj cs')=>putObj (eraU u fr) u cs' fun fr=>putD fr dst d K
   | _=>False)
  |false=>False
 |_=>False
def lendC (d:D):D:=match d with
 |.sl _ sz rows=>.sl 0 sz rows
 |d=>match d.one with
  |true=>d
  |false=>.any
def lend1 (fr:List D):D→D
 |.ref u off=>match fr[u]? with
  |some (.obj cs)=>.ptr ((cs.map lendC).drop off)
  |_=>.any
 |d=>match d.one with
  |true=>d
  |false=>.any
def lendD (fr:List D):D→D
 |.fn f caps=>.fn f (caps.map (lend1 fr))
 |.sl _ sz rows=>.sl 0 sz rows
 |.obj cs=>.ptr (cs.map lendC)
 |.ref u off=>lend1 fr (.ref u off)
 |d=>match d.passes with
  |true=>d
  |false=>.any
def lends:D→Bool
 |.ref _ _=>true
 |.fn _ caps=>caps.any fun d=>match d with
  |.ref _ _=>true
  |_=>false
 |_=>false
structure GivesL (P:Program) (f:Nat) (args:List D) (d:D):Prop where
 flat:d.flat=true
 h:Gives P f args d
def lendE (P:Program) (f:Nat) (xs:List Operand) (dst:Option Nat) (fr:List D) (K:List D→Prop):Prop:=
 CallE fun d=>SideD (GivesL P f (xs.map fun x=>lendD fr (evalD fr x)) d) (putD fr dst d K)
def refD (fr:List D) (x:Operand):D:=
 match x with
 |.tmp t=>match fr[t]? with
  |some (.obj _)=>.ref t 0
  |_=>evalD fr (.tmp t)
 |x=>evalD fr x
def stepD (P:Program) (T:Nat→Option TI) (Z:Nat→Option (List Value)) (M:Nat→Bool) (o:Oper) (fr:List D) (K:List D→Prop):Prop:=
 match o.op with
 |.move (.tmp u)=>match fr[u]? with
  |some (.sl (_+1) _ _)=>match o.dst with
   |some t=>match Nat.beq t u with
    |false=>putD fr (some t) (.al u) K
    |true=>False
   |none=>K fr
  |some (.mp _ _)=>match o.dst with
   |some t=>match Nat.beq t u with
    |false=>putD fr (some t) (.al u) K
    |true=>False
   |none=>K fr
  |some (.al u')=>match o.dst with
   |some t=>match Nat.beq t u' with
    |false=>putD fr (some t) (.al u') K
    |true=>False
   |none=>K fr
  |some (.obj _)=>putD fr o.dst (.ref u 0) K
  |_=>pureD P T Z o fr K
 |.assign (.tmp u)=>match fr[u]? with
  |some (.sl (_+1) _ _)=>takeD fr u o.dst K
  |some (.mp _ _)=>takeD fr u o.dst K
  |some (.al u')=>takeD fr u' o.dst K
  |some (.obj _)=>putD fr o.dst (.ref u 0) K
  |_=>pureD P T Z o fr K
 |.pick c x y=>pickD (evalD fr c) x y (evalD fr) fun s d=>andO s (putD fr o.dst d K)
 |.makeFunc _ _ _=>opD P T Z (refD fr) o.op fun s d=>andO s (putD fr o.dst d K)
 |.call c=>match c.callee with
  |.builtin .append=>appendD T c o.dst fr K
  |.builtin .delete=>delD T c o.dst fr K
  |.builtin _=>pureD P T Z o fr K
  |.value (.func f)=>match M (1000000+f) with
   |true=>match c.args.toList with
    |x::xs=>match rootOf fr x with
     |some u=>forceL (xs.foldl down1 fr) fun fr=>match rootOf fr x with
      |some u'=>match Nat.beq u' u with
       |true=>handD P f u xs o.dst fr K
       |false=>False
      |none=>False
     |none=>match objAt fr x with
      |some (u,0)=>forceL (xs.foldl down1 fr) fun fr=>match objAt fr x with
       |some (u',0)=>handO P f u' xs o.dst fr K
       |_=>False
      |_=>forceL (prep (.call c) fr) fun fr=>pureD P T Z o fr K
    |[]=>pureD P T Z o fr K
   |false=>match c.args.toList.any fun x=>lends (evalD fr x) with
    |true=>lendE P f c.args.toList o.dst fr K
    |false=>forceL (prep (.call c) fr) fun fr=>pureD P T Z o fr K
  |_=>forceL (prep (.call c) fr) fun fr=>pureD P T Z o fr K
 |.nilCheck (.tmp u)=>match fr[u]? with
  |some (.obj _)=>putD fr o.dst (.ref u 0) K
  |_=>pureD P T Z o fr K
 |.fieldAddr ty (.tmp u) i=>match fr[u]? with
  |some (.obj _)=>match T ty with
   |some (.st _ fl _)=>match fl[i]? with
    |some (off,_+1,_)=>putD fr o.dst (.ref u off) K
    |_=>False
   |_=>False
  |_=>pureD P T Z o fr K
 |.load ty x=>match objAt fr x with
  |some (u,off)=>forceL (frzL T ty u off fr) fun fr=>loadD T ty u off o.dst fr K
  |none=>pureD P T Z o fr K
 |.store ty x v=>forceL (frz1 fr v) fun fr=>storeD T ty x v o.dst fr (onceD M x fr K)
 |.mapUpdate ty m k v=>updD T ty m k v o.dst fr K
 |.alloc ty=>allocD Z M ty o.dst fr K
 |.box ty v=>match o.dst with
  |some t=>match M t with
   |true=>forceL (frz1 fr v) fun fr=>boxD ty v t fr K
   |false=>forceL (prep (.box ty v) fr) fun fr=>pureD P T Z o fr K
  |none=>False
 |op=>match needsPrep op with
  |true=>forceL (prep op fr) fun fr=>pureD P T Z o fr K
  |false=>pureD P T Z o fr K
def nameD (fr:List D) (u:Nat) (dst:Option Nat) (K:List D→Prop):Prop:=
 match fr[u]? with
 |some (.es x sz k j)=>match dst with
  |some t=>match Nat.beq t x with
   |false=>putD fr (some t) (.es x sz k j) K
   |true=>False
  |none=>K fr
 |some (.el x off sz k j)=>putD fr dst (.el x off sz k j) K
 |some (.alc x off)=>putD fr dst (.alc x off) K
 |_=>False
def rowsN (fr:List D):D→Option (Nat × List (List D))
 |.es u _ _ _=>match fr[u]? with
  |some (.sl (_+1) sz rows)=>some (sz,rows)
  |_=>none
 |.el u off _ _ _=>match fr[u]? with
  |some (.obj cs)=>match cs[off]? with
   |some (.sl (_+1) sz rows)=>some (sz,rows)
   |_=>none
  |_=>none
 |_=>none
def loadR (T:Nat→Option TI) (ty:Nat) (rows:List (List D)) (k j:Nat) (dst:Option Nat) (fr:List D) (K:List D→Prop):Prop:=
 IdxE fun r=>SideD (0≤Int.ofNat k∧rows[(Int.ofNat k).toNat]?=some r) (match T ty with
  |some (.st n _ _)=>match Nat.ble (j+n) r.length with
   |true=>putD fr dst (.agg ((r.drop j).take n)) K
   |false=>False
  |some _=>match r[j]? with
   |some d=>match d.one with
    |true=>putD fr dst d K
    |false=>False
   |none=>False
  | none=>False)
def storeR (T:Nat→Option TI) (ty:Nat) (v:Operand) (u:Nat) (sz k j:Nat) (rows:List (List D)) (fr:List D) (K:List (List D)→Prop):Prop:=
 match T ty,(evalD fr v).cellsOf with
 |some ti,some vs=>match Nat.beq vs.length ti.cells && Nat.ble (j+vs.length) sz with
  |true=>IdxE fun r=>SideD (0≤Int.ofNat k∧rows[(Int.ofNat k).toNat]?=some r) (K (rows.set k (r.take j++vs++r.drop (j+vs.length))))
  |false=>False
 |_,_=>False
def storeNm (T:Nat→Option TI) (ty u:Nat) (v:Operand) (fr:List D) (K:List D→Prop):Prop:=
 match fr[u]? with
 |some (.es x sz k j)=>match fr[x]? with
  |some (.sl 2 sz' rows)=>match Nat.beq sz' sz with
   |true=>storeR T ty v x sz k j rows fr fun rows=>forceL (fr.set x (.sl 2 sz rows)) K
   |false=>False
  |_=>False
 |some (.el x c sz k j)=>match fr[x]? with
  |some (.obj cs)=>match cs[c]? with
   |some (.sl 2 sz' rows)=>match Nat.beq sz' sz with
    |true=>storeR T ty v x sz k j rows fr fun rows=>putObj fr x (cs.set c (.sl 2 sz rows)) K
    |false=>False
   |_=>False
  |_=>False
 |_=>False
def takeN (fr:List D):Operand→List D
 |.tmp x=>match fr[x]? with
  |some (.alc u off)=>match fr[u]? with
   |some (.obj cs)=>match cs[off]? with
    |some (.sl (m+1) sz rows)=>(fr.set u (.obj (cs.set off .any))).set x (.sl (m+1) sz rows)
    |_=>fr
   |_=>fr
  |_=>fr
 |_=>fr
def giveD (T:Nat→Option TI) (ty:Nat) (x v:Operand) (fr:List D) (K:List D→Prop) (E:Prop):Prop:=
 match objAt fr x,rootOf fr v with
 |some (u,off),some s=>match fr[u]? with
  |some (.obj cs)=>match fr[s]? with
   |some (.sl (m+1) sz rows)=>match T ty with
    |some (.sl _ _ _ _)=>match Nat.blt off cs.length with
     |true=>forceL ((fr.map (unal s .any)).set s .any) fun fr=>putObj (eraC u off 1 fr) u (cs.set off (.sl (m+1) sz rows)) K
     |false=>False
    |_=>False
   |_=>E
  |_=>E
 |_,_=>E
def ownPart (fr:List D):List (Nat × Operand)→Option (Nat × Nat × Nat × List (List D))
 |[]=>none
 |(_,.tmp s)::r=>match fr[s]? with
  |some (.sl (m+1) sz rows)=>some (s,m,sz,rows)
  |_=>ownPart fr r
 |_::r=>ownPart fr r
def partD (fr:List D) (s:Nat):Operand→Option (List D)
 |.tmp y=>match Nat.beq y s with
  |true=>some [.al s]
  |false=>(evalD fr (.tmp y)).cellsOf
 |x=>(evalD fr x).cellsOf
def alAt:List D→Option Nat
 |[]=>none
 |.al _::_=>some 0
 |_::r=>match alAt r with
  |some k=>some (k+1)
  |none=>none
def ownAt:List D→Option Nat
 |[]=>none
 |.sl (_+1) _ _::_=>some 0
 |_::r=>match ownAt r with
  |some k=>some (k+1)
  |none=>none
def buildN (T:Nat→Option TI) (Z:Nat→Option (List Value)) (t ty:Nat) (parts:List (Nat × Operand)) (s m sz:Nat) (rows:List (List D)) (fr:List D) (K:List D→Prop):Prop:=
 forceL ((fr.map (unal s .any)).set s .any) fun fr1=>
  match T ty,Z ty with
  |some (.st _ fl _),some zc=>match zc.all Value.oneCell' with
   |true=>match fillR (fl.map fun x=>(x.1,x.2.1)) (zeroD zc) (parts.map fun x=>(x.1,partD fr1 s x.2)) with
    |some cs=>match alAt cs with
     |some off=>match (cs.set off .nil).all D.one with
      |true=>putD fr1 (some t) (.agg (cs.set off (.sl (m+1) sz rows))) K
      |false=>False
     |none=>False
    |none=>False
   |false=>False
  |_,_=>False
def giveA (T:Nat→Option TI) (ty u:Nat) (v:Operand) (fr:List D) (K:List D→Prop) (E:Prop):Prop:=
 match v with
 |.tmp x=>match fr[x]? with
  |some (.agg cs)=>match ownAt cs with
   |some off=>match cs[off]? with
    |some (.sl (m+1) sz rows)=>match fr[u]? with
     |some (.obj cs0)=>match T ty with
      |some ti=>match Nat.beq ti.cells cs.length && (Nat.beq cs0.length cs.length && (cs.set off .nil).all D.one) with
       |true=>forceL ((fr.map (unal x .any)).set x .any) fun fr=>putObj (eraC u 0 cs.length fr) u (cs.set off (.sl (m+1) sz rows)) K
       |false=>False
      |none=>False
     |_=>E
    |_=>E
   |none=>E
  |_=>E
 |_=>E
def boxA (fr:List D) (dst:Option Nat) (y:Nat) (K:List D→Prop) (E:Prop):Prop:=match fr[y]? with
 |some (.agg cs)=>match ownAt cs with
  |some off=>match cs[off]?,dst with
   |some (.sl (m+1) sz rows),some t=>match fr[t]? with
    |some d=>match !(Nat.beq t 0) && (!d.owns && (!(Nat.beq t y) && (cs.set off .nil).all D.one)) with
     |true=>forceL ((fr.map (unal y .any)).set y .any) fun fr=>putObj fr t (cs.set off (.sl (m+1) sz rows)) K
     |false=>False
    |none=>False
   |_,_=>E
  |none=>E
 |_=>E
def cellN (fr:List D) (u off:Nat):Bool:=match fr[u]? with
 |some (.obj cs)=>match cs[off]? with
  |some d=>d.owns
  |none=>false
 |_=>false
def giveM (M:Nat→Bool) (fr:List D) (d:D) (u:Nat):Bool:=match d with
 |.obj _=>M (4000000+u)
 |.ref x _=>M (4000000+x)
 |_=>false
def updN (T:Nat→Option TI) (ty u off:Nat) (k v:Operand) (dst:Option Nat) (fr:List D) (K:List D→Prop):Prop:=
 match dst with
 |some _=>False
 |none=>match T ty,fr[u]? with
  |some (.mp _ _ kd _),some (.obj cs)=>match cs[off]? with
   |some (.mp kd' es)=>match (evalD fr k).keyV,(evalD fr v).keyV with
    |some kv,some vv=>match sameKD kd kd' && fitK kd kv with
     |true=>putObj fr u (cs.set off (.mp kd (putV kv vv es))) K
     |false=>False
    |_,_=>False
   |_=>False
  |_,_=>False
def delN (T:Nat→Option TI) (ts:List TypeId) (u off:Nat) (k:Operand) (dst:Option Nat) (fr:List D) (K:List D→Prop):Prop:=
 match dst,ts with
 |none,[ty,kt]=>match T ty,fr[u]? with
  |some (.mp kt' _ kd _),some (.obj cs)=>match Nat.beq kt kt' with
   |true=>match cs[off]? with
    |some (.mp kd' es)=>match (evalD fr k).keyV with
     |some kv=>match sameKD kd kd' && fitK kd kv with
      |true=>putObj fr u (cs.set off (.mp kd (delV kv es))) K
      |false=>False
     |none=>False
    |_=>False
   |false=>False
  |_,_=>False
 |_,_=>False
def sealAt (M:Nat→Bool) (fr:List D) (x:Nat) (dst:Option Nat):Option Nat:=
 match dst with
 |some t=>match M (9000000+t) with
  |true=>match objAt fr (.tmp x) with
   |some (v,0)=>some v
   |_=>none
  |false=>none
 |none=>none
def sealD (fr:List D) (v:Nat) (dst:Option Nat) (K:List D→Prop):Prop:=
 match fr[v]? with
 |some (.obj cs)=>forceL (frzSs v cs.length fr) fun fr1=>match fr1[v]? with
  |some (.obj cs1)=>match cs1.all D.one with
   |true=>forceL (fr1.map (wipeB v)) fun fr2=>match (fr2.set v .any).all (safeB v) with
    |true=>match fr2[v]? with
     |some (.obj cs2)=>match cs2.all D.one with
      |true=>forceL (fr2.set v (.ptr cs2)) fun fr3=>putD fr3 dst (.ptr cs2) K
      |false=>False
     |_=>False
    |false=>False
   |false=>False
  |_=>False
 |_=>False
def stepN (P:Program) (T:Nat→Option TI) (Z:Nat→Option (List Value)) (M:Nat→Bool) (o:Oper) (fr:List D) (K:List D→Prop):Prop:=
 match o.op with
 |.move (.tmp u)=>match fr[u]? with
  |some (.es _ _ _ _)=>nameD fr u o.dst K
  |some (.el _ _ _ _ _)=>nameD fr u o.dst K
  |some (.alc _ _)=>nameD fr u o.dst K
  |_=>stepD P T Z M o fr K
 |.assign (.tmp u)=>match fr[u]? with
  |some (.es _ _ _ _)=>nameD fr u o.dst K
  |some (.el _ _ _ _ _)=>nameD fr u o.dst K
  |some (.alc _ _)=>nameD fr u o.dst K
  |_=>match sealAt M fr u o.dst with
   |some v=>sealD fr v o.dst K
   |none=>stepD P T Z M o fr K
 |.mapUpdate ty (.tmp x) k v=>match fr[x]? with
  |some (.alc u off)=>updN T ty u off k v o.dst fr K
  |_=>stepD P T Z M o fr K
 |.nilCheck (.tmp u)=>match fr[u]? with
  |some (.es _ _ _ _)=>nameD fr u o.dst K
  |some (.el _ _ _ _ _)=>nameD fr u o.dst K
  |_=>stepD P T Z M o fr K
 |.fieldAddr ty (.tmp u) i=>match fr[u]? with
  |some (.es x sz k j)=>match T ty with
   |some (.st _ fl _)=>match fl[i]? with
    |some (off,_+1,_)=>match o.dst with
     |some t=>match Nat.beq t x with
      |false=>putD fr (some t) (.es x sz k (j+off)) K
      |true=>False
     |none=>False
    |_=>False
   |_=>False
  |some (.el x c sz k j)=>match T ty with
   |some (.st _ fl _)=>match fl[i]? with
    |some (off,_+1,_)=>putD fr o.dst (.el x c sz k (j+off)) K
    |_=>False
   |_=>False
  |_=>stepD P T Z M o fr K
 |.indexAddr ty (.tmp t) y=>match fr[t]? with
  |some (.alc u off)=>match fr[u]? with
   |some (.obj cs)=>match cs[off]? with
    |some (.sl 2 sz rows)=>match T ty,evalD fr y with
     |some (.sl _ sz' _ _),.int _ j=>match Nat.beq sz' sz with
      |true=>SideD (0≤j∧j < rows.length) (putD fr o.dst (.el u off sz j.toNat 0) K)
      |false=>False
     |_,_=>False
    |_=>stepD P T Z M o fr K
   |_=>stepD P T Z M o fr K
  |_=>match rootOf fr (.tmp t) with
   |some u=>match M (3000000+u) with
    |true=>match fr[u]? with
     |some (.sl 2 sz rows)=>match T ty,evalD fr y with
      |some (.sl _ sz' _ _),.int _ j=>match Nat.beq sz' sz with
       |true=>match o.dst with
        |some d=>match Nat.beq d u with
         |false=>SideD (0≤j∧j < rows.length) (putD fr (some d) (.es u sz j.toNat 0) K)
         |true=>False
        |none=>False
       |false=>False
      |_,_=>False
     |_=>stepD P T Z M o fr K
    |false=>stepD P T Z M o fr K
   |none=>stepD P T Z M o fr K
 |.load ty (.tmp u)=>match fr[u]? with
  |some (.es x sz k j)=>match rowsN fr (.es x sz k j) with
   |some (sz',rows)=>match Nat.beq sz' sz with
    |true=>loadR T ty rows k j o.dst fr K
    |false=>False
   |none=>False
  |some (.el x c sz k j)=>match rowsN fr (.el x c sz k j) with
   |some (sz',rows)=>match Nat.beq sz' sz with
    |true=>loadR T ty rows k j o.dst fr K
    |false=>False
   |none=>False
  |some (.ref x off)=>match cellN fr x off with
   |true=>match T ty with
    |some (.sl _ _ _ _)=>putD fr o.dst (.alc x off) K
    |some (.mp _ _ _ _)=>putD fr o.dst (.alc x off) K
    |_=>stepD P T Z M o fr K
   |false=>stepD P T Z M o fr K
  |some (.obj _)=>match cellN fr u 0 with
   |true=>match T ty with
    |some (.sl _ _ _ _)=>putD fr o.dst (.alc u 0) K
    |some (.mp _ _ _ _)=>putD fr o.dst (.alc u 0) K
    |_=>stepD P T Z M o fr K
   |false=>stepD P T Z M o fr K
  |_=>stepD P T Z M o fr K
 |.store ty (.tmp u) v=>match fr[u]? with
  |some (.es _ _ _ _)=>match o.dst with
   |none=>forceL (frz1 fr v) fun fr=>storeNm T ty u v fr K
   |some _=>False
  |some (.el _ _ _ _ _)=>match o.dst with
   |none=>forceL (frz1 fr v) fun fr=>storeNm T ty u v fr K
   |some _=>False
  |some d=>match o.dst with
   |none=>match giveM M fr d u with
    |true=>giveD T ty (.tmp u) v fr K (giveA T ty u v fr K (stepD P T Z M o fr K))
    |false=>stepD P T Z M o fr K
   |some _=>stepD P T Z M o fr K
  |none=>stepD P T Z M o fr K
 |.call c=>match c.callee with
  |.builtin .append=>match c.args.toList with
   |s::_=>forceL (takeN fr s) fun fr=>stepD P T Z M o fr K
   |[]=>False
  |.builtin .delete=>match c.args.toList with
   |[.tmp x,k]=>match fr[x]? with
    |some (.alc u off)=>delN T c.argTypes.toList u off k o.dst fr K
    |_=>stepD P T Z M o fr K
   |_=>stepD P T Z M o fr K
  |_=>stepD P T Z M o fr K
 |.build ty parts=>match o.dst with
  |some t=>match M (7000000+t) with
   |true=>match ownPart fr parts.toList with
    |some (s,m,sz,rows)=>buildN T Z t ty parts.toList s m sz rows fr K
    |none=>stepD P T Z M o fr K
   |false=>stepD P T Z M o fr K
  |none=>stepD P T Z M o fr K
 |.box _ (.tmp y)=>boxA fr o.dst y K (stepD P T Z M o fr K)
 |_=>stepD P T Z M o fr K
def condOf (all:List Oper) (fr:List D) (j:Nat) (want:Bool):Option Bool:=
 match all[j]? with
 |some oj=>match oj.dst with
  |some t=>match fr[t]? with
   |some (.bool b)=>match want with
    |true=>some b
    |false=>some (!b)
   |some (.gd c (.bool b))=>match want with
    |true=>some (c && b)
    |false=>some (c && !b)
   |_=>none
  |none=>none
 |none=>none
def gds (ρ:Operand→D):List Operand→Option Prop
 |[]=>none
 |x::xs=>match ρ x with
  |.gd c _=>match gds ρ xs with
   |none=>some (c=true)
   |some p=>some (c=true∧p)
  |_=>gds ρ xs
def under (c:Bool):Option Prop→Option Prop→Option Prop
 |none,none=>none
 |some g,none=>some (c=true→g)
 |none,some s=>some (c=true→s)
 |some g,some s=>some (c=true→g∧s)
theorem under_holds {c:Bool} {g s:Option Prop} (h:holds (under c g s)) (hc:c=true):holds g∧holds s:=by
 cases g with
 |none=>cases s with
  |none=>exact ⟨trivial,trivial⟩
  |some s=>exact ⟨trivial,h hc⟩
 |some g=>cases s with
  |none=>exact ⟨h hc,trivial⟩
  |some s=>exact h hc
def loadG (T:Nat→Option TI) (ty u off:Nat) (c:Bool) (dst:Option Nat) (fr:List D) (K:List D→Prop):Prop:=
 match fr[u]? with
 |some (.obj cs)=>match T ty with
  |some (.st n _ _)=>match Nat.ble (off+n) cs.length && ((cs.drop off).take n).all D.one with
   |true=>putD fr dst (.gd c (.agg ((cs.drop off).take n))) K
   |false=>False
  |some _=>match cs[off]? with
   |some (.sl 1 sz rows)=>putD fr dst (.gd c (.sl 0 sz rows)) K
   |some d=>match d.one with
    |true=>putD fr dst (.gd c d) K
    |false=>False
   |none=>False
  |none=>False
 |_=>False
def newG (dst:Option Nat) (c:Bool) (d:D) (fr:List D) (K:List D→Prop):Prop:=
 match d,dst with
 |.sl 2 sz rows,some t=>match fr[t]? with
  |some d0=>match d0.isObj with
   |false=>forceL ((fr.map (unal t .any)).set t .any) fun fr=>putD fr (some t) (.gd c (.sl 0 sz rows)) K
   |true=>False
  |none=>False
 |_,_=>False
def gstepD (P:Program) (T:Nat→Option TI) (Z:Nat→Option (List Value)) (o:Oper) (c:Bool) (fr:List D) (K:List D→Prop):Prop:=
 match o.op with
 |.pick cc x y=>pickD (strip (evalD fr cc)) x y (evalD fr) fun s d=>andO (under c (gds (evalD fr) [cc]) s) (putD fr o.dst (.gd c d) K)
 |.fieldAddr ty (.tmp u) i=>match fr[u]? with
  |some (.obj _)=>match T ty with
   |some (.st _ fl _)=>match fl[i]? with
    |some (off,_+1,_)=>putD fr o.dst (.gref c u off) K
    |_=>False
   |_=>False
  | _=>opD P T Z (fun x=>strip (evalD fr x)) (.fieldAddr ty (.tmp u) i) fun s d=>andO (under c (gds (evalD fr) [.tmp u]) s) (match d.passes with
   |true=>putD fr o.dst (.gd c d) K
   | false=>newG o.dst c d fr K)
 |.load ty (.tmp x)=>match fr[x]? with
  |some (.gref c' u off)=>SideD (c=true→c'=true) (loadG T ty u off c o.dst fr K)
  |some (.obj _)=>loadG T ty x 0 c o.dst fr K
  | _=>opD P T Z (fun x=>strip (evalD fr x)) (.load ty (.tmp x)) fun s d=>andO (under c (gds (evalD fr) [.tmp x]) s) (match d.passes with
   |true=>putD fr o.dst (.gd c d) K
   | false=>newG o.dst c d fr K)
 | op=>opD P T Z (fun x=>strip (evalD fr x)) op fun s d=>andO (under c (gds (evalD fr) op.operands.toList) s) (match d.passes with
  |true=>putD fr o.dst (.gd c d) K
  | false=>newG o.dst c d fr K)
def pairD (T:Nat→Option TI) (Z:Nat→Option (List Value)) (o o2:Oper) (ty:Nat) (fr:List D) (K:List D→Prop):Prop:=
 match o.dst,o2.op,o2.dst,o2.guard with
 |some t,.store ty2 (.tmp t2) v,none,none=>match Nat.beq t t2 && Nat.beq ty ty2 with
  |true=>match T ty,Z ty with
   |some ti,some zc=>forceL (frz1 fr v) fun fr=>match v with
    |.tmp tv=>match Nat.beq tv t with
     |false=>match (evalD fr (.tmp tv)).cellsOf with
      |some vs=>match Nat.beq vs.length ti.cells && Nat.beq zc.length ti.cells with
       |true=>putD fr (some t) (.ptr vs) K
       |false=>False
      |none=>False
     |true=>False
    |.const c=>match (evalD fr (.const c)).cellsOf with
     |some vs=>match Nat.beq vs.length ti.cells && Nat.beq zc.length ti.cells with
      |true=>putD fr (some t) (.ptr vs) K
      |false=>False
     |none=>False
    |_=>False
   |_,_=>False
  |false=>False
 |_,_,_,_=>False
def isFrzAlloc (M:Nat→Bool) (o:Oper):Option Nat:=
 match o.op with
 |.alloc ty=>match o.dst with
  |some t=>match M t with
   |true=>none
   |false=>some ty
  |none=>none
 |_=>none
def isBox (M:Nat→Bool) (o o2:Oper):Bool:=
 match o.op,o2.op,o2.dst with
 |.build _ _,.box _ _,some t=>M (8000000+t)
 |_,_,_=>false
def boxB (T:Nat→Option TI) (Z:Nat→Option (List Value)) (o o2:Oper) (fr:List D) (K:List D→Prop):Prop:=
 match o.op,o.dst,o2.op,o2.dst,o2.guard with
 |.build ty parts,some t,.box _ (.tmp t2),some t3,none=>match Nat.beq t t2 with
  |true=>match T ty,Z ty with
   |some (.st _ fl _),some zc=>match zc.all Value.oneCell' with
    |true=>match fillR (fl.map fun x=>(x.1,x.2.1)) (zeroD zc) (parts.toList.map fun x=>(x.1,partM fr x.2)) with
     |some cs=>match okL fr t3 (alsOf 0 cs) && cs.all oneOrAl with
      |true=>forceL (clearL (alsOf 0 cs) fr) fun fr1=>match fr1[t]? with
       |some d0=>match d0.owns with
        |false=>forceL (fr1.set t .any) fun fr2=>match fr2[t3]? with
         |some d3=>match d3.owns || Nat.beq t3 0 with
          |false=>putObj fr2 t3 (cs.map (fillA fr)) K
          |true=>False
         |none=>False
        |true=>False
       |none=>False
      |false=>False
     |none=>False
    |false=>False
   |_,_=>False
  |false=>False
 |_,_,_,_,_=>False
def downC1 (u off:Nat) (fr:List D):List D:=
 match fr[u]? with
 |some (.obj cs)=>match cs[off]? with
  |some (.sl 2 sz rows)=>fr.set u (.obj (cs.set off (.sl 1 sz rows)))
  |_=>fr
 |_=>fr
def prepG (o:Oper) (fr:List D):List D:=
 match o.op with
 |.load _ (.tmp x)=>match fr[x]? with
  |some (.gref _ u off)=>downC1 u off fr
  |some (.obj _)=>downC1 x 0 fr
  |_=>fr
 |_=>fr
structure CondD (b:Bool) (x y:Prop):Prop where
 t:b=true→x
 f:b=false→y
def litOf (M:Nat→Bool) (all:List Oper) (j:Nat):Bool:=
 match all[j]? with
 |some o=>match o.dst with
  |some t=>M (6000000+t)
  |none=>false
 |none=>false
def vcOps (P:Program) (T:Nat→Option TI) (Z:Nat→Option (List Value)) (M:Nat→Bool) (all:List Oper):List Oper→List D→(List D→Prop)→Prop
 |[],fr,K=>K fr
 |[o],fr,K=>match o.guard with
  |none=>stepN P T Z M o fr K
  |some (j,want)=>match condOf all fr j want with
   |some c=>match litOf M all j with
    |true=>CondD c (stepN P T Z M o fr K) (putD fr o.dst (.gd false (.bool false)) K)
    |false=>forceL (prepG o fr) fun fr=>gstepD P T Z o c fr K
   |none=>False
 |o::o2::r,fr,K=>match o.guard with
  |none=>match isFrzAlloc M o with
   |some ty=>pairD T Z o o2 ty fr fun fr'=>vcOps P T Z M all r fr' K
   |none=>match isBox M o o2 with
    |true=>boxB T Z o o2 fr fun fr'=>vcOps P T Z M all r fr' K
    |false=>stepN P T Z M o fr fun fr'=>vcOps P T Z M all (o2::r) fr' K
  |some (j,want)=>match condOf all fr j want with
   |some c=>match litOf M all j with
    |true=>CondD c (stepN P T Z M o fr fun fr'=>vcOps P T Z M all (o2::r) fr' K) (putD fr o.dst (.gd false (.bool false)) fun fr'=>vcOps P T Z M all (o2::r) fr' K)
    |false=>forceL (prepG o fr) fun fr=>gstepD P T Z o c fr fun fr'=>vcOps P T Z M all (o2::r) fr' K
   |none=>False
section
variable {P:Program} {T:Nat→Option TI} {Z:Nat→Option (List Value)} {M:Nat→Bool}
theorem FR.evalRef {S:Sig} {w:World} {a:Act} {fr:List D} (h:FR S w a fr) (x:Operand):RefOk fr (evalD fr x):=by
 cases x with
 |tmp t=>
  unfold evalD
  simp only
  cases hd:fr[t]? with
  |none=>exact fun t ht=>by cases ht
  |some d=>
   obtain ⟨v,hv,hr⟩:=h.at hd
   cases d with
   |al u=>
    obtain ⟨h1,d',h2,h3,_⟩:=hr
    simp only [h2,Option.getD_some]
    exact ((h.slot u d' v h2 h1).rep (D.nm_owns h3)).2
   |alc u off=>
    obtain ⟨⟨⟨cs,h1⟩,_⟩,_⟩:=hr
    simp only [h1]
    cases hc:cs[off]? with
    |none=>exact fun t ht=>by cases ht
    |some d=>
     obtain ⟨v',hv',hr'⟩:=h.at h1
     exact fun t ht=>hr'.2 t (.obj hc ht)
   |el u off sz k j=>exact fun t ht=>by cases ht
   |es u sz k j=>exact fun t ht=>by cases ht
   |_=>exact hr.2
 |const v=>
  unfold evalD
  cases v with
  |agg cs=>exact fun t ht=>by cases ht
  |_=>exact fun t ht=>((ofVal_rep (lim:=fun _=>none) (w:=w) _ (by intro cs hc;cases hc)).men ht).elim
 |global g=>exact fun t ht=>by cases ht
 |func f=>exact fun t ht=>by cases ht with|fn h=>simp at h
def dstPlace:Option Nat→Place
 |some t=>.slot t
 |none=>⟨1,[]⟩
theorem putD_sound {S:Sig} {w:World} {a:Act} {fr:List D} {dst:Option Nat} {v:Value} {d:D} {K:List D→Prop} (h:FR S w a fr) (hr:Rep S w (dstPlace dst) v d) (hf:RefOk fr d) (hp:putD fr dst d K):∃ fr',K fr'∧FR S w (a.put dst v) fr':=by
 cases dst with
 |none=>exact ⟨fr,hp,h⟩
 |some t=>
  simp only [putD] at hp
  split at hp
  ·rename_i d0 h0
   split at hp
   ·rename_i ho
    rw [force_eq,forceL_eq] at hp
    exact ⟨_,hp,h.put (PT.refl h.wf) h0 ho hr hf⟩
   ·split at hp
    ·rename_i hn
     rw [force_eq,forceL_eq] at hp
     exact ⟨_,hp,h.putOwn h0 hn hr hf⟩
    ·exact hp.elim
  ·exact hp.elim
theorem putNm_sound {S:Sig} {w:World} {a:Act} {fr:List D} {dst:Option Nat} {v:Value} {d:D} {K:List D→Prop} (h:FR S w a fr) (hd:d.isNm=true) (hsl:∀ t,dst=some t→SlotRep S w a fr t v d) (hp:putD fr dst d K):∃ fr',K fr'∧FR S w (a.put dst v) fr':=by
 cases dst with
 |none=>exact ⟨fr,hp,h⟩
 |some t=>
  simp only [putD] at hp
  split at hp
  ·rename_i d0 h0
   split at hp
   ·rename_i ho
    rw [force_eq,forceL_eq] at hp
    have:=h.putNm h0 (by cases d0<;>first|rfl|cases ho) hd (hsl t rfl)
    rw [h.unal_none h0 ho] at this
    exact ⟨_,hp,this⟩
   ·split at hp
    ·rename_i hn
     rw [force_eq,forceL_eq] at hp
     exact ⟨_,hp,h.putNm h0 hn hd (hsl t rfl)⟩
    ·exact hp.elim
  ·exact hp.elim
theorem down1_sound {S:Sig} {w:World} {a:Act} {fr:List D} (h:FR S w a fr) (x:Operand):∃ S',Trans S w S' w∧FR S' w a (down1 fr x):=by
 unfold down1
 split
 ·split
  ·split
   ·rename_i hu;exact h.down hu
   ·exact ⟨S,Trans.refl S w,h⟩
  ·rename_i ht;exact h.down ht
  ·split
   ·rename_i hd
    split
    ·rename_i hc;exact h.downC hd hc
    ·exact ⟨S,Trans.refl S w,h⟩
   ·exact ⟨S,Trans.refl S w,h⟩
  ·exact ⟨S,Trans.refl S w,h⟩
 ·exact ⟨S,Trans.refl S w,h⟩
theorem frz1_sound {S:Sig} {w:World} {a:Act} {fr:List D} (h:FR S w a fr) (x:Operand):∃ S',Trans S w S' w∧FR S' w a (frz1 fr x):=by
 unfold frz1
 split
 ·split
  ·split
   ·rename_i hu;exact h.freeze hu
   ·exact ⟨S,Trans.refl S w,h⟩
  ·rename_i ht;exact h.freeze ht
  ·split
   ·rename_i hd
    split
    ·rename_i hc;exact h.freezeC hd hc
    ·exact ⟨S,Trans.refl S w,h⟩
   ·exact ⟨S,Trans.refl S w,h⟩
  ·exact ⟨S,Trans.refl S w,h⟩
 ·exact ⟨S,Trans.refl S w,h⟩
theorem fold_sound {α:Type} {w:World} {a:Act} {f:List D→α→List D} (hf:∀ S fr x,FR S w a fr→∃ S',Trans S w S' w∧FR S' w a (f fr x)):∀ (l:List α) (S:Sig) (fr:List D),FR S w a fr→∃ S',Trans S w S' w∧FR S' w a (l.foldl f fr)
 |[],S,fr,h=>⟨S,Trans.refl S w,h⟩
 |x::l,S,fr,h=>by
  obtain ⟨S1,t1,h1⟩:=hf S fr x h
  obtain ⟨S2,t2,h2⟩:=fold_sound hf l S1 _ h1
  exact ⟨S2,t1.trans t2,h2⟩
theorem prep_sound {S:Sig} {w:World} {a:Act} {fr:List D} (h:FR S w a fr) (o:Op):∃ S',Trans S w S' w∧FR S' w a (prep o fr):=by
 unfold prep
 split
 ·exact down1_sound h _
 ·split
  ·exact fold_sound (fun S fr x h=>down1_sound h x) _ S fr h
  ·exact ⟨S,Trans.refl S w,h⟩
 ·exact frz1_sound h _
 ·exact frz1_sound h _
 ·exact fold_sound (fun S fr x h=>frz1_sound h _) _ S fr h
 ·exact fold_sound (fun S fr x h=>frz1_sound h _) _ S fr h
 ·exact ⟨S,Trans.refl S w,h⟩
def StepOk (P:Program) (S:Sig) (w:World) (a:Act) (o:Oper) (K:List D→Prop):Prop:=
 ∀ (K':Act→World→Prop) (Q:Exit→Act→World→Prop),(∀ fr' S' w' a',K fr'→Trans S w S' w'→FR S' w' a' fr'→K' a' w')→o.wp P a w K' Q
theorem StepOk.ghost {S S1:Sig} {w:World} {a:Act} {o:Oper} {K:List D→Prop} (ht:Trans S w S1 w) (h:StepOk P S1 w a o K):StepOk P S w a o K:=
 fun K' Q hK=>h K' Q fun fr' S' w' a' k t f=>hK fr' S' w' a' k (ht.trans t) f
theorem StepOk.mono {S:Sig} {w:World} {a:Act} {o:Oper} {K K2:List D→Prop} (h:StepOk P S w a o K) (hk:∀ {fr' S' w' a'},K fr'→FR S' w' a' fr'→∃ fr'' S'',K2 fr''∧Trans S' w' S'' w'∧FR S'' w' a' fr''):StepOk P S w a o K2:=
 fun K' Q hK=>h K' Q fun fr' S' w' a' k t f=>by
  obtain ⟨fr'',S'',k2,t2,f2⟩:=hk k f
  exact hK fr'' S'' w' a' k2 (t.trans t2) f2
theorem pureD_sound (hT:TOk P T Z) {S:Sig} {w:World} {a:Act} {fr:List D} {o:Oper} {K:List D→Prop} (h:FR S w a fr) (hs:pureD P T Z o fr K):StepOk P S w a o K:=by
 intro K' Q hK
 obtain ⟨dst,op,ty,pos,after,guard⟩:=o
 obtain ⟨s,d,h12,h3⟩:=opD_sound (dst:=dst) (ty:=ty) (pos:=pos) (after:=after) (guard:=guard) hT hs
 obtain ⟨h1,h2⟩:=andO_iff.1 h12
 refine h3 h1 S w a (dstPlace dst) h.wf (fun x _=>h.eval x) K' Q fun v S' w' hp hr hm => ?_
 have hrf:RefOk fr d:=fun t ht=>by
  obtain ⟨x,_,hx⟩:=hm t ht
  exact h.evalRef x t hx
 obtain ⟨fr',k1,k2⟩:=putD_sound (h.drop hp) hr hrf h2
 exact hK fr' S' w' _ k1 hp.trans k2
theorem pick_run {w:World} {a:Act} {c x y:Operand} {p:Bool} {K':Act→World→Prop} {Q:Exit→Act→World→Prop} {dst:Option Tmp} {ty:TypeId} {pos:String} {after:Array Edge} {guard:Option (Nat × Bool)} (hc:a.eval c=.bool p) (hk:K' (a.put dst (if p then a.eval x else a.eval y)) w):(Oper.mk dst (.pick c x y) ty pos after guard).wp P a w K' Q:=by
 unfold Oper.wp
 rw [execOp_pick _ _ _ _ _ _ _ _ _ p hc]
 exact hk
theorem pickR_sound {S:Sig} {w:World} {a:Act} {dc:D} {c x y:Operand} {ρ:Operand→D} {s:Option Prop} {r:Bool} (hc:∃ q,Rep S w q (a.eval c) dc) (hrx:∃ q,Rep S w q (a.eval x) (ρ x)) (hry:∃ q,Rep S w q (a.eval y) (ρ y)) (h:pickR dc x y ρ=some (s,r)) (hs:holds s):∃ p,a.eval c=.bool p∧(if p then a.eval x else a.eval y)=.bool r:=by
 have gdv:∀ {z:Operand} {p' q:Bool},(∃ q,Rep S w q (a.eval z) (ρ z))→ρ z=.gd p' (.bool q)→p'=true→a.eval z=.bool q:=fun {z p' q} hr hz hp=>by
  obtain ⟨qq,hq⟩:=hr
  rw [hz] at hq
  have:=(hq.gd_inv.1 hp)
  exact (Rep.fz (p:=.dead) this).bool_inv
 have bv:∀ {z:Operand} {q:Bool},(∃ q,Rep S w q (a.eval z) (ρ z))→ρ z=.bool q→a.eval z=.bool q:=fun {z q} hr hz=>by
  obtain ⟨qq,hq⟩:=hr
  rw [hz] at hq
  exact hq.bool_inv
 obtain ⟨q,hq⟩:=hc
 unfold pickR at h
 split at h
 ·rename_i p
  refine ⟨p,hq.bool_inv,?_⟩
  split at h
  ·split at h
   ·rename_i hx
    cases h
    cases p with
    |true=>simp only [if_true,Bool.true_and];exact gdv hrx hx (hs rfl)
    |false=>rfl
   ·rename_i hx
    cases h
    cases p with
    |true=>simp only [if_true,Bool.true_and];exact bv hrx hx
    |false=>rfl
   ·cases h
  ·split at h
   ·split at h
    ·rename_i hy
     cases h
     cases p with
     |false=>simp only [Bool.false_or];exact gdv hry hy (hs rfl)
     |true=>rfl
    ·rename_i hy
     cases h
     cases p with
     |false=>simp only [Bool.false_or];exact bv hry hy
     |true=>rfl
    ·cases h
   ·cases h
 ·cases h
theorem no_men_bool {b:Bool} {fr:List D}:RefOk fr (.bool b):=fun t ht=>by cases ht
theorem take_sound {S:Sig} {w:World} {a:Act} {fr:List D} {u0 u:Nat} {dst:Option Nat} {ty:TypeId} {pos:String} {after:Array Edge} {guard:Option (Nat × Bool)} {K:List D→Prop} (h:FR S w a fr) (hu:∀ v,a.tmps[u]?=some v→a.eval (.tmp u0)=v) (hs:takeD fr u dst K):StepOk P S w a (Oper.mk dst (.assign (.tmp u0)) ty pos after guard) K:=by
 intro K' Q hK
 unfold takeD at hs
 split at hs
 ·rename_i m sz rows hd
  rw [forceL_eq] at hs
  obtain ⟨S',v,t1,t2,t3,t4⟩:=h.take (dstPlace dst) hd
  obtain ⟨fr',k1,k2⟩:=putD_sound t3 t4 (fun t ht=>(no_men_sl ht).elim) hs
  refine r_assign (v:=v) (hu v t2) (hK fr' S' w _ k1 t1 k2)
 ·rename_i kd es hd
  rw [forceL_eq] at hs
  obtain ⟨S',v,t1,t2,t3,t4⟩:=h.takeMp (dstPlace dst) hd
  obtain ⟨fr',k1,k2⟩:=putD_sound t3 t4 (fun t ht=>by cases ht) hs
  refine r_assign (v:=v) (hu v t2) (hK fr' S' w _ k1 t1 k2)
 ·exact hs.elim
theorem rows_rep {S:Sig} {w:World} {q:Place} {v:Value} {sz s2:Nat} {d:D} {rows:List (List D)} (h:Rep S w q v d) (hr:rowsOf sz d=some (s2,rows)):∃ m,Rep S w q v (.sl m s2 rows):=by
 unfold rowsOf at hr
 split at hr
 ·cases hr
  rw [h.nil_inv]
  exact ⟨0,.fz (.slNil 0 sz)⟩
 ·cases hr
  exact ⟨_,h⟩
 ·cases hr
theorem root_eval {S:Sig} {w:World} {a:Act} {fr:List D} (h:FR S w a fr) {s:Operand} {u:Nat} (hr:rootOf fr s=some u):a.tmps[u]?=some (a.eval s):=by
 unfold rootOf at hr
 split at hr
 ·rename_i t
  have ev:∀ v,a.tmps[t]?=some v→a.eval (.tmp t)=v:=fun v hv=>by simp [Act.eval,Array.getD_eq_getD_getElem?,hv]
  split at hr
  ·rename_i hd
   cases hr
   obtain ⟨v,hv,hs⟩:=h.at hd
   rw [ev v hv]
   exact hs.1
  ·rename_i hd
   cases hr
   obtain ⟨v,hv,hs⟩:=h.at hd
   rw [ev v hv]
   exact hv
  ·rename_i hd
   cases hr
   obtain ⟨v,hv,hs⟩:=h.at hd
   rw [ev v hv]
   exact hv
  ·cases hr
 ·cases hr
theorem upd_sound (hT:TOk P T Z) {S:Sig} {w:World} {a:Act} {fr:List D} {ty0:Nat} {m k v:Operand} {dst:Option Nat} {ty:TypeId} {pos:String} {after:Array Edge} {guard:Option (Nat × Bool)} {K:List D→Prop} (h:FR S w a fr) (hs:updD T ty0 m k v dst fr K):StepOk P S w a (Oper.mk dst (.mapUpdate ty0 m k v) ty pos after guard) K:=by
 intro K' Q hK
 unfold updD at hs
 split at hs
 ·exact hs.elim
 ·split at hs
  ·rename_i kt et kd z u ht hu
   haveI:=(hT.ty _ _ ht).1
   have hev:=root_eval h hu
   split at hs
   ·rename_i kd' es hd
    split at hs
    ·rename_i kv vv hk hv
     split at hs
     ·rename_i hb
      simp only [Bool.and_eq_true] at hb
      obtain rfl:=sameKD_eq hb.1
      rw [forceL_eq] at hs
      obtain ⟨v0,hv0,hsl⟩:=h.at hd
      obtain ⟨b,clock,ents,rfl,hown,hh,he,hf⟩:=hsl.1.mp_inv
      have hm:a.eval m=.map (some b):=Option.some.inj (hev.symm.trans hv0)
      obtain ⟨q1,r1⟩:=h.eval k
      obtain ⟨q2,r2⟩:=h.eval v
      refine r_mapUpdate hm hh he.1 hf (keyV_eq r1 hk) hb.2 (keyV_eq r2 hv) fun ents' clock' he' hst => ?_
      obtain ⟨t1,f1⟩:=h.setMap (clock':=clock') hd hv0 hown hh ⟨he',hst he.2⟩ (putV_fit hb.2 hf)
      exact hK _ S _ a hs t1 f1
     ·exact hs.elim
    ·exact hs.elim
   ·exact hs.elim
  ·exact hs.elim
theorem del_sound (hT:TOk P T Z) {S:Sig} {w:World} {a:Act} {fr:List D} {c:Call} {dst:Option Nat} {ty:TypeId} {pos:String} {after:Array Edge} {guard:Option (Nat × Bool)} {K:List D→Prop} (h:FR S w a fr) (hc:c.callee=.builtin .delete) (hs:delD T c dst fr K):StepOk P S w a (Oper.mk dst (.call c) ty pos after guard) K:=by
 intro K' Q hK
 obtain ⟨callee,args,argTypes⟩:=c
 simp only at hc
 subst hc
 unfold delD at hs
 simp only at hs
 split at hs
 ·rename_i m k ty0 kt0 h1 h2
  obtain rfl:=arr2 h1
  obtain rfl:=arr2 h2
  split at hs
  ·rename_i kt et kd z u ht hu
   haveI:=(hT.ty _ _ ht).1
   have hev:=root_eval h hu
   split at hs
   ·rename_i hkt
    obtain rfl:=Nat.eq_of_beq_eq_true hkt
    split at hs
    ·rename_i kd' es hd
     split at hs
     ·rename_i kv hk
      split at hs
      ·rename_i hb
       simp only [Bool.and_eq_true] at hb
       obtain rfl:=sameKD_eq hb.1
       rw [forceL_eq] at hs
       obtain ⟨v0,hv0,hsl⟩:=h.at hd
       obtain ⟨b,clock,ents,rfl,hown,hh,he,hf⟩:=hsl.1.mp_inv
       have hm:a.eval m=.map (some b):=Option.some.inj (hev.symm.trans hv0)
       obtain ⟨q1,r1⟩:=h.eval k
       refine r_delete rfl hm hh he.1 hf (keyV_eq r1 hk) hb.2 fun ents' clock' he' hst => ?_
       obtain ⟨t1,f1⟩:=h.setMap (clock':=clock') hd hv0 hown hh ⟨he',hst he.2⟩ (delV_fit hf)
       exact hK _ S _ a hs t1 f1
      ·exact hs.elim
     ·exact hs.elim
    ·exact hs.elim
   ·exact hs.elim
  ·exact hs.elim
 ·exact hs.elim
theorem append_sound (hT:TOk P T Z) {S:Sig} {w:World} {a:Act} {fr:List D} {c:Call} {dst:Option Nat} {ty:TypeId} {pos:String} {after:Array Edge} {guard:Option (Nat × Bool)} {K:List D→Prop} (h:FR S w a fr) (hc:c.callee=.builtin .append) (hs:appendD T c dst fr K):StepOk P S w a (Oper.mk dst (.call c) ty pos after guard) K:=by
 intro K' Q hK
 obtain ⟨callee,args,argTypes⟩:=c
 simp only at hc
 subst hc
 unfold appendD at hs
 simp only at hs
 split at hs
 ·rename_i s x t t' h1 h2
  obtain rfl:=arr2 h1
  obtain rfl:=arr2 h2
  split at hs
  ·rename_i e sz bytes zc ht
   obtain ⟨i1,i2,i3,i4,i5⟩:=hT.ty _ _ ht
   haveI:=i1;haveI:=i4
   split at hs
   ·rename_i hb
    simp only [Bool.and_eq_true] at hb
    obtain rfl:t=t':=Nat.eq_of_beq_eq_true hb.1
    have hby:=Nat.le_of_ble_eq_true hb.2
    split at hs
    ·rename_i s2 rows2 hx
     obtain ⟨q,hq⟩:=h.eval x
     obtain ⟨m2,hq2⟩:=rows_rep hq hx
     split at hs
     ·rename_i u hu
      have hev:=root_eval h hu
      split at hs
      ·rename_i hd
       obtain ⟨⟨rfl,rfl,hl⟩,hput⟩:=hs
       rw [forceL_eq] at hput
       refine append_own (p:=dstPlace dst) h hd hev hq2 hl hby (.inl rfl) fun v S' w' t1 t2 t3 => ?_
       obtain ⟨fr',k1,k2⟩:=putD_sound t2 t3 (fun t ht=>(no_men_sl ht).elim) hput
       exact hK fr' S' w' _ k1 t1 k2
      ·rename_i hd
       obtain ⟨⟨rfl,rfl,hl⟩,hput⟩:=hs
       rw [forceL_eq] at hput
       refine append_own (p:=dstPlace dst) h hd hev hq2 hl hby (.inr rfl) fun v S' w' t1 t2 t3 => ?_
       obtain ⟨fr',k1,k2⟩:=putD_sound t2 t3 (fun t ht=>(no_men_sl ht).elim) hput
       exact hK fr' S' w' _ k1 t1 k2
      ·exact hs.elim
     ·split at hs
      ·rename_i hnil
       obtain ⟨⟨rfl,hl⟩,hput⟩:=hs
       obtain ⟨q',hq'⟩:=h.eval s
       rw [hnil] at hq'
       refine append_nil (p:=dstPlace dst) h.wf hq'.nil_inv hq2 hl hby (.inr rfl) fun v S' w' hp hr => ?_
       obtain ⟨fr',k1,k2⟩:=putD_sound (h.drop hp) hr (fun t ht=>(no_men_sl ht).elim) hput
       exact hK fr' S' w' _ k1 hp.trans k2
      ·exact hs.elim
    ·exact hs.elim
   ·split at hs
    ·rename_i txt ht' hx hb
     simp only [Bool.and_eq_true] at hb
     obtain rfl:=Nat.eq_of_beq_eq_true hb.1
     have hby:=Nat.le_of_ble_eq_true hb.2
     haveI:TStr P t':=(hT.ty _ _ ht').1
     obtain ⟨q,hq⟩:=h.eval x
     rw [hx] at hq
     have hxs:=hq.str_inv
     split at hs
     ·rename_i u hu
      have hev:=root_eval h hu
      split at hs
      ·rename_i hd
       obtain ⟨⟨rfl,hl⟩,hput⟩:=hs
       rw [forceL_eq] at hput
       refine append_own_str (p:=dstPlace dst) h hd hev hxs hl hby (.inl rfl) fun v S' w' t1 t2 t3 => ?_
       obtain ⟨fr',k1,k2⟩:=putD_sound t2 t3 (fun t ht=>(no_men_sl ht).elim) hput
       exact hK fr' S' w' _ k1 t1 k2
      ·rename_i hd
       obtain ⟨⟨rfl,hl⟩,hput⟩:=hs
       rw [forceL_eq] at hput
       refine append_own_str (p:=dstPlace dst) h hd hev hxs hl hby (.inr rfl) fun v S' w' t1 t2 t3 => ?_
       obtain ⟨fr',k1,k2⟩:=putD_sound t2 t3 (fun t ht=>(no_men_sl ht).elim) hput
       exact hK fr' S' w' _ k1 t1 k2
      ·exact hs.elim
     ·split at hs
      ·rename_i hnil
       obtain ⟨hl,hput⟩:=hs
       obtain ⟨q',hq'⟩:=h.eval s
       rw [hnil] at hq'
       refine append_nil_str (p:=dstPlace dst) h.wf hq'.nil_inv hxs hl hby (.inr rfl) fun v S' w' hp hr => ?_
       obtain ⟨fr',k1,k2⟩:=putD_sound (h.drop hp) hr (fun t ht=>(no_men_sl ht).elim) hput
       exact hK fr' S' w' _ k1 hp.trans k2
      ·exact hs.elim
    ·exact hs.elim
  ·exact hs.elim
 ·exact hs.elim
theorem alias_sound {S:Sig} {w:World} {a:Act} {fr:List D} {u0 u:Nat} {dst:Option Nat} {ty:TypeId} {pos:String} {after:Array Edge} {guard:Option (Nat × Bool)} {K:List D→Prop} {d:D} (h:FR S w a fr) (hd:fr[u]?=some d) (ho:d.owns=true) (hu:∀ v,a.tmps[u]?=some v→a.eval (.tmp u0)=v)
  (hs:match dst with|some t=>(match Nat.beq t u with|false=>putD fr (some t) (.al u) K|true=>False)|none=>K fr):StepOk P S w a (Oper.mk dst (.move (.tmp u0)) ty pos after guard) K:=by
 intro K' Q hK
 obtain ⟨v,hv,hrep⟩:=h.at hd
 cases dst with
 |none=>exact r_move (v:=v) (hu v hv) (hK fr S w _ hs (Trans.refl S w) h)
 |some t=>
  simp only at hs
  split at hs
  ·rename_i hne
   have hne':t ≠ u:=fun e=>by subst e;simp at hne
   obtain ⟨fr',k1,k2⟩:=putNm_sound (dst:=some t) (v:=v) (d:=.al u) h rfl (fun t' e=>by cases e;exact ⟨hv,d,hd,ho,Ne.symm hne'⟩) hs
   exact r_move (v:=v) (hu v hv) (hK fr' S w _ k1 (Trans.refl S w) k2)
  ·exact hs.elim
theorem ref_rep {S:Sig} {w:World} {a:Act} {fr:List D} (h:FR S w a fr) {u:Nat} {cs:List D} (hd:fr[u]?=some (.obj cs)) (off:Nat):(∀ p,Rep S w p (.pointer (some ⟨S.loc (u+2),off,none⟩)) (.ref u off))∧RefOk fr (.ref u off)∧a.tmps[u]?=some (.pointer (some ⟨S.loc (u+2),0,none⟩)):=by
 obtain ⟨v,hv,hs⟩:=h.at hd
 obtain ⟨b,cur,e,rfl,hb,hloc,_⟩:=hs.1.obj_inv
 refine ⟨fun p=>.ref (by rw [hloc];exact hb),fun t ht => ?_,by rw [hv,hloc]⟩
 cases ht
 exact ⟨cs,hd⟩
theorem refD_eval {S:Sig} {w:World} {a:Act} {fr:List D} (h:FR S w a fr) (x:Operand):(∃ q,Rep S w q (a.eval x) (refD fr x))∧RefOk fr (refD fr x):=by
 unfold refD
 split
 ·rename_i t
  split
  ·rename_i cs hd
   obtain ⟨r1,r2,r3⟩:=ref_rep h hd 0
   have:a.eval (.tmp t)=.pointer (some ⟨S.loc (t+2),0,none⟩):=by simp [Act.eval,Array.getD_eq_getD_getElem?,r3]
   rw [this]
   exact ⟨⟨.dead,r1 _⟩,r2⟩
  ·exact ⟨h.eval _,fun t ht=>h.evalRef _ t ht⟩
 ·exact ⟨h.eval _,fun t ht=>h.evalRef _ t ht⟩
theorem refOp_sound (hT:TOk P T Z) {S:Sig} {w:World} {a:Act} {fr:List D} {o:Oper} {K:List D→Prop} (h:FR S w a fr) (hs:opD P T Z (refD fr) o.op fun s d=>andO s (putD fr o.dst d K)):StepOk P S w a o K:=by
 intro K' Q hK
 obtain ⟨dst,op,ty,pos,after,guard⟩:=o
 obtain ⟨s,d,h12,h3⟩:=opD_sound (dst:=dst) (ty:=ty) (pos:=pos) (after:=after) (guard:=guard) hT hs
 obtain ⟨h1,h2⟩:=andO_iff.1 h12
 refine h3 h1 S w a (dstPlace dst) h.wf (fun x _=>(refD_eval h x).1) K' Q fun v S' w' hp hr hm => ?_
 have hrf:RefOk fr d:=fun t ht=>by
  obtain ⟨x,_,hx⟩:=hm t ht
  exact (refD_eval h x).2 t hx
 obtain ⟨fr',k1,k2⟩:=putD_sound (h.drop hp) hr hrf h2
 exact hK fr' S' w' _ k1 hp.trans k2
theorem frzC1_sound {S:Sig} {w:World} {a:Act} {fr:List D} (h:FR S w a fr) (u off:Nat):∃ S',Trans S w S' w∧FR S' w a (frzC1 u off fr):=by
 unfold frzC1
 split
 ·rename_i hd
  split
  ·rename_i hc;exact h.freezeC hd hc
  ·exact ⟨S,Trans.refl S w,h⟩
 ·exact ⟨S,Trans.refl S w,h⟩
theorem frzCs_sound {w:World} {a:Act} (u off:Nat):∀ (n:Nat) {S:Sig} {fr:List D},FR S w a fr→∃ S',Trans S w S' w∧FR S' w a (frzCs u off n fr)
 |0,S,fr,h=>⟨S,Trans.refl S w,h⟩
 |n+1,S,fr,h=>by
  obtain ⟨S1,t1,h1⟩:=frzCs_sound u off n h
  obtain ⟨S2,t2,h2⟩:=frzC1_sound h1 u (off+n)
  exact ⟨S2,t1.trans t2,h2⟩
theorem frzL_sound {S:Sig} {w:World} {a:Act} {fr:List D} (T:Nat→Option TI) (ty:Nat) (h:FR S w a fr) (u off:Nat):∃ S',Trans S w S' w∧FR S' w a (frzL T ty u off fr):=by
 unfold frzL
 split
 ·exact frzCs_sound u off _ h
 ·exact ⟨S,Trans.refl S w,h⟩
theorem objAt_set {fr:List D} {u0:Nat} {cs cs':List D} (hd:fr[u0]?=some (.obj cs)) (x:Operand):objAt (fr.set u0 (.obj cs')) x=objAt fr x:=by
 unfold objAt
 cases x with
 |tmp t=>
  simp only
  have hlt:u0 < fr.length:=(gLt hd)
  by_cases e:t=u0
  ·subst e
   rw [List.getElem?_set_self hlt,hd]
  ·rw [List.getElem?_set_ne (Ne.symm e)]
 |_=>rfl
theorem objAt_frzC1 (u off:Nat) (fr:List D) (x:Operand):objAt (frzC1 u off fr) x=objAt fr x:=by
 unfold frzC1
 split
 ·rename_i hd
  split
  ·exact objAt_set hd x
  ·rfl
 ·rfl
theorem objAt_frzCs (u off:Nat) (x:Operand):∀ (n:Nat) (fr:List D),objAt (frzCs u off n fr) x=objAt fr x
 |0,_=>rfl
 |n+1,fr=>by rw [frzCs,objAt_frzC1,objAt_frzCs u off x n fr]
theorem objAt_frzL (T:Nat→Option TI) (ty u off:Nat) (fr:List D) (x:Operand):objAt (frzL T ty u off fr) x=objAt fr x:=by
 unfold frzL
 split
 ·exact objAt_frzCs u off x _ fr
 ·rfl
theorem loadD_sound (hT:TOk P T Z) {S:Sig} {w:World} {a:Act} {fr:List D} {ty0 u off:Nat} {x:Operand} {dst:Option Nat} {ty:TypeId} {pos:String} {after:Array Edge} {guard:Option (Nat × Bool)} {K:List D→Prop} (h:FR S w a fr) (hx:objAt fr x=some (u,off)) (hs:loadD T ty0 u off dst fr K):StepOk P S w a (Oper.mk dst (.load ty0 x) ty pos after guard) K:=by
 intro K' Q hK
 obtain ⟨cs0,hd0,hev⟩:=h.objAt hx
 obtain ⟨cv,hcv⟩:=h.loadObj hd0
 unfold loadD at hs
 split at hs
 ·rename_i cs hd
  rw [hd0] at hd
  obtain rfl:cs=cs0:=(D.obj.inj (Option.some.inj hd)).symm
  split at hs
  ·rename_i n fl ks ht
   haveI:=(hT.ty _ _ ht).1
   split at hs
   ·rename_i hb
    simp only [Bool.and_eq_true] at hb
    have hle:=Nat.le_of_ble_eq_true hb.1
    have hcell:∀ j,j < n→∃ d,((cs.drop off).take n)[j]?=some d∧w.cell? ⟨S.loc (u+2),off+j,none⟩=some (cv (off+j))∧(cv (off+j)).oneCell'=true∧Fz S.lim w (cv (off+j)) d:=fun j hj=>by
     have hjl:off+j < cs.length:=by omega
     have hg:((cs.drop off).take n)[j]?=some cs[off+j]:=by rw [List.getElem?_take,if_pos hj,List.getElem?_drop,List.getElem?_eq_getElem hjl]
     obtain ⟨h1,h2,h3⟩:=hcv _ _ (List.getElem?_eq_getElem hjl)
     exact ⟨_,hg,h1,h2,D.one_fz h3 (List.all_eq_true.1 hb.2 _ (gMem hg))⟩
    have hfz:Fz S.lim w (.agg ((List.range n).map fun j=>cv (off+j)).toArray) (.agg ((cs.drop off).take n)):=by
     refine .agg _ (by simp;omega) (fun v hv => ?_) fun j d v hj hv => ?_
     ·obtain ⟨j,hj,rfl⟩:=List.mem_map.1 hv
      obtain ⟨d,_,_,h2,_⟩:=hcell j (List.mem_range.1 hj)
      exact h2
     ·have hjn:j < n:=by have:=(gLt hv);simpa using this
      rw [List.getElem?_map,List.getElem?_range hjn] at hv
      cases hv
      obtain ⟨d',h1,_,_,h4⟩:=hcell j hjn
      rw [hj] at h1
      cases h1
      exact h4
    obtain ⟨fr',k1,k2⟩:=putD_sound (dst:=dst) h (.fz hfz) (fun t ht=>(hfz.men ht).elim) hs
    refine r_loadN (cs:=(List.range n).map fun j=>cv (off+j)) hev (fun j v hv => ?_) (by simp) (hK fr' S w _ k1 (Trans.refl S w) k2)
    have hjn:j < n:=by have:=(gLt hv);simpa using this
    rw [List.getElem?_map,List.getElem?_range hjn] at hv
    cases hv
    obtain ⟨d',_,h2,_⟩:=hcell j hjn
    exact h2
   ·exact hs.elim
  ·rename_i i hi ht
   haveI:=(hT.ty _ _ ht).one (fun n fl ks e=>hi n fl ks e)
   split at hs
   ·rename_i d hd
    split at hs
    ·rename_i ho
     obtain ⟨h1,h2,h3⟩:=hcv _ _ hd
     have hfz:=D.one_fz h3 ho
     obtain ⟨fr',k1,k2⟩:=putD_sound (dst:=dst) h (.fz hfz) (fun t ht=>(hfz.men ht).elim) hs
     exact r_load1 hev h1 (hK fr' S w _ k1 (Trans.refl S w) k2)
    ·exact hs.elim
   ·exact hs.elim
  ·exact hs.elim
 ·exact hs.elim
theorem storeD_sound (hT:TOk P T Z) {S:Sig} {w:World} {a:Act} {fr:List D} {ty0:Nat} {x v:Operand} {dst:Option Nat} {ty:TypeId} {pos:String} {after:Array Edge} {guard:Option (Nat × Bool)} {K:List D→Prop} (h:FR S w a fr) (hs:storeD T ty0 x v dst fr K):StepOk P S w a (Oper.mk dst (.store ty0 x v) ty pos after guard) K:=by
 intro K' Q hK
 unfold storeD at hs
 split at hs
 ·exact hs.elim
 ·split at hs
  ·rename_i u off hx
   obtain ⟨cs0,hd0,hev⟩:=h.objAt hx
   split at hs
   ·rename_i cs hd
    rw [hd0] at hd
    obtain rfl:cs=cs0:=(D.obj.inj (Option.some.inj hd)).symm
    split at hs
    ·rename_i ti ht
     split at hs
     ·rename_i vs hv
      split at hs
      ·rename_i hb
       simp only [Bool.and_eq_true] at hb
       have hn:=Nat.eq_of_beq_eq_true hb.1
       have hle:=Nat.le_of_ble_eq_true hb.2
       simp only [putObj,forceH_eq,forceL_eq,eraC_eq] at hs
       obtain ⟨q,hq⟩:=h.eval v
       have hc:=CR.of hq hv
       obtain ⟨b,cur,e,hb',hloc,hh,hsz,htr,hfr⟩:=h.storeObj hd0 hc hle
       rw [hloc] at hev
       refine r_store (n:=vs.length) (by rw [(hT.ty _ _ ht).sz,hn]) hev rfl hc.len hc.one hh (by omega) ?_
       exact hK _ S _ a hs htr hfr
      ·exact hs.elim
     ·exact hs.elim
    ·exact hs.elim
   ·exact hs.elim
  ·exact hs.elim
theorem newObj_sound {S:Sig} {w w':World} {a:Act} {fr:List D} {t g:Nat} {cs:List D} {us:List Value} {ty:TypeId} {K:List D→Prop} (h:FR S w a fr) (hs:newObj fr t cs K) (hb:Blk w' g ty us.toArray) (hx:Ext w w') (hg:g=w.heap.size) (hc:CR S.lim w us cs):
  ∃ fr' S',K fr'∧Trans S w S' w'∧FR S' w' (a.put (some t) (.pointer (some ⟨g,0,none⟩))) fr':=by
 unfold newObj at hs
 split at hs
 ·rename_i d0 h0
  split at hs
  ·rename_i ho
   simp only [putObj,forceH_eq,forceL_eq] at hs
   simp only [Bool.or_eq_false_iff] at ho
   obtain ⟨S',t1,f1⟩:=h.allocObj (fun e=>by subst e;simp at ho) h0 ho.1 hb hx hg hc
   exact ⟨_,S',hs,t1,f1⟩
  ·exact hs.elim
 ·exact hs.elim
theorem allocD_sound (hT:TOk P T Z) {S:Sig} {w:World} {a:Act} {fr:List D} {ty0:Nat} {dst:Option Nat} {ty:TypeId} {pos:String} {after:Array Edge} {guard:Option (Nat × Bool)} {K:List D→Prop} (h:FR S w a fr) (hs:allocD Z M ty0 dst fr K):StepOk P S w a (Oper.mk dst (.alloc ty0) ty pos after guard) K:=by
 intro K' Q hK
 unfold allocD at hs
 split at hs
 ·split at hs
  ·split at hs
   ·rename_i zc hz
    split at hs
    ·rename_i h1
     haveI:=hT.zer _ _ hz
     refine r_alloc fun g w' hb hx hg => ?_
     obtain ⟨fr',S',k,t1,f1⟩:=newObj_sound h hs hb hx hg (CR.zero h1)
     exact hK fr' S' w' _ k t1 f1
    ·exact hs.elim
   ·exact hs.elim
  ·exact hs.elim
 ·exact hs.elim
theorem boxD_sound {S:Sig} {w:World} {a:Act} {fr:List D} {ty0 t:Nat} {v:Operand} {ty:TypeId} {pos:String} {after:Array Edge} {guard:Option (Nat × Bool)} {K:List D→Prop} (h:FR S w a fr) (hs:boxD ty0 v t fr K):StepOk P S w a (Oper.mk (some t) (.box ty0 v) ty pos after guard) K:=by
 intro K' Q hK
 unfold boxD at hs
 split at hs
 ·rename_i cs hc
  obtain ⟨q,hq⟩:=h.eval v
  refine r_box rfl fun g w' hb hx hg => ?_
  obtain ⟨fr',S',k,t1,f1⟩:=newObj_sound (us:=(a.eval v).cells.toList) h hs (by simpa using hb) hx hg (CR.of hq hc)
  exact hK fr' S' w' _ k t1 f1
 ·exact hs.elim
theorem pairD_sound (hT:TOk P T Z) {S:Sig} {w:World} {a:Act} {fr:List D} {o o2:Oper} {ty:Nat} {K:List D→Prop} (h:FR S w a fr) (ho:o.op=.alloc ty) (hs:pairD T Z o o2 ty fr K) {Q:Exit→Act→World→Prop} {ops:Array Oper} {r:List Oper} (hg:o.guard=none)
  (hK:∀ fr' S' w' a',K fr'→Trans S w S' w'→FR S' w' a' fr'→wpList P ops Q r a' w'):wpList P ops Q (o::o2::r) a w:=by
 unfold pairD at hs
 split at hs
 ·rename_i t ty2 t2 v hdst hop2 hdst2 hg2
  split at hs
  ·rename_i hb
   simp only [Bool.and_eq_true] at hb
   obtain rfl:=Nat.eq_of_beq_eq_true hb.1
   obtain rfl:=Nat.eq_of_beq_eq_true hb.2
   split at hs
   ·rename_i ti zc ht hz
    rw [forceL_eq] at hs
    obtain ⟨S1,t1,h1⟩:=frz1_sound h v
    haveI:=hT.zer _ _ hz
    have key:∀ {vs:List D},(evalD (frz1 fr v) v).cellsOf=some vs→(Nat.beq vs.length ti.cells && Nat.beq zc.length ti.cells)=true→putD (frz1 fr v) (some t) (.ptr vs) K→(∀ p:Value,(a.put (some t) p).eval v=a.eval v)→wpList P ops Q (o::o2::r) a w:=by
     intro vs hv hb2 hput hev
     simp only [Bool.and_eq_true] at hb2
     have hn1:=Nat.eq_of_beq_eq_true hb2.1
     have hn2:=Nat.eq_of_beq_eq_true hb2.2
     obtain ⟨q,hq⟩:=h1.eval v
     have hc:=CR.of hq hv
     obtain ⟨dst,op,oty,pos,after,guard⟩:=o
     obtain ⟨dst2,op2,oty2,pos2,after2,guard2⟩:=o2
     simp only at ho hdst hop2 hdst2 hg hg2
     subst ho;subst hdst;subst hop2;subst hdst2
     refine wpList_plain hg fun K1 hK1=>r_alloc fun g w' hb' hx hgs=>hK1 _ _ ?_
     refine wpList_plain hg2 fun K2 hK2 => ?_
     have ht':t < a.tmps.size:=by
      have:∃ d0,(frz1 fr v)[t]?=some d0:=by
       simp only [putD] at hput
       split at hput
       ·exact ⟨_,by assumption⟩
       ·exact hput.elim
      obtain ⟨d0,hd0⟩:=this
      rw [h1.size]
      exact (gLt hd0)
     refine r_store (n:=ti.cells) (us:=(a.eval v).cells.toList) (b:=g) (o:=0) (hT.ty _ _ ht).sz ?_ ?_ (by rw [hc.len,hn1]) hc.one hb' (by simp;omega) (hK2 _ _ ?_)
     ·have:=put_tmps_eq (v:=.pointer (some ⟨g,0,none⟩)) ht'
      simp [Act.eval,Array.getD_eq_getD_getElem?,this]
     ·rw [hev]
     ·have hx2:Ext w ((w'.setRow g (zc.toArray.toList.take 0++(a.eval v).cells.toList++zc.toArray.toList.drop (0+ti.cells)).toArray)):=Ext.setRow hx (by omega)
      have hpt:=PT.ext' h1.wf hx2
      have hrow:(w'.setRow g (zc.toArray.toList.take 0++(a.eval v).cells.toList++zc.toArray.toList.drop (0+ti.cells)).toArray).heap[g]?=some (.cells (zc.toArray.toList.take 0++(a.eval v).cells.toList++zc.toArray.toList.drop (0+ti.cells)).toArray ty (0,0)):=setRow_heap w' g _ _ ty _ hb'
      have hcells:(zc.toArray.toList.take 0++(a.eval v).cells.toList++zc.toArray.toList.drop (0+ti.cells))=(a.eval v).cells.toList:=by
       simp [List.drop_eq_nil_of_le,hn2]
      rw [hcells] at hrow hpt ⊢
      have hfz:Fz S1.lim (w'.setRow g (a.eval v).cells.toList.toArray) (.pointer (some ⟨g,0,none⟩)) (.ptr vs):=by
       refine .ptr (fun j=>(a.eval v).cells.toList.getD j undef) (fun j d hj => ?_) fun j d hj => ?_
       ·have hjl:=lt_of_len hc.len hj
        have he:(a.eval v).cells.toList[j]?=some ((a.eval v).cells.toList.getD j undef):=by rw [List.getD_eq_getElem?_getD,List.getElem?_eq_getElem hjl];rfl
        refine ⟨by rw [cell_of_row _ g _ _ ty (0,0) hrow,Nat.zero_add];simpa using he,fun s hs' => ?_,hc.one _ (gMem he)⟩
        exfalso
        simp only [Sig.lim] at hs'
        cases hx':S1.own g with
        |none=>rw [hx'] at hs';cases hs'
        |some y=>have:=h1.wf g y hx';omega
       ·have hjl:=lt_of_len hc.len hj
        have he:(a.eval v).cells.toList[j]?=some ((a.eval v).cells.toList.getD j undef):=by rw [List.getD_eq_getElem?_getD,List.getElem?_eq_getElem hjl];rfl
        exact (hc.fz j d _ hj he).trans hpt.trans
      obtain ⟨fr',k1,k2⟩:=putD_sound (dst:=some t) (v:=.pointer (some ⟨g,0,none⟩)) (h1.drop hpt) (.fz hfz) (fun t ht=>(hfz.men ht).elim) hput
      exact hK fr' S1 _ _ k1 (t1.trans hpt.trans) k2
    split at hs
    ·rename_i tv
     split at hs
     ·rename_i hne
      split at hs
      ·rename_i vs hv
       split at hs
       ·rename_i hb2
        refine key hv hb2 hs fun p => ?_
        have hne':tv ≠ t:=fun e=>by subst e;simp at hne
        simp only [Act.eval,Array.getD_eq_getD_getElem?,put_tmps_ne hne']
       ·exact hs.elim
      ·exact hs.elim
     ·exact hs.elim
    ·split at hs
     ·rename_i vs hv
      split at hs
      ·rename_i hb2
       exact key hv hb2 hs fun p=>rfl
      ·exact hs.elim
     ·exact hs.elim
    ·exact hs.elim
   ·exact hs.elim
  ·exact hs.elim
 ·exact hs.elim
theorem hand_sound {S:Sig} {w:World} {a:Act} {fr:List D} {c:Call} {f u:Nat} {x:Operand} {xs:List Operand} {dst:Option Nat} {ty:TypeId} {pos:String} {after:Array Edge} {guard:Option (Nat × Bool)} {K:List D→Prop} (h:FR S w a fr) (hc:c.callee=.value (.func f)) (hargs:c.args.toList=x::xs) (hu:rootOf fr x=some u) (hs:handD P f u xs dst fr K):StepOk P S w a (Oper.mk dst (.call c) ty pos after guard) K:=by
 intro K' Q hK
 obtain ⟨callee,args,argTypes⟩:=c
 simp only at hc hargs
 subst hc
 obtain rfl:args=(x::xs).toArray:=Array.ext' hargs
 unfold handD at hs
 split at hs
 ·rename_i m sz rows hd
  obtain ⟨d,out,⟨d1,ds',rfl,hl,hp,hsem⟩,hput⟩:=hs.h
  refine own_call (p:=dstPlace dst) h hd (root_eval h hu) hl hp hsem fun v S' w' t1 t2 t3 => ?_
  have hcalm:=hsem.2.1
  have fin:∀ {fr1:List D},FR S' w' a fr1→putD fr1 dst d K→K' (a.put dst v) w':=fun f1 hp1=>by
   obtain ⟨fr',k1,k2⟩:=putD_sound f1 t3 (fun t ht=>absurd ht (D.calm_men hcalm)) hp1
   exact hK fr' S' w' _ k1 t1 k2
  cases out with
  |none=>simp only [forceL_eq] at hput;exact fin t2 hput
  |some d'=>simp only [forceL_eq] at hput;exact fin t2 hput
 ·exact hs.elim
theorem map_at {α β:Type} {f:α→β} {l:List α} {j:Nat} {y:β} (h:(l.map f)[j]?=some y):∃ x,l[j]?=some x∧f x=y:=by
 rw [List.getElem?_map] at h
 cases hx:l[j]? with
 |none=>rw [hx] at h;cases h
 |some x=>rw [hx] at h;exact ⟨x,rfl,Option.some.inj h⟩
theorem lendC_ok {S:Sig} {w:World} {q:Place} {v:Value} {d:D} (hr:Rep S w q v d):Fz (S.lend w).lim w v (lendC d):=by
 have plain:∀ {d:D},Rep S w q v d→Fz (S.lend w).lim w v (match d.one with|true=>d|false=>.any):=fun {d} hr=>by
  split
  ·rename_i ho
   exact (D.one_fz hr ho).lend
  ·exact .any _
 cases d with
 |sl m sz rows=>
  cases hr with
  |fz hz=>
   have hz2:=hz.lend
   simp only [lendC]
   cases hz2 with
   |slNil=>exact .slNil 0 sz
   |slE=>exact .slE _ sz
   |sl cv a1 a2 a3 a4 a5=>exact .sl cv a1 a2 a3 a4 a5
  |@own _ b cap _ _ _ cur e g=>
   refine g.fz2 (fun hz=>hz.lend) rfl fun k hk s hs => ?_
   simp only [Sig.lim,Sig.lend,g.own,g.heap,Option.map_some,Option.some.injEq] at hs
   have h1:=g.size
   have h2:=Nat.mul_le_mul_right sz g.le
   omega
 |_=>exact plain hr
theorem lend1_sound {S:Sig} {w:World} {a:Act} {fr:List D} (h:FR S w a fr) {q:Place} {v:Value} {d:D} (hr:Rep S w q v d):Fz (S.lend w).lim w v (lend1 fr d):=by
 have plain:∀ {d:D},Rep S w q v d→Fz (S.lend w).lim w v (match d.one with|true=>d|false=>.any):=fun {d} hr=>by
  split
  ·rename_i ho
   exact (D.one_fz hr ho).lend
  ·exact .any _
 cases d with
 |ref u off=>
  simp only [lend1]
  split
  ·rename_i cs hd
   cases hr with
   |fz h=>cases h
   |ref hown=>
    obtain ⟨cv,hcv⟩:=h.loadObj hd
    refine .ptr (fun j=>cv (off+j)) (fun j d hj => ?_) fun j d hj => ?_
    ·rw [List.getElem?_drop] at hj
     obtain ⟨e,he,rfl⟩:=map_at hj
     obtain ⟨h1,h2,h3⟩:=hcv _ _ he
     exact ⟨h1,lend_okc h1,h2⟩
    ·rw [List.getElem?_drop] at hj
     obtain ⟨e,he,rfl⟩:=map_at hj
     obtain ⟨h1,h2,h3⟩:=hcv _ _ he
     exact lendC_ok h3
  ·exact .any _
 |_=>exact plain hr
theorem lendD_sound {S:Sig} {w:World} {a:Act} {fr:List D} (h:FR S w a fr) {q:Place} {v:Value} {d:D} (hr:Rep S w q v d):Fz (S.lend w).lim w v (lendD fr d):=by
 have plain:∀ {d:D},Rep S w q v d→Fz (S.lend w).lim w v (match d.passes with|true=>d|false=>.any):=fun {d} hr=>by
  split
  ·rename_i ho
   exact (hr.passes ho).lend
  ·exact .any _
 cases d with
 |fn f caps=>
  obtain ⟨vs,rfl,hl,ih⟩:=hr.fn_inv
  refine .fn vs (by simp [hl]) fun j d v hd hv => ?_
  rw [List.getElem?_map] at hd
  cases hc:caps[j]? with
  |none=>rw [hc] at hd;cases hd
  |some e=>
   rw [hc] at hd
   cases hd
   exact lend1_sound h (ih j e v hc hv)
 |sl m sz rows=>
  cases hr with
  |fz hz=>
   have hz2:=hz.lend
   simp only [lendD]
   cases hz2 with
   |slNil=>exact .slNil 0 sz
   |slE=>exact .slE _ sz
   |sl cv a1 a2 a3 a4 a5=>exact .sl cv a1 a2 a3 a4 a5
  |@own _ b cap _ _ _ cur e g=>
   refine g.fz2 (fun hz=>hz.lend) rfl fun k hk s hs => ?_
   simp only [Sig.lim,Sig.lend,g.own,g.heap,Option.map_some,Option.some.injEq] at hs
   have h1:=g.size
   have h2:=Nat.mul_le_mul_right sz g.le
   omega
 |obj cs=>
  simp only [lendD]
  cases hr with
  |fz h=>cases h
  |@obj t b _ _ cur e hb hp hl hh hs h1 ih=>
   refine .ptr (fun j=>cur.getD j undef) (fun j d hj => ?_) fun j d hj => ?_
   ·obtain ⟨e',he',rfl⟩:=map_at hj
    have hjl:j < cur.size:=by rw [← hs];exact (List.getElem?_eq_some_iff.1 he').1
    have hc:cur[j]?=some (cur.getD j undef):=by simp [Array.getD_eq_getD_getElem?,hjl]
    have hcell:w.cell? ⟨b,0+j,none⟩=some (cur.getD j undef):=by rw [Nat.zero_add,cell_of_row w b _ cur e (0,0) hh];exact hc
    exact ⟨hcell,lend_okc hcell,h1 j _ hc⟩
   ·obtain ⟨e',he',rfl⟩:=map_at hj
    have hjl:j < cur.size:=by rw [← hs];exact (List.getElem?_eq_some_iff.1 he').1
    have hc:cur[j]?=some (cur.getD j undef):=by simp [Array.getD_eq_getD_getElem?,hjl]
    exact lendC_ok (ih j _ _ he' hc)
 |ref u off=>exact lend1_sound h hr
 |_=>exact plain hr
theorem lendE_sound {S:Sig} {w:World} {a:Act} {fr:List D} {c:Call} {f:Nat} {dst:Option Nat} {ty:TypeId} {pos:String} {after:Array Edge} {guard:Option (Nat × Bool)} {K:List D→Prop} (h:FR S w a fr) (hc:c.callee=.value (.func f)) (hs:lendE P f c.args.toList dst fr K):StepOk P S w a (Oper.mk dst (.call c) ty pos after guard) K:=by
 intro K' Q hK
 obtain ⟨callee,args,argTypes⟩:=c
 simp only at hc
 subst hc
 obtain ⟨d,⟨hflat,ds',h1,h2,hsem⟩,hput⟩:=hs.h
 simp only at h1
 have hlen:(args.toList.map a.eval).length=ds'.length:=by rw [h1.len];simp
 have hfz:∀ (i:Nat) (d:D) (v:Value),ds'[i]?=some d→(args.toList.map a.eval)[i]?=some v→Fz (S.lend w).lim w v d:=fun i d v hd hv=>by
  rw [List.getElem?_map] at hv
  cases hx:args.toList[i]? with
  |none=>rw [hx] at hv;cases hv
  |some x=>
   rw [hx] at hv
   cases hv
   obtain ⟨q,hq⟩:=h.eval x
   have hle:=h1.get (i:=i) (d:=lendD fr (evalD fr x)) (by rw [List.getElem?_map,hx];rfl) hd
   exact ((Rep.fz (S:=S.lend w) (p:=.dead) (lendD_sound h hq)).le hle).passes (List.all_eq_true.1 h2 d (gMem hd))
 have hcalm:=hsem.2.1
 haveI:=hsem.1
 refine r_call (call_lend hsem hflat h.wf hlen hfz) (by apply Array.ext';simp) fun e w' ⟨v,he,hpt,hrep⟩ => ?_
 subst he
 obtain ⟨fr',k1,k2⟩:=putD_sound (dst:=dst) (h.drop hpt) (hrep _) (fun t ht=>absurd ht (D.calm_men hcalm)) hput
 exact hK fr' S w' _ k1 hpt.trans k2
theorem handO_sound {S:Sig} {w:World} {a:Act} {fr:List D} {c:Call} {f u:Nat} {x:Operand} {xs:List Operand} {dst:Option Nat} {ty:TypeId} {pos:String} {after:Array Edge} {guard:Option (Nat × Bool)} {K:List D→Prop} (h:FR S w a fr) (hc:c.callee=.value (.func f)) (hargs:c.args.toList=x::xs) (hu:objAt fr x=some (u,0)) (hs:handO P f u xs dst fr K):StepOk P S w a (Oper.mk dst (.call c) ty pos after guard) K:=by
 intro K' Q hK
 obtain ⟨callee,args,argTypes⟩:=c
 simp only at hc hargs
 subst hc
 obtain rfl:args=(x::xs).toArray:=Array.ext' hargs
 obtain ⟨cs0,hd0,hev⟩:=h.objAt hu
 unfold handO at hs
 split at hs
 ·rename_i cs hd
  split at hs
  ·rename_i hcalm1
   obtain ⟨d,out,⟨d1,ds',rfl,hl,hp,hsem⟩,hput⟩:=hs.h
   split at hput
   ·rename_i cs'
    simp only [putObj,forceH_eq,forceL_eq,eraU_eq] at hput
    refine own_callO (p:=dstPlace dst) h hd hcalm1 hev hl hp hsem fun v S' w' t1 t2 t3 => ?_
    have hcalm:=hsem.2.1
    obtain ⟨fr',k1,k2⟩:=putD_sound t2 t3 (fun t ht=>absurd ht (D.calm_men hcalm)) hput
    exact hK fr' S' w' _ k1 t1 k2
   ·exact hput.elim
  ·exact hs.elim
 ·exact hs.elim
theorem stepD_sound (hT:TOk P T Z) {S:Sig} {w:World} {a:Act} {fr:List D} {o:Oper} {K:List D→Prop} (h:FR S w a fr) (hs:stepD P T Z M o fr K):StepOk P S w a o K:=by
 have ev:∀ t v,a.tmps[t]?=some v→a.eval (.tmp t)=v:=fun t v hv=>by simp [Act.eval,Array.getD_eq_getD_getElem?,hv]
 obtain ⟨dst,op,ty,pos,after,guard⟩:=o
 unfold stepD at hs
 simp only at hs
 split at hs
 ·split at hs
  ·rename_i hd
   exact alias_sound h hd rfl (ev _) hs
  ·rename_i hd
   exact alias_sound h hd rfl (ev _) hs
  ·rename_i u u' hd
   obtain ⟨v,hv,hsl⟩:=h.at hd
   obtain ⟨g1,d',g2,g3,_⟩:=hsl
   refine alias_sound h g2 g3 (fun v' hv' => ?_) hs
   rw [g1] at hv'
   cases hv'
   exact ev _ _ hv
  ·rename_i hd
   obtain ⟨r1,r2,r3⟩:=ref_rep h hd 0
   obtain ⟨fr',k1,k2⟩:=putD_sound h (r1 _) r2 hs
   exact fun K' Q hK=>r_move (ev _ _ r3) (hK fr' S w _ k1 (Trans.refl S w) k2)
  ·exact pureD_sound hT h hs
 ·split at hs
  ·exact take_sound h (ev _) hs
  ·exact take_sound h (ev _) hs
  ·rename_i u u' hd
   obtain ⟨v,hv,hsl⟩:=h.at hd
   refine take_sound h (fun v' hv' => ?_) hs
   rw [hsl.1] at hv'
   cases hv'
   exact ev _ _ hv
  ·rename_i hd
   obtain ⟨r1,r2,r3⟩:=ref_rep h hd 0
   obtain ⟨fr',k1,k2⟩:=putD_sound h (r1 _) r2 hs
   exact fun K' Q hK=>r_assign (ev _ _ r3) (hK fr' S w _ k1 (Trans.refl S w) k2)
  ·exact pureD_sound hT h hs
 ·obtain ⟨s,r,hp,h12⟩:=pickD_inv hs
  obtain ⟨h1,h2⟩:=andO_iff.1 h12
  obtain ⟨p,h3,h4⟩:=pickR_sound (h.eval _) (h.eval _) (h.eval _) hp h1
  intro K' Q hK
  refine pick_run h3 ?_
  rw [h4]
  obtain ⟨fr',k1,k2⟩:=putD_sound h (.fz (.bool r)) no_men_bool h2
  exact hK fr' S w _ k1 (Trans.refl S w) k2
 ·exact refOp_sound hT h hs
 ·split at hs
  ·rename_i hc
   exact append_sound hT h hc hs
  ·rename_i hc
   exact del_sound hT h hc hs
  ·exact pureD_sound hT h hs
  ·rename_i f hcal
   split at hs
   ·split at hs
    ·rename_i x xs hargs
     split at hs
     ·rename_i u hu
      rw [forceL_eq] at hs
      obtain ⟨S1,t1,h1⟩:=fold_sound (fun S fr x h=>down1_sound h x) xs _ _ h
      split at hs
      ·rename_i u' hu'
       split at hs
       ·rename_i he
        obtain rfl:=Nat.eq_of_beq_eq_true he
        exact (hand_sound h1 hcal hargs hu' hs).ghost t1
       ·exact hs.elim
      ·exact hs.elim
     ·split at hs
      ·rw [forceL_eq] at hs
       obtain ⟨S1,t1,h1⟩:=fold_sound (fun S fr x h=>down1_sound h x) xs _ _ h
       split at hs
       ·rename_i u' hu'
        exact (handO_sound h1 hcal hargs hu' hs).ghost t1
       ·exact hs.elim
      ·rw [forceL_eq] at hs
       obtain ⟨S1,t1,h1⟩:=prep_sound h _
       exact (pureD_sound hT h1 hs).ghost t1
    ·exact pureD_sound hT h hs
   ·split at hs
    ·exact lendE_sound h hcal hs
    ·rw [forceL_eq] at hs
     obtain ⟨S1,t1,h1⟩:=prep_sound h _
     exact (pureD_sound hT h1 hs).ghost t1
  ·rw [forceL_eq] at hs
   obtain ⟨S1,t1,h1⟩:=prep_sound h _
   exact (pureD_sound hT h1 hs).ghost t1
 ·split at hs
  ·rename_i hd
   obtain ⟨r1,r2,r3⟩:=ref_rep h hd 0
   obtain ⟨fr',k1,k2⟩:=putD_sound h (r1 _) r2 hs
   exact fun K' Q hK=>r_nilCheck (ev _ _ r3) (hK fr' S w _ k1 (Trans.refl S w) k2)
  ·exact pureD_sound hT h hs
 ·split at hs
  ·rename_i hd
   split at hs
   ·rename_i ht
    split at hs
    ·rename_i off n ag hf
     haveI:=(hT.ty _ _ ht).2.1 _ _ _ _ hf
     obtain ⟨r1,r2,_⟩:=ref_rep h hd off
     obtain ⟨_,_,r3⟩:=ref_rep h hd 0
     obtain ⟨fr',k1,k2⟩:=putD_sound h (r1 _) r2 hs
     exact fun K' Q hK=>r_fieldAddr (ev _ _ r3) (by rw [Nat.zero_add];exact hK fr' S w _ k1 (Trans.refl S w) k2)
    ·exact hs.elim
   ·exact hs.elim
  ·exact pureD_sound hT h hs
 ·split at hs
  ·rename_i hx
   rw [forceL_eq] at hs
   obtain ⟨S1,t1,h1⟩:=frzL_sound T _ h _ _
   exact StepOk.ghost t1 (loadD_sound hT h1 (by rw [objAt_frzL];exact hx) hs)
  ·exact pureD_sound hT h hs
 ·rw [forceL_eq] at hs
  obtain ⟨S1,t1,h1⟩:=frz1_sound h _
  refine ((storeD_sound hT h1 hs).mono fun {fr' S' w' a'} k f => ?_).ghost t1
  unfold onceD at k
  split at k
  ·split at k
   ·unfold freezeD at k
    split at k
    ·rename_i hd
     split at k
     ·rename_i hb
      simp only [Bool.and_eq_true] at hb
      rw [forceL_eq] at k
      obtain ⟨S2,t2,f2⟩:=f.freezeObj hd hb.1 hb.2
      exact ⟨_,S2,k,t2,f2⟩
     ·exact k.elim
    ·exact k.elim
   ·exact ⟨_,_,k,Trans.refl _ _,f⟩
  ·exact ⟨_,_,k,Trans.refl _ _,f⟩
 ·exact upd_sound hT h hs
 ·exact allocD_sound hT h hs
 ·split at hs
  ·split at hs
   ·rw [forceL_eq] at hs
    obtain ⟨S1,t1,h1⟩:=frz1_sound h _
    exact (boxD_sound h1 hs).ghost t1
   ·rw [forceL_eq] at hs
    obtain ⟨S1,t1,h1⟩:=prep_sound h _
    exact (pureD_sound hT h1 hs).ghost t1
  ·exact hs.elim
 ·split at hs
  ·rw [forceL_eq] at hs
   obtain ⟨S1,t1,h1⟩:=prep_sound h _
   exact (pureD_sound hT h1 hs).ghost t1
  ·exact pureD_sound hT h hs
theorem name_sound {S:Sig} {w:World} {a:Act} {fr:List D} {u:Nat} {dst:Option Nat} {K:List D→Prop} (h:FR S w a fr) (hs:nameD fr u dst K):∃ v,a.tmps[u]?=some v∧∃ fr',K fr'∧FR S w (a.put dst v) fr'∧((∃ x sz k j,fr[u]?=some (.es x sz k j))∨(∃ x o sz k j,fr[u]?=some (.el x o sz k j))→∃ p,v=.pointer (some p)):=by
 unfold nameD at hs
 split at hs
 ·rename_i x sz k j hd
  obtain ⟨v,hv,hsl⟩:=h.at hd
  have hp:∃ p,v=.pointer (some p):=by
   obtain ⟨_,s,_,b,l,c,_,rfl⟩:=hsl
   exact ⟨_,rfl⟩
  refine ⟨v,hv,?_⟩
  cases dst with
  |none=>exact ⟨fr,hs,h,fun _=>hp⟩
  |some t=>
   simp only at hs
   split at hs
   ·rename_i hne
    have hne':x ≠ t:=fun e=>by subst e;simp at hne
    obtain ⟨⟨d',g1,g2,_⟩,g3⟩:=hsl
    obtain ⟨fr',k1,k2⟩:=putNm_sound (dst:=some t) (v:=v) h rfl (fun t' e=>by cases e;exact ⟨⟨d',g1,g2,hne'⟩,g3⟩) hs
    exact ⟨fr',k1,k2,fun _=>hp⟩
   ·exact hs.elim
 ·rename_i x off sz k j hd
  obtain ⟨v,hv,hsl⟩:=h.at hd
  have hp:∃ p,v=.pointer (some p):=by
   obtain ⟨_,s,_,b,l,c,_,rfl⟩:=hsl
   exact ⟨_,rfl⟩
  obtain ⟨fr',k1,k2⟩:=putNm_sound (dst:=dst) (v:=v) (d:=.el x off sz k j) h rfl (fun t' e=>(hsl:SlotRep S w a fr t' v (.el x off sz k j))) hs
  exact ⟨v,hv,fr',k1,k2,fun _=>hp⟩
 ·rename_i x off hd
  obtain ⟨v,hv,hsl⟩:=h.at hd
  obtain ⟨fr',k1,k2⟩:=putNm_sound (dst:=dst) (v:=v) (d:=.alc x off) h rfl (fun t' e=>(hsl:SlotRep S w a fr t' v (.alc x off))) hs
  refine ⟨v,hv,fr',k1,k2,fun e => ?_⟩
  rw [hd] at e
  rcases e with ⟨_,_,_,_,e⟩|⟨_,_,_,_,_,e⟩<;>cases e
 ·exact hs.elim
theorem nameMove_sound {S:Sig} {w:World} {a:Act} {fr:List D} {u:Nat} {dst:Option Nat} {ty:TypeId} {pos:String} {after:Array Edge} {guard:Option (Nat × Bool)} {K:List D→Prop} (h:FR S w a fr) (hs:nameD fr u dst K):
  StepOk P S w a (Oper.mk dst (.move (.tmp u)) ty pos after guard) K∧StepOk P S w a (Oper.mk dst (.assign (.tmp u)) ty pos after guard) K:=by
 obtain ⟨v,hv,fr',k1,k2,_⟩:=name_sound h hs
 have he:a.eval (.tmp u)=v:=by simp [Act.eval,Array.getD_eq_getD_getElem?,hv]
 exact ⟨fun K' Q hK=>r_move he (hK fr' S w _ k1 (Trans.refl S w) k2),fun K' Q hK=>r_assign he (hK fr' S w _ k1 (Trans.refl S w) k2)⟩
theorem nameNil_sound {S:Sig} {w:World} {a:Act} {fr:List D} {u:Nat} {dst:Option Nat} {ty:TypeId} {pos:String} {after:Array Edge} {guard:Option (Nat × Bool)} {K:List D→Prop} (h:FR S w a fr) (hd:(∃ x sz k j,fr[u]?=some (.es x sz k j))∨(∃ x o sz k j,fr[u]?=some (.el x o sz k j))) (hs:nameD fr u dst K):
  StepOk P S w a (Oper.mk dst (.nilCheck (.tmp u)) ty pos after guard) K:=by
 obtain ⟨v,hv,fr',k1,k2,k3⟩:=name_sound h hs
 obtain ⟨p,rfl⟩:=k3 hd
 have he:a.eval (.tmp u)=.pointer (some p):=by simp [Act.eval,Array.getD_eq_getD_getElem?,hv]
 exact fun K' Q hK=>r_nilCheck he (hK fr' S w _ k1 (Trans.refl S w) k2)
theorem rowsN_es {S:Sig} {w:World} {a:Act} {fr:List D} (h:FR S w a fr) {t u sz k j:Nat} {v:Value} {sz':Nat} {rows:List (List D)} (hsl:SlotRep S w a fr t v (.es u sz k j)) (hr:rowsN fr (.es u sz k j)=some (sz',rows)):
  ∃ s m q,ElAt s sz k j v∧Rep S w q s (.sl (m+1) sz' rows):=by
 simp only [rowsN] at hr
 split at hr
 ·rename_i m sz2 rows2 hd
  cases hr
  obtain ⟨_,s,hs,he⟩:=hsl
  obtain ⟨v',hv',hs'⟩:=h.at hd
  obtain rfl:s=v':=Option.some.inj (hs.symm.trans hv')
  exact ⟨s,m,_,he,hs'.1⟩
 ·cases hr
theorem rowsN_el {S:Sig} {w:World} {a:Act} {fr:List D} (h:FR S w a fr) {t u off sz k j:Nat} {v:Value} {sz':Nat} {rows:List (List D)} (hsl:SlotRep S w a fr t v (.el u off sz k j)) (hr:rowsN fr (.el u off sz k j)=some (sz',rows)):
  ∃ s m q,ElAt s sz k j v∧Rep S w q s (.sl (m+1) sz' rows):=by
 simp only [rowsN] at hr
 split at hr
 ·rename_i cs hd
  split at hr
  ·rename_i m sz2 rows2 hc
   cases hr
   obtain ⟨_,s,hs,he⟩:=hsl
   obtain ⟨v',hv',hs'⟩:=h.at hd
   exact ⟨s,m,_,he,hs'.1.obj_cell hc hs⟩
  ·cases hr
 ·cases hr
theorem loadR_sound (hT:TOk P T Z) {S:Sig} {w:World} {a:Act} {fr:List D} {ty0 u:Nat} {p:Place} {s v:Value} {m sz k j:Nat} {rows:List (List D)} {dst:Option Nat} {ty:TypeId} {pos:String} {after:Array Edge} {guard:Option (Nat × Bool)} {K:List D→Prop} (h:FR S w a fr) (hv:a.tmps[u]?=some v) (he:ElAt s sz k j v) (hrep:Rep S w p s (.sl (m+1) sz rows)) (hs:loadR T ty0 rows k j dst fr K):
  StepOk P S w a (Oper.mk dst (.load ty0 (.tmp u)) ty pos after guard) K:=by
 intro K' Q hK
 obtain ⟨r,⟨_,hr⟩,hs⟩:=hs.h
 have hr:rows[k]?=some r:=hr
 obtain ⟨b,cap,cur,e,rfl,rfl,g⟩:=el_at hrep he hr
 have hev:a.eval (.tmp u)=.pointer (some ⟨b,k * sz+j,none⟩):=by simp [Act.eval,Array.getD_eq_getD_getElem?,hv]
 have hel:∀ i d,r[i]?=some d→∃ x,w.cell? ⟨b,k * sz+i,none⟩=some x∧x.oneCell'=true∧Fz S.lim w x d:=fun i d hd=>g.elem hr hd
 split at hs
 ·rename_i n fl ks ht
  haveI:=(hT.ty _ _ ht).1
  split at hs
  ·rename_i hb
   have hle:=Nat.le_of_ble_eq_true hb
   have hex:∀ i,∃ x:Value,∀ d,r[j+i]?=some d→w.cell? ⟨b,k * sz+(j+i),none⟩=some x∧x.oneCell'=true∧Fz S.lim w x d:=fun i=>by
    cases hd:r[j+i]? with
    |none=>exact ⟨undef,fun d hd'=>by cases hd'⟩
    |some d=>
     obtain ⟨x,hx⟩:=hel _ _ hd
     exact ⟨x,fun d' hd'=>by cases hd';exact hx⟩
   let cv:Nat→Value:=fun i=>Classical.choose (hex i)
   have hcv:∀ i d,r[j+i]?=some d→w.cell? ⟨b,k * sz+(j+i),none⟩=some (cv i)∧(cv i).oneCell'=true∧Fz S.lim w (cv i) d:=fun i=>Classical.choose_spec (hex i)
   have hget:∀ i,i < n→∃ d,r[j+i]?=some d∧((r.drop j).take n)[i]?=some d:=fun i hi=>by
    have hlt:j+i < r.length:=by omega
    exact ⟨r[j+i],List.getElem?_eq_getElem hlt,by rw [List.getElem?_take,if_pos hi,List.getElem?_drop,List.getElem?_eq_getElem hlt]⟩
   have hfz:Fz S.lim w (.agg ((List.range n).map cv).toArray) (.agg ((r.drop j).take n)):=by
    refine .agg _ (by simp;omega) (fun v hv => ?_) fun i d v hi hv => ?_
    ·obtain ⟨i,hi,rfl⟩:=List.mem_map.1 hv
     obtain ⟨d,h1,_⟩:=hget i (List.mem_range.1 hi)
     exact (hcv i d h1).2.1
    ·have hin:i < n:=by have:=(gLt hv);simpa using this
     rw [List.getElem?_map,List.getElem?_range hin] at hv
     cases hv
     obtain ⟨d',h1,h2⟩:=hget i hin
     rw [hi] at h2
     cases h2
     exact (hcv i d h1).2.2
   obtain ⟨fr',k1,k2⟩:=putD_sound (dst:=dst) h (.fz hfz) (fun t ht=>(hfz.men ht).elim) hs
   refine r_loadN (cs:=(List.range n).map cv) hev (fun i v hv => ?_) (by simp) (hK fr' S w _ k1 (Trans.refl S w) k2)
   have hin:i < n:=by have:=(gLt hv);simpa using this
   rw [List.getElem?_map,List.getElem?_range hin] at hv
   cases hv
   obtain ⟨d,h1,_⟩:=hget i hin
   have:=(hcv i d h1).1
   rwa [← Nat.add_assoc] at this
  ·exact hs.elim
 ·rename_i i hi ht
  haveI:=(hT.ty _ _ ht).one (fun n fl ks e=>hi n fl ks e)
  split at hs
  ·rename_i d hd
   split at hs
   ·obtain ⟨x,h1,h2,h3⟩:=hel _ _ hd
    obtain ⟨fr',k1,k2⟩:=putD_sound (dst:=dst) h (.fz h3) (fun t ht=>(h3.men ht).elim) hs
    exact r_load1 hev h1 (hK fr' S w _ k1 (Trans.refl S w) k2)
   ·exact hs.elim
  ·exact hs.elim
 ·exact hs.elim
theorem takeN_sound {S:Sig} {w:World} {a:Act} {fr:List D} (h:FR S w a fr) (x:Operand):∃ S',Trans S w S' w∧FR S' w a (takeN fr x):=by
 unfold takeN
 split
 ·split
  ·rename_i hx
   split
   ·rename_i hd
    split
    ·rename_i hc
     exact h.takeC hx hd hc
    ·exact ⟨S,Trans.refl S w,h⟩
   ·exact ⟨S,Trans.refl S w,h⟩
  ·exact ⟨S,Trans.refl S w,h⟩
 ·exact ⟨S,Trans.refl S w,h⟩
theorem storeEl_run (hT:TOk P T Z) {w:World} {a:Act} {u:Nat} {v:Operand} {o:Nat} {ti:TI} {vs:List D} {us:List Value} {b:Nat} {cur:Array Value} {e:TypeId} {ty0:Nat} {dst:Option Nat} {ty:TypeId} {pos:String} {after:Array Edge} {guard:Option (Nat × Bool)} {K':Act→World→Prop} {Q:Exit→Act→World→Prop}
  (ht:T ty0=some ti) (hn:vs.length=ti.cells) (hev:a.eval (.tmp u)=.pointer (some ⟨b,o,none⟩)) (hus:(a.eval v).cells.toList=us) (hul:us.length=vs.length) (hone:∀ u:Value,u ∈ us→u.oneCell'=true) (hh:w.heap[b]?=some (.cells cur e (0,0))) (hle:o+vs.length≤cur.size)
  (hk:K' (a.put dst undef) (w.setRow b (cur.toList.take o++us++cur.toList.drop (o+vs.length)).toArray)):(Oper.mk dst (.store ty0 (.tmp u) v) ty pos after guard).wp P a w K' Q:=
 r_store (n:=vs.length) (by rw [(hT.ty _ _ ht).sz,hn]) hev hus hul hone hh hle hk
theorem storeEs_sound (hT:TOk P T Z) {S:Sig} {w:World} {a:Act} {fr:List D} {ty0 u x sz k j:Nat} {v0:Value} {v:Operand} {rows:List (List D)} {ty:TypeId} {pos:String} {after:Array Edge} {guard:Option (Nat × Bool)} {K:List D→Prop} (h:FR S w a fr) (hv:a.tmps[u]?=some v0) (hsl:SlotRep S w a fr u v0 (.es x sz k j)) (hd:fr[x]?=some (.sl 2 sz rows))
  (hs:storeR T ty0 v x sz k j rows fr fun rows=>forceL (fr.set x (.sl 2 sz rows)) K):StepOk P S w a (Oper.mk none (.store ty0 (.tmp u) v) ty pos after guard) K:=by
 intro K' Q hK
 unfold storeR at hs
 split at hs
 ·rename_i ti vs ht hvs
  split at hs
  ·rename_i hb
   simp only [Bool.and_eq_true] at hb
   have hn:=Nat.eq_of_beq_eq_true hb.1
   have hle:=Nat.le_of_ble_eq_true hb.2
   obtain ⟨r,⟨_,hr⟩,hs⟩:=hs.h
   have hr:rows[k]?=some r:=hr
   rw [forceL_eq] at hs
   obtain ⟨_,s,hs1,he⟩:=hsl
   obtain ⟨v',hv',hs'⟩:=h.at hd
   obtain rfl:s=v':=Option.some.inj (hs1.symm.trans hv')
   obtain ⟨b,cap,cur,e,rfl,rfl,g⟩:=el_at hs'.1 he hr
   have hev:a.eval (.tmp u)=.pointer (some ⟨b,k * sz+j,none⟩):=by simp [Act.eval,Array.getD_eq_getD_getElem?,hv]
   obtain ⟨q,hq⟩:=h.eval v
   have hc:=CR.of hq hvs
   obtain ⟨h1,hbt,CUR,g'⟩:=g.store h.wf (by simp [Place.slot]) hr hc hle
   refine storeEl_run hT ht hn hev rfl hc.len hc.one g.heap h1 ?_
   refine hK _ S _ a hs hbt.tr (h.reown hbt g.own rfl hd rfl (fun y hy => ?_) (fun t=>no_men_sl) rfl)
   rw [hs1] at hy
   cases hy
   have:=Rep.own g'
   rwa [List.length_set] at this
  ·exact hs.elim
 ·exact hs.elim
theorem storeEl_sound (hT:TOk P T Z) {S:Sig} {w:World} {a:Act} {fr:List D} {ty0 u x c sz k j:Nat} {v0:Value} {v:Operand} {cs:List D} {rows:List (List D)} {ty:TypeId} {pos:String} {after:Array Edge} {guard:Option (Nat × Bool)} {K:List D→Prop} (h:FR S w a fr) (hv:a.tmps[u]?=some v0) (hsl:SlotRep S w a fr u v0 (.el x c sz k j)) (hd:fr[x]?=some (.obj cs)) (hcc:cs[c]?=some (.sl 2 sz rows))
  (hs:storeR T ty0 v x sz k j rows fr fun rows=>putObj fr x (cs.set c (.sl 2 sz rows)) K):StepOk P S w a (Oper.mk none (.store ty0 (.tmp u) v) ty pos after guard) K:=by
 intro K' Q hK
 unfold storeR at hs
 split at hs
 ·rename_i ti vs ht hvs
  split at hs
  ·rename_i hb
   simp only [Bool.and_eq_true] at hb
   have hn:=Nat.eq_of_beq_eq_true hb.1
   have hle:=Nat.le_of_ble_eq_true hb.2
   obtain ⟨r,⟨_,hr⟩,hs⟩:=hs.h
   have hr:rows[k]?=some r:=hr
   simp only [putObj,forceH_eq,forceL_eq] at hs
   obtain ⟨_,s,hs1,he⟩:=hsl
   obtain ⟨v',hv',hs'⟩:=h.at hd
   have hrep:=hs'.1.obj_cell hcc hs1
   obtain ⟨b,cap,cur,e,rfl,rfl,g⟩:=el_at hrep he hr
   have hev:a.eval (.tmp u)=.pointer (some ⟨b,k * sz+j,none⟩):=by simp [Act.eval,Array.getD_eq_getD_getElem?,hv]
   obtain ⟨q,hq⟩:=h.eval v
   have hc:=CR.of hq hvs
   obtain ⟨h1,hbt,CUR,g'⟩:=g.store h.wf (by simp) hr hc hle
   refine storeEl_run hT ht hn hev rfl hc.len hc.one g.heap h1 ?_
   refine hK _ S _ a hs hbt.tr (h.reownC hbt g.own hd (fun y hy => ?_) (fun t=>no_men_sl))
   rw [hs1] at hy
   cases hy
   have:=Rep.own g'
   rwa [List.length_set] at this
  ·exact hs.elim
 ·exact hs.elim
theorem set_at_split {cs:List D} {off:Nat} {d:D} (h:off < cs.length):cs.take off ++ [d]++cs.drop (off+1)=cs.set off d:=by
 rw [List.set_eq_take_append_cons_drop,if_pos h]
 simp
theorem give_sound (hT:TOk P T Z) {S:Sig} {w:World} {a:Act} {fr:List D} {ty0:Nat} {x v:Operand} {u off s m sz:Nat} {cs:List D} {rows:List (List D)} {ty:TypeId} {pos:String} {after:Array Edge} {guard:Option (Nat × Bool)} {K:List D→Prop} (h:FR S w a fr) {e0 sz0 by0:Nat} {zc0:List Value} (ht:T ty0=some (.sl e0 sz0 by0 zc0))
  (hx:objAt fr x=some (u,off)) (hr:rootOf fr v=some s) (hd:fr[u]?=some (.obj cs)) (hsl:fr[s]?=some (.sl (m+1) sz rows)) (hlt:off < cs.length)
  (hs:K ((eraC u off 1 ((fr.map (unal s .any)).set s .any)).set u (.obj (cs.set off (.sl (m+1) sz rows))))):StepOk P S w a (Oper.mk none (.store ty0 x v) ty pos after guard) K:=by
 intro K' Q hK
 obtain ⟨cs0,hd0,hev⟩:=h.objAt hx
 have hv:=root_eval h hr
 have hus:u ≠ s:=fun e=>by subst e;rw [hd] at hsl;cases hsl
 obtain ⟨S1,v',t1,t2,f1,r1⟩:=h.take ⟨u+2,[off]⟩ hsl
 obtain rfl:v'=a.eval v:=Option.some.inj (t2.symm.trans hv)
 have hd1:((fr.map (unal s .any)).set s .any)[u]?=some (.obj cs):=by
  rw [List.getElem?_set_ne (Ne.symm hus),List.getElem?_map,hd]
  rfl
 -- the object stays where it is
 obtain ⟨vo,hvo,hso⟩:=h.at hd
 obtain ⟨b0,_,_,hvo0,hbo0,hloc0,_⟩:=hso.1.obj_inv
 have f2:=f1.recell hd1 off (r0:=.any) (fun _ _=>.fz (.any _)) (fun t ht=>by cases ht)
 have hd2:((((fr.map (unal s .any)).set s .any)).set u (.obj (cs.set off .any)))[u]?=some (.obj (cs.set off .any)):=List.getElem?_set_self (by
  have:=(gLt hd)
  simpa using this)
 have one:(a.eval v).oneCell'=true:=by
  rcases r1.sl_inv with ⟨e,_⟩|⟨b,cap,cur,e,e',_⟩
  ·rw [e];rfl
  ·rw [e'];rfl
 have hcells:(a.eval v).cells.toList = [a.eval v]:=by
  rcases r1.sl_inv with ⟨e,_⟩|⟨b,cap,cur,e,e',_⟩
  ·rw [e];rfl
  ·rw [e'];rfl
 have hc:CR S1.lim w [a.eval v] [D.any]:=⟨rfl,fun u hu=>by simp only [List.mem_singleton] at hu;subst hu;exact one,fun j d u hj hu=>by
  match j,hj with
  |0,hj=>cases hj;exact .any _
  | j+1,hj=>simp at hj⟩
 obtain ⟨b,cur,e,hb',hloc,hh,hsz,htr,f3⟩:=f2.storeObj (off:=off) hd2 hc (by simp;omega)
 have hevS:a.eval x=.pointer (some ⟨b,off,none⟩):=by
  rw [hev,hloc0]
  congr 3
  obtain ⟨vo1,hvo1,hso1⟩:=f1.at hd1
  obtain ⟨b1,_,_,hvo1',_,hloc1,_⟩:=hso1.1.obj_inv
  have e1:vo1=vo:=Option.some.inj (hvo1.symm.trans hvo)
  rw [hvo1',hvo0] at e1
  have:b1=b0:=by cases e1;rfl
  rw [← this,← hloc1,hloc]
 refine r_store (n:=1) (by rw [(hT.ty _ _ ht).sz];rfl) hevS hcells rfl (fun u hu=>by simp only [List.mem_singleton] at hu;subst hu;exact one) hh (by rw [← hsz];simp;omega) ?_
 have hlen1 : [D.any].length=1:=rfl
 rw [hlen1] at htr f3
 rw [set_at_split (by simpa using hlt),List.set_set] at f3
 -- what the cell holds now
 have hd3:(((((fr.map (unal s .any)).set s .any)).set u (.obj (cs.set off .any))).map (unac u off 1)).set u (.obj (cs.set off .any))=(eraC u off 1 ((fr.map (unal s .any)).set s .any)).set u (.obj (cs.set off .any)):=by
  rw [eraC_eq,List.map_set,List.set_set]
 rw [hd3] at f3
 have hul:u < (eraC u off 1 ((fr.map (unal s .any)).set s .any)).length:=by
  have:=(gLt hd)
  rw [eraC_eq]
  simpa using this
 obtain ⟨hCs,hcell⟩:=splice (cur:=cur) (us := [a.eval v]) (off:=off) (n:=1) rfl (by rw [← hsz];simp;omega)
 have hheap:(w.setRow b (cur.toList.take off ++ [a.eval v]++cur.toList.drop (off+1)).toArray).heap[b]?=some (.cells (cur.toList.take off ++ [a.eval v]++cur.toList.drop (off+1)).toArray e (0,0)):=setRow_heap w b cur _ e (0,0) hh
 have f4:=f3.recell (List.getElem?_set_self hul) off (r0:=.sl (m+1) sz rows) (fun y hy => ?_) (fun t=>no_men_sl)
 ·rw [List.set_set,List.set_set] at f4
  exact hK _ S1 _ a hs (t1.trans htr) f4
 ·rw [hloc,cell_of_row _ b _ _ e (0,0) hheap,hcell,if_neg (by omega),if_pos (by omega),Nat.sub_self] at hy
  cases hy
  refine r1.trans f1.wf htr rfl (fun k q l hs hu=>⟨setRow_other w b k _ (fun e => ?_),hs⟩) (fun _=>rfl) fun t ht=>by cases ht
  subst e
  rw [hb'] at hs
  cases hs
  obtain ⟨_,l',hl⟩:=hu
  simp [Place.slot] at hl
theorem ev_tmp' {a:Act} {t:Nat} {v:Value} (hv:a.tmps[t]?=some v):a.eval (.tmp t)=v:=by simp [Act.eval,Array.getD_eq_getD_getElem?,hv]
theorem ownPart_at {fr:List D}:∀ {l:List (Nat × Operand)} {s m sz:Nat} {rows:List (List D)},ownPart fr l=some (s,m,sz,rows)→fr[s]?=some (.sl (m+1) sz rows)
 |[],_,_,_,_,h=>by cases h
 |(i,x)::r,s,m,sz,rows,h=>by
  cases x with
  |tmp y=>
   simp only [ownPart] at h
   split at h
   ·rename_i hd
    cases h
    exact hd
   ·exact ownPart_at h
  |_=>exact ownPart_at (l:=r) h
theorem alAt_ok:∀ {cs:List D} {off:Nat},alAt cs=some off→∃ s,cs[off]?=some (.al s)
 |[],_,h=>by cases h
 |d::r,off,h=>by
  cases d with
  |al s=>cases h;exact ⟨s,rfl⟩
  |_=>
   simp only [alAt] at h
   split at h
   ·rename_i k hk
    cases h
    obtain ⟨s,hs⟩:=alAt_ok hk
    exact ⟨s,by simpa using hs⟩
   ·cases h
def pinA (v:Value):D→D
 |.al _=>.pv v
 |d=>d
theorem pinA_one {v:Value} {d:D} (h:d.one=true):pinA v d=d:=by cases d<;>first|rfl|cases h
theorem pinA_cells {v:Value} {cs:List D} (h:cs.all D.one=true):cs.map (pinA v)=cs:=by
 have:∀ d ∈ cs,pinA v d=id d:=fun d hd=>pinA_one (List.all_eq_true.1 h d hd)
 rw [List.map_congr_left this,List.map_id]
theorem fillR_map (f:D→D) {pl:List (Nat × Nat)}:∀ (parts:List (Nat × Option (List D))) (cells cs:List D),fillR pl cells parts=some cs→fillR pl (cells.map f) (parts.map fun x=>(x.1,x.2.map (List.map f)))=some (cs.map f)
 |[],cells,cs,h=>by
  simp only [fillR,Option.some.injEq] at h
  subst h
  rfl
 |(i,none)::r,cells,cs,h=>by simp [fillR] at h
 |(i,some ds)::r,cells,cs,h=>by
  simp only [fillR,List.map_cons,Option.map_some] at h ⊢
  cases hp:pl[i]? with
  |none=>rw [hp] at h;cases h
  |some y=>
   obtain ⟨off,sz⟩:=y
   rw [hp] at h
   simp only at h ⊢
   split at h
   ·rename_i hc
    have:=fillR_map f r _ cs h
    rw [if_pos (by simpa using hc)]
    simpa only [List.map_append,List.map_take,List.map_drop] using this
   ·cases h
theorem ofVal_pin (u v:Value) (hu:u.oneCell'=true):pinA v (ofVal u)=ofVal u:=by
 unfold ofVal
 split<;>rfl
theorem zeroD_pin {v:Value} {zc:List Value} (h:zc.all Value.oneCell'=true):(zeroD zc).map (pinA v)=zeroD zc:=by
 unfold zeroD
 rw [List.map_map]
 exact List.map_congr_left fun u hu=>ofVal_pin u v (List.all_eq_true.1 h u hu)
theorem cellsOf_pin {v:Value} {d:D} {ds:List D} (h:d.cellsOf=some ds):ds.map (pinA v)=ds:=by
 unfold D.cellsOf at h
 split at h
 ·split at h
  ·rename_i hc
   cases h
   exact pinA_cells hc
  ·cases h
 ·split at h
  ·cases h;rfl
  ·cases h
 ·split at h
  ·rename_i ho
   cases h
   rw [List.map_cons,List.map_nil,pinA_one ho]
  ·cases h
theorem buildN_sound (hT:TOk P T Z) {S:Sig} {w:World} {a:Act} {fr:List D} {t ty0 s m sz:Nat} {rows:List (List D)} {parts:Array (Nat × Operand)} {ty:TypeId} {pos:String} {after:Array Edge} {guard:Option (Nat × Bool)} {K:List D→Prop} (h:FR S w a fr) (hsl:fr[s]?=some (.sl (m+1) sz rows))
  (hs:buildN T Z t ty0 parts.toList s m sz rows fr K):StepOk P S w a (Oper.mk (some t) (.build ty0 parts) ty pos after guard) K:=by
 intro K' Q hK
 unfold buildN at hs
 rw [forceL_eq] at hs
 split at hs
 ·rename_i n0 fl ks zc hty hz
  split at hs
  ·rename_i hzc
   split at hs
   ·rename_i cs hf
    split at hs
    ·rename_i off hal
     split at hs
     ·rename_i hone
      obtain ⟨S1,v0,t1,t2,f1,r1⟩:=h.take ⟨t+2,[off]⟩ hsl
      obtain ⟨s',hoff⟩:=alAt_ok hal
      haveI:=(hT.ty _ _ hty).2.2.1
      haveI:=hT.zer _ _ hz
      have one:v0.oneCell'=true:=by
       rcases r1.sl_inv with ⟨e,_⟩|⟨b,cap,cur,e,e',_⟩
       ·rw [e];rfl
       ·rw [e'];rfl
      have hcv:v0.cells.toList = [v0]:=by
       rcases r1.sl_inv with ⟨e,_⟩|⟨b,cap,cur,e,e',_⟩
       ·rw [e];rfl
       ·rw [e'];rfl
      have hf':=fillR_map (pinA v0) _ _ _ hf
      rw [zeroD_pin hzc] at hf'
      obtain ⟨us,h1,h2⟩:=fillR_sound (S:=S1) (w:=w) (parts.toList.map fun x=>(x.1,a.eval x.2)) _ zc (zeroD zc) _ hf' (CR.zero hzc) (by simp) (fun j x y hx hy=>by
       rw [List.getElem?_map] at hx
       rw [List.getElem?_map,List.getElem?_map] at hy
       cases hp:parts.toList[j]? with
       |none=>rw [hp] at hx;cases hx
       |some z=>
        rw [hp] at hx hy
        cases hx;cases hy
        refine ⟨rfl,fun ds hd => ?_⟩
        obtain ⟨i,x⟩:=z
        simp only [Option.map_eq_some_iff] at hd
        obtain ⟨ds0,hd0,rfl⟩:=hd
        have gen:(evalD ((fr.map (unal s .any)).set s .any) x).cellsOf=some ds0→CR S1.lim w (a.eval x).cells.toList (ds0.map (pinA v0)):=fun g=>by
         rw [cellsOf_pin g]
         obtain ⟨q,hq⟩:=f1.eval x
         exact CR.of hq g
        cases x with
        |tmp y=>
         simp only [partD] at hd0
         split at hd0
         ·rename_i he
          obtain rfl:=Nat.eq_of_beq_eq_true he
          cases hd0
          show CR S1.lim w (a.eval (.tmp y)).cells.toList [.pv v0]
          rw [ev_tmp' t2,hcv]
          refine ⟨rfl,fun u hu => ?_,fun j d u hj hu => ?_⟩
          ·simp only [List.mem_singleton] at hu;subst hu;exact one
          ·match j,hj,hu with
           |0,hj,hu=>cases hj;cases hu;exact .pv _
           |j+1,hj,_=>simp at hj
         ·exact gen hd0
        |const c=>exact gen hd0
        |global g=>exact gen hd0
        | func g=>exact gen hd0)
      have hlen:us.length=cs.length:=by rw [h2.len,List.length_map]
      have hrep:Rep S1 w (Place.slot t) (.agg us.toArray) (.agg (cs.set off (.sl (m+1) sz rows))):=by
       refine .agg us (by rw [List.length_set];exact hlen) h2.one fun j d u hd hu => ?_
       by_cases hj:j=off
       ·subst hj
        rw [List.getElem?_set_self (gLt hoff)] at hd
        cases hd
        have:=h2.fz j (.pv v0) u (by rw [List.getElem?_map,hoff];rfl) hu
        cases this
        exact r1
       ·rw [List.getElem?_set_ne (Ne.symm hj)] at hd
        have ho:d.one=true:=List.all_eq_true.1 hone d (gMem (by rw [List.getElem?_set_ne (Ne.symm hj)];exact hd))
        exact .fz (h2.fz j d u (by rw [List.getElem?_map,hd,Option.map_some,pinA_one ho]) hu)
      have hmen:RefOk ((fr.map (unal s .any)).set s .any) (.agg (cs.set off (.sl (m+1) sz rows))):=fun x hx=>by
       cases hx with
       |agg hd hm=>
        rename_i j d
        by_cases hj:j=off
        ·subst hj
         rw [List.getElem?_set_self (gLt hoff)] at hd
         cases hd
         exact (no_men_sl hm).elim
        ·rw [List.getElem?_set_ne (Ne.symm hj)] at hd
         have ho:d.one=true:=List.all_eq_true.1 hone d (gMem (by rw [List.getElem?_set_ne (Ne.symm hj)];exact hd))
         have hlt:j < us.length:=by rw [hlen];exact (gLt hd)
         exact ((h2.fz j d us[j] (by rw [List.getElem?_map,hd,Option.map_some,pinA_one ho]) (List.getElem?_eq_getElem hlt)).men hm).elim
      obtain ⟨fr',k1,k2⟩:=putD_sound (dst:=some t) (v:=.agg us.toArray) f1 hrep hmen hs
      have:=r_build (P:=P) (dst:=some t) (ty:=ty) (pos:=pos) (after:=after) (guard:=guard) (Q:=Q) (t:=ty0) (parts:=parts.toList) rfl h1 (hK fr' S1 w _ k1 t1 k2)
      simpa using this
     ·exact hs.elim
    ·exact hs.elim
   ·exact hs.elim
  ·exact hs.elim
 ·exact hs.elim
theorem FR.takeA {S:Sig} {w:World} {a:Act} {fr:List D} (h:FR S w a fr) {x off m sz:Nat} (p:Place) {cs:List D} {rows:List (List D)} (hd:fr[x]?=some (.agg cs)) (ho:cs[off]?=some (.sl (m+1) sz rows)) (hone:(cs.set off .nil).all D.one=true):
  ∃ S' vs v,Trans S w S' w∧a.tmps[x]?=some (.agg (List.toArray vs))∧vs.length=cs.length∧(∀ u:Value,u ∈ vs→u.oneCell'=true)∧vs[off]?=some v∧FR S' w a ((fr.map (unal x .any)).set x .any)∧(∀ (j:Nat) (d:D) (u:Value),j ≠ off→cs[j]?=some d→vs[j]?=some u→Fz S'.lim w u d)∧Rep S' w p v (.sl (m+1) sz rows):=by
 obtain ⟨va,hva,hs⟩:=h.at hd
 obtain ⟨vs,rfl,hl,h1,ih⟩:=hs.1.agg_inv
 have hlt:off < vs.length:=by rw [hl];exact (gLt ho)
 have hv:vs[off]?=some vs[off]:=List.getElem?_eq_getElem hlt
 have hf:∀ (j:Nat) (d:D) (u:Value),j ≠ off→cs[j]?=some d→vs[j]?=some u→Fz S.lim w u d:=fun j d u hj hd hu=>by
  have hod:d.one=true:=List.all_eq_true.1 hone d (gMem (by rw [List.getElem?_set_ne (Ne.symm hj)];exact hd))
  exact D.one_fz (ih j d u hd hu) hod
 rcases (ih off _ _ ho hv).sl_inv with ⟨e,rfl⟩|⟨b,cap,cur,e,e',g⟩
 ·exact ⟨S,vs,_,Trans.refl S w,hva,hl,h1,hv,h.forget hd rfl,hf,by rw [e];exact .fz (.slNil _ _)⟩
 ·have hb:BT S w (S.set b (some (p,if m+1=2 then 0 else rows.length * sz))) w b:=BT.ghost h.wf g.own (by simp [Place.at,Place.slot]) (fun y hy=>by cases hy;simp)
  refine ⟨_,vs,_,hb.tr,hva,hl,h1,hv,h.rebuild hb g.own rfl hd rfl (fun v' p hv'=>.fz (.any _)) (fun t ht=>by cases ht) (fun v' hv'=>.fz (.any _)) (fun t ht=>by cases ht),fun j d u hj hd hu=>(hf j d u hj hd hu).trans hb.tr,?_⟩
  rw [e']
  refine .own ⟨g.mode,g.heap,g.le,g.max,g.size,g.each,by rw [S.set_at],fun k r j d k1 k2 => ?_⟩
  obtain ⟨x,x1,x2,x3⟩:=g.cells k r j d k1 k2
  exact ⟨x,x1,x2,x3.trans hb.tr⟩
theorem giveA_sound (hT:TOk P T Z) {S:Sig} {w:World} {a:Act} {fr:List D} {ty0 u x off m sz:Nat} {ti:TI} {cs cs0:List D} {rows:List (List D)} {ty:TypeId} {pos:String} {after:Array Edge} {guard:Option (Nat × Bool)} {K:List D→Prop} (h:FR S w a fr) (ht:T ty0=some ti)
  (hd:fr[x]?=some (.agg cs)) (ho:cs[off]?=some (.sl (m+1) sz rows)) (hu:fr[u]?=some (.obj cs0)) (hn:ti.cells=cs.length) (hl0:cs0.length=cs.length) (hone:(cs.set off .nil).all D.one=true)
  (hs:K ((eraC u 0 cs.length ((fr.map (unal x .any)).set x .any)).set u (.obj (cs.set off (.sl (m+1) sz rows))))):StepOk P S w a (Oper.mk none (.store ty0 (.tmp u) (.tmp x)) ty pos after guard) K:=by
 intro K' Q hK
 have hux:u ≠ x:=fun e=>by subst e;rw [hd] at hu;cases hu
 obtain ⟨S1,vs,v,t1,hva,hl,h1,hv,f1,hf,r1⟩:=h.takeA ⟨u+2,[off]⟩ hd ho hone
 have hlt:off < cs.length:=(gLt ho)
 have hd1:((fr.map (unal x .any)).set x .any)[u]?=some (.obj cs0):=by
  rw [List.getElem?_set_ne (Ne.symm hux),List.getElem?_map,hu]
  rfl
 have hc:CR S1.lim w vs (cs.set off .any):=⟨by rw [List.length_set];exact hl,h1,fun j d u hj hu=>by
  by_cases e:j=off
  ·subst e
   rw [List.getElem?_set_self hlt] at hj
   cases hj
   exact .any _
  ·rw [List.getElem?_set_ne (Ne.symm e)] at hj
   exact hf j d u e hj hu⟩
 have hl2:(cs.set off .any).length=cs.length:=List.length_set
 obtain ⟨b,cur,e,hb',hloc,hh,hsz,htr,f3⟩:=f1.storeObj (off:=0) hd1 hc (by rw [hl2];omega)
 obtain ⟨vo,hvo,hso⟩:=f1.at hd1
 obtain ⟨b1,_,_,hvo',_,hloc1,_⟩:=hso.1.obj_inv
 have hev:a.eval (.tmp u)=.pointer (some ⟨b,0,none⟩):=by rw [ev_tmp' hvo,hvo',← hloc1,hloc]
 have hx:a.eval (.tmp x)=.agg (List.toArray vs):=ev_tmp' hva
 refine r_store (n:=cs.length) (by rw [(hT.ty _ _ ht).sz,hn]) hev (us:=vs) (by rw [hx];rfl) hl h1 hh (by omega) ?_
 rw [hl2] at htr f3
 have hfull:cs0.take 0++cs.set off .any++cs0.drop (0+cs.length)=cs.set off .any:=by
  rw [List.take_zero,List.nil_append,Nat.zero_add,List.drop_of_length_le (by omega),List.append_nil]
 rw [hfull] at f3
 have hul:u < (((fr.map (unal x .any)).set x .any).map (unac u 0 cs.length)).length:=by
  have:=(gLt hu)
  simpa using this
 have f4:=f3.recell (List.getElem?_set_self hul) off (r0:=.sl (m+1) sz rows) (fun y hy => ?_) (fun t=>no_men_sl)
 ·rw [List.set_set,List.set_set,← eraC_eq] at f4
  exact hK _ S1 _ a hs (t1.trans htr) f4
 ·have hcl:(cur.toList.take 0++vs++cur.toList.drop (0+cs.length))=vs:=by
   rw [List.take_zero,List.nil_append,Nat.zero_add,List.drop_of_length_le (by rw [Array.length_toList];omega),List.append_nil]
  have hheap:(w.setRow b (cur.toList.take 0++vs++cur.toList.drop (0+cs.length)).toArray).heap[b]?=some (.cells (cur.toList.take 0++vs++cur.toList.drop (0+cs.length)).toArray e (0,0)):=setRow_heap w b cur _ e (0,0) hh
  rw [hloc,cell_of_row _ b _ _ e (0,0) hheap,hcl] at hy
  have hy':vs[off]?=some y:=by simpa using hy
  rw [hv] at hy'
  cases hy'
  refine r1.trans f1.wf htr rfl (fun k q l hs hu=>⟨setRow_other w b k _ (fun e => ?_),hs⟩) (fun _=>rfl) fun t ht=>by cases ht
  subst e
  rw [hb'] at hs
  cases hs
  obtain ⟨_,l',hl⟩:=hu
  simp [Place.slot] at hl
theorem cellN_ok {fr:List D} {u off:Nat} (h:cellN fr u off=true):∃ cs d,fr[u]?=some (.obj cs)∧cs[off]?=some d:=by
 unfold cellN at h
 split at h
 ·rename_i cs hd
  split at h
  ·rename_i d hc
   exact ⟨cs,d,hd,hc⟩
  ·cases h
 ·cases h
def TI.isOne:TI→Bool
 |.st _ _ _=>false
 |_=>true
theorem TFact.one' {P:Program} {t:Nat} {i:TI} (h:TFact P t i) (hn:i.isOne=true):TOne P t:=h.one fun n fl ks e=>by subst e;cases hn
theorem loadC_sound (hT:TOk P T Z) {S:Sig} {w:World} {a:Act} {fr:List D} {ty0 u x off:Nat} {i:TI} {dst:Option Nat} {ty:TypeId} {pos:String} {after:Array Edge} {guard:Option (Nat × Bool)} {K:List D→Prop} (h:FR S w a fr) (ht:T ty0=some i) (hi:i.isOne=true) (hx:objAt fr (.tmp x)=some (u,off)) (hc:cellN fr u off=true) (hs:putD fr dst (.alc u off) K):
  StepOk P S w a (Oper.mk dst (.load ty0 (.tmp x)) ty pos after guard) K:=by
 intro K' Q hK
 obtain ⟨cs,d,hd,hcs⟩:=cellN_ok hc
 obtain ⟨_,_,hev⟩:=h.objAt hx
 obtain ⟨y,hy,_,_,hn⟩:=h.nameC hd hcs
 haveI:=(hT.ty _ _ ht).one' hi
 obtain ⟨fr',k1,k2⟩:=putNm_sound (dst:=dst) (v:=y) (d:=.alc u off) h rfl (fun t _=>hn t) hs
 exact r_load1 hev hy (hK fr' S w _ k1 (Trans.refl S w) k2)
theorem elAt_field {s v:Value} {sz k j off:Nat} (h:ElAt s sz k j v):∃ b,v=.pointer (some ⟨b,k * sz+j,none⟩)∧ElAt s sz k (j+off) (.pointer (some ⟨b,k * sz+j+off,none⟩)):=by
 obtain ⟨b,l,c,hs,rfl⟩:=h
 exact ⟨b,rfl,b,l,c,hs,by rw [Nat.add_assoc]⟩
theorem storeNm_sound (hT:TOk P T Z) {S:Sig} {w:World} {a:Act} {fr:List D} {ty0 u:Nat} {v:Operand} {ty:TypeId} {pos:String} {after:Array Edge} {guard:Option (Nat × Bool)} {K:List D→Prop} (h:FR S w a fr) (hs:storeNm T ty0 u v fr K):StepOk P S w a (Oper.mk none (.store ty0 (.tmp u) v) ty pos after guard) K:=by
 unfold storeNm at hs
 split at hs
 ·rename_i x sz k j hd
  obtain ⟨v0,hv0,hsl⟩:=h.at hd
  split at hs
  ·rename_i sz' rows hdx
   split at hs
   ·rename_i he
    obtain rfl:=Nat.eq_of_beq_eq_true he
    exact storeEs_sound hT h hv0 hsl hdx hs
   ·exact hs.elim
  ·exact hs.elim
 ·rename_i x c sz k j hd
  obtain ⟨v0,hv0,hsl⟩:=h.at hd
  split at hs
  ·rename_i cs hdx
   split at hs
   ·rename_i sz' rows hc
    split at hs
    ·rename_i he
     obtain rfl:=Nat.eq_of_beq_eq_true he
     exact storeEl_sound hT h hv0 hsl hdx hc hs
    ·exact hs.elim
   ·exact hs.elim
  ·exact hs.elim
 ·exact hs.elim
theorem boxB_sound (hT:TOk P T Z) {S:Sig} {w:World} {a:Act} {fr:List D} {o o2:Oper} {K:List D→Prop} (h:FR S w a fr) (hs:boxB T Z o o2 fr K) {Q:Exit→Act→World→Prop} {ops:Array Oper} {r:List Oper} (hg:o.guard=none)
  (hK:∀ fr' S' w' a',K fr'→Trans S w S' w'→FR S' w' a' fr'→wpList P ops Q r a' w'):wpList P ops Q (o::o2::r) a w:=by
 unfold boxB at hs
 split at hs
 ·rename_i ty parts t ty2 t2 t3 hop hdst hop2 hdst2 hg2
  split at hs
  ·rename_i htt
   obtain rfl:=Nat.eq_of_beq_eq_true htt
   split at hs
   ·rename_i n0 fl ks zc hty hz
    split at hs
    ·rename_i hzc
     split at hs
     ·rename_i cs hf
      split at hs
      ·rename_i hok
       simp only [Bool.and_eq_true] at hok
       obtain ⟨hnd,hown⟩:=okL_ok hok.1
       rw [forceL_eq] at hs
       split at hs
       ·rename_i d0 h0
        split at hs
        ·rename_i ho0
         rw [forceL_eq] at hs
         split at hs
         ·rename_i d3 h3
          split at hs
          ·rename_i hb3
           simp only [Bool.or_eq_false_iff] at hb3
           simp only [putObj,forceH_eq,forceL_eq] at hs
           obtain ⟨dst,op,oty,pos,after,guard⟩:=o
           obtain ⟨dst2,op2,oty2,pos2,after2,guard2⟩:=o2
           simp only at hop hdst hop2 hdst2 hg hg2
           subst hop;subst hdst;subst hop2;subst hdst2
           obtain ⟨S1,t1,f1,l1,k1,m1⟩:=takeAll t3 (alsOf 0 cs) h hown hnd
           haveI:=(hT.ty _ _ hty).2.2.1
           haveI:=hT.zer _ _ hz
           have hf':=fillR_map (pinF a) _ _ _ hf
           rw [zeroD_pinF] at hf'
           obtain ⟨us,h1,h2⟩:=fillR_sound (S:=S1) (w:=w) (parts.toList.map fun x=>(x.1,a.eval x.2)) _ zc (zeroD zc) _ hf' (CR.zero hzc) (by simp) (fun j x y hx hy=>by
            rw [List.getElem?_map] at hx
            rw [List.getElem?_map,List.getElem?_map] at hy
            cases hp:parts.toList[j]? with
            |none=>rw [hp] at hx;cases hx
            |some z=>
             rw [hp] at hx hy
             cases hx;cases hy
             refine ⟨rfl,fun ds hd => ?_⟩
             obtain ⟨i,x⟩:=z
             simp only [Option.map_eq_some_iff] at hd
             obtain ⟨ds0,hd0,rfl⟩:=hd
             have gen:(evalD fr x).cellsOf=some ds0→CR S1.lim w (a.eval x).cells.toList (ds0.map (pinF a)):=fun g=>by
              rw [cellsOf_pinF g]
              obtain ⟨q,hq⟩:=h.eval x
              have hc:=CR.of hq g
              exact ⟨hc.len,hc.one,fun j d u hd hu=>(hc.fz j d u hd hu).trans t1⟩
             cases x with
             |tmp y=>
              simp only [partM] at hd0
              split at hd0
              ·rename_i e he
               split at hd0
               ·rename_i hoe
                cases hd0
                obtain ⟨v,hv,hsl⟩:=h.at he
                have hcv:v.oneCell'=true∧v.cells.toList = [v]:=by
                 obtain ⟨_,v',_,hv',g1,g2,_⟩:=h.takeX .dead he hoe
                 obtain rfl:v=v':=Option.some.inj (hv.symm.trans hv')
                 exact ⟨g1,g2⟩
                show CR S1.lim w (a.eval (.tmp y)).cells.toList [.pv ((a.tmps[y]?).getD undef)]
                rw [ev_tmp' hv,hcv.2,hv]
                refine ⟨rfl,fun u hu => ?_,fun j d u hj hu => ?_⟩
                ·simp only [List.mem_singleton] at hu;subst hu;exact hcv.1
                ·match j,hj,hu with
                 |0,hj,hu=>cases hj;cases hu;exact .pv _
                 |j+1,hj,_=>simp at hj
               ·exact gen hd0
              ·cases hd0
             |const c=>exact gen hd0
             |global g=>exact gen hd0
             | func g=>exact gen hd0)
           have hlen:us.length=cs.length:=by rw [h2.len,List.length_map]
           refine wpList_plain hg fun K1 hK1 => ?_
           have:=r_build (P:=P) (dst:=some t) (ty:=oty) (pos:=pos) (after:=after) (guard:=guard) (Q:=Q) (K:=K1) (t:=ty) (parts:=parts.toList) (a:=a) (w:=w) rfl h1 (hK1 _ _ ?_)
           ·simpa using this
           ·have f2:=f1.put (v:=.agg us.toArray) (d:=.any) (PT.refl f1.wf) h0 ho0 (.fz (.any _)) (fun t ht=>by cases ht)
            have htl:t < a.tmps.size:=by rw [f1.size];exact (gLt h0)
            refine wpList_plain hg2 fun K2 hK2=>r_box (v:=.agg us.toArray) (ev_tmp' (put_tmps_eq htl)) fun g w' hb' hx hgs=>hK2 _ _ ?_
            have hbu:Blk w' g ty2 us.toArray:=hb'
            obtain ⟨S2,⟨t2,f3⟩,own2,loc2,locg⟩:=f2.allocObjX (fun e=>by subst e;simp at hb3) h3 hb3.1 hbu hx hgs h2
            have hlt3:t3 < ((clearL (alsOf 0 cs) fr).set t .any).length:=(gLt h3)
            have f4:=f3.recellAll (u:=t3) (cs':=cs.map (fillA fr)) (List.getElem?_set_self hlt3) (by simp) (fun i d' x hd hxc => ?_) (fun d' hd t hm => ?_)
            ·rw [List.set_set] at f4
             exact hK _ S2 w' _ hs (t1.trans t2) f4
            ·obtain ⟨c,hc,rfl⟩:=map_at hd
             have hil:i < us.length:=by rw [hlen];exact (gLt hc)
             rw [locg,cell_of_row w' g _ _ ty2 (0,0) hbu] at hxc
             have hxc:us[i]?=some x:=by simpa using hxc
             have hfz:=h2.fz i (pinF a c) x (by rw [List.getElem?_map,hc];rfl) hxc
             have hoa:=List.all_eq_true.1 hok.2 c (gMem hc)
             have one:c.one=true→Rep S2 w' ⟨t3+2,[i]⟩ x (fillA fr c):=fun ho=>by
              rw [pinF_one ho] at hfz
              have e:fillA fr c=c:=by cases c<;>first|rfl|cases ho
              rw [e]
              exact .fz (hfz.trans t2)
             cases c with
             |al y=>
              have hm:=alsOf_mem (k:=0) hc
              rw [Nat.zero_add] at hm
              obtain ⟨d,v,g1,g2,g3,g4,g5,g6⟩:=m1 _ hm
              simp only at g1 g3 g6
              have e:fillA fr (.al y)=d:=by simp [fillA,g1]
              rw [e]
              simp only [pinF,g3,Option.getD_some] at hfz
              obtain rfl:x=v:=by cases hfz;rfl
              refine g6.trans f2.wf t2 (loc2 0 (by omega)) (fun b q l hb hu=>⟨hx.block (f2.wf _ _ hb),by rw [own2 b (f2.wf _ _ hb)];exact hb⟩) (fun e=>by cases e) fun x hm=>(ownD_men g2 hm).elim
             |_=>exact one hoa
            ·obtain ⟨c,hc,rfl⟩:=List.mem_map.1 hd
             have hoa:=List.all_eq_true.1 hok.2 c hc
             cases c with
             |al y=>
              obtain ⟨i,hi⟩:=List.mem_iff_getElem?.1 hc
              have hmm:=alsOf_mem (k:=0) hi
              obtain ⟨d,v,g1,g2,_⟩:=m1 _ hmm
              simp only at g1
              have e:fillA fr (.al y)=d:=by simp [fillA,g1]
              rw [e] at hm
              exact ownD_men g2 hm
             |_=>
              cases hm<;>cases hoa
          ·exact hs.elim
         ·exact hs.elim
        ·exact hs.elim
       ·exact hs.elim
      ·exact hs.elim
     ·exact hs.elim
    ·exact hs.elim
   ·exact hs.elim
  ·exact hs.elim
 ·exact hs.elim
theorem updN_sound (hT:TOk P T Z) {S:Sig} {w:World} {a:Act} {fr:List D} {ty0 x u off:Nat} {k v:Operand} {dst:Option Nat} {ty:TypeId} {pos:String} {after:Array Edge} {guard:Option (Nat × Bool)} {K:List D→Prop} (h:FR S w a fr) (hx:fr[x]?=some (.alc u off)) (hs:updN T ty0 u off k v dst fr K):StepOk P S w a (Oper.mk dst (.mapUpdate ty0 (.tmp x) k v) ty pos after guard) K:=by
 intro K' Q hK
 unfold updN at hs
 split at hs
 ·exact hs.elim
 ·split at hs
  ·rename_i kt et kd z cs ht hd
   haveI:=(hT.ty _ _ ht).1
   split at hs
   ·rename_i kd' es hc
    split at hs
    ·rename_i kv vv hk hv
     split at hs
     ·rename_i hb
      simp only [Bool.and_eq_true] at hb
      obtain rfl:=sameKD_eq hb.1
      simp only [putObj,forceH_eq,forceL_eq] at hs
      obtain ⟨v0,hv0,hsl⟩:=h.at hx
      obtain ⟨y,hy,_,hrep,_⟩:=h.nameC hd hc
      obtain rfl:v0=y:=Option.some.inj (hsl.2.symm.trans hy)
      obtain ⟨b,clock,ents,rfl,hown,hh,he,hf⟩:=hrep.mp_inv
      obtain ⟨q1,r1⟩:=h.eval k
      obtain ⟨q2,r2⟩:=h.eval v
      refine r_mapUpdate (ev_tmp' hv0) hh he.1 hf (keyV_eq r1 hk) hb.2 (keyV_eq r2 hv) fun ents' clock' he' hst => ?_
      obtain ⟨t1,f1⟩:=h.setMapC (clock':=clock') hd hy hown hh ⟨he',hst he.2⟩ (putV_fit hb.2 hf)
      exact hK _ S _ a hs t1 f1
     ·exact hs.elim
    ·exact hs.elim
   ·exact hs.elim
  ·exact hs.elim
theorem delN_sound (hT:TOk P T Z) {S:Sig} {w:World} {a:Act} {fr:List D} {x u off:Nat} {k:Operand} {c:Call} {dst:Option Nat} {ty:TypeId} {pos:String} {after:Array Edge} {guard:Option (Nat × Bool)} {K:List D→Prop} (h:FR S w a fr) (hc:c.callee=.builtin .delete) (hargs:c.args.toList = [.tmp x,k]) (hx:fr[x]?=some (.alc u off)) (hs:delN T c.argTypes.toList u off k dst fr K):StepOk P S w a (Oper.mk dst (.call c) ty pos after guard) K:=by
 intro K' Q hK
 obtain ⟨callee,args,argTypes⟩:=c
 simp only at hc hargs hs
 subst hc
 obtain rfl:=arr2 hargs
 unfold delN at hs
 split at hs
 ·rename_i ty0 kt0 h2
  obtain rfl:=arr2 h2
  split at hs
  ·rename_i kt et kd z cs ht hd
   haveI:=(hT.ty _ _ ht).1
   split at hs
   ·rename_i hkt
    obtain rfl:=Nat.eq_of_beq_eq_true hkt
    split at hs
    ·rename_i kd' es hcc
     split at hs
     ·rename_i kv hk
      split at hs
      ·rename_i hb
       simp only [Bool.and_eq_true] at hb
       obtain rfl:=sameKD_eq hb.1
       simp only [putObj,forceH_eq,forceL_eq] at hs
       obtain ⟨v0,hv0,hsl⟩:=h.at hx
       obtain ⟨y,hy,_,hrep,_⟩:=h.nameC hd hcc
       obtain rfl:v0=y:=Option.some.inj (hsl.2.symm.trans hy)
       obtain ⟨b,clock,ents,rfl,hown,hh,he,hf⟩:=hrep.mp_inv
       obtain ⟨q1,r1⟩:=h.eval k
       refine r_delete rfl (ev_tmp' hv0) hh he.1 hf (keyV_eq r1 hk) hb.2 fun ents' clock' he' hst => ?_
       obtain ⟨t1,f1⟩:=h.setMapC (clock':=clock') hd hy hown hh ⟨he',hst he.2⟩ (delV_fit hf)
       exact hK _ S _ a hs t1 f1
      ·exact hs.elim
     ·exact hs.elim
    ·exact hs.elim
   ·exact hs.elim
  ·exact hs.elim
 ·exact hs.elim
theorem sealAt_ok {M:Nat→Bool} {fr:List D} {x v:Nat} {dst:Option Nat} (h:sealAt M fr x dst=some v):objAt fr (.tmp x)=some (v,0):=by
 unfold sealAt at h
 split at h
 ·split at h
  ·split at h
   ·cases h;assumption
   ·cases h
  ·cases h
 ·cases h
theorem seal_sound {S:Sig} {w:World} {a:Act} {fr:List D} {x v:Nat} {dst:Option Nat} {ty:TypeId} {pos:String} {after:Array Edge} {guard:Option (Nat × Bool)} {K:List D→Prop} (h:FR S w a fr) (hx:objAt fr (.tmp x)=some (v,0)) (hs:sealD fr v dst K):StepOk P S w a (Oper.mk dst (.assign (.tmp x)) ty pos after guard) K:=by
 intro K' Q hK
 obtain ⟨cs0,hd0,hev⟩:=h.objAt hx
 obtain ⟨p0,hp0,hsl0⟩:=h.at hd0
 obtain ⟨b,_,_,rfl,_,hloc,_⟩:=hsl0.1.obj_inv
 unfold sealD at hs
 split at hs
 ·rename_i cs hd
  rw [forceL_eq] at hs
  obtain ⟨S1,t1,f1⟩:=frzSs_sound v cs.length h
  split at hs
  ·rename_i cs1 hd1
   split at hs
   ·rw [forceL_eq] at hs
    have f2:=f1.wipe (wipeB v) (wipeB_or v)
    split at hs
    ·rename_i hsafe
     split at hs
     ·rename_i cs2 hd2
      split at hs
      ·rename_i hone
       rw [forceL_eq] at hs
       obtain ⟨S2,t2,f3⟩:=f2.freezeObj hd2 hone hsafe
       have hlt:v < ((frzSs v cs.length fr).map (wipeB v)).length:=(gLt hd2)
       obtain ⟨p,hp,hsl⟩:=f3.at (List.getElem?_set_self hlt)
       obtain rfl:p=.pointer (some ⟨b,0,none⟩):=Option.some.inj (hp.symm.trans hp0)
       have hfz:Fz S2.lim w (.pointer (some ⟨b,0,none⟩)) (.ptr cs2):=by
        have:=hsl.1
        cases this with
        |fz h=>exact h
       obtain ⟨fr',k1,k2⟩:=putD_sound (dst:=dst) f3 (.fz hfz) (fun t ht=>(hfz.men ht).elim) hs
       exact r_assign (by rw [hev,hloc]) (hK fr' S2 w _ k1 (t1.trans t2) k2)
      ·exact hs.elim
     ·exact hs.elim
    ·exact hs.elim
   ·exact hs.elim
  ·exact hs.elim
 ·exact hs.elim
theorem boxA_sound {S:Sig} {w:World} {a:Act} {fr:List D} {t y off m sz:Nat} {d3:D} {cs:List D} {rows:List (List D)} {ty0:TypeId} {ty:TypeId} {pos:String} {after:Array Edge} {guard:Option (Nat × Bool)} {K:List D→Prop} (h:FR S w a fr)
  (hd:fr[y]?=some (.agg cs)) (ho:cs[off]?=some (.sl (m+1) sz rows)) (h3:fr[t]?=some d3) (ht0:t ≠ 0) (hno:d3.owns=false) (hty:t ≠ y) (hone:(cs.set off .nil).all D.one=true)
  (hs:K (((fr.map (unal y .any)).set y .any).set t (.obj (cs.set off (.sl (m+1) sz rows))))):StepOk P S w a (Oper.mk (some t) (.box ty0 (.tmp y)) ty pos after guard) K:=by
 intro K' Q hK
 obtain ⟨S1,vs,v,t1,hva,hl,h1,hv,f1,hf,r1⟩:=h.takeA ⟨t+2,[off]⟩ hd ho hone
 have hlt:off < cs.length:=(gLt ho)
 have hc:CR S1.lim w vs (cs.set off .any):=⟨by rw [List.length_set];exact hl,h1,fun j d u hj hu=>by
  by_cases e:j=off
  ·subst e
   rw [List.getElem?_set_self hlt] at hj
   cases hj
   exact .any _
  ·rw [List.getElem?_set_ne (Ne.symm e)] at hj
   exact hf j d u e hj hu⟩
 have hx:a.eval (.tmp y)=.agg (List.toArray vs):=ev_tmp' hva
 have h3':∃ d,((fr.map (unal y .any)).set y .any)[t]?=some d∧d.owns=false:=by
  rw [List.getElem?_set_ne (Ne.symm hty),List.getElem?_map,h3]
  refine ⟨_,rfl,?_⟩
  cases d3<;>first|exact hno|(simp only [unal];split<;>rfl)|rfl
 obtain ⟨d4,h4,hno4⟩:=h3'
 refine r_box hx fun g w' hb' hx' hgs => ?_
 have hbu:Blk w' g ty0 vs.toArray:=hb'
 obtain ⟨S2,⟨t2,f3⟩,own2,loc2,locg⟩:=f1.allocObjX ht0 h4 hno4 hbu hx' hgs hc
 have hlt3:t < ((fr.map (unal y .any)).set y .any).length:=(gLt h4)
 have f4:=f3.recell (List.getElem?_set_self hlt3) off (r0:=.sl (m+1) sz rows) (fun u hu => ?_) (fun t=>no_men_sl)
 ·rw [List.set_set,List.set_set] at f4
  exact hK _ S2 w' _ hs (t1.trans t2) f4
 ·rw [locg,cell_of_row w' g _ _ ty0 (0,0) hbu] at hu
  have hu:vs[off]?=some u:=by simpa using hu
  rw [hv] at hu
  cases hu
  exact r1.trans f1.wf t2 (loc2 0 (by omega)) (fun b q l hb hu=>⟨hx'.block (f1.wf _ _ hb),by rw [own2 b (f1.wf _ _ hb)];exact hb⟩) (fun e=>by cases e) fun x hm=>(no_men_sl hm).elim
theorem stepN_sound (hT:TOk P T Z) {S:Sig} {w:World} {a:Act} {fr:List D} {o:Oper} {K:List D→Prop} (h:FR S w a fr) (hs:stepN P T Z M o fr K):StepOk P S w a o K:=by
 have base:stepD P T Z M o fr K→StepOk P S w a o K:=fun h'=>stepD_sound hT h h'
 obtain ⟨dst,op,ty,pos,after,guard⟩:=o
 unfold stepN at hs
 simp only at hs
 split at hs
 ·split at hs
  ·exact (nameMove_sound h hs).1
  ·exact (nameMove_sound h hs).1
  ·exact (nameMove_sound h hs).1
  ·exact base hs
 ·split at hs
  ·exact (nameMove_sound h hs).2
  ·exact (nameMove_sound h hs).2
  ·exact (nameMove_sound h hs).2
  ·split at hs
   ·rename_i hsl
    exact seal_sound h (sealAt_ok hsl) hs
   ·exact base hs
 ·split at hs
  ·rename_i hx
   exact updN_sound hT h hx hs
  ·exact base hs
 ·split at hs
  ·rename_i hd;exact nameNil_sound h (.inl ⟨_,_,_,_,hd⟩) hs
  ·rename_i hd;exact nameNil_sound h (.inr ⟨_,_,_,_,_,hd⟩) hs
  ·exact base hs
 ·split at hs
  ·rename_i x sz k j hd
   split at hs
   ·rename_i ht
    split at hs
    ·rename_i off n ag hf
     haveI:=(hT.ty _ _ ht).2.1 _ _ _ _ hf
     split at hs
     ·rename_i t
      split at hs
      ·rename_i hne
       have hne':x ≠ t:=fun e=>by subst e;simp at hne
       obtain ⟨v,hv,hsl⟩:=h.at hd
       obtain ⟨⟨d',g1,g2,_⟩,s,g3,g4⟩:=hsl
       obtain ⟨b,rfl,g5⟩:=elAt_field (off:=off) g4
       obtain ⟨fr',k1,k2⟩:=putNm_sound (dst:=some t) (d:=.es x sz k (j+off)) h rfl (fun t' e=>by cases e;exact ⟨⟨d',g1,g2,hne'⟩,s,g3,g5⟩) hs
       exact fun K' Q hK=>r_fieldAddr (ev_tmp' hv) (hK fr' S w _ k1 (Trans.refl S w) k2)
      ·exact hs.elim
     ·exact hs.elim
    ·exact hs.elim
   ·exact hs.elim
  ·rename_i x c sz k j hd
   split at hs
   ·rename_i ht
    split at hs
    ·rename_i off n ag hf
     haveI:=(hT.ty _ _ ht).2.1 _ _ _ _ hf
     obtain ⟨v,hv,hsl⟩:=h.at hd
     obtain ⟨g1,s,g3,g4⟩:=hsl
     obtain ⟨b,rfl,g5⟩:=elAt_field (off:=off) g4
     obtain ⟨fr',k1,k2⟩:=putNm_sound (dst:=dst) (d:=.el x c sz k (j+off)) h rfl (fun t' e=>(⟨g1,s,g3,g5⟩:SlotRep S w a fr t' _ (.el x c sz k (j+off)))) hs
     exact fun K' Q hK=>r_fieldAddr (ev_tmp' hv) (hK fr' S w _ k1 (Trans.refl S w) k2)
    ·exact hs.elim
   ·exact hs.elim
  ·exact base hs
 ·rename_i t y
  split at hs
  ·rename_i u off hx
   split at hs
   ·rename_i cs hd
    split at hs
    ·rename_i sz rows hc
     split at hs
     ·rename_i e sz' by' zc ki j ht hy
      split at hs
      ·rename_i he
       obtain rfl:=Nat.eq_of_beq_eq_true he
       obtain ⟨⟨h0,h1⟩,hput⟩:=hs
       haveI:=(hT.ty _ _ ht).1
       haveI:=(hT.ty _ _ ht).2.1
       obtain ⟨v,hv,hsl⟩:=h.at hx
       obtain ⟨v',hv',hs'⟩:=h.at hd
       have hrep:=hs'.1.obj_cell hc hsl.2
       obtain ⟨q,hq⟩:=h.eval y
       rw [hy] at hq
       rcases hrep.sl_inv with ⟨_,rfl⟩|⟨b,cap,cur,e2,rfl,g⟩
       ·simp at h1;omega
       ·obtain ⟨fr',k1,k2⟩:=putNm_sound (dst:=dst) (v:=.pointer (some ⟨b,0+j.toNat * sz',none⟩)) (d:=.el u off sz' j.toNat 0) h rfl (fun t' e=>(⟨hsl.1,_,hsl.2,b,_,_,rfl,by rw [Nat.zero_add,Nat.add_zero]⟩:SlotRep S w a fr t' _ (.el u off sz' j.toNat 0))) hput
        exact fun K' Q hK=>r_indexAddr (ev_tmp' hv) hq.int_inv h0 h1 (hK fr' S w _ k1 (Trans.refl S w) k2)
      ·exact hs.elim
     ·exact hs.elim
    ·exact base hs
   ·exact base hs
  ·split at hs
   ·rename_i u hu
    split at hs
    ·split at hs
     ·rename_i sz rows hd
      split at hs
      ·rename_i e sz' by' zc ki j ht hy
       split at hs
       ·rename_i he
        obtain rfl:=Nat.eq_of_beq_eq_true he
        split at hs
        ·rename_i d
         split at hs
         ·rename_i hne
          have hne':u ≠ d:=fun e=>by subst e;simp at hne
          obtain ⟨⟨h0,h1⟩,hput⟩:=hs
          haveI:=(hT.ty _ _ ht).1
          haveI:=(hT.ty _ _ ht).2.1
          have hev:=root_eval h hu
          obtain ⟨v,hv,hsl⟩:=h.at hd
          obtain rfl:v=a.eval (.tmp t):=Option.some.inj (hv.symm.trans hev)
          obtain ⟨q,hq⟩:=h.eval y
          rw [hy] at hq
          rcases hsl.1.sl_inv with ⟨_,rfl⟩|⟨b,cap,cur,e2,he2,g⟩
          ·simp at h1;omega
          ·obtain ⟨fr',k1,k2⟩:=putNm_sound (dst:=some d) (v:=.pointer (some ⟨b,0+j.toNat * sz',none⟩)) (d:=.es u sz' j.toNat 0) h rfl (fun t' e=>by cases e;exact ⟨⟨_,hd,rfl,hne'⟩,_,hv,b,_,_,he2,by rw [Nat.zero_add,Nat.add_zero]⟩) hput
           exact fun K' Q hK=>r_indexAddr he2 hq.int_inv h0 h1 (hK fr' S w _ k1 (Trans.refl S w) k2)
         ·exact hs.elim
        ·exact hs.elim
       ·exact hs.elim
      ·exact hs.elim
     ·exact base hs
    ·exact base hs
   ·exact base hs
 ·split at hs
  ·rename_i x sz k j hd
   split at hs
   ·rename_i sz' rows hr
    split at hs
    ·rename_i he
     obtain rfl:=Nat.eq_of_beq_eq_true he
     obtain ⟨v,hv,hsl⟩:=h.at hd
     obtain ⟨s,m,q,h1,h2⟩:=rowsN_es h hsl hr
     exact loadR_sound hT h hv h1 h2 hs
    ·exact hs.elim
   ·exact hs.elim
  ·rename_i x c sz k j hd
   split at hs
   ·rename_i sz' rows hr
    split at hs
    ·rename_i he
     obtain rfl:=Nat.eq_of_beq_eq_true he
     obtain ⟨v,hv,hsl⟩:=h.at hd
     obtain ⟨s,m,q,h1,h2⟩:=rowsN_el h hsl hr
     exact loadR_sound hT h hv h1 h2 hs
    ·exact hs.elim
   ·exact hs.elim
  ·rename_i x off hd
   split at hs
   ·rename_i hc
    split at hs
    ·rename_i ht;exact loadC_sound hT h ht rfl (by simp only [objAt,hd]) hc hs
    ·rename_i ht;exact loadC_sound hT h ht rfl (by simp only [objAt,hd]) hc hs
    ·exact base hs
   ·exact base hs
  ·rename_i cs hd
   split at hs
   ·rename_i hc
    split at hs
    ·rename_i ht;exact loadC_sound hT h ht rfl (by simp only [objAt,hd]) hc hs
    ·rename_i ht;exact loadC_sound hT h ht rfl (by simp only [objAt,hd]) hc hs
    ·exact base hs
   ·exact base hs
  ·exact base hs
 ·rename_i ty0 u v
  split at hs
  ·split at hs
   ·rw [forceL_eq] at hs
    obtain ⟨S1,t1,h1⟩:=frz1_sound h v
    exact (storeNm_sound hT h1 hs).ghost t1
   ·exact hs.elim
  ·split at hs
   ·rw [forceL_eq] at hs
    obtain ⟨S1,t1,h1⟩:=frz1_sound h v
    exact (storeNm_sound hT h1 hs).ghost t1
   ·exact hs.elim
  ·split at hs
   ·split at hs
    ·have giveA_case:giveA T ty0 u v fr K (stepD P T Z M (Oper.mk none (.store ty0 (.tmp u) v) ty pos after guard) fr K)→StepOk P S w a (Oper.mk none (.store ty0 (.tmp u) v) ty pos after guard) K:=fun hs=>by
      unfold giveA at hs
      split at hs
      ·rename_i x
       split at hs
       ·rename_i cs hd
        split at hs
        ·split at hs
         ·rename_i ho
          split at hs
          ·rename_i hu
           split at hs
           ·rename_i ti ht
            split at hs
            ·rename_i hb
             simp only [Bool.and_eq_true] at hb
             simp only [forceL_eq,putObj,forceH_eq] at hs
             exact giveA_sound hT h ht hd ho hu (Nat.eq_of_beq_eq_true hb.1) (Nat.eq_of_beq_eq_true hb.2.1) hb.2.2 hs
            ·exact hs.elim
           ·exact hs.elim
          ·exact base hs
         ·exact base hs
        ·exact base hs
       ·exact base hs
      ·exact base hs
     unfold giveD at hs
     split at hs
     ·rename_i hx hr
      split at hs
      ·rename_i hd
       split at hs
       ·rename_i hsl
        split at hs
        ·rename_i ht
         split at hs
         ·rename_i hlt
          have hlt:=Nat.lt_of_succ_le (Nat.le_of_ble_eq_true hlt)
          simp only [forceL_eq,putObj,forceH_eq] at hs
          exact give_sound hT h ht hx hr hd hsl hlt hs
         ·exact hs.elim
        ·exact hs.elim
       ·exact giveA_case hs
      ·exact giveA_case hs
     ·exact giveA_case hs
    ·exact base hs
   ·exact base hs
  ·exact base hs
 ·split at hs
  ·split at hs
   ·rename_i c hcal s xs hargs
    rw [forceL_eq] at hs
    obtain ⟨S1,t1,h1⟩:=takeN_sound h s
    exact (stepD_sound hT h1 hs).ghost t1
   ·exact hs.elim
  ·rename_i c hcal
   split at hs
   ·rename_i hargs
    split at hs
    ·rename_i hx
     exact delN_sound hT h hcal hargs hx hs
    ·exact base hs
   ·exact base hs
  ·exact base hs
 ·split at hs
  ·split at hs
   ·split at hs
    ·rename_i hp
     exact buildN_sound hT h (ownPart_at hp) hs
    ·exact base hs
   ·exact base hs
  ·exact base hs
 ·unfold boxA at hs
  split at hs
  ·rename_i cs hd
   split at hs
   ·rename_i off hoff
    split at hs
    ·rename_i m sz rows t ho
     split at hs
     ·rename_i d3 h3
      split at hs
      ·rename_i hb
       simp only [Bool.and_eq_true] at hb
       simp only [forceL_eq,putObj,forceH_eq] at hs
       exact boxA_sound h hd ho h3 (fun e=>by have:=hb.1;rw [e,Nat.beq_refl] at this;cases this) (by simpa using hb.2.1) (fun e=>by have:=hb.2.2.1;rw [e,Nat.beq_refl] at this;cases this) hb.2.2.2 hs
      ·exact hs.elim
     ·exact hs.elim
    ·exact base hs
   ·exact base hs
  ·exact base hs
 ·exact base hs
end
section
variable {P:Program} {T:Nat→Option TI} {Z:Nat→Option (List Value)} {M:Nat→Bool}
theorem wanted_cond {S:Sig} {w:World} {a:Act} {fr:List D} {l:List Oper} {o:Oper} {j:Nat} {want c:Bool} (h:FR S w a fr) (hg:o.guard=some (j,want)) (hc:condOf l fr j want=some c):Region.wanted o (yielded l.toArray a.tmps)=c:=by
 unfold condOf at hc
 split at hc
 ·rename_i oj hj
  split at hc
  ·rename_i t ht
   have hy:∀ v,a.tmps[t]?=some v→((l.toArray[j]?).bind (·.dst)).bind (a.tmps[·]?)=some v:=fun v hv=>by
    simp only [List.getElem?_toArray,hj,Option.bind_some,ht,hv]
   split at hc
   ·rename_i b hd
    obtain ⟨v,hv,hs⟩:=h.at hd
    obtain rfl:=hs.1.bool_inv
    refine wanted_at hg (hy _ hv) ?_
    cases want<;>simp only [Option.some.injEq] at hc<;>subst hc<;>simp [boolOf]
   ·rename_i c0 b hd
    obtain ⟨v,hv,hs⟩:=h.at hd
    obtain ⟨k1,k0⟩:=hs.1.gd_inv
    refine wanted_at hg (hy _ hv) ?_
    cases c0 with
    |true=>
     obtain rfl:=(Rep.fz (S:=S) (p:=.dead) (k1 rfl)).bool_inv
     cases want<;>simp only [Option.some.injEq] at hc<;>subst hc<;>simp [boolOf]
    |false=>
     rw [k0 rfl]
     cases want<;>simp only [Option.some.injEq] at hc<;>subst hc<;>simp [boolOf,undef]
   ·cases hc
  ·cases hc
 ·cases hc
theorem gds_rep {S:Sig} {w:World} {a:Act} {fr:List D} (h:FR S w a fr):∀ (xs:List Operand),holds (gds (evalD fr) xs)→∀ x ∈ xs,∃ q,Rep S w q (a.eval x) (strip (evalD fr x))
 |[],_,x,hx=>by cases hx
 |y::xs,hg,x,hx=>by
  simp only [gds] at hg
  have key:holds (gds (evalD fr) xs)∧∃ q,Rep S w q (a.eval y) (strip (evalD fr y)):=by
   obtain ⟨q,hq⟩:=h.eval y
   split at hg
   ·rename_i c d hy
    rw [hy] at hq ⊢
    split at hg
    ·rename_i hn
     rw [hn]
     exact ⟨trivial,.dead,.fz (hq.gd_inv.1 hg)⟩
    ·rename_i p hp
     rw [hp]
     exact ⟨hg.2,.dead,.fz (hq.gd_inv.1 hg.1)⟩
   ·rename_i hn
    refine ⟨hg,q,?_⟩
    generalize evalD fr y=d at hq hn ⊢
    cases d with
    |gd c d=>exact absurd rfl (hn c d)
    |_=>exact hq
  rcases List.mem_cons.1 hx with rfl|hx
  ·exact key.2
  ·exact gds_rep h xs key.1 x hx
theorem refOk_gd {fr:List D} {c:Bool} {d:D}:RefOk fr (.gd c d):=fun t ht=>by cases ht
theorem loadG_sound (hT:TOk P T Z) {S:Sig} {w:World} {a:Act} {fr:List D} {ty0 u off:Nat} {x:Operand} {c:Bool} {dst:Option Nat} {ty:TypeId} {pos:String} {after:Array Edge} {guard:Option (Nat × Bool)} {K:List D→Prop} (h:FR S w a fr) (hev:c=true→a.eval x=.pointer (some ⟨S.loc (u+2),off,none⟩)) (hs:loadG T ty0 u off c dst fr K):
  (c=true→StepOk P S w a (Oper.mk dst (.load ty0 x) ty pos after guard) K)∧(c=false→∃ fr',K fr'∧FR S w (a.put dst undef) fr'):=by
 have skip:∀ {d:D},putD fr dst (.gd c d) K→c=false→∃ fr',K fr'∧FR S w (a.put dst undef) fr':=fun hp hc=>by
  subst hc
  exact putD_sound h (.fz (.gd (fun e=>by cases e) (fun _=>rfl))) refOk_gd hp
 unfold loadG at hs
 split at hs
 ·rename_i cs hd
  obtain ⟨cv,hcv⟩:=h.loadObj hd
  split at hs
  ·rename_i n fl ks ht
   haveI:=(hT.ty _ _ ht).1
   split at hs
   ·rename_i hb
    simp only [Bool.and_eq_true] at hb
    have hle:=Nat.le_of_ble_eq_true hb.1
    refine ⟨fun hc K' Q hK => ?_,fun hc=>skip hs hc⟩
    have hcell:∀ j,j < n→∃ d,((cs.drop off).take n)[j]?=some d∧w.cell? ⟨S.loc (u+2),off+j,none⟩=some (cv (off+j))∧(cv (off+j)).oneCell'=true∧Fz S.lim w (cv (off+j)) d:=fun j hj=>by
     have hjl:off+j < cs.length:=by omega
     have hg:((cs.drop off).take n)[j]?=some cs[off+j]:=by rw [List.getElem?_take,if_pos hj,List.getElem?_drop,List.getElem?_eq_getElem hjl]
     obtain ⟨h1,h2,h3⟩:=hcv _ _ (List.getElem?_eq_getElem hjl)
     exact ⟨_,hg,h1,h2,D.one_fz h3 (List.all_eq_true.1 hb.2 _ (gMem hg))⟩
    have hfz:Fz S.lim w (.agg ((List.range n).map fun j=>cv (off+j)).toArray) (.agg ((cs.drop off).take n)):=by
     refine .agg _ (by simp;omega) (fun v hv => ?_) fun j d v hj hv => ?_
     ·obtain ⟨j,hj,rfl⟩:=List.mem_map.1 hv
      obtain ⟨d,_,_,h2,_⟩:=hcell j (List.mem_range.1 hj)
      exact h2
     ·have hjn:j < n:=by have:=(gLt hv);simpa using this
      rw [List.getElem?_map,List.getElem?_range hjn] at hv
      cases hv
      obtain ⟨d',h1,_,_,h4⟩:=hcell j hjn
      rw [hj] at h1
      cases h1
      exact h4
    obtain ⟨fr',k1,k2⟩:=putD_sound (dst:=dst) h (.fz (.gd (fun _=>hfz) (fun e=>by rw [hc] at e;cases e))) refOk_gd hs
    refine r_loadN (cs:=(List.range n).map fun j=>cv (off+j)) (hev hc) (fun j v hv => ?_) (by simp) (hK fr' S w _ k1 (Trans.refl S w) k2)
    have hjn:j < n:=by have:=(gLt hv);simpa using this
    rw [List.getElem?_map,List.getElem?_range hjn] at hv
    cases hv
    obtain ⟨d',_,h2,_⟩:=hcell j hjn
    exact h2
   ·exact hs.elim
  ·rename_i i hi ht
   haveI:=(hT.ty _ _ ht).one (fun n fl ks e=>hi n fl ks e)
   split at hs
   ·rename_i sz0 rows0 hd'
    refine ⟨fun hc K' Q hK => ?_,fun hc=>skip hs hc⟩
    obtain ⟨y,hy,_,hrep,_⟩:=h.nameC hd hd'
    have hfz:Fz S.lim w y (.sl 0 sz0 rows0):=(Rep.le (.own sz0 rows0) hrep).passes rfl
    obtain ⟨fr',k1,k2⟩:=putD_sound (dst:=dst) h (.fz (.gd (fun _=>hfz) (fun e=>by rw [hc] at e;cases e))) refOk_gd hs
    exact r_load1 (hev hc) hy (hK fr' S w _ k1 (Trans.refl S w) k2)
   ·rename_i d _ hd'
    split at hs
    ·rename_i ho
     refine ⟨fun hc K' Q hK => ?_,fun hc=>skip hs hc⟩
     obtain ⟨h1,h2,h3⟩:=hcv _ _ hd'
     have hfz:=D.one_fz h3 ho
     obtain ⟨fr',k1,k2⟩:=putD_sound (dst:=dst) h (.fz (.gd (fun _=>hfz) (fun e=>by rw [hc] at e;cases e))) refOk_gd hs
     exact r_load1 (hev hc) h1 (hK fr' S w _ k1 (Trans.refl S w) k2)
    ·exact hs.elim
   ·exact hs.elim
  ·exact hs.elim
 ·exact hs.elim
theorem newG_frz {S:Sig} {w:World} {a:Act} {fr:List D} {t sz:Nat} {d0:D} {v:Value} {rows:List (List D)} (h:FR S w a fr) (hd:fr[t]?=some d0) (hn:d0.isObj=false) (hr:Rep S w (dstPlace (some t)) v (.sl 2 sz rows)):
  ∃ S',Trans S w S' w∧FR S' w a ((fr.map (unal t .any)).set t .any)∧Fz S'.lim w v (.sl 0 sz rows):=by
 rcases hr.sl_inv with ⟨rfl,rfl⟩|⟨b,cap,cur,e,rfl,g⟩
 ·exact ⟨S,Trans.refl S w,h.forget hd hn,.slNil 0 sz⟩
 ·have hb:BT S w (S.set b none) w b:=BT.ghost h.wf g.own (by simp [dstPlace,Place.slot]) (fun y hy=>by cases hy)
  have hf:Fz (S.set b none).lim w (.slice (some ⟨b,0,none⟩) rows.length cap) (.sl 0 sz rows):=g.fz2 (fun h=>h.trans hb.tr) rfl (fun k _ s hs=>by simp [Sig.lim,S.set_at] at hs)
  exact ⟨_,hb.tr,h.rebuild hb g.own rfl hd hn (fun v' p hv'=>.fz (.any _)) (fun t ht=>by cases ht) (fun v' hv'=>.fz (.any _)) (fun t ht=>by cases ht),hf⟩
theorem gstep_sound (hT:TOk P T Z) {S:Sig} {w:World} {a:Act} {fr:List D} {o:Oper} {c:Bool} {K:List D→Prop} (h:FR S w a fr) (hs:gstepD P T Z o c fr K):
  (c=true→StepOk P S w a o K)∧(c=false→∃ fr',K fr'∧FR S w (a.put o.dst undef) fr'):=by
 obtain ⟨dst,op,ty,pos,after,guard⟩:=o
 have skip:∀ {d:D},putD fr dst (.gd c d) K→c=false→∃ fr',K fr'∧FR S w (a.put dst undef) fr':=fun hp hc=>by
  subst hc
  exact putD_sound h (.fz (.gd (fun e=>by cases e) (fun _=>rfl))) refOk_gd hp
 have rest:∀ {xs:List Operand},xs=op.operands.toList→(opD P T Z (fun x=>strip (evalD fr x)) op fun s d=>andO (under c (gds (evalD fr) xs) s) (match d.passes with|true=>putD fr dst (.gd c d) K|false=>newG dst c d fr K))→
   (c=true→StepOk P S w a ⟨dst,op,ty,pos,after,guard⟩ K)∧(c=false→∃ fr',K fr'∧FR S w (a.put dst undef) fr'):=by
  intro xs hxs hs
  subst hxs
  obtain ⟨s,d,h1,h3⟩:=opD_sound (dst:=dst) (ty:=ty) (pos:=pos) (after:=after) (guard:=guard) hT hs
  obtain ⟨hu,h2⟩:=andO_iff.1 h1
  clear h1
  split at h2
  ·rename_i hp
   refine ⟨fun hc => ?_,fun hc=>skip h2 hc⟩
   obtain ⟨hg,hs'⟩:=under_holds hu hc
   intro K' Q hK
   refine h3 hs' S w a (dstPlace dst) h.wf (fun x hx=>gds_rep h _ hg x hx) K' Q fun v S' w' hpt hr hm => ?_
   obtain ⟨fr',k1,k2⟩:=putD_sound (v:=v) (h.drop hpt) (.fz (.gd (fun _=>hr.passes hp) (fun e=>by rw [hc] at e;cases e))) refOk_gd h2
   exact hK fr' S' w' _ k1 hpt.trans k2
  ·unfold newG at h2
   split at h2
   ·rename_i sz rows t _ _
    split at h2
    ·rename_i d0 hd0
     split at h2
     ·rename_i hob
      rw [forceL_eq] at h2
      refine ⟨fun hc => ?_,fun hc => ?_⟩
      ·obtain ⟨hg,hs'⟩:=under_holds hu hc
       intro K' Q hK
       refine h3 hs' S w a (dstPlace (some t)) h.wf (fun x hx=>gds_rep h _ hg x hx) K' Q fun v S' w' hpt hr hm => ?_
       obtain ⟨S2,t2,f2,z2⟩:=newG_frz (h.drop hpt) hd0 hob hr
       obtain ⟨fr',k1,k2⟩:=putD_sound (dst:=some t) (v:=v) f2 (.fz (.gd (fun _=>z2) (fun e=>by rw [hc] at e;cases e))) refOk_gd h2
       exact hK fr' S2 w' _ k1 (hpt.trans.trans t2) k2
      ·subst hc
       exact putD_sound (dst:=some t) (h.forget hd0 hob) (.fz (.gd (fun e=>by cases e) (fun _=>rfl))) refOk_gd h2
     ·exact h2.elim
    ·exact h2.elim
   ·exact h2.elim
 have tmp_ev:∀ {t:Nat} {v:Value},a.tmps[t]?=some v→a.eval (.tmp t)=v:=fun hv=>by simp [Act.eval,Array.getD_eq_getD_getElem?,hv]
 unfold gstepD at hs
 simp only at hs
 split at hs
 ·rename_i cc x y
  obtain ⟨s,r,hp,h12⟩:=pickD_inv hs
  obtain ⟨h1,h2⟩:=andO_iff.1 h12
  refine ⟨fun hc => ?_,fun hc=>skip h2 hc⟩
  obtain ⟨hg,hs'⟩:=under_holds h1 hc
  obtain ⟨p,h3,h4⟩:=pickR_sound (gds_rep h [cc] hg cc (by simp)) (h.eval _) (h.eval _) hp hs'
  intro K' Q hK
  refine pick_run h3 ?_
  rw [h4]
  obtain ⟨fr',k1,k2⟩:=putD_sound (v:=.bool r) h (.fz (.gd (fun _=>.bool r) (fun e=>by rw [hc] at e;cases e))) refOk_gd h2
  exact hK fr' S w _ k1 (Trans.refl S w) k2
 ·rename_i ty0 u i
  split at hs
  ·rename_i ds hd
   split at hs
   ·rename_i ht
    split at hs
    ·rename_i off n ag hfl
     haveI:=(hT.ty _ _ ht).2.1 _ _ _ _ hfl
     obtain ⟨r1,r2,_⟩:=ref_rep h hd off
     obtain ⟨_,_,r3⟩:=ref_rep h hd 0
     have hown:S.own (S.loc (u+2))=some (.slot u,0):=by
      obtain ⟨v0,hv0,hs0⟩:=h.at hd
      obtain ⟨b,cur,e,_,hb,hloc,_⟩:=hs0.1.obj_inv
      rw [hloc]
      exact hb
     have hro:RefOk fr (.gref c u off):=fun t ht=>by cases ht;exact ⟨ds,hd⟩
     refine ⟨fun hc K' Q hK => ?_,fun hc => ?_⟩
     ·obtain ⟨fr',k1,k2⟩:=putD_sound (dst:=dst) (v:=.pointer (some ⟨S.loc (u+2),off,none⟩)) h (.gref hown (by rw [if_pos hc])) hro hs
      refine r_fieldAddr (tmp_ev r3) (by rw [Nat.zero_add];exact hK fr' S w _ k1 (Trans.refl S w) k2)
     ·exact putD_sound h (.gref hown (by rw [if_neg (by rw [hc];decide)])) hro hs
    ·exact hs.elim
   ·exact hs.elim
  ·exact rest rfl hs
 ·rename_i ty0 x
  split at hs
  ·rename_i c' u off hd
   obtain ⟨hcc,hs⟩:=hs
   obtain ⟨v,hv,hsl⟩:=h.at hd
   refine loadG_sound hT h (fun hc => ?_) hs
   rw [tmp_ev hv]
   cases hsl.1 with
   |fz h=>cases h
   |gref g hv=>rw [hv,if_pos (hcc hc)]
  ·rename_i ds hd
   obtain ⟨_,_,r3⟩:=ref_rep h hd 0
   exact loadG_sound hT h (fun _=>tmp_ev r3) hs
  ·exact rest rfl hs
 ·exact rest rfl hs
theorem prepG_sound {S:Sig} {w:World} {a:Act} {fr:List D} (h:FR S w a fr) (o:Oper):∃ S',Trans S w S' w∧FR S' w a (prepG o fr):=by
 have key:∀ u off,∃ S',Trans S w S' w∧FR S' w a (downC1 u off fr):=fun u off=>by
  unfold downC1
  split
  ·rename_i hd
   split
   ·rename_i hc;exact h.downC hd hc
   ·exact ⟨S,Trans.refl S w,h⟩
  ·exact ⟨S,Trans.refl S w,h⟩
 unfold prepG
 split
 ·split
  ·exact key _ _
  ·exact key _ _
  ·exact ⟨S,Trans.refl S w,h⟩
 ·exact ⟨S,Trans.refl S w,h⟩
theorem vcOps_sound (hT:TOk P T Z) {l:List Oper} {Q:Exit→Act→World→Prop} {K:List D→Prop}:∀ (r:List Oper) {S:Sig} {w:World} {a:Act} {fr:List D},FR S w a fr→vcOps P T Z M l r fr K→
  (∀ fr' S' w' a',K fr'→Trans S w S' w'→FR S' w' a' fr'→Q .normal a' w')→wpList P l.toArray Q r a w
 |[],S,w,a,fr,h,hs,hK=>wpList_nil (hK fr S w a hs (Trans.refl S w) h)
 |[o],S,w,a,fr,h,hs,hK=>by
  simp only [vcOps] at hs
  split at hs
  ·rename_i hg
   refine wpList_plain hg fun K' hK'=>stepN_sound hT h hs K' Q fun fr' S' w' a' k t f=>hK' _ _ (wpList_nil (hK fr' S' w' a' k t f))
  ·rename_i j want hg
   split at hs
   ·rename_i c hc
    have hw:=wanted_cond h hg hc
    split at hs
    ·unfold wpList
     rw [hw]
     cases c with
     |true=>
      rw [if_pos rfl]
      exact .inl (stepN_sound hT h (hs.t rfl) _ Q fun fr' S' w' a' k t f=>wpList_nil (hK fr' S' w' a' k t f))
     |false=>
      rw [if_neg (by simp)]
      obtain ⟨fr',k,f⟩:=putD_sound h (.fz (.gd (fun e=>by cases e) (fun _=>rfl))) refOk_gd (hs.f rfl)
      exact wpList_nil (hK fr' S w _ k (Trans.refl S w) f)
    ·rw [forceL_eq] at hs
     obtain ⟨S1,t1,h1⟩:=prepG_sound h o
     obtain ⟨g1,g0⟩:=gstep_sound hT h1 hs
     unfold wpList
     rw [hw]
     cases c with
     |true=>
      rw [if_pos rfl]
      exact .inl (g1 rfl _ Q fun fr' S' w' a' k t f=>wpList_nil (hK fr' S' w' a' k (t1.trans t) f))
     |false=>
      rw [if_neg (by simp)]
      obtain ⟨fr',k,f⟩:=g0 rfl
      exact wpList_nil (hK fr' S1 w _ k t1 f)
   ·exact hs.elim
 |o::o2::r,S,w,a,fr,h,hs,hK=>by
  simp only [vcOps] at hs
  split at hs
  ·rename_i hg
   split at hs
   ·rename_i ty hfa
    have hop:o.op=.alloc ty:=by
     unfold isFrzAlloc at hfa
     split at hfa
     ·rename_i ty' hop
      split at hfa
      ·split at hfa
       ·cases hfa
       ·cases hfa;exact hop
      ·cases hfa
     ·cases hfa
    exact pairD_sound hT h hop hs hg fun fr' S' w' a' k t f=>vcOps_sound hT r f k fun fr'' S'' w'' a'' k2 t2 f2=>hK fr'' S'' w'' a'' k2 (t.trans t2) f2
   ·split at hs
    ·exact boxB_sound hT h hs hg fun fr' S' w' a' k t f=>vcOps_sound hT r f k fun fr'' S'' w'' a'' k2 t2 f2=>hK fr'' S'' w'' a'' k2 (t.trans t2) f2
    refine wpList_plain hg fun K' hK'=>stepN_sound hT h hs K' Q fun fr' S' w' a' k t f=>hK' _ _ ?_
    exact vcOps_sound hT (o2::r) f k fun fr'' S'' w'' a'' k2 t2 f2=>hK fr'' S'' w'' a'' k2 (t.trans t2) f2
  ·rename_i j want hg
   split at hs
   ·rename_i c hc
    have hw:=wanted_cond h hg hc
    split at hs
    ·unfold wpList
     rw [hw]
     cases c with
     |true=>
      rw [if_pos rfl]
      exact .inl (stepN_sound hT h (hs.t rfl) _ Q fun fr' S' w' a' k t f=>vcOps_sound hT (o2::r) f k fun fr'' S'' w'' a'' k2 t2 f2=>hK fr'' S'' w'' a'' k2 (t.trans t2) f2)
     |false=>
      rw [if_neg (by simp)]
      obtain ⟨fr',k,f⟩:=putD_sound h (.fz (.gd (fun e=>by cases e) (fun _=>rfl))) refOk_gd (hs.f rfl)
      exact vcOps_sound hT (o2::r) f k fun fr'' S'' w'' a'' k2 t2 f2=>hK fr'' S'' w'' a'' k2 t2 f2
    ·rw [forceL_eq] at hs
     obtain ⟨S1,t1,h1⟩:=prepG_sound h o
     obtain ⟨g1,g0⟩:=gstep_sound hT h1 hs
     unfold wpList
     rw [hw]
     cases c with
     |true=>
      rw [if_pos rfl]
      exact .inl (g1 rfl _ Q fun fr' S' w' a' k t f=>vcOps_sound hT (o2::r) f k fun fr'' S'' w'' a'' k2 t2 f2=>hK fr'' S'' w'' a'' k2 ((t1.trans t).trans t2) f2)
     |false=>
      rw [if_neg (by simp)]
      obtain ⟨fr',k,f⟩:=g0 rfl
      exact vcOps_sound hT (o2::r) f k fun fr'' S'' w'' a'' k2 t2 f2=>hK fr'' S'' w'' a'' k2 (t1.trans t2) f2
   ·exact hs.elim
end
def frz1d:D→D
 |.sl _ sz rows=>.sl 0 sz rows
 |.mp _ _=>.any
 |d=>d
def D.frz:D→D
 |.sl _ sz rows=>.sl 0 sz rows
 |.mp _ _=>.any
 |.agg cs=>.agg (cs.map frz1d)
 | .tup ds=>.tup (ds.map fun d=>match d with
  |.agg cs=>.agg (cs.map frz1d)
  | d=>frz1d d)
 |d=>d
def frzQ (d:D):D:=match d.passes with
 |true=>d
 |false=>d.frz
def okQ (d:D):Bool:=match d.passes with
 |true=>true
 |false=>match d with
  |.tup ds=>ds.all fun d=>match d with
   |.agg cs=>cs.all D.calm1
   |d=>d.calm1
  |.agg cs=>cs.all D.calm1
  |.sl _ _ _=>true
  |_=>false
def evalQ (fr0 fr:List D):Operand→D
 |.tmp t=>match fr[t]? with
  |some (.al u)=>(fr0[u]?).getD .any
  |some (.obj cs)=>match fr0[t]? with
   |some (.obj _)=>.obj cs
   |_=>.any
  |some (.alc _ _)=>.any
  |some (.el _ _ _ _ _)=>.any
  |some (.nsl _ _ _)=>.any
  |some (.nagg _ _ _ _ _)=>.any
  |some d=>d
  |none=>.any
 |x=>evalD [] x
def usedB (all:List Oper) (t:Nat):Bool:=all.any fun o=>match o.op with
 |.build _ parts=>parts.toList.any fun x=>match x.2 with
  |.tmp y=>Nat.beq y t
  |_=>false
 |_=>false
def nslPart (fr:List D):List (Nat × Operand)→Option (Nat × Nat × Nat × List D)
 |[]=>none
 |(_,.tmp s)::r=>match fr[s]? with
  |some (.nsl sz n z)=>some (s,sz,n,z)
  |_=>nslPart fr r
 |_::r=>nslPart fr r
def partQ (fr0 fr:List D) (s:Nat):Operand→Option (List D)
 |.tmp y=>match Nat.beq y s with
  |true=>some [.al s]
  |false=>(evalQ fr0 fr (.tmp y)).cellsOf
 |x=>(evalQ fr0 fr x).cellsOf
def opG (P:Program) (T:Nat→Option TI) (Z:Nat→Option (List Value)) (fr0 fr:List D) (c:Bool) (op:Op) (K:D→Prop):Prop:=
 opD P T Z (fun x=>strip (evalQ fr0 fr x)) op fun s d=>andO (under c (gds (evalQ fr0 fr) op.operands.toList) s) (match d.passes with
  |true=>force (.gd c d) K
  | false=>False)
def stepQ (P:Program) (T:Nat→Option TI) (Z:Nat→Option (List Value)) (all:List Oper) (cs:Nat) (fr0 fr:List D) (o:Oper) (K:D→Prop):Prop:=
 match o.guard with
 |none=>match o.op with
  |.move (.tmp u)=>match Nat.beq u cs with
   |true=>match fr0[u]? with
    |some _=>K (.al u)
    |none=>False
   |false=>match fr[u]? with
    |some (.sl (_+1) _ _)=>match fr0[u]? with
     |some (.sl (_+1) _ _)=>K (.al u)
     |_=>False
    |some (.al u')=>match Nat.beq u' cs with
     |true=>match fr0[u']? with
      |some _=>K (.al u')
      |none=>False
     |false=>match fr0[u']? with
      |some (.sl (_+1) _ _)=>K (.al u')
      |_=>False
    |some (.obj _)=>match fr0[u]? with
     |some (.obj _)=>K (.ref u 0)
     |_=>False
    |some (.ref x off)=>match fr0[x]? with
     |some (.obj _)=>K (.ref x off)
     |_=>False
    | _=>opD P T Z (evalQ fr0 fr) o.op fun s d=>andO s (match okQ d with
     |true=>force (frzQ d) K
     | false=>False)
  |.pick c x y=>pickD (evalQ fr0 fr c) x y (evalQ fr0 fr) fun s d=>andO s (force d K)
  |.alloc ty=>match Z ty with
   |some zc=>match zc.all Value.oneCell' with
    |true=>force (.obj (zeroD zc)) K
    |false=>False
   |none=>False
  |.fieldAddr ty (.tmp u) i=>match fr0[u]? with
   |some (.obj _)=>match T ty with
    |some (.st _ fl _)=>match fl[i]? with
     |some (off,_+1,_)=>K (.ref u off)
     |_=>False
    |_=>False
   |_=>match fr[u]? with
    |some (.ref x off0)=>match fr0[x]? with
     |some (.obj _)=>match T ty with
      |some (.st _ fl _)=>match fl[i]? with
       |some (off,_+1,_)=>K (.ref x (off0+off))
       |_=>False
      |_=>False
     |_=>False
    |some (.el x c0 sz k j)=>match T ty with
     |some (.st _ fl _)=>match fl[i]? with
      |some (off,_+1,_)=>match fr0[x]? with
       |some (.obj _)=>K (.el x c0 sz k (j+off))
       |_=>False
      |_=>False
     |_=>False
    | _=>opD P T Z (evalQ fr0 fr) o.op fun s d=>andO s (match okQ d with
    |true=>force (frzQ d) K
    | false=>False)
  |.nilCheck (.tmp u)=>match fr[u]? with
   |some (.ref x off)=>match fr0[x]? with
    |some (.obj _)=>K (.ref x off)
    |_=>False
   | _=>opD P T Z (evalQ fr0 fr) o.op fun s d=>andO s (match okQ d with
    |true=>force (frzQ d) K
    | false=>False)
  |.load ty (.tmp u)=>match fr[u]? with
   |some (.ref x off)=>match fr0[x]? with
    |some (.obj ds)=>match ds[off]? with
     |some (.sl 2 _ _)=>match T ty with
      |some (.sl _ _ _ _)=>K (.alc x off)
      |_=>False
     |some (.sl 1 sz rows)=>match T ty with
      |some (.sl _ _ _ _)=>force (.sl 0 sz rows) K
      |_=>False
     |some d=>match d.one with
      |true=>match T ty with
       |some (.st _ _ _)=>False
       |some _=>force d K
       |none=>False
      |false=>False
     |none=>False
    |_=>False
   |some (.el x c sz k j)=>match fr0[x]? with
    |some (.obj ds)=>match ds[c]? with
     |some (.sl 2 sz' rows)=>match Nat.beq sz' sz with
      |true=>match T ty with
       |some (.st _ _ _)=>False
       | some _=>IdxE fun r=>SideD (0≤Int.ofNat k∧rows[(Int.ofNat k).toNat]?=some r) (match r[j]? with
        |some d=>match d.one with
         |true=>force d K
         |false=>False
        | none=>False)
       |none=>False
      |false=>False
     |_=>False
    |_=>False
   | _=>opD P T Z (evalQ fr0 fr) o.op fun s d=>andO s (match okQ d with
    |true=>force (frzQ d) K
    | false=>False)
  |.indexAddr ty (.tmp t) y=>match fr[t]? with
   |some (.alc x off)=>match fr0[x]? with
    |some (.obj ds)=>match ds[off]? with
     |some (.sl 2 sz rows)=>match T ty,evalQ fr0 fr y with
      |some (.sl _ sz' _ _),.int _ j=>match Nat.beq sz' sz with
       |true=>SideD (0≤j∧j < rows.length) (K (.el x off sz j.toNat 0))
       |false=>False
      |_,_=>False
     |_=>False
    |_=>False
   | _=>opD P T Z (evalQ fr0 fr) o.op fun s d=>andO s (match okQ d with
    |true=>force (frzQ d) K
    | false=>False)
  |.makeSlice t l c=>match o.dst with
   |some t0=>match usedB all t0 with
    |true=>match T t,evalQ fr0 fr l,evalQ fr0 fr c with
     |some (.sl _ sz by' zc),.int .i64 q,.int .i64 q2=>match Nat.ble by' 1000 && (zc.all Value.oneCell' && (zeroD zc).all D.flat1) with
      |true=>SideD (1≤q∧q≤q2∧q2≤1000000) (K (.nsl sz q.toNat (zeroD zc)))
      |false=>False
     |_,_,_=>False
    | false=>opD P T Z (evalQ fr0 fr) o.op fun s d=>andO s (match okQ d with
    |true=>force (frzQ d) K
    | false=>False)
   | none=>opD P T Z (evalQ fr0 fr) o.op fun s d=>andO s (match okQ d with
    |true=>force (frzQ d) K
    | false=>False)
  |.build ty parts=>match nslPart fr parts.toList with
   |some (s,sz,n,z)=>match T ty,Z ty with
    |some (.st _ fl _),some zc=>match zc.all Value.oneCell' with
     |true=>match fillR (fl.map fun x=>(x.1,x.2.1)) (zeroD zc) (parts.toList.map fun x=>(x.1,partQ fr0 fr s x.2)) with
      |some cs=>match alAt cs with
       |some off=>match (cs.set off .nil).all D.one with
        |true=>forceH (cs.set off .nil) fun cs=>K (.nagg cs off sz n z)
        |false=>False
       |none=>False
      |none=>False
     |false=>False
    |_,_=>False
   | none=>opD P T Z (evalQ fr0 fr) o.op fun s d=>andO s (match okQ d with
    |true=>force (frzQ d) K
    | false=>False)
  | _=>opD P T Z (evalQ fr0 fr) o.op fun s d=>andO s (match okQ d with
   |true=>force (frzQ d) K
   | false=>False)
 |some (j,want)=>match condOf all fr j want with
  |some c=>match o.op with
   |.pick cc x y=>pickD (strip (evalQ fr0 fr cc)) x y (evalQ fr0 fr) fun s d=>andO (under c (gds (evalQ fr0 fr) [cc]) s) (K (.gd c d))
   |.move (.tmp u)=>match fr0[u]? with
    |some (.obj _)=>K (.gref c u 0)
    |_=>opG P T Z fr0 fr c o.op K
   |.nilCheck (.tmp u)=>match fr[u]? with
    |some (.gref c' x off)=>match fr0[x]? with
     |some (.obj _)=>SideD (c=true→c'=true) (K (.gref c x off))
     |_=>False
    |_=>opG P T Z fr0 fr c o.op K
   |.fieldAddr ty (.tmp u) i=>match fr[u]? with
    |some (.gref c' x off0)=>match fr0[x]? with
     |some (.obj _)=>match T ty with
      |some (.st _ fl _)=>match fl[i]? with
       |some (off,_+1,_)=>SideD (c=true→c'=true) (K (.gref c x (off0+off)))
       |_=>False
      |_=>False
     |_=>False
    |_=>opG P T Z fr0 fr c o.op K
   |.load ty (.tmp u)=>match fr[u]? with
    |some (.gref c' x off)=>match fr0[x]? with
     |some (.obj ds)=>match ds[off]? with
      |some (.sl 1 sz rows)=>match T ty with
       |some (.sl _ _ _ _)=>SideD (c=true→c'=true) (force (.gd c (.sl 0 sz rows)) K)
       |_=>False
      |some d=>match d.one with
       |true=>match T ty with
        |some (.st _ _ _)=>False
        |some _=>SideD (c=true→c'=true) (force (.gd c d) K)
        |none=>False
       |false=>False
      |none=>False
     |_=>False
    |_=>opG P T Z fr0 fr c o.op K
   |_=>opG P T Z fr0 fr c o.op K
  |none=>False
def writeQ (P:Program) (cs:Nat) (d0:D) (fr0 fr:List D) (o:Oper) (K:D→Prop):Prop:=
 match o.guard with
 |some _=>False
 |none=>match o.op with
  |.call c=>match c.callee with
   |.value (.func f)=>match c.args.toList with
    |.tmp t::xs=>match Nat.beq t cs || (match fr[t]? with|some (.al u)=>Nat.beq u cs|_=>false) with
     |true=>match d0 with
      | .sl (m+1) sz rows=>CallO fun d out=>SideD (GivesO P f (.sl (m+1) sz rows) (xs.map (evalQ fr0 fr)) d out) (match okQ d with
       |true=>force (frzQ d) K
       | false=>False)
      |_=>False
     |false=>False
    |_=>False
   |_=>False
  |_=>False
def vcQ (P:Program) (T:Nat→Option TI) (Z:Nat→Option (List Value)) (all:List Oper) (k cs:Nat) (d0:D) (fr0:List D):Nat→List Oper→List D→(List D→Prop)→Prop
 |_,[],fr,K=>K fr
 |i,o::r,fr,K=>
  let K':=fun d=>match o.dst with
   |none=>vcQ P T Z all k cs d0 fr0 (i+1) r fr K
   |some t=>match fr[t]? with
    |some d1=>match d1.owns || Nat.beq t cs with
     |false=>forceL (fr.set t d) fun fr=>vcQ P T Z all k cs d0 fr0 (i+1) r fr K
     |true=>False
    |none=>False
  match Nat.beq i k with
  |false=>stepQ P T Z all cs fr0 fr o K'
  |true=>writeQ P cs d0 fr0 fr o K'
section
variable {P:Program} {T:Nat→Option TI} {Z:Nat→Option (List Value)}
theorem fresh_place (S:Sig) (w:World) (hw:WF S w):∃ p:Place,p.r ≠ 0∧p.path ≠ []∧∀ b x,S.own b=some x→¬ x.1.under p:=by
 have key:∀ n,∃ N,∀ b x,b < n→S.own b=some x→∀ y ∈ x.1.path,y < N:=by
  intro n
  induction n with
  |zero=>exact ⟨0,fun b x hb=>by omega⟩
  |succ n ih=>
   obtain ⟨N,hN⟩:=ih
   have hl:∀ l:List Nat,∃ M,∀ y ∈ l,y < M:=by
    intro l
    induction l with
    |nil=>exact ⟨0,fun y hy=>by cases hy⟩
    |cons x l ih=>
     obtain ⟨M,hM⟩:=ih
     exact ⟨max M (x+1),fun y hy=>by
      rcases List.mem_cons.1 hy with rfl|hy
      ·omega
      ·have:=hM y hy;omega⟩
   cases ho:S.own n with
   | none=>exact ⟨N,fun b x hb hx=>by
     by_cases hbn:b=n
     ·subst hbn;rw [ho] at hx;cases hx
     ·exact hN b x (by omega) hx⟩
   |some z=>
    obtain ⟨M,hM⟩:=hl z.1.path
    exact ⟨max N M,fun b x hb hx y hy=>by
     by_cases hbn:b=n
     ·subst hbn;rw [ho] at hx;cases hx;have:=hM y hy;omega
     ·have:=hN b x (by omega) hx y hy;omega⟩
 obtain ⟨N,hN⟩:=key w.heap.size
 refine ⟨⟨2,[N]⟩,by simp,by simp,fun b x hx hu => ?_⟩
 obtain ⟨_,l,hl⟩:=hu
 have:=hN b x (hw b x hx) hx N (by rw [hl];simp)
 omega
theorem Fz.frz1 {lim:Nat→Option Nat} {w:World} {v:Value} {d:D} (h:Fz lim w v d):Fz lim w v (frz1d d):=by
 cases d with
 |sl m sz rows=>
  cases h with
  |slNil=>exact .slNil 0 sz
  |slE=>exact .slE _ sz
  |sl cv a1 a2 a3 a4 a5=>exact .sl cv a1 a2 a3 a4 a5
 |mp es=>exact .any _
 |_=>exact h
theorem unown {S S':Sig} {w w':World} (hw:WF S w) (hp:PT S w S' w') {p:Place} (hf:∀ b x,S.own b=some x→¬ x.1.under p) {v:Value} {d:D} (hr:Rep S' w' p v d) (ho:okQ d=true):Fz S.lim w' v (frzQ d):=by
 have hlim:∀ {v:Value} {d:D},Fz S'.lim w' v d→Fz S.lim w' v d:=fun h=>h.monoL fun b s hs=>by
  by_cases hb:b < w.heap.size
  ·simp only [Sig.lim,hp.own b hb]
   exact hs
  ·exfalso
   simp only [Sig.lim] at hs
   cases hx:S.own b with
   |none=>rw [hx] at hs;cases hs
   |some x=>exact hb (hw b x hx)
 have one:∀ {q:Place} {v:Value} {d:D},q.under p→Rep S' w' q v d→d.calm1=true→Fz S.lim w' v (frz1d d):=by
  intro q v d hq hr hc
  cases hr with
  |fz h=>exact hlim h.frz1
  |@own _ b cap m sz rows cur e g=>
   have hb:¬ b < w.heap.size:=fun hb=>hf b _ ((hp.own b hb).symm.trans g.own) hq
   have hnone:S.own b=none:=by
    cases hx:S.own b with
    |none=>rfl
    |some x=>exact absurd (hw b x hx) hb
   exact g.fz2 hlim rfl fun k _ s hs=>by simp [Sig.lim,hnone] at hs
  |mp=>exact .any _
  |obj=>cases hc
  |ref=>cases hc
  |gref=>cases hc
  |fn=>cases hc
  |agg=>cases hc
  |tup=>cases hc
 have agg:∀ {q:Place} {v:Value} {cs:List D},q.under p→Rep S' w' q v (.agg cs)→cs.all D.calm1=true→Fz S.lim w' v (.agg (cs.map frz1d)):=by
  intro q v cs hq hr hc
  obtain ⟨vs,rfl,h1,h2,h3⟩:=hr.agg_inv
  refine .agg vs (by simp [h1]) h2 fun j d u hd hu => ?_
  rw [List.getElem?_map] at hd
  cases hcj:cs[j]? with
  |none=>rw [hcj] at hd;cases hd
  |some e=>
   rw [hcj] at hd
   cases hd
   exact one (Place.under_trans (Place.at_under _ j) hq) (h3 j e u hcj hu) (List.all_eq_true.1 hc e (gMem hcj))
 unfold frzQ
 split
 ·rename_i hpass
  exact hlim (hr.passes hpass)
 ·rename_i hpass
  unfold okQ at ho
  rw [hpass] at ho
  simp only at ho
  split at ho
  ·rename_i ds
   obtain ⟨vs,rfl,h1,h3⟩:=hr.tup_inv
   refine .tup vs (by simp [h1]) fun j d u hd hu => ?_
   rw [List.getElem?_map] at hd
   cases hcj:ds[j]? with
   |none=>rw [hcj] at hd;cases hd
   |some e=>
    rw [hcj] at hd
    cases hd
    have hc1:=List.all_eq_true.1 ho e (gMem hcj)
    have h4:=h3 j e u hcj hu
    have hu':=Place.at_under p j
    cases e with
    |agg cs=>exact agg hu' h4 hc1
    |_=>exact one hu' h4 hc1
  ·exact agg (Place.under_refl p) hr ho
  ·exact one (Place.under_refl p) hr rfl
  ·cases ho
def Sig.drop (S:Sig) (u:Nat):Sig:=⟨fun b=>match mine u (S.own b) with
 |true=>none
 | false=>S.own b,S.loc⟩
theorem drop_own {S:Sig} {u b:Nat} (h:mine u (S.own b)=false):(S.drop u).own b=S.own b:=by
 simp only [Sig.drop,h]
theorem drop_some {S:Sig} {u b:Nat} {x:Place × Nat} (h:(S.drop u).own b=some x):S.own b=some x∧mine u (S.own b)=false:=by
 simp only [Sig.drop] at h
 split at h
 ·cases h
 ·exact ⟨h,by assumption⟩
theorem drop_lim {S:Sig} {u:Nat} {w:World} {v:Value} {d:D} (h:Fz S.lim w v d):Fz (S.drop u).lim w v d:=h.monoL fun b s hs=>by
 simp only [Sig.lim] at hs
 cases hx:(S.drop u).own b with
 |none=>rw [hx] at hs;cases hs
 |some x=>
  rw [hx] at hs
  simp only [Sig.lim]
  rw [(drop_some hx).1]
  exact hs
theorem drop_wf {S:Sig} {u:Nat} {w:World} (h:WF S w):WF (S.drop u) w:=⟨fun b x hx=>h b x (drop_some hx).1,h.gl.sig fun b hb=>by
 cases hx:(S.drop u).own b with
 |none=>rfl
 | some x=>rw [(drop_some hx).1] at hb;cases hb⟩
theorem unhand {S S':Sig} {w w':World} {u:Nat} (hw:WF S w) (ht:Trans (S.hand u) w S' w') {v:Value} {d:D} (hr:Rep S' w' .res v d) (ho:okQ d=true):Fz (S.drop u).lim w' v (frzQ d):=by
 have hold:∀ b x,(S.drop u).own b=some x→S'.own b=some (.dead,x.2):=fun b x hx=>by
  obtain ⟨h1,h2⟩:=drop_some hx
  have:=(hand_old ht (hw b x h1) h2).2
  rw [this,h1]
  rfl
 have hlim:∀ {v:Value} {d:D},Fz S'.lim w' v d→Fz (S.drop u).lim w' v d:=fun h=>h.monoL fun b s hs=>by
  simp only [Sig.lim] at hs
  cases hx:(S.drop u).own b with
  |none=>rw [hx] at hs;cases hs
  |some x=>
   rw [hx] at hs
   simp only [Sig.lim]
   rw [hold b x hx]
   exact hs
 have one:∀ {q:Place} {v:Value} {d:D},q.r=1→Rep S' w' q v d→d.calm1=true→Fz (S.drop u).lim w' v (frz1d d):=by
  intro q v d hq hr hc
  cases hr with
  |fz h=>exact hlim h.frz1
  |@own _ b cap m sz rows cur e g=>
   have hnone:(S.drop u).own b=none:=by
    cases hx:(S.drop u).own b with
    |none=>rfl
    |some x=>
     have h1:=hold b x hx
     rw [g.own] at h1
     have h2:=congrArg Prod.fst (Option.some.inj h1)
     simp only at h2
     rw [h2] at hq
     cases hq
   exact g.fz2 hlim rfl fun k _ s hs=>by simp [Sig.lim,hnone] at hs
  |mp=>exact .any _
  |obj=>cases hc
  |ref=>cases hc
  |gref=>cases hc
  |fn=>cases hc
  |agg=>cases hc
  |tup=>cases hc
 have agg:∀ {q:Place} {v:Value} {cs:List D},q.r=1→Rep S' w' q v (.agg cs)→cs.all D.calm1=true→Fz (S.drop u).lim w' v (.agg (cs.map frz1d)):=by
  intro q v cs hq hr hc
  obtain ⟨vs,rfl,h1,h2,h3⟩:=hr.agg_inv
  refine .agg vs (by simp [h1]) h2 fun j d u hd hu => ?_
  rw [List.getElem?_map] at hd
  cases hcj:cs[j]? with
  |none=>rw [hcj] at hd;cases hd
  |some e=>
   rw [hcj] at hd
   cases hd
   exact one (q:=q.at j) hq (h3 j e u hcj hu) (List.all_eq_true.1 hc e (gMem hcj))
 unfold frzQ
 split
 ·rename_i hpass
  exact hlim (hr.passes hpass)
 ·rename_i hpass
  unfold okQ at ho
  rw [hpass] at ho
  simp only at ho
  split at ho
  ·rename_i ds
   obtain ⟨vs,rfl,h1,h3⟩:=hr.tup_inv
   refine .tup vs (by simp [h1]) fun j d u hd hu => ?_
   rw [List.getElem?_map] at hd
   cases hcj:ds[j]? with
   |none=>rw [hcj] at hd;cases hd
   |some e=>
    rw [hcj] at hd
    cases hd
    have hc1:=List.all_eq_true.1 ho e (gMem hcj)
    have h4:=h3 j e u hcj hu
    cases e with
    |agg cs=>exact agg (q:=Place.res.at j) rfl h4 hc1
    |_=>exact one (q:=Place.res.at j) rfl h4 hc1
  ·exact agg rfl hr ho
  ·exact one rfl hr rfl
  ·cases ho
end
end Go.Proofs.YtindehjiaknokaaGreatDoor
