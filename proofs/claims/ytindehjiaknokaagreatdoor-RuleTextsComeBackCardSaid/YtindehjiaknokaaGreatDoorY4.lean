/- Every operation as one function on data, and why the machine does the same. Operations one after the other, on frames of data. -/
import Derived.Test.YtindehjiaknokaaGreatDoorY1
import Derived.Lib.AppendStr
namespace Go.Proofs.YtindehjiaknokaaGreatDoor
set_option linter.unusedSimpArgs false
set_option linter.unusedVariables false
open Go.RowKit
variable {Q:Exit→Act→World→Prop} {rows:List (List D)} {t:TypeId} {t':Nat} {w:World} {x y:Operand}
@[reducible] def holds:Option Prop→Prop
 |none=>True
 |some s=>s
structure SideD (s q:Prop):Prop where
 side:s
 rest:q
def andO:Option Prop→Prop→Prop
 |none,q=>q
 |some s,q=>SideD s q
theorem andO_iff {s:Option Prop} {q:Prop}:andO s q↔holds s∧q:=by
 cases s with
 |none=>exact ⟨fun h=>⟨trivial,h⟩,fun h=>h.2⟩
 |some s=>exact ⟨fun h=>⟨h.1,h.2⟩,fun h=>⟨h.1,h.2⟩⟩
structure NumE (F:Int→Prop):Prop where
 h:∃ r,F r
structure IdxE (F:List D→Prop):Prop where
 h:∃ r,F r
structure CallE (F:D→Prop):Prop where
 h:∃ d,F d
theorem NumE.go {F:Int→Prop} {r:Int} (h:F r):NumE F:=⟨r,h⟩
theorem IdxE.go {F:List D→Prop} {r:List D} (h:F r):IdxE F:=⟨r,h⟩
structure LookE (F:D→Bool→Prop):Prop where
 h:∃ r o,F r o
theorem LookE.go {F:D→Bool→Prop} {r:D} {o:Bool} (h:F r o):LookE F:=⟨r,o,h⟩
structure TextE (F:List UInt8→Prop):Prop where
 h:∃ s,F s
theorem TextE.go {F:List UInt8→Prop} {s:List UInt8} (h:F s):TextE F:=⟨s,h⟩
theorem CallE.go {F:D→Prop} {d:D} (h:F d):CallE F:=⟨d,h⟩
def intD (op:BinOp) (k:IntKind) (p q:Int) (K:Option Prop→D→Prop):Prop:=
 match op with
 |.add=>NumE fun r=>K (some (k.wrap (p+q)=r)) (.int k r)
 |.sub=>NumE fun r=>K (some (k.wrap (p - q)=r)) (.int k r)
 |.mul=>NumE fun r=>K (some (k.wrap (p * q)=r)) (.int k r)
 |.quo=>NumE fun r=>K (some (q ≠ 0∧k.wrap (p.tdiv q)=r)) (.int k r)
 |.rem=>NumE fun r=>K (some (q ≠ 0∧p.tmod q=r)) (.int k r)
 |.eql=>K none (.bool (p == q))
 |.neq=>K none (.bool (!(p == q)))
 |.lss=>K none (.bool (decide (p < q)))
 |.leq=>K none (.bool (decide (p≤q)))
 |.gtr=>K none (.bool (decide (q < p)))
 |.geq=>K none (.bool (decide (q≤p)))
 |.and=>NumE fun r=>K (some (bitsI .and k p q=r)) (.int k r)
 |.or=>NumE fun r=>K (some (bitsI .or k p q=r)) (.int k r)
 |.xor=>NumE fun r=>K (some (bitsI .xor k p q=r)) (.int k r)
 |.andNot=>NumE fun r=>K (some (bitsI .andNot k p q=r)) (.int k r)
 |_=>False
def strD (op:BinOp) (s u:List UInt8) (K:Option Prop→D→Prop):Prop:=
 match op with
 |.add=>K (some (s.length+u.length≤9223372036854775807)) (.str (s++u))
 |.eql=>K none (.bool (s == u))
 |.neq=>K none (.bool (!(s == u)))
 |.lss=>K none (.bool (Op.bytesLess s u))
 |.leq=>K none (.bool (Op.bytesLess s u || s == u))
 |.gtr=>K none (.bool (!(Op.bytesLess s u || s == u)))
 |.geq=>K none (.bool (!Op.bytesLess s u))
 |_=>False
def binD (op:BinOp) (ti:Option TI) (x y:D) (K:Option Prop→D→Prop):Prop:=
 match x,y with
 |.int k p,.int k' q=>match op with
  |.shr=>NumE fun r=>K (some (0≤q∧q≤k.bits∧p / 2 ^ q.toNat=r)) (.int k r)
  |.shl=>NumE fun r=>K (some (0≤q∧q≤k.bits∧k.wrap (p * 2 ^ q.toNat)=r)) (.int k r)
  |op=>match sameK k k' with
   |true=>intD op k p q K
   |false=>False
 |.str s,.str u=>strD op s u K
 |.bool b,.bool c=>match ti with
  |some .bool=>match op with
   |.eql=>K none (.bool (b == c))
   |.neq=>K none (.bool (!(b == c)))
   |_=>False
  |_=>False
 |.agg xs,.agg ys=>match ti with
  |some (.st _ _ (some ks))=>match deqs xs ys with
   |some b=>match op with
    |.eql=>K (some (fitsD ks xs ys)) (.bool b)
    |.neq=>K (some (fitsD ks xs ys)) (.bool (!b))
    |_=>False
   |none=>False
  |_=>False
 |.sl _ _ rows,.nil=>match ti with
  |some (.sl _ _ _ _)=>match op with
   |.eql=>K (some (rows ≠ [])) (.bool false)
   |.neq=>K (some (rows ≠ [])) (.bool true)
   |_=>False
  |_=>False
 |.nil,.nil=>match ti with
  |some (.sl _ _ _ _)=>match op with
   |.eql=>K none (.bool true)
   |.neq=>K none (.bool false)
   |_=>False
  |_=>False
 |_,_=>False
def ifcD (op:BinOp) (ti:Option TI) (x:D) (K:Option Prop→D→Prop):Prop:=
 match ti with
 |some .ifc=>match x with
  |.pv .nilIface=>match op with
   |.eql=>K none (.bool true)
   |.neq=>K none (.bool false)
   |_=>False
  |_=>False
 |_=>False
def bndD (ρ:Operand→D) (dflt:Int):Option Operand→Option Int
 |none=>some dflt
 |some o=>match ρ o with
  |.int _ n=>some n
  |_=>none
theorem bndD_ok {ρ:Operand→D} {dflt n:Int}:∀ {x:Option Operand},bndD ρ dflt x=some n→BndOk ρ x dflt n
 |none,h=>by cases h;rfl
 |some o,h=>by
  simp only [bndD] at h
  split at h
  ·rename_i k m hk
   cases h
   exact ⟨k,hk⟩
  ·cases h
def callD (P:Program) (T:Nat→Option TI) (ρ:Operand→D) (c:Call) (K:Option Prop→D→Prop):Prop:=
 match c.callee with
 |.value (.func f)=>CallE fun d=>K (some (Gives P f (c.args.toList.map ρ) d)) d
 |.value (.tmp t)=>match ρ (.tmp t) with
  |.fn f cs=>CallE fun d=>K (some (Gives P f (c.args.toList.map ρ++cs) d)) d
  |_=>False
 |.builtin .len=>match c.args.toList,c.argTypes.toList with
  |[x],[t]=>match T t,ρ x with
   |some .str,.str s=>K none (.int .i64 s.length)
   |some (.sl _ _ _ _),.sl _ _ rows=>K none (.int .i64 rows.length)
   |some (.sl _ _ _ _),.nil=>K none (.int .i64 0)
   |some (.mp _ _ _ _),.mp _ es=>K none (.int .i64 es.length)
   |some (.mp _ _ _ _),.fmp _ es=>K none (.int .i64 es.length)
   |_,_=>False
  |_,_=>False
 |.builtin .max=>match c.args.toList with
  |[x,y]=>match ρ x,ρ y with
   |.int k p,.int k' q=>match sameK k k' with
    |true=>K none (.int k (max p q))
    |false=>False
   |_,_=>False
  |_=>False
 |.builtin .min=>match c.args.toList with
  |[x,y]=>match ρ x,ρ y with
   |.int k p,.int k' q=>match sameK k k' with
    |true=>K none (.int k (min p q))
    |false=>False
   |_,_=>False
  |_=>False
 |_=>False
def opD (P:Program) (T:Nat→Option TI) (Z:Nat→Option (List Value)) (ρ:Operand→D) (o:Op) (K:Option Prop→D→Prop):Prop:=
 match o with
 |.move x | .assign x=>match (ρ x).plain with
  |true=>K none (ρ x)
  |false=>False
 |.nilCheck x=>match ρ x with
  |.ptr cs=>K none (.ptr cs)
  |.ref t o=>K none (.ref t o)
  |_=>False
 |.extract x i=>match ρ x with
  |.tup ds=>match ds[i]? with
   |some d=>match d.oneA with
    |true=>K none d
    |false=>False
   |none=>False
  |_=>False
 |.unOp .not _ x=>match ρ x with
  |.bool b=>K none (.bool (!b))
  |_=>False
 |.unOp .neg _ x=>match ρ x with
  |.int k p=>NumE fun r=>K (some (k.wrap (0 - p)=r)) (.int k r)
  |_=>False
 |.binOp op t x y _=>match y with
  |.const .nilIface=>ifcD op (T t) (ρ x) K
  |_=>binD op (T t) (ρ x) (ρ y) K
 |.convert s t x=>match T s,T t,ρ x with
  |some (.int _),some (.int k),.int _ p=>NumE fun r=>K (some (k.wrap p=r)) (.int k r)
  |some (.int _),some .str,.int _ p=>K none (.str (Utf8.encode p).data.toList)
  |some .str,some .str,.str p=>K none (.str p)
  |some .str,some (.sl e _ _ _),.str p=>match T e with
   |some (.int .u8)=>K (some (p.length≤1000000000)) (.sl 0 1 (p.map bR))
   |_=>False
  |some (.sl e _ _ _),some .str,.sl _ sz rows=>match T e,Nat.beq sz 1 with
   |some (.int .u8),true=>TextE fun q=>K (some (rows=q.map bR)) (.str q)
   |_,_=>False
  |some (.sl e _ _ _),some .str,.nil=>match T e with
   |some (.int .u8)=>K none (.str [])
   |_=>False
  |_,_,_=>False
 |.field t x i=>match T t,ρ x with
  |some (.st _ fl _),.agg cs=>match fl[i]? with
   |some (off,1,false)=>match cs[off]? with
    |some d=>match d.one with
     |true=>K none d
     |false=>False
    |none=>False
   |some (off,n+1,true)=>match cs.all D.one with
    |true=>K none (.agg ((cs.drop off).take (n+1)))
    |false=>False
   |_=>False
  |_,_=>False
 |.fieldAddr t x i=>match T t with
  |some (.st _ fl _)=>match fl[i]? with
   |some (off,_+1,_)=>match ρ x with
    |.ptr cs=>K none (.ptr (cs.drop off))
    |.ref u o=>K none (.ref u (o+off))
    |_=>False
   |_=>False
  |_=>False
 |.load t x=>match ρ x with
  |.ptr cs=>match T t with
   |some (.st n _ _)=>match Nat.ble n cs.length with
    |true=>K none (.agg (cs.take n))
    |false=>False
   |some _=>match cs with
    |d::_=>K none d
    |[]=>False
   |none=>False
  |_=>False
 |.indexAddr t x y=>match T t,ρ x,ρ y with
  |some (.sl _ sz _ _),.sl m sz' rows,.int _ j=>match Nat.ble m 1 with
   |true=>match Nat.beq sz' sz with
    |true=>IdxE fun r=>K (some (0≤j∧rows[j.toNat]?=some r)) (.ptr r)
    |false=>False
   |false=>False
  |_,_,_=>False
 |.index t x y=>match T t,ρ x,ρ y with
  |some .str,.str s,.int _ j=>K (some (0≤j∧j < s.length)) (.int .u8 (s.getD j.toNat 0).toNat)
  |_,_,_=>False
 |.slice t x lo hi none=>match T t,ρ x with
  |some .str,.str s=>match bndD ρ 0 lo,bndD ρ s.length hi with
   |some l,some h=>K (some (0≤l∧l≤h∧h≤s.length)) (.str ((s.take h.toNat).drop l.toNat))
   |_,_=>False
  |some (.sl _ sz _ _),.sl 0 sz' rows=>match Nat.beq sz' sz with
   |true=>match bndD ρ 0 lo,bndD ρ rows.length hi with
    |some l,some h=>K (some (0≤l∧l≤h∧h≤rows.length)) (.sl 0 sz ((rows.take h.toNat).drop l.toNat))
    |_,_=>False
   |false=>False
  |_,_=>False
 |.box _ x=>match (ρ x).cellsOf with
  |some cs=>K none (.ptr cs)
  |none=>False
 |.build t parts=>match T t,Z t with
  |some (.st _ fl _),some zc=>match zc.all Value.oneCell' with
   |true=>match fillR (fl.map fun x=>(x.1,x.2.1)) (zeroD zc) (parts.toList.map fun x=>(x.1,(ρ x.2).cellsOf)) with
    |some cs=>K none (.agg cs)
    |none=>False
   |false=>False
  |_,_=>False
 |.buildSlice t m parts=>match T t with
  |some (.sl _ sz _ _)=>match sequ (parts.toList.map fun x=>(ρ x.2).cellsOf) with
   |some rows=>match (parts.toList.map (·.1) == List.range m) && ((rows.all fun r=>r.length == sz) && (Nat.blt 0 sz && Nat.ble (m * sz) 16777216)) with
    |true=>K none (.sl 2 sz rows)
    |false=>False
   |none=>False
  |_=>False
 |.makeSlice t l c=>match T t,ρ l,ρ c with
  |some (.sl _ sz by' zc),.int .i64 q,.int .i64 q2=>match Nat.ble by' 1000 && zc.all Value.oneCell' with
   |true=>K (some (0≤q∧q≤q2∧q2≤1000000)) (.sl 2 sz (List.replicate q.toNat (zeroD zc)))
   |false=>False
  |_,_,_=>False
 |.call c=>callD P T ρ c K
 |.makeMap t none=>match T t with
  |some (.mp _ _ kd _)=>K none (.mp kd [])
  |_=>False
 |.lookup t x y ok=>match T t,ρ x,(ρ y).keyV with
  |some (.mp _ _ kd z),.mp kd' es,some kv=>match sameKD kd kd' && fitK kd kv with
   |true=>LookE fun r o=>match ok with
    |true=>K (some (lookD es kv z=r∧(findV kv es).isSome=o)) (.tup [r,.bool o])
    |false=>K (some (lookD es kv z=r)) r
   |false=>False
  |_,_,_=>False
 |.makeFunc (.func f) first xs=>match first.toList with
  |[]=>match xs.toList.all fun x=>match ρ x with | .ref _ _=>true|d=>d.one with
   |true=>K none (.fn f (xs.toList.map ρ))
   |false=>False
  |_=>False
 |_=>False
section
variable {P:Program} {T:Nat→Option TI} {Z:Nat→Option (List Value)} {dst:Option Tmp} {ty:TypeId} {pos:String} {after:Array Edge} {guard:Option (Nat × Bool)} {ρ:Operand→D} {K:Option Prop→D→Prop}
def Does (P:Program) (o:Oper) (ρ:Operand→D) (K:Option Prop→D→Prop):Prop:=∃ s d,K s d∧(holds s→OpOk P o ρ d)
theorem r_same {t':TypeId} {u v:Value} {b:Bool} {K:Act→World→Prop} {a:Act} (hx:a.eval x=u) (hy:a.eval y=v) (he:(eqGuard .eql t x y u v).run P w=.ok () w) (hb:(binOp .eql t u v).run P w=.ok (.bool b) w) (hk:K (a.put dst (.bool b)) w):(Oper.mk dst (.binOp .eql t x y t') ty pos after guard).wp P a w K Q:=
 wp_run (by simp only [execOp,hx,hy,Sem.run_bind,he,Result.andThen_ok,hb,Sem.run_pure]) hk
theorem r_differ {t':TypeId} {u v:Value} {b:Bool} {K:Act→World→Prop} {a:Act} (hx:a.eval x=u) (hy:a.eval y=v) (he:(eqGuard .neq t x y u v).run P w=.ok () w) (hb:(binOp .neq t u v).run P w=.ok (.bool b) w) (hk:K (a.put dst (.bool b)) w):(Oper.mk dst (.binOp .neq t x y t') ty pos after guard).wp P a w K Q:=
 wp_run (by simp only [execOp,hx,hy,Sem.run_bind,he,Result.andThen_ok,hb,Sem.run_pure]) hk
theorem run_slNil {e:TypeId} {A:Option Addr} {l c:Nat} (h:P.underlying t=some (.slice e)):(binOp .eql t (.slice A l c) (.slice none 0 0)).run P w=.ok (.bool A.isNone) w∧(binOp .neq t (.slice A l c) (.slice none 0 0)).run P w=.ok (.bool (!A.isNone)) w:=by
 have h2:(Op.equal t (.slice A l c) (.slice none 0 0)).run P w=.ok A.isNone w:=by
  show (Op.equalIn (9999+1) t _ _).run P w=_
  unfold Op.equalIn
  rw [Sem.run_bind,run_underlying h]
  cases A<;>rfl
 exact ⟨by
  show (do pure (Value.bool (← Op.equal t (.slice A l c) (.slice none 0 0))):Go.Sem Value).run P w=_
  rw [Sem.run_bind,h2]
  rfl,by
  show (do pure (Value.bool (!(← Op.equal t (.slice A l c) (.slice none 0 0)))):Go.Sem Value).run P w=_
  rw [Sem.run_bind,h2]
  rfl⟩
theorem run_ifcNil (h:∃ ms,P.underlying t=some (.interface ms)):(binOp .eql t .nilIface .nilIface).run P w=.ok (.bool true) w∧(binOp .neq t .nilIface .nilIface).run P w=.ok (.bool false) w:=by
 obtain ⟨ms,h⟩:=h
 have h2:(Op.equal t .nilIface .nilIface).run P w=.ok true w:=by
  show (Op.equalIn (9999+1) t _ _).run P w=_
  unfold Op.equalIn
  rw [Sem.run_bind,run_underlying h]
  rfl
 exact ⟨by
  show (do pure (Value.bool (← Op.equal t .nilIface .nilIface)):Go.Sem Value).run P w=_
  rw [Sem.run_bind,h2]
  rfl,by
  show (do pure (Value.bool (!(← Op.equal t .nilIface .nilIface))):Go.Sem Value).run P w=_
  rw [Sem.run_bind,h2]
  rfl⟩
theorem guard_slNil {op:BinOp} {A:Option Addr} {l c:Nat}:(eqGuard op t x y (.slice A l c) (.slice none 0 0)).run P w=.ok () w:=by
 unfold eqGuard
 cases op<;>rfl
theorem guard_ifcNil {op:BinOp} :(eqGuard op t x (.const .nilIface) .nilIface .nilIface).run P w=.ok () w:=by
 unfold eqGuard
 cases op<;>first|rfl|(cases x<;>rfl)
theorem arg_some {S:Sig} {q:Place} {v:Value} {m sz:Nat} (h:Rep S w q v (.sl m sz rows)) (hn:rows ≠ []):∃ A l c,v=.slice (some A) l c:=by
 rcases h.source with ⟨A,_,h0⟩|⟨b,o,c,news,hv,_⟩
 ·exact absurd h0 hn
 ·exact ⟨_,_,_,hv⟩
theorem ok_slNil {t e m sz:Nat} [i:TSlice P t e] (hx:ρ x=.sl m sz rows) (hy:ρ y=.nil) (hn:rows ≠ []):OpOk P (Oper.mk dst (.binOp .eql t x y t') ty pos after guard) ρ (.bool false):=
 .still fun S w a _ hr=>⟨_,.fz (.bool _),fun K Q hk=>by
  obtain ⟨q,h⟩:=arg hr hx (by simp [Op.operands])
  obtain ⟨q',h'⟩:=arg hr hy (by simp [Op.operands])
  obtain ⟨A,l,c,hv⟩:=arg_some h hn
  exact r_same hv h'.nil_inv guard_slNil (run_slNil i.h).1 hk⟩
theorem ok_slNilNe {t e m sz:Nat} [i:TSlice P t e] (hx:ρ x=.sl m sz rows) (hy:ρ y=.nil) (hn:rows ≠ []):OpOk P (Oper.mk dst (.binOp .neq t x y t') ty pos after guard) ρ (.bool true):=
 .still fun S w a _ hr=>⟨_,.fz (.bool _),fun K Q hk=>by
  obtain ⟨q,h⟩:=arg hr hx (by simp [Op.operands])
  obtain ⟨q',h'⟩:=arg hr hy (by simp [Op.operands])
  obtain ⟨A,l,c,hv⟩:=arg_some h hn
  exact r_differ hv h'.nil_inv guard_slNil (run_slNil i.h).2 hk⟩
theorem ok_nilNil {t e:Nat} [i:TSlice P t e] (hx:ρ x=.nil) (hy:ρ y=.nil):OpOk P (Oper.mk dst (.binOp .eql t x y t') ty pos after guard) ρ (.bool true):=
 .still fun S w a _ hr=>⟨_,.fz (.bool _),fun K Q hk=>by
  obtain ⟨q,h⟩:=arg hr hx (by simp [Op.operands])
  obtain ⟨q',h'⟩:=arg hr hy (by simp [Op.operands])
  exact r_same h.nil_inv h'.nil_inv guard_slNil (run_slNil i.h).1 hk⟩
theorem ok_nilNilNe {t e:Nat} [i:TSlice P t e] (hx:ρ x=.nil) (hy:ρ y=.nil):OpOk P (Oper.mk dst (.binOp .neq t x y t') ty pos after guard) ρ (.bool false):=
 .still fun S w a _ hr=>⟨_,.fz (.bool _),fun K Q hk=>by
  obtain ⟨q,h⟩:=arg hr hx (by simp [Op.operands])
  obtain ⟨q',h'⟩:=arg hr hy (by simp [Op.operands])
  exact r_differ h.nil_inv h'.nil_inv guard_slNil (run_slNil i.h).2 hk⟩
theorem ok_ifc {t:Nat} [i:TIfc P t] (hx:ρ x=.pv .nilIface):OpOk P (Oper.mk dst (.binOp .eql t x (.const .nilIface) t') ty pos after guard) ρ (.bool true):=
 .still fun S w a _ hr=>⟨_,.fz (.bool _),fun K Q hk=>by
  obtain ⟨q,h⟩:=arg hr hx (by simp [Op.operands])
  exact r_same h.pv_inv rfl guard_ifcNil (run_ifcNil i.h).1 hk⟩
theorem ok_ifcNe {t:Nat} [i:TIfc P t] (hx:ρ x=.pv .nilIface):OpOk P (Oper.mk dst (.binOp .neq t x (.const .nilIface) t') ty pos after guard) ρ (.bool false):=
 .still fun S w a _ hr=>⟨_,.fz (.bool _),fun K Q hk=>by
  obtain ⟨q,h⟩:=arg hr hx (by simp [Op.operands])
  exact r_differ h.pv_inv rfl guard_ifcNil (run_ifcNil i.h).2 hk⟩
theorem binD_sound (hT:TOk P T Z) {op:BinOp} {t':TypeId} (h:binD op (T t) (ρ x) (ρ y) K):Does P (Oper.mk dst (.binOp op t x y t') ty pos after guard) ρ K:=by
 unfold binD at h
 split at h
 ·rename_i k p k' q hx hy
  split at h
  ·obtain ⟨r,h⟩:=h.h;exact ⟨_,_,h,fun ⟨h0,h1,hr⟩=>ok_shr hx hy h0 h1 hr⟩
  ·obtain ⟨r,h⟩:=h.h;exact ⟨_,_,h,fun ⟨h0,h1,hr⟩=>ok_shl hx hy h0 h1 hr⟩
  split at h
  ·rename_i hk
   obtain rfl:=sameK_eq hk
   unfold intD at h
   split at h
   ·obtain ⟨r,h⟩:=h.h;exact ⟨_,_,h,fun hr=>ok_add hx hy hr⟩
   ·obtain ⟨r,h⟩:=h.h;exact ⟨_,_,h,fun hr=>ok_sub hx hy hr⟩
   ·obtain ⟨r,h⟩:=h.h;exact ⟨_,_,h,fun hr=>ok_mul hx hy hr⟩
   ·obtain ⟨r,h⟩:=h.h;exact ⟨_,_,h,fun ⟨h0,hr⟩=>ok_quo hx hy h0 hr⟩
   ·obtain ⟨r,h⟩:=h.h;exact ⟨_,_,h,fun ⟨h0,hr⟩=>ok_rem hx hy h0 hr⟩
   ·exact ⟨_,_,h,fun _=>ok_eql hx hy⟩
   ·exact ⟨_,_,h,fun _=>ok_neq hx hy⟩
   ·exact ⟨_,_,h,fun _=>ok_lss hx hy⟩
   ·exact ⟨_,_,h,fun _=>ok_leq hx hy⟩
   ·exact ⟨_,_,h,fun _=>ok_gtr hx hy⟩
   ·exact ⟨_,_,h,fun _=>ok_geq hx hy⟩
   ·obtain ⟨r,h⟩:=h.h;exact ⟨_,_,h,fun hr=>ok_bits rfl hx hy hr⟩
   ·obtain ⟨r,h⟩:=h.h;exact ⟨_,_,h,fun hr=>ok_bits rfl hx hy hr⟩
   ·obtain ⟨r,h⟩:=h.h;exact ⟨_,_,h,fun hr=>ok_bits rfl hx hy hr⟩
   ·obtain ⟨r,h⟩:=h.h;exact ⟨_,_,h,fun hr=>ok_bits rfl hx hy hr⟩
   ·exact h.elim
  ·exact h.elim
 ·rename_i s u hx hy
  unfold strD at h
  split at h
  ·exact ⟨_,_,h,fun hl=>ok_cat hx hy hl⟩
  ·exact ⟨_,_,h,fun _=>ok_seql hx hy⟩
  ·exact ⟨_,_,h,fun _=>ok_sneq hx hy⟩
  ·exact ⟨_,_,h,fun _=>ok_slss hx hy⟩
  ·exact ⟨_,_,h,fun _=>ok_sleq hx hy⟩
  ·exact ⟨_,_,h,fun _=>ok_sgtr hx hy⟩
  ·exact ⟨_,_,h,fun _=>ok_sgeq hx hy⟩
  ·exact h.elim
 ·rename_i b c hx hy
  split at h
  ·rename_i ht
   haveI:=(hT.ty _ _ ht).1
   split at h
   ·exact ⟨_,_,h,fun _=>ok_boolEq hx hy⟩
   ·exact ⟨_,_,h,fun _=>ok_boolNe hx hy⟩
   ·exact h.elim
  ·exact h.elim
 ·rename_i xs ys hx hy
  split at h
  ·rename_i n fl ks ht
   haveI:=(hT.ty _ _ ht).2.2.2 ks rfl
   split at h
   ·rename_i b hb
    split at h
    ·exact ⟨_,_,h,fun hf=>ok_structEq hx hy hf hb⟩
    ·exact ⟨_,_,h,fun hf=>ok_structNe hx hy hf hb⟩
    ·exact h.elim
   ·exact h.elim
  ·exact h.elim
 ·rename_i m sz rows hx hy
  split at h
  ·rename_i ht
   haveI:=(hT.ty _ _ ht).1
   split at h
   ·exact ⟨_,_,h,fun hn=>ok_slNil hx hy hn⟩
   ·exact ⟨_,_,h,fun hn=>ok_slNilNe hx hy hn⟩
   ·exact h.elim
  ·exact h.elim
 ·rename_i hx hy
  split at h
  ·rename_i ht
   haveI:=(hT.ty _ _ ht).1
   split at h
   ·exact ⟨_,_,h,fun _=>ok_nilNil hx hy⟩
   ·exact ⟨_,_,h,fun _=>ok_nilNilNe hx hy⟩
   ·exact h.elim
  ·exact h.elim
 ·exact h.elim
theorem ifcD_sound (hT:TOk P T Z) {op:BinOp} {t':TypeId} (h:ifcD op (T t) (ρ x) K):Does P (Oper.mk dst (.binOp op t x (.const .nilIface) t') ty pos after guard) ρ K:=by
 unfold ifcD at h
 split at h
 ·rename_i ht
  haveI:=(hT.ty _ _ ht).1
  split at h
  ·rename_i hx
   split at h
   ·exact ⟨_,_,h,fun _=>ok_ifc hx⟩
   ·exact ⟨_,_,h,fun _=>ok_ifcNe hx⟩
   ·exact h.elim
  ·exact h.elim
 ·exact h.elim
theorem TFact.slice {t e sz by':Nat} {zc:List Value} (h:TFact P t (.sl e sz by' zc)):TSlice P t e:=h.1
theorem TFact.one {t:Nat} {i:TI} (h:TFact P t i) (hn:∀ n fl ks,i ≠ .st n fl ks):TOne P t:=by
 cases i with
 |int k=>exact h.2
 |str=>exact h.2
 |bool=>exact h.2
 |one=>exact h
 |ifc=>exact h.2
 |sl e sz b zc=>exact h.2.2.1
 |mp k e kd z=>exact h.2.2
 |st n fl ks=>exact absurd rfl (hn n fl ks)
theorem arr0 {α:Type} {a:Array α} (h:a.toList = []):a = #[]:=Array.ext' h
theorem arr1 {α:Type} {a:Array α} {x:α} (h:a.toList = [x]):a = #[x]:=Array.ext' h
theorem arr2 {α:Type} {a:Array α} {x y:α} (h:a.toList = [x,y]):a = #[x,y]:=Array.ext' h
theorem callD_sound (hT:TOk P T Z) {c:Call} (h:callD P T ρ c K):Does P (Oper.mk dst (.call c) ty pos after guard) ρ K:=by
 obtain ⟨callee,args,argTypes⟩:=c
 unfold callD at h
 simp only at h
 split at h
 ·obtain ⟨d,h⟩:=h.h;exact ⟨_,_,h,fun hg=>ok_call hg⟩
 ·split at h
  ·rename_i hf
   obtain ⟨d,h⟩:=h.h;exact ⟨_,_,h,fun hg=>ok_callF hf hg⟩
  ·exact h.elim
 ·split at h
  ·rename_i h1 h2
   obtain rfl:=arr1 h1
   obtain rfl:=arr1 h2
   split at h
   ·rename_i ht hx
    haveI:=(hT.ty _ _ ht).1
    exact ⟨_,_,h,fun _=>ok_lenS hx⟩
   ·rename_i ht hx
    haveI:=(hT.ty _ _ ht).1
    exact ⟨_,_,h,fun _=>ok_lenSl hx⟩
   ·rename_i ht hx
    haveI:=(hT.ty _ _ ht).1
    exact ⟨_,_,h,fun _=>ok_lenNil hx⟩
   ·rename_i ht hx
    haveI:=(hT.ty _ _ ht).1
    exact ⟨_,_,h,fun _=>ok_lenMap hx⟩
   ·rename_i ht hx
    haveI:=(hT.ty _ _ ht).1
    exact ⟨_,_,h,fun _=>ok_lenFmp hx⟩
   ·exact h.elim
  ·exact h.elim
 ·split at h
  ·rename_i h1
   obtain rfl:=arr2 h1
   split at h
   ·rename_i hx hy
    split at h
    ·rename_i hk
     obtain rfl:=sameK_eq hk
     exact ⟨_,_,h,fun _=>ok_max hx hy⟩
    ·exact h.elim
   ·exact h.elim
  ·exact h.elim
 ·split at h
  ·rename_i h1
   obtain rfl:=arr2 h1
   split at h
   ·rename_i hx hy
    split at h
    ·rename_i hk
     obtain rfl:=sameK_eq hk
     exact ⟨_,_,h,fun _=>ok_min hx hy⟩
    ·exact h.elim
   ·exact h.elim
  ·exact h.elim
 ·exact h.elim
theorem opD_sound (hT:TOk P T Z) {o:Op} (h:opD P T Z ρ o K):Does P (Oper.mk dst o ty pos after guard) ρ K:=by
 unfold opD at h
 split at h
 ·split at h
  ·rename_i hp;exact ⟨_,_,h,fun _=>ok_move hp⟩
  ·exact h.elim
 ·split at h
  ·rename_i hp;exact ⟨_,_,h,fun _=>ok_assign hp⟩
  ·exact h.elim
 ·split at h
  ·rename_i hx;exact ⟨_,_,h,fun _=>ok_nilPtr hx⟩
  ·rename_i hx;exact ⟨_,_,h,fun _=>ok_nilRef hx⟩
  ·exact h.elim
 ·split at h
  ·rename_i hx
   split at h
   ·rename_i hd
    split at h
    ·rename_i ho;exact ⟨_,_,h,fun _=>ok_extract hx hd ho⟩
    ·exact h.elim
   ·exact h.elim
  ·exact h.elim
 ·split at h
  ·rename_i hx;exact ⟨_,_,h,fun _=>ok_not hx⟩
  ·exact h.elim
 ·split at h
  ·rename_i hx;obtain ⟨r,h⟩:=h.h;exact ⟨_,_,h,fun hr=>ok_neg hx hr⟩
  ·exact h.elim
 ·split at h
  ·exact ifcD_sound hT h
  ·exact binD_sound hT h
 ·split at h
  ·rename_i hs ht hx
   obtain ⟨r,h⟩:=h.h
   haveI:=(hT.ty _ _ ht).1
   exact ⟨_,_,h,fun hr=>ok_conv ⟨_,(hT.ty _ _ hs).1.h⟩ hx hr⟩
  ·rename_i hs ht hx
   haveI:=(hT.ty _ _ hs).1
   haveI:=(hT.ty _ _ ht).1
   exact ⟨_,_,h,fun _=>ok_intStr hx⟩
  ·rename_i hs ht hx
   haveI:=(hT.ty _ _ hs).1
   haveI:=(hT.ty _ _ ht).1
   exact ⟨_,_,h,fun _=>ok_strStr hx⟩
  ·rename_i hs ht hx
   haveI:=(hT.ty _ _ hs).1
   haveI:=(hT.ty _ _ ht).1
   split at h
   ·rename_i he
    haveI:=(hT.ty _ _ he).1
    exact ⟨_,_,h,fun hl=>ok_strBytes hx hl⟩
   ·exact h.elim
  ·rename_i hs ht hx
   haveI:=(hT.ty _ _ hs).1
   haveI:=(hT.ty _ _ ht).1
   split at h
   ·rename_i he hz
    haveI:=(hT.ty _ _ he).1
    obtain rfl:=Nat.eq_of_beq_eq_true hz
    obtain ⟨q,h⟩:=h.h
    exact ⟨_,_,h,fun hq=>ok_bytesStr (by rw [hx,hq])⟩
   ·exact h.elim
  ·rename_i hs ht hx
   haveI:=(hT.ty _ _ hs).1
   haveI:=(hT.ty _ _ ht).1
   split at h
   ·rename_i he
    haveI:=(hT.ty _ _ he).1
    exact ⟨_,_,h,fun _=>ok_nilStr hx⟩
   ·exact h.elim
  ·exact h.elim
 ·split at h
  ·rename_i ht hx
   split at h
   ·rename_i hf
    haveI:=(hT.ty _ _ ht).2.1 _ _ _ _ hf
    split at h
    ·rename_i hd
     split at h
     ·rename_i ho;exact ⟨_,_,h,fun _=>ok_field1 hx hd ho⟩
     ·exact h.elim
    ·exact h.elim
   ·rename_i hf
    haveI:=(hT.ty _ _ ht).2.1 _ _ _ _ hf
    split at h
    ·rename_i ho;exact ⟨_,_,h,fun _=>ok_fieldN hx ho⟩
    ·exact h.elim
   ·exact h.elim
  ·exact h.elim
 ·split at h
  ·rename_i ht
   split at h
   ·rename_i hf
    haveI:=(hT.ty _ _ ht).2.1 _ _ _ _ hf
    split at h
    ·rename_i hx;exact ⟨_,_,h,fun _=>ok_fieldAddr hx⟩
    ·rename_i hx;exact ⟨_,_,h,fun _=>ok_fieldRef hx⟩
    ·exact h.elim
   ·exact h.elim
  ·exact h.elim
 ·split at h
  ·rename_i hx
   split at h
   ·rename_i ht
    haveI:=(hT.ty _ _ ht).1
    split at h
    ·rename_i hn;exact ⟨_,_,h,fun _=>ok_loadN hx (Nat.le_of_ble_eq_true hn)⟩
    ·exact h.elim
   ·rename_i i hi ht
    haveI:=(hT.ty _ _ ht).one (fun n fl ks e=>hi n fl ks e)
    split at h
    ·exact ⟨_,_,h,fun _=>ok_load1 hx⟩
    ·exact h.elim
   ·exact h.elim
  ·exact h.elim
 ·split at h
  ·rename_i ht hx hy
   haveI:=(hT.ty _ _ ht).1
   haveI:=(hT.ty _ _ ht).2.1
   split at h
   ·rename_i hm
    split at h
    ·rename_i he
     obtain rfl:=Nat.eq_of_beq_eq_true he
     obtain ⟨r,h⟩:=h.h
     exact ⟨_,_,h,fun ⟨h0,hr⟩=>ok_indexAddr hx (by have:=Nat.le_of_ble_eq_true hm;omega) hy h0 hr⟩
    ·exact h.elim
   ·exact h.elim
  ·exact h.elim
 ·split at h
  ·rename_i ht hx hy
   haveI:=(hT.ty _ _ ht).1
   exact ⟨_,_,h,fun ⟨h0,h1⟩=>ok_indexS hx hy h0 h1⟩
  ·exact h.elim
 ·split at h
  ·rename_i ht hx
   haveI:=(hT.ty _ _ ht).1
   split at h
   ·rename_i hl hh
    exact ⟨_,_,h,fun ⟨h0,h1,h2⟩=>ok_sliceS hx (bndD_ok hl) (bndD_ok hh) h0 h1 h2⟩
   ·exact h.elim
  ·rename_i ht hx
   haveI:=(hT.ty _ _ ht).1
   haveI:=(hT.ty _ _ ht).2.1
   split at h
   ·rename_i he
    obtain rfl:=Nat.eq_of_beq_eq_true he
    split at h
    ·rename_i hl hh
     exact ⟨_,_,h,fun ⟨h0,h1,h2⟩=>ok_sliceSl hx (bndD_ok hl) (bndD_ok hh) h0 h1 h2⟩
    ·exact h.elim
   ·exact h.elim
  ·exact h.elim
 ·split at h
  ·rename_i hc;exact ⟨_,_,h,fun _=>ok_box hc⟩
  ·exact h.elim
 ·split at h
  ·rename_i ht hz
   haveI:=(hT.ty _ _ ht).2.2.1
   haveI:=hT.zer _ _ hz
   split at h
   ·rename_i h1
    split at h
    ·rename_i hf;exact ⟨_,_,h,fun _=>ok_build h1 hf⟩
    ·exact h.elim
   ·exact h.elim
  ·exact h.elim
 ·split at h
  ·rename_i ht
   haveI:=(hT.ty _ _ ht).1
   haveI:=(hT.ty _ _ ht).2.1
   haveI:=(hT.ty _ _ ht).2.2.2.2
   split at h
   ·rename_i hr
    split at h
    ·rename_i hb
     simp only [Bool.and_eq_true,beq_iff_eq] at hb
     exact ⟨_,_,h,fun _=>ok_buildSlice hb.1 hr hb.2.1 (by simp only [Bool.and_eq_true,decide_eq_true_eq];exact ⟨by have:=hb.2.2.1;simp [Nat.blt] at this;omega,Nat.le_of_ble_eq_true hb.2.2.2⟩)⟩
    ·exact h.elim
   ·exact h.elim
  ·exact h.elim
 ·split at h
  ·rename_i ht hl hc
   haveI:=(hT.ty _ _ ht).1
   haveI:=(hT.ty _ _ ht).2.2.2.1
   haveI:=(hT.ty _ _ ht).2.2.2.2
   split at h
   ·rename_i hb
    simp only [Bool.and_eq_true] at hb
    exact ⟨_,_,h,fun ⟨h0,h2,h1⟩=>ok_makeSlice hb.2 hl hc h0 h2 h1 (Nat.le_of_ble_eq_true hb.1)⟩
   ·exact h.elim
  ·exact h.elim
 ·exact callD_sound hT h
 ·split at h
  ·rename_i ht
   haveI:=(hT.ty _ _ ht).1
   exact ⟨_,_,h,fun _=>ok_makeMap⟩
  ·exact h.elim
 ·split at h
  ·rename_i ht hx hy
   haveI:=(hT.ty _ _ ht).1
   haveI:=(hT.ty _ _ ht).2.1
   split at h
   ·rename_i hb
    simp only [Bool.and_eq_true] at hb
    obtain rfl:=sameKD_eq hb.1
    obtain ⟨r,o,h⟩:=h.h
    split at h
    ·exact ⟨_,_,h,fun hs=>ok_lookupOk hx hy hb.2 hs⟩
    ·exact ⟨_,_,h,fun hs=>ok_lookup hx hy hb.2 hs⟩
   ·exact h.elim
  ·exact h.elim
 ·split at h
  ·rename_i hfirst
   obtain rfl:=arr0 hfirst
   split at h
   ·rename_i ha
    exact ⟨_,_,h,fun _=>ok_makeFunc ha⟩
   ·exact h.elim
  ·exact h.elim
 ·exact h.elim
end
end Go.Proofs.YtindehjiaknokaaGreatDoor
namespace Go.Proofs.YtindehjiaknokaaGreatDoor
set_option linter.unusedSimpArgs false
set_option linter.unusedVariables false
open Go.RowKit
variable {a:Act} {b0 l0 u:Nat} {es:List (Value × Value)} {q0:Place} {w w':World}
structure BT (S:Sig) (w:World) (S':Sig) (w':World) (b0:Nat):Prop where
 tr:Trans S w S' w'
 wf:WF S' w'
 loc:S'.loc=S.loc
 heap:∀ b,b < w.heap.size→b ≠ b0→w'.heap[b]?=w.heap[b]?
 own:∀ b,b < w.heap.size→b ≠ b0→S'.own b=S.own b
theorem BT.rep {S S':Sig} {fr:List D} (h:BT S w S' w' b0) (hw:WF S w) (h0:S.own b0=some (q0,l0)) (hq:q0.r=u+2) {d0:D} (hd:fr[u]?=some d0) (hn:d0.isObj=false)
  {i:Nat} {e:D} {v:Value} (hi:i ≠ u) (hr:Rep S w (.slot i) v e) (hf:RefOk fr e):Rep S' w' (.slot i) v e:=by
 refine hr.trans hw h.tr (by rw [h.loc]) (fun b q l hs hu => ?_) (fun _=>by rw [h.loc]) fun t hm ht => ?_
 ·have hb:b ≠ b0:=fun e=>by
   subst e
   rw [h0] at hs
   cases hs
   have:=hu.1
   simp only [Place.slot] at this
   omega
  exact ⟨h.heap b (hw _ _ hs) hb,by rw [h.own b (hw _ _ hs) hb];exact hs⟩
 ·rw [h.loc]
  refine ⟨rfl,?_⟩
  obtain ⟨cs,hc⟩:=hf t hm
  have hb:S.loc (t+2) ≠ b0:=fun e=>by
   rw [e,h0] at ht
   cases ht
   simp only [Place.slot] at hq
   have:t=u:=by omega
   subst this
   rw [hd] at hc
   cases hc
   cases hn
  rw [h.own _ (hw _ _ ht) hb]
  exact ht
theorem BT.objAt {S S':Sig} {fr fr':List D} (h:BT S w S' w' b0) (hw:WF S w) (h0:S.own b0=some (q0,l0)) (hq:q0.r=u+2) {d0:D} (hd:fr[u]?=some d0) (hn:d0.isObj=false)
  {x:Nat} (hx:ObjAt S fr x) (hf:∃ cs,fr'[x]?=some (.obj cs)):ObjAt S' fr' x∧∀ o y,w.cell? ⟨S.loc (x+2),o,none⟩=some y→w'.cell? ⟨S'.loc (x+2),o,none⟩=some y:=by
 have hb:S.loc (x+2) ≠ b0:=fun e=>by
  have ht:=hx.own
  obtain ⟨cs,hc⟩:=hx.obj
  rw [e,h0] at ht
  cases ht
  simp only [Place.slot] at hq
  have:x=u:=by omega
  subst this
  rw [hd] at hc
  cases hc
  cases hn
 refine ⟨hx.mono (w:=w) (w':=w') hf (by rw [h.loc]) (h.own _ (hw _ _ hx.own) hb),fun o y hy => ?_⟩
 rw [h.loc,World.cell?_of_block (a:=⟨S.loc (x+2),o,none⟩) (w:=w) (h.heap _ (hw _ _ hx.own) hb)]
 exact hy
def unal (u:Nat) (r:D):D→D
 |.al x=>if x=u then r else .al x
 |.es x sz k j=>if x=u then .any else .es x sz k j
 |d=>d
theorem unal_obj {x:Nat} {r r0:D} {fr:List D} (hux:u ≠ x) (h:∃ cs,fr[x]?=some (.obj cs)):∃ cs,((fr.map (unal u r)).set u r0)[x]?=some (.obj cs):=by
 obtain ⟨cs,hc⟩:=h
 exact ⟨cs,by rw [List.getElem?_set_ne hux,List.getElem?_map,hc];rfl⟩
theorem set_obj {x:Nat} {r0 d0:D} {fr:List D} (hd:fr[u]?=some d0) (hn:d0.isObj=false) (h:∃ cs,fr[x]?=some (.obj cs)):u ≠ x∧∃ cs,(fr.set u r0)[x]?=some (.obj cs):=by
 obtain ⟨cs,hc⟩:=h
 have hux:u ≠ x:=fun e=>by subst e;rw [hd] at hc;cases hc;cases hn
 exact ⟨hux,cs,by rw [List.getElem?_set_ne hux];exact hc⟩
theorem FR.rebuild {S S':Sig} {fr:List D} (h:FR S w a fr) (hb:BT S w S' w' b0) (h0:S.own b0=some (q0,l0)) (hq:q0.r=u+2) {d0:D} (hd:fr[u]?=some d0) (hn:d0.isObj=false)
  {r r0:D} (hr:∀ v p,a.tmps[u]?=some v→Rep S' w' p v r) (hm:∀ t,¬ Men t r) (hr0:∀ v,a.tmps[u]?=some v→Rep S' w' (.slot u) v r0) (hm0:∀ t,¬ Men t r0):FR S' w' a ((fr.map (unal u r)).set u r0):=by
 have hlt:u < fr.length:=(gLt hd)
 have hrk:∀ e,RefOk fr e→RefOk ((fr.map (unal u r)).set u r0) e:=fun e he x hx=>by
  obtain ⟨cs,hc⟩:=he x hx
  have hxu:u ≠ x:=fun e=>by subst e;rw [hd] at hc;cases hc;cases hn
  exact ⟨cs,by rw [List.getElem?_set_ne hxu,List.getElem?_map,hc];rfl⟩
 refine ⟨hb.wf,by simp [h.size],h.defers,fun i e v hi hv => ?_⟩
 by_cases hiu:i=u
 ·subst hiu
  rw [List.getElem?_set_self (by simpa using hlt)] at hi
  cases hi
  exact SlotRep.of (hr0 v hv) fun t ht=>(hm0 t ht).elim
 ·rw [List.getElem?_set_ne (Ne.symm hiu),List.getElem?_map] at hi
  cases hfi:fr[i]? with
  |none=>rw [hfi] at hi;cases hi
  |some e0=>
   rw [hfi] at hi
   cases hi
   have hs:=h.slot i e0 v hfi hv
   cases e0 with
   |al x=>
    obtain ⟨h1,d',h2,h3,h4⟩:=hs
    by_cases hxu:x=u
    ·subst hxu
     simp only [unal,if_true]
     exact SlotRep.of (hr v _ h1) fun t ht=>(hm t ht).elim
    ·simp only [unal,if_neg hxu]
     refine ⟨h1,d',?_,h3,h4⟩
     rw [List.getElem?_set_ne (Ne.symm hxu),List.getElem?_map,h2]
     cases d'<;>first|rfl|cases h3
   |alc x o=>
    obtain ⟨k1,k2⟩:=hb.objAt h.wf h0 hq hd hn hs.1 (unal_obj (set_obj (r0:=r0) hd hn hs.1.obj).1 hs.1.obj)
    exact ⟨k1,k2 _ _ hs.2⟩
   |el x o sz k j=>
    obtain ⟨g1,s,g2,g3⟩:=hs
    obtain ⟨k1,k2⟩:=hb.objAt h.wf h0 hq hd hn g1 (unal_obj (set_obj (r0:=r0) hd hn g1.obj).1 g1.obj)
    exact ⟨k1,s,k2 _ _ g2,g3⟩
   |es x sz k j=>
    obtain ⟨⟨d',h2,h3,h4⟩,s,h1,h5⟩:=hs
    by_cases hxu:x=u
    ·subst hxu
     simp only [unal,if_true]
     exact SlotRep.of (.fz (.any _)) fun t ht=>by cases ht
    ·simp only [unal,if_neg hxu]
     refine ⟨⟨d',?_,h3,h4⟩,s,h1,h5⟩
     rw [List.getElem?_set_ne (Ne.symm hxu),List.getElem?_map,h2]
     cases d'<;>first|rfl|cases h3
   |_=>exact ⟨hb.rep h.wf h0 hq hd hn hiu hs.1 hs.2,hrk _ hs.2⟩
theorem FR.reown {S S':Sig} {fr:List D} (h:FR S w a fr) (hb:BT S w S' w' b0) (h0:S.own b0=some (q0,l0)) (hq:q0.r=u+2) {d0:D} (hd:fr[u]?=some d0) (hn:d0.isObj=false)
  {r0:D} (hr0:∀ v,a.tmps[u]?=some v→Rep S' w' (.slot u) v r0) (hm0:∀ t,¬ Men t r0) (ho:r0.owns=true):FR S' w' a (fr.set u r0):=by
 have hlt:u < fr.length:=(gLt hd)
 have hrk:∀ e,RefOk fr e→RefOk (fr.set u r0) e:=fun e he x hx=>by
  obtain ⟨cs,hc⟩:=he x hx
  have hxu:u ≠ x:=fun e=>by subst e;rw [hd] at hc;cases hc;cases hn
  exact ⟨cs,by rw [List.getElem?_set_ne hxu];exact hc⟩
 refine ⟨hb.wf,by simp [h.size],h.defers,fun i e v hi hv => ?_⟩
 by_cases hiu:i=u
 ·subst hiu
  rw [List.getElem?_set_self hlt] at hi
  cases hi
  exact SlotRep.of (hr0 v hv) fun t ht=>(hm0 t ht).elim
 ·rw [List.getElem?_set_ne (Ne.symm hiu)] at hi
  have hs:=h.slot i e v hi hv
  cases e with
  |al x=>
   obtain ⟨h1,d',h2,h3,h4⟩:=hs
   by_cases hxu:x=u
   ·subst hxu
    exact ⟨h1,r0,by rw [List.getElem?_set_self hlt],ho,h4⟩
   ·exact ⟨h1,d',by rw [List.getElem?_set_ne (Ne.symm hxu)];exact h2,h3,h4⟩
  |alc x o=>
   obtain ⟨k1,k2⟩:=hb.objAt h.wf h0 hq hd hn hs.1 (set_obj hd hn hs.1.obj).2
   exact ⟨k1,k2 _ _ hs.2⟩
  |el x o sz k j=>
   obtain ⟨g1,s,g2,g3⟩:=hs
   obtain ⟨k1,k2⟩:=hb.objAt h.wf h0 hq hd hn g1 (set_obj hd hn g1.obj).2
   exact ⟨k1,s,k2 _ _ g2,g3⟩
  |es x sz k j=>
   obtain ⟨⟨d',h2,h3,h4⟩,s,h1,h5⟩:=hs
   by_cases hxu:x=u
   ·subst hxu
    exact ⟨⟨r0,by rw [List.getElem?_set_self hlt],ho,h4⟩,s,h1,h5⟩
   ·exact ⟨⟨d',by rw [List.getElem?_set_ne (Ne.symm hxu)];exact h2,h3,h4⟩,s,h1,h5⟩
  |_=>exact ⟨hb.rep h.wf h0 hq hd hn hiu hs.1 hs.2,hrk _ hs.2⟩
def Sig.set (S:Sig) (b0:Nat) (x:Option (Place × Nat)):Sig:=⟨fun b=>if b=b0 then x else S.own b,S.loc⟩
theorem Sig.set_at (S:Sig) (b0:Nat) (x:Option (Place × Nat)):(S.set b0 x).own b0=x:=if_pos rfl
theorem Sig.set_ne (S:Sig) {b:Nat} (x:Option (Place × Nat)) (h:b ≠ b0):(S.set b0 x).own b=S.own b:=if_neg h
theorem BT.ghost {S:Sig} (hw:WF S w) (h0:S.own b0=some (q0,l0)) (hq:q0.r ≠ 0) {x:Option (Place × Nat)} (hx:∀ y,x=some y→l0≤y.2):BT S w (S.set b0 x) w b0:=by
 refine ⟨⟨rfl,rfl,rfl,Nat.le_refl _,fun b hb hn=>⟨rfl,?_⟩,fun b p l hb hs hd=>⟨rfl,?_⟩,fun b p l hb hs=>⟨Keeps.refl _ _,fun y hy => ?_⟩,rfl⟩,⟨fun b y hy => ?_,hw.gl.sig fun b hn => ?_⟩,rfl,fun _ _ _=>rfl,fun b hb hne=>S.set_ne x hne⟩
 ·rw [S.set_ne x (fun e=>by subst e;rw [h0] at hn;cases hn)];exact hn
 ·rw [S.set_ne x (fun e=>by subst e;rw [h0] at hs;cases hs;exact hq hd)];exact hs
 ·by_cases hbb:b=b0
  ·subst hbb
   rw [S.set_at] at hy
   rw [h0] at hs
   cases hs
   exact hx y hy
  ·rw [S.set_ne x hbb,hs] at hy
   cases hy
   exact Nat.le_refl _
 ·by_cases hbb:b=b0
  ·subst hbb;exact hw _ _ h0
  ·rw [S.set_ne x hbb] at hy;exact hw _ _ hy
 ·rw [S.set_ne x (fun e=>by subst e;rw [h0] at hn;cases hn)];exact hn
theorem OwnAt.fz2 {S:Sig} {p:Place} {b cap m sz:Nat} {rows:List (List D)} {cur:Array Value} {e:TypeId} (h:OwnAt S w p b cap m sz rows cur e) {lim':Nat→Option Nat} (ht:∀ {v:Value} {d:D},Fz S.lim w v d→Fz lim' w' v d) (hh:w'.heap[b]?=w.heap[b]?) (hl':∀ k,k < rows.length * sz→OkC lim' b k):
  Fz lim' w' (.slice (some ⟨b,0,none⟩) rows.length cap) (.sl 0 sz rows):=by
 have hex:∀ k j,∃ v:Value,∀ r d,rows[k]?=some r→r[j]?=some d→cur[k * sz+j]?=some v∧v.oneCell'=true∧Fz S.lim w v d:=fun k j=>by
  cases hr:rows[k]? with
  |none=>exact ⟨undef,fun r d h1=>by cases h1⟩
  |some r=>
   cases hd:r[j]? with
   |none=>exact ⟨undef,fun r' d h1 h2=>by cases h1;rw [hd] at h2;cases h2⟩
   |some d=>
    obtain ⟨v,hv⟩:=h.cells k r j d hr hd
    exact ⟨v,fun r' d' h1 h2=>by cases h1;rw [hd] at h2;cases h2;exact hv⟩
 let cv:Nat→Nat→Value:=fun k j=>Classical.choose (hex k j)
 have hcv:∀ k j r d,rows[k]?=some r→r[j]?=some d→cur[k * sz+j]?=some (cv k j)∧(cv k j).oneCell'=true∧Fz S.lim w (cv k j) d:=fun k j=>Classical.choose_spec (hex k j)
 refine .sl cv h.le h.max (fun k r hr=>h.each r (gMem hr)) (fun k r j d hr hd => ?_) (fun k r j d hr hd=>ht (hcv k j r d hr hd).2.2)
 obtain ⟨h1,h2,_⟩:=hcv k j r d hr hd
 have hk:k < rows.length:=(gLt hr)
 have hj:j < sz:=by rw [← h.each r (gMem hr)];exact (gLt hd)
 have hks:(k+1) * sz≤rows.length * sz:=Nat.mul_le_mul_right _ hk
 rw [Nat.add_mul] at hks
 refine ⟨by rw [cell_of_row w' b _ cur e (0,0) (hh.trans h.heap),Nat.zero_add];exact h1,?_,h2⟩
 rw [Nat.zero_add]
 exact hl' _ (by omega)
theorem Rep.sl_inv {S:Sig} {p:Place} {v:Value} {m sz:Nat} {rows:List (List D)} (h:Rep S w p v (.sl (m+1) sz rows)):(v=.slice none 0 0∧rows = [])∨∃ b cap cur e,v=.slice (some ⟨b,0,none⟩) rows.length cap∧OwnAt S w p b cap (m+1) sz rows cur e:=by
 cases h with
 |fz h=>cases h with|slNil=>exact .inl ⟨rfl,rfl⟩
 |own g=>exact .inr ⟨_,_,_,_,rfl,g⟩
theorem no_men_sl {m sz t:Nat} {rows:List (List D)}:¬ Men t (.sl m sz rows):=fun h=>by cases h
theorem FR.renil {S:Sig} {fr:List D} (h:FR S w a fr) {d0:D} (hd:fr[u]?=some d0) (hn:d0.isObj=false) (hv:a.tmps[u]?=some (.slice none 0 0)) {r r0:D} (hr:r=.any∨r=.nil∨∃ m sz,r=.sl m sz []) (hr0:r0=.any∨r0=.nil∨∃ m sz,r0=.sl m sz []):
  FR S w a ((fr.map (unal u r)).set u r0):=by
 have hlt:u < fr.length:=(gLt hd)
 have fzr:∀ r:D,(r=.any∨r=.nil∨∃ m sz,r=.sl m sz [])→Fz S.lim w (.slice none 0 0) r:=by
  rintro r (rfl|rfl|⟨m,sz,rfl⟩)
  ·exact .any _
  ·exact .nil
  ·exact .slNil m sz
 have hrk:∀ e,RefOk fr e→RefOk ((fr.map (unal u r)).set u r0) e:=fun e he x hx=>by
  obtain ⟨cs,hc⟩:=he x hx
  have hxu:u ≠ x:=fun e=>by subst e;rw [hd] at hc;cases hc;cases hn
  exact ⟨cs,by rw [List.getElem?_set_ne hxu,List.getElem?_map,hc];rfl⟩
 refine ⟨h.wf,by simp [h.size],h.defers,fun i e v hi hv' => ?_⟩
 by_cases hiu:i=u
 ·subst hiu
  rw [List.getElem?_set_self (by simpa using hlt)] at hi
  rw [hv] at hv'
  cases hi;cases hv'
  exact SlotRep.of (.fz (fzr _ hr0)) fun t ht=>((fzr _ hr0).men ht).elim
 ·rw [List.getElem?_set_ne (Ne.symm hiu),List.getElem?_map] at hi
  cases hfi:fr[i]? with
  |none=>rw [hfi] at hi;cases hi
  |some e0=>
   rw [hfi] at hi
   cases hi
   have hs:=h.slot i e0 v hfi hv'
   cases e0 with
   |al x=>
    obtain ⟨h1,d',h2,h3,h4⟩:=hs
    by_cases hxu:x=u
    ·subst hxu
     rw [hv] at h1
     cases h1
     simp only [unal,if_true]
     exact SlotRep.of (.fz (fzr _ hr)) fun t ht=>((fzr _ hr).men ht).elim
    ·simp only [unal,if_neg hxu]
     refine ⟨h1,d',?_,h3,h4⟩
     rw [List.getElem?_set_ne (Ne.symm hxu),List.getElem?_map,h2]
     cases d'<;>first|rfl|cases h3
   |alc x o=>exact ⟨hs.1.mono (w:=w) (w':=w) (unal_obj (set_obj (r0:=.any) hd hn hs.1.obj).1 hs.1.obj) rfl rfl,hs.2⟩
   |el x o sz k j=>exact ⟨hs.1.mono (w:=w) (w':=w) (unal_obj (set_obj (r0:=.any) hd hn hs.1.obj).1 hs.1.obj) rfl rfl,hs.2⟩
   |es x sz k j=>
    obtain ⟨⟨d',h2,h3,h4⟩,s,h1,h5⟩:=hs
    by_cases hxu:x=u
    ·subst hxu
     simp only [unal,if_true]
     exact SlotRep.of (.fz (.any _)) fun t ht=>by cases ht
    ·simp only [unal,if_neg hxu]
     refine ⟨⟨d',?_,h3,h4⟩,s,h1,h5⟩
     rw [List.getElem?_set_ne (Ne.symm hxu),List.getElem?_map,h2]
     cases d'<;>first|rfl|cases h3
   |_=>exact ⟨hs.1,hrk _ hs.2⟩
theorem FR.forget {S:Sig} {fr:List D} (h:FR S w a fr) {d0:D} (hd:fr[u]?=some d0) (hn:d0.isObj=false):FR S w a ((fr.map (unal u .any)).set u .any):=by
 have hlt:u < fr.length:=(gLt hd)
 have hrk:∀ e,RefOk fr e→RefOk ((fr.map (unal u .any)).set u .any) e:=fun e he x hx=>by
  obtain ⟨cs,hc⟩:=he x hx
  have hxu:u ≠ x:=fun e=>by subst e;rw [hd] at hc;cases hc;cases hn
  exact ⟨cs,by rw [List.getElem?_set_ne hxu,List.getElem?_map,hc];rfl⟩
 refine ⟨h.wf,by simp [h.size],h.defers,fun i e v hi hv' => ?_⟩
 by_cases hiu:i=u
 ·subst hiu
  rw [List.getElem?_set_self (by simpa using hlt)] at hi
  cases hi
  exact SlotRep.of (.fz (.any _)) fun t ht=>by cases ht
 ·rw [List.getElem?_set_ne (Ne.symm hiu),List.getElem?_map] at hi
  cases hfi:fr[i]? with
  |none=>rw [hfi] at hi;cases hi
  |some e0=>
   rw [hfi] at hi
   cases hi
   have hs:=h.slot i e0 v hfi hv'
   cases e0 with
   |al x=>
    obtain ⟨h1,d',h2,h3,h4⟩:=hs
    by_cases hxu:x=u
    ·simp only [unal,if_pos hxu]
     exact SlotRep.of (.fz (.any _)) fun t ht=>by cases ht
    ·simp only [unal,if_neg hxu]
     refine ⟨h1,d',?_,h3,h4⟩
     rw [List.getElem?_set_ne (Ne.symm hxu),List.getElem?_map,h2]
     cases d'<;>first|rfl|cases h3
   |alc x o=>exact ⟨hs.1.mono (w:=w) (w':=w) (unal_obj (set_obj (r0:=.any) hd hn hs.1.obj).1 hs.1.obj) rfl rfl,hs.2⟩
   |el x o sz k j=>exact ⟨hs.1.mono (w:=w) (w':=w) (unal_obj (set_obj (r0:=.any) hd hn hs.1.obj).1 hs.1.obj) rfl rfl,hs.2⟩
   |es x sz k j=>
    obtain ⟨⟨d',h2,h3,h4⟩,s,h1,h5⟩:=hs
    by_cases hxu:x=u
    ·subst hxu
     simp only [unal,if_true]
     exact SlotRep.of (.fz (.any _)) fun t ht=>by cases ht
    ·simp only [unal,if_neg hxu]
     refine ⟨⟨d',?_,h3,h4⟩,s,h1,h5⟩
     rw [List.getElem?_set_ne (Ne.symm hxu),List.getElem?_map,h2]
     cases d'<;>first|rfl|cases h3
   |_=>exact ⟨hs.1,hrk _ hs.2⟩
theorem FR.freeze {S:Sig} {fr:List D} (h:FR S w a fr) {m sz:Nat} {rows:List (List D)} (hd:fr[u]?=some (.sl (m+1) sz rows)):
  ∃ S',Trans S w S' w∧FR S' w a ((fr.map (unal u (.sl 0 sz rows))).set u (.sl 0 sz rows)):=by
 obtain ⟨v,hv,hs⟩:=h.at hd
 rcases hs.1.sl_inv with ⟨rfl,rfl⟩|⟨b,cap,cur,e,rfl,g⟩
 ·exact ⟨S,Trans.refl S w,h.renil hd rfl hv (.inr (.inr ⟨_,_,rfl⟩)) (.inr (.inr ⟨_,_,rfl⟩))⟩
 ·have hb:BT S w (S.set b none) w b:=BT.ghost h.wf g.own (by simp [Place.slot]) (fun y hy=>by cases hy)
  have hf:Fz (S.set b none).lim w (.slice (some ⟨b,0,none⟩) rows.length cap) (.sl 0 sz rows):=g.fz2 (fun h=>h.trans hb.tr) rfl (fun k _ s hs=>by simp [Sig.lim,S.set_at] at hs)
  refine ⟨_,hb.tr,h.rebuild hb g.own rfl hd rfl (fun v' p hv' => ?_) (fun t=>no_men_sl) (fun v' hv' => ?_) (fun t=>no_men_sl)⟩
  all_goals
   rw [hv] at hv'
   cases hv'
   exact .fz hf
theorem FR.down {S:Sig} {fr:List D} (h:FR S w a fr) {sz:Nat} {rows:List (List D)} (hd:fr[u]?=some (.sl 2 sz rows)):
  ∃ S',Trans S w S' w∧FR S' w a (fr.set u (.sl 1 sz rows)):=by
 obtain ⟨v,hv,hs⟩:=h.at hd
 rcases hs.1.sl_inv with ⟨rfl,rfl⟩|⟨b,cap,cur,e,rfl,g⟩
 ·refine ⟨S,Trans.refl S w,⟨h.wf,by simp [h.size],h.defers,fun i e v hi hv' => ?_⟩⟩
  have hlt:u < fr.length:=(gLt hd)
  have hrk:∀ e,RefOk fr e→RefOk (fr.set u (.sl 1 sz [])) e:=fun e he x hx=>by
   obtain ⟨cs,hc⟩:=he x hx
   have hxu:u ≠ x:=fun e=>by subst e;rw [hd] at hc;cases hc
   exact ⟨cs,by rw [List.getElem?_set_ne hxu];exact hc⟩
  by_cases hiu:i=u
  ·subst hiu
   rw [List.getElem?_set_self hlt] at hi
   rw [hv] at hv'
   cases hi;cases hv'
   exact SlotRep.of (.fz (.slNil 1 sz)) fun t ht=>(no_men_sl ht).elim
  ·rw [List.getElem?_set_ne (Ne.symm hiu)] at hi
   have hs:=h.slot i e v hi hv'
   cases e with
   |al x=>
    obtain ⟨h1,d',h2,h3,h4⟩:=hs
    by_cases hxu:x=u
    ·subst hxu
     exact ⟨h1,_,by rw [List.getElem?_set_self hlt],rfl,h4⟩
    ·exact ⟨h1,d',by rw [List.getElem?_set_ne (Ne.symm hxu)];exact h2,h3,h4⟩
   |alc x o=>exact ⟨hs.1.mono (w:=w) (w':=w) (set_obj hd rfl hs.1.obj).2 rfl rfl,hs.2⟩
   |el x o sz k j=>exact ⟨hs.1.mono (w:=w) (w':=w) (set_obj hd rfl hs.1.obj).2 rfl rfl,hs.2⟩
   |es x sz k j=>
    obtain ⟨⟨d',h2,h3,h4⟩,s,h1,h5⟩:=hs
    by_cases hxu:x=u
    ·subst hxu
     exact ⟨⟨_,by rw [List.getElem?_set_self hlt],rfl,h4⟩,s,h1,h5⟩
    ·exact ⟨⟨d',by rw [List.getElem?_set_ne (Ne.symm hxu)];exact h2,h3,h4⟩,s,h1,h5⟩
   |_=>exact ⟨hs.1,hrk _ hs.2⟩
 ·have hown:=g.own
  simp only [if_true] at hown
  have hb:BT S w (S.set b (some (.slot u,rows.length * sz))) w b:=BT.ghost h.wf g.own (by simp [Place.slot]) (fun y hy=>by cases hy;simp)
  refine ⟨_,hb.tr,h.reown hb g.own rfl hd rfl (fun v' hv' => ?_) (fun t=>no_men_sl) rfl⟩
  rw [hv] at hv'
  cases hv'
  refine .own ⟨.inl rfl,g.heap,g.le,g.max,g.size,g.each,by rw [S.set_at];rfl,fun k r j d k1 k2 => ?_⟩
  obtain ⟨x,x1,x2,x3⟩:=g.cells k r j d k1 k2
  exact ⟨x,x1,x2,x3.trans hb.tr⟩
theorem FR.take {S:Sig} {fr:List D} (h:FR S w a fr) {m sz:Nat} (p:Place) {rows:List (List D)} (hd:fr[u]?=some (.sl (m+1) sz rows)):
  ∃ S' v,Trans S w S' w∧a.tmps[u]?=some v∧FR S' w a ((fr.map (unal u .any)).set u .any)∧Rep S' w p v (.sl (m+1) sz rows):=by
 obtain ⟨v,hv,hs⟩:=h.at hd
 rcases hs.1.sl_inv with ⟨rfl,rfl⟩|⟨b,cap,cur,e,rfl,g⟩
 ·exact ⟨S,_,Trans.refl S w,hv,h.renil hd rfl hv (.inl rfl) (.inl rfl),.fz (.slNil _ _)⟩
 ·have hb:BT S w (S.set b (some (p,if m+1=2 then 0 else rows.length * sz))) w b:=BT.ghost h.wf g.own (by simp [Place.slot]) (fun y hy=>by cases hy;simp)
  refine ⟨_,_,hb.tr,hv,h.rebuild hb g.own rfl hd rfl (fun v' p hv'=>.fz (.any _)) (fun t ht=>by cases ht) (fun v' hv'=>.fz (.any _)) (fun t ht=>by cases ht),?_⟩
  refine .own ⟨g.mode,g.heap,g.le,g.max,g.size,g.each,by rw [S.set_at],fun k r j d k1 k2 => ?_⟩
  obtain ⟨x,x1,x2,x3⟩:=g.cells k r j d k1 k2
  exact ⟨x,x1,x2,x3.trans hb.tr⟩
theorem FR.takeMp {S:Sig} {fr:List D} (h:FR S w a fr) (p:Place) {kd:KD} (hd:fr[u]?=some (.mp kd es)):
  ∃ S' v,Trans S w S' w∧a.tmps[u]?=some v∧FR S' w a ((fr.map (unal u .any)).set u .any)∧Rep S' w p v (.mp kd es):=by
 obtain ⟨v,hv,hs⟩:=h.at hd
 obtain ⟨b,clock,ents,rfl,hb,hh,he,hk⟩:=hs.1.mp_inv
 have hbt:BT S w (S.set b (some (p,0))) w b:=BT.ghost h.wf hb (by simp [Place.slot]) (fun y hy=>by cases hy;simp)
 exact ⟨_,_,hbt.tr,hv,h.rebuild hbt hb rfl hd rfl (fun v' p hv'=>.fz (.any _)) (fun t ht=>by cases ht) (fun v' hv'=>.fz (.any _)) (fun t ht=>by cases ht),.mp (S.set_at _ _) hh he hk⟩
theorem FR.setMap {S:Sig} {fr:List D} (h:FR S w a fr) {b clock clock':Nat} {kd:KD} {es':List (Value × Value)} {ents ents':Array MapEntry} (hd:fr[u]?=some (.mp kd es)) (hv:a.tmps[u]?=some (.map (some b))) (hb:S.own b=some (.slot u,0)) (hh:w.heap[b]?=some (.map ents clock)) (he:ents'.toList.map pr=es'∧Stamped ents' clock') (hk:∀ x ∈ es',fitK kd x.1=true):
  Trans S w S (World.setMap w b (.map ents' clock'))∧FR S (World.setMap w b (.map ents' clock')) a (fr.set u (.mp kd es')):=by
 obtain ⟨h1,h2⟩:=MapKept.heap_set (o':=.map ents' clock') hh
 have other:∀ c,c ≠ b→(World.setMap w b (.map ents' clock')).heap[c]?=w.heap[c]?:=h2
 have hsz:(World.setMap w b (.map ents' clock')).heap.size=w.heap.size:=by simp [World.setMap]
 have htr:Trans S w S (World.setMap w b (.map ents' clock')):=by
  refine ⟨rfl,rfl,rfl,by rw [hsz];exact Nat.le_refl _,fun k hk hn=>⟨other k (fun e=>by subst e;rw [hb] at hn;cases hn),hn⟩,fun k p l hk hs hp=>⟨other k (fun e=>by subst e;rw [hb] at hs;cases hs;simp [Place.slot] at hp),hs⟩,fun k p l hk hs=>⟨?_,fun x hx=>by rw [hs] at hx;cases hx;exact Nat.le_refl _⟩,rfl⟩
  by_cases hkb:k=b
  ·subst hkb
   intro cur e fz h3
   rw [hh] at h3
   cases h3
  ·exact Keeps.of_eq (other k hkb)
 have hbt:BT S w S (World.setMap w b (.map ents' clock')) b:=⟨htr,h.wf.of htr fun k x hx=>by rw [hsz];exact h.wf k x hx,rfl,fun k _ hne=>other k hne,fun k _ _=>rfl⟩
 refine ⟨htr,h.reown hbt hb rfl hd rfl (fun v' hv' => ?_) (fun t ht=>by cases ht) rfl⟩
 rw [hv] at hv'
 cases hv'
 exact .mp hb h1 he hk
theorem putV_fit {kd:KD} {k v:Value} (hk:fitK kd k=true):∀ {es:List (Value × Value)},(∀ x ∈ es,fitK kd x.1=true)→∀ x ∈ putV k v es,fitK kd x.1=true
 |[],_,x,hx=>by
  simp only [putV,List.mem_singleton] at hx
  subst hx
  exact hk
 |e::es,h,x,hx=>by
  simp only [putV] at hx
  split at hx
  ·rcases List.mem_cons.1 hx with rfl|hx
   ·exact hk
   ·exact h x (by simp [hx])
  ·rcases List.mem_cons.1 hx with rfl|hx
   ·exact h _ (by simp)
   ·exact putV_fit hk (fun y hy=>h y (by simp [hy])) x hx
theorem delV_fit {kd:KD} {k:Value}:∀ {es:List (Value × Value)},(∀ x ∈ es,fitK kd x.1=true)→∀ x ∈ delV k es,fitK kd x.1=true
 |[],_,x,hx=>by cases hx
 |e::es,h,x,hx=>by
  simp only [delV] at hx
  split at hx
  ·exact h x (by simp [hx])
  ·rcases List.mem_cons.1 hx with rfl|hx
   ·exact h _ (by simp)
   ·exact delV_fit (fun y hy=>h y (by simp [hy])) x hx
theorem FR.putOwn' {S:Sig} {fr:List D} (h:FR S w a fr) {t:Nat} {v:Value} {d d0:D} (h0:fr[t]?=some d0) (hn:d0.isObj=false) (hsr:SlotRep S w (a.put (some t) v) ((fr.map (unal t .any)).set t d) t v d):
  FR S w (a.put (some t) v) ((fr.map (unal t .any)).set t d):=by
 have hlt:t < fr.length:=(gLt h0)
 have hrk:∀ e,RefOk fr e→RefOk ((fr.map (unal t .any)).set t d) e:=fun e he x hx=>by
  obtain ⟨cs,hc⟩:=he x hx
  have hxt:t ≠ x:=fun e=>by subst e;rw [h0] at hc;cases hc;cases hn
  exact ⟨cs,by rw [List.getElem?_set_ne hxt,List.getElem?_map,hc];rfl⟩
 refine ⟨h.wf,by simp [Act.put,h.size],by simp [Act.put,h.defers],fun i e u hi hu => ?_⟩
 by_cases hit:i=t
 ·subst hit
  rw [List.getElem?_set_self (by simpa using hlt)] at hi
  rw [put_tmps_eq (by rw [h.size];exact hlt)] at hu
  cases hi;cases hu
  exact hsr
 ·rw [List.getElem?_set_ne (Ne.symm hit),List.getElem?_map] at hi
  rw [put_tmps_ne hit] at hu
  cases hfi:fr[i]? with
  |none=>rw [hfi] at hi;cases hi
  |some e0=>
   rw [hfi] at hi
   cases hi
   have hs:=h.slot i e0 u hfi hu
   cases e0 with
   |al x=>
    obtain ⟨h1,d',h2,h3,h4⟩:=hs
    by_cases hxt:x=t
    ·simp only [unal,if_pos hxt]
     exact SlotRep.of (.fz (.any _)) fun t ht=>by cases ht
    ·simp only [unal,if_neg hxt]
     refine ⟨by rw [put_tmps_ne hxt];exact h1,d',?_,h3,h4⟩
     rw [List.getElem?_set_ne (Ne.symm hxt),List.getElem?_map,h2]
     cases d'<;>first|rfl|cases h3
   |alc x o=>exact ⟨hs.1.mono (w:=w) (w':=w) (unal_obj (set_obj (r0:=.any) h0 hn hs.1.obj).1 hs.1.obj) rfl rfl,hs.2⟩
   |el x o sz k j=>exact ⟨hs.1.mono (w:=w) (w':=w) (unal_obj (set_obj (r0:=.any) h0 hn hs.1.obj).1 hs.1.obj) rfl rfl,hs.2⟩
   |es x sz k j=>
    obtain ⟨⟨d',h2,h3,h4⟩,s,h1,h5⟩:=hs
    by_cases hxt:x=t
    ·simp only [unal,if_pos hxt]
     exact SlotRep.of (.fz (.any _)) fun t ht=>by cases ht
    ·simp only [unal,if_neg hxt]
     refine ⟨⟨d',?_,h3,h4⟩,s,by rw [put_tmps_ne hxt];exact h1,h5⟩
     rw [List.getElem?_set_ne (Ne.symm hxt),List.getElem?_map,h2]
     cases d'<;>first|rfl|cases h3
   |_=>exact ⟨hs.1,hrk _ hs.2⟩
theorem FR.putOwn {S:Sig} {fr:List D} (h:FR S w a fr) {t:Nat} {v:Value} {d d0:D} (h0:fr[t]?=some d0) (hn:d0.isObj=false) (hr:Rep S w (.slot t) v d) (hf:RefOk fr d):
  FR S w (a.put (some t) v) ((fr.map (unal t .any)).set t d):=
 h.putOwn' h0 hn (SlotRep.of hr fun x hx=>by
  obtain ⟨cs,hc⟩:=hf x hx
  have hxt:t ≠ x:=fun e=>by subst e;rw [h0] at hc;cases hc;cases hn
  exact ⟨cs,by rw [List.getElem?_set_ne hxt,List.getElem?_map,hc];rfl⟩)
theorem FR.unal_none {S:Sig} {fr:List D} (h:FR S w a fr) {t:Nat} {d0:D} (h0:fr[t]?=some d0) (hn:d0.owns=false):fr.map (unal t .any)=fr:=by
 apply List.ext_getElem?
 intro i
 rw [List.getElem?_map]
 cases hi:fr[i]? with
 |none=>rfl
 |some e=>
  obtain ⟨v,hv,hs⟩:=h.at hi
  cases e with
  |al x=>
   obtain ⟨_,d',h2,h3,_⟩:=hs
   have hxt:x ≠ t:=fun e=>by subst e;rw [h0] at h2;cases h2;rw [hn] at h3;cases h3
   simp only [Option.map_some,unal,if_neg hxt]
  |es x sz k j=>
   obtain ⟨⟨d',h2,h3,_⟩,_⟩:=hs
   have hxt:x ≠ t:=fun e=>by subst e;rw [h0] at h2;cases h2;rw [hn] at h3;cases h3
   simp only [Option.map_some,unal,if_neg hxt]
  |_=>rfl
theorem FR.putNm {S:Sig} {fr:List D} (h:FR S w a fr) {t:Nat} {v:Value} {d d0:D} (h0:fr[t]?=some d0) (hn:d0.isObj=false) (hd:d.isNm=true) (hsl:SlotRep S w a fr t v d):
  FR S w (a.put (some t) v) ((fr.map (unal t .any)).set t d):=by
 refine h.putOwn' h0 hn ?_
 have hobj:∀ {x},ObjAt S fr x→ObjAt S ((fr.map (unal t .any)).set t d) x:=fun {x} hx=>
  hx.mono (w:=w) (w':=w) (unal_obj (set_obj (r0:=.any) h0 hn hx.obj).1 hx.obj) rfl rfl
 have howns:∀ {x:Nat} {d':D},x ≠ t→fr[x]?=some d'→d'.owns=true→((fr.map (unal t .any)).set t d)[x]?=some d':=fun {x d'} hx h2 h3=>by
  rw [List.getElem?_set_ne (Ne.symm hx),List.getElem?_map,h2]
  cases d'<;>first|rfl|cases h3
 cases d with
 |al x=>
  obtain ⟨h1,d',h2,h3,h4⟩:=hsl
  exact ⟨by rw [put_tmps_ne h4];exact h1,d',howns h4 h2 h3,h3,h4⟩
 |alc x o=>exact ⟨hobj hsl.1,hsl.2⟩
 |el x o sz k j=>exact ⟨hobj hsl.1,hsl.2⟩
 |es x sz k j=>
  obtain ⟨⟨d',h2,h3,h4⟩,s,h1,h5⟩:=hsl
  exact ⟨⟨d',howns h4 h2 h3,h3,h4⟩,s,by rw [put_tmps_ne h4];exact h1,h5⟩
 |_=>cases hd
def D.nm3:D→Bool
 |.alc _ _ | .el _ _ _ _ _ | .es _ _ _ _=>true
 |_=>false
def noN (d:D):D:=match d.nm3 with
 |true=>.any
 |false=>d
theorem noN_owns {d:D} (h:d.owns=true):noN d=d:=by
 cases d<;>first|rfl|cases h
theorem noN_map {fr:List D} (h:fr.any D.nm3=false):fr.map noN=fr:=by
  have:∀ d ∈ fr,noN d=d:=fun d hd=>by
    have:=List.any_eq_false.1 h d hd
    unfold noN
    rw [Bool.not_eq_true] at this
    rw [this]
  calc fr.map noN=fr.map id:=List.map_congr_left this
    _=fr:=List.map_id fr
def dropN (fr:List D):List D:=match fr.any D.nm3 with
 |true=>fr.map noN
 |false=>fr
theorem dropN_eq (fr:List D):dropN fr=fr.map noN:=by
 unfold dropN
 split
 ·rfl
 ·rename_i h;exact (noN_map h).symm
theorem dropN_len (fr:List D):(dropN fr).length=fr.length:=by rw [dropN_eq,List.length_map]
theorem dropN_no {fr:List D} {i:Nat} {d:D} (h:(dropN fr)[i]?=some d):d.nm3=false:=by
 rw [dropN_eq,List.getElem?_map] at h
 cases hi:fr[i]? with
 |none=>rw [hi] at h;cases h
 |some e=>
  rw [hi] at h
  cases h
  unfold noN
  cases he:e.nm3 with
  |true=>rfl
  |false=>exact he
theorem FR.dropN {S:Sig} {fr:List D} (h:FR S w a fr):FR S w a (Go.Proofs.YtindehjiaknokaaGreatDoor.dropN fr):=by
 rw [dropN_eq]
 have hrk:∀ e,RefOk fr e→RefOk (fr.map noN) e:=fun e he x hx=>by
  obtain ⟨cs,hc⟩:=he x hx
  exact ⟨cs,by rw [List.getElem?_map,hc];rfl⟩
 refine ⟨h.wf,by simp [h.size],h.defers,fun i e v hi hv => ?_⟩
 rw [List.getElem?_map] at hi
 cases hfi:fr[i]? with
 |none=>rw [hfi] at hi;cases hi
 |some e0=>
  rw [hfi] at hi
  cases hi
  have hs:=h.slot i e0 v hfi hv
  have any:SlotRep S w a (fr.map noN) i v .any:=SlotRep.of (.fz (.any _)) fun t ht=>by cases ht
  cases e0 with
  |al x=>
   obtain ⟨h1,d',h2,h3,h4⟩:=hs
   exact ⟨h1,d',by rw [List.getElem?_map,h2];exact congrArg some (noN_owns h3),h3,h4⟩
  |alc x o=>exact any
  |el x o sz k j=>exact any
  |es x sz k j=>exact any
  |_=>exact ⟨hs.1,hrk _ hs.2⟩
end Go.Proofs.YtindehjiaknokaaGreatDoor
namespace Go.Proofs.YtindehjiaknokaaGreatDoor
set_option linter.unusedSimpArgs false
set_option linter.unusedVariables false
open Go.RowKit
variable {K:Act→World→Prop} {Q:Exit→Act→World→Prop} {bytes:Nat} {dst:Option Tmp} {news zc:List Value} {p:Place} {rows rows2:List (List D)} {s x:Operand} {txt:List UInt8}
section
variable {P:Program} (w:World)
theorem run_room (t ty e e0:TypeId) (i:TypeInfo) (ht:P.underlying t=some (.slice e)) (hi:P.info? e=some i)
  (g sLen sCap:Nat) (cur:Array Value) (hg:w.heap[g]?=some (.cells cur e0 (0,0)))
  (a:Addr) (m c:Nat) (news:List Value) (hl:news.length=m * i.size) (hnews:∀ (j:Nat) (u:Value),news[j]?=some u→w.cell? (a.add j)=some u) (h1:∀ u ∈ news,u.oneCell'=true)
  (hroom:sLen+m≤sCap) (hfit:sLen * i.size+news.length≤cur.size):
  (Builtin.append_ #[t,t] ty #[.slice (some ⟨g,0,none⟩) sLen sCap,.slice (some a) m c]).run P w =
   .ok (.slice (some ⟨g,0,none⟩) (sLen+m) sCap) (w.setRow g (cur.toList.take (sLen * i.size)++news++cur.toList.drop (sLen * i.size+news.length)).toArray):=by
 have hf:=run_firstCells_some (P:=P) w i.size m a m c news hl hnews
 have hst:=run_storeCells_at P g (sLen * i.size) e0 news 0 cur w hg (by simpa using hfit) h1
 simp only [Nat.add_zero] at hst
 simp [Builtin.append_,run_underlying ht,sizeOf,typeInfo,hi,Builtin.lenOf,hroom,hf,Addr.add_lit,hst]
theorem run_room_none (t ty e:TypeId) (i:TypeInfo) (ht:P.underlying t=some (.slice e)) (hi:P.info? e=some i) (A A2:Option Addr) (sLen sCap:Nat) (hle:sLen≤sCap):
  (Builtin.append_ #[t,t] ty #[.slice A sLen sCap,.slice A2 0 0]).run P w=.ok (.slice A sLen sCap) w:=by
 cases A<;>cases A2<;>simp [Builtin.append_,run_underlying ht,sizeOf,typeInfo,hi,Builtin.lenOf,hle,Builtin.firstCells,storeCells,loadCells,loadCellsFrom]
end
theorem rows_append {S:Sig} {w:World} {n sz:Nat} {xs:List Value} (hn:rows.length=n) (hx:xs.length=n * sz) (h1:∀ (k:Nat) (r:List D) (j:Nat) (d:D),rows[k]?=some r→r[j]?=some d→∃ u,xs[k * sz+j]?=some u∧u.oneCell'=true∧Fz S.lim w u d)
  (h2:∀ (k:Nat) (r:List D) (j:Nat) (d:D),rows2[k]?=some r→r[j]?=some d→∃ u,news[k * sz+j]?=some u∧u.oneCell'=true∧Fz S.lim w u d) (he:∀ r ∈ rows,r.length=sz):
  ∀ (k:Nat) (r:List D) (j:Nat) (d:D),(rows++rows2)[k]?=some r→r[j]?=some d→∃ u,(xs++news)[k * sz+j]?=some u∧u.oneCell'=true∧Fz S.lim w u d:=by
 subst hn
 intro k r j d hk hd
 by_cases hkn:k < rows.length
 ·rw [List.getElem?_append_left hkn] at hk
  obtain ⟨u,u1,u2⟩:=h1 k r j d hk hd
  refine ⟨u,?_,u2⟩
  have hj:j < sz:=by rw [← he r (gMem hk)];exact (gLt hd)
  have:(k+1) * sz≤rows.length * sz:=Nat.mul_le_mul_right _ hkn
  rw [Nat.add_mul] at this
  rw [List.getElem?_append_left (by omega)]
  exact u1
 ·rw [List.getElem?_append_right (by omega)] at hk
  obtain ⟨u,u1,u2⟩:=h2 _ r j d hk hd
  refine ⟨u,?_,u2⟩
  have:(k - rows.length) * sz+rows.length * sz=k * sz:=by rw [← Nat.add_mul];congr 1;omega
  rw [List.getElem?_append_right (by omega),← u1,hx]
  congr 1
  omega
theorem fresh_own {S:Sig} {w w':World} (hw:WF S w) (hx:Ext w w') {g cap sz m:Nat} {e:TypeId} {CUR:Array Value} {xs:List Value} (hg:g=w.heap.size) (hh:w'.heap[g]?=some (.cells CUR e (0,0))) (hm:m=1∨m=2) (hle:rows.length≤cap) (hmax:cap≤maxLen) (hsz:CUR.size=cap * sz)
  (ht:CUR.toList.take (rows.length * sz)=xs) (he:∀ r ∈ rows,r.length=sz) (hr:∀ (k:Nat) (r:List D) (j:Nat) (d:D),rows[k]?=some r→r[j]?=some d→∃ u,xs[k * sz+j]?=some u∧u.oneCell'=true∧Fz S.lim w u d):
  ∃ S',PT S w S' w'∧Rep S' w' p (.slice (some ⟨g,0,none⟩) rows.length cap) (.sl m sz rows):=by
 let S':Sig:=⟨fun b=>if b=g then some (p,if m=2 then 0 else rows.length * sz) else S.own b,S.loc⟩
 have hlt:g < w'.heap.size:=(Array.getElem?_eq_some_iff.1 hh).1
 have hpt:PT S w S' w':=⟨hx,fun b hb'=>if_neg (by omega),rfl,⟨fun b x hbx=>by
  by_cases hbg:b=g
  ·subst hbg;exact hlt
  ·have:S.own b=some x:=by simpa [S',hbg] using hbx
   exact Nat.lt_of_lt_of_le (hw b x this) hx.sizeOf,hw.gl.keep fun b hb' hn=>⟨hx.block hb',(if_neg (by omega)).trans hn⟩⟩⟩
 refine ⟨S',hpt,.own ⟨hm,hh,hle,hmax,hsz,he,by simp [S'],fun k r j d hk hd => ?_⟩⟩
 obtain ⟨u,u1,u2,u3⟩:=hr k r j d hk hd
 refine ⟨u,?_,u2,u3.trans hpt.trans⟩
 rw [← ht,List.getElem?_take] at u1
 split at u1
 ·simpa using u1
 ·cases u1
def bytesV (s:List UInt8):List Value:=s.map fun b=>.int .u8 b.toNat
theorem bytesV_one {s:List UInt8}:∀ u ∈ bytesV s,u.oneCell'=true:=fun u hu=>by
 obtain ⟨b,_,rfl⟩:=List.mem_map.1 hu
 rfl
theorem bytesV_each {s:List UInt8}:∀ r ∈ s.map bR,r.length=1:=fun r hr=>by
 obtain ⟨b,_,rfl⟩:=List.mem_map.1 hr
 rfl
theorem bytesV_cells {s:List UInt8} {lim:Nat→Option Nat} {w:World} {k:Nat} {r:List D} {j:Nat} {d:D} (hk:(s.map bR)[k]?=some r) (hd:r[j]?=some d):∃ u,(bytesV s)[k * 1+j]?=some u∧u.oneCell'=true∧Fz lim w u d:=by
 rw [List.getElem?_map] at hk
 cases hs:s[k]? with
 |none=>rw [hs] at hk;cases hk
 |some b=>
  rw [hs] at hk
  cases hk
  cases j with
  |zero=>
   cases hd
   exact ⟨.int .u8 b.toNat,by rw [Nat.mul_one,Nat.add_zero];simp [bytesV,hs],rfl,.int _ _⟩
  |succ j=>simp [bR] at hd
section
variable {P:Program} {ty:TypeId} {pos:String} {after:Array Edge} {guard:Option (Nat × Bool)}
theorem wp_append_run {t xt:TypeId} {a:Act} {w w':World} {v:Value} (hr:(Builtin.append_ #[t,xt] ty #[a.eval s,a.eval x]).run P w=.ok v w') (hk:K (a.put dst v) w'):(Oper.mk dst (.call ⟨.builtin .append,#[s,x],#[t,xt]⟩) ty pos after guard).wp P a w K Q:=by
 unfold Oper.wp execOp
 simp only [resolve,invoke,builtin,Sem.run_bind,Sem.run_pure,Result.andThen_ok,List.map_toArray,List.map_cons,List.map_nil,hr]
 exact hk
theorem append_nil {t e sz:Nat} [TSlice P t e] [TElem P e sz bytes zc] {S:Sig} {w:World} (hw:WF S w) {a:Act} {q:Place} {m2:Nat} (hs:a.eval s=.slice none 0 0) (hx:Rep S w q (a.eval x) (.sl m2 sz rows2)) (hl:rows2.length≤1000000000) (hby:bytes≤1000) {mm:Nat} (hmm:mm=1∨mm=2)
  (hK:∀ v S' w',PT S w S' w'→Rep S' w' p v (.sl mm sz rows2)→K (a.put dst v) w'):(Oper.mk dst (.call ⟨.builtin .append,#[s,x],#[t,t]⟩) ty pos after guard).wp P a w K Q:=by
 obtain ⟨inf,z0,h1,h2,h3,h4,h5,h6⟩:=TElem.h (P:=P) (e:=e) (n:=sz) (bytes:=bytes) (zc:=zc)
 have ht:=TSlice.h (P:=P) (t:=t) (e:=e)
 subst h3;subst h4
 rcases hx.source with ⟨A2,hv,rfl⟩|⟨b,o,c,news,hv,k1,k2,k3,k4,k5⟩
 ·exact wp_append_run (by rw [hs,hv];exact run_room_none w t ty e inf ht h1 none A2 0 0 (Nat.le_refl _)) (hK _ S w (PT.refl hw) (.fz (.slNil mm inf.size)))
 ·rcases Nat.eq_zero_or_pos rows2.length with h0|h0
  ·have hn:news = []:=List.eq_nil_of_length_eq_zero (by rw [k1,h0];simp)
   obtain rfl:rows2 = []:=List.eq_nil_of_length_eq_zero h0
   subst hn
   refine wp_append_run (w':=w) (v:=.slice none 0 0) ?_ (hK _ S w (PT.refl hw) (.fz (.slNil mm inf.size)))
   rw [hs,hv]
   simp [Builtin.append_,run_underlying ht,sizeOf,typeInfo,h1,Builtin.lenOf,Builtin.firstCells,loadCells,loadCellsFrom]
  ·have hmul:rows2.length * inf.bytes≤1000000000 * 1000:=Nat.mul_le_mul hl hby
   have hr:=run_append_nil (P:=P) w t ty e inf z0 ht h1 h2 ⟨b,o,none⟩ rows2.length c news k1 (fun j u hu=>by rw [show (⟨b,o,none⟩:Addr).add j=⟨b,o+j,none⟩ by unfold Addr.add;split<;>simp_all];exact k2 j u hu) h0 (by omega) (by omega)
   refine wp_append_run (by rw [hs,hv];exact hr) ?_
   have hge:=grownCap_ge w rows2.length 0 e
   have hcm:grownCap w rows2.length 0 e≤maxLen:=grownCap_le_maxLen w rows2.length 0 e (by unfold maxLen;omega)
   obtain ⟨S',hp,hrep⟩:=fresh_own (p:=p) hw (w':=w.drew.alloc (.cells (news.toArray++Builtin.zeroCells z0.cells (grownCap w rows2.length 0 e - rows2.length)) e)) ((Ext.drew w).trans (Ext.alloc _ _)) rfl (heap_alloc_new w.drew _) hmm hge hcm
    (by simp only [Array.size_append,List.size_toArray,size_zeroCells,h5,k1,← Nat.add_mul];congr 1;omega) (xs:=news) (by simp only [Array.toList_append];rw [← k1];exact List.take_left) k4 (fun k r j d hk hd=>by
     obtain ⟨u,u1,u2⟩:=k5 k r j d hk hd
     exact ⟨u,u1,k3 u (gMem u1),u2⟩)
   exact hK _ S' _ hp hrep
theorem append_core {t xt e:TypeId} {inf:TypeInfo} {z0:Value} {sz:Nat} (h3:inf.size=sz) (h5:z0.cells.size=sz) {S:Sig} {w:World} {a:Act} {fr:List D} (hF:FR S w a fr) {u m b cap:Nat} {cur:Array Value} {e0:TypeId} (hd:fr[u]?=some (.sl (m+1) sz rows))
  (hs0:a.eval s=.slice (some ⟨b,0,none⟩) rows.length cap) (g:OwnAt S w (.slot u) b cap (m+1) sz rows cur e0) (k1:news.length=rows2.length * sz) (k3:∀ u ∈ news,u.oneCell'=true) (k4:∀ r ∈ rows2,r.length=sz)
  (k5:∀ (k:Nat) (r:List D) (j:Nat) (d:D),rows2[k]?=some r→r[j]?=some d→∃ u,news[k * sz+j]?=some u∧Fz S.lim w u d) (hl:rows.length+rows2.length≤1000000000) (hmm:m+1=1∨m+1=2)
  (hroomR:rows.length+rows2.length≤cap→(Builtin.append_ #[t,xt] ty #[.slice (some ⟨b,0,none⟩) rows.length cap,a.eval x]).run P w=.ok (.slice (some ⟨b,0,none⟩) (rows.length+rows2.length) cap) (w.setRow b (cur.toList.take (rows.length * sz)++news++cur.toList.drop (rows.length * sz+news.length)).toArray))
  (hgrowR:cap < rows.length+rows2.length→(∀ (j:Nat) (u:Value),(cur.toList.take (rows.length * sz))[j]?=some u→w.cell? ((⟨b,0,none⟩:Addr).add j)=some u)→(Builtin.append_ #[t,xt] ty #[.slice (some ⟨b,0,none⟩) rows.length cap,a.eval x]).run P w=.ok (.slice (some ⟨w.heap.size,0,none⟩) (rows.length+rows2.length) (grownCap w (rows.length+rows2.length) cap e)) (w.drew.alloc (.cells ((cur.toList.take (rows.length * sz)).toArray++news.toArray++Builtin.zeroCells z0.cells (grownCap w (rows.length+rows2.length) cap e - (rows.length+rows2.length))) e)))
  (hK:∀ v S' w',Trans S w S' w'→FR S' w' a ((fr.map (unal u .any)).set u .any)→Rep S' w' p v (.sl (m+1) sz (rows++rows2))→K (a.put dst v) w'):(Oper.mk dst (.call ⟨.builtin .append,#[s,x],#[t,xt]⟩) ty pos after guard).wp P a w K Q:=by
 subst h3
 have hadd:∀ b o j:Nat,(⟨b,o,none⟩:Addr).add j=⟨b,o+j,none⟩:=fun b o j=>by unfold Addr.add;split<;>simp_all
 have hF1:=hF.forget hd rfl
 have hxs:(cur.toList.take (rows.length * inf.size)).length=rows.length * inf.size:=by
  have e1:cur.toList.length=cap * inf.size:=by rw [Array.length_toList,g.size]
  have:rows.length * inf.size≤cap * inf.size:=Nat.mul_le_mul_right _ g.le
  rw [List.length_take,e1]
  omega
 have hold:∀ (k:Nat) (r:List D) (j:Nat) (d:D),rows[k]?=some r→r[j]?=some d→∃ u,(cur.toList.take (rows.length * inf.size))[k * inf.size+j]?=some u∧u.oneCell'=true∧Fz S.lim w u d:=fun k r j d hk hd'=>by
  obtain ⟨x,x1,x2,x3⟩:=g.cells k r j d hk hd'
  have hkl:k < rows.length:=(gLt hk)
  have hj:j < inf.size:=by rw [← g.each r (gMem hk)];exact (List.getElem?_eq_some_iff.1 hd').1
  have hlt:k * inf.size+j < rows.length * inf.size:=by
   have:(k+1) * inf.size≤rows.length * inf.size:=Nat.mul_le_mul_right _ hkl
   rw [Nat.add_mul] at this
   omega
  exact ⟨x,by rw [List.getElem?_take,if_pos hlt];simpa using x1,x2,x3⟩
 have hall:=rows_append (rows2:=rows2) (news:=news) rfl hxs hold (fun k r j d hk hd'=>by
  obtain ⟨u,u1,u2⟩:=k5 k r j d hk hd'
  exact ⟨u,u1,k3 u (gMem u1),u2⟩) g.each
 have heach:∀ r ∈ rows++rows2,r.length=inf.size:=fun r hr=>by
  rcases List.mem_append.1 hr with hr|hr
  ·exact g.each r hr
  ·exact k4 r hr
 by_cases hroom:rows.length+rows2.length≤cap
 ·have hfit:rows.length * inf.size+news.length≤cur.size:=by rw [k1,g.size,← Nat.add_mul];exact Nat.mul_le_mul_right _ hroom
  have hr:=hroomR hroom
  generalize hCUR:(cur.toList.take (rows.length * inf.size)++news++cur.toList.drop (rows.length * inf.size+news.length)).toArray=CUR at hr
  have hCs:CUR.size=cur.size:=by
   rw [← hCUR]
   simp only [List.size_toArray,List.length_append,hxs,List.length_drop,Array.length_toList]
   omega
  have hCl:CUR.toList=cur.toList.take (rows.length * inf.size)++news++cur.toList.drop (rows.length * inf.size+news.length):=by rw [← hCUR]
  have hCk:∀ off,off < rows.length * inf.size→CUR[off]?=cur[off]?:=fun off ho=>by
   rw [← Array.getElem?_toList,hCl,List.append_assoc,List.getElem?_append_left (by omega),List.getElem?_take,if_pos ho,Array.getElem?_toList]
  refine wp_append_run (by rw [hs0];exact hr) ?_
  have hw':(w.setRow b CUR).heap[b]?=some (.cells CUR e0 (0,0)):=setRow_heap w b cur CUR e0 (0,0) g.heap
  have hown:=g.own
  let x:Place × Nat:=(p,if m+1=2 then 0 else (rows++rows2).length * inf.size)
  have hlx:(if m+1=2 then 0 else rows.length * inf.size)≤x.2:=by
   simp only [x]
   split
   ·exact Nat.le_refl _
   ·exact Nat.mul_le_mul_right _ (by simp)
  have hb:BT S w (S.set b (some x)) (w.setRow b CUR) b:=by
   refine ⟨⟨rfl,rfl,rfl,by simp,fun b' hb' hn => ?_,fun b' p' l hb' hs' hd' => ?_,fun b' p' l hb' hs' => ?_,rfl⟩,⟨fun b' y hy => ?_,hF.wf.gl.keep fun b' hb' hn => ?_⟩,rfl,fun b' hb' hne=>setRow_other w b b' CUR hne,fun b' hb' hne=>S.set_ne _ hne⟩
   ·have hne:b' ≠ b:=fun e=>by subst e;rw [hown] at hn;cases hn
    exact ⟨setRow_other w b b' CUR hne,by rw [S.set_ne _ hne];exact hn⟩
   ·have hne:b' ≠ b:=fun e=>by subst e;rw [hown] at hs';cases hs';simp [Place.slot] at hd'
    exact ⟨setRow_other w b b' CUR hne,by rw [S.set_ne _ hne];exact hs'⟩
   ·by_cases hne:b'=b
    ·subst hne
     rw [hown] at hs'
     cases hs'
     refine ⟨fun cur1 e1 fz1 hc1 => ?_,fun y hy => ?_⟩
     ·rw [g.heap] at hc1
      cases hc1
      refine ⟨CUR,hw',hCs,fun off ho=>hCk off ?_⟩
      split at ho<;>omega
     ·rw [S.set_at] at hy
      cases hy
      exact hlx
    ·refine ⟨Keeps.of_eq (setRow_other w b b' CUR hne),fun y hy => ?_⟩
     rw [S.set_ne _ hne,hs'] at hy
     cases hy
     exact Nat.le_refl _
   ·have hsz:(w.setRow b CUR).heap.size=w.heap.size:=by simp
    rw [hsz]
    by_cases hne:b'=b
    ·subst hne;exact hF.wf _ _ hown
    ·rw [S.set_ne _ hne] at hy;exact hF.wf _ _ hy
   ·have hne:b' ≠ b:=fun e=>by subst e;rw [hown] at hn;cases hn
    exact ⟨setRow_other w b b' CUR hne,by rw [S.set_ne _ hne];exact hn⟩
  have hfin:Rep (S.set b (some x)) (w.setRow b CUR) p (.slice (some ⟨b,0,none⟩) (rows++rows2).length cap) (.sl (m+1) inf.size (rows++rows2)):=by
   refine .own ⟨hmm,hw',by simpa using hroom,g.max,by rw [hCs,g.size],heach,by rw [S.set_at],fun k r j d hk hd' => ?_⟩
   obtain ⟨y,y1,y2,y3⟩:=hall k r j d hk hd'
   refine ⟨y,?_,y2,y3.trans hb.tr⟩
   rw [← Array.getElem?_toList,hCl,List.getElem?_append_left (gLt y1)]
   exact y1
  rw [List.length_append] at hfin
  exact hK _ _ _ hb.tr (hF.rebuild hb hown rfl hd rfl (fun _ _ _=>.fz (.any _)) (fun t ht=>by cases ht) (fun _ _=>.fz (.any _)) (fun t ht=>by cases ht)) hfin
 ·have holds:∀ (j:Nat) (u:Value),(cur.toList.take (rows.length * inf.size))[j]?=some u→w.cell? ((⟨b,0,none⟩:Addr).add j)=some u:=fun j u hu=>by
   rw [hadd,cell_of_row w b _ cur e0 (0,0) g.heap,Nat.zero_add]
   rw [List.getElem?_take] at hu
   split at hu
   ·simpa using hu
   ·cases hu
  have hr:=hgrowR (Nat.lt_of_not_le hroom) holds
  refine wp_append_run (by rw [hs0];exact hr) ?_
  have hge:=grownCap_ge w (rows.length+rows2.length) cap e
  have hcm:grownCap w (rows.length+rows2.length) cap e≤maxLen:=grownCap_le_maxLen w _ cap e (by unfold maxLen;omega)
  obtain ⟨S',hp,hrep⟩:=fresh_own (p:=p) (m:=m+1) (sz:=inf.size) (rows:=rows++rows2) (xs:=cur.toList.take (rows.length * inf.size)++news) hF.wf
   (w':=w.drew.alloc (.cells ((cur.toList.take (rows.length * inf.size)).toArray++news.toArray++Builtin.zeroCells z0.cells (grownCap w (rows.length+rows2.length) cap e - (rows.length+rows2.length))) e)) ((Ext.drew w).trans (Ext.alloc _ _)) rfl (heap_alloc_new w.drew _) hmm (by simpa using hge) hcm
   (by simp only [Array.size_append,List.size_toArray,size_zeroCells,h5,k1,hxs,← Nat.add_mul];congr 1;omega)
   (by simp only [Array.toList_append,List.append_assoc];rw [← List.append_assoc,show (rows++rows2).length * inf.size=(cur.toList.take (rows.length * inf.size)++news).length by rw [List.length_append,List.length_append,hxs,k1,Nat.add_mul]];exact List.take_left) heach hall
  rw [List.length_append] at hrep
  exact hK _ S' _ hp.trans (hF1.drop hp) hrep
theorem append_own {t e sz:Nat} [TSlice P t e] [TElem P e sz bytes zc] {S:Sig} {w:World} {a:Act} {fr:List D} (hF:FR S w a fr) {u m:Nat} {q:Place} {m2:Nat} (hd:fr[u]?=some (.sl (m+1) sz rows)) (hs:a.tmps[u]?=some (a.eval s))
  (hx:Rep S w q (a.eval x) (.sl m2 sz rows2)) (hl:rows.length+rows2.length≤1000000000) (hby:bytes≤1000) (hmm:m+1=1∨m+1=2)
  (hK:∀ v S' w',Trans S w S' w'→FR S' w' a ((fr.map (unal u .any)).set u .any)→Rep S' w' p v (.sl (m+1) sz (rows++rows2))→K (a.put dst v) w'):(Oper.mk dst (.call ⟨.builtin .append,#[s,x],#[t,t]⟩) ty pos after guard).wp P a w K Q:=by
 obtain ⟨v,hv,hslot⟩:=hF.at hd
 obtain rfl:v=a.eval s:=Option.some.inj (hv.symm.trans hs)
 obtain ⟨inf,z0,h1,h2,h3,h4,h5,h6⟩:=TElem.h (P:=P) (e:=e) (n:=sz) (bytes:=bytes) (zc:=zc)
 have ht:=TSlice.h (P:=P) (t:=t) (e:=e)
 subst h3;subst h4
 have hmul:(rows.length+rows2.length) * inf.bytes≤1000000000 * 1000:=Nat.mul_le_mul hl hby
 have hadd:∀ b o j:Nat,(⟨b,o,none⟩:Addr).add j=⟨b,o+j,none⟩:=fun b o j=>by unfold Addr.add;split<;>simp_all
 have hF1:=hF.forget hd rfl
 rcases hslot.1.sl_inv with ⟨hs0,rfl⟩|⟨b,cap,cur,e0,hs0,g⟩
 ·exact append_nil hF.wf hs0 hx (by simpa using hl) hby hmm fun v S' w' hp hr=>hK v S' w' hp.trans (hF1.drop hp) (by rw [List.nil_append];exact hr)
 ·rcases hx.source with ⟨A2,hxv,rfl⟩|⟨bx,ox,cx,news,hxv,k1,k2,k3,k4,k5⟩
  ·obtain ⟨S',v',t1,t2,t3,t4⟩:=hF.take p hd
   obtain rfl:v'=a.eval s:=Option.some.inj (t2.symm.trans hs)
   refine wp_append_run (w':=w) (v:=a.eval s) ?_ (hK _ S' w t1 t3 (by rw [List.append_nil];exact t4))
   rw [hxv,hs0]
   exact run_room_none w t ty e inf ht h1 _ A2 _ _ g.le
  ·have hnews:∀ (j:Nat) (u:Value),news[j]?=some u→w.cell? ((⟨bx,ox,none⟩:Addr).add j)=some u:=fun j u hu=>by rw [hadd];exact k2 j u hu
   refine append_core (xt:=t) (e:=e) rfl h5 hF hd hs0 g k1 k3 k4 k5 hl hmm (fun hroom => ?_) (fun hg holds => ?_) hK
   ·rw [hxv]
    exact run_room (P:=P) w t ty e e0 inf ht h1 b rows.length cap cur g.heap ⟨bx,ox,none⟩ rows2.length cx news k1 hnews k3 hroom (by rw [k1,g.size,← Nat.add_mul];exact Nat.mul_le_mul_right _ hroom)
   ·rw [hxv]
    have hxs:(cur.toList.take (rows.length * inf.size)).length=rows.length * inf.size:=by
     have e1:cur.toList.length=cap * inf.size:=by rw [Array.length_toList,g.size]
     have:rows.length * inf.size≤cap * inf.size:=Nat.mul_le_mul_right _ g.le
     rw [List.length_take,e1]
     omega
    exact run_append_grow (P:=P) w t ty e inf z0 ht h1 h2 ⟨b,0,none⟩ rows.length cap _ hxs holds ⟨bx,ox,none⟩ rows2.length cx news k1 hnews hg (by omega) (growslice_fits hg (by omega))
theorem append_nil_str {t xt e:Nat} [TSlice P t e] [TElem P e 1 bytes zc] [TStr P xt] {S:Sig} {w:World} (hw:WF S w) {a:Act} (hs:a.eval s=.slice none 0 0) (hx:a.eval x=.string ⟨txt.toArray⟩) (hl:txt.length≤1000000000) (hby:bytes≤1000) {mm:Nat} (hmm:mm=1∨mm=2)
  (hK:∀ v S' w',PT S w S' w'→Rep S' w' p v (.sl mm 1 (txt.map bR))→K (a.put dst v) w'):(Oper.mk dst (.call ⟨.builtin .append,#[s,x],#[t,xt]⟩) ty pos after guard).wp P a w K Q:=by
 obtain ⟨inf,z0,h1,h2,h3,h4,h5,h6⟩:=TElem.h (P:=P) (e:=e) (n:=1) (bytes:=bytes) (zc:=zc)
 have ht:=TSlice.h (P:=P) (t:=t) (e:=e)
 have hxt:P.underlying xt=some .string:=TStr.h (P:=P) (t:=xt)
 subst h4
 have hz:(⟨txt.toArray⟩:ByteArray).size=txt.length:=rfl
 rcases Nat.eq_zero_or_pos txt.length with h0|h0
 ·obtain rfl:txt = []:=List.eq_nil_of_length_eq_zero h0
  refine wp_append_run (w':=w) (v:=.slice none 0 0) ?_ (hK _ S w (PT.refl hw) (.fz (.slNil mm 1)))
  rw [hs,hx]
  have hf:=Lib.run_firstCells_string (P:=P) w inf.size ⟨#[]⟩
  simp only [show (⟨#[]⟩:ByteArray).size=0 from rfl] at hf
  simp [Builtin.append_,run_underlying ht,run_underlying hxt,sizeOf,typeInfo,h1,Builtin.lenOf,show (⟨#[]⟩:ByteArray).size=0 from rfl,hf]
 ·have hmul:txt.length * inf.bytes≤1000000000 * 1000:=Nat.mul_le_mul hl hby
  have hr:=run_append_nil_string (P:=P) w t xt ty e inf z0 ht hxt h1 h2 ⟨txt.toArray⟩ (by rw [hz];exact h0) (by rw [hz];omega) (by rw [hz];omega)
  rw [hz] at hr
  refine wp_append_run (by rw [hs,hx];exact hr) ?_
  have hge:=grownCap_ge w txt.length 0 e
  have hcm:grownCap w txt.length 0 e≤maxLen:=grownCap_le_maxLen w txt.length 0 e (by unfold maxLen;omega)
  obtain ⟨S',hp,hrep⟩:=fresh_own (p:=p) (m:=mm) (sz:=1) (rows:=txt.map bR) (xs:=bytesV txt) hw (w':=w.drew.alloc (.cells (((⟨txt.toArray⟩:ByteArray).data.map fun b=>Value.int .u8 b.toNat)++Builtin.zeroCells z0.cells (grownCap w txt.length 0 e - txt.length)) e)) ((Ext.drew w).trans (Ext.alloc _ _)) rfl (heap_alloc_new w.drew _) hmm (by simpa using hge) hcm
   (by simp only [Array.size_append,Array.size_map,size_zeroCells,h5,Nat.mul_one,List.size_toArray];omega)
   (by simp [bytesV,Array.toList_append]) bytesV_each (fun k r j d hk hd=>bytesV_cells hk hd)
  rw [List.length_map] at hrep
  exact hK _ S' _ hp hrep
theorem append_own_str {t xt e:Nat} [TSlice P t e] [TElem P e 1 bytes zc] [TStr P xt] {S:Sig} {w:World} {a:Act} {fr:List D} (hF:FR S w a fr) {u m:Nat} (hd:fr[u]?=some (.sl (m+1) 1 rows)) (hs:a.tmps[u]?=some (a.eval s))
  (hx:a.eval x=.string ⟨txt.toArray⟩) (hl:rows.length+txt.length≤1000000000) (hby:bytes≤1000) (hmm:m+1=1∨m+1=2)
  (hK:∀ v S' w',Trans S w S' w'→FR S' w' a ((fr.map (unal u .any)).set u .any)→Rep S' w' p v (.sl (m+1) 1 (rows++txt.map bR))→K (a.put dst v) w'):(Oper.mk dst (.call ⟨.builtin .append,#[s,x],#[t,xt]⟩) ty pos after guard).wp P a w K Q:=by
 obtain ⟨v,hv,hslot⟩:=hF.at hd
 obtain rfl:v=a.eval s:=Option.some.inj (hv.symm.trans hs)
 obtain ⟨inf,z0,h1,h2,h3,h4,h5,h6⟩:=TElem.h (P:=P) (e:=e) (n:=1) (bytes:=bytes) (zc:=zc)
 have ht:=TSlice.h (P:=P) (t:=t) (e:=e)
 have hxt:P.underlying xt=some .string:=TStr.h (P:=P) (t:=xt)
 subst h4
 have hz:(⟨txt.toArray⟩:ByteArray).size=txt.length:=rfl
 have hmul:(rows.length+txt.length) * inf.bytes≤1000000000 * 1000:=Nat.mul_le_mul hl hby
 rcases hslot.1.sl_inv with ⟨hs0,rfl⟩|⟨b,cap,cur,e0,hs0,g⟩
 ·exact append_nil_str hF.wf hs0 hx (by simpa using hl) hby hmm fun v S' w' hp hr=>hK v S' w' hp.trans ((hF.forget hd rfl).drop hp) (by rw [List.nil_append];exact hr)
 ·have hml:(txt.map bR).length=txt.length:=List.length_map _
  have hst:Lib.strCells ⟨txt.toArray⟩=bytesV txt:=rfl
  refine append_core (xt:=xt) (news:=bytesV txt) (rows2:=txt.map bR) (e:=e) h3 h5 hF hd hs0 g (by simp [bytesV]) bytesV_one bytesV_each (fun k r j d hk hd=>by
   obtain ⟨u,u1,_,u3⟩:=bytesV_cells (lim:=S.lim) (w:=w) hk hd
   exact ⟨u,u1,u3⟩) (by rw [hml];exact hl) hmm (fun hroom => ?_) (fun hg holds => ?_) hK
  ·rw [hx]
   rw [hml] at hroom ⊢
   have hsz:=g.size
   rw [Nat.mul_one] at hsz
   have hf:=Lib.run_firstCells_string (P:=P) w 1 ⟨txt.toArray⟩
   have hst2:=run_storeCells_at P b rows.length e0 (bytesV txt) 0 cur w g.heap (by simp [bytesV];omega) bytesV_one
   simp only [Nat.add_zero] at hst2
   rw [hz,hst] at hf
   simp only [Nat.mul_one]
   simp [Builtin.append_,run_underlying ht,run_underlying hxt,sizeOf,typeInfo,h1,h3,Builtin.lenOf,hz,hroom,hf,Addr.add_lit,hst2]
  ·rw [hx]
   rw [hml] at hg ⊢
   have hxs:(cur.toList.take (rows.length * 1)).length=rows.length * 1:=by
    have e1:cur.toList.length=cap * 1:=by rw [Array.length_toList,g.size]
    have:rows.length * 1≤cap * 1:=Nat.mul_le_mul_right _ g.le
    rw [List.length_take,e1]
    omega
   have hr:=Lib.run_append_grow_string (P:=P) w t xt ty e inf z0 ht hxt h1 h2 ⟨b,0,none⟩ rows.length cap _ (by rw [h3];exact hxs) holds ⟨txt.toArray⟩ (by rw [hz];exact hg) (by rw [hz];omega) (by rw [hz];exact growslice_fits hg (by omega))
   rw [hz,hst] at hr
   exact hr
end
end Go.Proofs.YtindehjiaknokaaGreatDoor
namespace Go.Proofs.YtindehjiaknokaaGreatDoor
set_option linter.unusedSimpArgs false
set_option linter.unusedVariables false
open Go.RowKit
variable {cs:List D} {us:List Value}
def TI.cells:TI→Nat
 |.st n _ _=>n
 |_=>1
theorem TFact.sz {P:Program} {t:Nat} {i:TI} (h:TFact P t i):(P.info? t).map (·.size)=some i.cells:=by
 cases i with
 |int k=>exact h.2.sz
 |str=>exact h.2.sz
 |bool=>exact h.2.sz
 |one=>exact (show TOne P t from h).sz
 |ifc=>exact h.2.sz
 |sl e sz b zc=>exact h.2.2.1.sz
 |mp k e kd z=>exact h.2.2.sz
 |st n fl ks=>exact h.1.sz
section
variable {P:Program} {Q:Exit→Act→World→Prop} {K:Act→World→Prop} {a:Act} {w:World} {dst:Option Tmp} {ty:TypeId} {pos:String} {after:Array Edge} {guard:Option (Nat × Bool)}
theorem r_store {t n b o:Nat} {x y:Operand} (hs:(P.info? t).map (·.size)=some n) (hx:a.eval x=.pointer (some ⟨b,o,none⟩)) (hy:(a.eval y).cells.toList=us) (hn:us.length=n) (h1:∀ u:Value,u ∈ us→u.oneCell'=true) {cur:Array Value} {e:TypeId}
  (hg:w.heap[b]?=some (.cells cur e (0,0))) (hl:o+n≤cur.size) (hk:K (a.put dst undef) (w.setRow b (cur.toList.take o++us++cur.toList.drop (o+n)).toArray)):(Oper.mk dst (.store t x y) ty pos after guard).wp P a w K Q:=by
 have hsz:(a.eval y).cells.size=n:=by rw [← hn,← hy];simp
 have hst:=run_storeCells_at P b o e us 0 cur w hg (by omega) h1
 simp only [Nat.add_zero] at hst
 have hv:(storeVar t ⟨b,o,none⟩ (a.eval y)).run P w=.ok () (w.setRow b (cur.toList.take o++us++cur.toList.drop (o+n)).toArray):=by
  unfold storeVar
  rw [Sem.run_bind,run_sizeOf_of hs,Result.andThen_ok,if_neg (by rw [hsz];simp),hy,hst,hn]
 unfold Oper.wp execOp
 simp only [hx,Instr.storeAt,Instr.sureAddr,Sem.run_bind,Sem.run_pure,Result.andThen_ok,hv]
 exact hk
end
theorem Rep.obj_inv {S:Sig} {w:World} {u:Nat} {v:Value} (h:Rep S w (.slot u) v (.obj cs)):∃ (b:Nat) (cur:Array Value) (e:TypeId),v=.pointer (some ⟨b,0,none⟩)∧S.own b=some (.slot u,0)∧S.loc (u+2)=b∧w.heap[b]?=some (.cells cur e (0,0))∧cs.length=cur.size∧
  (∀ (i:Nat) (v:Value),cur[i]?=some v→v.oneCell'=true)∧∀ (i:Nat) (d:D) (v:Value),cs[i]?=some d→cur[i]?=some v→Rep S w ⟨u+2,[i]⟩ v d:=by
 cases h with
 |fz h=>cases h
 |obj hb hp hl hh hs h1 ih=>exact ⟨_,_,_,rfl,hb,hl,hh,hs,h1,ih⟩
def nmOf (u lo n:Nat):D→Bool
 |.alc x o=>Nat.beq x u && (Nat.ble lo o && Nat.blt o (lo+n))
 |.el x o _ _ _=>Nat.beq x u && (Nat.ble lo o && Nat.blt o (lo+n))
 |_=>false
def unac (u lo n:Nat) (d:D):D:=match nmOf u lo n d with
 |true=>.any
 |false=>d
theorem unac_map {u lo n:Nat} {fr:List D} (h:fr.any (nmOf u lo n)=false):fr.map (unac u lo n)=fr:=by
  have:∀ d ∈ fr,unac u lo n d=d:=fun d hd=>by
    have:=List.any_eq_false.1 h d hd
    unfold unac
    rw [Bool.not_eq_true] at this
    rw [this]
  calc fr.map (unac u lo n)=fr.map id:=List.map_congr_left this
    _=fr:=List.map_id fr
theorem unac_owns {u lo n:Nat} {d:D} (h:d.owns=true):unac u lo n d=d:=by
 cases d<;>first|rfl|cases h
theorem FR.storeObj {S:Sig} {w:World} {a:Act} {fr:List D} (h:FR S w a fr) {u off:Nat} {vs:List D} (hd:fr[u]?=some (.obj cs)) (hc:CR S.lim w us vs) (hl:off+vs.length≤cs.length):
  ∃ (b:Nat) (cur:Array Value) (e:TypeId),S.own b=some (.slot u,0)∧S.loc (u+2)=b∧w.heap[b]?=some (.cells cur e (0,0))∧cs.length=cur.size∧
   Trans S w S (w.setRow b (cur.toList.take off++us++cur.toList.drop (off+vs.length)).toArray)∧FR S (w.setRow b (cur.toList.take off++us++cur.toList.drop (off+vs.length)).toArray) a ((fr.map (unac u off vs.length)).set u (.obj (cs.take off++vs++cs.drop (off+vs.length)))):=by
 obtain ⟨v,hv,hsl⟩:=h.at hd
 obtain ⟨b,cur,e,rfl,hb,hloc,hh,hsz,h1,ih⟩:=hsl.1.obj_inv
 refine ⟨b,cur,e,hb,hloc,hh,hsz,?_⟩
 generalize hCUR:(cur.toList.take off++us++cur.toList.drop (off+vs.length)).toArray=CUR
 have hus:=hc.len
 have hCl:CUR.toList=cur.toList.take off++us++cur.toList.drop (off+vs.length):=by rw [← hCUR]
 have hCs:CUR.size=cur.size:=by
  have:CUR.toList.length=cur.size:=by
   rw [hCl]
   simp only [List.length_append,List.length_take,List.length_drop,Array.length_toList]
   omega
  simpa using this
 have hw':(w.setRow b CUR).heap[b]?=some (.cells CUR e (0,0)):=setRow_heap w b cur CUR e (0,0) hh
 have hother:∀ k,k ≠ b→(w.setRow b CUR).heap[k]?=w.heap[k]?:=fun k hk=>setRow_other w b k CUR hk
 have htr:Trans S w S (w.setRow b CUR):=by
  refine ⟨rfl,rfl,rfl,by simp,fun k hk hn=>⟨hother k (fun e=>by subst e;rw [hb] at hn;cases hn),hn⟩,fun k p l hk hs hp=>⟨hother k (fun e=>by subst e;rw [hb] at hs;cases hs;simp [Place.slot] at hp),hs⟩,fun k p l hk hs=>⟨?_,fun x hx=>by rw [hs] at hx;cases hx;exact Nat.le_refl _⟩,rfl⟩
  by_cases hkb:k=b
  ·subst hkb
   rw [hb] at hs
   cases hs
   intro cur1 e1 fz1 h2
   rw [hh] at h2
   cases h2
   exact ⟨CUR,hw',hCs,fun off ho=>by omega⟩
  ·exact Keeps.of_eq (hother k hkb)
 have hwf:WF S (w.setRow b CUR):=h.wf.of htr fun k x hk=>by
  have:(w.setRow b CUR).heap.size=w.heap.size:=by simp
  rw [this]
  exact h.wf k x hk
 have keep:∀ {p:Place} {v:Value} {d:D},(¬ (Place.slot u).under p)→Rep S w p v d→Rep S (w.setRow b CUR) p v d:=fun {p v d} hp hr=>
  hr.trans h.wf htr rfl (fun k q l hs hu=>⟨hother k (fun e=>by subst e;rw [hb] at hs;cases hs;exact hp hu),hs⟩) (fun _=>rfl) fun t _ ht=>⟨rfl,ht⟩
 have hlt:u < fr.length:=(gLt hd)
 have hlt':u < (fr.map (unac u off vs.length)).length:=by simpa using hlt
 have hobj:∀ {x:Nat},(∃ cs,fr[x]?=some (D.obj cs))→∃ cs',((fr.map (unac u off vs.length)).set u (D.obj (cs.take off++vs++cs.drop (off+vs.length))))[x]?=some (D.obj cs'):=fun {x} ⟨cs',hc'⟩=>by
  by_cases hxu:u=x
  ·subst hxu;exact ⟨_,List.getElem?_set_self hlt'⟩
  ·exact ⟨cs',by rw [List.getElem?_set_ne hxu,List.getElem?_map,hc'];rfl⟩
 have hrk:∀ e,RefOk fr e→RefOk ((fr.map (unac u off vs.length)).set u (.obj (cs.take off++vs++cs.drop (off+vs.length)))) e:=fun e he x hx=>hobj (he x hx)
 have hnew:∀ (i:Nat) (d:D),(cs.take off++vs++cs.drop (off+vs.length))[i]?=some d→(i < off∧cs[i]?=some d)∨(off≤i∧i < off+vs.length∧vs[i - off]?=some d)∨(off+vs.length≤i∧cs[i]?=some d):=fun i d hi=>by
  by_cases h1:i < off
  ·rw [List.append_assoc,List.getElem?_append_left (by simp;omega),List.getElem?_take,if_pos h1] at hi
   exact .inl ⟨h1,hi⟩
  ·by_cases h2:i < off+vs.length
   ·rw [List.append_assoc,List.getElem?_append_right (by simp;omega),List.getElem?_append_left (by simp;omega)] at hi
    refine .inr (.inl ⟨by omega,h2,?_⟩)
    rw [← hi];congr 1;simp;omega
   ·rw [List.getElem?_append_right (by simp;omega),List.getElem?_drop] at hi
    refine .inr (.inr ⟨by omega,?_⟩)
    rw [← hi];congr 1;simp;omega
 have hcell:∀ (i:Nat),CUR[i]?=if i < off then cur[i]? else if i < off+vs.length then us[i - off]? else cur[i]?:=fun i=>by
  rw [← Array.getElem?_toList,hCl]
  by_cases h1:i < off
  ·rw [if_pos h1,List.append_assoc,List.getElem?_append_left (by simp;omega),List.getElem?_take,if_pos h1,Array.getElem?_toList]
  ·rw [if_neg h1]
   by_cases h2:i < off+vs.length
   ·rw [if_pos h2,List.append_assoc,List.getElem?_append_right (by simp;omega),List.getElem?_append_left (by simp;omega)]
    congr 1;simp;omega
   ·rw [if_neg h2,List.getElem?_append_right (by simp;omega),List.getElem?_drop,Array.getElem?_toList]
    congr 1;simp;omega
 refine ⟨htr,hwf,by simp [h.size],h.defers,fun i d v' hi hv' => ?_⟩
 by_cases hiu:i=u
 ·subst hiu
  rw [List.getElem?_set_self hlt'] at hi
  rw [hv] at hv'
  cases hi;cases hv'
  refine SlotRep.of (.obj hb rfl hloc hw' (by simp;omega) (fun j x hj => ?_) fun j d x hj hx => ?_) (hrk _ fun t ht => ?_)
  ·rw [hcell] at hj
   split at hj
   ·exact h1 j x hj
   ·split at hj
    ·exact hc.one x (gMem hj)
    ·exact h1 j x hj
  ·rw [hcell] at hx
   rcases hnew j d hj with ⟨q1,q2⟩|⟨q1,q2,q3⟩|⟨q1,q2⟩
   ·rw [if_pos q1] at hx
    exact keep (fun hu=>by obtain ⟨_,l,hl⟩:=hu;simp [Place.slot] at hl) (ih j d x q2 hx)
   ·rw [if_neg (by omega),if_pos q2] at hx
    exact .fz ((hc.fz _ d x q3 hx).trans htr)
   ·rw [if_neg (by omega),if_neg (by omega)] at hx
    exact keep (fun hu=>by obtain ⟨_,l,hl⟩:=hu;simp [Place.slot] at hl) (ih j d x q2 hx)
  ·cases ht with
   |obj hj hm=>
    rcases hnew _ _ hj with ⟨_,q2⟩|⟨q1,q2,q3⟩|⟨_,q2⟩
    ·exact hsl.2 t (.obj q2 hm)
    ·exact absurd hm (hc.fz _ _ _ q3 (List.getElem?_eq_getElem (lt_of_len hus q3))).men
    ·exact hsl.2 t (.obj q2 hm)
 ·rw [List.getElem?_set_ne (Ne.symm hiu),List.getElem?_map] at hi
  cases hfi:fr[i]? with
  |none=>rw [hfi] at hi;cases hi
  |some d0=>
  rw [hfi] at hi
  cases hi
  have hs:=h.slot i d0 v' hfi hv'
  have howns:∀ {x:Nat} {d':D},fr[x]?=some d'→d'.owns=true→∃ d'',((fr.map (unac u off vs.length)).set u (.obj (cs.take off++vs++cs.drop (off+vs.length))))[x]?=some d''∧d''.owns=true:=fun {x d'} g2 g3=>by
   by_cases hxu:x=u
   ·subst hxu
    exact ⟨_,List.getElem?_set_self hlt',rfl⟩
   ·exact ⟨d',by rw [List.getElem?_set_ne (Ne.symm hxu),List.getElem?_map,g2];exact congrArg some (unac_owns g3),g3⟩
  have hcel:∀ {x o:Nat} {y:Value},ObjAt S fr x→(Nat.beq x u && (Nat.ble off o && Nat.blt o (off+vs.length)))=false→w.cell? ⟨S.loc (x+2),o,none⟩=some y→(w.setRow b CUR).cell? ⟨S.loc (x+2),o,none⟩=some y:=fun {x o y} hx hn hy=>by
   by_cases hxu:x=u
   ·subst hxu
    rw [hloc,cell_of_row _ b _ CUR e (0,0) hw',hcell]
    rw [hloc,cell_of_row _ b _ cur e (0,0) hh] at hy
    by_cases h1:o < off
    ·rw [if_pos h1];exact hy
    ·rw [if_neg h1]
     by_cases h2:o < off+vs.length
     ·exfalso
      have e1:Nat.beq x x=true:=Nat.beq_refl x
      have e2:Nat.ble off o=true:=Nat.ble_eq_true_of_le (by omega)
      have e3:Nat.blt o (off+vs.length)=true:=Nat.ble_eq_true_of_le (by omega)
      rw [e1,e2,e3] at hn
      cases hn
     ·rw [if_neg h2];exact hy
   ·have hne:S.loc (x+2) ≠ b:=fun e=>by
     have:=hx.own
     rw [e,hb] at this
     simp only [Place.slot,Option.some.injEq,Prod.mk.injEq,Place.mk.injEq] at this
     omega
    rw [World.cell?_of_block (a:=⟨S.loc (x+2),o,none⟩) (w:=w) (hother _ hne)]
    exact hy
  have hany:∀ {d:D},nmOf u off vs.length d=true→SlotRep S (w.setRow b CUR) a ((fr.map (unac u off vs.length)).set u (.obj (cs.take off++vs++cs.drop (off+vs.length)))) i v' (unac u off vs.length d):=fun {d} hn=>by
   unfold unac
   rw [hn]
   exact SlotRep.of (.fz (.any _)) fun t ht=>by cases ht
  cases d0 with
  |al x=>
   obtain ⟨g1,d',g2,g3,g4⟩:=hs
   obtain ⟨d'',k1,k2⟩:=howns g2 g3
   exact ⟨g1,d'',k1,k2,g4⟩
  |alc x o=>
   cases hn:nmOf u off vs.length (.alc x o) with
   |true=>exact hany hn
   |false=>
    unfold unac
    rw [hn]
    exact ⟨hs.1.mono (w:=w) (w':=w) (hobj hs.1.obj) rfl rfl,hcel hs.1 hn hs.2⟩
  |el x o sz k j=>
   cases hn:nmOf u off vs.length (.el x o sz k j) with
   |true=>exact hany hn
   |false=>
    unfold unac
    rw [hn]
    obtain ⟨g1,s,g2,g3⟩:=hs
    exact ⟨g1.mono (w:=w) (w':=w) (hobj g1.obj) rfl rfl,s,hcel g1 hn g2,g3⟩
  |es x sz k j=>
   obtain ⟨⟨d',g2,g3,g4⟩,s,g1,g5⟩:=hs
   obtain ⟨d'',k1,k2⟩:=howns g2 g3
   exact ⟨⟨d'',k1,k2,g4⟩,s,g1,g5⟩
  |_=>exact ⟨keep (fun hu=>hiu (by have:=hu.1;simp [Place.slot] at this;omega)) hs.1,hrk _ hs.2⟩
theorem FR.allocObjX {S:Sig} {w w':World} {a:Act} {fr:List D} (h:FR S w a fr) {t g:Nat} {d0:D} {ty:TypeId} (ht0:t ≠ 0) (h0:fr[t]?=some d0) (hn:d0.owns=false) (hb:Blk w' g ty us.toArray) (hx:Ext w w') (hg:g=w.heap.size) (hc:CR S.lim w us cs):
  ∃ S',(Trans S w S' w'∧FR S' w' (a.put (some t) (.pointer (some ⟨g,0,none⟩))) (fr.set t (.obj cs)))∧(∀ b,b < w.heap.size→S'.own b=S.own b)∧(∀ r,r ≠ t+2→S'.loc r=S.loc r)∧S'.loc (t+2)=g:=by
 let S':Sig:=⟨fun b=>if b=g then some (.slot t,0) else S.own b,fun r=>if r=t+2 then g else S.loc r⟩
 have hold:∀ b,b < w.heap.size→S'.own b=S.own b:=fun b hb=>if_neg (by omega)
 have hwf:WF S' w':=⟨fun b x hbx=>by
  by_cases hbg:b=g
  ·subst hbg;exact hb.lt
  ·have:S.own b=some x:=by simpa [S',hbg] using hbx
   exact Nat.lt_of_lt_of_le (h.wf b x this) hx.sizeOf,h.wf.gl.keep fun b hb' hn=>⟨hx.block hb',(hold b hb').trans hn⟩⟩
 have htr:Trans S w S' w':=by
  refine ⟨hx.os,hx.tape,hx.output,hx.sizeOf,fun b hb hn=>⟨hx.block hb,by rw [hold b hb];exact hn⟩,fun b p l hb hs _=>⟨hx.block hb,by rw [hold b hb];exact hs⟩,fun b p l hb hs=>⟨Keeps.of_eq (hx.block hb),fun x hx' => ?_⟩,if_neg (by omega)⟩
  rw [hold b hb,hs] at hx'
  cases hx'
  exact Nat.le_refl _
 have hlt:t < fr.length:=(gLt h0)
 have hrk:∀ e,RefOk fr e→RefOk (fr.set t (.obj cs)) e:=fun e he x hx=>by
  obtain ⟨cs',hc'⟩:=he x hx
  by_cases hxu:t=x
  ·subst hxu;exact ⟨_,List.getElem?_set_self hlt⟩
  ·exact ⟨cs',by rw [List.getElem?_set_ne hxu];exact hc'⟩
 refine ⟨S',⟨htr,hwf,by simp [Act.put,h.size],by simp [Act.put,h.defers],fun i d v hi hv => ?_⟩,hold,fun r hr=>if_neg hr,if_pos rfl⟩
 by_cases hit:i=t
 ·subst hit
  rw [List.getElem?_set_self hlt] at hi
  rw [put_tmps_eq (by rw [h.size];exact hlt)] at hv
  cases hi;cases hv
  refine SlotRep.of (.obj (by simp [S',Place.slot]) rfl (by simp [S']) hb (by simpa using hc.len.symm) (fun j x hj=>hc.one x (by
   have:=Array.mem_of_getElem? hj
   simpa using this)) fun j d x hj hx'=>.fz ((hc.fz j d x hj (by simpa using hx')).trans htr)) fun u hu => ?_
  cases hu with
  |obj hj hm=>
   exact ((hc.fz _ _ _ hj (List.getElem?_eq_getElem (lt_of_len hc.len hj))).men hm).elim
 ·rw [List.getElem?_set_ne (Ne.symm hit)] at hi
  rw [put_tmps_ne hit] at hv
  have hs:=h.slot i d v hi hv
  have nm:∀ {x:Nat},ObjAt S fr x→ObjAt S' (fr.set t (D.obj cs)) x∧∀ (o:Nat) (y:Value),w.cell? ⟨S.loc (x+2),o,none⟩=some y→w'.cell? ⟨S'.loc (x+2),o,none⟩=some y:=fun {x} g=>by
   obtain ⟨cs',hc'⟩:=g.obj
   have hxt:x ≠ t:=fun e=>by subst e;rw [h0] at hc';cases hc';cases hn
   have e1:S'.loc (x+2)=S.loc (x+2):=if_neg (by omega)
   refine ⟨g.mono (w:=w) (w':=w') ⟨cs',by rw [List.getElem?_set_ne (Ne.symm hxt)];exact hc'⟩ e1 (hold _ (h.wf _ _ g.own)),fun o y hy => ?_⟩
   rw [e1,World.cell?_of_block (a:=⟨S.loc (x+2),o,none⟩) (w:=w) (hx.block (h.wf _ _ g.own))]
   exact hy
  have keep:∀ {e:D},Rep S w (.slot i) v e→RefOk fr e→Rep S' w' (.slot i) v e:=fun {e} hr hf=>
   hr.trans h.wf htr (by simp [S']) (fun k q l hs hu=>⟨hx.block (h.wf k _ hs),by rw [hold k (h.wf k _ hs)];exact hs⟩) (fun _=>if_neg (by simp only [Place.slot];omega)) fun x hm ho=>by
    obtain ⟨cs',hc'⟩:=hf x hm
    have hxt:x ≠ t:=fun e=>by subst e;rw [h0] at hc';cases hc';cases hn
    have e1:S'.loc (x+2)=S.loc (x+2):=if_neg (by omega)
    exact ⟨e1,by rw [hold _ (h.wf _ _ ho)];exact ho⟩
  cases d with
  |al x=>
   obtain ⟨g1,d',g2,g3,g4⟩:=hs
   have hxt:x ≠ t:=fun e=>by subst e;rw [h0] at g2;cases g2;rw [hn] at g3;cases g3
   exact ⟨by rw [put_tmps_ne hxt];exact g1,d',by rw [List.getElem?_set_ne (Ne.symm hxt)];exact g2,g3,g4⟩
  |alc x o=>
   obtain ⟨g1,g2⟩:=hs
   obtain ⟨k1,k2⟩:=nm g1
   exact ⟨k1,k2 _ _ g2⟩
  |el x o sz k j=>
   obtain ⟨g1,s,g2,g3⟩:=hs
   obtain ⟨k1,k2⟩:=nm g1
   exact ⟨k1,s,k2 _ _ g2,g3⟩
  |es x sz k j=>
   obtain ⟨⟨d',g2,g3,g4⟩,s,g1,g5⟩:=hs
   have hxt:x ≠ t:=fun e=>by subst e;rw [h0] at g2;cases g2;rw [hn] at g3;cases g3
   exact ⟨⟨d',by rw [List.getElem?_set_ne (Ne.symm hxt)];exact g2,g3,g4⟩,s,by rw [put_tmps_ne hxt];exact g1,g5⟩
  |_=>exact ⟨keep hs.1 hs.2,hrk _ hs.2⟩
theorem FR.allocObj {S:Sig} {w w':World} {a:Act} {fr:List D} (h:FR S w a fr) {t g:Nat} {d0:D} {ty:TypeId} (ht0:t ≠ 0) (h0:fr[t]?=some d0) (hn:d0.owns=false) (hb:Blk w' g ty us.toArray) (hx:Ext w w') (hg:g=w.heap.size) (hc:CR S.lim w us cs):
  ∃ S',Trans S w S' w'∧FR S' w' (a.put (some t) (.pointer (some ⟨g,0,none⟩))) (fr.set t (.obj cs)):=by
 obtain ⟨S',h1,_⟩:=h.allocObjX ht0 h0 hn hb hx hg hc
 exact ⟨S',h1⟩
def objAt (fr:List D):Operand→Option (Nat × Nat)
 |.tmp t=>match fr[t]? with
  |some (.obj _)=>some (t,0)
  |some (.ref u off)=>some (u,off)
  |_=>none
 |_=>none
theorem FR.objAt {S:Sig} {w:World} {a:Act} {fr:List D} (h:FR S w a fr) {x:Operand} {u off:Nat} (hx:Go.Proofs.YtindehjiaknokaaGreatDoor.objAt fr x=some (u,off)):∃ cs,fr[u]?=some (.obj cs)∧a.eval x=.pointer (some ⟨S.loc (u+2),off,none⟩):=by
 unfold Go.Proofs.YtindehjiaknokaaGreatDoor.objAt at hx
 split at hx
 ·rename_i t
  have ev:∀ v,a.tmps[t]?=some v→a.eval (.tmp t)=v:=fun v hv=>by simp [Act.eval,Array.getD_eq_getD_getElem?,hv]
  split at hx
  ·rename_i cs hd
   cases hx
   obtain ⟨v,hv,hs⟩:=h.at hd
   obtain ⟨b,cur,e,rfl,hb,hloc,_⟩:=hs.1.obj_inv
   exact ⟨cs,hd,by rw [ev _ hv,hloc]⟩
  ·rename_i hd
   cases hx
   obtain ⟨v,hv,hs⟩:=h.at hd
   obtain ⟨cs,hc⟩:=hs.2 u (.ref off)
   refine ⟨cs,hc,?_⟩
   rw [ev v hv]
   have:=hs.1
   cases this with
   |fz h=>cases h
   |ref g=>rfl
  ·cases hx
 ·cases hx
theorem FR.loadObj {S:Sig} {w:World} {a:Act} {fr:List D} (h:FR S w a fr) {u:Nat} (hd:fr[u]?=some (.obj cs)):∃ cv:Nat→Value,∀ (i:Nat) (d:D),cs[i]?=some d→w.cell? ⟨S.loc (u+2),i,none⟩=some (cv i)∧(cv i).oneCell'=true∧Rep S w ⟨u+2,[i]⟩ (cv i) d:=by
 obtain ⟨v,hv,hs⟩:=h.at hd
 obtain ⟨b,cur,e,rfl,hb,hloc,hh,hsz,h1,ih⟩:=hs.1.obj_inv
 refine ⟨fun i=>cur.getD i undef,fun i d hi => ?_⟩
 have hil:i < cur.size:=by rw [← hsz];exact (gLt hi)
 have hc:cur[i]?=some (cur.getD i undef):=by simp [Array.getD_eq_getD_getElem?,hil]
 exact ⟨by rw [hloc,cell_of_row w b _ cur e (0,0) hh];exact hc,h1 i _ hc,ih i d _ hi hc⟩
def safeB (i:Nat):D→Bool
 |.ref u _ => !(Nat.beq u i)
 |.gref _ u _ => !(Nat.beq u i)
 |.obj cs=>cs.all D.calm1
 |.al u => !(Nat.beq u i)
 |.alc u _ => !(Nat.beq u i)
 |.el u _ _ _ _ => !(Nat.beq u i)
 |.es u _ _ _ => !(Nat.beq u i)
 |.gd _ _=>true
 |d=>d.calm || d.passes
theorem D.passes_men {d:D} (h:d.passes=true) {t:Nat}:¬ Men t d:=by
 have one:∀ {d:D},d.one=true→¬ Men t d:=fun {d} h hm=>by cases hm<;>cases h
 intro hm
 cases hm with
 |ref=>cases h
 |gref=>cases h
 |obj=>cases h
 |tup=>cases h
 |agg hd hm=>exact one (List.all_eq_true.1 h _ (gMem hd)) hm
 |fn hd hm=>exact one (List.all_eq_true.1 h _ (gMem hd)) hm
theorem safeB_men {i:Nat} {d:D} (h:safeB i d=true):¬ Men i d:=by
 have two:∀ {d:D},(d.calm || d.passes)=true→¬ Men i d:=fun {d} h=>by
  simp only [Bool.or_eq_true] at h
  rcases h with h|h
  ·exact D.calm_men h
  ·exact D.passes_men h
 cases d with
 |ref u o=>
  intro hm
  cases hm
  simp [safeB] at h
 |gref c u o=>
  intro hm
  cases hm
  simp [safeB] at h
 |obj cs=>
  intro hm
  cases hm with|obj hd hm=>exact D.calm1_men (List.all_eq_true.1 h _ (gMem hd)) hm
 |al u=>intro hm;cases hm
 |alc u o=>intro hm;cases hm
 |el u o sz k j=>intro hm;cases hm
 |es u sz k j=>intro hm;cases hm
 |gd c d=>intro hm;cases hm
 |_=>exact two h
theorem FR.freezeObj {S:Sig} {w:World} {a:Act} {fr:List D} (h:FR S w a fr) {u:Nat} (hd:fr[u]?=some (.obj cs)) (ho:cs.all D.one=true) (hs:(fr.set u .any).all (safeB u)=true):∃ S',Trans S w S' w∧FR S' w a (fr.set u (.ptr cs)):=by
 obtain ⟨v,hv,hsl⟩:=h.at hd
 obtain ⟨b,cur,e,rfl,hb,hloc,hh,hsz,h1,ih⟩:=hsl.1.obj_inv
 have hbt:BT S w (S.set b none) w b:=BT.ghost h.wf hb (by simp [Place.slot]) (fun y hy=>by cases hy)
 have hlt:u < fr.length:=(gLt hd)
 have safe:∀ (i:Nat) (d:D),i ≠ u→fr[i]?=some d→¬ Men u d:=fun i d hi hd'=>by
  refine safeB_men (List.all_eq_true.1 hs d (gMem (i:=i) ?_))
  rw [List.getElem?_set_ne (Ne.symm hi)]
  exact hd'
 refine ⟨_,hbt.tr,hbt.wf,by simp [h.size],h.defers,fun i d v' hi hv' => ?_⟩
 by_cases hiu:i=u
 ·subst hiu
  rw [List.getElem?_set_self hlt] at hi
  rw [hv] at hv'
  cases hi;cases hv'
  refine SlotRep.of (.fz (.ptr (fun j=>cur.getD j undef) (fun j d hj => ?_) fun j d hj => ?_)) fun t ht=>by cases ht
  ·have hjl:j < cur.size:=by rw [← hsz];exact (gLt hj)
   have hc:cur[j]?=some (cur.getD j undef):=by simp [Array.getD_eq_getD_getElem?,hjl]
   exact ⟨by rw [Nat.zero_add,cell_of_row w b _ cur e (0,0) hh];exact hc,fun s hs=>by simp [Sig.lim,S.set_at] at hs,h1 j _ hc⟩
  ·have hjl:j < cur.size:=by rw [← hsz];exact (gLt hj)
   have hc:cur[j]?=some (cur.getD j undef):=by simp [Array.getD_eq_getD_getElem?,hjl]
   exact (D.one_fz (ih j d _ hj hc) (List.all_eq_true.1 ho d (gMem hj))).trans hbt.tr
 ·rw [List.getElem?_set_ne (Ne.symm hiu)] at hi
  have hsi:=h.slot i d v' hi hv'
  have hsx0:safeB u d=true:=List.all_eq_true.1 hs d (gMem (i:=i) (by rw [List.getElem?_set_ne (Ne.symm hiu)];exact hi))
  have nm:∀ {x:Nat},ObjAt S fr x→x ≠ u→ObjAt (S.set b none) (fr.set u (D.ptr cs)) x:=fun {x} g hxu=>by
   obtain ⟨cs',hc'⟩:=g.obj
   refine g.mono (w:=w) (w':=w) ⟨cs',by rw [List.getElem?_set_ne (Ne.symm hxu)];exact hc'⟩ rfl (S.set_ne _ fun e => ?_)
   have:=g.own
   rw [e,hb] at this
   simp only [Place.slot,Option.some.injEq,Prod.mk.injEq,Place.mk.injEq] at this
   omega
  cases d with
  |al x=>
   obtain ⟨g1,d',g2,g3,g4⟩:=hsi
   by_cases hxu:x=u
   ·exfalso
    have:=safe i _ hiu hi
    subst hxu
    have hsx:=List.all_eq_true.1 hs (.al x) (gMem (i:=i) (by rw [List.getElem?_set_ne (Ne.symm hiu)];exact hi))
    simp [safeB] at hsx
   ·exact ⟨g1,d',by rw [List.getElem?_set_ne (Ne.symm hxu)];exact g2,g3,g4⟩
  |alc x o=>
   have hxu:x ≠ u:=fun e=>by have:=hsx0;subst e;simp [safeB] at this
   exact ⟨nm hsi.1 hxu,hsi.2⟩
  |el x o sz k j=>
   have hxu:x ≠ u:=fun e=>by have:=hsx0;subst e;simp [safeB] at this
   exact ⟨nm hsi.1 hxu,hsi.2⟩
  |es x sz k j=>
   have hxu:x ≠ u:=fun e=>by have:=hsx0;subst e;simp [safeB] at this
   obtain ⟨⟨d',g2,g3,g4⟩,s,g1,g5⟩:=hsi
   exact ⟨⟨d',by rw [List.getElem?_set_ne (Ne.symm hxu)];exact g2,g3,g4⟩,s,g1,g5⟩
  |_=>
   refine ⟨hsi.1.trans h.wf hbt.tr (by rw [hbt.loc]) (fun c q l hq hu => ?_) (fun _=>by rw [hbt.loc]) (fun t hm ht => ?_),fun t ht => ?_⟩
   ·have hcb:c ≠ b:=fun e=>by
     subst e
     rw [hb] at hq
     cases hq
     have:=hu.1
     simp only [Place.slot] at this
     omega
    exact ⟨rfl,by rw [S.set_ne _ hcb];exact hq⟩
   ·rw [hbt.loc]
    refine ⟨rfl,?_⟩
    have htu:t ≠ u:=fun e=>safe i _ hiu hi (e ▸ hm)
    rw [S.set_ne _ (fun e=>by rw [e,hb] at ht;cases ht;exact htu rfl)]
    exact ht
   ·obtain ⟨cs',hc⟩:=hsi.2 t ht
    have htu:u ≠ t:=fun e=>safe i _ hiu hi (e ▸ ht)
    exact ⟨cs',by rw [List.getElem?_set_ne htu];exact hc⟩
end Go.Proofs.YtindehjiaknokaaGreatDoor
namespace Go.Proofs.YtindehjiaknokaaGreatDoor
set_option linter.unusedSimpArgs false
set_option linter.unusedVariables false
open Go.RowKit
variable {K:Act→World→Prop} {Q:Exit→Act→World→Prop} {ts:Array TypeId} {xs:List Operand}
def Sig.hand (S:Sig) (u:Nat):Sig:=⟨fun b=>(S.own b).map fun x=>(if x.1.r=u+2 then ⟨2,x.1.path⟩ else .dead,x.2),fun t=>if t=2 then S.loc (u+2) else 0⟩
theorem Sig.hand_lim (S:Sig) (u:Nat):(S.hand u).lim=S.lim:=by
 funext b
 simp only [Sig.lim,Sig.hand]
 cases S.own b<;>rfl
def mine (u:Nat):Option (Place × Nat)→Bool
 |some (q,_)=>q.r == u+2
 |none=>false
def Sig.took (S:Sig) (n u:Nat) (S':Sig) (p:Place):Sig:=
 ⟨fun b=>if b < n∧mine u (S.own b)=false then S.own b else (S'.own b).map fun x=>(if x.1.r=1 then ⟨p.r,p.path++x.1.path⟩ else if x.1.r=2 then ⟨u+2,x.1.path⟩ else .dead,x.2),fun t=>if t=u+2 then S'.loc 2 else S.loc t⟩
theorem mine_ne {u:Nat} {x:Option (Place × Nat)} (h:mine u x=false):∀ q l,x=some (q,l)→q.r ≠ u+2:=fun q l e he=>by
 subst e
 simp [mine,he] at h
section
variable {S S':Sig} {w w':World} {u:Nat} {p:Place}
theorem hand_old (ht:Trans (S.hand u) w S' w') {b:Nat} (hb:b < w.heap.size) (hn:mine u (S.own b)=false):w'.heap[b]?=w.heap[b]?∧S'.own b=(S.own b).map fun x=>(.dead,x.2):=by
 cases ho:S.own b with
 |none=>
  have h0:(S.hand u).own b=none:=by simp [Sig.hand,ho]
  obtain ⟨k1,k2⟩:=ht.free b hb h0
  exact ⟨k1,k2⟩
 |some y=>
  obtain ⟨q,l⟩:=y
  have hq:q.r ≠ u+2:=mine_ne hn q l ho
  have h0:(S.hand u).own b=some (.dead,l):=by simp [Sig.hand,ho,hq]
  obtain ⟨k1,k2⟩:=ht.foreign b _ _ hb h0 rfl
  exact ⟨k1,k2⟩
theorem took_lim (ht:Trans (S.hand u) w S' w'):(S.took w.heap.size u S' p).lim=S'.lim:=by
 funext b
 simp only [Sig.lim,Sig.took]
 split
 ·rename_i h
  rw [(hand_old ht h.1 h.2).2]
  cases S.own b<;>rfl
 ·cases S'.own b<;>rfl
theorem took_trans (ht:Trans (S.hand u) w S' w'):Trans S w (S.took w.heap.size u S' p) w':=by
 refine ⟨ht.os,ht.tape,ht.output,ht.size,fun b hb hn => ?_,fun b q l hb hs hd => ?_,fun b q l hb hs => ?_,?_⟩
 ·have hno:mine u (S.own b)=false:=by rw [hn];rfl
  refine ⟨(hand_old ht hb hno).1,?_⟩
  simp only [Sig.took]
  rw [if_pos ⟨hb,hno⟩]
  exact hn
 ·have hno:mine u (S.own b)=false:=by rw [hs];simp [mine,hd]
  refine ⟨(hand_old ht hb hno).1,?_⟩
  simp only [Sig.took]
  rw [if_pos ⟨hb,hno⟩]
  exact hs
 ·by_cases hno:mine u (S.own b)=false
  ·refine ⟨Keeps.of_eq (hand_old ht hb hno).1,fun x hx => ?_⟩
   simp only [Sig.took] at hx
   rw [if_pos ⟨hb,hno⟩,hs] at hx
   cases hx
   exact Nat.le_refl _
  ·have hq:q.r=u+2:=by rw [hs] at hno;simpa [mine] using hno
   have h0:(S.hand u).own b=some (⟨2,q.path⟩,l):=by simp [Sig.hand,hs,hq]
   obtain ⟨k1,k2⟩:=ht.held b _ _ hb h0
   refine ⟨k1,fun x hx => ?_⟩
   simp only [Sig.took] at hx
   rw [if_neg (fun e=>hno e.2)] at hx
   simp only [Option.map_eq_some_iff] at hx
   obtain ⟨y,hy,rfl⟩:=hx
   exact k2 y hy
 ·simp only [Sig.took]
  split
  ·rename_i h
   have hu:u=0:=by omega
   subst hu
   have:=ht.loc2
   simpa [Sig.hand] using this
  ·rfl
theorem took_wf (hw:WF S w) (ht:Trans (S.hand u) w S' w') (hw':WF S' w'):WF (S.took w.heap.size u S' p) w':=hw.of (took_trans ht) fun b x hb=>by
 simp only [Sig.took] at hb
 split at hb
 ·exact Nat.lt_of_lt_of_le (hw b x hb) ht.size
 ·simp only [Option.map_eq_some_iff] at hb
  obtain ⟨y,hy,_⟩:=hb
  exact hw' b y hy
theorem took_own (ht:Trans (S.hand u) w S' w') {b:Nat} {q:Place} {l:Nat} (ho:S'.own b=some (q,l)) (hq:q.r ≠ 0):(S.took w.heap.size u S' p).own b=some (if q.r=1 then ⟨p.r,p.path++q.path⟩ else if q.r=2 then ⟨u+2,q.path⟩ else .dead,l):=by
 have hno:¬ (b < w.heap.size∧mine u (S.own b)=false):=fun ⟨hb,hn⟩=>by
  have:=(hand_old ht hb hn).2
  rw [ho] at this
  cases hs:S.own b with
  |none=>rw [hs] at this;cases this
  |some y=>rw [hs] at this;cases this;exact hq rfl
 simp only [Sig.took]
 rw [if_neg hno,ho]
 rfl
theorem Rep.took (ht:Trans (S.hand u) w S' w') {v:Value} {d:D}:∀ {x:List Nat},d.calm=true→Rep S' w' ⟨1,x⟩ v d→Rep (S.took w.heap.size u S' p) w' ⟨p.r,p.path++x⟩ v d:=by
 have hlim:=took_lim (p:=p) ht
 have hown:∀ {x:List Nat} {v:Value} {d:D},d.calm1=true→Rep S' w' ⟨1,x⟩ v d→Rep (S.took w.heap.size u S' p) w' ⟨p.r,p.path++x⟩ v d:=by
  intro x v d hc hr
  cases hr with
  |fz hf=>exact .fz (by rw [hlim];exact hf)
  |@own _ b cap m sz rows cur e g=>
   refine .own ⟨g.mode,g.heap,g.le,g.max,g.size,g.each,?_,fun k r j d hk hd => ?_⟩
   ·rw [took_own ht g.own (by simp)]
    simp
   ·obtain ⟨y,h1,h2,h3⟩:=g.cells k r j d hk hd
    exact ⟨y,h1,h2,by rw [hlim];exact h3⟩
  |@mp _ b clock kd es ents hown hh he hk=>
   refine .mp ?_ hh he hk
   rw [took_own ht hown (by simp)]
   simp
  |obj=>cases hc
  |ref=>cases hc
  |gref=>cases hc
  |fn=>cases hc
  |agg=>cases hc
  |tup=>cases hc
 have hagg:∀ {x:List Nat} {v:Value} {cs:List D},cs.all D.calm1=true→Rep S' w' ⟨1,x⟩ v (.agg cs)→Rep (S.took w.heap.size u S' p) w' ⟨p.r,p.path++x⟩ v (.agg cs):=by
  intro x v cs hc hr
  obtain ⟨vs,rfl,h1,h2,h3⟩:=hr.agg_inv
  refine .agg vs h1 h2 fun j d v hd hv => ?_
  have:=hown (List.all_eq_true.1 hc d (gMem hd)) (h3 j d v hd hv)
  simpa [Place.at,List.append_assoc] using this
 intro x hc hr
 cases d with
 |agg cs=>exact hagg hc hr
 |tup ds=>
  obtain ⟨vs,rfl,h1,h3⟩:=hr.tup_inv
  refine .tup vs h1 fun j d v hd hv => ?_
  have hc1:=List.all_eq_true.1 hc d (gMem hd)
  have h4:=h3 j d v hd hv
  have:Rep (S.took w.heap.size u S' p) w' ⟨p.r,p.path++(x ++ [j])⟩ v d:=by
   cases d with
   |agg cs=>exact hagg hc1 h4
   |_=>exact hown hc1 h4
  simpa [Place.at,List.append_assoc] using this
 |any=>exact .fz (.any v)
 |_=>exact hown hc hr
def D.left:D→Bool
 |.obj cs=>cs.all D.calm1
 |d=>d.calm1
theorem Rep.took0 (ht:Trans (S.hand u) w S' w') {v:Value} {d:D} (hc:d.left=true) (hr:Rep S' w' (.slot 0) v d):Rep (S.took w.heap.size u S' p) w' (.slot u) v d:=by
 have hlim:=took_lim (p:=p) ht
 have hown:∀ {x:List Nat} {v:Value} {d:D},d.calm1=true→Rep S' w' ⟨2,x⟩ v d→Rep (S.took w.heap.size u S' p) w' ⟨u+2,x⟩ v d:=by
  intro x v d hc hr
  cases hr with
  |fz hf=>exact .fz (by rw [hlim];exact hf)
  |@own _ b cap m sz rows cur e g=>
   refine .own ⟨g.mode,g.heap,g.le,g.max,g.size,g.each,?_,fun k r j d hk hd => ?_⟩
   ·rw [took_own ht g.own (by simp)]
    simp
   ·obtain ⟨y,h1,h2,h3⟩:=g.cells k r j d hk hd
    exact ⟨y,h1,h2,by rw [hlim];exact h3⟩
  |@mp _ b clock kd es ents hown hh he hk=>
   refine .mp ?_ hh he hk
   rw [took_own ht hown (by simp)]
   simp
  |obj=>cases hc
  |ref=>cases hc
  |gref=>cases hc
  |fn=>cases hc
  |agg=>cases hc
  |tup=>cases hc
 cases d with
 |obj cs=>
  cases hr with
  |fz h=>cases h
  |@obj _ b _ _ cur e hb hp hl hh hs h1 ih=>
   refine .obj (b:=b) ?_ rfl ?_ hh hs h1 fun i d v hd hv=>hown (List.all_eq_true.1 hc d (gMem hd)) (ih i d v hd hv)
   ·rw [took_own ht hb (by simp)]
    simp
   ·simp only [Sig.took,if_true]
    exact hl
 |any=>exact .fz (.any v)
 |_=>exact hown hc hr
theorem took_other {fr:List D} (hw:WF S w) (ht:Trans (S.hand u) w S' w') {i:Nat} {e:D} {v:Value} (hi:i ≠ u) (hr:Rep S w (.slot i) v e) (hf:RefOk fr e) (hu:(∀ cs,fr[u]? ≠ some (.obj cs))∨(S'.loc 2=S.loc (u+2)∧S'.own (S.loc (u+2))=some (⟨2,[]⟩,0))):Rep (S.took w.heap.size u S' p) w' (.slot i) v e:=by
 have old:∀ b q l,S.own b=some (q,l)→q.r ≠ u+2→w'.heap[b]?=w.heap[b]?∧(S.took w.heap.size u S' p).own b=some (q,l):=fun b q l hs hq=>by
  have hb:=hw _ _ hs
  have hno:mine u (S.own b)=false:=by rw [hs];simp [mine,hq]
  refine ⟨(hand_old ht hb hno).1,?_⟩
  simp only [Sig.took]
  rw [if_pos ⟨hb,hno⟩]
  exact hs
 have hloc:∀ t,t ≠ u+2→(S.took w.heap.size u S' p).loc t=S.loc t:=fun t h=>by simp only [Sig.took,if_neg h]
 refine hr.trans hw (took_trans ht) (hloc 0 (by omega)) (fun b q l hs hu'=>old b q l hs fun e => ?_) (fun _=>hloc _ (by simp only [Place.slot];omega)) fun t hm ho => ?_
 ·have:=hu'.1
  simp only [Place.slot] at this
  omega
 ·by_cases htu:t=u
  ·subst htu
   obtain ⟨cs,hc⟩:=hf t hm
   rcases hu with h|⟨h1,h2⟩
   ·exact absurd hc (h cs)
   ·refine ⟨by simp only [Sig.took,if_true];exact h1,?_⟩
    rw [took_own ht h2 (by simp)]
    simp [Place.slot]
  ·exact ⟨hloc _ (by omega),(old _ _ _ ho (by simp only [Place.slot];omega)).2⟩
end
theorem D.left_men {d:D} (h:d.left=true) {t:Nat}:¬ Men t d:=by
 intro hm
 cases hm with
 |obj hd hm=>exact D.calm1_men (List.all_eq_true.1 h _ (gMem hd)) hm
 |ref=>cases h
 |gref=>cases h
 |fn=>cases h
 |agg=>cases h
 |tup=>cases h
theorem Rep.handed {S:Sig} {w:World} {u:Nat} {v:Value} {d:D} (hc:d.left=true) (hr:Rep S w (.slot u) v d):Rep (S.hand u) w (.slot 0) v d:=by
 have hlim:=S.hand_lim u
 have hown:∀ {x:List Nat} {v:Value} {d:D},d.calm1=true→Rep S w ⟨u+2,x⟩ v d→Rep (S.hand u) w ⟨2,x⟩ v d:=by
  intro x v d hc hr
  cases hr with
  |fz hf=>exact .fz (by rw [hlim];exact hf)
  |@own _ b cap m sz rows cur e g=>
   refine .own ⟨g.mode,g.heap,g.le,g.max,g.size,g.each,by simp [Sig.hand,g.own],fun k r j d hk hd => ?_⟩
   obtain ⟨y,h1,h2,h3⟩:=g.cells k r j d hk hd
   exact ⟨y,h1,h2,by rw [hlim];exact h3⟩
  |@mp _ b clock kd es ents hown hh he hk=>exact .mp (by simp [Sig.hand,hown]) hh he hk
  |obj=>cases hc
  |ref=>cases hc
  |gref=>cases hc
  |fn=>cases hc
  |agg=>cases hc
  |tup=>cases hc
 cases d with
 |obj cs=>
  cases hr with
  |fz h=>cases h
  |@obj _ b _ _ cur e hb hp hl hh hs h1 ih=>
   refine .obj (b:=b) (by simp [Sig.hand,hb]) rfl ?_ hh hs h1 fun i d v hd hv=>hown (List.all_eq_true.1 hc d (gMem hd)) (ih i d v hd hv)
   simp only [Sig.hand,if_true]
   exact hl
 |any=>exact .fz (.any v)
 |_=>exact hown hc hr
def SemO (P:Program) (f:Nat) (d0:D) (rest:List D) (d:D) (out:Option D):Prop:=
 Enters P f∧d.calm=true∧(∀ d',out=some d'→d'.left=true)∧∀ (S:Sig) (w:World) (v0:Value) (vs:List Value),WF S w→Rep S w (.slot 0) v0 d0→vs.length=rest.length→(∀ (i:Nat) (d:D) (v:Value),rest[i]?=some d→vs[i]?=some v→Fz S.lim w v d)→
  Calls P f (v0::vs).toArray w fun e w'=>∃ v S',e=.returned v∧WF S' w'∧Trans S w S' w'∧Rep S' w' .res v d∧∀ d',out=some d'→Rep S' w' (.slot 0) v0 d'
theorem SemO.of {P:Program} {f:Nat} {d0 d:D} {rest:List D} (h:Sem P f (d0::rest) d):SemO P f d0 rest d none:=by
 obtain ⟨h1,h2,h3⟩:=h
 refine ⟨h1,h2,(fun d' hd=>nomatch hd),fun S w v0 vs hw hr hl hf => ?_⟩
 refine (h3 S w (v0::vs) hw (by simp [hl]) fun i d v hd hv => ?_).mono fun e w' ⟨v,S',he,k1,k2,k3⟩=>⟨v,S',he,k1,k2,k3,fun d' hd=>by cases hd⟩
 cases i with
 |zero=>cases hd;cases hv;exact hr
 |succ i=>exact .fz (hf i d v (by simpa using hd) (by simpa using hv))
section
variable {P:Program} {dst:Option Tmp} {ty:TypeId} {pos:String} {after:Array Edge} {guard:Option (Nat × Bool)}
theorem own_call0 {f:Nat} {x:Operand} {d0:D} {ds':List D} {d:D} {out:Option D} {ρ:Operand→D} {S:Sig} {w:World} {a:Act} {u:Nat} (hwf:WF S w) (hleft:d0.left=true) (hsl:Rep S w (.slot u) (a.eval x) d0) (hops:∀ y ∈ xs,∃ q,Rep S w q (a.eval y) (ρ y))
  (hargs:DLes (xs.map ρ) ds') (hp:ds'.all D.passes=true) (hsem:SemO P f d0 ds' d out) 
  (hK:∀ v S' w',WF S' w'→Trans (S.hand u) w S' w'→Rep S' w' .res v d→(∀ d',out=some d'→Rep S' w' (.slot 0) (a.eval x) d')→K (a.put dst v) w'):(Oper.mk dst (.call ⟨.value (.func f),(x::xs).toArray,ts⟩) ty pos after guard).wp P a w K Q:=by
 obtain ⟨hen,hcalm,hcal1,hcall⟩:=hsem
 haveI:=hen
 have hlim:=S.hand_lim u
 have hfz:∀ (i:Nat) (d:D) (v:Value),ds'[i]?=some d→(xs.map a.eval)[i]?=some v→Fz (S.hand u).lim w v d:=fun i d v hd' hv=>by
  rw [hlim]
  rw [List.getElem?_map] at hv
  cases hx:xs[i]? with
  |none=>rw [hx] at hv;cases hv
  |some y=>
   rw [hx] at hv
   cases hv
   obtain ⟨q,hq⟩:=hops y (gMem hx)
   have hle:=hargs.get (i:=i) (d:=ρ y) (by rw [List.getElem?_map,hx];rfl) hd'
   exact (Rep.le hle hq).passes (List.all_eq_true.1 hp d (gMem hd'))
 have hwh:WF (S.hand u) w:=⟨fun b x hb=>by
  simp only [Sig.hand,Option.map_eq_some_iff] at hb
  obtain ⟨y,hy,_⟩:=hb
  exact hwf b y hy,hwf.gl.sig fun b hb=>by simp [Sig.hand,hb]⟩
 have hrep0:=hsl.handed hleft
 refine r_call (hcall (S.hand u) w (a.eval x) (xs.map a.eval) hwh hrep0 (by rw [hargs.len];simp) hfz) (by apply Array.ext';simp) fun e w' ⟨v,S',he,hw',ht,hrep,hout⟩ => ?_
 subst he
 exact hK v S' w' hw' ht hrep hout
theorem took_nm {S S':Sig} {w w':World} {u:Nat} {p:Place} {fr fr':List D} (hw:WF S w) (ht:Trans (S.hand u) w S' w') {x:Nat} (hx:ObjAt S fr x) (hxu:x ≠ u) (hf:∃ cs,fr'[x]?=some (.obj cs)):
  ObjAt (S.took w.heap.size u S' p) fr' x∧∀ o y,w.cell? ⟨S.loc (x+2),o,none⟩=some y→w'.cell? ⟨(S.took w.heap.size u S' p).loc (x+2),o,none⟩=some y:=by
 have hb:=hw _ _ hx.own
 have hm:mine u (S.own (S.loc (x+2)))=false:=by
  rw [hx.own]
  simp only [mine,Place.slot,beq_eq_false_iff_ne]
  omega
 have hl:(S.took w.heap.size u S' p).loc (x+2)=S.loc (x+2):=if_neg (by omega)
 refine ⟨hx.mono (w:=w) (w':=w') hf hl (if_pos ⟨hb,hm⟩),fun o y hy => ?_⟩
 rw [hl,World.cell?_of_block (a:=⟨S.loc (x+2),o,none⟩) (w:=w) (hand_old ht hb hm).1]
 exact hy
def nmU (u:Nat):D→Bool
 |.alc x _=>Nat.beq x u
 |.el x _ _ _ _=>Nat.beq x u
 |_=>false
def unob (u:Nat) (d:D):D:=match nmU u d with
 |true=>.any
 |false=>d
theorem unob_map {u:Nat} {fr:List D} (h:fr.any (nmU u)=false):fr.map (unob u)=fr:=by
  have:∀ d ∈ fr,unob u d=d:=fun d hd=>by
    have:=List.any_eq_false.1 h d hd
    unfold unob
    rw [Bool.not_eq_true] at this
    rw [this]
  calc fr.map (unob u)=fr.map id:=List.map_congr_left this
    _=fr:=List.map_id fr
theorem unob_owns {u:Nat} {d:D} (h:d.owns=true):unob u d=d:=by
 cases d<;>first|rfl|cases h
theorem hrk_unal {fr:List D} {u:Nat} {d0:D} (hd:fr[u]?=some d0) (hn:d0.isObj=false) (d1:D):∀ e,RefOk fr e→RefOk ((fr.map (unal u .any)).set u d1) e:=fun e he x hx=>by
 obtain ⟨cs,hc⟩:=he x hx
 have hxu:u ≠ x:=fun e=>by subst e;rw [hd] at hc;cases hc;cases hn
 exact ⟨cs,by rw [List.getElem?_set_ne hxu,List.getElem?_map,hc];rfl⟩
theorem own_call {f:Nat} {x:Operand} {m sz:Nat} {rows:List (List D)} {ds':List D} {d:D} {out:Option D} {S:Sig} {w:World} {a:Act} {fr:List D} (hF:FR S w a fr) {u:Nat} (hd:fr[u]?=some (.sl (m+1) sz rows)) (hs:a.tmps[u]?=some (a.eval x))
  (hargs:DLes (xs.map (evalD fr)) ds') (hp:ds'.all D.passes=true) (hsem:SemO P f (.sl (m+1) sz rows) ds' d out) {p:Place} 
  (hK:∀ v S' w',Trans S w S' w'→FR S' w' a ((fr.map (unal u .any)).set u (out.getD .any))→Rep S' w' p v d→K (a.put dst v) w'):(Oper.mk dst (.call ⟨.value (.func f),(x::xs).toArray,ts⟩) ty pos after guard).wp P a w K Q:=by
 obtain ⟨v0,hv0,hsl⟩:=hF.at hd
 obtain rfl:v0=a.eval x:=Option.some.inj (hv0.symm.trans hs)
 refine own_call0 hF.wf rfl hsl.1 (fun y _=>hF.eval y) hargs hp hsem fun v S' w' hw' ht hrep hout => ?_
 obtain ⟨_,hcalm,hcal1,_⟩:=hsem
 have hT':=took_trans (p:=p) ht
 have hfin:=Rep.took (p:=p) ht (x := []) hcalm hrep
 rw [List.append_nil] at hfin
 refine hK v (S.took w.heap.size u S' p) w' hT' ?_ hfin
 have hlt:u < fr.length:=(gLt hd)
 have hrk:=hrk_unal hd rfl (out.getD .any)
 refine ⟨took_wf hF.wf ht hw',by simp [hF.size],hF.defers,fun i e v hi hv => ?_⟩
 by_cases hiu:i=u
 ·subst hiu
  rw [List.getElem?_set_self (by simpa using hlt)] at hi
  cases hi
  rw [hs] at hv
  cases hv
  cases out with
  |none=>exact SlotRep.of (.fz (.any _)) fun t ht=>by cases ht
  |some d'=>exact SlotRep.of (Rep.took0 (p:=p) ht (hcal1 d' rfl) (hout d' rfl)) fun t hm=>absurd hm (D.left_men (hcal1 d' rfl))
 ·rw [List.getElem?_set_ne (Ne.symm hiu),List.getElem?_map] at hi
  cases hfi:fr[i]? with
  |none=>rw [hfi] at hi;cases hi
  |some e0=>
   rw [hfi] at hi
   cases hi
   have hs:=hF.slot i e0 v hfi hv
   cases e0 with
   |al y=>
    obtain ⟨h1,d',h2,h3,h4⟩:=hs
    by_cases hyu:y=u
    ·simp only [unal,if_pos hyu]
     exact SlotRep.of (.fz (.any _)) fun t ht=>by cases ht
    ·simp only [unal,if_neg hyu]
     refine ⟨h1,d',?_,h3,h4⟩
     rw [List.getElem?_set_ne (Ne.symm hyu),List.getElem?_map,h2]
     cases d'<;>first|rfl|cases h3
   |alc y o=>
    obtain ⟨q1,q2⟩:=set_obj (r0:=.any) hd rfl hs.1.obj
    obtain ⟨k1,k2⟩:=took_nm (p:=p) hF.wf ht hs.1 (Ne.symm q1) (unal_obj q1 hs.1.obj)
    exact ⟨k1,k2 _ _ hs.2⟩
   |el y o sz k j=>
    obtain ⟨g1,s,g2,g3⟩:=hs
    obtain ⟨q1,q2⟩:=set_obj (r0:=.any) hd rfl g1.obj
    obtain ⟨k1,k2⟩:=took_nm (p:=p) hF.wf ht g1 (Ne.symm q1) (unal_obj q1 g1.obj)
    exact ⟨k1,s,k2 _ _ g2,g3⟩
   |es y sz k j=>
    obtain ⟨⟨d',h2,h3,h4⟩,s,h1,h5⟩:=hs
    by_cases hyu:y=u
    ·simp only [unal,if_pos hyu]
     exact SlotRep.of (.fz (.any _)) fun t ht=>by cases ht
    ·simp only [unal,if_neg hyu]
     refine ⟨⟨d',?_,h3,h4⟩,s,h1,h5⟩
     rw [List.getElem?_set_ne (Ne.symm hyu),List.getElem?_map,h2]
     cases d'<;>first|rfl|cases h3
   |_=>exact ⟨took_other hF.wf ht hiu hs.1 hs.2 (.inl fun cs h=>by rw [hd] at h;cases h),hrk _ hs.2⟩
theorem own_callO {f:Nat} {x:Operand} {cs cs':List D} {ds':List D} {d:D} {S:Sig} {w:World} {a:Act} {fr:List D} (hF:FR S w a fr) {u:Nat} (hd:fr[u]?=some (.obj cs)) (hc:cs.all D.calm1=true) (hs:a.eval x=.pointer (some ⟨S.loc (u+2),0,none⟩))
  (hargs:DLes (xs.map (evalD fr)) ds') (hp:ds'.all D.passes=true) (hsem:SemO P f (.obj cs) ds' d (some (.obj cs'))) {p:Place} 
  (hK:∀ v S' w',Trans S w S' w'→FR S' w' a ((fr.map (unob u)).set u (.obj cs'))→Rep S' w' p v d→K (a.put dst v) w'):(Oper.mk dst (.call ⟨.value (.func f),(x::xs).toArray,ts⟩) ty pos after guard).wp P a w K Q:=by
 obtain ⟨v0,hv0,hsl⟩:=hF.at hd
 have hb0:v0=a.eval x:=by
  rw [hs]
  cases hsl.1 with
  |fz h=>cases h
  |obj hb hp hl hh hs h1 ih=>subst hl;rfl
 subst hb0
 refine own_call0 (d0:=.obj cs) hF.wf hc hsl.1 (fun y _=>hF.eval y) hargs hp hsem fun v S' w' hw' ht hrep hout => ?_
 obtain ⟨_,hcalm,hcal1,_⟩:=hsem
 have hT':=took_trans (p:=p) ht
 have hfin:=Rep.took (p:=p) ht (x := []) hcalm hrep
 rw [List.append_nil] at hfin
 refine hK v (S.took w.heap.size u S' p) w' hT' ?_ hfin
 have hlt:u < fr.length:=(gLt hd)
 have ho:=hout _ rfl
 have hob:S'.loc 2=S.loc (u+2)∧S'.own (S.loc (u+2))=some (⟨2,[]⟩,0):=by
  clear hfin hK hout
  generalize a.eval x=v1 at ho hs
  cases ho with
  |fz h=>cases h
  |obj hb hp hl hh _ h1 ih=>
   have he:=congrArg (fun v:Value=>match v with | .pointer (some q)=>q.block|_=>0) hs
   simp only at he
   rw [← he]
   exact ⟨hl,hb⟩
 have hlt':u < (fr.map (unob u)).length:=by simpa using hlt
 have hobj:∀ {y:Nat},(∃ cs,fr[y]?=some (D.obj cs))→∃ c,((fr.map (unob u)).set u (D.obj cs'))[y]?=some (D.obj c):=fun {y} ⟨c,h⟩=>by
  by_cases hyu:y=u
  ·subst hyu;exact ⟨cs',List.getElem?_set_self hlt'⟩
  ·exact ⟨c,by rw [List.getElem?_set_ne (Ne.symm hyu),List.getElem?_map,h];rfl⟩
 have hrk:∀ e,RefOk fr e→RefOk ((fr.map (unob u)).set u (.obj cs')) e:=fun e he y hy=>hobj (he y hy)
 have howns:∀ {y:Nat} {d':D},fr[y]?=some d'→d'.owns=true→∃ d'',((fr.map (unob u)).set u (D.obj cs'))[y]?=some d''∧d''.owns=true:=fun {y d'} g2 g3=>by
  by_cases hyu:y=u
  ·subst hyu
   exact ⟨_,List.getElem?_set_self hlt',rfl⟩
  ·exact ⟨d',by rw [List.getElem?_set_ne (Ne.symm hyu),List.getElem?_map,g2];exact congrArg some (unob_owns g3),g3⟩
 refine ⟨took_wf hF.wf ht hw',by simp [hF.size],hF.defers,fun i e v hi hv => ?_⟩
 by_cases hiu:i=u
 ·subst hiu
  rw [List.getElem?_set_self hlt'] at hi
  cases hi
  rw [hv0] at hv
  cases hv
  exact SlotRep.of (Rep.took0 (p:=p) ht (hcal1 _ rfl) ho) fun t hm=>absurd hm (D.left_men (hcal1 _ rfl))
 ·rw [List.getElem?_set_ne (Ne.symm hiu),List.getElem?_map] at hi
  cases hfi:fr[i]? with
  |none=>rw [hfi] at hi;cases hi
  |some e0=>
  rw [hfi] at hi
  cases hi
  have hs:=hF.slot i e0 v hfi hv
  cases e0 with
  |al y=>
   obtain ⟨h1,d',h2,h3,h4⟩:=hs
   obtain ⟨d'',k1,k2⟩:=howns h2 h3
   exact ⟨h1,d'',k1,k2,h4⟩
  |alc y o=>
   cases hn:nmU u (.alc y o) with
   |true=>
    unfold unob
    rw [hn]
    exact SlotRep.of (.fz (.any _)) fun t ht=>by cases ht
   |false=>
    unfold unob
    rw [hn]
    obtain ⟨k1,k2⟩:=took_nm (p:=p) hF.wf ht hs.1 (fun e=>by subst e;simp [nmU] at hn) (hobj hs.1.obj)
    exact ⟨k1,k2 _ _ hs.2⟩
  |el y o sz k j=>
   cases hn:nmU u (.el y o sz k j) with
   |true=>
    unfold unob
    rw [hn]
    exact SlotRep.of (.fz (.any _)) fun t ht=>by cases ht
   |false=>
    unfold unob
    rw [hn]
    obtain ⟨g1,s,g2,g3⟩:=hs
    obtain ⟨k1,k2⟩:=took_nm (p:=p) hF.wf ht g1 (fun e=>by subst e;simp [nmU] at hn) (hobj g1.obj)
    exact ⟨k1,s,k2 _ _ g2,g3⟩
  |es y sz k j=>
   obtain ⟨⟨d',h2,h3,h4⟩,s,h1,h5⟩:=hs
   obtain ⟨d'',k1,k2⟩:=howns h2 h3
   exact ⟨⟨d'',k1,k2,h4⟩,s,h1,h5⟩
  |_=>exact ⟨took_other hF.wf ht hiu hs.1 hs.2 (.inr hob),hrk _ hs.2⟩
def GivesO (P:Program) (f:Nat) (d0:D) (args:List D) (d:D) (out:Option D):Prop:=∃ d1 ds',d0=d1∧DLes args ds'∧ds'.all D.passes=true∧SemO P f d1 ds' d out
end
end Go.Proofs.YtindehjiaknokaaGreatDoor
namespace Go.Proofs.YtindehjiaknokaaGreatDoor
set_option linter.unusedSimpArgs false
set_option linter.unusedVariables false
open Go.RowKit
variable {S:Sig} {a:Act} {cs:List D} {cur:Array Value} {off u:Nat} {rows:List (List D)} {w:World}
theorem BT.repC {S':Sig} {w':World} {b0 l0:Nat} (h:BT S w S' w' b0) (hw:WF S w) (h0:S.own b0=some (⟨u+2,[off]⟩,l0)) {p:Place} {e:D} {v:Value} (hp:¬ (⟨u+2,[off]⟩:Place).under p) (hr:Rep S w p v e):Rep S' w' p v e:=by
 refine hr.trans hw h.tr (by rw [h.loc]) (fun b q l hs hu => ?_) (fun _=>by rw [h.loc]) fun t hm ht => ?_
 ·have hb:b ≠ b0:=fun e=>by
   subst e
   rw [h0] at hs
   cases hs
   exact hp hu
  exact ⟨h.heap b (hw _ _ hs) hb,by rw [h.own b (hw _ _ hs) hb];exact hs⟩
 ·rw [h.loc]
  have hb:S.loc (t+2) ≠ b0:=fun e=>by
   rw [e,h0] at ht
   simp [Place.slot] at ht
  exact ⟨rfl,by rw [h.own _ (hw _ _ ht) hb];exact ht⟩
theorem FR.recellG {S':Sig} {w':World} {fr:List D} (h:FR S w a fr) (hwf:WF S' w') (hloc':S'.loc=S.loc) (hold:∀ b x,S.own b=some (.slot x,0)→w'.heap[b]?=w.heap[b]?∧S'.own b=S.own b)
  (keep:∀ {p:Place} {e:D} {v:Value},¬ (⟨u+2,[off]⟩:Place).under p→Rep S w p v e→Rep S' w' p v e) (hd:fr[u]?=some (.obj cs))
  {r0:D} (hr:∀ x,w.cell? ⟨S.loc (u+2),off,none⟩=some x→Rep S' w' ⟨u+2,[off]⟩ x r0) (hm:∀ t,¬ Men t r0):FR S' w' a (fr.set u (.obj (cs.set off r0))):=by
 have hlt:u < fr.length:=(gLt hd)
 have hobj:∀ {x:Nat},(∃ cs,fr[x]?=some (D.obj cs))→∃ cs',(fr.set u (D.obj (cs.set off r0)))[x]?=some (D.obj cs'):=fun {x} ⟨cs',hc'⟩=>by
  by_cases hxu:u=x
  ·subst hxu;exact ⟨_,List.getElem?_set_self hlt⟩
  ·exact ⟨cs',by rw [List.getElem?_set_ne hxu];exact hc'⟩
 have hrk:∀ e,RefOk fr e→RefOk (fr.set u (.obj (cs.set off r0))) e:=fun e he x hx=>hobj (he x hx)
 have howns:∀ {x:Nat} {d':D},fr[x]?=some d'→d'.owns=true→∃ d'',(fr.set u (D.obj (cs.set off r0)))[x]?=some d''∧d''.owns=true:=fun {x d'} g2 g3=>by
  by_cases hxu:u=x
  ·subst hxu;exact ⟨_,List.getElem?_set_self hlt,rfl⟩
  ·exact ⟨d',by rw [List.getElem?_set_ne hxu];exact g2,g3⟩
 have nm:∀ {x:Nat},ObjAt S fr x→ObjAt S' (fr.set u (D.obj (cs.set off r0))) x∧∀ (o:Nat) (y:Value),w.cell? ⟨S.loc (x+2),o,none⟩=some y→w'.cell? ⟨S'.loc (x+2),o,none⟩=some y:=fun {x} hx=>by
  obtain ⟨q1,q2⟩:=hold _ _ hx.own
  refine ⟨hx.mono (w:=w) (w':=w') (hobj hx.obj) (by rw [hloc']) q2,fun o y hy => ?_⟩
  rw [hloc',World.cell?_of_block (a:=⟨S.loc (x+2),o,none⟩) (w:=w) q1]
  exact hy
 refine ⟨hwf,by simp [h.size],h.defers,fun i e v hi hv => ?_⟩
 by_cases hiu:i=u
 ·subst hiu
  rw [List.getElem?_set_self hlt] at hi
  cases hi
  have hsl:=h.slot i _ v hd hv
  obtain ⟨b,cur,e,rfl,hbo,hloc,hh,hsz,h1,ih⟩:=hsl.1.obj_inv
  obtain ⟨q1,q2⟩:=hold _ _ hbo
  refine SlotRep.of (.obj (by rw [q2];exact hbo) rfl (by rw [hloc'];exact hloc) (q1.trans hh) (by simpa using hsz) h1 fun j d x hj hx => ?_) (fun t ht => ?_)
  ·by_cases hjo:j=off
   ·subst hjo
    have hjl:j < cs.length:=by
     have:=(gLt hj)
     simpa using this
    rw [List.getElem?_set_self hjl] at hj
    cases hj
    exact hr x (by rw [hloc,cell_of_row w b _ cur e (0,0) hh];exact hx)
   ·rw [List.getElem?_set_ne (Ne.symm hjo)] at hj
    exact keep (fun hu=>by
     obtain ⟨_,l,hl⟩:=hu
     simp only [List.cons_append,List.nil_append,List.cons.injEq] at hl
     omega) (ih j d x hj hx)
  ·cases ht with
   |@obj j _ d hj hmm=>
    by_cases hjo:j=off
    ·subst hjo
     have hjl:j < cs.length:=by
      have:=(gLt hj)
      simpa using this
     rw [List.getElem?_set_self hjl] at hj
     cases hj
     exact (hm _ hmm).elim
    ·rw [List.getElem?_set_ne (Ne.symm hjo)] at hj
     exact hobj (hsl.2 t (.obj hj hmm))
 ·rw [List.getElem?_set_ne (Ne.symm hiu)] at hi
  have hs:=h.slot i e v hi hv
  cases e with
  |al x=>
   obtain ⟨g1,d',g2,g3,g4⟩:=hs
   obtain ⟨d'',k1,k2⟩:=howns g2 g3
   exact ⟨g1,d'',k1,k2,g4⟩
  |alc x o=>
   obtain ⟨k1,k2⟩:=nm hs.1
   exact ⟨k1,k2 _ _ hs.2⟩
  |el x o sz k j=>
   obtain ⟨g1,s,g2,g3⟩:=hs
   obtain ⟨k1,k2⟩:=nm g1
   exact ⟨k1,s,k2 _ _ g2,g3⟩
  |es x sz k j=>
   obtain ⟨⟨d',g2,g3,g4⟩,s,g1,g5⟩:=hs
   obtain ⟨d'',k1,k2⟩:=howns g2 g3
   exact ⟨⟨d'',k1,k2,g4⟩,s,g1,g5⟩
  |_=>exact ⟨keep (fun hu=>hiu (by have:=hu.1;simp [Place.slot] at this;omega)) hs.1,hrk _ hs.2⟩
theorem FR.reownC {S':Sig} {w':World} {fr:List D} (h:FR S w a fr) {b0 l0:Nat} (hb:BT S w S' w' b0) (h0:S.own b0=some (⟨u+2,[off]⟩,l0)) (hd:fr[u]?=some (.obj cs))
  {r0:D} (hr:∀ x,w.cell? ⟨S.loc (u+2),off,none⟩=some x→Rep S' w' ⟨u+2,[off]⟩ x r0) (hm:∀ t,¬ Men t r0):FR S' w' a (fr.set u (.obj (cs.set off r0))):=
 h.recellG hb.wf hb.loc (fun b x hbx=>by
  have hne:b ≠ b0:=fun e=>by subst e;rw [h0] at hbx;simp [Place.slot] at hbx
  exact ⟨hb.heap _ (h.wf _ _ hbx) hne,hb.own _ (h.wf _ _ hbx) hne⟩) (fun hp hr=>hb.repC h.wf h0 hp hr) hd hr hm
theorem FR.recell {fr:List D} (h:FR S w a fr) (hd:fr[u]?=some (.obj cs)) (off:Nat)
  {r0:D} (hr:∀ x,w.cell? ⟨S.loc (u+2),off,none⟩=some x→Rep S w ⟨u+2,[off]⟩ x r0) (hm:∀ t,¬ Men t r0):FR S w a (fr.set u (.obj (cs.set off r0))):=
 h.recellG h.wf rfl (fun _ _ _=>⟨rfl,rfl⟩) (fun _ hr=>hr) hd hr hm
theorem FR.setD {fr:List D} (h:FR S w a fr) {t:Nat} {d d0:D} {v:Value} (h0:fr[t]?=some d0) (hn:d0.owns=false) (hv:a.tmps[t]?=some v) (hr:Rep S w (.slot t) v d) (hf:RefOk fr d):FR S w a (fr.set t d):=by
 have hp:=h.put (PT.refl h.wf) h0 hn hr hf
 have ha:a.put (some t) v=a:=by
  have hlt:t < a.tmps.size:=(Array.getElem?_eq_some_iff.1 hv).1
  have hvt:a.tmps[t]=v:=(Array.getElem?_eq_some_iff.1 hv).2
  cases a with
  |mk tmps defers=>
   simp only [Act.put]
   congr 1
   apply Array.ext_getElem?
   intro i
   rw [Array.getElem?_setIfInBounds]
   split
   ·rename_i e
    subst e
    simp only at hlt hvt
    simp [hlt,hvt]
   ·rfl
 rwa [ha] at hp
theorem FR.nameC {fr:List D} (h:FR S w a fr) {d:D} (hd:fr[u]?=some (.obj cs)) (hc:cs[off]?=some d):∃ x,w.cell? ⟨S.loc (u+2),off,none⟩=some x∧x.oneCell'=true∧Rep S w ⟨u+2,[off]⟩ x d∧∀ t,SlotRep S w a fr t x (.alc u off):=by
 obtain ⟨v,hv,hs⟩:=h.at hd
 obtain ⟨b,cur,e,rfl,hbo,hloc,hh,hsz,h1,ih⟩:=hs.1.obj_inv
 have hlt:off < cur.size:=by rw [← hsz];exact (gLt hc)
 have hx:cur[off]?=some cur[off]:=Array.getElem?_eq_getElem hlt
 have hcell:w.cell? ⟨S.loc (u+2),off,none⟩=some cur[off]:=by rw [hloc,cell_of_row w b _ cur e (0,0) hh];exact hx
 exact ⟨_,hcell,h1 _ _ hx,ih _ _ _ hc hx,fun t=>⟨⟨⟨cs,hd⟩,by rw [hloc];exact hbo⟩,hcell⟩⟩
theorem FR.takeC {fr:List D} (h:FR S w a fr) {x m sz:Nat} (hx:fr[x]?=some (.alc u off)) (hd:fr[u]?=some (.obj cs)) (hc:cs[off]?=some (.sl (m+1) sz rows)):
  ∃ S',Trans S w S' w∧FR S' w a ((fr.set u (.obj (cs.set off .any))).set x (.sl (m+1) sz rows)):=by
 obtain ⟨y,hy,_,hrep,_⟩:=h.nameC hd hc
 obtain ⟨v,hv,hs⟩:=h.at hx
 obtain rfl:v=y:=Option.some.inj (hs.2.symm.trans hy)
 have hux:u ≠ x:=fun e=>by subst e;rw [hd] at hx;cases hx
 rcases hrep.sl_inv with ⟨rfl,rfl⟩|⟨b,cap,cur,e,rfl,g⟩
 ·have hfin:∀ {S:Sig},Rep S w (.slot x) (.slice none 0 0) (.sl (m+1) sz []):=.fz (.slNil _ _)
  refine ⟨S,Trans.refl S w,?_⟩
  have h1:FR S w a (fr.set x (.sl (m+1) sz [])):=h.setD hx rfl hv hfin fun t ht=>(no_men_sl ht).elim
  rw [List.set_comm _ _ hux]
  have hd1:(fr.set x (.sl (m+1) sz []))[u]?=some (.obj cs):=by rw [List.getElem?_set_ne (Ne.symm hux)];exact hd
  exact h1.recell hd1 off (fun _ _=>.fz (.any _)) (fun t ht=>by cases ht)
 ·have hbt:BT S w (S.set b (some (.slot x,if m+1=2 then 0 else rows.length * sz))) w b:=BT.ghost h.wf g.own (by simp) (fun y hy=>by cases hy;simp)
  have h1:=h.reownC (r0:=.any) hbt g.own hd (fun _ _=>.fz (.any _)) (fun t ht=>by cases ht)
  refine ⟨_,hbt.tr,h1.setD (by rw [List.getElem?_set_ne hux];exact hx) rfl hv (.own ⟨g.mode,g.heap,g.le,g.max,g.size,g.each,by rw [S.set_at],fun k r j d k1 k2 => ?_⟩) fun t ht=>(no_men_sl ht).elim⟩
  obtain ⟨z,x1,x2,x3⟩:=g.cells k r j d k1 k2
  exact ⟨z,x1,x2,x3.trans hbt.tr⟩
theorem FR.downC {fr:List D} (h:FR S w a fr) {sz:Nat} (hd:fr[u]?=some (.obj cs)) (hc:cs[off]?=some (.sl 2 sz rows)):
  ∃ S',Trans S w S' w∧FR S' w a (fr.set u (.obj (cs.set off (.sl 1 sz rows)))):=by
 obtain ⟨y,hy,_,hrep,_⟩:=h.nameC hd hc
 rcases hrep.sl_inv with ⟨rfl,rfl⟩|⟨b,cap,cur,e,rfl,g⟩
 ·exact ⟨S,Trans.refl S w,h.recell hd off (fun x hx=>by rw [hy] at hx;cases hx;exact .fz (.slNil _ _)) fun t=>no_men_sl⟩
 ·have hbt:BT S w (S.set b (some (⟨u+2,[off]⟩,rows.length * sz))) w b:=BT.ghost h.wf g.own (by simp) (fun y hy=>by cases hy;simp)
  refine ⟨_,hbt.tr,h.reownC hbt g.own hd (fun x hx => ?_) fun t=>no_men_sl⟩
  rw [hy] at hx
  cases hx
  refine .own ⟨.inl rfl,g.heap,g.le,g.max,g.size,g.each,by rw [S.set_at];rfl,fun k r j d k1 k2 => ?_⟩
  obtain ⟨z,x1,x2,x3⟩:=g.cells k r j d k1 k2
  exact ⟨z,x1,x2,x3.trans hbt.tr⟩
theorem FR.freezeC {fr:List D} (h:FR S w a fr) {m sz:Nat} (hd:fr[u]?=some (.obj cs)) (hc:cs[off]?=some (.sl (m+1) sz rows)):
  ∃ S',Trans S w S' w∧FR S' w a (fr.set u (.obj (cs.set off (.sl 0 sz rows)))):=by
 obtain ⟨y,hy,_,hrep,_⟩:=h.nameC hd hc
 rcases hrep.sl_inv with ⟨rfl,rfl⟩|⟨b,cap,cur,e,rfl,g⟩
 ·exact ⟨S,Trans.refl S w,h.recell hd off (fun x hx=>by rw [hy] at hx;cases hx;exact .fz (.slNil _ _)) fun t=>no_men_sl⟩
 ·have hbt:BT S w (S.set b none) w b:=BT.ghost h.wf g.own (by simp) (fun y hy=>by cases hy)
  refine ⟨_,hbt.tr,h.reownC hbt g.own hd (fun x hx => ?_) fun t=>no_men_sl⟩
  rw [hy] at hx
  cases hx
  exact .fz (g.fz2 (fun h=>h.trans hbt.tr) rfl (fun k _ s hs=>by simp [Sig.lim,S.set_at] at hs))
theorem splice {us:List Value} {n:Nat} (hn:us.length=n) (hl:off+n≤cur.size):
  (cur.toList.take off++us++cur.toList.drop (off+n)).toArray.size=cur.size∧∀ i,(cur.toList.take off++us++cur.toList.drop (off+n)).toArray[i]?=if i < off then cur[i]? else if i < off+n then us[i - off]? else cur[i]?:=by
 refine ⟨by simp;omega,fun i => ?_⟩
 rw [← Array.getElem?_toList]
 simp only []
 by_cases h1:i < off
 ·rw [if_pos h1,List.append_assoc,List.getElem?_append_left (by simp;omega),List.getElem?_take,if_pos h1,Array.getElem?_toList]
 ·rw [if_neg h1]
  by_cases h2:i < off+n
  ·rw [if_pos h2,List.append_assoc,List.getElem?_append_right (by simp;omega),List.getElem?_append_left (by simp;omega)]
   congr 1;simp;omega
  ·rw [if_neg h2,List.getElem?_append_right (by simp;omega),List.getElem?_drop,Array.getElem?_toList]
   congr 1;simp;omega
theorem el_at {p:Place} {s v:Value} {m sz k j:Nat} {r:List D} (hr:Rep S w p s (.sl (m+1) sz rows)) (he:ElAt s sz k j v) (hk:rows[k]?=some r):
  ∃ b cap cur e,v=.pointer (some ⟨b,k * sz+j,none⟩)∧s=.slice (some ⟨b,0,none⟩) rows.length cap∧OwnAt S w p b cap (m+1) sz rows cur e:=by
 obtain ⟨b,len,cap,hs,rfl⟩:=he
 rcases hr.sl_inv with ⟨h1,_⟩|⟨b',cap',cur,e,h1,g⟩
 ·rw [h1] at hs;cases hs
 ·rw [h1] at hs
  cases hs
  exact ⟨b,cap,cur,e,rfl,h1,g⟩
theorem OwnAt.elem {p:Place} {b cap m sz:Nat} {e:TypeId} (g:OwnAt S w p b cap m sz rows cur e) {k j:Nat} {r:List D} {d:D} (hk:rows[k]?=some r) (hj:r[j]?=some d):
  ∃ x,w.cell? ⟨b,k * sz+j,none⟩=some x∧x.oneCell'=true∧Fz S.lim w x d:=by
 obtain ⟨x,x1,x2,x3⟩:=g.cells k r j d hk hj
 exact ⟨x,by rw [cell_of_row w b _ cur e (0,0) g.heap];exact x1,x2,x3⟩
theorem OwnAt.store {p:Place} {b cap sz:Nat} {e:TypeId} (hw:WF S w) (hp:p.r ≠ 0) (g:OwnAt S w p b cap 2 sz rows cur e) {k j:Nat} {r vs:List D} {us:List Value} (hk:rows[k]?=some r) (hc:CR S.lim w us vs) (hl:j+vs.length≤sz):
  k * sz+j+vs.length≤cur.size∧BT S w S (w.setRow b (cur.toList.take (k * sz+j)++us++cur.toList.drop (k * sz+j+vs.length)).toArray) b∧
   ∃ CUR,OwnAt S (w.setRow b (cur.toList.take (k * sz+j)++us++cur.toList.drop (k * sz+j+vs.length)).toArray) p b cap 2 sz (rows.set k (r.take j++vs++r.drop (j+vs.length))) CUR e:=by
 have hkl:k < rows.length:=(gLt hk)
 have hrl:=g.each r (gMem hk)
 have hks:(k+1) * sz≤rows.length * sz:=Nat.mul_le_mul_right _ hkl
 have hcs:rows.length * sz≤cap * sz:=Nat.mul_le_mul_right _ g.le
 rw [Nat.add_mul] at hks
 have hle:k * sz+j+vs.length≤cur.size:=by rw [g.size];omega
 have hown:=g.own
 simp only [if_true] at hown
 obtain ⟨hCs,hcell⟩:=splice (cur:=cur) (us:=us) (off:=k * sz+j) (n:=vs.length) hc.len hle
 generalize (cur.toList.take (k * sz+j)++us++cur.toList.drop (k * sz+j+vs.length)).toArray=CUR at *
 have hh:=g.heap
 have hw':(w.setRow b CUR).heap[b]?=some (.cells CUR e (0,0)):=setRow_heap w b cur CUR e (0,0) hh
 have hother:∀ k,k ≠ b→(w.setRow b CUR).heap[k]?=w.heap[k]?:=fun k hk=>setRow_other w b k CUR hk
 have hsz:(w.setRow b CUR).heap.size=w.heap.size:=by simp
 have htr:Trans S w S (w.setRow b CUR):=by
  refine ⟨rfl,rfl,rfl,by simp,fun k hk hn=>⟨hother k (fun e=>by subst e;rw [hown] at hn;cases hn),hn⟩,fun k q l hk hs hq=>⟨hother k (fun e=>by subst e;rw [hown] at hs;cases hs;exact hp hq),hs⟩,fun k q l hk hs=>⟨?_,fun x hx=>by rw [hs] at hx;cases hx;exact Nat.le_refl _⟩,rfl⟩
  by_cases hkb:k=b
  ·subst hkb
   rw [hown] at hs
   cases hs
   intro cur1 e1 fz1 h2
   rw [hh] at h2
   cases h2
   exact ⟨CUR,hw',hCs,fun off ho=>by omega⟩
  ·exact Keeps.of_eq (hother k hkb)
 refine ⟨hle,⟨htr,hw.of htr fun k x hk=>by rw [hsz];exact hw k x hk,rfl,fun k _ hne=>hother k hne,fun k _ _=>rfl⟩,CUR,?_⟩
 refine ⟨.inr rfl,hw',by simpa using g.le,g.max,by rw [hCs];exact g.size,fun r' hr' => ?_,by simpa using hown,fun k' r' j' d hk' hd => ?_⟩
 ·rcases List.mem_or_eq_of_mem_set hr' with h1|rfl
  ·exact g.each r' h1
  ·simp;omega
 ·rw [hcell]
  by_cases hkk:k'=k
  ·subst hkk
   rw [List.getElem?_set_self hkl] at hk'
   cases hk'
   by_cases h1:j' < j
   ·rw [List.append_assoc,List.getElem?_append_left (by simp;omega),List.getElem?_take,if_pos h1] at hd
    rw [if_pos (by omega)]
    obtain ⟨x,x1,x2,x3⟩:=g.cells k' r j' d hk hd
    exact ⟨x,x1,x2,x3.trans htr⟩
   ·by_cases h2:j' < j+vs.length
    ·rw [List.append_assoc,List.getElem?_append_right (by simp;omega),List.getElem?_append_left (by simp;omega)] at hd
     have hd':vs[j' - j]?=some d:=by rw [← hd];congr 1;simp;omega
     rw [if_neg (by omega),if_pos (by omega)]
     have hlt:j' - j < us.length:=by rw [hc.len];exact (List.getElem?_eq_some_iff.1 hd').1
     refine ⟨us[j' - j],by rw [show k' * sz+j' - (k' * sz+j)=j' - j by omega];exact List.getElem?_eq_getElem hlt,hc.one _ (List.getElem_mem hlt),(hc.fz _ _ _ hd' (List.getElem?_eq_getElem hlt)).trans htr⟩
    ·rw [List.getElem?_append_right (by simp;omega),List.getElem?_drop] at hd
     have hd':r[j']?=some d:=by rw [← hd];congr 1;simp;omega
     rw [if_neg (by omega),if_neg (by omega)]
     obtain ⟨x,x1,x2,x3⟩:=g.cells k' r j' d hk hd'
     exact ⟨x,x1,x2,x3.trans htr⟩
  ·rw [List.getElem?_set_ne (Ne.symm hkk)] at hk'
   have hj':j' < sz:=by rw [← g.each r' (gMem hk')];exact (gLt hd)
   obtain ⟨x,x1,x2,x3⟩:=g.cells k' r' j' d hk' hd
   refine ⟨x,?_,x2,x3.trans htr⟩
   rcases Nat.lt_or_ge k' k with h1|h1
   ·have:(k'+1) * sz≤k * sz:=Nat.mul_le_mul_right _ h1
    rw [Nat.add_mul] at this
    rw [if_pos (by omega)]
    exact x1
   ·have:(k+1) * sz≤k' * sz:=Nat.mul_le_mul_right _ (by omega)
    rw [Nat.add_mul] at this
    rw [if_neg (by omega),if_neg (by omega)]
    exact x1
end Go.Proofs.YtindehjiaknokaaGreatDoor
namespace Go.Proofs.YtindehjiaknokaaGreatDoor
set_option linter.unusedSimpArgs false
set_option linter.unusedVariables false
open Go.RowKit
variable {a:Act} {cs:List D} {w:World}
theorem setMap_bt {S:Sig} (hw:WF S w) {b clock clock':Nat} {q:Place} {ents ents':Array MapEntry} (hb:S.own b=some (q,0)) (hq:q.r ≠ 0) (hh:w.heap[b]?=some (.map ents clock)):
  BT S w S (World.setMap w b (.map ents' clock')) b∧(World.setMap w b (.map ents' clock')).heap[b]?=some (.map ents' clock'):=by
 obtain ⟨h1,h2⟩:=MapKept.heap_set (o':=.map ents' clock') hh
 have other:∀ c,c ≠ b→(World.setMap w b (.map ents' clock')).heap[c]?=w.heap[c]?:=h2
 have hsz:(World.setMap w b (.map ents' clock')).heap.size=w.heap.size:=by simp [World.setMap]
 have htr:Trans S w S (World.setMap w b (.map ents' clock')):=by
  refine ⟨rfl,rfl,rfl,by rw [hsz];exact Nat.le_refl _,fun k hk hn=>⟨other k (fun e=>by subst e;rw [hb] at hn;cases hn),hn⟩,fun k p l hk hs hp=>⟨other k (fun e=>by subst e;rw [hb] at hs;cases hs;exact hq hp),hs⟩,fun k p l hk hs=>⟨?_,fun x hx=>by rw [hs] at hx;cases hx;exact Nat.le_refl _⟩,rfl⟩
  by_cases hkb:k=b
  ·subst hkb
   intro cur e fz h3
   rw [hh] at h3
   cases h3
  ·exact Keeps.of_eq (other k hkb)
 exact ⟨⟨htr,hw.of htr fun k x hx=>by rw [hsz];exact hw k x hx,rfl,fun k _ hne=>other k hne,fun k _ _=>rfl⟩,h1⟩
theorem no_men_mp {t:Nat} {kd:KD} {es:List (Value × Value)}:¬ Men t (.mp kd es):=fun h=>by cases h
theorem FR.setMapC {S:Sig} {fr:List D} (h:FR S w a fr) {u off b clock clock':Nat} {kd:KD} {es':List (Value × Value)} {ents ents':Array MapEntry} (hd:fr[u]?=some (.obj cs)) (hy:w.cell? ⟨S.loc (u+2),off,none⟩=some (.map (some b))) (hb:S.own b=some (⟨u+2,[off]⟩,0)) (hh:w.heap[b]?=some (.map ents clock)) (he:ents'.toList.map pr=es'∧Stamped ents' clock') (hk:∀ x ∈ es',fitK kd x.1=true):
  Trans S w S (World.setMap w b (.map ents' clock'))∧FR S (World.setMap w b (.map ents' clock')) a (fr.set u (.obj (cs.set off (.mp kd es')))):=by
 obtain ⟨hbt,h1⟩:=setMap_bt (ents':=ents') (clock':=clock') h.wf hb (by simp) hh
 refine ⟨hbt.tr,h.reownC hbt hb hd (fun x hx => ?_) fun t=>no_men_mp⟩
 rw [hy] at hx
 cases hx
 exact .mp hb h1 he hk
def ownD:D→Bool
 |.sl (_+1) _ _=>true
 |.mp _ _=>true
 |_=>false
theorem ownD_men {d:D} (h:ownD d=true) {t:Nat}:¬ Men t d:=by
 cases d with
 |sl m sz rows=>exact no_men_sl
 |mp kd es=>exact no_men_mp
 |_=>cases h
theorem ownD_unal {d:D} (h:ownD d=true) (u:Nat) (r:D):unal u r d=d:=by
 cases d with
 |sl m sz rows=>rfl
 |mp kd es=>rfl
 |_=>cases h
theorem FR.takeX {S:Sig} {fr:List D} (h:FR S w a fr) {u:Nat} (p:Place) {d:D} (hd:fr[u]?=some d) (ho:ownD d=true):
  ∃ S' v,Trans S w S' w∧a.tmps[u]?=some v∧v.oneCell'=true∧v.cells.toList = [v]∧FR S' w a ((fr.map (unal u .any)).set u .any)∧Rep S' w p v d∧S'.loc=S.loc∧∀ b q l,S.own b=some (q,l)→q.r ≠ u+2→S'.own b=some (q,l):=by
 obtain ⟨v,hv,hs⟩:=h.at hd
 have key:∀ {b l0:Nat} {x:Option (Place × Nat)},S.own b=some (.slot u,l0)→∀ k q l,S.own k=some (q,l)→q.r ≠ u+2→(S.set b x).own k=some (q,l):=fun {b l0 x} hb k q l hk hq=>by
  rw [S.set_ne x fun e=>by subst e;rw [hb] at hk;cases hk;exact hq rfl]
  exact hk
 cases d with
 |sl m sz rows=>
  cases m with
  |zero=>cases ho
  |succ m=>
   rcases hs.1.sl_inv with ⟨rfl,rfl⟩|⟨b,cap,cur,e,rfl,g⟩
   ·exact ⟨S,_,Trans.refl S w,hv,rfl,rfl,h.renil hd rfl hv (.inl rfl) (.inl rfl),.fz (.slNil _ _),rfl,fun b q l h _=>h⟩
   ·have hb:BT S w (S.set b (some (p,if m+1=2 then 0 else rows.length * sz))) w b:=BT.ghost h.wf g.own (by simp [Place.slot]) (fun y hy=>by cases hy;simp)
    refine ⟨_,_,hb.tr,hv,rfl,rfl,h.rebuild hb g.own rfl hd rfl (fun v' p hv'=>.fz (.any _)) (fun t ht=>by cases ht) (fun v' hv'=>.fz (.any _)) (fun t ht=>by cases ht),?_,rfl,key g.own⟩
    refine .own ⟨g.mode,g.heap,g.le,g.max,g.size,g.each,by rw [S.set_at],fun k r j d k1 k2 => ?_⟩
    obtain ⟨x,x1,x2,x3⟩:=g.cells k r j d k1 k2
    exact ⟨x,x1,x2,x3.trans hb.tr⟩
 |mp kd es=>
  obtain ⟨b,clock,ents,rfl,hb,hh,he,hk⟩:=hs.1.mp_inv
  have hbt:BT S w (S.set b (some (p,0))) w b:=BT.ghost h.wf hb (by simp [Place.slot]) (fun y hy=>by cases hy;simp)
  exact ⟨_,_,hbt.tr,hv,rfl,rfl,h.rebuild hbt hb rfl hd rfl (fun v' p hv'=>.fz (.any _)) (fun t ht=>by cases ht) (fun v' hv'=>.fz (.any _)) (fun t ht=>by cases ht),.mp (S.set_at _ _) hh he hk,rfl,key hb⟩
 |_=>cases ho
def clearL:List (Nat × Nat)→List D→List D
 |[],fr=>fr
 |(_,y)::r,fr=>clearL r ((fr.map (unal y .any)).set y .any)
theorem takeAll {w:World} {a:Act} (t:Nat):∀ (L:List (Nat × Nat)) {S:Sig} {fr:List D},FR S w a fr→(∀ x ∈ L,x.2 ≠ t∧∃ d,fr[x.2]?=some d∧ownD d=true)→(L.map (·.2)).Nodup→
  ∃ S',Trans S w S' w∧FR S' w a (clearL L fr)∧S'.loc=S.loc∧(∀ b q l,S.own b=some (q,l)→q.r=t+2→S'.own b=some (q,l))∧∀ x ∈ L,∃ d v,fr[x.2]?=some d∧ownD d=true∧a.tmps[x.2]?=some v∧v.oneCell'=true∧v.cells.toList = [v]∧Rep S' w ⟨t+2,[x.1]⟩ v d
 |[],S,fr,h,_,_=>⟨S,Trans.refl S w,h,rfl,fun _ _ _ h _=>h,fun x hx=>by simp at hx⟩
 |(off,y)::r,S,fr,h,hx,hn=>by
  obtain ⟨hyt,d,hd,ho⟩:=hx (off,y) (by simp)
  simp only at hyt hd
  rw [List.map_cons,List.nodup_cons] at hn
  obtain ⟨S1,v,t1,hv,g1,g2,f1,r1,l1,k1⟩:=h.takeX ⟨t+2,[off]⟩ hd ho
  have back:∀ x ∈ r,∀ e,fr[x.2]?=some e→ownD e=true→((fr.map (unal y .any)).set y .any)[x.2]?=some e:=fun x hxr e he hoe=>by
   have hne:y ≠ x.2:=fun e=>hn.1 (List.mem_map.2 ⟨x,hxr,e.symm⟩)
   rw [List.getElem?_set_ne hne,List.getElem?_map,he,Option.map_some,ownD_unal hoe]
  obtain ⟨S',t2,f2,l2,k2,m2⟩:=takeAll t r f1 (fun x hxr=>by
   obtain ⟨h1,e,he,hoe⟩:=hx x (by simp [hxr])
   exact ⟨h1,e,back x hxr e he hoe,hoe⟩) hn.2
  refine ⟨S',t1.trans t2,f2,l2.trans l1,fun b q l hb hq=>k2 b q l (k1 b q l hb (by omega)) hq,fun x hxr => ?_⟩
  rcases List.mem_cons.1 hxr with rfl|hxr
  ·refine ⟨d,v,hd,ho,hv,g1,g2,r1.trans f1.wf t2 (by rw [l2]) (fun b q l hb hu=>⟨rfl,k2 b q l hb hu.1⟩) (fun e=>by cases e) fun x hm=>(ownD_men ho hm).elim⟩
  ·obtain ⟨_,e,he,hoe⟩:=hx x (by simp [hxr])
   obtain ⟨d',v',q1,q2⟩:=m2 x hxr
   rw [back x hxr e he hoe] at q1
   cases q1
   exact ⟨e,v',he,q2⟩
theorem FR.recellAll {S:Sig} {fr:List D} (h:FR S w a fr) {u:Nat} {cs':List D} (hd:fr[u]?=some (.obj cs)) (hl:cs'.length=cs.length)
  (hr:∀ i d' x,cs'[i]?=some d'→w.cell? ⟨S.loc (u+2),i,none⟩=some x→Rep S w ⟨u+2,[i]⟩ x d') (hm:∀ d' ∈ cs',∀ t,¬ Men t d'):FR S w a (fr.set u (.obj cs')):=by
 have hlt:u < fr.length:=(gLt hd)
 have hobj:∀ {x:Nat},(∃ cs,fr[x]?=some (D.obj cs))→∃ cs'',(fr.set u (D.obj cs'))[x]?=some (D.obj cs''):=fun {x} ⟨cs0,hc⟩=>by
  by_cases hxu:u=x
  ·subst hxu;exact ⟨_,List.getElem?_set_self hlt⟩
  ·exact ⟨cs0,by rw [List.getElem?_set_ne hxu];exact hc⟩
 have howns:∀ {x:Nat} {d':D},fr[x]?=some d'→d'.owns=true→∃ d'',(fr.set u (D.obj cs'))[x]?=some d''∧d''.owns=true:=fun {x d'} g2 g3=>by
  by_cases hxu:u=x
  ·subst hxu;exact ⟨_,List.getElem?_set_self hlt,rfl⟩
  ·exact ⟨d',by rw [List.getElem?_set_ne hxu];exact g2,g3⟩
 refine ⟨h.wf,by simp [h.size],h.defers,fun i e v hi hv => ?_⟩
 by_cases hiu:i=u
 ·subst hiu
  rw [List.getElem?_set_self hlt] at hi
  cases hi
  have hsl:=h.slot i _ v hd hv
  obtain ⟨b,cur,e,rfl,hbo,hloc,hh,hsz,h1,ih⟩:=hsl.1.obj_inv
  refine SlotRep.of (.obj hbo rfl hloc hh (hl.trans hsz) h1 fun j d x hj hx => ?_) (fun t ht => ?_)
  ·exact hr j d x hj (by rw [hloc,cell_of_row w b _ cur e (0,0) hh];exact hx)
  ·cases ht with
   |obj hj hmm=>exact (hm _ (gMem hj) _ hmm).elim
 ·rw [List.getElem?_set_ne (Ne.symm hiu)] at hi
  have hs:=h.slot i e v hi hv
  cases e with
  |al x=>
   obtain ⟨g1,d',g2,g3,g4⟩:=hs
   obtain ⟨d'',k1,k2⟩:=howns g2 g3
   exact ⟨g1,d'',k1,k2,g4⟩
  |alc x o=>exact ⟨hs.1.mono (w:=w) (w':=w) (hobj hs.1.obj) rfl rfl,hs.2⟩
  |el x o sz k j=>exact ⟨hs.1.mono (w:=w) (w':=w) (hobj hs.1.obj) rfl rfl,hs.2⟩
  |es x sz k j=>
   obtain ⟨⟨d',g2,g3,g4⟩,s,g1,g5⟩:=hs
   obtain ⟨d'',k1,k2⟩:=howns g2 g3
   exact ⟨⟨d'',k1,k2,g4⟩,s,g1,g5⟩
  |_=>exact ⟨hs.1,fun t ht=>hobj (hs.2 t ht)⟩
def alsOf:Nat→List D→List (Nat × Nat)
 |_,[] => []
 |k,.al y::r=>(k,y)::alsOf (k+1) r
 |k,_::r=>alsOf (k+1) r
theorem alsOf_mem:∀ {cs:List D} {k i y:Nat},cs[i]?=some (.al y)→(k+i,y) ∈ alsOf k cs
 |d::r,k,0,y,h=>by
  have h':d=.al y:=by simpa using h
  subst h'
  exact List.mem_cons_self
 |d::r,k,i+1,y,h=>by
  have h':r[i]?=some (.al y):=by simpa using h
  have:=alsOf_mem (k:=k+1) h'
  rw [show k+(i+1)=k+1+i by omega]
  cases d<;>first|exact this|exact List.mem_cons_of_mem _ this
def nodupB:List Nat→Bool
 |[]=>true
 |x::l => !(l.any fun y=>Nat.beq x y) && nodupB l
theorem nodupB_ok:∀ {l:List Nat},nodupB l=true→l.Nodup
 |[],_=>List.nodup_nil
 |x::l,h=>by
  simp only [nodupB,Bool.and_eq_true,Bool.not_eq_true',List.any_eq_false] at h
  refine List.nodup_cons.2 ⟨fun hx => ?_,nodupB_ok h.2⟩
  exact h.1 x hx (by simp)
def fillA (fr:List D):D→D
 |.al y=>(fr[y]?).getD .any
 |d=>d
def oneOrAl:D→Bool
 |.al _=>true
 |d=>d.one
def okL (fr:List D) (t:Nat) (L:List (Nat × Nat)):Bool:=nodupB (L.map (·.2)) && L.all fun x=>match Nat.beq x.2 t with
 |true=>false
 |false=>match fr[x.2]? with
  |some d=>ownD d
  |none=>false
theorem okL_ok {fr:List D} {t:Nat} {L:List (Nat × Nat)} (h:okL fr t L=true):(L.map (·.2)).Nodup∧∀ x ∈ L,x.2 ≠ t∧∃ d,fr[x.2]?=some d∧ownD d=true:=by
 simp only [okL,Bool.and_eq_true] at h
 refine ⟨nodupB_ok h.1,fun x hx => ?_⟩
 have:=List.all_eq_true.1 h.2 x hx
 split at this
 ·cases this
 ·rename_i hne
  split at this
  ·rename_i d hd
   exact ⟨fun e=>by rw [e] at hne;simp at hne,d,hd,this⟩
  ·cases this
def pinF (a:Act):D→D
 |.al y=>.pv ((a.tmps[y]?).getD undef)
 |d=>d
theorem pinF_one {d:D} (h:d.one=true):pinF a d=d:=by cases d<;>first|rfl|cases h
theorem pinF_cells (h:cs.all D.one=true):cs.map (pinF a)=cs:=by
 have:∀ d ∈ cs,pinF a d=id d:=fun d hd=>pinF_one (List.all_eq_true.1 h d hd)
 rw [List.map_congr_left this,List.map_id]
theorem ofVal_pinF (u:Value):pinF a (ofVal u)=ofVal u:=by
 unfold ofVal
 split<;>rfl
theorem zeroD_pinF {zc:List Value}:(zeroD zc).map (pinF a)=zeroD zc:=by
 unfold zeroD
 rw [List.map_map]
 exact List.map_congr_left fun u _=>ofVal_pinF u
theorem cellsOf_pinF {d:D} {ds:List D} (h:d.cellsOf=some ds):ds.map (pinF a)=ds:=by
 unfold D.cellsOf at h
 split at h
 ·split at h
  ·rename_i hc
   cases h
   exact pinF_cells hc
  ·cases h
 ·split at h
  ·cases h;rfl
  ·cases h
 ·split at h
  ·rename_i ho
   cases h
   rw [List.map_cons,List.map_nil,pinF_one ho]
  ·cases h
def partM (fr:List D):Operand→Option (List D)
 |.tmp y=>match fr[y]? with
  |some d=>match ownD d with
   |true=>some [.al y]
   |false=>(evalD fr (.tmp y)).cellsOf
  |none=>none
 |x=>(evalD fr x).cellsOf
end Go.Proofs.YtindehjiaknokaaGreatDoor
namespace Go.Proofs.YtindehjiaknokaaGreatDoor
set_option linter.unusedSimpArgs false
set_option linter.unusedVariables false
open Go.RowKit
variable {K:List D→Prop} {K':Act→World→Prop} {Q:Exit→Act→World→Prop} {S:Sig} {a:Act} {after:Array Edge} {cs:List D} {dst:Option Nat} {guard:Option (Nat × Bool)} {o:Oper} {off ty0 u:Nat} {ops:Array Oper} {pos:String} {rows:List (List D)} {ty:TypeId} {w:World} {x:Operand} {xs:List Operand}
def strip:D→D
 |.gd _ d=>d
 |d=>d
def forceL {α:Type}:List α→(List α→Prop)→Prop
 |[],K=>K []
 |x::l,K=>forceL l fun l=>K (x::l)
theorem forceL_eq {α:Type}:∀ (l:List α) (K:List α→Prop),forceL l K=K l
 |[],_=>rfl
 |x::l,K=>by rw [forceL,forceL_eq l]
def force1 (d:D) (K:D→Prop):Prop:=
 match d with
 |.any=>K .any
 |.int k n=>K (.int k n)
 |.bool b=>K (.bool b)
 |.str s=>K (.str s)
 |.pv v=>K (.pv v)
 |.nil=>K .nil
 |.sl m sz rows=>K (.sl m sz rows)
 |.ptr cs=>K (.ptr cs)
 |.obj cs=>K (.obj cs)
 |.ref t o=>K (.ref t o)
 |.gref c t o=>K (.gref c t o)
 |.al t=>K (.al t)
 |.alc t o=>K (.alc t o)
 |.el t o sz k j=>K (.el t o sz k j)
 |.es t sz k j=>K (.es t sz k j)
 |.fn f cs=>K (.fn f cs)
 |.gd c d=>K (.gd c d)
 |.agg cs=>K (.agg cs)
 |.tup ds=>K (.tup ds)
 |.mp kd es=>K (.mp kd es)
 |.nsl sz n z=>K (.nsl sz n z)
 |.nagg cs off sz n z=>K (.nagg cs off sz n z)
 |.fmp kd es=>K (.fmp kd es)
theorem force1_eq (d:D) (K:D→Prop):force1 d K=K d:=by cases d<;>rfl
def forceH:List D→(List D→Prop)→Prop
 |[],K=>K []
 |x::l,K=>force1 x fun x=>forceH l fun l=>K (x::l)
theorem forceH_eq:∀ (l:List D) (K:List D→Prop),forceH l K=K l
 |[],_=>rfl
 |x::l,K=>by rw [forceH,force1_eq,forceH_eq l]
def force (d:D) (K:D→Prop):Prop:=
 match d with
 |.ptr cs=>forceH cs fun cs=>K (.ptr cs)
 |.obj cs=>forceH cs fun cs=>K (.obj cs)
 |.fn f cs=>forceH cs fun cs=>K (.fn f cs)
 |.gd c (.bool b)=>K (.gd c (.bool b))
 |.gd c (.int k n)=>K (.gd c (.int k n))
 |.gd c (.agg cs)=>forceH cs fun cs=>K (.gd c (.agg cs))
 |.gd c (.ptr cs)=>forceH cs fun cs=>K (.gd c (.ptr cs))
 |.gd c d=>K (.gd c d)
 |.agg cs=>forceH cs fun cs=>K (.agg cs)
 |.tup ds=>forceH ds fun ds=>K (.tup ds)
 |d=>force1 d K
theorem force_eq (d:D) (K:D→Prop):force d K=K d:=by
 unfold force
 split<;>first|rfl|simp only [forceH_eq,force1_eq]
def putD (fr:List D) (dst:Option Nat) (d:D) (K:List D→Prop):Prop:=
 match dst with
 |none=>K fr
 |some t=>match fr[t]? with
  |some d0=>match d0.owns with
   |false=>force d fun d=>forceL (fr.set t d) K
   |true=>match d0.isObj with
    |false=>force d fun d=>forceL ((fr.map (unal t .any)).set t d) K
    |true=>False
  |none=>False
def down1 (fr:List D):Operand→List D
 |.tmp t=>match fr[t]? with
  |some (.al u)=>match fr[u]? with
   |some (.sl 2 sz rows)=>fr.set u (.sl 1 sz rows)
   |_=>fr
  |some (.sl 2 sz rows)=>fr.set t (.sl 1 sz rows)
  |some (.alc u off)=>match fr[u]? with
   |some (.obj cs)=>match cs[off]? with
    |some (.sl 2 sz rows)=>fr.set u (.obj (cs.set off (.sl 1 sz rows)))
    |_=>fr
   |_=>fr
  |_=>fr
 |_=>fr
def frz1 (fr:List D):Operand→List D
 |.tmp t=>match fr[t]? with
  |some (.al u)=>match fr[u]? with
   |some (.sl (_+1) sz rows)=>(fr.map (unal u (.sl 0 sz rows))).set u (.sl 0 sz rows)
   |_=>fr
  |some (.sl (_+1) sz rows)=>(fr.map (unal t (.sl 0 sz rows))).set t (.sl 0 sz rows)
  |some (.alc u off)=>match fr[u]? with
   |some (.obj cs)=>match cs[off]? with
    |some (.sl (_+1) sz rows)=>fr.set u (.obj (cs.set off (.sl 0 sz rows)))
    |_=>fr
   |_=>fr
  |_=>fr
 |_=>fr
def prep (o:Op) (fr:List D):List D:=
 match o with
 |.indexAddr _ x _=>down1 fr x
 |.call c=>match c.callee with
  |.value _=>c.args.toList.foldl down1 fr
  |_=>fr
 |.box _ x=>frz1 fr x
 |.slice _ x _ _ _=>frz1 fr x
 |.build _ parts=>parts.toList.foldl (fun fr x=>frz1 fr x.2) fr
 |.buildSlice _ _ parts=>parts.toList.foldl (fun fr x=>frz1 fr x.2) fr
 |_=>fr
def needsPrep:Op→Bool
 |.indexAddr _ _ _ | .box _ _ | .slice _ _ _ _ _ | .build _ _ | .buildSlice _ _ _=>true
 |.call _=>true
 |_=>false
def pureD (P:Program) (T:Nat→Option TI) (Z:Nat→Option (List Value)) (o:Oper) (fr:List D) (K:List D→Prop):Prop:=
 opD P T Z (evalD fr) o.op fun s d=>andO s (putD fr o.dst d K)
def pickR (dc:D) (x y:Operand) (ρ:Operand→D):Option (Option Prop × Bool):=
 match dc with
 |.bool p=>match y with
  |.const (.bool false)=>match ρ x with
   |.gd p' (.bool q)=>some (some (p=true→p'=true),p && q)
   |.bool q=>some (none,p && q)
   |_=>none
  |_=>match x with
   |.const (.bool true)=>match ρ y with
    |.gd p' (.bool q)=>some (some (p=false→p'=true),p || q)
    |.bool q=>some (none,p || q)
    |_=>none
   |_=>none
 |_=>none
def pickD (dc:D) (x y:Operand) (ρ:Operand→D) (K:Option Prop→D→Prop):Prop:=
 match pickR dc x y ρ with
 |some (s,r)=>K s (.bool r)
 |none=>False
theorem pickD_inv {dc:D} {y:Operand} {ρ:Operand→D} {K:Option Prop→D→Prop} (h:pickD dc x y ρ K):∃ s r,pickR dc x y ρ=some (s,r)∧K s (.bool r):=by
 unfold pickD at h
 split at h
 ·exact ⟨_,_,by assumption,h⟩
 ·exact h.elim
def rootOf (fr:List D):Operand→Option Nat
 |.tmp t=>match fr[t]? with
  |some (.al u)=>some u
  |some (.sl (_+1) _ _)=>some t
  |some (.mp _ _)=>some t
  |_=>none
 |_=>none
def rowsOf (sz:Nat):D→Option (Nat × List (List D))
 |.nil=>some (sz,[])
 |.sl _ s rows=>some (s,rows)
 |_=>none
def appendD (T:Nat→Option TI) (c:Call) (dst:Option Nat) (fr:List D) (K:List D→Prop):Prop:=
 match c.args.toList,c.argTypes.toList with
 |[s,x],[t,t']=>match T t with
  |some (.sl _ sz bytes _)=>match Nat.beq t t' && Nat.ble bytes 1000 with
   |true=>match rowsOf sz (evalD fr x) with
    |some (s2,rows2)=>match rootOf fr s with
     |some u=>match fr[u]? with
      |some (.sl 1 s1 rows)=>SideD (s1=sz∧s2=sz∧rows.length+rows2.length≤1000000000) (forceL ((fr.map (unal u .any)).set u .any) fun fr=>putD fr dst (.sl 1 sz (rows++rows2)) K)
      |some (.sl 2 s1 rows)=>SideD (s1=sz∧s2=sz∧rows.length+rows2.length≤1000000000) (forceL ((fr.map (unal u .any)).set u .any) fun fr=>putD fr dst (.sl 2 sz (rows++rows2)) K)
      |_=>False
     |none=>match evalD fr s with
      |.nil=>SideD (s2=sz∧rows2.length≤1000000000) (putD fr dst (.sl 2 sz rows2) K)
      |_=>False
    |none=>False
   |false=>match T t',evalD fr x,Nat.beq sz 1 && Nat.ble bytes 1000 with
    |some .str,.str txt,true=>match rootOf fr s with
     |some u=>match fr[u]? with
      |some (.sl 1 s1 rows)=>SideD (s1=1∧rows.length+txt.length≤1000000000) (forceL ((fr.map (unal u .any)).set u .any) fun fr=>putD fr dst (.sl 1 1 (rows++txt.map bR)) K)
      |some (.sl 2 s1 rows)=>SideD (s1=1∧rows.length+txt.length≤1000000000) (forceL ((fr.map (unal u .any)).set u .any) fun fr=>putD fr dst (.sl 2 1 (rows++txt.map bR)) K)
      |_=>False
     |none=>match evalD fr s with
      |.nil=>SideD (txt.length≤1000000000) (putD fr dst (.sl 2 1 (txt.map bR)) K)
      |_=>False
    |_,_,_=>False
  |_=>False
 |_,_=>False
def takeD (fr:List D) (u:Nat) (dst:Option Nat) (K:List D→Prop):Prop:=
 match fr[u]? with
 |some (.sl (m+1) sz rows)=>forceL ((fr.map (unal u .any)).set u .any) fun fr=>putD fr dst (.sl (m+1) sz rows) K
 |some (.mp kd es)=>forceL ((fr.map (unal u .any)).set u .any) fun fr=>putD fr dst (.mp kd es) K
 |_=>False
def updD (T:Nat→Option TI) (ty:Nat) (m k v:Operand) (dst:Option Nat) (fr:List D) (K:List D→Prop):Prop:=
 match dst with
 |some _=>False
 |none=>match T ty,rootOf fr m with
  |some (.mp _ _ kd _),some u=>match fr[u]? with
   |some (.mp kd' es)=>match (evalD fr k).keyV,(evalD fr v).keyV with
    |some kv,some vv=>match sameKD kd kd' && fitK kd kv with
     |true=>forceL (fr.set u (.mp kd (putV kv vv es))) K
     |false=>False
    |_,_=>False
   |_=>False
  |_,_=>False
def delD (T:Nat→Option TI) (c:Call) (dst:Option Nat) (fr:List D) (K:List D→Prop):Prop:=
 match dst,c.args.toList,c.argTypes.toList with
 |none,[m,k],[ty,kt]=>match T ty,rootOf fr m with
  |some (.mp kt' _ kd _),some u=>match Nat.beq kt kt' with
   |true=>match fr[u]? with
    |some (.mp kd' es)=>match (evalD fr k).keyV with
     |some kv=>match sameKD kd kd' && fitK kd kv with
      |true=>forceL (fr.set u (.mp kd (delV kv es))) K
      |false=>False
     |none=>False
    |_=>False
   |false=>False
  |_,_=>False
 |_,_,_=>False
def frzC1 (u off:Nat) (fr:List D):List D:=
 match fr[u]? with
 |some (.obj cs)=>match cs[off]? with
  |some (.sl (_+1) sz rows)=>fr.set u (.obj (cs.set off (.sl 0 sz rows)))
  |_=>fr
 |_=>fr
def frzCs (u off:Nat):Nat→List D→List D
 |0,fr=>fr
 |n+1,fr=>frzC1 u (off+n) (frzCs u off n fr)
def frzL (T:Nat→Option TI) (ty u off:Nat) (fr:List D):List D:=
 match T ty with
 |some (.st n _ _)=>frzCs u off n fr
 |_=>fr
def loadD (T:Nat→Option TI) (ty u off:Nat) (dst:Option Nat) (fr:List D) (K:List D→Prop):Prop:=
 match fr[u]? with
 |some (.obj cs)=>match T ty with
  |some (.st n _ _)=>match Nat.ble (off+n) cs.length && ((cs.drop off).take n).all D.one with
   |true=>putD fr dst (.agg ((cs.drop off).take n)) K
   |false=>False
  |some _=>match cs[off]? with
   |some d=>match d.one with
    |true=>putD fr dst d K
    |false=>False
   |none=>False
  |none=>False
 |_=>False
def putObj (fr:List D) (u:Nat) (cs:List D) (K:List D→Prop):Prop:=forceH cs fun cs=>forceL (fr.set u (.obj cs)) K
def eraC (u off n:Nat) (fr:List D):List D:=match fr.any (nmOf u off n) with
 |true=>fr.map (unac u off n)
 |false=>fr
theorem eraC_eq (u off n:Nat) (fr:List D):eraC u off n fr=fr.map (unac u off n):=by
 unfold eraC
 split
 ·rfl
 ·rename_i h;exact (unac_map h).symm
def eraU (u:Nat) (fr:List D):List D:=match fr.any (nmU u) with
 |true=>fr.map (unob u)
 |false=>fr
theorem eraU_eq (u:Nat) (fr:List D):eraU u fr=fr.map (unob u):=by
 unfold eraU
 split
 ·rfl
 ·rename_i h;exact (unob_map h).symm
def storeD (T:Nat→Option TI) (ty:Nat) (x v:Operand) (dst:Option Nat) (fr:List D) (K:List D→Prop):Prop:=
 match dst with
 |some _=>False
 |none=>match objAt fr x with
  |some (u,off)=>match fr[u]? with
   |some (.obj cs)=>match T ty with
    |some ti=>match (evalD fr v).cellsOf with
     |some vs=>match Nat.beq vs.length ti.cells && Nat.ble (off+vs.length) cs.length with
      |true=>putObj (eraC u off vs.length fr) u (cs.take off++vs++cs.drop (off+vs.length)) K
      |false=>False
     |none=>False
    |none=>False
   |_=>False
  |none=>False
def freezeD (fr:List D) (u:Nat) (K:List D→Prop):Prop:=
 match fr[u]? with
 |some (.obj cs)=>match cs.all D.one && (fr.set u .any).all (safeB u) with
  |true=>forceL (fr.set u (.ptr cs)) K
  |false=>False
 |_=>False
def onceD (M:Nat→Bool) (x:Operand) (fr0:List D) (K:List D→Prop) (fr:List D):Prop:=
 match objAt fr0 x with
 |some (u,_)=>match M (2000000+u) with
  |true=>freezeD fr u K
  |false=>K fr
 |none=>K fr
def newObj (fr:List D) (t:Nat) (cs:List D) (K:List D→Prop):Prop:=
 match fr[t]? with
 |some d0=>match d0.owns || Nat.beq t 0 with
  |false=>putObj fr t cs K
  |true=>False
 |none=>False
def allocD (Z:Nat→Option (List Value)) (M:Nat→Bool) (ty:Nat) (dst:Option Nat) (fr:List D) (K:List D→Prop):Prop:=
 match dst with
 |some t=>match M t with
  |true=>match Z ty with
   |some zc=>match zc.all Value.oneCell' with
    |true=>newObj fr t (zeroD zc) K
    |false=>False
   |none=>False
  |false=>False
 |none=>False
def boxD (ty:Nat) (v:Operand) (t:Nat) (fr:List D) (K:List D→Prop):Prop:=
 match (evalD fr v).cellsOf with
 |some cs=>newObj fr t cs K
 |none=>False
structure CallO (F:D→Option D→Prop):Prop where
 h:∃ d out,F d out
theorem CallO.go {F:D→Option D→Prop} {d:D} {out:Option D} (h:F d out):CallO F:=⟨d,out,h⟩
def handD (P:Program) (f u:Nat) (xs:List Operand) (dst:Option Nat) (fr:List D) (K:List D→Prop):Prop:=
 match fr[u]? with
 | some (.sl (m+1) sz rows)=>CallO fun d out=>SideD (GivesO P f (.sl (m+1) sz rows) (xs.map (evalD fr)) d out) (match out with
  |none=>forceL ((fr.map (unal u .any)).set u .any) fun fr=>putD fr dst d K
  | some d'=>forceL ((fr.map (unal u .any)).set u d') fun fr=>putD fr dst d K)
 |_=>False
def handO (P:Program) (f u:Nat) (xs:List Operand) (dst:Option Nat) (fr:List D) (K:List D→Prop):Prop:=
 match fr[u]? with
 |some (.obj cs)=>match cs.all D.calm1 with
  | true=>CallO fun d out=>SideD (GivesO P f (.obj cs) (xs.map (evalD fr)) d out) (match out with
   |some (.obj cs')=>putObj (eraU u fr) u cs' fun fr=>putD fr dst d K
   | _=>False)
  |false=>False
 |_=>False
def lendC (d:D):D:=match d with
 |.sl _ sz rows=>.sl 0 sz rows
 |d=>match d.one with
  |true=>d
  |false=>.any
def lend1 (fr:List D):D→D
 |.ref u off=>match fr[u]? with
  |some (.obj cs)=>.ptr ((cs.map lendC).drop off)
  |_=>.any
 |d=>match d.one with
  |true=>d
  |false=>.any
def lendD (fr:List D):D→D
 |.fn f caps=>.fn f (caps.map (lend1 fr))
 |.sl _ sz rows=>.sl 0 sz rows
 |.obj cs=>.ptr (cs.map lendC)
 |.ref u off=>lend1 fr (.ref u off)
 |d=>match d.passes with
  |true=>d
  |false=>.any
def lends:D→Bool
 |.ref _ _=>true
 |.fn _ caps=>caps.any fun d=>match d with
  |.ref _ _=>true
  |_=>false
 |_=>false
structure GivesL (P:Program) (f:Nat) (args:List D) (d:D):Prop where
 flat:d.flat=true
 h:Gives P f args d
def lendE (P:Program) (f:Nat) (xs:List Operand) (dst:Option Nat) (fr:List D) (K:List D→Prop):Prop:=
 CallE fun d=>SideD (GivesL P f (xs.map fun x=>lendD fr (evalD fr x)) d) (putD fr dst d K)
def refD (fr:List D) (x:Operand):D:=
 match x with
 |.tmp t=>match fr[t]? with
  |some (.obj _)=>.ref t 0
  |_=>evalD fr (.tmp t)
 |x=>evalD fr x
def stepD (P:Program) (T:Nat→Option TI) (Z:Nat→Option (List Value)) (M:Nat→Bool) (o:Oper) (fr:List D) (K:List D→Prop):Prop:=
 match o.op with
 |.move (.tmp u)=>match fr[u]? with
  |some (.sl (_+1) _ _)=>match o.dst with
   |some t=>match Nat.beq t u with
    |false=>putD fr (some t) (.al u) K
    |true=>False
   |none=>K fr
  |some (.mp _ _)=>match o.dst with
   |some t=>match Nat.beq t u with
    |false=>putD fr (some t) (.al u) K
    |true=>False
   |none=>K fr
  |some (.al u')=>match o.dst with
   |some t=>match Nat.beq t u' with
    |false=>putD fr (some t) (.al u') K
    |true=>False
   |none=>K fr
  |some (.obj _)=>putD fr o.dst (.ref u 0) K
  |_=>pureD P T Z o fr K
 |.assign (.tmp u)=>match fr[u]? with
  |some (.sl (_+1) _ _)=>takeD fr u o.dst K
  |some (.mp _ _)=>takeD fr u o.dst K
  |some (.al u')=>takeD fr u' o.dst K
  |some (.obj _)=>putD fr o.dst (.ref u 0) K
  |_=>pureD P T Z o fr K
 |.pick c x y=>pickD (evalD fr c) x y (evalD fr) fun s d=>andO s (putD fr o.dst d K)
 |.makeFunc _ _ _=>opD P T Z (refD fr) o.op fun s d=>andO s (putD fr o.dst d K)
 |.call c=>match c.callee with
  |.builtin .append=>appendD T c o.dst fr K
  |.builtin .delete=>delD T c o.dst fr K
  |.builtin _=>pureD P T Z o fr K
  |.value (.func f)=>match M (1000000+f) with
   |true=>match c.args.toList with
    |x::xs=>match rootOf fr x with
     |some u=>forceL (xs.foldl down1 fr) fun fr=>match rootOf fr x with
      |some u'=>match Nat.beq u' u with
       |true=>handD P f u xs o.dst fr K
       |false=>False
      |none=>False
     |none=>match objAt fr x with
      |some (u,0)=>forceL (xs.foldl down1 fr) fun fr=>match objAt fr x with
       |some (u',0)=>handO P f u' xs o.dst fr K
       |_=>False
      |_=>forceL (prep (.call c) fr) fun fr=>pureD P T Z o fr K
    |[]=>pureD P T Z o fr K
   |false=>match c.args.toList.any fun x=>lends (evalD fr x) with
    |true=>lendE P f c.args.toList o.dst fr K
    |false=>forceL (prep (.call c) fr) fun fr=>pureD P T Z o fr K
  |_=>forceL (prep (.call c) fr) fun fr=>pureD P T Z o fr K
 |.nilCheck (.tmp u)=>match fr[u]? with
  |some (.obj _)=>putD fr o.dst (.ref u 0) K
  |_=>pureD P T Z o fr K
 |.fieldAddr ty (.tmp u) i=>match fr[u]? with
  |some (.obj _)=>match T ty with
   |some (.st _ fl _)=>match fl[i]? with
    |some (off,_+1,_)=>putD fr o.dst (.ref u off) K
    |_=>False
   |_=>False
  |_=>pureD P T Z o fr K
 |.load ty x=>match objAt fr x with
  |some (u,off)=>forceL (frzL T ty u off fr) fun fr=>loadD T ty u off o.dst fr K
  |none=>pureD P T Z o fr K
 |.store ty x v=>forceL (frz1 fr v) fun fr=>storeD T ty x v o.dst fr (onceD M x fr K)
 |.mapUpdate ty m k v=>updD T ty m k v o.dst fr K
 |.alloc ty=>allocD Z M ty o.dst fr K
 |.box ty v=>match o.dst with
  |some t=>match M t with
   |true=>forceL (frz1 fr v) fun fr=>boxD ty v t fr K
   |false=>forceL (prep (.box ty v) fr) fun fr=>pureD P T Z o fr K
  |none=>False
 |op=>match needsPrep op with
  |true=>forceL (prep op fr) fun fr=>pureD P T Z o fr K
  |false=>pureD P T Z o fr K
def storeR (T:Nat→Option TI) (ty:Nat) (v:Operand) (u:Nat) (sz k j:Nat) (rows:List (List D)) (fr:List D) (K:List (List D)→Prop):Prop:=
 match T ty,(evalD fr v).cellsOf with
 |some ti,some vs=>match Nat.beq vs.length ti.cells && Nat.ble (j+vs.length) sz with
  |true=>IdxE fun r=>SideD (0≤Int.ofNat k∧rows[(Int.ofNat k).toNat]?=some r) (K (rows.set k (r.take j++vs++r.drop (j+vs.length))))
  |false=>False
 |_,_=>False
def storeNm (T:Nat→Option TI) (ty u:Nat) (v:Operand) (fr:List D) (K:List D→Prop):Prop:=
 match fr[u]? with
 |some (.es x sz k j)=>match fr[x]? with
  |some (.sl 2 sz' rows)=>match Nat.beq sz' sz with
   |true=>storeR T ty v x sz k j rows fr fun rows=>forceL (fr.set x (.sl 2 sz rows)) K
   |false=>False
  |_=>False
 |some (.el x c sz k j)=>match fr[x]? with
  |some (.obj cs)=>match cs[c]? with
   |some (.sl 2 sz' rows)=>match Nat.beq sz' sz with
    |true=>storeR T ty v x sz k j rows fr fun rows=>putObj fr x (cs.set c (.sl 2 sz rows)) K
    |false=>False
   |_=>False
  |_=>False
 |_=>False
def takeN (fr:List D):Operand→List D
 |.tmp x=>match fr[x]? with
  |some (.alc u off)=>match fr[u]? with
   |some (.obj cs)=>match cs[off]? with
    |some (.sl (m+1) sz rows)=>(fr.set u (.obj (cs.set off .any))).set x (.sl (m+1) sz rows)
    |_=>fr
   |_=>fr
  |_=>fr
 |_=>fr
def giveD (T:Nat→Option TI) (ty:Nat) (x v:Operand) (fr:List D) (K:List D→Prop) (E:Prop):Prop:=
 match objAt fr x,rootOf fr v with
 |some (u,off),some s=>match fr[u]? with
  |some (.obj cs)=>match fr[s]? with
   |some (.sl (m+1) sz rows)=>match T ty with
    |some (.sl _ _ _ _)=>match Nat.blt off cs.length with
     |true=>forceL ((fr.map (unal s .any)).set s .any) fun fr=>putObj (eraC u off 1 fr) u (cs.set off (.sl (m+1) sz rows)) K
     |false=>False
    |_=>False
   |_=>E
  |_=>E
 |_,_=>E
def ownAt:List D→Option Nat
 |[]=>none
 |.sl (_+1) _ _::_=>some 0
 |_::r=>match ownAt r with
  |some k=>some (k+1)
  |none=>none
def giveA (T:Nat→Option TI) (ty u:Nat) (v:Operand) (fr:List D) (K:List D→Prop) (E:Prop):Prop:=
 match v with
 |.tmp x=>match fr[x]? with
  |some (.agg cs)=>match ownAt cs with
   |some off=>match cs[off]? with
    |some (.sl (m+1) sz rows)=>match fr[u]? with
     |some (.obj cs0)=>match T ty with
      |some ti=>match Nat.beq ti.cells cs.length && (Nat.beq cs0.length cs.length && (cs.set off .nil).all D.one) with
       |true=>forceL ((fr.map (unal x .any)).set x .any) fun fr=>putObj (eraC u 0 cs.length fr) u (cs.set off (.sl (m+1) sz rows)) K
       |false=>False
      |none=>False
     |_=>E
    |_=>E
   |none=>E
  |_=>E
 |_=>E
def giveM (M:Nat→Bool) (fr:List D) (d:D) (u:Nat):Bool:=match d with
 |.obj _=>M (4000000+u)
 |.ref x _=>M (4000000+x)
 |_=>false
def delN (T:Nat→Option TI) (ts:List TypeId) (u off:Nat) (k:Operand) (dst:Option Nat) (fr:List D) (K:List D→Prop):Prop:=
 match dst,ts with
 |none,[ty,kt]=>match T ty,fr[u]? with
  |some (.mp kt' _ kd _),some (.obj cs)=>match Nat.beq kt kt' with
   |true=>match cs[off]? with
    |some (.mp kd' es)=>match (evalD fr k).keyV with
     |some kv=>match sameKD kd kd' && fitK kd kv with
      |true=>putObj fr u (cs.set off (.mp kd (delV kv es))) K
      |false=>False
     |none=>False
    |_=>False
   |false=>False
  |_,_=>False
 |_,_=>False
def stepN (P:Program) (T:Nat→Option TI) (Z:Nat→Option (List Value)) (M:Nat→Bool) (o:Oper) (fr:List D) (K:List D→Prop):Prop:=
 match o.op with
 |.store ty (.tmp u) v=>match fr[u]? with
  |some (.es _ _ _ _)=>match o.dst with
   |none=>forceL (frz1 fr v) fun fr=>storeNm T ty u v fr K
   |some _=>False
  |some (.el _ _ _ _ _)=>match o.dst with
   |none=>forceL (frz1 fr v) fun fr=>storeNm T ty u v fr K
   |some _=>False
  |some d=>match o.dst with
   |none=>match giveM M fr d u with
    |true=>giveD T ty (.tmp u) v fr K (giveA T ty u v fr K (stepD P T Z M o fr K))
    |false=>stepD P T Z M o fr K
   |some _=>stepD P T Z M o fr K
  |none=>stepD P T Z M o fr K
 |.call c=>match c.callee with
  |.builtin .append=>match c.args.toList with
   |s::_=>forceL (takeN fr s) fun fr=>stepD P T Z M o fr K
   |[]=>False
  |.builtin .delete=>match c.args.toList with
   |[.tmp x,k]=>match fr[x]? with
    |some (.alc u off)=>delN T c.argTypes.toList u off k o.dst fr K
    |_=>stepD P T Z M o fr K
   |_=>stepD P T Z M o fr K
  |_=>stepD P T Z M o fr K
 |_=>stepD P T Z M o fr K
def condOf (all:List Oper) (fr:List D) (j:Nat) (want:Bool):Option Bool:=
 match all[j]? with
 |some oj=>match oj.dst with
  |some t=>match fr[t]? with
   |some (.bool b)=>match want with
    |true=>some b
    |false=>some (!b)
   |some (.gd c (.bool b))=>match want with
    |true=>some (c && b)
    |false=>some (c && !b)
   |_=>none
  |none=>none
 |none=>none
def gds (ρ:Operand→D):List Operand→Option Prop
 |[]=>none
 |x::xs=>match ρ x with
  |.gd c _=>match gds ρ xs with
   |none=>some (c=true)
   |some p=>some (c=true∧p)
  |_=>gds ρ xs
def under (c:Bool):Option Prop→Option Prop→Option Prop
 |none,none=>none
 |some g,none=>some (c=true→g)
 |none,some s=>some (c=true→s)
 |some g,some s=>some (c=true→g∧s)
theorem under_holds {c:Bool} {g s:Option Prop} (h:holds (under c g s)) (hc:c=true):holds g∧holds s:=by
 cases g with
 |none=>cases s with
  |none=>exact ⟨trivial,trivial⟩
  |some s=>exact ⟨trivial,h hc⟩
 |some g=>cases s with
  |none=>exact ⟨h hc,trivial⟩
  |some s=>exact h hc
def loadG (T:Nat→Option TI) (ty u off:Nat) (c:Bool) (dst:Option Nat) (fr:List D) (K:List D→Prop):Prop:=
 match fr[u]? with
 |some (.obj cs)=>match T ty with
  |some (.st n _ _)=>match Nat.ble (off+n) cs.length && ((cs.drop off).take n).all D.one with
   |true=>putD fr dst (.gd c (.agg ((cs.drop off).take n))) K
   |false=>False
  |some _=>match cs[off]? with
   |some (.sl 1 sz rows)=>putD fr dst (.gd c (.sl 0 sz rows)) K
   |some d=>match d.one with
    |true=>putD fr dst (.gd c d) K
    |false=>False
   |none=>False
  |none=>False
 |_=>False
def newG (dst:Option Nat) (c:Bool) (d:D) (fr:List D) (K:List D→Prop):Prop:=
 match d,dst with
 |.sl 2 sz rows,some t=>match fr[t]? with
  |some d0=>match d0.isObj with
   |false=>forceL ((fr.map (unal t .any)).set t .any) fun fr=>putD fr (some t) (.gd c (.sl 0 sz rows)) K
   |true=>False
  |none=>False
 |_,_=>False
def gstepD (P:Program) (T:Nat→Option TI) (Z:Nat→Option (List Value)) (o:Oper) (c:Bool) (fr:List D) (K:List D→Prop):Prop:=
 match o.op with
 |.pick cc x y=>pickD (strip (evalD fr cc)) x y (evalD fr) fun s d=>andO (under c (gds (evalD fr) [cc]) s) (putD fr o.dst (.gd c d) K)
 |.move (.tmp u)=>match fr[u]? with
  |some (.obj _)=>putD fr o.dst (.gref c u 0) K
  | _=>opD P T Z (fun x=>strip (evalD fr x)) (.move (.tmp u)) fun s d=>andO (under c (gds (evalD fr) [.tmp u]) s) (match d.passes with
   |true=>putD fr o.dst (.gd c d) K
   | false=>newG o.dst c d fr K)
 |.nilCheck (.tmp u)=>match fr[u]? with
  |some (.gref c' x off)=>SideD (c=true→c'=true) (putD fr o.dst (.gref c x off) K)
  | _=>opD P T Z (fun x=>strip (evalD fr x)) (.nilCheck (.tmp u)) fun s d=>andO (under c (gds (evalD fr) [.tmp u]) s) (match d.passes with
   |true=>putD fr o.dst (.gd c d) K
   | false=>newG o.dst c d fr K)
 |.fieldAddr ty (.tmp u) i=>match fr[u]? with
  |some (.obj _)=>match T ty with
   |some (.st _ fl _)=>match fl[i]? with
    |some (off,_+1,_)=>putD fr o.dst (.gref c u off) K
    |_=>False
   |_=>False
  |some (.gref c' x off0)=>match T ty with
   |some (.st _ fl _)=>match fl[i]? with
    |some (off,_+1,_)=>SideD (c=true→c'=true) (putD fr o.dst (.gref c x (off0+off)) K)
    |_=>False
   |_=>False
  | _=>opD P T Z (fun x=>strip (evalD fr x)) (.fieldAddr ty (.tmp u) i) fun s d=>andO (under c (gds (evalD fr) [.tmp u]) s) (match d.passes with
   |true=>putD fr o.dst (.gd c d) K
   | false=>newG o.dst c d fr K)
 |.load ty (.tmp x)=>match fr[x]? with
  |some (.gref c' u off)=>SideD (c=true→c'=true) (loadG T ty u off c o.dst fr K)
  |some (.obj _)=>loadG T ty x 0 c o.dst fr K
  | _=>opD P T Z (fun x=>strip (evalD fr x)) (.load ty (.tmp x)) fun s d=>andO (under c (gds (evalD fr) [.tmp x]) s) (match d.passes with
   |true=>putD fr o.dst (.gd c d) K
   | false=>newG o.dst c d fr K)
 | op=>opD P T Z (fun x=>strip (evalD fr x)) op fun s d=>andO (under c (gds (evalD fr) op.operands.toList) s) (match d.passes with
  |true=>putD fr o.dst (.gd c d) K
  | false=>newG o.dst c d fr K)
def pairD (T:Nat→Option TI) (Z:Nat→Option (List Value)) (o o2:Oper) (ty:Nat) (fr:List D) (K:List D→Prop):Prop:=
 match o.dst,o2.op,o2.dst,o2.guard with
 |some t,.store ty2 (.tmp t2) v,none,none=>match Nat.beq t t2 && Nat.beq ty ty2 with
  |true=>match T ty,Z ty with
   |some ti,some zc=>forceL (frz1 fr v) fun fr=>match v with
    |.tmp tv=>match Nat.beq tv t with
     |false=>match (evalD fr (.tmp tv)).cellsOf with
      |some vs=>match Nat.beq vs.length ti.cells && Nat.beq zc.length ti.cells with
       |true=>putD fr (some t) (.ptr vs) K
       |false=>False
      |none=>False
     |true=>False
    |.const c=>match (evalD fr (.const c)).cellsOf with
     |some vs=>match Nat.beq vs.length ti.cells && Nat.beq zc.length ti.cells with
      |true=>putD fr (some t) (.ptr vs) K
      |false=>False
     |none=>False
    |_=>False
   |_,_=>False
  |false=>False
 |_,_,_,_=>False
def isFrzAlloc (M:Nat→Bool) (o:Oper):Option Nat:=
 match o.op with
 |.alloc ty=>match o.dst with
  |some t=>match M t with
   |true=>none
   |false=>some ty
  |none=>none
 |_=>none
def isBox (M:Nat→Bool) (o o2:Oper):Bool:=
 match o.op,o2.op,o2.dst with
 |.build _ _,.box _ _,some t=>M (8000000+t)
 |_,_,_=>false
def boxB (T:Nat→Option TI) (Z:Nat→Option (List Value)) (o o2:Oper) (fr:List D) (K:List D→Prop):Prop:=
 match o.op,o.dst,o2.op,o2.dst,o2.guard with
 |.build ty parts,some t,.box _ (.tmp t2),some t3,none=>match Nat.beq t t2 with
  |true=>match T ty,Z ty with
   |some (.st _ fl _),some zc=>match zc.all Value.oneCell' with
    |true=>match fillR (fl.map fun x=>(x.1,x.2.1)) (zeroD zc) (parts.toList.map fun x=>(x.1,partM fr x.2)) with
     |some cs=>match okL fr t3 (alsOf 0 cs) && cs.all oneOrAl with
      |true=>forceL (clearL (alsOf 0 cs) fr) fun fr1=>match fr1[t]? with
       |some d0=>match d0.owns with
        |false=>forceL (fr1.set t .any) fun fr2=>match fr2[t3]? with
         |some d3=>match d3.owns || Nat.beq t3 0 with
          |false=>putObj fr2 t3 (cs.map (fillA fr)) K
          |true=>False
         |none=>False
        |true=>False
       |none=>False
      |false=>False
     |none=>False
    |false=>False
   |_,_=>False
  |false=>False
 |_,_,_,_,_=>False
def downC1 (u off:Nat) (fr:List D):List D:=
 match fr[u]? with
 |some (.obj cs)=>match cs[off]? with
  |some (.sl 2 sz rows)=>fr.set u (.obj (cs.set off (.sl 1 sz rows)))
  |_=>fr
 |_=>fr
def prepG (o:Oper) (fr:List D):List D:=
 match o.op with
 |.load _ (.tmp x)=>match fr[x]? with
  |some (.gref _ u off)=>downC1 u off fr
  |some (.obj _)=>downC1 x 0 fr
  |_=>fr
 |_=>fr
structure CondD (b:Bool) (x y:Prop):Prop where
 t:b=true→x
 f:b=false→y
def litOf (M:Nat→Bool) (all:List Oper) (j:Nat):Bool:=
 match all[j]? with
 |some o=>match o.dst with
  |some t=>M (6000000+t)
  |none=>false
 |none=>false
def vcOps (P:Program) (T:Nat→Option TI) (Z:Nat→Option (List Value)) (M:Nat→Bool) (all:List Oper):List Oper→List D→(List D→Prop)→Prop
 |[],fr,K=>K fr
 |[o],fr,K=>match o.guard with
  |none=>stepN P T Z M o fr K
  |some (j,want)=>match condOf all fr j want with
   |some c=>match litOf M all j with
    |true=>CondD c (stepN P T Z M o fr K) (putD fr o.dst (.gd false (.bool false)) K)
    |false=>forceL (prepG o fr) fun fr=>gstepD P T Z o c fr K
   |none=>False
 |o::o2::r,fr,K=>match o.guard with
  |none=>match isFrzAlloc M o with
   |some ty=>pairD T Z o o2 ty fr fun fr'=>vcOps P T Z M all r fr' K
   |none=>match isBox M o o2 with
    |true=>boxB T Z o o2 fr fun fr'=>vcOps P T Z M all r fr' K
    |false=>stepN P T Z M o fr fun fr'=>vcOps P T Z M all (o2::r) fr' K
  |some (j,want)=>match condOf all fr j want with
   |some c=>match litOf M all j with
    |true=>CondD c (stepN P T Z M o fr fun fr'=>vcOps P T Z M all (o2::r) fr' K) (putD fr o.dst (.gd false (.bool false)) fun fr'=>vcOps P T Z M all (o2::r) fr' K)
    |false=>forceL (prepG o fr) fun fr=>gstepD P T Z o c fr fun fr'=>vcOps P T Z M all (o2::r) fr' K
   |none=>False
section
variable {P:Program} {T:Nat→Option TI} {Z:Nat→Option (List Value)} {M:Nat→Bool}
theorem FR.evalRef {fr:List D} (h:FR S w a fr) (x:Operand):RefOk fr (evalD fr x):=by
 cases x with
 |tmp t=>
  unfold evalD
  simp only
  cases hd:fr[t]? with
  |none=>exact fun t ht=>by cases ht
  |some d=>
   obtain ⟨v,hv,hr⟩:=h.at hd
   cases d with
   |al u=>
    obtain ⟨h1,d',h2,h3,_⟩:=hr
    simp only [h2,Option.getD_some]
    exact ((h.slot u d' v h2 h1).rep (D.nm_owns h3)).2
   |alc u off=>
    obtain ⟨⟨⟨cs,h1⟩,_⟩,_⟩:=hr
    simp only [h1]
    cases hc:cs[off]? with
    |none=>exact fun t ht=>by cases ht
    |some d=>
     obtain ⟨v',hv',hr'⟩:=h.at h1
     exact fun t ht=>hr'.2 t (.obj hc ht)
   |el u off sz k j=>exact fun t ht=>by cases ht
   |es u sz k j=>exact fun t ht=>by cases ht
   |_=>exact hr.2
 |const v=>
  unfold evalD
  cases v with
  |agg cs=>exact fun t ht=>by cases ht
  |_=>exact fun t ht=>((ofVal_rep (lim:=fun _=>none) (w:=w) _ (by intro cs hc;cases hc)).men ht).elim
 |global g=>exact fun t ht=>by cases ht
 |func f=>exact fun t ht=>by cases ht with|fn h=>simp at h
def dstPlace:Option Nat→Place
 |some t=>.slot t
 |none=>⟨1,[]⟩
theorem putD_sound {fr:List D} {v:Value} {d:D} (h:FR S w a fr) (hr:Rep S w (dstPlace dst) v d) (hf:RefOk fr d) (hp:putD fr dst d K):∃ fr',K fr'∧FR S w (a.put dst v) fr':=by
 cases dst with
 |none=>exact ⟨fr,hp,h⟩
 |some t=>
  simp only [putD] at hp
  split at hp
  ·rename_i d0 h0
   split at hp
   ·rename_i ho
    rw [force_eq,forceL_eq] at hp
    exact ⟨_,hp,h.put (PT.refl h.wf) h0 ho hr hf⟩
   ·split at hp
    ·rename_i hn
     rw [force_eq,forceL_eq] at hp
     exact ⟨_,hp,h.putOwn h0 hn hr hf⟩
    ·exact hp.elim
  ·exact hp.elim
theorem putNm_sound {fr:List D} {v:Value} {d:D} (h:FR S w a fr) (hd:d.isNm=true) (hsl:∀ t,dst=some t→SlotRep S w a fr t v d) (hp:putD fr dst d K):∃ fr',K fr'∧FR S w (a.put dst v) fr':=by
 cases dst with
 |none=>exact ⟨fr,hp,h⟩
 |some t=>
  simp only [putD] at hp
  split at hp
  ·rename_i d0 h0
   split at hp
   ·rename_i ho
    rw [force_eq,forceL_eq] at hp
    have:=h.putNm h0 (by cases d0<;>first|rfl|cases ho) hd (hsl t rfl)
    rw [h.unal_none h0 ho] at this
    exact ⟨_,hp,this⟩
   ·split at hp
    ·rename_i hn
     rw [force_eq,forceL_eq] at hp
     exact ⟨_,hp,h.putNm h0 hn hd (hsl t rfl)⟩
    ·exact hp.elim
  ·exact hp.elim
theorem down1_sound {fr:List D} (h:FR S w a fr) (x:Operand):∃ S',Trans S w S' w∧FR S' w a (down1 fr x):=by
 unfold down1
 split
 ·split
  ·split
   ·rename_i hu;exact h.down hu
   ·exact ⟨S,Trans.refl S w,h⟩
  ·rename_i ht;exact h.down ht
  ·split
   ·rename_i hd
    split
    ·rename_i hc;exact h.downC hd hc
    ·exact ⟨S,Trans.refl S w,h⟩
   ·exact ⟨S,Trans.refl S w,h⟩
  ·exact ⟨S,Trans.refl S w,h⟩
 ·exact ⟨S,Trans.refl S w,h⟩
theorem frz1_sound {fr:List D} (h:FR S w a fr) (x:Operand):∃ S',Trans S w S' w∧FR S' w a (frz1 fr x):=by
 unfold frz1
 split
 ·split
  ·split
   ·rename_i hu;exact h.freeze hu
   ·exact ⟨S,Trans.refl S w,h⟩
  ·rename_i ht;exact h.freeze ht
  ·split
   ·rename_i hd
    split
    ·rename_i hc;exact h.freezeC hd hc
    ·exact ⟨S,Trans.refl S w,h⟩
   ·exact ⟨S,Trans.refl S w,h⟩
  ·exact ⟨S,Trans.refl S w,h⟩
 ·exact ⟨S,Trans.refl S w,h⟩
theorem fold_sound {α:Type} {w:World} {a:Act} {f:List D→α→List D} (hf:∀ S fr x,FR S w a fr→∃ S',Trans S w S' w∧FR S' w a (f fr x)):∀ (l:List α) (S:Sig) (fr:List D),FR S w a fr→∃ S',Trans S w S' w∧FR S' w a (l.foldl f fr)
 |[],S,fr,h=>⟨S,Trans.refl S w,h⟩
 |x::l,S,fr,h=>by
  obtain ⟨S1,t1,h1⟩:=hf S fr x h
  obtain ⟨S2,t2,h2⟩:=fold_sound hf l S1 _ h1
  exact ⟨S2,t1.trans t2,h2⟩
theorem prep_sound {fr:List D} (h:FR S w a fr) (o:Op):∃ S',Trans S w S' w∧FR S' w a (prep o fr):=by
 unfold prep
 split
 ·exact down1_sound h _
 ·split
  ·exact fold_sound (fun S fr x h=>down1_sound h x) _ S fr h
  ·exact ⟨S,Trans.refl S w,h⟩
 ·exact frz1_sound h _
 ·exact frz1_sound h _
 ·exact fold_sound (fun S fr x h=>frz1_sound h _) _ S fr h
 ·exact fold_sound (fun S fr x h=>frz1_sound h _) _ S fr h
 ·exact ⟨S,Trans.refl S w,h⟩
def StepOk (P:Program) (S:Sig) (w:World) (a:Act) (o:Oper) (K:List D→Prop):Prop:=
 ∀ (K':Act→World→Prop) (Q:Exit→Act→World→Prop),(∀ fr' S' w' a',K fr'→Trans S w S' w'→FR S' w' a' fr'→K' a' w')→o.wp P a w K' Q
theorem StepOk.ghost {S1:Sig} (ht:Trans S w S1 w) (h:StepOk P S1 w a o K):StepOk P S w a o K:=
 fun K' Q hK=>h K' Q fun fr' S' w' a' k t f=>hK fr' S' w' a' k (ht.trans t) f
theorem StepOk.mono {K2:List D→Prop} (h:StepOk P S w a o K) (hk:∀ {fr' S' w' a'},K fr'→FR S' w' a' fr'→∃ fr'' S'',K2 fr''∧Trans S' w' S'' w'∧FR S'' w' a' fr''):StepOk P S w a o K2:=
 fun K' Q hK=>h K' Q fun fr' S' w' a' k t f=>by
  obtain ⟨fr'',S'',k2,t2,f2⟩:=hk k f
  exact hK fr'' S'' w' a' k2 (t.trans t2) f2
theorem pureD_sound (hT:TOk P T Z) {fr:List D} (h:FR S w a fr) (hs:pureD P T Z o fr K):StepOk P S w a o K:=by
 intro K' Q hK
 obtain ⟨dst,op,ty,pos,after,guard⟩:=o
 obtain ⟨s,d,h12,h3⟩:=opD_sound (dst:=dst) (ty:=ty) (pos:=pos) (after:=after) (guard:=guard) hT hs
 obtain ⟨h1,h2⟩:=andO_iff.1 h12
 refine h3 h1 S w a (dstPlace dst) h.wf (fun x _=>h.eval x) K' Q fun v S' w' hp hr hm => ?_
 have hrf:RefOk fr d:=fun t ht=>by
  obtain ⟨x,_,hx⟩:=hm t ht
  exact h.evalRef x t hx
 obtain ⟨fr',k1,k2⟩:=putD_sound (h.drop hp) hr hrf h2
 exact hK fr' S' w' _ k1 hp.trans k2
theorem pick_run {c y:Operand} {p:Bool} {dst:Option Tmp} (hc:a.eval c=.bool p) (hk:K' (a.put dst (if p then a.eval x else a.eval y)) w):(Oper.mk dst (.pick c x y) ty pos after guard).wp P a w K' Q:=by
 unfold Oper.wp
 rw [execOp_pick _ _ _ _ _ _ _ _ _ p hc]
 exact hk
theorem pickR_sound {dc:D} {c y:Operand} {ρ:Operand→D} {s:Option Prop} {r:Bool} (hc:∃ q,Rep S w q (a.eval c) dc) (hrx:∃ q,Rep S w q (a.eval x) (ρ x)) (hry:∃ q,Rep S w q (a.eval y) (ρ y)) (h:pickR dc x y ρ=some (s,r)) (hs:holds s):∃ p,a.eval c=.bool p∧(if p then a.eval x else a.eval y)=.bool r:=by
 have gdv:∀ {z:Operand} {p' q:Bool},(∃ q,Rep S w q (a.eval z) (ρ z))→ρ z=.gd p' (.bool q)→p'=true→a.eval z=.bool q:=fun {z p' q} hr hz hp=>by
  obtain ⟨qq,hq⟩:=hr
  rw [hz] at hq
  have:=(hq.gd_inv.1 hp)
  exact (Rep.fz (p:=.dead) this).bool_inv
 have bv:∀ {z:Operand} {q:Bool},(∃ q,Rep S w q (a.eval z) (ρ z))→ρ z=.bool q→a.eval z=.bool q:=fun {z q} hr hz=>by
  obtain ⟨qq,hq⟩:=hr
  rw [hz] at hq
  exact hq.bool_inv
 obtain ⟨q,hq⟩:=hc
 unfold pickR at h
 split at h
 ·rename_i p
  refine ⟨p,hq.bool_inv,?_⟩
  split at h
  ·split at h
   ·rename_i hx
    cases h
    cases p with
    |true=>simp only [if_true,Bool.true_and];exact gdv hrx hx (hs rfl)
    |false=>rfl
   ·rename_i hx
    cases h
    cases p with
    |true=>simp only [if_true,Bool.true_and];exact bv hrx hx
    |false=>rfl
   ·cases h
  ·split at h
   ·split at h
    ·rename_i hy
     cases h
     cases p with
     |false=>simp only [Bool.false_or];exact gdv hry hy (hs rfl)
     |true=>rfl
    ·rename_i hy
     cases h
     cases p with
     |false=>simp only [Bool.false_or];exact bv hry hy
     |true=>rfl
    ·cases h
   ·cases h
 ·cases h
theorem no_men_bool {b:Bool} {fr:List D}:RefOk fr (.bool b):=fun t ht=>by cases ht
theorem take_sound {fr:List D} {u0:Nat} (h:FR S w a fr) (hu:∀ v,a.tmps[u]?=some v→a.eval (.tmp u0)=v) (hs:takeD fr u dst K):StepOk P S w a (Oper.mk dst (.assign (.tmp u0)) ty pos after guard) K:=by
 intro K' Q hK
 unfold takeD at hs
 split at hs
 ·rename_i m sz rows hd
  rw [forceL_eq] at hs
  obtain ⟨S',v,t1,t2,t3,t4⟩:=h.take (dstPlace dst) hd
  obtain ⟨fr',k1,k2⟩:=putD_sound t3 t4 (fun t ht=>(no_men_sl ht).elim) hs
  refine r_assign (v:=v) (hu v t2) (hK fr' S' w _ k1 t1 k2)
 ·rename_i kd es hd
  rw [forceL_eq] at hs
  obtain ⟨S',v,t1,t2,t3,t4⟩:=h.takeMp (dstPlace dst) hd
  obtain ⟨fr',k1,k2⟩:=putD_sound t3 t4 (fun t ht=>by cases ht) hs
  refine r_assign (v:=v) (hu v t2) (hK fr' S' w _ k1 t1 k2)
 ·exact hs.elim
theorem rows_rep {q:Place} {v:Value} {sz s2:Nat} {d:D} (h:Rep S w q v d) (hr:rowsOf sz d=some (s2,rows)):∃ m,Rep S w q v (.sl m s2 rows):=by
 unfold rowsOf at hr
 split at hr
 ·cases hr
  rw [h.nil_inv]
  exact ⟨0,.fz (.slNil 0 sz)⟩
 ·cases hr
  exact ⟨_,h⟩
 ·cases hr
theorem root_eval {fr:List D} (h:FR S w a fr) {s:Operand} (hr:rootOf fr s=some u):a.tmps[u]?=some (a.eval s):=by
 unfold rootOf at hr
 split at hr
 ·rename_i t
  have ev:∀ v,a.tmps[t]?=some v→a.eval (.tmp t)=v:=fun v hv=>by simp [Act.eval,Array.getD_eq_getD_getElem?,hv]
  split at hr
  ·rename_i hd
   cases hr
   obtain ⟨v,hv,hs⟩:=h.at hd
   rw [ev v hv]
   exact hs.1
  ·rename_i hd
   cases hr
   obtain ⟨v,hv,hs⟩:=h.at hd
   rw [ev v hv]
   exact hv
  ·rename_i hd
   cases hr
   obtain ⟨v,hv,hs⟩:=h.at hd
   rw [ev v hv]
   exact hv
  ·cases hr
 ·cases hr
theorem upd_sound (hT:TOk P T Z) {fr:List D} {m k v:Operand} (h:FR S w a fr) (hs:updD T ty0 m k v dst fr K):StepOk P S w a (Oper.mk dst (.mapUpdate ty0 m k v) ty pos after guard) K:=by
 intro K' Q hK
 unfold updD at hs
 split at hs
 ·exact hs.elim
 ·split at hs
  ·rename_i kt et kd z u ht hu
   haveI:=(hT.ty _ _ ht).1
   have hev:=root_eval h hu
   split at hs
   ·rename_i kd' es hd
    split at hs
    ·rename_i kv vv hk hv
     split at hs
     ·rename_i hb
      simp only [Bool.and_eq_true] at hb
      obtain rfl:=sameKD_eq hb.1
      rw [forceL_eq] at hs
      obtain ⟨v0,hv0,hsl⟩:=h.at hd
      obtain ⟨b,clock,ents,rfl,hown,hh,he,hf⟩:=hsl.1.mp_inv
      have hm:a.eval m=.map (some b):=Option.some.inj (hev.symm.trans hv0)
      obtain ⟨q1,r1⟩:=h.eval k
      obtain ⟨q2,r2⟩:=h.eval v
      refine r_mapUpdate hm hh he.1 hf (keyV_eq r1 hk) hb.2 (keyV_eq r2 hv) fun ents' clock' he' hst => ?_
      obtain ⟨t1,f1⟩:=h.setMap (clock':=clock') hd hv0 hown hh ⟨he',hst he.2⟩ (putV_fit hb.2 hf)
      exact hK _ S _ a hs t1 f1
     ·exact hs.elim
    ·exact hs.elim
   ·exact hs.elim
  ·exact hs.elim
theorem del_sound (hT:TOk P T Z) {fr:List D} {c:Call} (h:FR S w a fr) (hc:c.callee=.builtin .delete) (hs:delD T c dst fr K):StepOk P S w a (Oper.mk dst (.call c) ty pos after guard) K:=by
 intro K' Q hK
 obtain ⟨callee,args,argTypes⟩:=c
 simp only at hc
 subst hc
 unfold delD at hs
 simp only at hs
 split at hs
 ·rename_i m k ty0 kt0 h1 h2
  obtain rfl:=arr2 h1
  obtain rfl:=arr2 h2
  split at hs
  ·rename_i kt et kd z u ht hu
   haveI:=(hT.ty _ _ ht).1
   have hev:=root_eval h hu
   split at hs
   ·rename_i hkt
    obtain rfl:=Nat.eq_of_beq_eq_true hkt
    split at hs
    ·rename_i kd' es hd
     split at hs
     ·rename_i kv hk
      split at hs
      ·rename_i hb
       simp only [Bool.and_eq_true] at hb
       obtain rfl:=sameKD_eq hb.1
       rw [forceL_eq] at hs
       obtain ⟨v0,hv0,hsl⟩:=h.at hd
       obtain ⟨b,clock,ents,rfl,hown,hh,he,hf⟩:=hsl.1.mp_inv
       have hm:a.eval m=.map (some b):=Option.some.inj (hev.symm.trans hv0)
       obtain ⟨q1,r1⟩:=h.eval k
       refine r_delete rfl hm hh he.1 hf (keyV_eq r1 hk) hb.2 fun ents' clock' he' hst => ?_
       obtain ⟨t1,f1⟩:=h.setMap (clock':=clock') hd hv0 hown hh ⟨he',hst he.2⟩ (delV_fit hf)
       exact hK _ S _ a hs t1 f1
      ·exact hs.elim
     ·exact hs.elim
    ·exact hs.elim
   ·exact hs.elim
  ·exact hs.elim
 ·exact hs.elim
theorem append_sound (hT:TOk P T Z) {fr:List D} {c:Call} (h:FR S w a fr) (hc:c.callee=.builtin .append) (hs:appendD T c dst fr K):StepOk P S w a (Oper.mk dst (.call c) ty pos after guard) K:=by
 intro K' Q hK
 obtain ⟨callee,args,argTypes⟩:=c
 simp only at hc
 subst hc
 unfold appendD at hs
 simp only at hs
 split at hs
 ·rename_i s x t t' h1 h2
  obtain rfl:=arr2 h1
  obtain rfl:=arr2 h2
  split at hs
  ·rename_i e sz bytes zc ht
   obtain ⟨i1,i2,i3,i4,i5⟩:=hT.ty _ _ ht
   haveI:=i1;haveI:=i4
   split at hs
   ·rename_i hb
    simp only [Bool.and_eq_true] at hb
    obtain rfl:t=t':=Nat.eq_of_beq_eq_true hb.1
    have hby:=Nat.le_of_ble_eq_true hb.2
    split at hs
    ·rename_i s2 rows2 hx
     obtain ⟨q,hq⟩:=h.eval x
     obtain ⟨m2,hq2⟩:=rows_rep hq hx
     split at hs
     ·rename_i u hu
      have hev:=root_eval h hu
      split at hs
      ·rename_i hd
       obtain ⟨⟨rfl,rfl,hl⟩,hput⟩:=hs
       rw [forceL_eq] at hput
       refine append_own (p:=dstPlace dst) h hd hev hq2 hl hby (.inl rfl) fun v S' w' t1 t2 t3 => ?_
       obtain ⟨fr',k1,k2⟩:=putD_sound t2 t3 (fun t ht=>(no_men_sl ht).elim) hput
       exact hK fr' S' w' _ k1 t1 k2
      ·rename_i hd
       obtain ⟨⟨rfl,rfl,hl⟩,hput⟩:=hs
       rw [forceL_eq] at hput
       refine append_own (p:=dstPlace dst) h hd hev hq2 hl hby (.inr rfl) fun v S' w' t1 t2 t3 => ?_
       obtain ⟨fr',k1,k2⟩:=putD_sound t2 t3 (fun t ht=>(no_men_sl ht).elim) hput
       exact hK fr' S' w' _ k1 t1 k2
      ·exact hs.elim
     ·split at hs
      ·rename_i hnil
       obtain ⟨⟨rfl,hl⟩,hput⟩:=hs
       obtain ⟨q',hq'⟩:=h.eval s
       rw [hnil] at hq'
       refine append_nil (p:=dstPlace dst) h.wf hq'.nil_inv hq2 hl hby (.inr rfl) fun v S' w' hp hr => ?_
       obtain ⟨fr',k1,k2⟩:=putD_sound (h.drop hp) hr (fun t ht=>(no_men_sl ht).elim) hput
       exact hK fr' S' w' _ k1 hp.trans k2
      ·exact hs.elim
    ·exact hs.elim
   ·split at hs
    ·rename_i txt ht' hx hb
     simp only [Bool.and_eq_true] at hb
     obtain rfl:=Nat.eq_of_beq_eq_true hb.1
     have hby:=Nat.le_of_ble_eq_true hb.2
     haveI:TStr P t':=(hT.ty _ _ ht').1
     obtain ⟨q,hq⟩:=h.eval x
     rw [hx] at hq
     have hxs:=hq.str_inv
     split at hs
     ·rename_i u hu
      have hev:=root_eval h hu
      split at hs
      ·rename_i hd
       obtain ⟨⟨rfl,hl⟩,hput⟩:=hs
       rw [forceL_eq] at hput
       refine append_own_str (p:=dstPlace dst) h hd hev hxs hl hby (.inl rfl) fun v S' w' t1 t2 t3 => ?_
       obtain ⟨fr',k1,k2⟩:=putD_sound t2 t3 (fun t ht=>(no_men_sl ht).elim) hput
       exact hK fr' S' w' _ k1 t1 k2
      ·rename_i hd
       obtain ⟨⟨rfl,hl⟩,hput⟩:=hs
       rw [forceL_eq] at hput
       refine append_own_str (p:=dstPlace dst) h hd hev hxs hl hby (.inr rfl) fun v S' w' t1 t2 t3 => ?_
       obtain ⟨fr',k1,k2⟩:=putD_sound t2 t3 (fun t ht=>(no_men_sl ht).elim) hput
       exact hK fr' S' w' _ k1 t1 k2
      ·exact hs.elim
     ·split at hs
      ·rename_i hnil
       obtain ⟨hl,hput⟩:=hs
       obtain ⟨q',hq'⟩:=h.eval s
       rw [hnil] at hq'
       refine append_nil_str (p:=dstPlace dst) h.wf hq'.nil_inv hxs hl hby (.inr rfl) fun v S' w' hp hr => ?_
       obtain ⟨fr',k1,k2⟩:=putD_sound (h.drop hp) hr (fun t ht=>(no_men_sl ht).elim) hput
       exact hK fr' S' w' _ k1 hp.trans k2
      ·exact hs.elim
    ·exact hs.elim
  ·exact hs.elim
 ·exact hs.elim
theorem alias_sound {fr:List D} {u0:Nat} {d:D} (h:FR S w a fr) (hd:fr[u]?=some d) (ho:d.owns=true) (hu:∀ v,a.tmps[u]?=some v→a.eval (.tmp u0)=v)
  (hs:match dst with|some t=>(match Nat.beq t u with|false=>putD fr (some t) (.al u) K|true=>False)|none=>K fr):StepOk P S w a (Oper.mk dst (.move (.tmp u0)) ty pos after guard) K:=by
 intro K' Q hK
 obtain ⟨v,hv,hrep⟩:=h.at hd
 cases dst with
 |none=>exact r_move (v:=v) (hu v hv) (hK fr S w _ hs (Trans.refl S w) h)
 |some t=>
  simp only at hs
  split at hs
  ·rename_i hne
   have hne':t ≠ u:=fun e=>by subst e;simp at hne
   obtain ⟨fr',k1,k2⟩:=putNm_sound (dst:=some t) (v:=v) (d:=.al u) h rfl (fun t' e=>by cases e;exact ⟨hv,d,hd,ho,Ne.symm hne'⟩) hs
   exact r_move (v:=v) (hu v hv) (hK fr' S w _ k1 (Trans.refl S w) k2)
  ·exact hs.elim
theorem ref_rep {fr:List D} (h:FR S w a fr) (hd:fr[u]?=some (.obj cs)) (off:Nat):(∀ p,Rep S w p (.pointer (some ⟨S.loc (u+2),off,none⟩)) (.ref u off))∧RefOk fr (.ref u off)∧a.tmps[u]?=some (.pointer (some ⟨S.loc (u+2),0,none⟩)):=by
 obtain ⟨v,hv,hs⟩:=h.at hd
 obtain ⟨b,cur,e,rfl,hb,hloc,_⟩:=hs.1.obj_inv
 refine ⟨fun p=>.ref (by rw [hloc];exact hb),fun t ht => ?_,by rw [hv,hloc]⟩
 cases ht
 exact ⟨cs,hd⟩
theorem refD_eval {fr:List D} (h:FR S w a fr) (x:Operand):(∃ q,Rep S w q (a.eval x) (refD fr x))∧RefOk fr (refD fr x):=by
 unfold refD
 split
 ·rename_i t
  split
  ·rename_i cs hd
   obtain ⟨r1,r2,r3⟩:=ref_rep h hd 0
   have:a.eval (.tmp t)=.pointer (some ⟨S.loc (t+2),0,none⟩):=by simp [Act.eval,Array.getD_eq_getD_getElem?,r3]
   rw [this]
   exact ⟨⟨.dead,r1 _⟩,r2⟩
  ·exact ⟨h.eval _,fun t ht=>h.evalRef _ t ht⟩
 ·exact ⟨h.eval _,fun t ht=>h.evalRef _ t ht⟩
theorem refOp_sound (hT:TOk P T Z) {fr:List D} (h:FR S w a fr) (hs:opD P T Z (refD fr) o.op fun s d=>andO s (putD fr o.dst d K)):StepOk P S w a o K:=by
 intro K' Q hK
 obtain ⟨dst,op,ty,pos,after,guard⟩:=o
 obtain ⟨s,d,h12,h3⟩:=opD_sound (dst:=dst) (ty:=ty) (pos:=pos) (after:=after) (guard:=guard) hT hs
 obtain ⟨h1,h2⟩:=andO_iff.1 h12
 refine h3 h1 S w a (dstPlace dst) h.wf (fun x _=>(refD_eval h x).1) K' Q fun v S' w' hp hr hm => ?_
 have hrf:RefOk fr d:=fun t ht=>by
  obtain ⟨x,_,hx⟩:=hm t ht
  exact (refD_eval h x).2 t hx
 obtain ⟨fr',k1,k2⟩:=putD_sound (h.drop hp) hr hrf h2
 exact hK fr' S' w' _ k1 hp.trans k2
theorem frzC1_sound {fr:List D} (h:FR S w a fr) (u off:Nat):∃ S',Trans S w S' w∧FR S' w a (frzC1 u off fr):=by
 unfold frzC1
 split
 ·rename_i hd
  split
  ·rename_i hc;exact h.freezeC hd hc
  ·exact ⟨S,Trans.refl S w,h⟩
 ·exact ⟨S,Trans.refl S w,h⟩
theorem frzCs_sound {w:World} {a:Act} (u off:Nat):∀ (n:Nat) {S:Sig} {fr:List D},FR S w a fr→∃ S',Trans S w S' w∧FR S' w a (frzCs u off n fr)
 |0,S,fr,h=>⟨S,Trans.refl S w,h⟩
 |n+1,S,fr,h=>by
  obtain ⟨S1,t1,h1⟩:=frzCs_sound u off n h
  obtain ⟨S2,t2,h2⟩:=frzC1_sound h1 u (off+n)
  exact ⟨S2,t1.trans t2,h2⟩
theorem frzL_sound {fr:List D} (T:Nat→Option TI) (ty:Nat) (h:FR S w a fr) (u off:Nat):∃ S',Trans S w S' w∧FR S' w a (frzL T ty u off fr):=by
 unfold frzL
 split
 ·exact frzCs_sound u off _ h
 ·exact ⟨S,Trans.refl S w,h⟩
theorem objAt_set {fr:List D} {u0:Nat} {cs':List D} (hd:fr[u0]?=some (.obj cs)) (x:Operand):objAt (fr.set u0 (.obj cs')) x=objAt fr x:=by
 unfold objAt
 cases x with
 |tmp t=>
  simp only
  have hlt:u0 < fr.length:=(gLt hd)
  by_cases e:t=u0
  ·subst e
   rw [List.getElem?_set_self hlt,hd]
  ·rw [List.getElem?_set_ne (Ne.symm e)]
 |_=>rfl
theorem objAt_frzC1 (u off:Nat) (fr:List D) (x:Operand):objAt (frzC1 u off fr) x=objAt fr x:=by
 unfold frzC1
 split
 ·rename_i hd
  split
  ·exact objAt_set hd x
  ·rfl
 ·rfl
theorem objAt_frzCs (u off:Nat) (x:Operand):∀ (n:Nat) (fr:List D),objAt (frzCs u off n fr) x=objAt fr x
 |0,_=>rfl
 |n+1,fr=>by rw [frzCs,objAt_frzC1,objAt_frzCs u off x n fr]
theorem objAt_frzL (T:Nat→Option TI) (ty u off:Nat) (fr:List D) (x:Operand):objAt (frzL T ty u off fr) x=objAt fr x:=by
 unfold frzL
 split
 ·exact objAt_frzCs u off x _ fr
 ·rfl
theorem loadD_sound (hT:TOk P T Z) {fr:List D} (h:FR S w a fr) (hx:objAt fr x=some (u,off)) (hs:loadD T ty0 u off dst fr K):StepOk P S w a (Oper.mk dst (.load ty0 x) ty pos after guard) K:=by
 intro K' Q hK
 obtain ⟨cs0,hd0,hev⟩:=h.objAt hx
 obtain ⟨cv,hcv⟩:=h.loadObj hd0
 unfold loadD at hs
 split at hs
 ·rename_i cs hd
  rw [hd0] at hd
  obtain rfl:cs=cs0:=(D.obj.inj (Option.some.inj hd)).symm
  split at hs
  ·rename_i n fl ks ht
   haveI:=(hT.ty _ _ ht).1
   split at hs
   ·rename_i hb
    simp only [Bool.and_eq_true] at hb
    have hle:=Nat.le_of_ble_eq_true hb.1
    have hcell:∀ j,j < n→∃ d,((cs.drop off).take n)[j]?=some d∧w.cell? ⟨S.loc (u+2),off+j,none⟩=some (cv (off+j))∧(cv (off+j)).oneCell'=true∧Fz S.lim w (cv (off+j)) d:=fun j hj=>by
     have hjl:off+j < cs.length:=by omega
     have hg:((cs.drop off).take n)[j]?=some cs[off+j]:=by rw [List.getElem?_take,if_pos hj,List.getElem?_drop,List.getElem?_eq_getElem hjl]
     obtain ⟨h1,h2,h3⟩:=hcv _ _ (List.getElem?_eq_getElem hjl)
     exact ⟨_,hg,h1,h2,D.one_fz h3 (List.all_eq_true.1 hb.2 _ (gMem hg))⟩
    have hfz:Fz S.lim w (.agg ((List.range n).map fun j=>cv (off+j)).toArray) (.agg ((cs.drop off).take n)):=by
     refine .agg _ (by simp;omega) (fun v hv => ?_) fun j d v hj hv => ?_
     ·obtain ⟨j,hj,rfl⟩:=List.mem_map.1 hv
      obtain ⟨d,_,_,h2,_⟩:=hcell j (List.mem_range.1 hj)
      exact h2
     ·have hjn:j < n:=by have:=(gLt hv);simpa using this
      rw [List.getElem?_map,List.getElem?_range hjn] at hv
      cases hv
      obtain ⟨d',h1,_,_,h4⟩:=hcell j hjn
      rw [hj] at h1
      cases h1
      exact h4
    obtain ⟨fr',k1,k2⟩:=putD_sound (dst:=dst) h (.fz hfz) (fun t ht=>(hfz.men ht).elim) hs
    refine r_loadN (cs:=(List.range n).map fun j=>cv (off+j)) hev (fun j v hv => ?_) (by simp) (hK fr' S w _ k1 (Trans.refl S w) k2)
    have hjn:j < n:=by have:=(gLt hv);simpa using this
    rw [List.getElem?_map,List.getElem?_range hjn] at hv
    cases hv
    obtain ⟨d',_,h2,_⟩:=hcell j hjn
    exact h2
   ·exact hs.elim
  ·rename_i i hi ht
   haveI:=(hT.ty _ _ ht).one (fun n fl ks e=>hi n fl ks e)
   split at hs
   ·rename_i d hd
    split at hs
    ·rename_i ho
     obtain ⟨h1,h2,h3⟩:=hcv _ _ hd
     have hfz:=D.one_fz h3 ho
     obtain ⟨fr',k1,k2⟩:=putD_sound (dst:=dst) h (.fz hfz) (fun t ht=>(hfz.men ht).elim) hs
     exact r_load1 hev h1 (hK fr' S w _ k1 (Trans.refl S w) k2)
    ·exact hs.elim
   ·exact hs.elim
  ·exact hs.elim
 ·exact hs.elim
theorem storeD_sound (hT:TOk P T Z) {fr:List D} {v:Operand} (h:FR S w a fr) (hs:storeD T ty0 x v dst fr K):StepOk P S w a (Oper.mk dst (.store ty0 x v) ty pos after guard) K:=by
 intro K' Q hK
 unfold storeD at hs
 split at hs
 ·exact hs.elim
 ·split at hs
  ·rename_i u off hx
   obtain ⟨cs0,hd0,hev⟩:=h.objAt hx
   split at hs
   ·rename_i cs hd
    rw [hd0] at hd
    obtain rfl:cs=cs0:=(D.obj.inj (Option.some.inj hd)).symm
    split at hs
    ·rename_i ti ht
     split at hs
     ·rename_i vs hv
      split at hs
      ·rename_i hb
       simp only [Bool.and_eq_true] at hb
       have hn:=Nat.eq_of_beq_eq_true hb.1
       have hle:=Nat.le_of_ble_eq_true hb.2
       simp only [putObj,forceH_eq,forceL_eq,eraC_eq] at hs
       obtain ⟨q,hq⟩:=h.eval v
       have hc:=CR.of hq hv
       obtain ⟨b,cur,e,hb',hloc,hh,hsz,htr,hfr⟩:=h.storeObj hd0 hc hle
       rw [hloc] at hev
       refine r_store (n:=vs.length) (by rw [(hT.ty _ _ ht).sz,hn]) hev rfl hc.len hc.one hh (by omega) ?_
       exact hK _ S _ a hs htr hfr
      ·exact hs.elim
     ·exact hs.elim
    ·exact hs.elim
   ·exact hs.elim
  ·exact hs.elim
theorem newObj_sound {w':World} {fr:List D} {t g:Nat} {us:List Value} (h:FR S w a fr) (hs:newObj fr t cs K) (hb:Blk w' g ty us.toArray) (hx:Ext w w') (hg:g=w.heap.size) (hc:CR S.lim w us cs):
  ∃ fr' S',K fr'∧Trans S w S' w'∧FR S' w' (a.put (some t) (.pointer (some ⟨g,0,none⟩))) fr':=by
 unfold newObj at hs
 split at hs
 ·rename_i d0 h0
  split at hs
  ·rename_i ho
   simp only [putObj,forceH_eq,forceL_eq] at hs
   simp only [Bool.or_eq_false_iff] at ho
   obtain ⟨S',t1,f1⟩:=h.allocObj (fun e=>by subst e;simp at ho) h0 ho.1 hb hx hg hc
   exact ⟨_,S',hs,t1,f1⟩
  ·exact hs.elim
 ·exact hs.elim
theorem allocD_sound (hT:TOk P T Z) {fr:List D} (h:FR S w a fr) (hs:allocD Z M ty0 dst fr K):StepOk P S w a (Oper.mk dst (.alloc ty0) ty pos after guard) K:=by
 intro K' Q hK
 unfold allocD at hs
 split at hs
 ·split at hs
  ·split at hs
   ·rename_i zc hz
    split at hs
    ·rename_i h1
     haveI:=hT.zer _ _ hz
     refine r_alloc fun g w' hb hx hg => ?_
     obtain ⟨fr',S',k,t1,f1⟩:=newObj_sound h hs hb hx hg (CR.zero h1)
     exact hK fr' S' w' _ k t1 f1
    ·exact hs.elim
   ·exact hs.elim
  ·exact hs.elim
 ·exact hs.elim
theorem boxD_sound {fr:List D} {t:Nat} {v:Operand} (h:FR S w a fr) (hs:boxD ty0 v t fr K):StepOk P S w a (Oper.mk (some t) (.box ty0 v) ty pos after guard) K:=by
 intro K' Q hK
 unfold boxD at hs
 split at hs
 ·rename_i cs hc
  obtain ⟨q,hq⟩:=h.eval v
  refine r_box rfl fun g w' hb hx hg => ?_
  obtain ⟨fr',S',k,t1,f1⟩:=newObj_sound (us:=(a.eval v).cells.toList) h hs (by simpa using hb) hx hg (CR.of hq hc)
  exact hK fr' S' w' _ k t1 f1
 ·exact hs.elim
theorem pairD_sound (hT:TOk P T Z) {fr:List D} {o2:Oper} {ty:Nat} (h:FR S w a fr) (ho:o.op=.alloc ty) (hs:pairD T Z o o2 ty fr K) {r:List Oper} (hg:o.guard=none)
  (hK:∀ fr' S' w' a',K fr'→Trans S w S' w'→FR S' w' a' fr'→wpList P ops Q r a' w'):wpList P ops Q (o::o2::r) a w:=by
 unfold pairD at hs
 split at hs
 ·rename_i t ty2 t2 v hdst hop2 hdst2 hg2
  split at hs
  ·rename_i hb
   simp only [Bool.and_eq_true] at hb
   obtain rfl:=Nat.eq_of_beq_eq_true hb.1
   obtain rfl:=Nat.eq_of_beq_eq_true hb.2
   split at hs
   ·rename_i ti zc ht hz
    rw [forceL_eq] at hs
    obtain ⟨S1,t1,h1⟩:=frz1_sound h v
    haveI:=hT.zer _ _ hz
    have key:∀ {vs:List D},(evalD (frz1 fr v) v).cellsOf=some vs→(Nat.beq vs.length ti.cells && Nat.beq zc.length ti.cells)=true→putD (frz1 fr v) (some t) (.ptr vs) K→(∀ p:Value,(a.put (some t) p).eval v=a.eval v)→wpList P ops Q (o::o2::r) a w:=by
     intro vs hv hb2 hput hev
     simp only [Bool.and_eq_true] at hb2
     have hn1:=Nat.eq_of_beq_eq_true hb2.1
     have hn2:=Nat.eq_of_beq_eq_true hb2.2
     obtain ⟨q,hq⟩:=h1.eval v
     have hc:=CR.of hq hv
     obtain ⟨dst,op,oty,pos,after,guard⟩:=o
     obtain ⟨dst2,op2,oty2,pos2,after2,guard2⟩:=o2
     simp only at ho hdst hop2 hdst2 hg hg2
     subst ho;subst hdst;subst hop2;subst hdst2
     refine wpList_plain hg fun K1 hK1=>r_alloc fun g w' hb' hx hgs=>hK1 _ _ ?_
     refine wpList_plain hg2 fun K2 hK2 => ?_
     have ht':t < a.tmps.size:=by
      have:∃ d0,(frz1 fr v)[t]?=some d0:=by
       simp only [putD] at hput
       split at hput
       ·exact ⟨_,by assumption⟩
       ·exact hput.elim
      obtain ⟨d0,hd0⟩:=this
      rw [h1.size]
      exact (gLt hd0)
     refine r_store (n:=ti.cells) (us:=(a.eval v).cells.toList) (b:=g) (o:=0) (hT.ty _ _ ht).sz ?_ ?_ (by rw [hc.len,hn1]) hc.one hb' (by simp;omega) (hK2 _ _ ?_)
     ·have:=put_tmps_eq (v:=.pointer (some ⟨g,0,none⟩)) ht'
      simp [Act.eval,Array.getD_eq_getD_getElem?,this]
     ·rw [hev]
     ·have hx2:Ext w ((w'.setRow g (zc.toArray.toList.take 0++(a.eval v).cells.toList++zc.toArray.toList.drop (0+ti.cells)).toArray)):=Ext.setRow hx (by omega)
      have hpt:=PT.ext' h1.wf hx2
      have hrow:(w'.setRow g (zc.toArray.toList.take 0++(a.eval v).cells.toList++zc.toArray.toList.drop (0+ti.cells)).toArray).heap[g]?=some (.cells (zc.toArray.toList.take 0++(a.eval v).cells.toList++zc.toArray.toList.drop (0+ti.cells)).toArray ty (0,0)):=setRow_heap w' g _ _ ty _ hb'
      have hcells:(zc.toArray.toList.take 0++(a.eval v).cells.toList++zc.toArray.toList.drop (0+ti.cells))=(a.eval v).cells.toList:=by
       simp [List.drop_eq_nil_of_le,hn2]
      rw [hcells] at hrow hpt ⊢
      have hfz:Fz S1.lim (w'.setRow g (a.eval v).cells.toList.toArray) (.pointer (some ⟨g,0,none⟩)) (.ptr vs):=by
       refine .ptr (fun j=>(a.eval v).cells.toList.getD j undef) (fun j d hj => ?_) fun j d hj => ?_
       ·have hjl:=lt_of_len hc.len hj
        have he:(a.eval v).cells.toList[j]?=some ((a.eval v).cells.toList.getD j undef):=by rw [List.getD_eq_getElem?_getD,List.getElem?_eq_getElem hjl];rfl
        refine ⟨by rw [cell_of_row _ g _ _ ty (0,0) hrow,Nat.zero_add];simpa using he,fun s hs' => ?_,hc.one _ (gMem he)⟩
        exfalso
        simp only [Sig.lim] at hs'
        cases hx':S1.own g with
        |none=>rw [hx'] at hs';cases hs'
        |some y=>have:=h1.wf g y hx';omega
       ·have hjl:=lt_of_len hc.len hj
        have he:(a.eval v).cells.toList[j]?=some ((a.eval v).cells.toList.getD j undef):=by rw [List.getD_eq_getElem?_getD,List.getElem?_eq_getElem hjl];rfl
        exact (hc.fz j d _ hj he).trans hpt.trans
      obtain ⟨fr',k1,k2⟩:=putD_sound (dst:=some t) (v:=.pointer (some ⟨g,0,none⟩)) (h1.drop hpt) (.fz hfz) (fun t ht=>(hfz.men ht).elim) hput
      exact hK fr' S1 _ _ k1 (t1.trans hpt.trans) k2
    split at hs
    ·rename_i tv
     split at hs
     ·rename_i hne
      split at hs
      ·rename_i vs hv
       split at hs
       ·rename_i hb2
        refine key hv hb2 hs fun p => ?_
        have hne':tv ≠ t:=fun e=>by subst e;simp at hne
        simp only [Act.eval,Array.getD_eq_getD_getElem?,put_tmps_ne hne']
       ·exact hs.elim
      ·exact hs.elim
     ·exact hs.elim
    ·split at hs
     ·rename_i vs hv
      split at hs
      ·rename_i hb2
       exact key hv hb2 hs fun p=>rfl
      ·exact hs.elim
     ·exact hs.elim
    ·exact hs.elim
   ·exact hs.elim
  ·exact hs.elim
 ·exact hs.elim
theorem hand_sound {fr:List D} {c:Call} {f:Nat} (h:FR S w a fr) (hc:c.callee=.value (.func f)) (hargs:c.args.toList=x::xs) (hu:rootOf fr x=some u) (hs:handD P f u xs dst fr K):StepOk P S w a (Oper.mk dst (.call c) ty pos after guard) K:=by
 intro K' Q hK
 obtain ⟨callee,args,argTypes⟩:=c
 simp only at hc hargs
 subst hc
 obtain rfl:args=(x::xs).toArray:=Array.ext' hargs
 unfold handD at hs
 split at hs
 ·rename_i m sz rows hd
  obtain ⟨d,out,⟨d1,ds',rfl,hl,hp,hsem⟩,hput⟩:=hs.h
  refine own_call (p:=dstPlace dst) h hd (root_eval h hu) hl hp hsem fun v S' w' t1 t2 t3 => ?_
  have hcalm:=hsem.2.1
  have fin:∀ {fr1:List D},FR S' w' a fr1→putD fr1 dst d K→K' (a.put dst v) w':=fun f1 hp1=>by
   obtain ⟨fr',k1,k2⟩:=putD_sound f1 t3 (fun t ht=>absurd ht (D.calm_men hcalm)) hp1
   exact hK fr' S' w' _ k1 t1 k2
  cases out with
  |none=>simp only [forceL_eq] at hput;exact fin t2 hput
  |some d'=>simp only [forceL_eq] at hput;exact fin t2 hput
 ·exact hs.elim
theorem map_at {α β:Type} {f:α→β} {l:List α} {j:Nat} {y:β} (h:(l.map f)[j]?=some y):∃ x,l[j]?=some x∧f x=y:=by
 rw [List.getElem?_map] at h
 cases hx:l[j]? with
 |none=>rw [hx] at h;cases h
 |some x=>rw [hx] at h;exact ⟨x,rfl,Option.some.inj h⟩
theorem lendC_ok {q:Place} {v:Value} {d:D} (hr:Rep S w q v d):Fz (S.lend w).lim w v (lendC d):=by
 have plain:∀ {d:D},Rep S w q v d→Fz (S.lend w).lim w v (match d.one with|true=>d|false=>.any):=fun {d} hr=>by
  split
  ·rename_i ho
   exact (D.one_fz hr ho).lend
  ·exact .any _
 cases d with
 |sl m sz rows=>
  cases hr with
  |fz hz=>
   have hz2:=hz.lend
   simp only [lendC]
   cases hz2 with
   |slNil=>exact .slNil 0 sz
   |slE=>exact .slE _ sz
   |sl cv a1 a2 a3 a4 a5=>exact .sl cv a1 a2 a3 a4 a5
  |@own _ b cap _ _ _ cur e g=>
   refine g.fz2 (fun hz=>hz.lend) rfl fun k hk s hs => ?_
   simp only [Sig.lim,Sig.lend,g.own,g.heap,Option.map_some,Option.some.injEq] at hs
   have h1:=g.size
   have h2:=Nat.mul_le_mul_right sz g.le
   omega
 |_=>exact plain hr
theorem lend1_sound {fr:List D} (h:FR S w a fr) {q:Place} {v:Value} {d:D} (hr:Rep S w q v d):Fz (S.lend w).lim w v (lend1 fr d):=by
 have plain:∀ {d:D},Rep S w q v d→Fz (S.lend w).lim w v (match d.one with|true=>d|false=>.any):=fun {d} hr=>by
  split
  ·rename_i ho
   exact (D.one_fz hr ho).lend
  ·exact .any _
 cases d with
 |ref u off=>
  simp only [lend1]
  split
  ·rename_i cs hd
   cases hr with
   |fz h=>cases h
   |ref hown=>
    obtain ⟨cv,hcv⟩:=h.loadObj hd
    refine .ptr (fun j=>cv (off+j)) (fun j d hj => ?_) fun j d hj => ?_
    ·rw [List.getElem?_drop] at hj
     obtain ⟨e,he,rfl⟩:=map_at hj
     obtain ⟨h1,h2,h3⟩:=hcv _ _ he
     exact ⟨h1,lend_okc h1,h2⟩
    ·rw [List.getElem?_drop] at hj
     obtain ⟨e,he,rfl⟩:=map_at hj
     obtain ⟨h1,h2,h3⟩:=hcv _ _ he
     exact lendC_ok h3
  ·exact .any _
 |_=>exact plain hr
theorem lendD_sound {fr:List D} (h:FR S w a fr) {q:Place} {v:Value} {d:D} (hr:Rep S w q v d):Fz (S.lend w).lim w v (lendD fr d):=by
 have plain:∀ {d:D},Rep S w q v d→Fz (S.lend w).lim w v (match d.passes with|true=>d|false=>.any):=fun {d} hr=>by
  split
  ·rename_i ho
   exact (hr.passes ho).lend
  ·exact .any _
 cases d with
 |fn f caps=>
  obtain ⟨vs,rfl,hl,ih⟩:=hr.fn_inv
  refine .fn vs (by simp [hl]) fun j d v hd hv => ?_
  rw [List.getElem?_map] at hd
  cases hc:caps[j]? with
  |none=>rw [hc] at hd;cases hd
  |some e=>
   rw [hc] at hd
   cases hd
   exact lend1_sound h (ih j e v hc hv)
 |sl m sz rows=>
  cases hr with
  |fz hz=>
   have hz2:=hz.lend
   simp only [lendD]
   cases hz2 with
   |slNil=>exact .slNil 0 sz
   |slE=>exact .slE _ sz
   |sl cv a1 a2 a3 a4 a5=>exact .sl cv a1 a2 a3 a4 a5
  |@own _ b cap _ _ _ cur e g=>
   refine g.fz2 (fun hz=>hz.lend) rfl fun k hk s hs => ?_
   simp only [Sig.lim,Sig.lend,g.own,g.heap,Option.map_some,Option.some.injEq] at hs
   have h1:=g.size
   have h2:=Nat.mul_le_mul_right sz g.le
   omega
 |obj cs=>
  simp only [lendD]
  cases hr with
  |fz h=>cases h
  |@obj t b _ _ cur e hb hp hl hh hs h1 ih=>
   refine .ptr (fun j=>cur.getD j undef) (fun j d hj => ?_) fun j d hj => ?_
   ·obtain ⟨e',he',rfl⟩:=map_at hj
    have hjl:j < cur.size:=by rw [← hs];exact (List.getElem?_eq_some_iff.1 he').1
    have hc:cur[j]?=some (cur.getD j undef):=by simp [Array.getD_eq_getD_getElem?,hjl]
    have hcell:w.cell? ⟨b,0+j,none⟩=some (cur.getD j undef):=by rw [Nat.zero_add,cell_of_row w b _ cur e (0,0) hh];exact hc
    exact ⟨hcell,lend_okc hcell,h1 j _ hc⟩
   ·obtain ⟨e',he',rfl⟩:=map_at hj
    have hjl:j < cur.size:=by rw [← hs];exact (List.getElem?_eq_some_iff.1 he').1
    have hc:cur[j]?=some (cur.getD j undef):=by simp [Array.getD_eq_getD_getElem?,hjl]
    exact lendC_ok (ih j _ _ he' hc)
 |ref u off=>exact lend1_sound h hr
 |_=>exact plain hr
theorem lendE_sound {fr:List D} {c:Call} {f:Nat} (h:FR S w a fr) (hc:c.callee=.value (.func f)) (hs:lendE P f c.args.toList dst fr K):StepOk P S w a (Oper.mk dst (.call c) ty pos after guard) K:=by
 intro K' Q hK
 obtain ⟨callee,args,argTypes⟩:=c
 simp only at hc
 subst hc
 obtain ⟨d,⟨hflat,ds',h1,h2,hsem⟩,hput⟩:=hs.h
 simp only at h1
 have hlen:(args.toList.map a.eval).length=ds'.length:=by rw [h1.len];simp
 have hfz:∀ (i:Nat) (d:D) (v:Value),ds'[i]?=some d→(args.toList.map a.eval)[i]?=some v→Fz (S.lend w).lim w v d:=fun i d v hd hv=>by
  rw [List.getElem?_map] at hv
  cases hx:args.toList[i]? with
  |none=>rw [hx] at hv;cases hv
  |some x=>
   rw [hx] at hv
   cases hv
   obtain ⟨q,hq⟩:=h.eval x
   have hle:=h1.get (i:=i) (d:=lendD fr (evalD fr x)) (by rw [List.getElem?_map,hx];rfl) hd
   exact ((Rep.fz (S:=S.lend w) (p:=.dead) (lendD_sound h hq)).le hle).passes (List.all_eq_true.1 h2 d (gMem hd))
 have hcalm:=hsem.2.1
 haveI:=hsem.1
 refine r_call (call_lend hsem hflat h.wf hlen hfz) (by apply Array.ext';simp) fun e w' ⟨v,he,hpt,hrep⟩ => ?_
 subst he
 obtain ⟨fr',k1,k2⟩:=putD_sound (dst:=dst) (h.drop hpt) (hrep _) (fun t ht=>absurd ht (D.calm_men hcalm)) hput
 exact hK fr' S w' _ k1 hpt.trans k2
theorem handO_sound {fr:List D} {c:Call} {f:Nat} (h:FR S w a fr) (hc:c.callee=.value (.func f)) (hargs:c.args.toList=x::xs) (hu:objAt fr x=some (u,0)) (hs:handO P f u xs dst fr K):StepOk P S w a (Oper.mk dst (.call c) ty pos after guard) K:=by
 intro K' Q hK
 obtain ⟨callee,args,argTypes⟩:=c
 simp only at hc hargs
 subst hc
 obtain rfl:args=(x::xs).toArray:=Array.ext' hargs
 obtain ⟨cs0,hd0,hev⟩:=h.objAt hu
 unfold handO at hs
 split at hs
 ·rename_i cs hd
  split at hs
  ·rename_i hcalm1
   obtain ⟨d,out,⟨d1,ds',rfl,hl,hp,hsem⟩,hput⟩:=hs.h
   split at hput
   ·rename_i cs'
    simp only [putObj,forceH_eq,forceL_eq,eraU_eq] at hput
    refine own_callO (p:=dstPlace dst) h hd hcalm1 hev hl hp hsem fun v S' w' t1 t2 t3 => ?_
    have hcalm:=hsem.2.1
    obtain ⟨fr',k1,k2⟩:=putD_sound t2 t3 (fun t ht=>absurd ht (D.calm_men hcalm)) hput
    exact hK fr' S' w' _ k1 t1 k2
   ·exact hput.elim
  ·exact hs.elim
 ·exact hs.elim
theorem stepD_sound (hT:TOk P T Z) {fr:List D} (h:FR S w a fr) (hs:stepD P T Z M o fr K):StepOk P S w a o K:=by
 have ev:∀ t v,a.tmps[t]?=some v→a.eval (.tmp t)=v:=fun t v hv=>by simp [Act.eval,Array.getD_eq_getD_getElem?,hv]
 obtain ⟨dst,op,ty,pos,after,guard⟩:=o
 unfold stepD at hs
 simp only at hs
 split at hs
 ·split at hs
  ·rename_i hd
   exact alias_sound h hd rfl (ev _) hs
  ·rename_i hd
   exact alias_sound h hd rfl (ev _) hs
  ·rename_i u u' hd
   obtain ⟨v,hv,hsl⟩:=h.at hd
   obtain ⟨g1,d',g2,g3,_⟩:=hsl
   refine alias_sound h g2 g3 (fun v' hv' => ?_) hs
   rw [g1] at hv'
   cases hv'
   exact ev _ _ hv
  ·rename_i hd
   obtain ⟨r1,r2,r3⟩:=ref_rep h hd 0
   obtain ⟨fr',k1,k2⟩:=putD_sound h (r1 _) r2 hs
   exact fun K' Q hK=>r_move (ev _ _ r3) (hK fr' S w _ k1 (Trans.refl S w) k2)
  ·exact pureD_sound hT h hs
 ·split at hs
  ·exact take_sound h (ev _) hs
  ·exact take_sound h (ev _) hs
  ·rename_i u u' hd
   obtain ⟨v,hv,hsl⟩:=h.at hd
   refine take_sound h (fun v' hv' => ?_) hs
   rw [hsl.1] at hv'
   cases hv'
   exact ev _ _ hv
  ·rename_i hd
   obtain ⟨r1,r2,r3⟩:=ref_rep h hd 0
   obtain ⟨fr',k1,k2⟩:=putD_sound h (r1 _) r2 hs
   exact fun K' Q hK=>r_assign (ev _ _ r3) (hK fr' S w _ k1 (Trans.refl S w) k2)
  ·exact pureD_sound hT h hs
 ·obtain ⟨s,r,hp,h12⟩:=pickD_inv hs
  obtain ⟨h1,h2⟩:=andO_iff.1 h12
  obtain ⟨p,h3,h4⟩:=pickR_sound (h.eval _) (h.eval _) (h.eval _) hp h1
  intro K' Q hK
  refine pick_run h3 ?_
  rw [h4]
  obtain ⟨fr',k1,k2⟩:=putD_sound h (.fz (.bool r)) no_men_bool h2
  exact hK fr' S w _ k1 (Trans.refl S w) k2
 ·exact refOp_sound hT h hs
 ·split at hs
  ·rename_i hc
   exact append_sound hT h hc hs
  ·rename_i hc
   exact del_sound hT h hc hs
  ·exact pureD_sound hT h hs
  ·rename_i f hcal
   split at hs
   ·split at hs
    ·rename_i x xs hargs
     split at hs
     ·rename_i u hu
      rw [forceL_eq] at hs
      obtain ⟨S1,t1,h1⟩:=fold_sound (fun S fr x h=>down1_sound h x) xs _ _ h
      split at hs
      ·rename_i u' hu'
       split at hs
       ·rename_i he
        obtain rfl:=Nat.eq_of_beq_eq_true he
        exact (hand_sound h1 hcal hargs hu' hs).ghost t1
       ·exact hs.elim
      ·exact hs.elim
     ·split at hs
      ·rw [forceL_eq] at hs
       obtain ⟨S1,t1,h1⟩:=fold_sound (fun S fr x h=>down1_sound h x) xs _ _ h
       split at hs
       ·rename_i u' hu'
        exact (handO_sound h1 hcal hargs hu' hs).ghost t1
       ·exact hs.elim
      ·rw [forceL_eq] at hs
       obtain ⟨S1,t1,h1⟩:=prep_sound h _
       exact (pureD_sound hT h1 hs).ghost t1
    ·exact pureD_sound hT h hs
   ·split at hs
    ·exact lendE_sound h hcal hs
    ·rw [forceL_eq] at hs
     obtain ⟨S1,t1,h1⟩:=prep_sound h _
     exact (pureD_sound hT h1 hs).ghost t1
  ·rw [forceL_eq] at hs
   obtain ⟨S1,t1,h1⟩:=prep_sound h _
   exact (pureD_sound hT h1 hs).ghost t1
 ·split at hs
  ·rename_i hd
   obtain ⟨r1,r2,r3⟩:=ref_rep h hd 0
   obtain ⟨fr',k1,k2⟩:=putD_sound h (r1 _) r2 hs
   exact fun K' Q hK=>r_nilCheck (ev _ _ r3) (hK fr' S w _ k1 (Trans.refl S w) k2)
  ·exact pureD_sound hT h hs
 ·split at hs
  ·rename_i hd
   split at hs
   ·rename_i ht
    split at hs
    ·rename_i off n ag hf
     haveI:=(hT.ty _ _ ht).2.1 _ _ _ _ hf
     obtain ⟨r1,r2,_⟩:=ref_rep h hd off
     obtain ⟨_,_,r3⟩:=ref_rep h hd 0
     obtain ⟨fr',k1,k2⟩:=putD_sound h (r1 _) r2 hs
     exact fun K' Q hK=>r_fieldAddr (ev _ _ r3) (by rw [Nat.zero_add];exact hK fr' S w _ k1 (Trans.refl S w) k2)
    ·exact hs.elim
   ·exact hs.elim
  ·exact pureD_sound hT h hs
 ·split at hs
  ·rename_i hx
   rw [forceL_eq] at hs
   obtain ⟨S1,t1,h1⟩:=frzL_sound T _ h _ _
   exact StepOk.ghost t1 (loadD_sound hT h1 (by rw [objAt_frzL];exact hx) hs)
  ·exact pureD_sound hT h hs
 ·rw [forceL_eq] at hs
  obtain ⟨S1,t1,h1⟩:=frz1_sound h _
  refine ((storeD_sound hT h1 hs).mono fun {fr' S' w' a'} k f => ?_).ghost t1
  unfold onceD at k
  split at k
  ·split at k
   ·unfold freezeD at k
    split at k
    ·rename_i hd
     split at k
     ·rename_i hb
      simp only [Bool.and_eq_true] at hb
      rw [forceL_eq] at k
      obtain ⟨S2,t2,f2⟩:=f.freezeObj hd hb.1 hb.2
      exact ⟨_,S2,k,t2,f2⟩
     ·exact k.elim
    ·exact k.elim
   ·exact ⟨_,_,k,Trans.refl _ _,f⟩
  ·exact ⟨_,_,k,Trans.refl _ _,f⟩
 ·exact upd_sound hT h hs
 ·exact allocD_sound hT h hs
 ·split at hs
  ·split at hs
   ·rw [forceL_eq] at hs
    obtain ⟨S1,t1,h1⟩:=frz1_sound h _
    exact (boxD_sound h1 hs).ghost t1
   ·rw [forceL_eq] at hs
    obtain ⟨S1,t1,h1⟩:=prep_sound h _
    exact (pureD_sound hT h1 hs).ghost t1
  ·exact hs.elim
 ·split at hs
  ·rw [forceL_eq] at hs
   obtain ⟨S1,t1,h1⟩:=prep_sound h _
   exact (pureD_sound hT h1 hs).ghost t1
  ·exact pureD_sound hT h hs
theorem takeN_sound {fr:List D} (h:FR S w a fr) (x:Operand):∃ S',Trans S w S' w∧FR S' w a (takeN fr x):=by
 unfold takeN
 split
 ·split
  ·rename_i hx
   split
   ·rename_i hd
    split
    ·rename_i hc
     exact h.takeC hx hd hc
    ·exact ⟨S,Trans.refl S w,h⟩
   ·exact ⟨S,Trans.refl S w,h⟩
  ·exact ⟨S,Trans.refl S w,h⟩
 ·exact ⟨S,Trans.refl S w,h⟩
theorem storeEl_run (hT:TOk P T Z) {v:Operand} {o:Nat} {ti:TI} {vs:List D} {us:List Value} {b:Nat} {cur:Array Value} {e:TypeId} 
  (ht:T ty0=some ti) (hn:vs.length=ti.cells) (hev:a.eval (.tmp u)=.pointer (some ⟨b,o,none⟩)) (hus:(a.eval v).cells.toList=us) (hul:us.length=vs.length) (hone:∀ u:Value,u ∈ us→u.oneCell'=true) (hh:w.heap[b]?=some (.cells cur e (0,0))) (hle:o+vs.length≤cur.size)
  (hk:K' (a.put dst undef) (w.setRow b (cur.toList.take o++us++cur.toList.drop (o+vs.length)).toArray)):(Oper.mk dst (.store ty0 (.tmp u) v) ty pos after guard).wp P a w K' Q:=
 r_store (n:=vs.length) (by rw [(hT.ty _ _ ht).sz,hn]) hev hus hul hone hh hle hk
theorem storeEs_sound (hT:TOk P T Z) {fr:List D} {x sz k j:Nat} {v0:Value} {v:Operand} (h:FR S w a fr) (hv:a.tmps[u]?=some v0) (hsl:SlotRep S w a fr u v0 (.es x sz k j)) (hd:fr[x]?=some (.sl 2 sz rows))
  (hs:storeR T ty0 v x sz k j rows fr fun rows=>forceL (fr.set x (.sl 2 sz rows)) K):StepOk P S w a (Oper.mk none (.store ty0 (.tmp u) v) ty pos after guard) K:=by
 intro K' Q hK
 unfold storeR at hs
 split at hs
 ·rename_i ti vs ht hvs
  split at hs
  ·rename_i hb
   simp only [Bool.and_eq_true] at hb
   have hn:=Nat.eq_of_beq_eq_true hb.1
   have hle:=Nat.le_of_ble_eq_true hb.2
   obtain ⟨r,⟨_,hr⟩,hs⟩:=hs.h
   have hr:rows[k]?=some r:=hr
   rw [forceL_eq] at hs
   obtain ⟨_,s,hs1,he⟩:=hsl
   obtain ⟨v',hv',hs'⟩:=h.at hd
   obtain rfl:s=v':=Option.some.inj (hs1.symm.trans hv')
   obtain ⟨b,cap,cur,e,rfl,rfl,g⟩:=el_at hs'.1 he hr
   have hev:a.eval (.tmp u)=.pointer (some ⟨b,k * sz+j,none⟩):=by simp [Act.eval,Array.getD_eq_getD_getElem?,hv]
   obtain ⟨q,hq⟩:=h.eval v
   have hc:=CR.of hq hvs
   obtain ⟨h1,hbt,CUR,g'⟩:=g.store h.wf (by simp [Place.slot]) hr hc hle
   refine storeEl_run hT ht hn hev rfl hc.len hc.one g.heap h1 ?_
   refine hK _ S _ a hs hbt.tr (h.reown hbt g.own rfl hd rfl (fun y hy => ?_) (fun t=>no_men_sl) rfl)
   rw [hs1] at hy
   cases hy
   have:=Rep.own g'
   rwa [List.length_set] at this
  ·exact hs.elim
 ·exact hs.elim
theorem storeEl_sound (hT:TOk P T Z) {fr:List D} {x c sz k j:Nat} {v0:Value} {v:Operand} (h:FR S w a fr) (hv:a.tmps[u]?=some v0) (hsl:SlotRep S w a fr u v0 (.el x c sz k j)) (hd:fr[x]?=some (.obj cs)) (hcc:cs[c]?=some (.sl 2 sz rows))
  (hs:storeR T ty0 v x sz k j rows fr fun rows=>putObj fr x (cs.set c (.sl 2 sz rows)) K):StepOk P S w a (Oper.mk none (.store ty0 (.tmp u) v) ty pos after guard) K:=by
 intro K' Q hK
 unfold storeR at hs
 split at hs
 ·rename_i ti vs ht hvs
  split at hs
  ·rename_i hb
   simp only [Bool.and_eq_true] at hb
   have hn:=Nat.eq_of_beq_eq_true hb.1
   have hle:=Nat.le_of_ble_eq_true hb.2
   obtain ⟨r,⟨_,hr⟩,hs⟩:=hs.h
   have hr:rows[k]?=some r:=hr
   simp only [putObj,forceH_eq,forceL_eq] at hs
   obtain ⟨_,s,hs1,he⟩:=hsl
   obtain ⟨v',hv',hs'⟩:=h.at hd
   have hrep:=hs'.1.obj_cell hcc hs1
   obtain ⟨b,cap,cur,e,rfl,rfl,g⟩:=el_at hrep he hr
   have hev:a.eval (.tmp u)=.pointer (some ⟨b,k * sz+j,none⟩):=by simp [Act.eval,Array.getD_eq_getD_getElem?,hv]
   obtain ⟨q,hq⟩:=h.eval v
   have hc:=CR.of hq hvs
   obtain ⟨h1,hbt,CUR,g'⟩:=g.store h.wf (by simp) hr hc hle
   refine storeEl_run hT ht hn hev rfl hc.len hc.one g.heap h1 ?_
   refine hK _ S _ a hs hbt.tr (h.reownC hbt g.own hd (fun y hy => ?_) (fun t=>no_men_sl))
   rw [hs1] at hy
   cases hy
   have:=Rep.own g'
   rwa [List.length_set] at this
  ·exact hs.elim
 ·exact hs.elim
theorem set_at_split {d:D} (h:off < cs.length):cs.take off ++ [d]++cs.drop (off+1)=cs.set off d:=by
 rw [List.set_eq_take_append_cons_drop,if_pos h]
 simp
theorem give_sound (hT:TOk P T Z) {fr:List D} {v:Operand} {s m sz:Nat} (h:FR S w a fr) {e0 sz0 by0:Nat} {zc0:List Value} (ht:T ty0=some (.sl e0 sz0 by0 zc0))
  (hx:objAt fr x=some (u,off)) (hr:rootOf fr v=some s) (hd:fr[u]?=some (.obj cs)) (hsl:fr[s]?=some (.sl (m+1) sz rows)) (hlt:off < cs.length)
  (hs:K ((eraC u off 1 ((fr.map (unal s .any)).set s .any)).set u (.obj (cs.set off (.sl (m+1) sz rows))))):StepOk P S w a (Oper.mk none (.store ty0 x v) ty pos after guard) K:=by
 intro K' Q hK
 obtain ⟨cs0,hd0,hev⟩:=h.objAt hx
 have hv:=root_eval h hr
 have hus:u ≠ s:=fun e=>by subst e;rw [hd] at hsl;cases hsl
 obtain ⟨S1,v',t1,t2,f1,r1⟩:=h.take ⟨u+2,[off]⟩ hsl
 obtain rfl:v'=a.eval v:=Option.some.inj (t2.symm.trans hv)
 have hd1:((fr.map (unal s .any)).set s .any)[u]?=some (.obj cs):=by
  rw [List.getElem?_set_ne (Ne.symm hus),List.getElem?_map,hd]
  rfl
 -- the object stays where it is
 obtain ⟨vo,hvo,hso⟩:=h.at hd
 obtain ⟨b0,_,_,hvo0,hbo0,hloc0,_⟩:=hso.1.obj_inv
 have f2:=f1.recell hd1 off (r0:=.any) (fun _ _=>.fz (.any _)) (fun t ht=>by cases ht)
 have hd2:((((fr.map (unal s .any)).set s .any)).set u (.obj (cs.set off .any)))[u]?=some (.obj (cs.set off .any)):=List.getElem?_set_self (by
  have:=(gLt hd)
  simpa using this)
 have one:(a.eval v).oneCell'=true:=by
  rcases r1.sl_inv with ⟨e,_⟩|⟨b,cap,cur,e,e',_⟩
  ·rw [e];rfl
  ·rw [e'];rfl
 have hcells:(a.eval v).cells.toList = [a.eval v]:=by
  rcases r1.sl_inv with ⟨e,_⟩|⟨b,cap,cur,e,e',_⟩
  ·rw [e];rfl
  ·rw [e'];rfl
 have hc:CR S1.lim w [a.eval v] [D.any]:=⟨rfl,fun u hu=>by simp only [List.mem_singleton] at hu;subst hu;exact one,fun j d u hj hu=>by
  match j,hj with
  |0,hj=>cases hj;exact .any _
  | j+1,hj=>simp at hj⟩
 obtain ⟨b,cur,e,hb',hloc,hh,hsz,htr,f3⟩:=f2.storeObj (off:=off) hd2 hc (by simp;omega)
 have hevS:a.eval x=.pointer (some ⟨b,off,none⟩):=by
  rw [hev,hloc0]
  congr 3
  obtain ⟨vo1,hvo1,hso1⟩:=f1.at hd1
  obtain ⟨b1,_,_,hvo1',_,hloc1,_⟩:=hso1.1.obj_inv
  have e1:vo1=vo:=Option.some.inj (hvo1.symm.trans hvo)
  rw [hvo1',hvo0] at e1
  have:b1=b0:=by cases e1;rfl
  rw [← this,← hloc1,hloc]
 refine r_store (n:=1) (by rw [(hT.ty _ _ ht).sz];rfl) hevS hcells rfl (fun u hu=>by simp only [List.mem_singleton] at hu;subst hu;exact one) hh (by rw [← hsz];simp;omega) ?_
 have hlen1 : [D.any].length=1:=rfl
 rw [hlen1] at htr f3
 rw [set_at_split (by simpa using hlt),List.set_set] at f3
 -- what the cell holds now
 have hd3:(((((fr.map (unal s .any)).set s .any)).set u (.obj (cs.set off .any))).map (unac u off 1)).set u (.obj (cs.set off .any))=(eraC u off 1 ((fr.map (unal s .any)).set s .any)).set u (.obj (cs.set off .any)):=by
  rw [eraC_eq,List.map_set,List.set_set]
 rw [hd3] at f3
 have hul:u < (eraC u off 1 ((fr.map (unal s .any)).set s .any)).length:=by
  have:=(gLt hd)
  rw [eraC_eq]
  simpa using this
 obtain ⟨hCs,hcell⟩:=splice (cur:=cur) (us := [a.eval v]) (off:=off) (n:=1) rfl (by rw [← hsz];simp;omega)
 have hheap:(w.setRow b (cur.toList.take off ++ [a.eval v]++cur.toList.drop (off+1)).toArray).heap[b]?=some (.cells (cur.toList.take off ++ [a.eval v]++cur.toList.drop (off+1)).toArray e (0,0)):=setRow_heap w b cur _ e (0,0) hh
 have f4:=f3.recell (List.getElem?_set_self hul) off (r0:=.sl (m+1) sz rows) (fun y hy => ?_) (fun t=>no_men_sl)
 ·rw [List.set_set,List.set_set] at f4
  exact hK _ S1 _ a hs (t1.trans htr) f4
 ·rw [hloc,cell_of_row _ b _ _ e (0,0) hheap,hcell,if_neg (by omega),if_pos (by omega),Nat.sub_self] at hy
  cases hy
  refine r1.trans f1.wf htr rfl (fun k q l hs hu=>⟨setRow_other w b k _ (fun e => ?_),hs⟩) (fun _=>rfl) fun t ht=>by cases ht
  subst e
  rw [hb'] at hs
  cases hs
  obtain ⟨_,l',hl⟩:=hu
  simp [Place.slot] at hl
theorem ev_tmp' {t:Nat} {v:Value} (hv:a.tmps[t]?=some v):a.eval (.tmp t)=v:=by simp [Act.eval,Array.getD_eq_getD_getElem?,hv]
theorem fillR_map (f:D→D) {pl:List (Nat × Nat)}:∀ (parts:List (Nat × Option (List D))) (cells cs:List D),fillR pl cells parts=some cs→fillR pl (cells.map f) (parts.map fun x=>(x.1,x.2.map (List.map f)))=some (cs.map f)
 |[],cells,cs,h=>by
  simp only [fillR,Option.some.injEq] at h
  subst h
  rfl
 |(i,none)::r,cells,cs,h=>by simp [fillR] at h
 |(i,some ds)::r,cells,cs,h=>by
  simp only [fillR,List.map_cons,Option.map_some] at h ⊢
  cases hp:pl[i]? with
  |none=>rw [hp] at h;cases h
  |some y=>
   obtain ⟨off,sz⟩:=y
   rw [hp] at h
   simp only at h ⊢
   split at h
   ·rename_i hc
    have:=fillR_map f r _ cs h
    rw [if_pos (by simpa using hc)]
    simpa only [List.map_append,List.map_take,List.map_drop] using this
   ·cases h
theorem FR.takeA {fr:List D} (h:FR S w a fr) {x m sz:Nat} (p:Place) (hd:fr[x]?=some (.agg cs)) (ho:cs[off]?=some (.sl (m+1) sz rows)) (hone:(cs.set off .nil).all D.one=true):
  ∃ S' vs v,Trans S w S' w∧a.tmps[x]?=some (.agg (List.toArray vs))∧vs.length=cs.length∧(∀ u:Value,u ∈ vs→u.oneCell'=true)∧vs[off]?=some v∧FR S' w a ((fr.map (unal x .any)).set x .any)∧(∀ (j:Nat) (d:D) (u:Value),j ≠ off→cs[j]?=some d→vs[j]?=some u→Fz S'.lim w u d)∧Rep S' w p v (.sl (m+1) sz rows):=by
 obtain ⟨va,hva,hs⟩:=h.at hd
 obtain ⟨vs,rfl,hl,h1,ih⟩:=hs.1.agg_inv
 have hlt:off < vs.length:=by rw [hl];exact (gLt ho)
 have hv:vs[off]?=some vs[off]:=List.getElem?_eq_getElem hlt
 have hf:∀ (j:Nat) (d:D) (u:Value),j ≠ off→cs[j]?=some d→vs[j]?=some u→Fz S.lim w u d:=fun j d u hj hd hu=>by
  have hod:d.one=true:=List.all_eq_true.1 hone d (gMem (by rw [List.getElem?_set_ne (Ne.symm hj)];exact hd))
  exact D.one_fz (ih j d u hd hu) hod
 rcases (ih off _ _ ho hv).sl_inv with ⟨e,rfl⟩|⟨b,cap,cur,e,e',g⟩
 ·exact ⟨S,vs,_,Trans.refl S w,hva,hl,h1,hv,h.forget hd rfl,hf,by rw [e];exact .fz (.slNil _ _)⟩
 ·have hb:BT S w (S.set b (some (p,if m+1=2 then 0 else rows.length * sz))) w b:=BT.ghost h.wf g.own (by simp [Place.at,Place.slot]) (fun y hy=>by cases hy;simp)
  refine ⟨_,vs,_,hb.tr,hva,hl,h1,hv,h.rebuild hb g.own rfl hd rfl (fun v' p hv'=>.fz (.any _)) (fun t ht=>by cases ht) (fun v' hv'=>.fz (.any _)) (fun t ht=>by cases ht),fun j d u hj hd hu=>(hf j d u hj hd hu).trans hb.tr,?_⟩
  rw [e']
  refine .own ⟨g.mode,g.heap,g.le,g.max,g.size,g.each,by rw [S.set_at],fun k r j d k1 k2 => ?_⟩
  obtain ⟨x,x1,x2,x3⟩:=g.cells k r j d k1 k2
  exact ⟨x,x1,x2,x3.trans hb.tr⟩
theorem giveA_sound (hT:TOk P T Z) {fr:List D} {x m sz:Nat} {ti:TI} {cs0:List D} (h:FR S w a fr) (ht:T ty0=some ti)
  (hd:fr[x]?=some (.agg cs)) (ho:cs[off]?=some (.sl (m+1) sz rows)) (hu:fr[u]?=some (.obj cs0)) (hn:ti.cells=cs.length) (hl0:cs0.length=cs.length) (hone:(cs.set off .nil).all D.one=true)
  (hs:K ((eraC u 0 cs.length ((fr.map (unal x .any)).set x .any)).set u (.obj (cs.set off (.sl (m+1) sz rows))))):StepOk P S w a (Oper.mk none (.store ty0 (.tmp u) (.tmp x)) ty pos after guard) K:=by
 intro K' Q hK
 have hux:u ≠ x:=fun e=>by subst e;rw [hd] at hu;cases hu
 obtain ⟨S1,vs,v,t1,hva,hl,h1,hv,f1,hf,r1⟩:=h.takeA ⟨u+2,[off]⟩ hd ho hone
 have hlt:off < cs.length:=(gLt ho)
 have hd1:((fr.map (unal x .any)).set x .any)[u]?=some (.obj cs0):=by
  rw [List.getElem?_set_ne (Ne.symm hux),List.getElem?_map,hu]
  rfl
 have hc:CR S1.lim w vs (cs.set off .any):=⟨by rw [List.length_set];exact hl,h1,fun j d u hj hu=>by
  by_cases e:j=off
  ·subst e
   rw [List.getElem?_set_self hlt] at hj
   cases hj
   exact .any _
  ·rw [List.getElem?_set_ne (Ne.symm e)] at hj
   exact hf j d u e hj hu⟩
 have hl2:(cs.set off .any).length=cs.length:=List.length_set
 obtain ⟨b,cur,e,hb',hloc,hh,hsz,htr,f3⟩:=f1.storeObj (off:=0) hd1 hc (by rw [hl2];omega)
 obtain ⟨vo,hvo,hso⟩:=f1.at hd1
 obtain ⟨b1,_,_,hvo',_,hloc1,_⟩:=hso.1.obj_inv
 have hev:a.eval (.tmp u)=.pointer (some ⟨b,0,none⟩):=by rw [ev_tmp' hvo,hvo',← hloc1,hloc]
 have hx:a.eval (.tmp x)=.agg (List.toArray vs):=ev_tmp' hva
 refine r_store (n:=cs.length) (by rw [(hT.ty _ _ ht).sz,hn]) hev (us:=vs) (by rw [hx];rfl) hl h1 hh (by omega) ?_
 rw [hl2] at htr f3
 have hfull:cs0.take 0++cs.set off .any++cs0.drop (0+cs.length)=cs.set off .any:=by
  rw [List.take_zero,List.nil_append,Nat.zero_add,List.drop_of_length_le (by omega),List.append_nil]
 rw [hfull] at f3
 have hul:u < (((fr.map (unal x .any)).set x .any).map (unac u 0 cs.length)).length:=by
  have:=(gLt hu)
  simpa using this
 have f4:=f3.recell (List.getElem?_set_self hul) off (r0:=.sl (m+1) sz rows) (fun y hy => ?_) (fun t=>no_men_sl)
 ·rw [List.set_set,List.set_set,← eraC_eq] at f4
  exact hK _ S1 _ a hs (t1.trans htr) f4
 ·have hcl:(cur.toList.take 0++vs++cur.toList.drop (0+cs.length))=vs:=by
   rw [List.take_zero,List.nil_append,Nat.zero_add,List.drop_of_length_le (by rw [Array.length_toList];omega),List.append_nil]
  have hheap:(w.setRow b (cur.toList.take 0++vs++cur.toList.drop (0+cs.length)).toArray).heap[b]?=some (.cells (cur.toList.take 0++vs++cur.toList.drop (0+cs.length)).toArray e (0,0)):=setRow_heap w b cur _ e (0,0) hh
  rw [hloc,cell_of_row _ b _ _ e (0,0) hheap,hcl] at hy
  have hy':vs[off]?=some y:=by simpa using hy
  rw [hv] at hy'
  cases hy'
  refine r1.trans f1.wf htr rfl (fun k q l hs hu=>⟨setRow_other w b k _ (fun e => ?_),hs⟩) (fun _=>rfl) fun t ht=>by cases ht
  subst e
  rw [hb'] at hs
  cases hs
  obtain ⟨_,l',hl⟩:=hu
  simp [Place.slot] at hl
theorem storeNm_sound (hT:TOk P T Z) {fr:List D} {v:Operand} (h:FR S w a fr) (hs:storeNm T ty0 u v fr K):StepOk P S w a (Oper.mk none (.store ty0 (.tmp u) v) ty pos after guard) K:=by
 unfold storeNm at hs
 split at hs
 ·rename_i x sz k j hd
  obtain ⟨v0,hv0,hsl⟩:=h.at hd
  split at hs
  ·rename_i sz' rows hdx
   split at hs
   ·rename_i he
    obtain rfl:=Nat.eq_of_beq_eq_true he
    exact storeEs_sound hT h hv0 hsl hdx hs
   ·exact hs.elim
  ·exact hs.elim
 ·rename_i x c sz k j hd
  obtain ⟨v0,hv0,hsl⟩:=h.at hd
  split at hs
  ·rename_i cs hdx
   split at hs
   ·rename_i sz' rows hc
    split at hs
    ·rename_i he
     obtain rfl:=Nat.eq_of_beq_eq_true he
     exact storeEl_sound hT h hv0 hsl hdx hc hs
    ·exact hs.elim
   ·exact hs.elim
  ·exact hs.elim
 ·exact hs.elim
theorem boxB_sound (hT:TOk P T Z) {fr:List D} {o2:Oper} (h:FR S w a fr) (hs:boxB T Z o o2 fr K) {r:List Oper} (hg:o.guard=none)
  (hK:∀ fr' S' w' a',K fr'→Trans S w S' w'→FR S' w' a' fr'→wpList P ops Q r a' w'):wpList P ops Q (o::o2::r) a w:=by
 unfold boxB at hs
 split at hs
 ·rename_i ty parts t ty2 t2 t3 hop hdst hop2 hdst2 hg2
  split at hs
  ·rename_i htt
   obtain rfl:=Nat.eq_of_beq_eq_true htt
   split at hs
   ·rename_i n0 fl ks zc hty hz
    split at hs
    ·rename_i hzc
     split at hs
     ·rename_i cs hf
      split at hs
      ·rename_i hok
       simp only [Bool.and_eq_true] at hok
       obtain ⟨hnd,hown⟩:=okL_ok hok.1
       rw [forceL_eq] at hs
       split at hs
       ·rename_i d0 h0
        split at hs
        ·rename_i ho0
         rw [forceL_eq] at hs
         split at hs
         ·rename_i d3 h3
          split at hs
          ·rename_i hb3
           simp only [Bool.or_eq_false_iff] at hb3
           simp only [putObj,forceH_eq,forceL_eq] at hs
           obtain ⟨dst,op,oty,pos,after,guard⟩:=o
           obtain ⟨dst2,op2,oty2,pos2,after2,guard2⟩:=o2
           simp only at hop hdst hop2 hdst2 hg hg2
           subst hop;subst hdst;subst hop2;subst hdst2
           obtain ⟨S1,t1,f1,l1,k1,m1⟩:=takeAll t3 (alsOf 0 cs) h hown hnd
           haveI:=(hT.ty _ _ hty).2.2.1
           haveI:=hT.zer _ _ hz
           have hf':=fillR_map (pinF a) _ _ _ hf
           rw [zeroD_pinF] at hf'
           obtain ⟨us,h1,h2⟩:=fillR_sound (S:=S1) (w:=w) (parts.toList.map fun x=>(x.1,a.eval x.2)) _ zc (zeroD zc) _ hf' (CR.zero hzc) (by simp) (fun j x y hx hy=>by
            rw [List.getElem?_map] at hx
            rw [List.getElem?_map,List.getElem?_map] at hy
            cases hp:parts.toList[j]? with
            |none=>rw [hp] at hx;cases hx
            |some z=>
             rw [hp] at hx hy
             cases hx;cases hy
             refine ⟨rfl,fun ds hd => ?_⟩
             obtain ⟨i,x⟩:=z
             simp only [Option.map_eq_some_iff] at hd
             obtain ⟨ds0,hd0,rfl⟩:=hd
             have gen:(evalD fr x).cellsOf=some ds0→CR S1.lim w (a.eval x).cells.toList (ds0.map (pinF a)):=fun g=>by
              rw [cellsOf_pinF g]
              obtain ⟨q,hq⟩:=h.eval x
              have hc:=CR.of hq g
              exact ⟨hc.len,hc.one,fun j d u hd hu=>(hc.fz j d u hd hu).trans t1⟩
             cases x with
             |tmp y=>
              simp only [partM] at hd0
              split at hd0
              ·rename_i e he
               split at hd0
               ·rename_i hoe
                cases hd0
                obtain ⟨v,hv,hsl⟩:=h.at he
                have hcv:v.oneCell'=true∧v.cells.toList = [v]:=by
                 obtain ⟨_,v',_,hv',g1,g2,_⟩:=h.takeX .dead he hoe
                 obtain rfl:v=v':=Option.some.inj (hv.symm.trans hv')
                 exact ⟨g1,g2⟩
                show CR S1.lim w (a.eval (.tmp y)).cells.toList [.pv ((a.tmps[y]?).getD undef)]
                rw [ev_tmp' hv,hcv.2,hv]
                refine ⟨rfl,fun u hu => ?_,fun j d u hj hu => ?_⟩
                ·simp only [List.mem_singleton] at hu;subst hu;exact hcv.1
                ·match j,hj,hu with
                 |0,hj,hu=>cases hj;cases hu;exact .pv _
                 |j+1,hj,_=>simp at hj
               ·exact gen hd0
              ·cases hd0
             |const c=>exact gen hd0
             |global g=>exact gen hd0
             | func g=>exact gen hd0)
           have hlen:us.length=cs.length:=by rw [h2.len,List.length_map]
           refine wpList_plain hg fun K1 hK1 => ?_
           have:=r_build (P:=P) (dst:=some t) (ty:=oty) (pos:=pos) (after:=after) (guard:=guard) (Q:=Q) (K:=K1) (t:=ty) (parts:=parts.toList) (a:=a) (w:=w) rfl h1 (hK1 _ _ ?_)
           ·simpa using this
           ·have f2:=f1.put (v:=.agg us.toArray) (d:=.any) (PT.refl f1.wf) h0 ho0 (.fz (.any _)) (fun t ht=>by cases ht)
            have htl:t < a.tmps.size:=by rw [f1.size];exact (gLt h0)
            refine wpList_plain hg2 fun K2 hK2=>r_box (v:=.agg us.toArray) (ev_tmp' (put_tmps_eq htl)) fun g w' hb' hx hgs=>hK2 _ _ ?_
            have hbu:Blk w' g ty2 us.toArray:=hb'
            obtain ⟨S2,⟨t2,f3⟩,own2,loc2,locg⟩:=f2.allocObjX (fun e=>by subst e;simp at hb3) h3 hb3.1 hbu hx hgs h2
            have hlt3:t3 < ((clearL (alsOf 0 cs) fr).set t .any).length:=(gLt h3)
            have f4:=f3.recellAll (u:=t3) (cs':=cs.map (fillA fr)) (List.getElem?_set_self hlt3) (by simp) (fun i d' x hd hxc => ?_) (fun d' hd t hm => ?_)
            ·rw [List.set_set] at f4
             exact hK _ S2 w' _ hs (t1.trans t2) f4
            ·obtain ⟨c,hc,rfl⟩:=map_at hd
             have hil:i < us.length:=by rw [hlen];exact (gLt hc)
             rw [locg,cell_of_row w' g _ _ ty2 (0,0) hbu] at hxc
             have hxc:us[i]?=some x:=by simpa using hxc
             have hfz:=h2.fz i (pinF a c) x (by rw [List.getElem?_map,hc];rfl) hxc
             have hoa:=List.all_eq_true.1 hok.2 c (gMem hc)
             have one:c.one=true→Rep S2 w' ⟨t3+2,[i]⟩ x (fillA fr c):=fun ho=>by
              rw [pinF_one ho] at hfz
              have e:fillA fr c=c:=by cases c<;>first|rfl|cases ho
              rw [e]
              exact .fz (hfz.trans t2)
             cases c with
             |al y=>
              have hm:=alsOf_mem (k:=0) hc
              rw [Nat.zero_add] at hm
              obtain ⟨d,v,g1,g2,g3,g4,g5,g6⟩:=m1 _ hm
              simp only at g1 g3 g6
              have e:fillA fr (.al y)=d:=by simp [fillA,g1]
              rw [e]
              simp only [pinF,g3,Option.getD_some] at hfz
              obtain rfl:x=v:=by cases hfz;rfl
              refine g6.trans f2.wf t2 (loc2 0 (by omega)) (fun b q l hb hu=>⟨hx.block (f2.wf _ _ hb),by rw [own2 b (f2.wf _ _ hb)];exact hb⟩) (fun e=>by cases e) fun x hm=>(ownD_men g2 hm).elim
             |_=>exact one hoa
            ·obtain ⟨c,hc,rfl⟩:=List.mem_map.1 hd
             have hoa:=List.all_eq_true.1 hok.2 c hc
             cases c with
             |al y=>
              obtain ⟨i,hi⟩:=List.mem_iff_getElem?.1 hc
              have hmm:=alsOf_mem (k:=0) hi
              obtain ⟨d,v,g1,g2,_⟩:=m1 _ hmm
              simp only at g1
              have e:fillA fr (.al y)=d:=by simp [fillA,g1]
              rw [e] at hm
              exact ownD_men g2 hm
             |_=>
              cases hm<;>cases hoa
          ·exact hs.elim
         ·exact hs.elim
        ·exact hs.elim
       ·exact hs.elim
      ·exact hs.elim
     ·exact hs.elim
    ·exact hs.elim
   ·exact hs.elim
  ·exact hs.elim
 ·exact hs.elim
theorem delN_sound (hT:TOk P T Z) {fr:List D} {x:Nat} {k:Operand} {c:Call} (h:FR S w a fr) (hc:c.callee=.builtin .delete) (hargs:c.args.toList = [.tmp x,k]) (hx:fr[x]?=some (.alc u off)) (hs:delN T c.argTypes.toList u off k dst fr K):StepOk P S w a (Oper.mk dst (.call c) ty pos after guard) K:=by
 intro K' Q hK
 obtain ⟨callee,args,argTypes⟩:=c
 simp only at hc hargs hs
 subst hc
 obtain rfl:=arr2 hargs
 unfold delN at hs
 split at hs
 ·rename_i ty0 kt0 h2
  obtain rfl:=arr2 h2
  split at hs
  ·rename_i kt et kd z cs ht hd
   haveI:=(hT.ty _ _ ht).1
   split at hs
   ·rename_i hkt
    obtain rfl:=Nat.eq_of_beq_eq_true hkt
    split at hs
    ·rename_i kd' es hcc
     split at hs
     ·rename_i kv hk
      split at hs
      ·rename_i hb
       simp only [Bool.and_eq_true] at hb
       obtain rfl:=sameKD_eq hb.1
       simp only [putObj,forceH_eq,forceL_eq] at hs
       obtain ⟨v0,hv0,hsl⟩:=h.at hx
       obtain ⟨y,hy,_,hrep,_⟩:=h.nameC hd hcc
       obtain rfl:v0=y:=Option.some.inj (hsl.2.symm.trans hy)
       obtain ⟨b,clock,ents,rfl,hown,hh,he,hf⟩:=hrep.mp_inv
       obtain ⟨q1,r1⟩:=h.eval k
       refine r_delete rfl (ev_tmp' hv0) hh he.1 hf (keyV_eq r1 hk) hb.2 fun ents' clock' he' hst => ?_
       obtain ⟨t1,f1⟩:=h.setMapC (clock':=clock') hd hy hown hh ⟨he',hst he.2⟩ (delV_fit hf)
       exact hK _ S _ a hs t1 f1
      ·exact hs.elim
     ·exact hs.elim
    ·exact hs.elim
   ·exact hs.elim
  ·exact hs.elim
 ·exact hs.elim
theorem stepN_sound (hT:TOk P T Z) {fr:List D} (h:FR S w a fr) (hs:stepN P T Z M o fr K):StepOk P S w a o K:=by
 have base:stepD P T Z M o fr K→StepOk P S w a o K:=fun h'=>stepD_sound hT h h'
 obtain ⟨dst,op,ty,pos,after,guard⟩:=o
 unfold stepN at hs
 simp only at hs
 split at hs
 ·rename_i ty0 u v
  split at hs
  ·split at hs
   ·rw [forceL_eq] at hs
    obtain ⟨S1,t1,h1⟩:=frz1_sound h v
    exact (storeNm_sound hT h1 hs).ghost t1
   ·exact hs.elim
  ·split at hs
   ·rw [forceL_eq] at hs
    obtain ⟨S1,t1,h1⟩:=frz1_sound h v
    exact (storeNm_sound hT h1 hs).ghost t1
   ·exact hs.elim
  ·split at hs
   ·split at hs
    ·have giveA_case:giveA T ty0 u v fr K (stepD P T Z M (Oper.mk none (.store ty0 (.tmp u) v) ty pos after guard) fr K)→StepOk P S w a (Oper.mk none (.store ty0 (.tmp u) v) ty pos after guard) K:=fun hs=>by
      unfold giveA at hs
      split at hs
      ·rename_i x
       split at hs
       ·rename_i cs hd
        split at hs
        ·split at hs
         ·rename_i ho
          split at hs
          ·rename_i hu
           split at hs
           ·rename_i ti ht
            split at hs
            ·rename_i hb
             simp only [Bool.and_eq_true] at hb
             simp only [forceL_eq,putObj,forceH_eq] at hs
             exact giveA_sound hT h ht hd ho hu (Nat.eq_of_beq_eq_true hb.1) (Nat.eq_of_beq_eq_true hb.2.1) hb.2.2 hs
            ·exact hs.elim
           ·exact hs.elim
          ·exact base hs
         ·exact base hs
        ·exact base hs
       ·exact base hs
      ·exact base hs
     unfold giveD at hs
     split at hs
     ·rename_i hx hr
      split at hs
      ·rename_i hd
       split at hs
       ·rename_i hsl
        split at hs
        ·rename_i ht
         split at hs
         ·rename_i hlt
          have hlt:=Nat.lt_of_succ_le (Nat.le_of_ble_eq_true hlt)
          simp only [forceL_eq,putObj,forceH_eq] at hs
          exact give_sound hT h ht hx hr hd hsl hlt hs
         ·exact hs.elim
        ·exact hs.elim
       ·exact giveA_case hs
      ·exact giveA_case hs
     ·exact giveA_case hs
    ·exact base hs
   ·exact base hs
  ·exact base hs
 ·split at hs
  ·split at hs
   ·rename_i c hcal s xs hargs
    rw [forceL_eq] at hs
    obtain ⟨S1,t1,h1⟩:=takeN_sound h s
    exact (stepD_sound hT h1 hs).ghost t1
   ·exact hs.elim
  ·rename_i c hcal
   split at hs
   ·rename_i hargs
    split at hs
    ·rename_i hx
     exact delN_sound hT h hcal hargs hx hs
    ·exact base hs
   ·exact base hs
  ·exact base hs
 ·exact base hs
end
end Go.Proofs.YtindehjiaknokaaGreatDoor
