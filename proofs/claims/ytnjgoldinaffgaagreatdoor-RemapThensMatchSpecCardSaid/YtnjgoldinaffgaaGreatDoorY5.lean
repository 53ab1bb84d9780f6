/- Every operation as one function on data, and why the machine does the same. The rule with one operation among the others that writes what is there. -/
import Derived.Test.YtnjgoldinaffgaaGreatDoorY2
import Derived.Lib.AppendStr
namespace Go.Proofs.YtnjgoldinaffgaaGreatDoor
set_option linter.unusedSimpArgs false
set_option linter.unusedVariables false
open Go.RowKit
variable {Q:Exit→Act→World→Prop} {rows:List (List D)} {t:TypeId} {t':Nat} {w:World} {x y:Operand}
@[reducible] def holds:Option Prop→Prop
 |none=>True
 |some s=>s
structure SideD (s q:Prop):Prop where
 bV:s
 rest:q
def jN:Option Prop→Prop→Prop
 |none,q=>q
 |some s,q=>SideD s q
theorem hY {s:Option Prop} {q:Prop}:jN s q↔holds s∧q:=by
 cases s with
 |none=>exact ⟨fun h=>⟨trivial,h⟩,fun h=>h.2⟩
 |some s=>exact ⟨fun h=>⟨h.1,h.2⟩,fun h=>⟨h.1,h.2⟩⟩
structure NumE (F:Int→Prop):Prop where
 h:∃ r,F r
structure IdxE (F:List D→Prop):Prop where
 h:∃ r,F r
structure CallE (F:D→Prop):Prop where
 h:∃ d,F d
theorem NumE.go {F:Int→Prop} {r:Int} (h:F r):NumE F:=⟨r,h⟩
theorem IdxE.go {F:List D→Prop} {r:List D} (h:F r):IdxE F:=⟨r,h⟩
structure LookE (F:D→Bool→Prop):Prop where
 h:∃ r o,F r o
theorem LookE.go {F:D→Bool→Prop} {r:D} {o:Bool} (h:F r o):LookE F:=⟨r,o,h⟩
structure TextE (F:List UInt8→Prop):Prop where
 h:∃ s,F s
theorem TextE.go {F:List UInt8→Prop} {s:List UInt8} (h:F s):TextE F:=⟨s,h⟩
theorem CallE.go {F:D→Prop} {d:D} (h:F d):CallE F:=⟨d,h⟩
def zPD (op:BinOp) (k:IntKind) (p q:Int) (K:Option Prop→D→Prop):Prop:=
 match op with
 |.add=>NumE fun r=>K (some (k.wrap (p+q)=r)) (.int k r)
 |.sub=>NumE fun r=>K (some (k.wrap (p - q)=r)) (.int k r)
 |.mul=>NumE fun r=>K (some (k.wrap (p * q)=r)) (.int k r)
 |.quo=>NumE fun r=>K (some (q ≠ 0∧k.wrap (p.tdiv q)=r)) (.int k r)
 |.rem=>NumE fun r=>K (some (q ≠ 0∧p.tmod q=r)) (.int k r)
 |.eql=>K none (.bool (p == q))
 |.neq=>K none (.bool (!(p == q)))
 |.lss=>K none (.bool (decide (p < q)))
 |.leq=>K none (.bool (decide (p≤q)))
 |.gtr=>K none (.bool (decide (q < p)))
 |.geq=>K none (.bool (decide (q≤p)))
 |.and=>NumE fun r=>K (some (zBw .and k p q=r)) (.int k r)
 |.or=>NumE fun r=>K (some (zBw .or k p q=r)) (.int k r)
 |.xor=>NumE fun r=>K (some (zBw .xor k p q=r)) (.int k r)
 |.andNot=>NumE fun r=>K (some (zBw .andNot k p q=r)) (.int k r)
 |_=>False
def zPa (op:BinOp) (s u:List UInt8) (K:Option Prop→D→Prop):Prop:=
 match op with
 |.add=>K (some (s.length+u.length≤9223372036854775807)) (.str (s++u))
 |.eql=>K none (.bool (s == u))
 |.neq=>K none (.bool (!(s == u)))
 |.lss=>K none (.bool (Op.bytesLess s u))
 |.leq=>K none (.bool (Op.bytesLess s u || s == u))
 |.gtr=>K none (.bool (!(Op.bytesLess s u || s == u)))
 |.geq=>K none (.bool (!Op.bytesLess s u))
 |_=>False
def zN4 (op:BinOp) (ti:Option TI) (x y:D) (K:Option Prop→D→Prop):Prop:=
 match x,y with
 |.int k p,.int k' q=>match op with
  |.shr=>NumE fun r=>K (some (0≤q∧q≤k.bits∧p / 2 ^ q.toNat=r)) (.int k r)
  |.shl=>NumE fun r=>K (some (0≤q∧q≤k.bits∧k.wrap (p * 2 ^ q.toNat)=r)) (.int k r)
  |op=>match zAM k k' with
   |true=>zPD op k p q K
   |false=>False
 |.str s,.str u=>zPa op s u K
 |.bool b,.bool c=>match ti with
  |some .bool=>match op with
   |.eql=>K none (.bool (b == c))
   |.neq=>K none (.bool (!(b == c)))
   |_=>False
  |_=>False
 |.agg xs,.agg ys=>match ti with
  |some (.st _ _ (some ks))=>match zAq xs ys with
   |some b=>match op with
    |.eql=>K (some (vV ks xs ys)) (.bool b)
    |.neq=>K (some (vV ks xs ys)) (.bool (!b))
    |_=>False
   |none=>False
  |some (.st 2 [] none)=>match xs,ys with
   |[.str a,.str b],[.str c,.str d]=>match op with
    |.eql=>K none (.bool (a == c && b == d))
    |.neq=>K none (.bool (!(a == c && b == d)))
    |_=>False
   |_,_=>False
  |_=>False
 |.sl _ _ rows,.nil=>match ti with
  |some (.sl _ _ _ _)=>match op with
   |.eql=>K (some (rows ≠ [])) (.bool false)
   |.neq=>K (some (rows ≠ [])) (.bool true)
   |_=>False
  |_=>False
 |.nil,.nil=>match ti with
  |some (.sl _ _ _ _)=>match op with
   |.eql=>K none (.bool true)
   |.neq=>K none (.bool false)
   |_=>False
  |_=>False
 |_,_=>False
def zNU (op:BinOp) (ti:Option TI) (x:D) (K:Option Prop→D→Prop):Prop:=
 match ti with
 |some .ifc=>match x with
  |.pv .nilIface=>match op with
   |.eql=>K none (.bool true)
   |.neq=>K none (.bool false)
   |_=>False
  |_=>False
 |_=>False
def zHG (ρ:Operand→D) (dflt:Int):Option Operand→Option Int
 |none=>some dflt
 |some o=>match ρ o with
  |.int _ n=>some n
  |_=>none
theorem wX {ρ:Operand→D} {dflt n:Int}:∀ {x:Option Operand},zHG ρ dflt x=some n→tL ρ x dflt n
 |none,h=>by cases h;rfl
 |some o,h=>by
  simp only [zHG] at h
  split at h
  ·rename_i k m hk
   cases h
   exact ⟨k,hk⟩
  ·cases h
def zKH (P:Program) (T:Nat→Option TI) (ρ:Operand→D) (c:Call) (K:Option Prop→D→Prop):Prop:=
 match c.callee with
 |.value (.func f)=>CallE fun d=>K (some (zAc P f (c.args.toList.map ρ) d)) d
 |.value (.tmp t)=>match ρ (.tmp t) with
  |.fn f cs=>CallE fun d=>K (some (zAc P f (c.args.toList.map ρ++cs) d)) d
  |_=>False
 |.builtin .len=>match c.args.toList,c.argTypes.toList with
  |[x],[t]=>match T t,ρ x with
   |some .str,.str s=>K none (.int .i64 s.length)
   |some (.sl _ _ _ _),.sl _ _ rows=>K none (.int .i64 rows.length)
   |some (.sl _ _ _ _),.nil=>K none (.int .i64 0)
   |some (.mp _ _ _ _),.mp _ es=>K none (.int .i64 es.length)
   |some (.mp _ _ _ _),.fmp _ es=>K none (.int .i64 es.length)
   |_,_=>False
  |_,_=>False
 |.builtin .max=>match c.args.toList with
  |[x,y]=>match ρ x,ρ y with
   |.int k p,.int k' q=>match zAM k k' with
    |true=>K none (.int k (max p q))
    |false=>False
   |_,_=>False
  |_=>False
 |.builtin .min=>match c.args.toList with
  |[x,y]=>match ρ x,ρ y with
   |.int k p,.int k' q=>match zAM k k' with
    |true=>K none (.int k (min p q))
    |false=>False
   |_,_=>False
  |_=>False
 |_=>False
def opD (P:Program) (T:Nat→Option TI) (Z:Nat→Option (List Value)) (ρ:Operand→D) (o:Op) (K:Option Prop→D→Prop):Prop:=
 match o with
 |.move x | .assign x=>match (ρ x).plain with
  |true=>K none (ρ x)
  |false=>False
 |.nilCheck x=>match ρ x with
  |.ptr cs=>K none (.ptr cs)
  |.ref t o=>K none (.ref t o)
  |_=>False
 |.extract x i=>match ρ x with
  |.tup ds=>match ds[i]? with
   |some d=>match d.oneA with
    |true=>K none d
    |false=>False
   |none=>False
  |_=>False
 |.unOp .not _ x=>match ρ x with
  |.bool b=>K none (.bool (!b))
  |_=>False
 |.unOp .neg _ x=>match ρ x with
  |.int k p=>NumE fun r=>K (some (k.wrap (0 - p)=r)) (.int k r)
  |_=>False
 |.binOp op t x y _=>match y with
  |.const .nilIface=>zNU op (T t) (ρ x) K
  |_=>zN4 op (T t) (ρ x) (ρ y) K
 |.convert s t x=>match T s,T t,ρ x with
  |some (.int _),some (.int k),.int _ p=>NumE fun r=>K (some (k.wrap p=r)) (.int k r)
  |some (.int _),some .str,.int _ p=>K none (.str (Utf8.encode p).data.toList)
  |some .str,some .str,.str p=>K none (.str p)
  |some .str,some (.sl e _ _ _),.str p=>match T e with
   |some (.int .u8)=>K (some (p.length≤1000000000)) (.sl 0 1 (p.map bR))
   |_=>False
  |some (.sl e _ _ _),some .str,.sl _ sz rows=>match T e,Nat.beq sz 1 with
   |some (.int .u8),true=>TextE fun q=>K (some (rows=q.map bR)) (.str q)
   |_,_=>False
  |some (.sl e _ _ _),some .str,.nil=>match T e with
   |some (.int .u8)=>K none (.str [])
   |_=>False
  |_,_,_=>False
 |.field t x i=>match T t,ρ x with
  |some (.st _ fl _),.agg cs=>match fl[i]? with
   |some (off,1,false)=>match cs[off]? with
    |some d=>match d.one with
     |true=>K none d
     |false=>False
    |none=>False
   |some (off,n+1,true)=>match cs.all D.one with
    |true=>K none (.agg ((cs.drop off).take (n+1)))
    |false=>False
   |_=>False
  |_,_=>False
 |.fieldAddr t x i=>match T t with
  |some (.st _ fl _)=>match fl[i]? with
   |some (off,_+1,_)=>match ρ x with
    |.ptr cs=>K none (.ptr (cs.drop off))
    |.ref u o=>K none (.ref u (o+off))
    |_=>False
   |_=>False
  |_=>False
 |.load t x=>match ρ x with
  |.ptr cs=>match T t with
   |some (.st n _ _)=>match Nat.ble n cs.length with
    |true=>K none (.agg (cs.take n))
    |false=>False
   |some _=>match cs with
    |d::_=>K none d
    |[]=>False
   |none=>False
  |_=>False
 |.indexAddr t x y=>match T t,ρ x,ρ y with
  |some (.sl _ sz _ _),.sl m sz' rows,.int _ j=>match Nat.ble m 1 with
   |true=>match Nat.beq sz' sz with
    |true=>IdxE fun r=>K (some (0≤j∧rows[j.toNat]?=some r)) (.ptr r)
    |false=>False
   |false=>False
  |some (.st n [] none),.ptr cs,.int _ j=>K (some (0≤j∧j < n)) (.ptr (cs.drop j.toNat))
  |_,_,_=>False
 |.index t x y=>match T t,ρ x,ρ y with
  |some .str,.str s,.int _ j=>K (some (0≤j∧j < s.length)) (.int .u8 (s.getD j.toNat 0).toNat)
  |some (.st n [] none),.agg cs,.int _ j=>TextE fun s=>K (some (0≤j∧j < n∧cs[j.toNat]?=some (.str s))) (.str s)
  |_,_,_=>False
 |.slice t x lo hi none=>match T t,ρ x with
  |some .str,.str s=>match zHG ρ 0 lo,zHG ρ s.length hi with
   |some l,some h=>K (some (0≤l∧l≤h∧h≤s.length)) (.str ((s.take h.toNat).drop l.toNat))
   |_,_=>False
  |some (.sl _ sz _ _),.sl 0 sz' rows=>match Nat.beq sz' sz with
   |true=>match zHG ρ 0 lo,zHG ρ rows.length hi with
    |some l,some h=>K (some (0≤l∧l≤h∧h≤rows.length)) (.sl 0 sz ((rows.take h.toNat).drop l.toNat))
    |_,_=>False
   |false=>False
  |_,_=>False
 |.box _ x=>match (ρ x).cellsOf with
  |some cs=>K none (.ptr cs)
  |none=>False
 |.build t parts=>match T t,Z t with
  |some (.st _ fl _),some zc=>match zc.all Value.oneCell' with
   |true=>match lA (fl.map fun x=>(x.1,x.2.1)) (cX zc) (parts.toList.map fun x=>(x.1,(ρ x.2).cellsOf)) with
    |some cs=>K none (.agg cs)
    |none=>False
   |false=>False
  |_,_=>False
 |.buildSlice t m parts=>match T t with
  |some (.sl _ sz _ _)=>match zH3 (parts.toList.map fun x=>(ρ x.2).cellsOf) with
   |some rows=>match (parts.toList.map (·.1) == List.range m) && ((rows.all fun r=>r.length == sz) && (Nat.blt 0 sz && Nat.ble (m * sz) 16777216)) with
    |true=>K none (.sl 2 sz rows)
    |false=>False
   |none=>False
  |_=>False
 |.makeSlice t l c=>match T t,ρ l,ρ c with
  |some (.sl _ sz by' zc),.int .i64 q,.int .i64 q2=>match Nat.ble by' 1000 && zc.all Value.oneCell' with
   |true=>K (some (0≤q∧q≤q2∧q2≤1000000)) (.sl 2 sz (List.replicate q.toNat (cX zc)))
   |false=>False
  |_,_,_=>False
 |.call c=>zKH P T ρ c K
 |.makeMap t none=>match T t with
  |some (.mp _ _ kd _)=>K none (.mp kd [])
  |_=>False
 |.lookup t x y ok=>match T t,ρ x,(ρ y).keyV with
  |some (.mp _ _ kd z),.mp kd' es,some kv=>match qT kd kd' && fC kd kv with
   |true=>LookE fun r o=>match ok with
    |true=>K (some (zA7 es kv z=r∧(gA kv es).isSome=o)) (.tup [r,.bool o])
    |false=>K (some (zA7 es kv z=r)) r
   |false=>False
  |_,_,_=>False
 |.makeFunc (.func f) first xs=>match first.toList with
  |[]=>match xs.toList.all fun x=>match ρ x with | .ref _ _=>true|d=>d.one with
   |true=>K none (.fn f (xs.toList.map ρ))
   |false=>False
  |_=>False
 |_=>False
section
variable {P:Program} {T:Nat→Option TI} {Z:Nat→Option (List Value)} {dst:Option Tmp} {ty:TypeId} {pos:String} {after:Array Edge} {guard:Option (Nat × Bool)} {ρ:Operand→D} {K:Option Prop→D→Prop}
def zLS (P:Program) (o:Oper) (ρ:Operand→D) (K:Option Prop→D→Prop):Prop:=∃ s d,K s d∧(holds s→OpOk P o ρ d)
theorem zEy {t':TypeId} {u v:Value} {b:Bool} {K:Act→World→Prop} {a:Act} (hx:a.eval x=u) (hy:a.eval y=v) (he:(eqGuard .eql t x y u v).run P w=.ok () w) (hb:(binOp .eql t u v).run P w=.ok (.bool b) w) (hk:K (a.put dst (.bool b)) w):(Oper.mk dst (.binOp .eql t x y t') ty pos after guard).wp P a w K Q:=
 bL (by simp only [execOp,hx,hy,Sem.run_bind,he,Result.andThen_ok,hb,Sem.run_pure]) hk
theorem xR {t':TypeId} {u v:Value} {b:Bool} {K:Act→World→Prop} {a:Act} (hx:a.eval x=u) (hy:a.eval y=v) (he:(eqGuard .neq t x y u v).run P w=.ok () w) (hb:(binOp .neq t u v).run P w=.ok (.bool b) w) (hk:K (a.put dst (.bool b)) w):(Oper.mk dst (.binOp .neq t x y t') ty pos after guard).wp P a w K Q:=
 bL (by simp only [execOp,hx,hy,Sem.run_bind,he,Result.andThen_ok,hb,Sem.run_pure]) hk
theorem lW {e:TypeId} {A:Option Addr} {l c:Nat} (h:P.underlying t=some (.slice e)):(binOp .eql t (.slice A l c) (.slice none 0 0)).run P w=.ok (.bool A.isNone) w∧(binOp .neq t (.slice A l c) (.slice none 0 0)).run P w=.ok (.bool (!A.isNone)) w:=by
 have h2:(Op.equal t (.slice A l c) (.slice none 0 0)).run P w=.ok A.isNone w:=by
  show (Op.equalIn (9999+1) t _ _).run P w=_
  unfold Op.equalIn
  rw [Sem.run_bind,run_underlying h]
  cases A<;>rfl
 exact ⟨by
  show (do pure (Value.bool (← Op.equal t (.slice A l c) (.slice none 0 0))):Go.Sem Value).run P w=_
  rw [Sem.run_bind,h2]
  rfl,by
  show (do pure (Value.bool (!(← Op.equal t (.slice A l c) (.slice none 0 0)))):Go.Sem Value).run P w=_
  rw [Sem.run_bind,h2]
  rfl⟩
theorem xO (h:∃ ms,P.underlying t=some (.interface ms)):(binOp .eql t .nilIface .nilIface).run P w=.ok (.bool true) w∧(binOp .neq t .nilIface .nilIface).run P w=.ok (.bool false) w:=by
 obtain ⟨ms,h⟩:=h
 have h2:(Op.equal t .nilIface .nilIface).run P w=.ok true w:=by
  show (Op.equalIn (9999+1) t _ _).run P w=_
  unfold Op.equalIn
  rw [Sem.run_bind,run_underlying h]
  rfl
 exact ⟨by
  show (do pure (Value.bool (← Op.equal t .nilIface .nilIface)):Go.Sem Value).run P w=_
  rw [Sem.run_bind,h2]
  rfl,by
  show (do pure (Value.bool (!(← Op.equal t .nilIface .nilIface))):Go.Sem Value).run P w=_
  rw [Sem.run_bind,h2]
  rfl⟩
theorem kU {op:BinOp} {A:Option Addr} {l c:Nat}:(eqGuard op t x y (.slice A l c) (.slice none 0 0)).run P w=.ok () w:=by
 unfold eqGuard
 cases op<;>rfl
theorem tA {op:BinOp} :(eqGuard op t x (.const .nilIface) .nilIface .nilIface).run P w=.ok () w:=by
 unfold eqGuard
 cases op<;>first|rfl|(cases x<;>rfl)
theorem zD9 {S:Sig} {q:Place} {v:Value} {m sz:Nat} (h:Rep S w q v (.sl m sz rows)) (hn:rows ≠ []):∃ A l c,v=.slice (some A) l c:=by
 rcases h.source with ⟨A,_,h0⟩|⟨b,o,c,news,hv,_⟩
 ·exact absurd h0 hn
 ·exact ⟨_,_,_,hv⟩
theorem zIz {t e m sz:Nat} [i:TSlice P t e] (hx:ρ x=.sl m sz rows) (hy:ρ y=.nil) (hn:rows ≠ []):OpOk P (Oper.mk dst (.binOp .eql t x y t') ty pos after guard) ρ (.bool false):=
 .still fun S w a _ hr=>⟨_,.fz (.bool _),fun K Q hk=>by
  obtain ⟨q,h⟩:=lP hr hx (by simp [Op.operands])
  obtain ⟨q',h'⟩:=lP hr hy (by simp [Op.operands])
  obtain ⟨A,l,c,hv⟩:=zD9 h hn
  exact zEy hv h'.nil_inv kU (lW i.h).1 hk⟩
theorem zEI {t e m sz:Nat} [i:TSlice P t e] (hx:ρ x=.sl m sz rows) (hy:ρ y=.nil) (hn:rows ≠ []):OpOk P (Oper.mk dst (.binOp .neq t x y t') ty pos after guard) ρ (.bool true):=
 .still fun S w a _ hr=>⟨_,.fz (.bool _),fun K Q hk=>by
  obtain ⟨q,h⟩:=lP hr hx (by simp [Op.operands])
  obtain ⟨q',h'⟩:=lP hr hy (by simp [Op.operands])
  obtain ⟨A,l,c,hv⟩:=zD9 h hn
  exact xR hv h'.nil_inv kU (lW i.h).2 hk⟩
theorem zGS {t e:Nat} [i:TSlice P t e] (hx:ρ x=.nil) (hy:ρ y=.nil):OpOk P (Oper.mk dst (.binOp .eql t x y t') ty pos after guard) ρ (.bool true):=
 .still fun S w a _ hr=>⟨_,.fz (.bool _),fun K Q hk=>by
  obtain ⟨q,h⟩:=lP hr hx (by simp [Op.operands])
  obtain ⟨q',h'⟩:=lP hr hy (by simp [Op.operands])
  exact zEy h.nil_inv h'.nil_inv kU (lW i.h).1 hk⟩
theorem zCT {t e:Nat} [i:TSlice P t e] (hx:ρ x=.nil) (hy:ρ y=.nil):OpOk P (Oper.mk dst (.binOp .neq t x y t') ty pos after guard) ρ (.bool false):=
 .still fun S w a _ hr=>⟨_,.fz (.bool _),fun K Q hk=>by
  obtain ⟨q,h⟩:=lP hr hx (by simp [Op.operands])
  obtain ⟨q',h'⟩:=lP hr hy (by simp [Op.operands])
  exact xR h.nil_inv h'.nil_inv kU (lW i.h).2 hk⟩
theorem zNy {t:Nat} [i:TIfc P t] (hx:ρ x=.pv .nilIface):OpOk P (Oper.mk dst (.binOp .eql t x (.const .nilIface) t') ty pos after guard) ρ (.bool true):=
 .still fun S w a _ hr=>⟨_,.fz (.bool _),fun K Q hk=>by
  obtain ⟨q,h⟩:=lP hr hx (by simp [Op.operands])
  exact zEy h.pv_inv rfl tA (xO i.h).1 hk⟩
theorem zID {t:Nat} [i:TIfc P t] (hx:ρ x=.pv .nilIface):OpOk P (Oper.mk dst (.binOp .neq t x (.const .nilIface) t') ty pos after guard) ρ (.bool false):=
 .still fun S w a _ hr=>⟨_,.fz (.bool _),fun K Q hk=>by
  obtain ⟨q,h⟩:=lP hr hx (by simp [Op.operands])
  exact xR h.pv_inv rfl tA (xO i.h).2 hk⟩
theorem zFm (hT:TOk P T Z) {op:BinOp} {t':TypeId} (h:zN4 op (T t) (ρ x) (ρ y) K):zLS P (Oper.mk dst (.binOp op t x y t') ty pos after guard) ρ K:=by
 unfold zN4 at h
 split at h
 ·rename_i k p k' q hx hy
  split at h
  ·obtain ⟨r,h⟩:=h.h;exact ⟨_,_,h,fun ⟨h0,h1,hr⟩=>zNm hx hy h0 h1 hr⟩
  ·obtain ⟨r,h⟩:=h.h;exact ⟨_,_,h,fun ⟨h0,h1,hr⟩=>zNn hx hy h0 h1 hr⟩
  split at h
  ·rename_i hk
   obtain rfl:=jV hk
   unfold zPD at h
   split at h
   ·obtain ⟨r,h⟩:=h.h;exact ⟨_,_,h,fun hr=>zNE hx hy hr⟩
   ·obtain ⟨r,h⟩:=h.h;exact ⟨_,_,h,fun hr=>zNl hx hy hr⟩
   ·obtain ⟨r,h⟩:=h.h;exact ⟨_,_,h,fun hr=>zNt hx hy hr⟩
   ·obtain ⟨r,h⟩:=h.h;exact ⟨_,_,h,fun ⟨h0,hr⟩=>zNp hx hy h0 hr⟩
   ·obtain ⟨r,h⟩:=h.h;exact ⟨_,_,h,fun ⟨h0,hr⟩=>zNo hx hy h0 hr⟩
   ·exact ⟨_,_,h,fun _=>zNB hx hy⟩
   ·exact ⟨_,_,h,fun _=>zNr hx hy⟩
   ·exact ⟨_,_,h,fun _=>zNw hx hy⟩
   ·exact ⟨_,_,h,fun _=>zNx hx hy⟩
   ·exact ⟨_,_,h,fun _=>zNz hx hy⟩
   ·exact ⟨_,_,h,fun _=>zNA hx hy⟩
   ·obtain ⟨r,h⟩:=h.h;exact ⟨_,_,h,fun hr=>wS rfl hx hy hr⟩
   ·obtain ⟨r,h⟩:=h.h;exact ⟨_,_,h,fun hr=>wS rfl hx hy hr⟩
   ·obtain ⟨r,h⟩:=h.h;exact ⟨_,_,h,fun hr=>wS rfl hx hy hr⟩
   ·obtain ⟨r,h⟩:=h.h;exact ⟨_,_,h,fun hr=>wS rfl hx hy hr⟩
   ·exact h.elim
  ·exact h.elim
 ·rename_i s u hx hy
  unfold zPa at h
  split at h
  ·exact ⟨_,_,h,fun hl=>zNC hx hy hl⟩
  ·exact ⟨_,_,h,fun _=>zLi hx hy⟩
  ·exact ⟨_,_,h,fun _=>zLd hx hy⟩
  ·exact ⟨_,_,h,fun _=>zLe hx hy⟩
  ·exact ⟨_,_,h,fun _=>zLf hx hy⟩
  ·exact ⟨_,_,h,fun _=>zLg hx hy⟩
  ·exact ⟨_,_,h,fun _=>zLh hx hy⟩
  ·exact h.elim
 ·rename_i b c hx hy
  split at h
  ·rename_i ht
   haveI:=(hT.ty _ _ ht).1
   split at h
   ·exact ⟨_,_,h,fun _=>zG3 hx hy⟩
   ·exact ⟨_,_,h,fun _=>zG2 hx hy⟩
   ·exact h.elim
  ·exact h.elim
 ·rename_i xs ys hx hy
  split at h
  ·rename_i n fl ks ht
   haveI:=(hT.ty _ _ ht).2.2.2.1 ks rfl
   split at h
   ·rename_i b hb
    split at h
    ·exact ⟨_,_,h,fun hf=>zCR hx hy hf hb⟩
    ·exact ⟨_,_,h,fun hf=>zCQ hx hy hf hb⟩
    ·exact h.elim
   ·exact h.elim
  ·rename_i ht
   haveI:=(hT.ty _ _ ht).2.2.2.2 rfl
   split at h
   ·split at h
    ·exact ⟨_,_,h,fun _=>zIH hx hy⟩
    ·exact ⟨_,_,h,fun _=>zIG hx hy⟩
    ·exact h.elim
   ·exact h.elim
  ·exact h.elim
 ·rename_i m sz rows hx hy
  split at h
  ·rename_i ht
   haveI:=(hT.ty _ _ ht).1
   split at h
   ·exact ⟨_,_,h,fun hn=>zIz hx hy hn⟩
   ·exact ⟨_,_,h,fun hn=>zEI hx hy hn⟩
   ·exact h.elim
  ·exact h.elim
 ·rename_i hx hy
  split at h
  ·rename_i ht
   haveI:=(hT.ty _ _ ht).1
   split at h
   ·exact ⟨_,_,h,fun _=>zGS hx hy⟩
   ·exact ⟨_,_,h,fun _=>zCT hx hy⟩
   ·exact h.elim
  ·exact h.elim
 ·exact h.elim
theorem zE0 (hT:TOk P T Z) {op:BinOp} {t':TypeId} (h:zNU op (T t) (ρ x) K):zLS P (Oper.mk dst (.binOp op t x (.const .nilIface) t') ty pos after guard) ρ K:=by
 unfold zNU at h
 split at h
 ·rename_i ht
  haveI:=(hT.ty _ _ ht).1
  split at h
  ·rename_i hx
   split at h
   ·exact ⟨_,_,h,fun _=>zNy hx⟩
   ·exact ⟨_,_,h,fun _=>zID hx⟩
   ·exact h.elim
  ·exact h.elim
 ·exact h.elim
theorem TFact.slice {t e sz by':Nat} {zc:List Value} (h:TFact P t (.sl e sz by' zc)):TSlice P t e:=h.1
theorem TFact.one {t:Nat} {i:TI} (h:TFact P t i) (hn:∀ n fl ks,i ≠ .st n fl ks):TOne P t:=by
 cases i with
 |int k=>exact h.2
 |str=>exact h.2
 |bool=>exact h.2
 |one=>exact h
 |ifc=>exact h.2
 |sl e sz b zc=>exact h.2.2.1
 |mp k e kd z=>exact h.2.2
 |st n fl ks=>exact absurd rfl (hn n fl ks)
theorem zQ6 {α:Type} {a:Array α} (h:a.toList = []):a = #[]:=Array.ext' h
theorem zPP {α:Type} {a:Array α} {x:α} (h:a.toList = [x]):a = #[x]:=Array.ext' h
theorem zD8 {α:Type} {a:Array α} {x y:α} (h:a.toList = [x,y]):a = #[x,y]:=Array.ext' h
theorem zD4 (hT:TOk P T Z) {c:Call} (h:zKH P T ρ c K):zLS P (Oper.mk dst (.call c) ty pos after guard) ρ K:=by
 obtain ⟨callee,args,argTypes⟩:=c
 unfold zKH at h
 simp only at h
 split at h
 ·obtain ⟨d,h⟩:=h.h;exact ⟨_,_,h,fun hg=>zLm hg⟩
 ·split at h
  ·rename_i hf
   obtain ⟨d,h⟩:=h.h;exact ⟨_,_,h,fun hg=>zIE hf hg⟩
  ·exact h.elim
 ·split at h
  ·rename_i h1 h2
   obtain rfl:=zPP h1
   obtain rfl:=zPP h2
   split at h
   ·rename_i ht hx
    haveI:=(hT.ty _ _ ht).1
    exact ⟨_,_,h,fun _=>zLk hx⟩
   ·rename_i ht hx
    haveI:=(hT.ty _ _ ht).1
    exact ⟨_,_,h,fun _=>zIC hx⟩
   ·rename_i ht hx
    haveI:=(hT.ty _ _ ht).1
    exact ⟨_,_,h,fun _=>zGU hx⟩
   ·rename_i ht hx
    haveI:=(hT.ty _ _ ht).1
    exact ⟨_,_,h,fun _=>zGV hx⟩
   ·rename_i ht hx
    haveI:=(hT.ty _ _ ht).1
    exact ⟨_,_,h,fun _=>zGW hx⟩
   ·exact h.elim
  ·exact h.elim
 ·split at h
  ·rename_i h1
   obtain rfl:=zD8 h1
   split at h
   ·rename_i hx hy
    split at h
    ·rename_i hk
     obtain rfl:=jV hk
     exact ⟨_,_,h,fun _=>zNv hx hy⟩
    ·exact h.elim
   ·exact h.elim
  ·exact h.elim
 ·split at h
  ·rename_i h1
   obtain rfl:=zD8 h1
   split at h
   ·rename_i hx hy
    split at h
    ·rename_i hk
     obtain rfl:=jV hk
     exact ⟨_,_,h,fun _=>zNu hx hy⟩
    ·exact h.elim
   ·exact h.elim
  ·exact h.elim
 ·exact h.elim
theorem mA (hT:TOk P T Z) {o:Op} (h:opD P T Z ρ o K):zLS P (Oper.mk dst o ty pos after guard) ρ K:=by
 unfold opD at h
 split at h
 ·split at h
  ·rename_i hp;exact ⟨_,_,h,fun _=>zLj hp⟩
  ·exact h.elim
 ·split at h
  ·rename_i hp;exact ⟨_,_,h,fun _=>zG4 hp⟩
  ·exact h.elim
 ·split at h
  ·rename_i hx;exact ⟨_,_,h,fun _=>zGR hx⟩
  ·rename_i hx;exact ⟨_,_,h,fun _=>zGQ hx⟩
  ·exact h.elim
 ·split at h
  ·rename_i hx
   split at h
   ·rename_i hd
    split at h
    ·rename_i ho;exact ⟨_,_,h,fun _=>zEK hx hd ho⟩
    ·exact h.elim
   ·exact h.elim
  ·exact h.elim
 ·split at h
  ·rename_i hx;exact ⟨_,_,h,fun _=>zNq hx⟩
  ·exact h.elim
 ·split at h
  ·rename_i hx;obtain ⟨r,h⟩:=h.h;exact ⟨_,_,h,fun hr=>zNs hx hr⟩
  ·exact h.elim
 ·split at h
  ·exact zE0 hT h
  ·exact zFm hT h
 ·split at h
  ·rename_i hs ht hx
   obtain ⟨r,h⟩:=h.h
   haveI:=(hT.ty _ _ ht).1
   exact ⟨_,_,h,fun hr=>zLl ⟨_,(hT.ty _ _ hs).1.h⟩ hx hr⟩
  ·rename_i hs ht hx
   haveI:=(hT.ty _ _ hs).1
   haveI:=(hT.ty _ _ ht).1
   exact ⟨_,_,h,fun _=>zGX hx⟩
  ·rename_i hs ht hx
   haveI:=(hT.ty _ _ hs).1
   haveI:=(hT.ty _ _ ht).1
   exact ⟨_,_,h,fun _=>zGN hx⟩
  ·rename_i hs ht hx
   haveI:=(hT.ty _ _ hs).1
   haveI:=(hT.ty _ _ ht).1
   split at h
   ·rename_i he
    haveI:=(hT.ty _ _ he).1
    exact ⟨_,_,h,fun hl=>zCS hx hl⟩
   ·exact h.elim
  ·rename_i hs ht hx
   haveI:=(hT.ty _ _ hs).1
   haveI:=(hT.ty _ _ ht).1
   split at h
   ·rename_i he hz
    haveI:=(hT.ty _ _ he).1
    obtain rfl:=Nat.eq_of_beq_eq_true hz
    obtain ⟨q,h⟩:=h.h
    exact ⟨_,_,h,fun hq=>zCX (by rw [hx,hq])⟩
   ·exact h.elim
  ·rename_i hs ht hx
   haveI:=(hT.ty _ _ hs).1
   haveI:=(hT.ty _ _ ht).1
   split at h
   ·rename_i he
    haveI:=(hT.ty _ _ he).1
    exact ⟨_,_,h,fun _=>zGP hx⟩
   ·exact h.elim
  ·exact h.elim
 ·split at h
  ·rename_i ht hx
   split at h
   ·rename_i hf
    haveI:=(hT.ty _ _ ht).2.1 _ _ _ _ hf
    split at h
    ·rename_i hd
     split at h
     ·rename_i ho;exact ⟨_,_,h,fun _=>zG1 hx hd ho⟩
     ·exact h.elim
    ·exact h.elim
   ·rename_i hf
    haveI:=(hT.ty _ _ ht).2.1 _ _ _ _ hf
    split at h
    ·rename_i ho;exact ⟨_,_,h,fun _=>zG0 hx ho⟩
    ·exact h.elim
   ·exact h.elim
  ·exact h.elim
 ·split at h
  ·rename_i ht
   split at h
   ·rename_i hf
    haveI:=(hT.ty _ _ ht).2.1 _ _ _ _ hf
    split at h
    ·rename_i hx;exact ⟨_,_,h,fun _=>zBO hx⟩
    ·rename_i hx;exact ⟨_,_,h,fun _=>zCW hx⟩
    ·exact h.elim
   ·exact h.elim
  ·exact h.elim
 ·split at h
  ·rename_i hx
   split at h
   ·rename_i ht
    haveI:=(hT.ty _ _ ht).1
    split at h
    ·rename_i hn;exact ⟨_,_,h,fun _=>zIA hx (Nat.le_of_ble_eq_true hn)⟩
    ·exact h.elim
   ·rename_i i hi ht
    haveI:=(hT.ty _ _ ht).one (fun n fl ks e=>hi n fl ks e)
    split at h
    ·exact ⟨_,_,h,fun _=>zIB hx⟩
    ·exact h.elim
   ·exact h.elim
  ·exact h.elim
 ·split at h
  ·rename_i ht hx hy
   haveI:=(hT.ty _ _ ht).1
   haveI:=(hT.ty _ _ ht).2.1
   split at h
   ·rename_i hm
    split at h
    ·rename_i he
     obtain rfl:=Nat.eq_of_beq_eq_true he
     obtain ⟨r,h⟩:=h.h
     exact ⟨_,_,h,fun ⟨h0,hr⟩=>zBN hx (by have:=Nat.le_of_ble_eq_true hm;omega) hy h0 hr⟩
    ·exact h.elim
   ·exact h.elim
  ·rename_i ht hx hy
   haveI:=(hT.ty _ _ ht).2.2.2.2 rfl
   exact ⟨_,_,h,fun ⟨h0,h1⟩=>zAn hx hy h0 h1⟩
  ·exact h.elim
 ·split at h
  ·rename_i ht hx hy
   haveI:=(hT.ty _ _ ht).1
   exact ⟨_,_,h,fun ⟨h0,h1⟩=>zGY hx hy h0 h1⟩
  ·rename_i ht hx hy
   haveI:=(hT.ty _ _ ht).2.2.2.2 rfl
   obtain ⟨s,h⟩:=h.h
   exact ⟨_,_,h,fun ⟨h0,h1,h2⟩=>zGZ hx hy h0 h1 h2 rfl⟩
  ·exact h.elim
 ·split at h
  ·rename_i ht hx
   haveI:=(hT.ty _ _ ht).1
   split at h
   ·rename_i hl hh
    exact ⟨_,_,h,fun ⟨h0,h1,h2⟩=>zGO hx (wX hl) (wX hh) h0 h1 h2⟩
   ·exact h.elim
  ·rename_i ht hx
   haveI:=(hT.ty _ _ ht).1
   haveI:=(hT.ty _ _ ht).2.1
   split at h
   ·rename_i he
    obtain rfl:=Nat.eq_of_beq_eq_true he
    split at h
    ·rename_i hl hh
     exact ⟨_,_,h,fun ⟨h0,h1,h2⟩=>zEH hx (wX hl) (wX hh) h0 h1 h2⟩
    ·exact h.elim
   ·exact h.elim
  ·exact h.elim
 ·split at h
  ·rename_i hc;exact ⟨_,_,h,fun _=>zND hc⟩
  ·exact h.elim
 ·split at h
  ·rename_i ht hz
   haveI:=(hT.ty _ _ ht).2.2.1
   haveI:=hT.zer _ _ hz
   split at h
   ·rename_i h1
    split at h
    ·rename_i hf;exact ⟨_,_,h,fun _=>zIF h1 hf⟩
    ·exact h.elim
   ·exact h.elim
  ·exact h.elim
 ·split at h
  ·rename_i ht
   haveI:=(hT.ty _ _ ht).1
   haveI:=(hT.ty _ _ ht).2.1
   haveI:=(hT.ty _ _ ht).2.2.2.2
   split at h
   ·rename_i hr
    split at h
    ·rename_i hb
     simp only [Bool.and_eq_true,beq_iff_eq] at hb
     exact ⟨_,_,h,fun _=>zAo hb.1 hr hb.2.1 (by simp only [Bool.and_eq_true,decide_eq_true_eq];exact ⟨by have:=hb.2.2.1;simp [Nat.blt] at this;omega,Nat.le_of_ble_eq_true hb.2.2.2⟩)⟩
    ·exact h.elim
   ·exact h.elim
  ·exact h.elim
 ·split at h
  ·rename_i ht hl hc
   haveI:=(hT.ty _ _ ht).1
   haveI:=(hT.ty _ _ ht).2.2.2.1
   haveI:=(hT.ty _ _ ht).2.2.2.2
   split at h
   ·rename_i hb
    simp only [Bool.and_eq_true] at hb
    exact ⟨_,_,h,fun ⟨h0,h2,h1⟩=>sQ hb.2 hl hc h0 h2 h1 (Nat.le_of_ble_eq_true hb.1)⟩
   ·exact h.elim
  ·exact h.elim
 ·exact zD4 hT h
 ·split at h
  ·rename_i ht
   haveI:=(hT.ty _ _ ht).1
   exact ⟨_,_,h,fun _=>zEJ⟩
  ·exact h.elim
 ·split at h
  ·rename_i ht hx hy
   haveI:=(hT.ty _ _ ht).1
   haveI:=(hT.ty _ _ ht).2.1
   split at h
   ·rename_i hb
    simp only [Bool.and_eq_true] at hb
    obtain rfl:=pS hb.1
    obtain ⟨r,o,h⟩:=h.h
    split at h
    ·exact ⟨_,_,h,fun hs=>zCV hx hy hb.2 hs⟩
    ·exact ⟨_,_,h,fun hs=>zGT hx hy hb.2 hs⟩
   ·exact h.elim
  ·exact h.elim
 ·split at h
  ·rename_i hfirst
   obtain rfl:=zQ6 hfirst
   split at h
   ·rename_i ha
    exact ⟨_,_,h,fun _=>zCU ha⟩
   ·exact h.elim
  ·exact h.elim
 ·exact h.elim
end
end Go.Proofs.YtnjgoldinaffgaaGreatDoor
namespace Go.Proofs.YtnjgoldinaffgaaGreatDoor
set_option linter.unusedSimpArgs false
set_option linter.unusedVariables false
open Go.RowKit
variable {a:Act} {b0 l0 u:Nat} {es:List (Value × Value)} {q0:Place} {w w':World}
structure BT (S:Sig) (w:World) (S':Sig) (w':World) (b0:Nat):Prop where
 tr:Trans S w S' w'
 wf:WF S' w'
 loc:S'.loc=S.loc
 heap:∀ b,b < w.heap.size→b ≠ b0→w'.heap[b]?=w.heap[b]?
 own:∀ b,b < w.heap.size→b ≠ b0→S'.own b=S.own b
theorem BT.rep {S S':Sig} {fr:List D} (h:BT S w S' w' b0) (hw:WF S w) (h0:S.own b0=some (q0,l0)) (hq:q0.r=u+2) {d0:D} (hd:fr[u]?=some d0) (hn:d0.isObj=false)
  {i:Nat} {e:D} {v:Value} (hi:i ≠ u) (hr:Rep S w (.slot i) v e) (hf:bM fr e):Rep S' w' (.slot i) v e:=by
 refine hr.trans hw h.tr (by rw [h.loc]) (fun b q l hs hu => ?_) (fun _=>by rw [h.loc]) fun t hm ht => ?_
 ·have hb:b ≠ b0:=fun e=>by
   subst e
   rw [h0] at hs
   cases hs
   have:=hu.1
   simp only [Place.slot] at this
   omega
  exact ⟨h.heap b (hw _ _ hs) hb,by rw [h.own b (hw _ _ hs) hb];exact hs⟩
 ·rw [h.loc]
  refine ⟨rfl,?_⟩
  obtain ⟨cs,hc⟩:=hf t hm
  have hb:S.loc (t+2) ≠ b0:=fun e=>by
   rw [e,h0] at ht
   cases ht
   simp only [Place.slot] at hq
   have:t=u:=by omega
   subst this
   rw [hd] at hc
   cases hc
   cases hn
  rw [h.own _ (hw _ _ ht) hb]
  exact ht
theorem BT.objAt {S S':Sig} {fr fr':List D} (h:BT S w S' w' b0) (hw:WF S w) (h0:S.own b0=some (q0,l0)) (hq:q0.r=u+2) {d0:D} (hd:fr[u]?=some d0) (hn:d0.isObj=false)
  {x:Nat} (hx:ObjAt S fr x) (hf:∃ cs,fr'[x]?=some (.obj cs)):ObjAt S' fr' x∧∀ o y,w.cell? ⟨S.loc (x+2),o,none⟩=some y→w'.cell? ⟨S'.loc (x+2),o,none⟩=some y:=by
 have hb:S.loc (x+2) ≠ b0:=fun e=>by
  have ht:=hx.own
  obtain ⟨cs,hc⟩:=hx.obj
  rw [e,h0] at ht
  cases ht
  simp only [Place.slot] at hq
  have:x=u:=by omega
  subst this
  rw [hd] at hc
  cases hc
  cases hn
 refine ⟨hx.mono (w:=w) (w':=w') hf (by rw [h.loc]) (h.own _ (hw _ _ hx.own) hb),fun o y hy => ?_⟩
 rw [h.loc,World.cell?_of_block (a:=⟨S.loc (x+2),o,none⟩) (w:=w) (h.heap _ (hw _ _ hx.own) hb)]
 exact hy
def bI (u:Nat) (r:D):D→D
 |.al x=>if x=u then r else .al x
 |.es x sz k j=>if x=u then .any else .es x sz k j
 |d=>d
theorem fF {x:Nat} {r r0:D} {fr:List D} (hux:u ≠ x) (h:∃ cs,fr[x]?=some (.obj cs)):∃ cs,((fr.map (bI u r)).set u r0)[x]?=some (.obj cs):=by
 obtain ⟨cs,hc⟩:=h
 exact ⟨cs,by rw [List.getElem?_set_ne hux,List.getElem?_map,hc];rfl⟩
theorem eG {x:Nat} {r0 d0:D} {fr:List D} (hd:fr[u]?=some d0) (hn:d0.isObj=false) (h:∃ cs,fr[x]?=some (.obj cs)):u ≠ x∧∃ cs,(fr.set u r0)[x]?=some (.obj cs):=by
 obtain ⟨cs,hc⟩:=h
 have hux:u ≠ x:=fun e=>by subst e;rw [hd] at hc;cases hc;cases hn
 exact ⟨hux,cs,by rw [List.getElem?_set_ne hux];exact hc⟩
theorem FR.rebuild {S S':Sig} {fr:List D} (h:FR S w a fr) (hb:BT S w S' w' b0) (h0:S.own b0=some (q0,l0)) (hq:q0.r=u+2) {d0:D} (hd:fr[u]?=some d0) (hn:d0.isObj=false)
  {r r0:D} (hr:∀ v p,a.tmps[u]?=some v→Rep S' w' p v r) (hm:∀ t,¬ Men t r) (hr0:∀ v,a.tmps[u]?=some v→Rep S' w' (.slot u) v r0) (hm0:∀ t,¬ Men t r0):FR S' w' a ((fr.map (bI u r)).set u r0):=by
 have hlt:u < fr.length:=(bC hd)
 have hrk:∀ e,bM fr e→bM ((fr.map (bI u r)).set u r0) e:=fun e he x hx=>by
  obtain ⟨cs,hc⟩:=he x hx
  have hxu:u ≠ x:=fun e=>by subst e;rw [hd] at hc;cases hc;cases hn
  exact ⟨cs,by rw [List.getElem?_set_ne hxu,List.getElem?_map,hc];rfl⟩
 refine ⟨hb.wf,by simp [h.size],h.defers,fun i e v hi hv => ?_⟩
 by_cases hiu:i=u
 ·subst hiu
  rw [List.getElem?_set_self (by simpa using hlt)] at hi
  cases hi
  exact SlotRep.of (hr0 v hv) fun t ht=>(hm0 t ht).elim
 ·rw [List.getElem?_set_ne (Ne.symm hiu),List.getElem?_map] at hi
  cases hfi:fr[i]? with
  |none=>rw [hfi] at hi;cases hi
  |some e0=>
   rw [hfi] at hi
   cases hi
   have hs:=h.slot i e0 v hfi hv
   cases e0 with
   |al x=>
    obtain ⟨h1,d',h2,h3,h4⟩:=hs
    by_cases hxu:x=u
    ·subst hxu
     simp only [bI,if_true]
     exact SlotRep.of (hr v _ h1) fun t ht=>(hm t ht).elim
    ·simp only [bI,if_neg hxu]
     refine ⟨h1,d',?_,h3,h4⟩
     rw [List.getElem?_set_ne (Ne.symm hxu),List.getElem?_map,h2]
     cases d'<;>first|rfl|cases h3
   |alc x o=>
    obtain ⟨k1,k2⟩:=hb.objAt h.wf h0 hq hd hn hs.1 (fF (eG (r0:=r0) hd hn hs.1.obj).1 hs.1.obj)
    exact ⟨k1,k2 _ _ hs.2⟩
   |el x o sz k j=>
    obtain ⟨g1,s,g2,g3⟩:=hs
    obtain ⟨k1,k2⟩:=hb.objAt h.wf h0 hq hd hn g1 (fF (eG (r0:=r0) hd hn g1.obj).1 g1.obj)
    exact ⟨k1,s,k2 _ _ g2,g3⟩
   |es x sz k j=>
    obtain ⟨⟨d',h2,h3,h4⟩,s,h1,h5⟩:=hs
    by_cases hxu:x=u
    ·subst hxu
     simp only [bI,if_true]
     exact SlotRep.of (.fz (.any _)) fun t ht=>by cases ht
    ·simp only [bI,if_neg hxu]
     refine ⟨⟨d',?_,h3,h4⟩,s,h1,h5⟩
     rw [List.getElem?_set_ne (Ne.symm hxu),List.getElem?_map,h2]
     cases d'<;>first|rfl|cases h3
   |_=>exact ⟨hb.rep h.wf h0 hq hd hn hiu hs.1 hs.2,hrk _ hs.2⟩
theorem FR.reown {S S':Sig} {fr:List D} (h:FR S w a fr) (hb:BT S w S' w' b0) (h0:S.own b0=some (q0,l0)) (hq:q0.r=u+2) {d0:D} (hd:fr[u]?=some d0) (hn:d0.isObj=false)
  {r0:D} (hr0:∀ v,a.tmps[u]?=some v→Rep S' w' (.slot u) v r0) (hm0:∀ t,¬ Men t r0) (ho:r0.owns=true):FR S' w' a (fr.set u r0):=by
 have hlt:u < fr.length:=(bC hd)
 have hrk:∀ e,bM fr e→bM (fr.set u r0) e:=fun e he x hx=>by
  obtain ⟨cs,hc⟩:=he x hx
  have hxu:u ≠ x:=fun e=>by subst e;rw [hd] at hc;cases hc;cases hn
  exact ⟨cs,by rw [List.getElem?_set_ne hxu];exact hc⟩
 refine ⟨hb.wf,by simp [h.size],h.defers,fun i e v hi hv => ?_⟩
 by_cases hiu:i=u
 ·subst hiu
  rw [List.getElem?_set_self hlt] at hi
  cases hi
  exact SlotRep.of (hr0 v hv) fun t ht=>(hm0 t ht).elim
 ·rw [List.getElem?_set_ne (Ne.symm hiu)] at hi
  have hs:=h.slot i e v hi hv
  cases e with
  |al x=>
   obtain ⟨h1,d',h2,h3,h4⟩:=hs
   by_cases hxu:x=u
   ·subst hxu
    exact ⟨h1,r0,by rw [List.getElem?_set_self hlt],ho,h4⟩
   ·exact ⟨h1,d',by rw [List.getElem?_set_ne (Ne.symm hxu)];exact h2,h3,h4⟩
  |alc x o=>
   obtain ⟨k1,k2⟩:=hb.objAt h.wf h0 hq hd hn hs.1 (eG hd hn hs.1.obj).2
   exact ⟨k1,k2 _ _ hs.2⟩
  |el x o sz k j=>
   obtain ⟨g1,s,g2,g3⟩:=hs
   obtain ⟨k1,k2⟩:=hb.objAt h.wf h0 hq hd hn g1 (eG hd hn g1.obj).2
   exact ⟨k1,s,k2 _ _ g2,g3⟩
  |es x sz k j=>
   obtain ⟨⟨d',h2,h3,h4⟩,s,h1,h5⟩:=hs
   by_cases hxu:x=u
   ·subst hxu
    exact ⟨⟨r0,by rw [List.getElem?_set_self hlt],ho,h4⟩,s,h1,h5⟩
   ·exact ⟨⟨d',by rw [List.getElem?_set_ne (Ne.symm hxu)];exact h2,h3,h4⟩,s,h1,h5⟩
  |_=>exact ⟨hb.rep h.wf h0 hq hd hn hiu hs.1 hs.2,hrk _ hs.2⟩
def Sig.set (S:Sig) (b0:Nat) (x:Option (Place × Nat)):Sig:=⟨fun b=>if b=b0 then x else S.own b,S.loc⟩
theorem Sig.set_at (S:Sig) (b0:Nat) (x:Option (Place × Nat)):(S.set b0 x).own b0=x:=if_pos rfl
theorem Sig.set_ne (S:Sig) {b:Nat} (x:Option (Place × Nat)) (h:b ≠ b0):(S.set b0 x).own b=S.own b:=if_neg h
theorem BT.ghost {S:Sig} (hw:WF S w) (h0:S.own b0=some (q0,l0)) (hq:q0.r ≠ 0) {x:Option (Place × Nat)} (hx:∀ y,x=some y→l0≤y.2):BT S w (S.set b0 x) w b0:=by
 refine ⟨⟨rfl,rfl,rfl,Nat.le_refl _,fun b hb hn=>⟨rfl,?_⟩,fun b p l hb hs hd=>⟨rfl,?_⟩,fun b p l hb hs=>⟨Keeps.refl _ _,fun y hy => ?_⟩,rfl⟩,⟨fun b y hy => ?_,hw.gl.sig fun b hn => ?_⟩,rfl,fun _ _ _=>rfl,fun b hb hne=>S.set_ne x hne⟩
 ·rw [S.set_ne x (fun e=>by subst e;rw [h0] at hn;cases hn)];exact hn
 ·rw [S.set_ne x (fun e=>by subst e;rw [h0] at hs;cases hs;exact hq hd)];exact hs
 ·by_cases hbb:b=b0
  ·subst hbb
   rw [S.set_at] at hy
   rw [h0] at hs
   cases hs
   exact hx y hy
  ·rw [S.set_ne x hbb,hs] at hy
   cases hy
   exact Nat.le_refl _
 ·by_cases hbb:b=b0
  ·subst hbb;exact hw _ _ h0
  ·rw [S.set_ne x hbb] at hy;exact hw _ _ hy
 ·rw [S.set_ne x (fun e=>by subst e;rw [h0] at hn;cases hn)];exact hn
theorem OwnAt.fz2 {S:Sig} {p:Place} {b cap m sz:Nat} {rows:List (List D)} {cur:Array Value} {e:TypeId} (h:OwnAt S w p b cap m sz rows cur e) {lim':Nat→Option Nat} (ht:∀ {v:Value} {d:D},Fz S.lim w v d→Fz lim' w' v d) (hh:w'.heap[b]?=w.heap[b]?) (hl':∀ k,k < rows.length * sz→OkC lim' b k):
  Fz lim' w' (.slice (some ⟨b,0,none⟩) rows.length cap) (.sl 0 sz rows):=by
 have hex:∀ k j,∃ v:Value,∀ r d,rows[k]?=some r→r[j]?=some d→cur[k * sz+j]?=some v∧v.oneCell'=true∧Fz S.lim w v d:=fun k j=>by
  cases hr:rows[k]? with
  |none=>exact ⟨undef,fun r d h1=>by cases h1⟩
  |some r=>
   cases hd:r[j]? with
   |none=>exact ⟨undef,fun r' d h1 h2=>by cases h1;rw [hd] at h2;cases h2⟩
   |some d=>
    obtain ⟨v,hv⟩:=h.cells k r j d hr hd
    exact ⟨v,fun r' d' h1 h2=>by cases h1;rw [hd] at h2;cases h2;exact hv⟩
 let cv:Nat→Nat→Value:=fun k j=>Classical.choose (hex k j)
 have hcv:∀ k j r d,rows[k]?=some r→r[j]?=some d→cur[k * sz+j]?=some (cv k j)∧(cv k j).oneCell'=true∧Fz S.lim w (cv k j) d:=fun k j=>Classical.choose_spec (hex k j)
 refine .sl cv h.le h.max (fun k r hr=>h.each r (aK hr)) (fun k r j d hr hd => ?_) (fun k r j d hr hd=>ht (hcv k j r d hr hd).2.2)
 obtain ⟨h1,h2,_⟩:=hcv k j r d hr hd
 have hk:k < rows.length:=(bC hr)
 have hj:j < sz:=by rw [← h.each r (aK hr)];exact (bC hd)
 have hks:(k+1) * sz≤rows.length * sz:=Nat.mul_le_mul_right _ hk
 rw [Nat.add_mul] at hks
 refine ⟨by rw [cell_of_row w' b _ cur e (0,0) (hh.trans h.heap),Nat.zero_add];exact h1,?_,h2⟩
 rw [Nat.zero_add]
 exact hl' _ (by omega)
theorem Rep.sl_inv {S:Sig} {p:Place} {v:Value} {m sz:Nat} {rows:List (List D)} (h:Rep S w p v (.sl (m+1) sz rows)):(v=.slice none 0 0∧rows = [])∨∃ b cap cur e,v=.slice (some ⟨b,0,none⟩) rows.length cap∧OwnAt S w p b cap (m+1) sz rows cur e:=by
 cases h with
 |fz h=>cases h with|slNil=>exact .inl ⟨rfl,rfl⟩
 |own g=>exact .inr ⟨_,_,_,_,rfl,g⟩
theorem bG {m sz t:Nat} {rows:List (List D)}:¬ Men t (.sl m sz rows):=fun h=>by cases h
theorem FR.renil {S:Sig} {fr:List D} (h:FR S w a fr) {d0:D} (hd:fr[u]?=some d0) (hn:d0.isObj=false) (hv:a.tmps[u]?=some (.slice none 0 0)) {r r0:D} (hr:r=.any∨r=.nil∨∃ m sz,r=.sl m sz []) (hr0:r0=.any∨r0=.nil∨∃ m sz,r0=.sl m sz []):
  FR S w a ((fr.map (bI u r)).set u r0):=by
 have hlt:u < fr.length:=(bC hd)
 have fzr:∀ r:D,(r=.any∨r=.nil∨∃ m sz,r=.sl m sz [])→Fz S.lim w (.slice none 0 0) r:=by
  rintro r (rfl|rfl|⟨m,sz,rfl⟩)
  ·exact .any _
  ·exact .nil
  ·exact .slNil m sz
 have hrk:∀ e,bM fr e→bM ((fr.map (bI u r)).set u r0) e:=fun e he x hx=>by
  obtain ⟨cs,hc⟩:=he x hx
  have hxu:u ≠ x:=fun e=>by subst e;rw [hd] at hc;cases hc;cases hn
  exact ⟨cs,by rw [List.getElem?_set_ne hxu,List.getElem?_map,hc];rfl⟩
 refine ⟨h.wf,by simp [h.size],h.defers,fun i e v hi hv' => ?_⟩
 by_cases hiu:i=u
 ·subst hiu
  rw [List.getElem?_set_self (by simpa using hlt)] at hi
  rw [hv] at hv'
  cases hi;cases hv'
  exact SlotRep.of (.fz (fzr _ hr0)) fun t ht=>((fzr _ hr0).men ht).elim
 ·rw [List.getElem?_set_ne (Ne.symm hiu),List.getElem?_map] at hi
  cases hfi:fr[i]? with
  |none=>rw [hfi] at hi;cases hi
  |some e0=>
   rw [hfi] at hi
   cases hi
   have hs:=h.slot i e0 v hfi hv'
   cases e0 with
   |al x=>
    obtain ⟨h1,d',h2,h3,h4⟩:=hs
    by_cases hxu:x=u
    ·subst hxu
     rw [hv] at h1
     cases h1
     simp only [bI,if_true]
     exact SlotRep.of (.fz (fzr _ hr)) fun t ht=>((fzr _ hr).men ht).elim
    ·simp only [bI,if_neg hxu]
     refine ⟨h1,d',?_,h3,h4⟩
     rw [List.getElem?_set_ne (Ne.symm hxu),List.getElem?_map,h2]
     cases d'<;>first|rfl|cases h3
   |alc x o=>exact ⟨hs.1.mono (w:=w) (w':=w) (fF (eG (r0:=.any) hd hn hs.1.obj).1 hs.1.obj) rfl rfl,hs.2⟩
   |el x o sz k j=>exact ⟨hs.1.mono (w:=w) (w':=w) (fF (eG (r0:=.any) hd hn hs.1.obj).1 hs.1.obj) rfl rfl,hs.2⟩
   |es x sz k j=>
    obtain ⟨⟨d',h2,h3,h4⟩,s,h1,h5⟩:=hs
    by_cases hxu:x=u
    ·subst hxu
     simp only [bI,if_true]
     exact SlotRep.of (.fz (.any _)) fun t ht=>by cases ht
    ·simp only [bI,if_neg hxu]
     refine ⟨⟨d',?_,h3,h4⟩,s,h1,h5⟩
     rw [List.getElem?_set_ne (Ne.symm hxu),List.getElem?_map,h2]
     cases d'<;>first|rfl|cases h3
   |_=>exact ⟨hs.1,hrk _ hs.2⟩
theorem FR.forget {S:Sig} {fr:List D} (h:FR S w a fr) {d0:D} (hd:fr[u]?=some d0) (hn:d0.isObj=false):FR S w a ((fr.map (bI u .any)).set u .any):=by
 have hlt:u < fr.length:=(bC hd)
 have hrk:∀ e,bM fr e→bM ((fr.map (bI u .any)).set u .any) e:=fun e he x hx=>by
  obtain ⟨cs,hc⟩:=he x hx
  have hxu:u ≠ x:=fun e=>by subst e;rw [hd] at hc;cases hc;cases hn
  exact ⟨cs,by rw [List.getElem?_set_ne hxu,List.getElem?_map,hc];rfl⟩
 refine ⟨h.wf,by simp [h.size],h.defers,fun i e v hi hv' => ?_⟩
 by_cases hiu:i=u
 ·subst hiu
  rw [List.getElem?_set_self (by simpa using hlt)] at hi
  cases hi
  exact SlotRep.of (.fz (.any _)) fun t ht=>by cases ht
 ·rw [List.getElem?_set_ne (Ne.symm hiu),List.getElem?_map] at hi
  cases hfi:fr[i]? with
  |none=>rw [hfi] at hi;cases hi
  |some e0=>
   rw [hfi] at hi
   cases hi
   have hs:=h.slot i e0 v hfi hv'
   cases e0 with
   |al x=>
    obtain ⟨h1,d',h2,h3,h4⟩:=hs
    by_cases hxu:x=u
    ·simp only [bI,if_pos hxu]
     exact SlotRep.of (.fz (.any _)) fun t ht=>by cases ht
    ·simp only [bI,if_neg hxu]
     refine ⟨h1,d',?_,h3,h4⟩
     rw [List.getElem?_set_ne (Ne.symm hxu),List.getElem?_map,h2]
     cases d'<;>first|rfl|cases h3
   |alc x o=>exact ⟨hs.1.mono (w:=w) (w':=w) (fF (eG (r0:=.any) hd hn hs.1.obj).1 hs.1.obj) rfl rfl,hs.2⟩
   |el x o sz k j=>exact ⟨hs.1.mono (w:=w) (w':=w) (fF (eG (r0:=.any) hd hn hs.1.obj).1 hs.1.obj) rfl rfl,hs.2⟩
   |es x sz k j=>
    obtain ⟨⟨d',h2,h3,h4⟩,s,h1,h5⟩:=hs
    by_cases hxu:x=u
    ·subst hxu
     simp only [bI,if_true]
     exact SlotRep.of (.fz (.any _)) fun t ht=>by cases ht
    ·simp only [bI,if_neg hxu]
     refine ⟨⟨d',?_,h3,h4⟩,s,h1,h5⟩
     rw [List.getElem?_set_ne (Ne.symm hxu),List.getElem?_map,h2]
     cases d'<;>first|rfl|cases h3
   |_=>exact ⟨hs.1,hrk _ hs.2⟩
theorem FR.freeze {S:Sig} {fr:List D} (h:FR S w a fr) {m sz:Nat} {rows:List (List D)} (hd:fr[u]?=some (.sl (m+1) sz rows)):
  ∃ S',Trans S w S' w∧FR S' w a ((fr.map (bI u (.sl 0 sz rows))).set u (.sl 0 sz rows)):=by
 obtain ⟨v,hv,hs⟩:=h.at hd
 rcases hs.1.sl_inv with ⟨rfl,rfl⟩|⟨b,cap,cur,e,rfl,g⟩
 ·exact ⟨S,Trans.refl S w,h.renil hd rfl hv (.inr (.inr ⟨_,_,rfl⟩)) (.inr (.inr ⟨_,_,rfl⟩))⟩
 ·have hb:BT S w (S.set b none) w b:=BT.ghost h.wf g.own (by simp [Place.slot]) (fun y hy=>by cases hy)
  have hf:Fz (S.set b none).lim w (.slice (some ⟨b,0,none⟩) rows.length cap) (.sl 0 sz rows):=g.fz2 (fun h=>h.trans hb.tr) rfl (fun k _ s hs=>by simp [Sig.lim,S.set_at] at hs)
  refine ⟨_,hb.tr,h.rebuild hb g.own rfl hd rfl (fun v' p hv' => ?_) (fun t=>bG) (fun v' hv' => ?_) (fun t=>bG)⟩
  all_goals
   rw [hv] at hv'
   cases hv'
   exact .fz hf
theorem FR.down {S:Sig} {fr:List D} (h:FR S w a fr) {sz:Nat} {rows:List (List D)} (hd:fr[u]?=some (.sl 2 sz rows)):
  ∃ S',Trans S w S' w∧FR S' w a (fr.set u (.sl 1 sz rows)):=by
 obtain ⟨v,hv,hs⟩:=h.at hd
 rcases hs.1.sl_inv with ⟨rfl,rfl⟩|⟨b,cap,cur,e,rfl,g⟩
 ·refine ⟨S,Trans.refl S w,⟨h.wf,by simp [h.size],h.defers,fun i e v hi hv' => ?_⟩⟩
  have hlt:u < fr.length:=(bC hd)
  have hrk:∀ e,bM fr e→bM (fr.set u (.sl 1 sz [])) e:=fun e he x hx=>by
   obtain ⟨cs,hc⟩:=he x hx
   have hxu:u ≠ x:=fun e=>by subst e;rw [hd] at hc;cases hc
   exact ⟨cs,by rw [List.getElem?_set_ne hxu];exact hc⟩
  by_cases hiu:i=u
  ·subst hiu
   rw [List.getElem?_set_self hlt] at hi
   rw [hv] at hv'
   cases hi;cases hv'
   exact SlotRep.of (.fz (.slNil 1 sz)) fun t ht=>(bG ht).elim
  ·rw [List.getElem?_set_ne (Ne.symm hiu)] at hi
   have hs:=h.slot i e v hi hv'
   cases e with
   |al x=>
    obtain ⟨h1,d',h2,h3,h4⟩:=hs
    by_cases hxu:x=u
    ·subst hxu
     exact ⟨h1,_,by rw [List.getElem?_set_self hlt],rfl,h4⟩
    ·exact ⟨h1,d',by rw [List.getElem?_set_ne (Ne.symm hxu)];exact h2,h3,h4⟩
   |alc x o=>exact ⟨hs.1.mono (w:=w) (w':=w) (eG hd rfl hs.1.obj).2 rfl rfl,hs.2⟩
   |el x o sz k j=>exact ⟨hs.1.mono (w:=w) (w':=w) (eG hd rfl hs.1.obj).2 rfl rfl,hs.2⟩
   |es x sz k j=>
    obtain ⟨⟨d',h2,h3,h4⟩,s,h1,h5⟩:=hs
    by_cases hxu:x=u
    ·subst hxu
     exact ⟨⟨_,by rw [List.getElem?_set_self hlt],rfl,h4⟩,s,h1,h5⟩
    ·exact ⟨⟨d',by rw [List.getElem?_set_ne (Ne.symm hxu)];exact h2,h3,h4⟩,s,h1,h5⟩
   |_=>exact ⟨hs.1,hrk _ hs.2⟩
 ·have hown:=g.own
  simp only [if_true] at hown
  have hb:BT S w (S.set b (some (.slot u,rows.length * sz))) w b:=BT.ghost h.wf g.own (by simp [Place.slot]) (fun y hy=>by cases hy;simp)
  refine ⟨_,hb.tr,h.reown hb g.own rfl hd rfl (fun v' hv' => ?_) (fun t=>bG) rfl⟩
  rw [hv] at hv'
  cases hv'
  refine .own ⟨.inl rfl,g.heap,g.le,g.max,g.size,g.each,by rw [S.set_at];rfl,fun k r j d k1 k2 => ?_⟩
  obtain ⟨x,x1,x2,x3⟩:=g.cells k r j d k1 k2
  exact ⟨x,x1,x2,x3.trans hb.tr⟩
theorem FR.take {S:Sig} {fr:List D} (h:FR S w a fr) {m sz:Nat} (p:Place) {rows:List (List D)} (hd:fr[u]?=some (.sl (m+1) sz rows)):
  ∃ S' v,Trans S w S' w∧a.tmps[u]?=some v∧FR S' w a ((fr.map (bI u .any)).set u .any)∧Rep S' w p v (.sl (m+1) sz rows):=by
 obtain ⟨v,hv,hs⟩:=h.at hd
 rcases hs.1.sl_inv with ⟨rfl,rfl⟩|⟨b,cap,cur,e,rfl,g⟩
 ·exact ⟨S,_,Trans.refl S w,hv,h.renil hd rfl hv (.inl rfl) (.inl rfl),.fz (.slNil _ _)⟩
 ·have hb:BT S w (S.set b (some (p,if m+1=2 then 0 else rows.length * sz))) w b:=BT.ghost h.wf g.own (by simp [Place.slot]) (fun y hy=>by cases hy;simp)
  refine ⟨_,_,hb.tr,hv,h.rebuild hb g.own rfl hd rfl (fun v' p hv'=>.fz (.any _)) (fun t ht=>by cases ht) (fun v' hv'=>.fz (.any _)) (fun t ht=>by cases ht),?_⟩
  refine .own ⟨g.mode,g.heap,g.le,g.max,g.size,g.each,by rw [S.set_at],fun k r j d k1 k2 => ?_⟩
  obtain ⟨x,x1,x2,x3⟩:=g.cells k r j d k1 k2
  exact ⟨x,x1,x2,x3.trans hb.tr⟩
theorem FR.takeMp {S:Sig} {fr:List D} (h:FR S w a fr) (p:Place) {kd:KD} (hd:fr[u]?=some (.mp kd es)):
  ∃ S' v,Trans S w S' w∧a.tmps[u]?=some v∧FR S' w a ((fr.map (bI u .any)).set u .any)∧Rep S' w p v (.mp kd es):=by
 obtain ⟨v,hv,hs⟩:=h.at hd
 obtain ⟨b,clock,ents,rfl,hb,hh,he,hk⟩:=hs.1.mp_inv
 have hbt:BT S w (S.set b (some (p,0))) w b:=BT.ghost h.wf hb (by simp [Place.slot]) (fun y hy=>by cases hy;simp)
 exact ⟨_,_,hbt.tr,hv,h.rebuild hbt hb rfl hd rfl (fun v' p hv'=>.fz (.any _)) (fun t ht=>by cases ht) (fun v' hv'=>.fz (.any _)) (fun t ht=>by cases ht),.mp (S.set_at _ _) hh he hk⟩
theorem FR.setMap {S:Sig} {fr:List D} (h:FR S w a fr) {b clock clock':Nat} {kd:KD} {es':List (Value × Value)} {ents ents':Array MapEntry} (hd:fr[u]?=some (.mp kd es)) (hv:a.tmps[u]?=some (.map (some b))) (hb:S.own b=some (.slot u,0)) (hh:w.heap[b]?=some (.map ents clock)) (he:ents'.toList.map pr=es'∧cG ents' clock') (hk:∀ x ∈ es',fC kd x.1=true):
  Trans S w S (World.setMap w b (.map ents' clock'))∧FR S (World.setMap w b (.map ents' clock')) a (fr.set u (.mp kd es')):=by
 obtain ⟨h1,h2⟩:=MapKept.heap_set (o':=.map ents' clock') hh
 have other:∀ c,c ≠ b→(World.setMap w b (.map ents' clock')).heap[c]?=w.heap[c]?:=h2
 have hsz:(World.setMap w b (.map ents' clock')).heap.size=w.heap.size:=by simp [World.setMap]
 have htr:Trans S w S (World.setMap w b (.map ents' clock')):=by
  refine ⟨rfl,rfl,rfl,by rw [hsz];exact Nat.le_refl _,fun k hk hn=>⟨other k (fun e=>by subst e;rw [hb] at hn;cases hn),hn⟩,fun k p l hk hs hp=>⟨other k (fun e=>by subst e;rw [hb] at hs;cases hs;simp [Place.slot] at hp),hs⟩,fun k p l hk hs=>⟨?_,fun x hx=>by rw [hs] at hx;cases hx;exact Nat.le_refl _⟩,rfl⟩
  by_cases hkb:k=b
  ·subst hkb
   intro cur e fz h3
   rw [hh] at h3
   cases h3
  ·exact Keeps.of_eq (other k hkb)
 have hbt:BT S w S (World.setMap w b (.map ents' clock')) b:=⟨htr,h.wf.of htr fun k x hx=>by rw [hsz];exact h.wf k x hx,rfl,fun k _ hne=>other k hne,fun k _ _=>rfl⟩
 refine ⟨htr,h.reown hbt hb rfl hd rfl (fun v' hv' => ?_) (fun t ht=>by cases ht) rfl⟩
 rw [hv] at hv'
 cases hv'
 exact .mp hb h1 he hk
theorem zCF {kd:KD} {k v:Value} (hk:fC kd k=true):∀ {es:List (Value × Value)},(∀ x ∈ es,fC kd x.1=true)→∀ x ∈ mT k v es,fC kd x.1=true
 |[],_,x,hx=>by
  simp only [mT,List.mem_singleton] at hx
  subst hx
  exact hk
 |e::es,h,x,hx=>by
  simp only [mT] at hx
  split at hx
  ·rcases List.mem_cons.1 hx with rfl|hx
   ·exact hk
   ·exact h x (by simp [hx])
  ·rcases List.mem_cons.1 hx with rfl|hx
   ·exact h _ (by simp)
   ·exact zCF hk (fun y hy=>h y (by simp [hy])) x hx
theorem zK {kd:KD} {k:Value}:∀ {es:List (Value × Value)},(∀ x ∈ es,fC kd x.1=true)→∀ x ∈ zL k es,fC kd x.1=true
 |[],_,x,hx=>by cases hx
 |e::es,h,x,hx=>by
  simp only [zL] at hx
  split at hx
  ·exact h x (by simp [hx])
  ·rcases List.mem_cons.1 hx with rfl|hx
   ·exact h _ (by simp)
   ·exact zK (fun y hy=>h y (by simp [hy])) x hx
theorem FR.putOwn' {S:Sig} {fr:List D} (h:FR S w a fr) {t:Nat} {v:Value} {d d0:D} (h0:fr[t]?=some d0) (hn:d0.isObj=false) (hsr:SlotRep S w (a.put (some t) v) ((fr.map (bI t .any)).set t d) t v d):
  FR S w (a.put (some t) v) ((fr.map (bI t .any)).set t d):=by
 have hlt:t < fr.length:=(bC h0)
 have hrk:∀ e,bM fr e→bM ((fr.map (bI t .any)).set t d) e:=fun e he x hx=>by
  obtain ⟨cs,hc⟩:=he x hx
  have hxt:t ≠ x:=fun e=>by subst e;rw [h0] at hc;cases hc;cases hn
  exact ⟨cs,by rw [List.getElem?_set_ne hxt,List.getElem?_map,hc];rfl⟩
 refine ⟨h.wf,by simp [Act.put,h.size],by simp [Act.put,h.defers],fun i e u hi hu => ?_⟩
 by_cases hit:i=t
 ·subst hit
  rw [List.getElem?_set_self (by simpa using hlt)] at hi
  rw [gL (by rw [h.size];exact hlt)] at hu
  cases hi;cases hu
  exact hsr
 ·rw [List.getElem?_set_ne (Ne.symm hit),List.getElem?_map] at hi
  rw [bQ hit] at hu
  cases hfi:fr[i]? with
  |none=>rw [hfi] at hi;cases hi
  |some e0=>
   rw [hfi] at hi
   cases hi
   have hs:=h.slot i e0 u hfi hu
   cases e0 with
   |al x=>
    obtain ⟨h1,d',h2,h3,h4⟩:=hs
    by_cases hxt:x=t
    ·simp only [bI,if_pos hxt]
     exact SlotRep.of (.fz (.any _)) fun t ht=>by cases ht
    ·simp only [bI,if_neg hxt]
     refine ⟨by rw [bQ hxt];exact h1,d',?_,h3,h4⟩
     rw [List.getElem?_set_ne (Ne.symm hxt),List.getElem?_map,h2]
     cases d'<;>first|rfl|cases h3
   |alc x o=>exact ⟨hs.1.mono (w:=w) (w':=w) (fF (eG (r0:=.any) h0 hn hs.1.obj).1 hs.1.obj) rfl rfl,hs.2⟩
   |el x o sz k j=>exact ⟨hs.1.mono (w:=w) (w':=w) (fF (eG (r0:=.any) h0 hn hs.1.obj).1 hs.1.obj) rfl rfl,hs.2⟩
   |es x sz k j=>
    obtain ⟨⟨d',h2,h3,h4⟩,s,h1,h5⟩:=hs
    by_cases hxt:x=t
    ·simp only [bI,if_pos hxt]
     exact SlotRep.of (.fz (.any _)) fun t ht=>by cases ht
    ·simp only [bI,if_neg hxt]
     refine ⟨⟨d',?_,h3,h4⟩,s,by rw [bQ hxt];exact h1,h5⟩
     rw [List.getElem?_set_ne (Ne.symm hxt),List.getElem?_map,h2]
     cases d'<;>first|rfl|cases h3
   |_=>exact ⟨hs.1,hrk _ hs.2⟩
theorem FR.putOwn {S:Sig} {fr:List D} (h:FR S w a fr) {t:Nat} {v:Value} {d d0:D} (h0:fr[t]?=some d0) (hn:d0.isObj=false) (hr:Rep S w (.slot t) v d) (hf:bM fr d):
  FR S w (a.put (some t) v) ((fr.map (bI t .any)).set t d):=
 h.putOwn' h0 hn (SlotRep.of hr fun x hx=>by
  obtain ⟨cs,hc⟩:=hf x hx
  have hxt:t ≠ x:=fun e=>by subst e;rw [h0] at hc;cases hc;cases hn
  exact ⟨cs,by rw [List.getElem?_set_ne hxt,List.getElem?_map,hc];rfl⟩)
theorem FR.unal_none {S:Sig} {fr:List D} (h:FR S w a fr) {t:Nat} {d0:D} (h0:fr[t]?=some d0) (hn:d0.owns=false):fr.map (bI t .any)=fr:=by
 apply List.ext_getElem?
 intro i
 rw [List.getElem?_map]
 cases hi:fr[i]? with
 |none=>rfl
 |some e=>
  obtain ⟨v,hv,hs⟩:=h.at hi
  cases e with
  |al x=>
   obtain ⟨_,d',h2,h3,_⟩:=hs
   have hxt:x ≠ t:=fun e=>by subst e;rw [h0] at h2;cases h2;rw [hn] at h3;cases h3
   simp only [Option.map_some,bI,if_neg hxt]
  |es x sz k j=>
   obtain ⟨⟨d',h2,h3,_⟩,_⟩:=hs
   have hxt:x ≠ t:=fun e=>by subst e;rw [h0] at h2;cases h2;rw [hn] at h3;cases h3
   simp only [Option.map_some,bI,if_neg hxt]
  |_=>rfl
theorem FR.putNm {S:Sig} {fr:List D} (h:FR S w a fr) {t:Nat} {v:Value} {d d0:D} (h0:fr[t]?=some d0) (hn:d0.isObj=false) (hd:d.isNm=true) (hsl:SlotRep S w a fr t v d):
  FR S w (a.put (some t) v) ((fr.map (bI t .any)).set t d):=by
 refine h.putOwn' h0 hn ?_
 have hobj:∀ {x},ObjAt S fr x→ObjAt S ((fr.map (bI t .any)).set t d) x:=fun {x} hx=>
  hx.mono (w:=w) (w':=w) (fF (eG (r0:=.any) h0 hn hx.obj).1 hx.obj) rfl rfl
 have howns:∀ {x:Nat} {d':D},x ≠ t→fr[x]?=some d'→d'.owns=true→((fr.map (bI t .any)).set t d)[x]?=some d':=fun {x d'} hx h2 h3=>by
  rw [List.getElem?_set_ne (Ne.symm hx),List.getElem?_map,h2]
  cases d'<;>first|rfl|cases h3
 cases d with
 |al x=>
  obtain ⟨h1,d',h2,h3,h4⟩:=hsl
  exact ⟨by rw [bQ h4];exact h1,d',howns h4 h2 h3,h3,h4⟩
 |alc x o=>exact ⟨hobj hsl.1,hsl.2⟩
 |el x o sz k j=>exact ⟨hobj hsl.1,hsl.2⟩
 |es x sz k j=>
  obtain ⟨⟨d',h2,h3,h4⟩,s,h1,h5⟩:=hsl
  exact ⟨⟨d',howns h4 h2 h3,h3,h4⟩,s,by rw [bQ h4];exact h1,h5⟩
 |_=>cases hd
def D.nm3:D→Bool
 |.alc _ _ | .el _ _ _ _ _ | .es _ _ _ _=>true
 |_=>false
def noN (d:D):D:=match d.nm3 with
 |true=>.any
 |false=>d
theorem zIJ {d:D} (h:d.owns=true):noN d=d:=by
 cases d<;>first|rfl|cases h
theorem zLq {fr:List D} (h:fr.any D.nm3=false):fr.map noN=fr:=by
  have:∀ d ∈ fr,noN d=d:=fun d hd=>by
    have:=List.any_eq_false.1 h d hd
    unfold noN
    rw [Bool.not_eq_true] at this
    rw [this]
  calc fr.map noN=fr.map id:=List.map_congr_left this
    _=fr:=List.map_id fr
def dropN (fr:List D):List D:=match fr.any D.nm3 with
 |true=>fr.map noN
 |false=>fr
theorem tF (fr:List D):dropN fr=fr.map noN:=by
 unfold dropN
 split
 ·rfl
 ·rename_i h;exact (zLq h).symm
theorem zHr (fr:List D):(dropN fr).length=fr.length:=by rw [tF,List.length_map]
theorem zKu {fr:List D} {i:Nat} {d:D} (h:(dropN fr)[i]?=some d):d.nm3=false:=by
 rw [tF,List.getElem?_map] at h
 cases hi:fr[i]? with
 |none=>rw [hi] at h;cases h
 |some e=>
  rw [hi] at h
  cases h
  unfold noN
  cases he:e.nm3 with
  |true=>rfl
  |false=>exact he
theorem FR.dropN {S:Sig} {fr:List D} (h:FR S w a fr):FR S w a (Go.Proofs.YtnjgoldinaffgaaGreatDoor.dropN fr):=by
 rw [tF]
 have hrk:∀ e,bM fr e→bM (fr.map noN) e:=fun e he x hx=>by
  obtain ⟨cs,hc⟩:=he x hx
  exact ⟨cs,by rw [List.getElem?_map,hc];rfl⟩
 refine ⟨h.wf,by simp [h.size],h.defers,fun i e v hi hv => ?_⟩
 rw [List.getElem?_map] at hi
 cases hfi:fr[i]? with
 |none=>rw [hfi] at hi;cases hi
 |some e0=>
  rw [hfi] at hi
  cases hi
  have hs:=h.slot i e0 v hfi hv
  have any:SlotRep S w a (fr.map noN) i v .any:=SlotRep.of (.fz (.any _)) fun t ht=>by cases ht
  cases e0 with
  |al x=>
   obtain ⟨h1,d',h2,h3,h4⟩:=hs
   exact ⟨h1,d',by rw [List.getElem?_map,h2];exact congrArg some (zIJ h3),h3,h4⟩
  |alc x o=>exact any
  |el x o sz k j=>exact any
  |es x sz k j=>exact any
  |_=>exact ⟨hs.1,hrk _ hs.2⟩
end Go.Proofs.YtnjgoldinaffgaaGreatDoor
namespace Go.Proofs.YtnjgoldinaffgaaGreatDoor
set_option linter.unusedSimpArgs false
set_option linter.unusedVariables false
open Go.RowKit
variable {K:Act→World→Prop} {Q:Exit→Act→World→Prop} {bytes:Nat} {dst:Option Tmp} {news zc:List Value} {p:Place} {rows rows2:List (List D)} {s x:Operand} {txt:List UInt8}
section
variable {P:Program} (w:World)
theorem zH7 (t ty e e0:TypeId) (i:TypeInfo) (ht:P.underlying t=some (.slice e)) (hi:P.info? e=some i)
  (g sLen sCap:Nat) (cur:Array Value) (hg:w.heap[g]?=some (.cells cur e0 (0,0)))
  (a:Addr) (m c:Nat) (news:List Value) (hl:news.length=m * i.size) (hnews:∀ (j:Nat) (u:Value),news[j]?=some u→w.cell? (a.add j)=some u) (h1:∀ u ∈ news,u.oneCell'=true)
  (hroom:sLen+m≤sCap) (hfit:sLen * i.size+news.length≤cur.size):
  (Builtin.append_ #[t,t] ty #[.slice (some ⟨g,0,none⟩) sLen sCap,.slice (some a) m c]).run P w =
   .ok (.slice (some ⟨g,0,none⟩) (sLen+m) sCap) (w.setRow g (cur.toList.take (sLen * i.size)++news++cur.toList.drop (sLen * i.size+news.length)).toArray):=by
 have hf:=run_firstCells_some (P:=P) w i.size m a m c news hl hnews
 have hst:=run_storeCells_at P g (sLen * i.size) e0 news 0 cur w hg (by simpa using hfit) h1
 simp only [Nat.add_zero] at hst
 simp [Builtin.append_,run_underlying ht,sizeOf,typeInfo,hi,Builtin.lenOf,hroom,hf,Addr.add_lit,hst]
theorem qH (t ty e:TypeId) (i:TypeInfo) (ht:P.underlying t=some (.slice e)) (hi:P.info? e=some i) (A A2:Option Addr) (sLen sCap:Nat) (hle:sLen≤sCap):
  (Builtin.append_ #[t,t] ty #[.slice A sLen sCap,.slice A2 0 0]).run P w=.ok (.slice A sLen sCap) w:=by
 cases A<;>cases A2<;>simp [Builtin.append_,run_underlying ht,sizeOf,typeInfo,hi,Builtin.lenOf,hle,Builtin.firstCells,storeCells,loadCells,loadCellsFrom]
end
theorem zCy {S:Sig} {w:World} {n sz:Nat} {xs:List Value} (hn:rows.length=n) (hx:xs.length=n * sz) (h1:∀ (k:Nat) (r:List D) (j:Nat) (d:D),rows[k]?=some r→r[j]?=some d→∃ u,xs[k * sz+j]?=some u∧u.oneCell'=true∧Fz S.lim w u d)
  (h2:∀ (k:Nat) (r:List D) (j:Nat) (d:D),rows2[k]?=some r→r[j]?=some d→∃ u,news[k * sz+j]?=some u∧u.oneCell'=true∧Fz S.lim w u d) (he:∀ r ∈ rows,r.length=sz):
  ∀ (k:Nat) (r:List D) (j:Nat) (d:D),(rows++rows2)[k]?=some r→r[j]?=some d→∃ u,(xs++news)[k * sz+j]?=some u∧u.oneCell'=true∧Fz S.lim w u d:=by
 subst hn
 intro k r j d hk hd
 by_cases hkn:k < rows.length
 ·rw [List.getElem?_append_left hkn] at hk
  obtain ⟨u,u1,u2⟩:=h1 k r j d hk hd
  refine ⟨u,?_,u2⟩
  have hj:j < sz:=by rw [← he r (aK hk)];exact (bC hd)
  have:(k+1) * sz≤rows.length * sz:=Nat.mul_le_mul_right _ hkn
  rw [Nat.add_mul] at this
  rw [List.getElem?_append_left (by omega)]
  exact u1
 ·rw [List.getElem?_append_right (by omega)] at hk
  obtain ⟨u,u1,u2⟩:=h2 _ r j d hk hd
  refine ⟨u,?_,u2⟩
  have:(k - rows.length) * sz+rows.length * sz=k * sz:=by rw [← Nat.add_mul];congr 1;omega
  rw [List.getElem?_append_right (by omega),← u1,hx]
  congr 1
  omega
theorem uE {S:Sig} {w w':World} (hw:WF S w) (hx:Ext w w') {g cap sz m:Nat} {e:TypeId} {CUR:Array Value} {xs:List Value} (hg:g=w.heap.size) (hh:w'.heap[g]?=some (.cells CUR e (0,0))) (hm:m=1∨m=2) (hle:rows.length≤cap) (hmax:cap≤maxLen) (hsz:CUR.size=cap * sz)
  (ht:CUR.toList.take (rows.length * sz)=xs) (he:∀ r ∈ rows,r.length=sz) (hr:∀ (k:Nat) (r:List D) (j:Nat) (d:D),rows[k]?=some r→r[j]?=some d→∃ u,xs[k * sz+j]?=some u∧u.oneCell'=true∧Fz S.lim w u d):
  ∃ S',PT S w S' w'∧Rep S' w' p (.slice (some ⟨g,0,none⟩) rows.length cap) (.sl m sz rows):=by
 let S':Sig:=⟨fun b=>if b=g then some (p,if m=2 then 0 else rows.length * sz) else S.own b,S.loc⟩
 have hlt:g < w'.heap.size:=(Array.getElem?_eq_some_iff.1 hh).1
 have hpt:PT S w S' w':=⟨hx,fun b hb'=>if_neg (by omega),rfl,⟨fun b x hbx=>by
  by_cases hbg:b=g
  ·subst hbg;exact hlt
  ·have:S.own b=some x:=by simpa [S',hbg] using hbx
   exact Nat.lt_of_lt_of_le (hw b x this) hx.sizeOf,hw.gl.keep fun b hb' hn=>⟨hx.block hb',(if_neg (by omega)).trans hn⟩⟩⟩
 refine ⟨S',hpt,.own ⟨hm,hh,hle,hmax,hsz,he,by simp [S'],fun k r j d hk hd => ?_⟩⟩
 obtain ⟨u,u1,u2,u3⟩:=hr k r j d hk hd
 refine ⟨u,?_,u2,u3.trans hpt.trans⟩
 rw [← ht,List.getElem?_take] at u1
 split at u1
 ·simpa using u1
 ·cases u1
def lO (s:List UInt8):List Value:=s.map fun b=>.int .u8 b.toNat
theorem zU {s:List UInt8}:∀ u ∈ lO s,u.oneCell'=true:=fun u hu=>by
 obtain ⟨b,_,rfl⟩:=List.mem_map.1 hu
 rfl
theorem wE {s:List UInt8}:∀ r ∈ s.map bR,r.length=1:=fun r hr=>by
 obtain ⟨b,_,rfl⟩:=List.mem_map.1 hr
 rfl
theorem tI {s:List UInt8} {lim:Nat→Option Nat} {w:World} {k:Nat} {r:List D} {j:Nat} {d:D} (hk:(s.map bR)[k]?=some r) (hd:r[j]?=some d):∃ u,(lO s)[k * 1+j]?=some u∧u.oneCell'=true∧Fz lim w u d:=by
 rw [List.getElem?_map] at hk
 cases hs:s[k]? with
 |none=>rw [hs] at hk;cases hk
 |some b=>
  rw [hs] at hk
  cases hk
  cases j with
  |zero=>
   cases hd
   exact ⟨.int .u8 b.toNat,by rw [Nat.mul_one,Nat.add_zero];simp [lO,hs],rfl,.int _ _⟩
  |succ j=>simp [bR] at hd
section
variable {P:Program} {ty:TypeId} {pos:String} {after:Array Edge} {guard:Option (Nat × Bool)}
theorem cJ {t xt:TypeId} {a:Act} {w w':World} {v:Value} (hr:(Builtin.append_ #[t,xt] ty #[a.eval s,a.eval x]).run P w=.ok v w') (hk:K (a.put dst v) w'):(Oper.mk dst (.call ⟨.builtin .append,#[s,x],#[t,xt]⟩) ty pos after guard).wp P a w K Q:=by
 unfold Oper.wp execOp
 simp only [resolve,invoke,builtin,Sem.run_bind,Sem.run_pure,Result.andThen_ok,List.map_toArray,List.map_cons,List.map_nil,hr]
 exact hk
theorem append_nil {t e sz:Nat} [TSlice P t e] [TElem P e sz bytes zc] {S:Sig} {w:World} (hw:WF S w) {a:Act} {q:Place} {m2:Nat} (hs:a.eval s=.slice none 0 0) (hx:Rep S w q (a.eval x) (.sl m2 sz rows2)) (hl:rows2.length≤1000000000) (hby:bytes≤1000) {mm:Nat} (hmm:mm=1∨mm=2)
  (hK:∀ v S' w',PT S w S' w'→Rep S' w' p v (.sl mm sz rows2)→K (a.put dst v) w'):(Oper.mk dst (.call ⟨.builtin .append,#[s,x],#[t,t]⟩) ty pos after guard).wp P a w K Q:=by
 obtain ⟨inf,z0,h1,h2,h3,h4,h5,h6⟩:=TElem.h (P:=P) (e:=e) (n:=sz) (bytes:=bytes) (zc:=zc)
 have ht:=TSlice.h (P:=P) (t:=t) (e:=e)
 subst h3;subst h4
 rcases hx.source with ⟨A2,hv,rfl⟩|⟨b,o,c,news,hv,k1,k2,k3,k4,k5⟩
 ·exact cJ (by rw [hs,hv];exact qH w t ty e inf ht h1 none A2 0 0 (Nat.le_refl _)) (hK _ S w (PT.refl hw) (.fz (.slNil mm inf.size)))
 ·rcases Nat.eq_zero_or_pos rows2.length with h0|h0
  ·have hn:news = []:=List.eq_nil_of_length_eq_zero (by rw [k1,h0];simp)
   obtain rfl:rows2 = []:=List.eq_nil_of_length_eq_zero h0
   subst hn
   refine cJ (w':=w) (v:=.slice none 0 0) ?_ (hK _ S w (PT.refl hw) (.fz (.slNil mm inf.size)))
   rw [hs,hv]
   simp [Builtin.append_,run_underlying ht,sizeOf,typeInfo,h1,Builtin.lenOf,Builtin.firstCells,loadCells,loadCellsFrom]
  ·have hmul:rows2.length * inf.bytes≤1000000000 * 1000:=Nat.mul_le_mul hl hby
   have hr:=run_append_nil (P:=P) w t ty e inf z0 ht h1 h2 ⟨b,o,none⟩ rows2.length c news k1 (fun j u hu=>by rw [show (⟨b,o,none⟩:Addr).add j=⟨b,o+j,none⟩ by unfold Addr.add;split<;>simp_all];exact k2 j u hu) h0 (by omega) (by omega)
   refine cJ (by rw [hs,hv];exact hr) ?_
   have hge:=grownCap_ge w rows2.length 0 e
   have hcm:grownCap w rows2.length 0 e≤maxLen:=grownCap_le_maxLen w rows2.length 0 e (by unfold maxLen;omega)
   obtain ⟨S',hp,hrep⟩:=uE (p:=p) hw (w':=w.drew.alloc (.cells (news.toArray++Builtin.zeroCells z0.cells (grownCap w rows2.length 0 e - rows2.length)) e)) ((Ext.drew w).trans (Ext.alloc _ _)) rfl (heap_alloc_new w.drew _) hmm hge hcm
    (by simp only [Array.size_append,List.size_toArray,size_zeroCells,h5,k1,← Nat.add_mul];congr 1;omega) (xs:=news) (by simp only [Array.toList_append];rw [← k1];exact List.take_left) k4 (fun k r j d hk hd=>by
     obtain ⟨u,u1,u2⟩:=k5 k r j d hk hd
     exact ⟨u,u1,k3 u (aK u1),u2⟩)
   exact hK _ S' _ hp hrep
theorem wF {t xt e:TypeId} {inf:TypeInfo} {z0:Value} {sz:Nat} (h3:inf.size=sz) (h5:z0.cells.size=sz) {S:Sig} {w:World} {a:Act} {fr:List D} (hF:FR S w a fr) {u m b cap:Nat} {cur:Array Value} {e0:TypeId} (hd:fr[u]?=some (.sl (m+1) sz rows))
  (hs0:a.eval s=.slice (some ⟨b,0,none⟩) rows.length cap) (g:OwnAt S w (.slot u) b cap (m+1) sz rows cur e0) (k1:news.length=rows2.length * sz) (k3:∀ u ∈ news,u.oneCell'=true) (k4:∀ r ∈ rows2,r.length=sz)
  (k5:∀ (k:Nat) (r:List D) (j:Nat) (d:D),rows2[k]?=some r→r[j]?=some d→∃ u,news[k * sz+j]?=some u∧Fz S.lim w u d) (hl:rows.length+rows2.length≤1000000000) (hmm:m+1=1∨m+1=2)
  (hroomR:rows.length+rows2.length≤cap→(Builtin.append_ #[t,xt] ty #[.slice (some ⟨b,0,none⟩) rows.length cap,a.eval x]).run P w=.ok (.slice (some ⟨b,0,none⟩) (rows.length+rows2.length) cap) (w.setRow b (cur.toList.take (rows.length * sz)++news++cur.toList.drop (rows.length * sz+news.length)).toArray))
  (hgrowR:cap < rows.length+rows2.length→(∀ (j:Nat) (u:Value),(cur.toList.take (rows.length * sz))[j]?=some u→w.cell? ((⟨b,0,none⟩:Addr).add j)=some u)→(Builtin.append_ #[t,xt] ty #[.slice (some ⟨b,0,none⟩) rows.length cap,a.eval x]).run P w=.ok (.slice (some ⟨w.heap.size,0,none⟩) (rows.length+rows2.length) (grownCap w (rows.length+rows2.length) cap e)) (w.drew.alloc (.cells ((cur.toList.take (rows.length * sz)).toArray++news.toArray++Builtin.zeroCells z0.cells (grownCap w (rows.length+rows2.length) cap e - (rows.length+rows2.length))) e)))
  (hK:∀ v S' w',Trans S w S' w'→FR S' w' a ((fr.map (bI u .any)).set u .any)→Rep S' w' p v (.sl (m+1) sz (rows++rows2))→K (a.put dst v) w'):(Oper.mk dst (.call ⟨.builtin .append,#[s,x],#[t,xt]⟩) ty pos after guard).wp P a w K Q:=by
 subst h3
 have hadd:∀ b o j:Nat,(⟨b,o,none⟩:Addr).add j=⟨b,o+j,none⟩:=fun b o j=>by unfold Addr.add;split<;>simp_all
 have hF1:=hF.forget hd rfl
 have hxs:(cur.toList.take (rows.length * inf.size)).length=rows.length * inf.size:=by
  have e1:cur.toList.length=cap * inf.size:=by rw [Array.length_toList,g.size]
  have:rows.length * inf.size≤cap * inf.size:=Nat.mul_le_mul_right _ g.le
  rw [List.length_take,e1]
  omega
 have hold:∀ (k:Nat) (r:List D) (j:Nat) (d:D),rows[k]?=some r→r[j]?=some d→∃ u,(cur.toList.take (rows.length * inf.size))[k * inf.size+j]?=some u∧u.oneCell'=true∧Fz S.lim w u d:=fun k r j d hk hd'=>by
  obtain ⟨x,x1,x2,x3⟩:=g.cells k r j d hk hd'
  have hkl:k < rows.length:=(bC hk)
  have hj:j < inf.size:=by rw [← g.each r (aK hk)];exact (List.getElem?_eq_some_iff.1 hd').1
  have hlt:k * inf.size+j < rows.length * inf.size:=by
   have:(k+1) * inf.size≤rows.length * inf.size:=Nat.mul_le_mul_right _ hkl
   rw [Nat.add_mul] at this
   omega
  exact ⟨x,by rw [List.getElem?_take,if_pos hlt];simpa using x1,x2,x3⟩
 have hall:=zCy (rows2:=rows2) (news:=news) rfl hxs hold (fun k r j d hk hd'=>by
  obtain ⟨u,u1,u2⟩:=k5 k r j d hk hd'
  exact ⟨u,u1,k3 u (aK u1),u2⟩) g.each
 have heach:∀ r ∈ rows++rows2,r.length=inf.size:=fun r hr=>by
  rcases List.mem_append.1 hr with hr|hr
  ·exact g.each r hr
  ·exact k4 r hr
 by_cases hroom:rows.length+rows2.length≤cap
 ·have hfit:rows.length * inf.size+news.length≤cur.size:=by rw [k1,g.size,← Nat.add_mul];exact Nat.mul_le_mul_right _ hroom
  have hr:=hroomR hroom
  generalize hCUR:(cur.toList.take (rows.length * inf.size)++news++cur.toList.drop (rows.length * inf.size+news.length)).toArray=CUR at hr
  have hCs:CUR.size=cur.size:=by
   rw [← hCUR]
   simp only [List.size_toArray,List.length_append,hxs,List.length_drop,Array.length_toList]
   omega
  have hCl:CUR.toList=cur.toList.take (rows.length * inf.size)++news++cur.toList.drop (rows.length * inf.size+news.length):=by rw [← hCUR]
  have hCk:∀ off,off < rows.length * inf.size→CUR[off]?=cur[off]?:=fun off ho=>by
   rw [← Array.getElem?_toList,hCl,List.append_assoc,List.getElem?_append_left (by omega),List.getElem?_take,if_pos ho,Array.getElem?_toList]
  refine cJ (by rw [hs0];exact hr) ?_
  have hw':(w.setRow b CUR).heap[b]?=some (.cells CUR e0 (0,0)):=setRow_heap w b cur CUR e0 (0,0) g.heap
  have hown:=g.own
  let x:Place × Nat:=(p,if m+1=2 then 0 else (rows++rows2).length * inf.size)
  have hlx:(if m+1=2 then 0 else rows.length * inf.size)≤x.2:=by
   simp only [x]
   split
   ·exact Nat.le_refl _
   ·exact Nat.mul_le_mul_right _ (by simp)
  have hb:BT S w (S.set b (some x)) (w.setRow b CUR) b:=by
   refine ⟨⟨rfl,rfl,rfl,by simp,fun b' hb' hn => ?_,fun b' p' l hb' hs' hd' => ?_,fun b' p' l hb' hs' => ?_,rfl⟩,⟨fun b' y hy => ?_,hF.wf.gl.keep fun b' hb' hn => ?_⟩,rfl,fun b' hb' hne=>setRow_other w b b' CUR hne,fun b' hb' hne=>S.set_ne _ hne⟩
   ·have hne:b' ≠ b:=fun e=>by subst e;rw [hown] at hn;cases hn
    exact ⟨setRow_other w b b' CUR hne,by rw [S.set_ne _ hne];exact hn⟩
   ·have hne:b' ≠ b:=fun e=>by subst e;rw [hown] at hs';cases hs';simp [Place.slot] at hd'
    exact ⟨setRow_other w b b' CUR hne,by rw [S.set_ne _ hne];exact hs'⟩
   ·by_cases hne:b'=b
    ·subst hne
     rw [hown] at hs'
     cases hs'
     refine ⟨fun cur1 e1 fz1 hc1 => ?_,fun y hy => ?_⟩
     ·rw [g.heap] at hc1
      cases hc1
      refine ⟨CUR,hw',hCs,fun off ho=>hCk off ?_⟩
      split at ho<;>omega
     ·rw [S.set_at] at hy
      cases hy
      exact hlx
    ·refine ⟨Keeps.of_eq (setRow_other w b b' CUR hne),fun y hy => ?_⟩
     rw [S.set_ne _ hne,hs'] at hy
     cases hy
     exact Nat.le_refl _
   ·have hsz:(w.setRow b CUR).heap.size=w.heap.size:=by simp
    rw [hsz]
    by_cases hne:b'=b
    ·subst hne;exact hF.wf _ _ hown
    ·rw [S.set_ne _ hne] at hy;exact hF.wf _ _ hy
   ·have hne:b' ≠ b:=fun e=>by subst e;rw [hown] at hn;cases hn
    exact ⟨setRow_other w b b' CUR hne,by rw [S.set_ne _ hne];exact hn⟩
  have hfin:Rep (S.set b (some x)) (w.setRow b CUR) p (.slice (some ⟨b,0,none⟩) (rows++rows2).length cap) (.sl (m+1) inf.size (rows++rows2)):=by
   refine .own ⟨hmm,hw',by simpa using hroom,g.max,by rw [hCs,g.size],heach,by rw [S.set_at],fun k r j d hk hd' => ?_⟩
   obtain ⟨y,y1,y2,y3⟩:=hall k r j d hk hd'
   refine ⟨y,?_,y2,y3.trans hb.tr⟩
   rw [← Array.getElem?_toList,hCl,List.getElem?_append_left (bC y1)]
   exact y1
  rw [List.length_append] at hfin
  exact hK _ _ _ hb.tr (hF.rebuild hb hown rfl hd rfl (fun _ _ _=>.fz (.any _)) (fun t ht=>by cases ht) (fun _ _=>.fz (.any _)) (fun t ht=>by cases ht)) hfin
 ·have holds:∀ (j:Nat) (u:Value),(cur.toList.take (rows.length * inf.size))[j]?=some u→w.cell? ((⟨b,0,none⟩:Addr).add j)=some u:=fun j u hu=>by
   rw [hadd,cell_of_row w b _ cur e0 (0,0) g.heap,Nat.zero_add]
   rw [List.getElem?_take] at hu
   split at hu
   ·simpa using hu
   ·cases hu
  have hr:=hgrowR (Nat.lt_of_not_le hroom) holds
  refine cJ (by rw [hs0];exact hr) ?_
  have hge:=grownCap_ge w (rows.length+rows2.length) cap e
  have hcm:grownCap w (rows.length+rows2.length) cap e≤maxLen:=grownCap_le_maxLen w _ cap e (by unfold maxLen;omega)
  obtain ⟨S',hp,hrep⟩:=uE (p:=p) (m:=m+1) (sz:=inf.size) (rows:=rows++rows2) (xs:=cur.toList.take (rows.length * inf.size)++news) hF.wf
   (w':=w.drew.alloc (.cells ((cur.toList.take (rows.length * inf.size)).toArray++news.toArray++Builtin.zeroCells z0.cells (grownCap w (rows.length+rows2.length) cap e - (rows.length+rows2.length))) e)) ((Ext.drew w).trans (Ext.alloc _ _)) rfl (heap_alloc_new w.drew _) hmm (by simpa using hge) hcm
   (by simp only [Array.size_append,List.size_toArray,size_zeroCells,h5,k1,hxs,← Nat.add_mul];congr 1;omega)
   (by simp only [Array.toList_append,List.append_assoc];rw [← List.append_assoc,show (rows++rows2).length * inf.size=(cur.toList.take (rows.length * inf.size)++news).length by rw [List.length_append,List.length_append,hxs,k1,Nat.add_mul]];exact List.take_left) heach hall
  rw [List.length_append] at hrep
  exact hK _ S' _ hp.trans (hF1.drop hp) hrep
theorem zZ {t e sz:Nat} [TSlice P t e] [TElem P e sz bytes zc] {S:Sig} {w:World} {a:Act} {fr:List D} (hF:FR S w a fr) {u m:Nat} {q:Place} {m2:Nat} (hd:fr[u]?=some (.sl (m+1) sz rows)) (hs:a.tmps[u]?=some (a.eval s))
  (hx:Rep S w q (a.eval x) (.sl m2 sz rows2)) (hl:rows.length+rows2.length≤1000000000) (hby:bytes≤1000) (hmm:m+1=1∨m+1=2)
  (hK:∀ v S' w',Trans S w S' w'→FR S' w' a ((fr.map (bI u .any)).set u .any)→Rep S' w' p v (.sl (m+1) sz (rows++rows2))→K (a.put dst v) w'):(Oper.mk dst (.call ⟨.builtin .append,#[s,x],#[t,t]⟩) ty pos after guard).wp P a w K Q:=by
 obtain ⟨v,hv,hslot⟩:=hF.at hd
 obtain rfl:v=a.eval s:=Option.some.inj (hv.symm.trans hs)
 obtain ⟨inf,z0,h1,h2,h3,h4,h5,h6⟩:=TElem.h (P:=P) (e:=e) (n:=sz) (bytes:=bytes) (zc:=zc)
 have ht:=TSlice.h (P:=P) (t:=t) (e:=e)
 subst h3;subst h4
 have hmul:(rows.length+rows2.length) * inf.bytes≤1000000000 * 1000:=Nat.mul_le_mul hl hby
 have hadd:∀ b o j:Nat,(⟨b,o,none⟩:Addr).add j=⟨b,o+j,none⟩:=fun b o j=>by unfold Addr.add;split<;>simp_all
 have hF1:=hF.forget hd rfl
 rcases hslot.1.sl_inv with ⟨hs0,rfl⟩|⟨b,cap,cur,e0,hs0,g⟩
 ·exact append_nil hF.wf hs0 hx (by simpa using hl) hby hmm fun v S' w' hp hr=>hK v S' w' hp.trans (hF1.drop hp) (by rw [List.nil_append];exact hr)
 ·rcases hx.source with ⟨A2,hxv,rfl⟩|⟨bx,ox,cx,news,hxv,k1,k2,k3,k4,k5⟩
  ·obtain ⟨S',v',t1,t2,t3,t4⟩:=hF.take p hd
   obtain rfl:v'=a.eval s:=Option.some.inj (t2.symm.trans hs)
   refine cJ (w':=w) (v:=a.eval s) ?_ (hK _ S' w t1 t3 (by rw [List.append_nil];exact t4))
   rw [hxv,hs0]
   exact qH w t ty e inf ht h1 _ A2 _ _ g.le
  ·have hnews:∀ (j:Nat) (u:Value),news[j]?=some u→w.cell? ((⟨bx,ox,none⟩:Addr).add j)=some u:=fun j u hu=>by rw [hadd];exact k2 j u hu
   refine wF (xt:=t) (e:=e) rfl h5 hF hd hs0 g k1 k3 k4 k5 hl hmm (fun hroom => ?_) (fun hg holds => ?_) hK
   ·rw [hxv]
    exact zH7 (P:=P) w t ty e e0 inf ht h1 b rows.length cap cur g.heap ⟨bx,ox,none⟩ rows2.length cx news k1 hnews k3 hroom (by rw [k1,g.size,← Nat.add_mul];exact Nat.mul_le_mul_right _ hroom)
   ·rw [hxv]
    have hxs:(cur.toList.take (rows.length * inf.size)).length=rows.length * inf.size:=by
     have e1:cur.toList.length=cap * inf.size:=by rw [Array.length_toList,g.size]
     have:rows.length * inf.size≤cap * inf.size:=Nat.mul_le_mul_right _ g.le
     rw [List.length_take,e1]
     omega
    exact run_append_grow (P:=P) w t ty e inf z0 ht h1 h2 ⟨b,0,none⟩ rows.length cap _ hxs holds ⟨bx,ox,none⟩ rows2.length cx news k1 hnews hg (by omega) (growslice_fits hg (by omega))
theorem pL {t xt e:Nat} [TSlice P t e] [TElem P e 1 bytes zc] [TStr P xt] {S:Sig} {w:World} (hw:WF S w) {a:Act} (hs:a.eval s=.slice none 0 0) (hx:a.eval x=.string ⟨txt.toArray⟩) (hl:txt.length≤1000000000) (hby:bytes≤1000) {mm:Nat} (hmm:mm=1∨mm=2)
  (hK:∀ v S' w',PT S w S' w'→Rep S' w' p v (.sl mm 1 (txt.map bR))→K (a.put dst v) w'):(Oper.mk dst (.call ⟨.builtin .append,#[s,x],#[t,xt]⟩) ty pos after guard).wp P a w K Q:=by
 obtain ⟨inf,z0,h1,h2,h3,h4,h5,h6⟩:=TElem.h (P:=P) (e:=e) (n:=1) (bytes:=bytes) (zc:=zc)
 have ht:=TSlice.h (P:=P) (t:=t) (e:=e)
 have hxt:P.underlying xt=some .string:=TStr.h (P:=P) (t:=xt)
 subst h4
 have hz:(⟨txt.toArray⟩:ByteArray).size=txt.length:=rfl
 rcases Nat.eq_zero_or_pos txt.length with h0|h0
 ·obtain rfl:txt = []:=List.eq_nil_of_length_eq_zero h0
  refine cJ (w':=w) (v:=.slice none 0 0) ?_ (hK _ S w (PT.refl hw) (.fz (.slNil mm 1)))
  rw [hs,hx]
  have hf:=Lib.run_firstCells_string (P:=P) w inf.size ⟨#[]⟩
  simp only [show (⟨#[]⟩:ByteArray).size=0 from rfl] at hf
  simp [Builtin.append_,run_underlying ht,run_underlying hxt,sizeOf,typeInfo,h1,Builtin.lenOf,show (⟨#[]⟩:ByteArray).size=0 from rfl,hf]
 ·have hmul:txt.length * inf.bytes≤1000000000 * 1000:=Nat.mul_le_mul hl hby
  have hr:=run_append_nil_string (P:=P) w t xt ty e inf z0 ht hxt h1 h2 ⟨txt.toArray⟩ (by rw [hz];exact h0) (by rw [hz];omega) (by rw [hz];omega)
  rw [hz] at hr
  refine cJ (by rw [hs,hx];exact hr) ?_
  have hge:=grownCap_ge w txt.length 0 e
  have hcm:grownCap w txt.length 0 e≤maxLen:=grownCap_le_maxLen w txt.length 0 e (by unfold maxLen;omega)
  obtain ⟨S',hp,hrep⟩:=uE (p:=p) (m:=mm) (sz:=1) (rows:=txt.map bR) (xs:=lO txt) hw (w':=w.drew.alloc (.cells (((⟨txt.toArray⟩:ByteArray).data.map fun b=>Value.int .u8 b.toNat)++Builtin.zeroCells z0.cells (grownCap w txt.length 0 e - txt.length)) e)) ((Ext.drew w).trans (Ext.alloc _ _)) rfl (heap_alloc_new w.drew _) hmm (by simpa using hge) hcm
   (by simp only [Array.size_append,Array.size_map,size_zeroCells,h5,Nat.mul_one,List.size_toArray];omega)
   (by simp [lO,Array.toList_append]) wE (fun k r j d hk hd=>tI hk hd)
  rw [List.length_map] at hrep
  exact hK _ S' _ hp hrep
theorem pK {t xt e:Nat} [TSlice P t e] [TElem P e 1 bytes zc] [TStr P xt] {S:Sig} {w:World} {a:Act} {fr:List D} (hF:FR S w a fr) {u m:Nat} (hd:fr[u]?=some (.sl (m+1) 1 rows)) (hs:a.tmps[u]?=some (a.eval s))
  (hx:a.eval x=.string ⟨txt.toArray⟩) (hl:rows.length+txt.length≤1000000000) (hby:bytes≤1000) (hmm:m+1=1∨m+1=2)
  (hK:∀ v S' w',Trans S w S' w'→FR S' w' a ((fr.map (bI u .any)).set u .any)→Rep S' w' p v (.sl (m+1) 1 (rows++txt.map bR))→K (a.put dst v) w'):(Oper.mk dst (.call ⟨.builtin .append,#[s,x],#[t,xt]⟩) ty pos after guard).wp P a w K Q:=by
 obtain ⟨v,hv,hslot⟩:=hF.at hd
 obtain rfl:v=a.eval s:=Option.some.inj (hv.symm.trans hs)
 obtain ⟨inf,z0,h1,h2,h3,h4,h5,h6⟩:=TElem.h (P:=P) (e:=e) (n:=1) (bytes:=bytes) (zc:=zc)
 have ht:=TSlice.h (P:=P) (t:=t) (e:=e)
 have hxt:P.underlying xt=some .string:=TStr.h (P:=P) (t:=xt)
 subst h4
 have hz:(⟨txt.toArray⟩:ByteArray).size=txt.length:=rfl
 have hmul:(rows.length+txt.length) * inf.bytes≤1000000000 * 1000:=Nat.mul_le_mul hl hby
 rcases hslot.1.sl_inv with ⟨hs0,rfl⟩|⟨b,cap,cur,e0,hs0,g⟩
 ·exact pL hF.wf hs0 hx (by simpa using hl) hby hmm fun v S' w' hp hr=>hK v S' w' hp.trans ((hF.forget hd rfl).drop hp) (by rw [List.nil_append];exact hr)
 ·have hml:(txt.map bR).length=txt.length:=List.length_map _
  have hst:Lib.strCells ⟨txt.toArray⟩=lO txt:=rfl
  refine wF (xt:=xt) (news:=lO txt) (rows2:=txt.map bR) (e:=e) h3 h5 hF hd hs0 g (by simp [lO]) zU wE (fun k r j d hk hd=>by
   obtain ⟨u,u1,_,u3⟩:=tI (lim:=S.lim) (w:=w) hk hd
   exact ⟨u,u1,u3⟩) (by rw [hml];exact hl) hmm (fun hroom => ?_) (fun hg holds => ?_) hK
  ·rw [hx]
   rw [hml] at hroom ⊢
   have hsz:=g.size
   rw [Nat.mul_one] at hsz
   have hf:=Lib.run_firstCells_string (P:=P) w 1 ⟨txt.toArray⟩
   have hst2:=run_storeCells_at P b rows.length e0 (lO txt) 0 cur w g.heap (by simp [lO];omega) zU
   simp only [Nat.add_zero] at hst2
   rw [hz,hst] at hf
   simp only [Nat.mul_one]
   simp [Builtin.append_,run_underlying ht,run_underlying hxt,sizeOf,typeInfo,h1,h3,Builtin.lenOf,hz,hroom,hf,Addr.add_lit,hst2]
  ·rw [hx]
   rw [hml] at hg ⊢
   have hxs:(cur.toList.take (rows.length * 1)).length=rows.length * 1:=by
    have e1:cur.toList.length=cap * 1:=by rw [Array.length_toList,g.size]
    have:rows.length * 1≤cap * 1:=Nat.mul_le_mul_right _ g.le
    rw [List.length_take,e1]
    omega
   have hr:=Lib.run_append_grow_string (P:=P) w t xt ty e inf z0 ht hxt h1 h2 ⟨b,0,none⟩ rows.length cap _ (by rw [h3];exact hxs) holds ⟨txt.toArray⟩ (by rw [hz];exact hg) (by rw [hz];omega) (by rw [hz];exact growslice_fits hg (by omega))
   rw [hz,hst] at hr
   exact hr
end
end Go.Proofs.YtnjgoldinaffgaaGreatDoor
namespace Go.Proofs.YtnjgoldinaffgaaGreatDoor
set_option linter.unusedSimpArgs false
set_option linter.unusedVariables false
open Go.RowKit
variable {cs:List D} {us:List Value}
def TI.cells:TI→Nat
 |.st n _ _=>n
 |_=>1
theorem TFact.sz {P:Program} {t:Nat} {i:TI} (h:TFact P t i):(P.info? t).map (·.size)=some i.cells:=by
 cases i with
 |int k=>exact h.2.sz
 |str=>exact h.2.sz
 |bool=>exact h.2.sz
 |one=>exact (show TOne P t from h).sz
 |ifc=>exact h.2.sz
 |sl e sz b zc=>exact h.2.2.1.sz
 |mp k e kd z=>exact h.2.2.sz
 |st n fl ks=>exact h.1.sz
section
variable {P:Program} {Q:Exit→Act→World→Prop} {K:Act→World→Prop} {a:Act} {w:World} {dst:Option Tmp} {ty:TypeId} {pos:String} {after:Array Edge} {guard:Option (Nat × Bool)}
theorem sG {t n b o:Nat} {x y:Operand} (hs:(P.info? t).map (·.size)=some n) (hx:a.eval x=.pointer (some ⟨b,o,none⟩)) (hy:(a.eval y).cells.toList=us) (hn:us.length=n) (h1:∀ u:Value,u ∈ us→u.oneCell'=true) {cur:Array Value} {e:TypeId}
  (hg:w.heap[b]?=some (.cells cur e (0,0))) (hl:o+n≤cur.size) (hk:K (a.put dst undef) (w.setRow b (cur.toList.take o++us++cur.toList.drop (o+n)).toArray)):(Oper.mk dst (.store t x y) ty pos after guard).wp P a w K Q:=by
 have hsz:(a.eval y).cells.size=n:=by rw [← hn,← hy];simp
 have hst:=run_storeCells_at P b o e us 0 cur w hg (by omega) h1
 simp only [Nat.add_zero] at hst
 have hv:(storeVar t ⟨b,o,none⟩ (a.eval y)).run P w=.ok () (w.setRow b (cur.toList.take o++us++cur.toList.drop (o+n)).toArray):=by
  unfold storeVar
  rw [Sem.run_bind,dD hs,Result.andThen_ok,if_neg (by rw [hsz];simp),hy,hst,hn]
 unfold Oper.wp execOp
 simp only [hx,Instr.storeAt,Instr.sureAddr,Sem.run_bind,Sem.run_pure,Result.andThen_ok,hv]
 exact hk
end
theorem Rep.obj_inv {S:Sig} {w:World} {u:Nat} {v:Value} (h:Rep S w (.slot u) v (.obj cs)):∃ (b:Nat) (cur:Array Value) (e:TypeId),v=.pointer (some ⟨b,0,none⟩)∧S.own b=some (.slot u,0)∧S.loc (u+2)=b∧w.heap[b]?=some (.cells cur e (0,0))∧cs.length=cur.size∧
  (∀ (i:Nat) (v:Value),cur[i]?=some v→v.oneCell'=true)∧∀ (i:Nat) (d:D) (v:Value),cs[i]?=some d→cur[i]?=some v→Rep S w ⟨u+2,[i]⟩ v d:=by
 cases h with
 |fz h=>cases h
 |obj hb hp hl hh hs h1 ih=>exact ⟨_,_,_,rfl,hb,hl,hh,hs,h1,ih⟩
def zG7 (u lo n:Nat):D→Bool
 |.alc x o=>Nat.beq x u && (Nat.ble lo o && Nat.blt o (lo+n))
 |.el x o _ _ _=>Nat.beq x u && (Nat.ble lo o && Nat.blt o (lo+n))
 |_=>false
def mI (u lo n:Nat) (d:D):D:=match zG7 u lo n d with
 |true=>.any
 |false=>d
theorem zHR {u lo n:Nat} {fr:List D} (h:fr.any (zG7 u lo n)=false):fr.map (mI u lo n)=fr:=by
  have:∀ d ∈ fr,mI u lo n d=d:=fun d hd=>by
    have:=List.any_eq_false.1 h d hd
    unfold mI
    rw [Bool.not_eq_true] at this
    rw [this]
  calc fr.map (mI u lo n)=fr.map id:=List.map_congr_left this
    _=fr:=List.map_id fr
theorem zGu {u lo n:Nat} {d:D} (h:d.owns=true):mI u lo n d=d:=by
 cases d<;>first|rfl|cases h
theorem FR.storeObj {S:Sig} {w:World} {a:Act} {fr:List D} (h:FR S w a fr) {u off:Nat} {vs:List D} (hd:fr[u]?=some (.obj cs)) (hc:CR S.lim w us vs) (hl:off+vs.length≤cs.length):
  ∃ (b:Nat) (cur:Array Value) (e:TypeId),S.own b=some (.slot u,0)∧S.loc (u+2)=b∧w.heap[b]?=some (.cells cur e (0,0))∧cs.length=cur.size∧
   Trans S w S (w.setRow b (cur.toList.take off++us++cur.toList.drop (off+vs.length)).toArray)∧FR S (w.setRow b (cur.toList.take off++us++cur.toList.drop (off+vs.length)).toArray) a ((fr.map (mI u off vs.length)).set u (.obj (cs.take off++vs++cs.drop (off+vs.length)))):=by
 obtain ⟨v,hv,hsl⟩:=h.at hd
 obtain ⟨b,cur,e,rfl,hb,hloc,hh,hsz,h1,ih⟩:=hsl.1.obj_inv
 refine ⟨b,cur,e,hb,hloc,hh,hsz,?_⟩
 generalize hCUR:(cur.toList.take off++us++cur.toList.drop (off+vs.length)).toArray=CUR
 have hus:=hc.len
 have hCl:CUR.toList=cur.toList.take off++us++cur.toList.drop (off+vs.length):=by rw [← hCUR]
 have hCs:CUR.size=cur.size:=by
  have:CUR.toList.length=cur.size:=by
   rw [hCl]
   simp only [List.length_append,List.length_take,List.length_drop,Array.length_toList]
   omega
  simpa using this
 have hw':(w.setRow b CUR).heap[b]?=some (.cells CUR e (0,0)):=setRow_heap w b cur CUR e (0,0) hh
 have hother:∀ k,k ≠ b→(w.setRow b CUR).heap[k]?=w.heap[k]?:=fun k hk=>setRow_other w b k CUR hk
 have htr:Trans S w S (w.setRow b CUR):=by
  refine ⟨rfl,rfl,rfl,by simp,fun k hk hn=>⟨hother k (fun e=>by subst e;rw [hb] at hn;cases hn),hn⟩,fun k p l hk hs hp=>⟨hother k (fun e=>by subst e;rw [hb] at hs;cases hs;simp [Place.slot] at hp),hs⟩,fun k p l hk hs=>⟨?_,fun x hx=>by rw [hs] at hx;cases hx;exact Nat.le_refl _⟩,rfl⟩
  by_cases hkb:k=b
  ·subst hkb
   rw [hb] at hs
   cases hs
   intro cur1 e1 fz1 h2
   rw [hh] at h2
   cases h2
   exact ⟨CUR,hw',hCs,fun off ho=>by omega⟩
  ·exact Keeps.of_eq (hother k hkb)
 have hwf:WF S (w.setRow b CUR):=h.wf.of htr fun k x hk=>by
  have:(w.setRow b CUR).heap.size=w.heap.size:=by simp
  rw [this]
  exact h.wf k x hk
 have keep:∀ {p:Place} {v:Value} {d:D},(¬ (Place.slot u).under p)→Rep S w p v d→Rep S (w.setRow b CUR) p v d:=fun {p v d} hp hr=>
  hr.trans h.wf htr rfl (fun k q l hs hu=>⟨hother k (fun e=>by subst e;rw [hb] at hs;cases hs;exact hp hu),hs⟩) (fun _=>rfl) fun t _ ht=>⟨rfl,ht⟩
 have hlt:u < fr.length:=(bC hd)
 have hlt':u < (fr.map (mI u off vs.length)).length:=by simpa using hlt
 have hobj:∀ {x:Nat},(∃ cs,fr[x]?=some (D.obj cs))→∃ cs',((fr.map (mI u off vs.length)).set u (D.obj (cs.take off++vs++cs.drop (off+vs.length))))[x]?=some (D.obj cs'):=fun {x} ⟨cs',hc'⟩=>by
  by_cases hxu:u=x
  ·subst hxu;exact ⟨_,List.getElem?_set_self hlt'⟩
  ·exact ⟨cs',by rw [List.getElem?_set_ne hxu,List.getElem?_map,hc'];rfl⟩
 have hrk:∀ e,bM fr e→bM ((fr.map (mI u off vs.length)).set u (.obj (cs.take off++vs++cs.drop (off+vs.length)))) e:=fun e he x hx=>hobj (he x hx)
 have hnew:∀ (i:Nat) (d:D),(cs.take off++vs++cs.drop (off+vs.length))[i]?=some d→(i < off∧cs[i]?=some d)∨(off≤i∧i < off+vs.length∧vs[i - off]?=some d)∨(off+vs.length≤i∧cs[i]?=some d):=fun i d hi=>by
  by_cases h1:i < off
  ·rw [List.append_assoc,List.getElem?_append_left (by simp;omega),List.getElem?_take,if_pos h1] at hi
   exact .inl ⟨h1,hi⟩
  ·by_cases h2:i < off+vs.length
   ·rw [List.append_assoc,List.getElem?_append_right (by simp;omega),List.getElem?_append_left (by simp;omega)] at hi
    refine .inr (.inl ⟨by omega,h2,?_⟩)
    rw [← hi];congr 1;simp;omega
   ·rw [List.getElem?_append_right (by simp;omega),List.getElem?_drop] at hi
    refine .inr (.inr ⟨by omega,?_⟩)
    rw [← hi];congr 1;simp;omega
 have hcell:∀ (i:Nat),CUR[i]?=if i < off then cur[i]? else if i < off+vs.length then us[i - off]? else cur[i]?:=fun i=>by
  rw [← Array.getElem?_toList,hCl]
  by_cases h1:i < off
  ·rw [if_pos h1,List.append_assoc,List.getElem?_append_left (by simp;omega),List.getElem?_take,if_pos h1,Array.getElem?_toList]
  ·rw [if_neg h1]
   by_cases h2:i < off+vs.length
   ·rw [if_pos h2,List.append_assoc,List.getElem?_append_right (by simp;omega),List.getElem?_append_left (by simp;omega)]
    congr 1;simp;omega
   ·rw [if_neg h2,List.getElem?_append_right (by simp;omega),List.getElem?_drop,Array.getElem?_toList]
    congr 1;simp;omega
 refine ⟨htr,hwf,by simp [h.size],h.defers,fun i d v' hi hv' => ?_⟩
 by_cases hiu:i=u
 ·subst hiu
  rw [List.getElem?_set_self hlt'] at hi
  rw [hv] at hv'
  cases hi;cases hv'
  refine SlotRep.of (.obj hb rfl hloc hw' (by simp;omega) (fun j x hj => ?_) fun j d x hj hx => ?_) (hrk _ fun t ht => ?_)
  ·rw [hcell] at hj
   split at hj
   ·exact h1 j x hj
   ·split at hj
    ·exact hc.one x (aK hj)
    ·exact h1 j x hj
  ·rw [hcell] at hx
   rcases hnew j d hj with ⟨q1,q2⟩|⟨q1,q2,q3⟩|⟨q1,q2⟩
   ·rw [if_pos q1] at hx
    exact keep (fun hu=>by obtain ⟨_,l,hl⟩:=hu;simp [Place.slot] at hl) (ih j d x q2 hx)
   ·rw [if_neg (by omega),if_pos q2] at hx
    exact .fz ((hc.fz _ d x q3 hx).trans htr)
   ·rw [if_neg (by omega),if_neg (by omega)] at hx
    exact keep (fun hu=>by obtain ⟨_,l,hl⟩:=hu;simp [Place.slot] at hl) (ih j d x q2 hx)
  ·cases ht with
   |obj hj hm=>
    rcases hnew _ _ hj with ⟨_,q2⟩|⟨q1,q2,q3⟩|⟨_,q2⟩
    ·exact hsl.2 t (.obj q2 hm)
    ·exact absurd hm (hc.fz _ _ _ q3 (List.getElem?_eq_getElem (gM hus q3))).men
    ·exact hsl.2 t (.obj q2 hm)
 ·rw [List.getElem?_set_ne (Ne.symm hiu),List.getElem?_map] at hi
  cases hfi:fr[i]? with
  |none=>rw [hfi] at hi;cases hi
  |some d0=>
  rw [hfi] at hi
  cases hi
  have hs:=h.slot i d0 v' hfi hv'
  have howns:∀ {x:Nat} {d':D},fr[x]?=some d'→d'.owns=true→∃ d'',((fr.map (mI u off vs.length)).set u (.obj (cs.take off++vs++cs.drop (off+vs.length))))[x]?=some d''∧d''.owns=true:=fun {x d'} g2 g3=>by
   by_cases hxu:x=u
   ·subst hxu
    exact ⟨_,List.getElem?_set_self hlt',rfl⟩
   ·exact ⟨d',by rw [List.getElem?_set_ne (Ne.symm hxu),List.getElem?_map,g2];exact congrArg some (zGu g3),g3⟩
  have hcel:∀ {x o:Nat} {y:Value},ObjAt S fr x→(Nat.beq x u && (Nat.ble off o && Nat.blt o (off+vs.length)))=false→w.cell? ⟨S.loc (x+2),o,none⟩=some y→(w.setRow b CUR).cell? ⟨S.loc (x+2),o,none⟩=some y:=fun {x o y} hx hn hy=>by
   by_cases hxu:x=u
   ·subst hxu
    rw [hloc,cell_of_row _ b _ CUR e (0,0) hw',hcell]
    rw [hloc,cell_of_row _ b _ cur e (0,0) hh] at hy
    by_cases h1:o < off
    ·rw [if_pos h1];exact hy
    ·rw [if_neg h1]
     by_cases h2:o < off+vs.length
     ·exfalso
      have e1:Nat.beq x x=true:=Nat.beq_refl x
      have e2:Nat.ble off o=true:=Nat.ble_eq_true_of_le (by omega)
      have e3:Nat.blt o (off+vs.length)=true:=Nat.ble_eq_true_of_le (by omega)
      rw [e1,e2,e3] at hn
      cases hn
     ·rw [if_neg h2];exact hy
   ·have hne:S.loc (x+2) ≠ b:=fun e=>by
     have:=hx.own
     rw [e,hb] at this
     simp only [Place.slot,Option.some.injEq,Prod.mk.injEq,Place.mk.injEq] at this
     omega
    rw [World.cell?_of_block (a:=⟨S.loc (x+2),o,none⟩) (w:=w) (hother _ hne)]
    exact hy
  have hany:∀ {d:D},zG7 u off vs.length d=true→SlotRep S (w.setRow b CUR) a ((fr.map (mI u off vs.length)).set u (.obj (cs.take off++vs++cs.drop (off+vs.length)))) i v' (mI u off vs.length d):=fun {d} hn=>by
   unfold mI
   rw [hn]
   exact SlotRep.of (.fz (.any _)) fun t ht=>by cases ht
  cases d0 with
  |al x=>
   obtain ⟨g1,d',g2,g3,g4⟩:=hs
   obtain ⟨d'',k1,k2⟩:=howns g2 g3
   exact ⟨g1,d'',k1,k2,g4⟩
  |alc x o=>
   cases hn:zG7 u off vs.length (.alc x o) with
   |true=>exact hany hn
   |false=>
    unfold mI
    rw [hn]
    exact ⟨hs.1.mono (w:=w) (w':=w) (hobj hs.1.obj) rfl rfl,hcel hs.1 hn hs.2⟩
  |el x o sz k j=>
   cases hn:zG7 u off vs.length (.el x o sz k j) with
   |true=>exact hany hn
   |false=>
    unfold mI
    rw [hn]
    obtain ⟨g1,s,g2,g3⟩:=hs
    exact ⟨g1.mono (w:=w) (w':=w) (hobj g1.obj) rfl rfl,s,hcel g1 hn g2,g3⟩
  |es x sz k j=>
   obtain ⟨⟨d',g2,g3,g4⟩,s,g1,g5⟩:=hs
   obtain ⟨d'',k1,k2⟩:=howns g2 g3
   exact ⟨⟨d'',k1,k2,g4⟩,s,g1,g5⟩
  |_=>exact ⟨keep (fun hu=>hiu (by have:=hu.1;simp [Place.slot] at this;omega)) hs.1,hrk _ hs.2⟩
theorem FR.allocObjX {S:Sig} {w w':World} {a:Act} {fr:List D} (h:FR S w a fr) {t g:Nat} {d0:D} {ty:TypeId} (ht0:t ≠ 0) (h0:fr[t]?=some d0) (hn:d0.owns=false) (hb:Blk w' g ty us.toArray) (hx:Ext w w') (hg:g=w.heap.size) (hc:CR S.lim w us cs):
  ∃ S',(Trans S w S' w'∧FR S' w' (a.put (some t) (.pointer (some ⟨g,0,none⟩))) (fr.set t (.obj cs)))∧(∀ b,b < w.heap.size→S'.own b=S.own b)∧(∀ r,r ≠ t+2→S'.loc r=S.loc r)∧S'.loc (t+2)=g:=by
 let S':Sig:=⟨fun b=>if b=g then some (.slot t,0) else S.own b,fun r=>if r=t+2 then g else S.loc r⟩
 have hold:∀ b,b < w.heap.size→S'.own b=S.own b:=fun b hb=>if_neg (by omega)
 have hwf:WF S' w':=⟨fun b x hbx=>by
  by_cases hbg:b=g
  ·subst hbg;exact hb.lt
  ·have:S.own b=some x:=by simpa [S',hbg] using hbx
   exact Nat.lt_of_lt_of_le (h.wf b x this) hx.sizeOf,h.wf.gl.keep fun b hb' hn=>⟨hx.block hb',(hold b hb').trans hn⟩⟩
 have htr:Trans S w S' w':=by
  refine ⟨hx.os,hx.tape,hx.output,hx.sizeOf,fun b hb hn=>⟨hx.block hb,by rw [hold b hb];exact hn⟩,fun b p l hb hs _=>⟨hx.block hb,by rw [hold b hb];exact hs⟩,fun b p l hb hs=>⟨Keeps.of_eq (hx.block hb),fun x hx' => ?_⟩,if_neg (by omega)⟩
  rw [hold b hb,hs] at hx'
  cases hx'
  exact Nat.le_refl _
 have hlt:t < fr.length:=(bC h0)
 have hrk:∀ e,bM fr e→bM (fr.set t (.obj cs)) e:=fun e he x hx=>by
  obtain ⟨cs',hc'⟩:=he x hx
  by_cases hxu:t=x
  ·subst hxu;exact ⟨_,List.getElem?_set_self hlt⟩
  ·exact ⟨cs',by rw [List.getElem?_set_ne hxu];exact hc'⟩
 refine ⟨S',⟨htr,hwf,by simp [Act.put,h.size],by simp [Act.put,h.defers],fun i d v hi hv => ?_⟩,hold,fun r hr=>if_neg hr,if_pos rfl⟩
 by_cases hit:i=t
 ·subst hit
  rw [List.getElem?_set_self hlt] at hi
  rw [gL (by rw [h.size];exact hlt)] at hv
  cases hi;cases hv
  refine SlotRep.of (.obj (by simp [S',Place.slot]) rfl (by simp [S']) hb (by simpa using hc.len.symm) (fun j x hj=>hc.one x (by
   have:=Array.mem_of_getElem? hj
   simpa using this)) fun j d x hj hx'=>.fz ((hc.fz j d x hj (by simpa using hx')).trans htr)) fun u hu => ?_
  cases hu with
  |obj hj hm=>
   exact ((hc.fz _ _ _ hj (List.getElem?_eq_getElem (gM hc.len hj))).men hm).elim
 ·rw [List.getElem?_set_ne (Ne.symm hit)] at hi
  rw [bQ hit] at hv
  have hs:=h.slot i d v hi hv
  have nm:∀ {x:Nat},ObjAt S fr x→ObjAt S' (fr.set t (D.obj cs)) x∧∀ (o:Nat) (y:Value),w.cell? ⟨S.loc (x+2),o,none⟩=some y→w'.cell? ⟨S'.loc (x+2),o,none⟩=some y:=fun {x} g=>by
   obtain ⟨cs',hc'⟩:=g.obj
   have hxt:x ≠ t:=fun e=>by subst e;rw [h0] at hc';cases hc';cases hn
   have e1:S'.loc (x+2)=S.loc (x+2):=if_neg (by omega)
   refine ⟨g.mono (w:=w) (w':=w') ⟨cs',by rw [List.getElem?_set_ne (Ne.symm hxt)];exact hc'⟩ e1 (hold _ (h.wf _ _ g.own)),fun o y hy => ?_⟩
   rw [e1,World.cell?_of_block (a:=⟨S.loc (x+2),o,none⟩) (w:=w) (hx.block (h.wf _ _ g.own))]
   exact hy
  have keep:∀ {e:D},Rep S w (.slot i) v e→bM fr e→Rep S' w' (.slot i) v e:=fun {e} hr hf=>
   hr.trans h.wf htr (by simp [S']) (fun k q l hs hu=>⟨hx.block (h.wf k _ hs),by rw [hold k (h.wf k _ hs)];exact hs⟩) (fun _=>if_neg (by simp only [Place.slot];omega)) fun x hm ho=>by
    obtain ⟨cs',hc'⟩:=hf x hm
    have hxt:x ≠ t:=fun e=>by subst e;rw [h0] at hc';cases hc';cases hn
    have e1:S'.loc (x+2)=S.loc (x+2):=if_neg (by omega)
    exact ⟨e1,by rw [hold _ (h.wf _ _ ho)];exact ho⟩
  cases d with
  |al x=>
   obtain ⟨g1,d',g2,g3,g4⟩:=hs
   have hxt:x ≠ t:=fun e=>by subst e;rw [h0] at g2;cases g2;rw [hn] at g3;cases g3
   exact ⟨by rw [bQ hxt];exact g1,d',by rw [List.getElem?_set_ne (Ne.symm hxt)];exact g2,g3,g4⟩
  |alc x o=>
   obtain ⟨g1,g2⟩:=hs
   obtain ⟨k1,k2⟩:=nm g1
   exact ⟨k1,k2 _ _ g2⟩
  |el x o sz k j=>
   obtain ⟨g1,s,g2,g3⟩:=hs
   obtain ⟨k1,k2⟩:=nm g1
   exact ⟨k1,s,k2 _ _ g2,g3⟩
  |es x sz k j=>
   obtain ⟨⟨d',g2,g3,g4⟩,s,g1,g5⟩:=hs
   have hxt:x ≠ t:=fun e=>by subst e;rw [h0] at g2;cases g2;rw [hn] at g3;cases g3
   exact ⟨⟨d',by rw [List.getElem?_set_ne (Ne.symm hxt)];exact g2,g3,g4⟩,s,by rw [bQ hxt];exact g1,g5⟩
  |_=>exact ⟨keep hs.1 hs.2,hrk _ hs.2⟩
theorem FR.allocObj {S:Sig} {w w':World} {a:Act} {fr:List D} (h:FR S w a fr) {t g:Nat} {d0:D} {ty:TypeId} (ht0:t ≠ 0) (h0:fr[t]?=some d0) (hn:d0.owns=false) (hb:Blk w' g ty us.toArray) (hx:Ext w w') (hg:g=w.heap.size) (hc:CR S.lim w us cs):
  ∃ S',Trans S w S' w'∧FR S' w' (a.put (some t) (.pointer (some ⟨g,0,none⟩))) (fr.set t (.obj cs)):=by
 obtain ⟨S',h1,_⟩:=h.allocObjX ht0 h0 hn hb hx hg hc
 exact ⟨S',h1⟩
def objAt (fr:List D):Operand→Option (Nat × Nat)
 |.tmp t=>match fr[t]? with
  |some (.obj _)=>some (t,0)
  |some (.ref u off)=>some (u,off)
  |_=>none
 |_=>none
theorem FR.objAt {S:Sig} {w:World} {a:Act} {fr:List D} (h:FR S w a fr) {x:Operand} {u off:Nat} (hx:Go.Proofs.YtnjgoldinaffgaaGreatDoor.objAt fr x=some (u,off)):∃ cs,fr[u]?=some (.obj cs)∧a.eval x=.pointer (some ⟨S.loc (u+2),off,none⟩):=by
 unfold Go.Proofs.YtnjgoldinaffgaaGreatDoor.objAt at hx
 split at hx
 ·rename_i t
  have ev:∀ v,a.tmps[t]?=some v→a.eval (.tmp t)=v:=fun v hv=>by simp [Act.eval,Array.getD_eq_getD_getElem?,hv]
  split at hx
  ·rename_i cs hd
   cases hx
   obtain ⟨v,hv,hs⟩:=h.at hd
   obtain ⟨b,cur,e,rfl,hb,hloc,_⟩:=hs.1.obj_inv
   exact ⟨cs,hd,by rw [ev _ hv,hloc]⟩
  ·rename_i hd
   cases hx
   obtain ⟨v,hv,hs⟩:=h.at hd
   obtain ⟨cs,hc⟩:=hs.2 u (.ref off)
   refine ⟨cs,hc,?_⟩
   rw [ev v hv]
   have:=hs.1
   cases this with
   |fz h=>cases h
   |ref g=>rfl
  ·cases hx
 ·cases hx
theorem FR.loadObj {S:Sig} {w:World} {a:Act} {fr:List D} (h:FR S w a fr) {u:Nat} (hd:fr[u]?=some (.obj cs)):∃ cv:Nat→Value,∀ (i:Nat) (d:D),cs[i]?=some d→w.cell? ⟨S.loc (u+2),i,none⟩=some (cv i)∧(cv i).oneCell'=true∧Rep S w ⟨u+2,[i]⟩ (cv i) d:=by
 obtain ⟨v,hv,hs⟩:=h.at hd
 obtain ⟨b,cur,e,rfl,hb,hloc,hh,hsz,h1,ih⟩:=hs.1.obj_inv
 refine ⟨fun i=>cur.getD i undef,fun i d hi => ?_⟩
 have hil:i < cur.size:=by rw [← hsz];exact (bC hi)
 have hc:cur[i]?=some (cur.getD i undef):=by simp [Array.getD_eq_getD_getElem?,hil]
 exact ⟨by rw [hloc,cell_of_row w b _ cur e (0,0) hh];exact hc,h1 i _ hc,ih i d _ hi hc⟩
def lV (i:Nat):D→Bool
 |.ref u _ => !(Nat.beq u i)
 |.gref _ u _ => !(Nat.beq u i)
 |.obj cs=>cs.all D.calm1
 |.al u => !(Nat.beq u i)
 |.alc u _ => !(Nat.beq u i)
 |.el u _ _ _ _ => !(Nat.beq u i)
 |.es u _ _ _ => !(Nat.beq u i)
 |.gd _ _=>true
 |d=>d.calm || d.passes
theorem D.passes_men {d:D} (h:d.passes=true) {t:Nat}:¬ Men t d:=by
 have one:∀ {d:D},d.one=true→¬ Men t d:=fun {d} h hm=>by cases hm<;>cases h
 intro hm
 cases hm with
 |ref=>cases h
 |gref=>cases h
 |obj=>cases h
 |tup=>cases h
 |agg hd hm=>exact one (List.all_eq_true.1 h _ (aK hd)) hm
 |fn hd hm=>exact one (List.all_eq_true.1 h _ (aK hd)) hm
theorem zAO {i:Nat} {d:D} (h:lV i d=true):¬ Men i d:=by
 have two:∀ {d:D},(d.calm || d.passes)=true→¬ Men i d:=fun {d} h=>by
  simp only [Bool.or_eq_true] at h
  rcases h with h|h
  ·exact D.calm_men h
  ·exact D.passes_men h
 cases d with
 |ref u o=>
  intro hm
  cases hm
  simp [lV] at h
 |gref c u o=>
  intro hm
  cases hm
  simp [lV] at h
 |obj cs=>
  intro hm
  cases hm with|obj hd hm=>exact D.calm1_men (List.all_eq_true.1 h _ (aK hd)) hm
 |al u=>intro hm;cases hm
 |alc u o=>intro hm;cases hm
 |el u o sz k j=>intro hm;cases hm
 |es u sz k j=>intro hm;cases hm
 |gd c d=>intro hm;cases hm
 |_=>exact two h
theorem FR.freezeObj {S:Sig} {w:World} {a:Act} {fr:List D} (h:FR S w a fr) {u:Nat} (hd:fr[u]?=some (.obj cs)) (ho:cs.all D.one=true) (hs:(fr.set u .any).all (lV u)=true):∃ S',Trans S w S' w∧FR S' w a (fr.set u (.ptr cs)):=by
 obtain ⟨v,hv,hsl⟩:=h.at hd
 obtain ⟨b,cur,e,rfl,hb,hloc,hh,hsz,h1,ih⟩:=hsl.1.obj_inv
 have hbt:BT S w (S.set b none) w b:=BT.ghost h.wf hb (by simp [Place.slot]) (fun y hy=>by cases hy)
 have hlt:u < fr.length:=(bC hd)
 have safe:∀ (i:Nat) (d:D),i ≠ u→fr[i]?=some d→¬ Men u d:=fun i d hi hd'=>by
  refine zAO (List.all_eq_true.1 hs d (aK (i:=i) ?_))
  rw [List.getElem?_set_ne (Ne.symm hi)]
  exact hd'
 refine ⟨_,hbt.tr,hbt.wf,by simp [h.size],h.defers,fun i d v' hi hv' => ?_⟩
 by_cases hiu:i=u
 ·subst hiu
  rw [List.getElem?_set_self hlt] at hi
  rw [hv] at hv'
  cases hi;cases hv'
  refine SlotRep.of (.fz (.ptr (fun j=>cur.getD j undef) (fun j d hj => ?_) fun j d hj => ?_)) fun t ht=>by cases ht
  ·have hjl:j < cur.size:=by rw [← hsz];exact (bC hj)
   have hc:cur[j]?=some (cur.getD j undef):=by simp [Array.getD_eq_getD_getElem?,hjl]
   exact ⟨by rw [Nat.zero_add,cell_of_row w b _ cur e (0,0) hh];exact hc,fun s hs=>by simp [Sig.lim,S.set_at] at hs,h1 j _ hc⟩
  ·have hjl:j < cur.size:=by rw [← hsz];exact (bC hj)
   have hc:cur[j]?=some (cur.getD j undef):=by simp [Array.getD_eq_getD_getElem?,hjl]
   exact (D.one_fz (ih j d _ hj hc) (List.all_eq_true.1 ho d (aK hj))).trans hbt.tr
 ·rw [List.getElem?_set_ne (Ne.symm hiu)] at hi
  have hsi:=h.slot i d v' hi hv'
  have hsx0:lV u d=true:=List.all_eq_true.1 hs d (aK (i:=i) (by rw [List.getElem?_set_ne (Ne.symm hiu)];exact hi))
  have nm:∀ {x:Nat},ObjAt S fr x→x ≠ u→ObjAt (S.set b none) (fr.set u (D.ptr cs)) x:=fun {x} g hxu=>by
   obtain ⟨cs',hc'⟩:=g.obj
   refine g.mono (w:=w) (w':=w) ⟨cs',by rw [List.getElem?_set_ne (Ne.symm hxu)];exact hc'⟩ rfl (S.set_ne _ fun e => ?_)
   have:=g.own
   rw [e,hb] at this
   simp only [Place.slot,Option.some.injEq,Prod.mk.injEq,Place.mk.injEq] at this
   omega
  cases d with
  |al x=>
   obtain ⟨g1,d',g2,g3,g4⟩:=hsi
   by_cases hxu:x=u
   ·exfalso
    have:=safe i _ hiu hi
    subst hxu
    have hsx:=List.all_eq_true.1 hs (.al x) (aK (i:=i) (by rw [List.getElem?_set_ne (Ne.symm hiu)];exact hi))
    simp [lV] at hsx
   ·exact ⟨g1,d',by rw [List.getElem?_set_ne (Ne.symm hxu)];exact g2,g3,g4⟩
  |alc x o=>
   have hxu:x ≠ u:=fun e=>by have:=hsx0;subst e;simp [lV] at this
   exact ⟨nm hsi.1 hxu,hsi.2⟩
  |el x o sz k j=>
   have hxu:x ≠ u:=fun e=>by have:=hsx0;subst e;simp [lV] at this
   exact ⟨nm hsi.1 hxu,hsi.2⟩
  |es x sz k j=>
   have hxu:x ≠ u:=fun e=>by have:=hsx0;subst e;simp [lV] at this
   obtain ⟨⟨d',g2,g3,g4⟩,s,g1,g5⟩:=hsi
   exact ⟨⟨d',by rw [List.getElem?_set_ne (Ne.symm hxu)];exact g2,g3,g4⟩,s,g1,g5⟩
  |_=>
   refine ⟨hsi.1.trans h.wf hbt.tr (by rw [hbt.loc]) (fun c q l hq hu => ?_) (fun _=>by rw [hbt.loc]) (fun t hm ht => ?_),fun t ht => ?_⟩
   ·have hcb:c ≠ b:=fun e=>by
     subst e
     rw [hb] at hq
     cases hq
     have:=hu.1
     simp only [Place.slot] at this
     omega
    exact ⟨rfl,by rw [S.set_ne _ hcb];exact hq⟩
   ·rw [hbt.loc]
    refine ⟨rfl,?_⟩
    have htu:t ≠ u:=fun e=>safe i _ hiu hi (e ▸ hm)
    rw [S.set_ne _ (fun e=>by rw [e,hb] at ht;cases ht;exact htu rfl)]
    exact ht
   ·obtain ⟨cs',hc⟩:=hsi.2 t ht
    have htu:u ≠ t:=fun e=>safe i _ hiu hi (e ▸ ht)
    exact ⟨cs',by rw [List.getElem?_set_ne htu];exact hc⟩
end Go.Proofs.YtnjgoldinaffgaaGreatDoor
namespace Go.Proofs.YtnjgoldinaffgaaGreatDoor
set_option linter.unusedSimpArgs false
set_option linter.unusedVariables false
open Go.RowKit
variable {K:Act→World→Prop} {Q:Exit→Act→World→Prop} {ts:Array TypeId} {xs:List Operand}
def Sig.hand (S:Sig) (u:Nat):Sig:=⟨fun b=>(S.own b).map fun x=>(if x.1.r=u+2 then ⟨2,x.1.path⟩ else .dead,x.2),fun t=>if t=2 then S.loc (u+2) else 0⟩
theorem Sig.hand_lim (S:Sig) (u:Nat):(S.hand u).lim=S.lim:=by
 funext b
 simp only [Sig.lim,Sig.hand]
 cases S.own b<;>rfl
def gR (u:Nat):Option (Place × Nat)→Bool
 |some (q,_)=>q.r == u+2
 |none=>false
def Sig.took (S:Sig) (n u:Nat) (S':Sig) (p:Place):Sig:=
 ⟨fun b=>if b < n∧gR u (S.own b)=false then S.own b else (S'.own b).map fun x=>(if x.1.r=1 then ⟨p.r,p.path++x.1.path⟩ else if x.1.r=2 then ⟨u+2,x.1.path⟩ else .dead,x.2),fun t=>if t=u+2 then S'.loc 2 else S.loc t⟩
theorem zLr {u:Nat} {x:Option (Place × Nat)} (h:gR u x=false):∀ q l,x=some (q,l)→q.r ≠ u+2:=fun q l e he=>by
 subst e
 simp [gR,he] at h
section
variable {S S':Sig} {w w':World} {u:Nat} {p:Place}
theorem gY (ht:Trans (S.hand u) w S' w') {b:Nat} (hb:b < w.heap.size) (hn:gR u (S.own b)=false):w'.heap[b]?=w.heap[b]?∧S'.own b=(S.own b).map fun x=>(.dead,x.2):=by
 cases ho:S.own b with
 |none=>
  have h0:(S.hand u).own b=none:=by simp [Sig.hand,ho]
  obtain ⟨k1,k2⟩:=ht.free b hb h0
  exact ⟨k1,k2⟩
 |some y=>
  obtain ⟨q,l⟩:=y
  have hq:q.r ≠ u+2:=zLr hn q l ho
  have h0:(S.hand u).own b=some (.dead,l):=by simp [Sig.hand,ho,hq]
  obtain ⟨k1,k2⟩:=ht.foreign b _ _ hb h0 rfl
  exact ⟨k1,k2⟩
theorem zCj (ht:Trans (S.hand u) w S' w'):(S.took w.heap.size u S' p).lim=S'.lim:=by
 funext b
 simp only [Sig.lim,Sig.took]
 split
 ·rename_i h
  rw [(gY ht h.1 h.2).2]
  cases S.own b<;>rfl
 ·cases S'.own b<;>rfl
theorem mJ (ht:Trans (S.hand u) w S' w'):Trans S w (S.took w.heap.size u S' p) w':=by
 refine ⟨ht.os,ht.tape,ht.output,ht.size,fun b hb hn => ?_,fun b q l hb hs hd => ?_,fun b q l hb hs => ?_,?_⟩
 ·have hno:gR u (S.own b)=false:=by rw [hn];rfl
  refine ⟨(gY ht hb hno).1,?_⟩
  simp only [Sig.took]
  rw [if_pos ⟨hb,hno⟩]
  exact hn
 ·have hno:gR u (S.own b)=false:=by rw [hs];simp [gR,hd]
  refine ⟨(gY ht hb hno).1,?_⟩
  simp only [Sig.took]
  rw [if_pos ⟨hb,hno⟩]
  exact hs
 ·by_cases hno:gR u (S.own b)=false
  ·refine ⟨Keeps.of_eq (gY ht hb hno).1,fun x hx => ?_⟩
   simp only [Sig.took] at hx
   rw [if_pos ⟨hb,hno⟩,hs] at hx
   cases hx
   exact Nat.le_refl _
  ·have hq:q.r=u+2:=by rw [hs] at hno;simpa [gR] using hno
   have h0:(S.hand u).own b=some (⟨2,q.path⟩,l):=by simp [Sig.hand,hs,hq]
   obtain ⟨k1,k2⟩:=ht.held b _ _ hb h0
   refine ⟨k1,fun x hx => ?_⟩
   simp only [Sig.took] at hx
   rw [if_neg (fun e=>hno e.2)] at hx
   simp only [Option.map_eq_some_iff] at hx
   obtain ⟨y,hy,rfl⟩:=hx
   exact k2 y hy
 ·simp only [Sig.took]
  split
  ·rename_i h
   have hu:u=0:=by omega
   subst hu
   have:=ht.loc2
   simpa [Sig.hand] using this
  ·rfl
theorem zFq (hw:WF S w) (ht:Trans (S.hand u) w S' w') (hw':WF S' w'):WF (S.took w.heap.size u S' p) w':=hw.of (mJ ht) fun b x hb=>by
 simp only [Sig.took] at hb
 split at hb
 ·exact Nat.lt_of_lt_of_le (hw b x hb) ht.size
 ·simp only [Option.map_eq_some_iff] at hb
  obtain ⟨y,hy,_⟩:=hb
  exact hw' b y hy
theorem lQ (ht:Trans (S.hand u) w S' w') {b:Nat} {q:Place} {l:Nat} (ho:S'.own b=some (q,l)) (hq:q.r ≠ 0):(S.took w.heap.size u S' p).own b=some (if q.r=1 then ⟨p.r,p.path++q.path⟩ else if q.r=2 then ⟨u+2,q.path⟩ else .dead,l):=by
 have hno:¬ (b < w.heap.size∧gR u (S.own b)=false):=fun ⟨hb,hn⟩=>by
  have:=(gY ht hb hn).2
  rw [ho] at this
  cases hs:S.own b with
  |none=>rw [hs] at this;cases this
  |some y=>rw [hs] at this;cases this;exact hq rfl
 simp only [Sig.took]
 rw [if_neg hno,ho]
 rfl
theorem Rep.took (ht:Trans (S.hand u) w S' w') {v:Value} {d:D}:∀ {x:List Nat},d.calm=true→Rep S' w' ⟨1,x⟩ v d→Rep (S.took w.heap.size u S' p) w' ⟨p.r,p.path++x⟩ v d:=by
 have hlim:=zCj (p:=p) ht
 have hown:∀ {x:List Nat} {v:Value} {d:D},d.calm1=true→Rep S' w' ⟨1,x⟩ v d→Rep (S.took w.heap.size u S' p) w' ⟨p.r,p.path++x⟩ v d:=by
  intro x v d hc hr
  cases hr with
  |fz hf=>exact .fz (by rw [hlim];exact hf)
  |@own _ b cap m sz rows cur e g=>
   refine .own ⟨g.mode,g.heap,g.le,g.max,g.size,g.each,?_,fun k r j d hk hd => ?_⟩
   ·rw [lQ ht g.own (by simp)]
    simp
   ·obtain ⟨y,h1,h2,h3⟩:=g.cells k r j d hk hd
    exact ⟨y,h1,h2,by rw [hlim];exact h3⟩
  |@mp _ b clock kd es ents hown hh he hk=>
   refine .mp ?_ hh he hk
   rw [lQ ht hown (by simp)]
   simp
  |obj=>cases hc
  |ref=>cases hc
  |gref=>cases hc
  |fn=>cases hc
  |agg=>cases hc
  |tup=>cases hc
 have hagg:∀ {x:List Nat} {v:Value} {cs:List D},cs.all D.calm1=true→Rep S' w' ⟨1,x⟩ v (.agg cs)→Rep (S.took w.heap.size u S' p) w' ⟨p.r,p.path++x⟩ v (.agg cs):=by
  intro x v cs hc hr
  obtain ⟨vs,rfl,h1,h2,h3⟩:=hr.agg_inv
  refine .agg vs h1 h2 fun j d v hd hv => ?_
  have:=hown (List.all_eq_true.1 hc d (aK hd)) (h3 j d v hd hv)
  simpa [Place.at,List.append_assoc] using this
 intro x hc hr
 cases d with
 |agg cs=>exact hagg hc hr
 |tup ds=>
  obtain ⟨vs,rfl,h1,h3⟩:=hr.tup_inv
  refine .tup vs h1 fun j d v hd hv => ?_
  have hc1:=List.all_eq_true.1 hc d (aK hd)
  have h4:=h3 j d v hd hv
  have:Rep (S.took w.heap.size u S' p) w' ⟨p.r,p.path++(x ++ [j])⟩ v d:=by
   cases d with
   |agg cs=>exact hagg hc1 h4
   |_=>exact hown hc1 h4
  simpa [Place.at,List.append_assoc] using this
 |any=>exact .fz (.any v)
 |_=>exact hown hc hr
def D.left:D→Bool
 |.obj cs=>cs.all D.calm1
 |d=>d.calm1
theorem Rep.took0 (ht:Trans (S.hand u) w S' w') {v:Value} {d:D} (hc:d.left=true) (hr:Rep S' w' (.slot 0) v d):Rep (S.took w.heap.size u S' p) w' (.slot u) v d:=by
 have hlim:=zCj (p:=p) ht
 have hown:∀ {x:List Nat} {v:Value} {d:D},d.calm1=true→Rep S' w' ⟨2,x⟩ v d→Rep (S.took w.heap.size u S' p) w' ⟨u+2,x⟩ v d:=by
  intro x v d hc hr
  cases hr with
  |fz hf=>exact .fz (by rw [hlim];exact hf)
  |@own _ b cap m sz rows cur e g=>
   refine .own ⟨g.mode,g.heap,g.le,g.max,g.size,g.each,?_,fun k r j d hk hd => ?_⟩
   ·rw [lQ ht g.own (by simp)]
    simp
   ·obtain ⟨y,h1,h2,h3⟩:=g.cells k r j d hk hd
    exact ⟨y,h1,h2,by rw [hlim];exact h3⟩
  |@mp _ b clock kd es ents hown hh he hk=>
   refine .mp ?_ hh he hk
   rw [lQ ht hown (by simp)]
   simp
  |obj=>cases hc
  |ref=>cases hc
  |gref=>cases hc
  |fn=>cases hc
  |agg=>cases hc
  |tup=>cases hc
 cases d with
 |obj cs=>
  cases hr with
  |fz h=>cases h
  |@obj _ b _ _ cur e hb hp hl hh hs h1 ih=>
   refine .obj (b:=b) ?_ rfl ?_ hh hs h1 fun i d v hd hv=>hown (List.all_eq_true.1 hc d (aK hd)) (ih i d v hd hv)
   ·rw [lQ ht hb (by simp)]
    simp
   ·simp only [Sig.took,if_true]
    exact hl
 |any=>exact .fz (.any v)
 |_=>exact hown hc hr
theorem xF {fr:List D} (hw:WF S w) (ht:Trans (S.hand u) w S' w') {i:Nat} {e:D} {v:Value} (hi:i ≠ u) (hr:Rep S w (.slot i) v e) (hf:bM fr e) (hu:(∀ cs,fr[u]? ≠ some (.obj cs))∨(S'.loc 2=S.loc (u+2)∧S'.own (S.loc (u+2))=some (⟨2,[]⟩,0))):Rep (S.took w.heap.size u S' p) w' (.slot i) v e:=by
 have old:∀ b q l,S.own b=some (q,l)→q.r ≠ u+2→w'.heap[b]?=w.heap[b]?∧(S.took w.heap.size u S' p).own b=some (q,l):=fun b q l hs hq=>by
  have hb:=hw _ _ hs
  have hno:gR u (S.own b)=false:=by rw [hs];simp [gR,hq]
  refine ⟨(gY ht hb hno).1,?_⟩
  simp only [Sig.took]
  rw [if_pos ⟨hb,hno⟩]
  exact hs
 have hloc:∀ t,t ≠ u+2→(S.took w.heap.size u S' p).loc t=S.loc t:=fun t h=>by simp only [Sig.took,if_neg h]
 refine hr.trans hw (mJ ht) (hloc 0 (by omega)) (fun b q l hs hu'=>old b q l hs fun e => ?_) (fun _=>hloc _ (by simp only [Place.slot];omega)) fun t hm ho => ?_
 ·have:=hu'.1
  simp only [Place.slot] at this
  omega
 ·by_cases htu:t=u
  ·subst htu
   obtain ⟨cs,hc⟩:=hf t hm
   rcases hu with h|⟨h1,h2⟩
   ·exact absurd hc (h cs)
   ·refine ⟨by simp only [Sig.took,if_true];exact h1,?_⟩
    rw [lQ ht h2 (by simp)]
    simp [Place.slot]
  ·exact ⟨hloc _ (by omega),(old _ _ _ ho (by simp only [Place.slot];omega)).2⟩
end
theorem D.left_men {d:D} (h:d.left=true) {t:Nat}:¬ Men t d:=by
 intro hm
 cases hm with
 |obj hd hm=>exact D.calm1_men (List.all_eq_true.1 h _ (aK hd)) hm
 |ref=>cases h
 |gref=>cases h
 |fn=>cases h
 |agg=>cases h
 |tup=>cases h
theorem Rep.handed {S:Sig} {w:World} {u:Nat} {v:Value} {d:D} (hc:d.left=true) (hr:Rep S w (.slot u) v d):Rep (S.hand u) w (.slot 0) v d:=by
 have hlim:=S.hand_lim u
 have hown:∀ {x:List Nat} {v:Value} {d:D},d.calm1=true→Rep S w ⟨u+2,x⟩ v d→Rep (S.hand u) w ⟨2,x⟩ v d:=by
  intro x v d hc hr
  cases hr with
  |fz hf=>exact .fz (by rw [hlim];exact hf)
  |@own _ b cap m sz rows cur e g=>
   refine .own ⟨g.mode,g.heap,g.le,g.max,g.size,g.each,by simp [Sig.hand,g.own],fun k r j d hk hd => ?_⟩
   obtain ⟨y,h1,h2,h3⟩:=g.cells k r j d hk hd
   exact ⟨y,h1,h2,by rw [hlim];exact h3⟩
  |@mp _ b clock kd es ents hown hh he hk=>exact .mp (by simp [Sig.hand,hown]) hh he hk
  |obj=>cases hc
  |ref=>cases hc
  |gref=>cases hc
  |fn=>cases hc
  |agg=>cases hc
  |tup=>cases hc
 cases d with
 |obj cs=>
  cases hr with
  |fz h=>cases h
  |@obj _ b _ _ cur e hb hp hl hh hs h1 ih=>
   refine .obj (b:=b) (by simp [Sig.hand,hb]) rfl ?_ hh hs h1 fun i d v hd hv=>hown (List.all_eq_true.1 hc d (aK hd)) (ih i d v hd hv)
   simp only [Sig.hand,if_true]
   exact hl
 |any=>exact .fz (.any v)
 |_=>exact hown hc hr
def SemO (P:Program) (f:Nat) (d0:D) (rest:List D) (d:D) (out:Option D):Prop:=
 Enters P f∧d.calm=true∧(∀ d',out=some d'→d'.left=true)∧∀ (S:Sig) (w:World) (v0:Value) (vs:List Value),WF S w→Rep S w (.slot 0) v0 d0→vs.length=rest.length→(∀ (i:Nat) (d:D) (v:Value),rest[i]?=some d→vs[i]?=some v→Fz S.lim w v d)→
  Calls P f (v0::vs).toArray w fun e w'=>∃ v S',e=.returned v∧WF S' w'∧Trans S w S' w'∧Rep S' w' .res v d∧∀ d',out=some d'→Rep S' w' (.slot 0) v0 d'
theorem SemO.of {P:Program} {f:Nat} {d0 d:D} {rest:List D} (h:Sem P f (d0::rest) d):SemO P f d0 rest d none:=by
 obtain ⟨h1,h2,h3⟩:=h
 refine ⟨h1,h2,(fun d' hd=>nomatch hd),fun S w v0 vs hw hr hl hf => ?_⟩
 refine (h3 S w (v0::vs) hw (by simp [hl]) fun i d v hd hv => ?_).mono fun e w' ⟨v,S',he,k1,k2,k3⟩=>⟨v,S',he,k1,k2,k3,fun d' hd=>by cases hd⟩
 cases i with
 |zero=>cases hd;cases hv;exact hr
 |succ i=>exact .fz (hf i d v (by simpa using hd) (by simpa using hv))
section
variable {P:Program} {dst:Option Tmp} {ty:TypeId} {pos:String} {after:Array Edge} {guard:Option (Nat × Bool)}
theorem tX {f:Nat} {x:Operand} {d0:D} {ds':List D} {d:D} {out:Option D} {ρ:Operand→D} {S:Sig} {w:World} {a:Act} {u:Nat} (hwf:WF S w) (hleft:d0.left=true) (hsl:Rep S w (.slot u) (a.eval x) d0) (hops:∀ y ∈ xs,∃ q,Rep S w q (a.eval y) (ρ y))
  (hargs:DLes (xs.map ρ) ds') (hp:ds'.all D.passes=true) (hsem:SemO P f d0 ds' d out) 
  (hK:∀ v S' w',WF S' w'→Trans (S.hand u) w S' w'→Rep S' w' .res v d→(∀ d',out=some d'→Rep S' w' (.slot 0) (a.eval x) d')→K (a.put dst v) w'):(Oper.mk dst (.call ⟨.value (.func f),(x::xs).toArray,ts⟩) ty pos after guard).wp P a w K Q:=by
 obtain ⟨hen,hcalm,hcal1,hcall⟩:=hsem
 haveI:=hen
 have hlim:=S.hand_lim u
 have hfz:∀ (i:Nat) (d:D) (v:Value),ds'[i]?=some d→(xs.map a.eval)[i]?=some v→Fz (S.hand u).lim w v d:=fun i d v hd' hv=>by
  rw [hlim]
  rw [List.getElem?_map] at hv
  cases hx:xs[i]? with
  |none=>rw [hx] at hv;cases hv
  |some y=>
   rw [hx] at hv
   cases hv
   obtain ⟨q,hq⟩:=hops y (aK hx)
   have hle:=hargs.get (i:=i) (d:=ρ y) (by rw [List.getElem?_map,hx];rfl) hd'
   exact (Rep.le hle hq).passes (List.all_eq_true.1 hp d (aK hd'))
 have hwh:WF (S.hand u) w:=⟨fun b x hb=>by
  simp only [Sig.hand,Option.map_eq_some_iff] at hb
  obtain ⟨y,hy,_⟩:=hb
  exact hwf b y hy,hwf.gl.sig fun b hb=>by simp [Sig.hand,hb]⟩
 have hrep0:=hsl.handed hleft
 refine zBH (hcall (S.hand u) w (a.eval x) (xs.map a.eval) hwh hrep0 (by rw [hargs.len];simp) hfz) (by apply Array.ext';simp) fun e w' ⟨v,S',he,hw',ht,hrep,hout⟩ => ?_
 subst he
 exact hK v S' w' hw' ht hrep hout
theorem wM {S S':Sig} {w w':World} {u:Nat} {p:Place} {fr fr':List D} (hw:WF S w) (ht:Trans (S.hand u) w S' w') {x:Nat} (hx:ObjAt S fr x) (hxu:x ≠ u) (hf:∃ cs,fr'[x]?=some (.obj cs)):
  ObjAt (S.took w.heap.size u S' p) fr' x∧∀ o y,w.cell? ⟨S.loc (x+2),o,none⟩=some y→w'.cell? ⟨(S.took w.heap.size u S' p).loc (x+2),o,none⟩=some y:=by
 have hb:=hw _ _ hx.own
 have hm:gR u (S.own (S.loc (x+2)))=false:=by
  rw [hx.own]
  simp only [gR,Place.slot,beq_eq_false_iff_ne]
  omega
 have hl:(S.took w.heap.size u S' p).loc (x+2)=S.loc (x+2):=if_neg (by omega)
 refine ⟨hx.mono (w:=w) (w':=w') hf hl (if_pos ⟨hb,hm⟩),fun o y hy => ?_⟩
 rw [hl,World.cell?_of_block (a:=⟨S.loc (x+2),o,none⟩) (w:=w) (gY ht hb hm).1]
 exact hy
def nmU (u:Nat):D→Bool
 |.alc x _=>Nat.beq x u
 |.el x _ _ _ _=>Nat.beq x u
 |_=>false
def qB (u:Nat) (d:D):D:=match nmU u d with
 |true=>.any
 |false=>d
theorem zHQ {u:Nat} {fr:List D} (h:fr.any (nmU u)=false):fr.map (qB u)=fr:=by
  have:∀ d ∈ fr,qB u d=d:=fun d hd=>by
    have:=List.any_eq_false.1 h d hd
    unfold qB
    rw [Bool.not_eq_true] at this
    rw [this]
  calc fr.map (qB u)=fr.map id:=List.map_congr_left this
    _=fr:=List.map_id fr
theorem zGt {u:Nat} {d:D} (h:d.owns=true):qB u d=d:=by
 cases d<;>first|rfl|cases h
theorem zKe {fr:List D} {u:Nat} {d0:D} (hd:fr[u]?=some d0) (hn:d0.isObj=false) (d1:D):∀ e,bM fr e→bM ((fr.map (bI u .any)).set u d1) e:=fun e he x hx=>by
 obtain ⟨cs,hc⟩:=he x hx
 have hxu:u ≠ x:=fun e=>by subst e;rw [hd] at hc;cases hc;cases hn
 exact ⟨cs,by rw [List.getElem?_set_ne hxu,List.getElem?_map,hc];rfl⟩
theorem zIu {f:Nat} {x:Operand} {d0:D} (hn:d0.isObj=false) (hleft:d0.left=true) {ds':List D} {d:D} {out:Option D} {S:Sig} {w:World} {a:Act} {fr:List D} (hF:FR S w a fr) {u:Nat} (hd:fr[u]?=some d0) (hs:a.tmps[u]?=some (a.eval x)) (hsl:Rep S w (.slot u) (a.eval x) d0)
  (hargs:DLes (xs.map (bD fr)) ds') (hp:ds'.all D.passes=true) (hsem:SemO P f d0 ds' d out) {p:Place} 
  (hK:∀ v S' w',Trans S w S' w'→FR S' w' a ((fr.map (bI u .any)).set u (out.getD .any))→Rep S' w' p v d→K (a.put dst v) w'):(Oper.mk dst (.call ⟨.value (.func f),(x::xs).toArray,ts⟩) ty pos after guard).wp P a w K Q:=by
 refine tX hF.wf hleft hsl (fun y _=>hF.eval y) hargs hp hsem fun v S' w' hw' ht hrep hout => ?_
 obtain ⟨_,hcalm,hcal1,_⟩:=hsem
 have hT':=mJ (p:=p) ht
 have hfin:=Rep.took (p:=p) ht (x := []) hcalm hrep
 rw [List.append_nil] at hfin
 refine hK v (S.took w.heap.size u S' p) w' hT' ?_ hfin
 have hlt:u < fr.length:=(bC hd)
 have hrk:=zKe hd hn (out.getD .any)
 refine ⟨zFq hF.wf ht hw',by simp [hF.size],hF.defers,fun i e v hi hv => ?_⟩
 by_cases hiu:i=u
 ·subst hiu
  rw [List.getElem?_set_self (by simpa using hlt)] at hi
  cases hi
  rw [hs] at hv
  cases hv
  cases out with
  |none=>exact SlotRep.of (.fz (.any _)) fun t ht=>by cases ht
  |some d'=>exact SlotRep.of (Rep.took0 (p:=p) ht (hcal1 d' rfl) (hout d' rfl)) fun t hm=>absurd hm (D.left_men (hcal1 d' rfl))
 ·rw [List.getElem?_set_ne (Ne.symm hiu),List.getElem?_map] at hi
  cases hfi:fr[i]? with
  |none=>rw [hfi] at hi;cases hi
  |some e0=>
   rw [hfi] at hi
   cases hi
   have hs:=hF.slot i e0 v hfi hv
   cases e0 with
   |al y=>
    obtain ⟨h1,d',h2,h3,h4⟩:=hs
    by_cases hyu:y=u
    ·simp only [bI,if_pos hyu]
     exact SlotRep.of (.fz (.any _)) fun t ht=>by cases ht
    ·simp only [bI,if_neg hyu]
     refine ⟨h1,d',?_,h3,h4⟩
     rw [List.getElem?_set_ne (Ne.symm hyu),List.getElem?_map,h2]
     cases d'<;>first|rfl|cases h3
   |alc y o=>
    obtain ⟨q1,q2⟩:=eG (r0:=.any) hd hn hs.1.obj
    obtain ⟨k1,k2⟩:=wM (p:=p) hF.wf ht hs.1 (Ne.symm q1) (fF q1 hs.1.obj)
    exact ⟨k1,k2 _ _ hs.2⟩
   |el y o sz k j=>
    obtain ⟨g1,s,g2,g3⟩:=hs
    obtain ⟨q1,q2⟩:=eG (r0:=.any) hd hn g1.obj
    obtain ⟨k1,k2⟩:=wM (p:=p) hF.wf ht g1 (Ne.symm q1) (fF q1 g1.obj)
    exact ⟨k1,s,k2 _ _ g2,g3⟩
   |es y sz k j=>
    obtain ⟨⟨d',h2,h3,h4⟩,s,h1,h5⟩:=hs
    by_cases hyu:y=u
    ·simp only [bI,if_pos hyu]
     exact SlotRep.of (.fz (.any _)) fun t ht=>by cases ht
    ·simp only [bI,if_neg hyu]
     refine ⟨⟨d',?_,h3,h4⟩,s,h1,h5⟩
     rw [List.getElem?_set_ne (Ne.symm hyu),List.getElem?_map,h2]
     cases d'<;>first|rfl|cases h3
   |_=>exact ⟨xF hF.wf ht hiu hs.1 hs.2 (.inl fun cs h=>by rw [hd] at h;cases h;cases hn),hrk _ hs.2⟩
theorem zGL {f:Nat} {x:Operand} {cs cs':List D} {ds':List D} {d:D} {S:Sig} {w:World} {a:Act} {fr:List D} (hF:FR S w a fr) {u:Nat} (hd:fr[u]?=some (.obj cs)) (hc:cs.all D.calm1=true) (hs:a.eval x=.pointer (some ⟨S.loc (u+2),0,none⟩))
  (hargs:DLes (xs.map (bD fr)) ds') (hp:ds'.all D.passes=true) (hsem:SemO P f (.obj cs) ds' d (some (.obj cs'))) {p:Place} 
  (hK:∀ v S' w',Trans S w S' w'→FR S' w' a ((fr.map (qB u)).set u (.obj cs'))→Rep S' w' p v d→K (a.put dst v) w'):(Oper.mk dst (.call ⟨.value (.func f),(x::xs).toArray,ts⟩) ty pos after guard).wp P a w K Q:=by
 obtain ⟨v0,hv0,hsl⟩:=hF.at hd
 have hb0:v0=a.eval x:=by
  rw [hs]
  cases hsl.1 with
  |fz h=>cases h
  |obj hb hp hl hh hs h1 ih=>subst hl;rfl
 subst hb0
 refine tX (d0:=.obj cs) hF.wf hc hsl.1 (fun y _=>hF.eval y) hargs hp hsem fun v S' w' hw' ht hrep hout => ?_
 obtain ⟨_,hcalm,hcal1,_⟩:=hsem
 have hT':=mJ (p:=p) ht
 have hfin:=Rep.took (p:=p) ht (x := []) hcalm hrep
 rw [List.append_nil] at hfin
 refine hK v (S.took w.heap.size u S' p) w' hT' ?_ hfin
 have hlt:u < fr.length:=(bC hd)
 have ho:=hout _ rfl
 have hob:S'.loc 2=S.loc (u+2)∧S'.own (S.loc (u+2))=some (⟨2,[]⟩,0):=by
  clear hfin hK hout
  generalize a.eval x=v1 at ho hs
  cases ho with
  |fz h=>cases h
  |obj hb hp hl hh _ h1 ih=>
   have he:=congrArg (fun v:Value=>match v with | .pointer (some q)=>q.block|_=>0) hs
   simp only at he
   rw [← he]
   exact ⟨hl,hb⟩
 have hlt':u < (fr.map (qB u)).length:=by simpa using hlt
 have hobj:∀ {y:Nat},(∃ cs,fr[y]?=some (D.obj cs))→∃ c,((fr.map (qB u)).set u (D.obj cs'))[y]?=some (D.obj c):=fun {y} ⟨c,h⟩=>by
  by_cases hyu:y=u
  ·subst hyu;exact ⟨cs',List.getElem?_set_self hlt'⟩
  ·exact ⟨c,by rw [List.getElem?_set_ne (Ne.symm hyu),List.getElem?_map,h];rfl⟩
 have hrk:∀ e,bM fr e→bM ((fr.map (qB u)).set u (.obj cs')) e:=fun e he y hy=>hobj (he y hy)
 have howns:∀ {y:Nat} {d':D},fr[y]?=some d'→d'.owns=true→∃ d'',((fr.map (qB u)).set u (D.obj cs'))[y]?=some d''∧d''.owns=true:=fun {y d'} g2 g3=>by
  by_cases hyu:y=u
  ·subst hyu
   exact ⟨_,List.getElem?_set_self hlt',rfl⟩
  ·exact ⟨d',by rw [List.getElem?_set_ne (Ne.symm hyu),List.getElem?_map,g2];exact congrArg some (zGt g3),g3⟩
 refine ⟨zFq hF.wf ht hw',by simp [hF.size],hF.defers,fun i e v hi hv => ?_⟩
 by_cases hiu:i=u
 ·subst hiu
  rw [List.getElem?_set_self hlt'] at hi
  cases hi
  rw [hv0] at hv
  cases hv
  exact SlotRep.of (Rep.took0 (p:=p) ht (hcal1 _ rfl) ho) fun t hm=>absurd hm (D.left_men (hcal1 _ rfl))
 ·rw [List.getElem?_set_ne (Ne.symm hiu),List.getElem?_map] at hi
  cases hfi:fr[i]? with
  |none=>rw [hfi] at hi;cases hi
  |some e0=>
  rw [hfi] at hi
  cases hi
  have hs:=hF.slot i e0 v hfi hv
  cases e0 with
  |al y=>
   obtain ⟨h1,d',h2,h3,h4⟩:=hs
   obtain ⟨d'',k1,k2⟩:=howns h2 h3
   exact ⟨h1,d'',k1,k2,h4⟩
  |alc y o=>
   cases hn:nmU u (.alc y o) with
   |true=>
    unfold qB
    rw [hn]
    exact SlotRep.of (.fz (.any _)) fun t ht=>by cases ht
   |false=>
    unfold qB
    rw [hn]
    obtain ⟨k1,k2⟩:=wM (p:=p) hF.wf ht hs.1 (fun e=>by subst e;simp [nmU] at hn) (hobj hs.1.obj)
    exact ⟨k1,k2 _ _ hs.2⟩
  |el y o sz k j=>
   cases hn:nmU u (.el y o sz k j) with
   |true=>
    unfold qB
    rw [hn]
    exact SlotRep.of (.fz (.any _)) fun t ht=>by cases ht
   |false=>
    unfold qB
    rw [hn]
    obtain ⟨g1,s,g2,g3⟩:=hs
    obtain ⟨k1,k2⟩:=wM (p:=p) hF.wf ht g1 (fun e=>by subst e;simp [nmU] at hn) (hobj g1.obj)
    exact ⟨k1,s,k2 _ _ g2,g3⟩
  |es y sz k j=>
   obtain ⟨⟨d',h2,h3,h4⟩,s,h1,h5⟩:=hs
   obtain ⟨d'',k1,k2⟩:=howns h2 h3
   exact ⟨⟨d'',k1,k2,h4⟩,s,h1,h5⟩
  |_=>exact ⟨xF hF.wf ht hiu hs.1 hs.2 (.inr hob),hrk _ hs.2⟩
def uO (P:Program) (f:Nat) (d0:D) (args:List D) (d:D) (out:Option D):Prop:=∃ d1 ds',d0=d1∧DLes args ds'∧ds'.all D.passes=true∧SemO P f d1 ds' d out
end
end Go.Proofs.YtnjgoldinaffgaaGreatDoor
namespace Go.Proofs.YtnjgoldinaffgaaGreatDoor
set_option linter.unusedSimpArgs false
set_option linter.unusedVariables false
open Go.RowKit
variable {S:Sig} {a:Act} {cs:List D} {cur:Array Value} {off u:Nat} {rows:List (List D)} {w:World}
theorem BT.repC {S':Sig} {w':World} {b0 l0:Nat} (h:BT S w S' w' b0) (hw:WF S w) (h0:S.own b0=some (⟨u+2,[off]⟩,l0)) {p:Place} {e:D} {v:Value} (hp:¬ (⟨u+2,[off]⟩:Place).under p) (hr:Rep S w p v e):Rep S' w' p v e:=by
 refine hr.trans hw h.tr (by rw [h.loc]) (fun b q l hs hu => ?_) (fun _=>by rw [h.loc]) fun t hm ht => ?_
 ·have hb:b ≠ b0:=fun e=>by
   subst e
   rw [h0] at hs
   cases hs
   exact hp hu
  exact ⟨h.heap b (hw _ _ hs) hb,by rw [h.own b (hw _ _ hs) hb];exact hs⟩
 ·rw [h.loc]
  have hb:S.loc (t+2) ≠ b0:=fun e=>by
   rw [e,h0] at ht
   simp [Place.slot] at ht
  exact ⟨rfl,by rw [h.own _ (hw _ _ ht) hb];exact ht⟩
theorem FR.recellG {S':Sig} {w':World} {fr:List D} (h:FR S w a fr) (hwf:WF S' w') (hloc':S'.loc=S.loc) (hold:∀ b x,S.own b=some (.slot x,0)→w'.heap[b]?=w.heap[b]?∧S'.own b=S.own b)
  (keep:∀ {p:Place} {e:D} {v:Value},¬ (⟨u+2,[off]⟩:Place).under p→Rep S w p v e→Rep S' w' p v e) (hd:fr[u]?=some (.obj cs))
  {r0:D} (hr:∀ x,w.cell? ⟨S.loc (u+2),off,none⟩=some x→Rep S' w' ⟨u+2,[off]⟩ x r0) (hm:∀ t,¬ Men t r0):FR S' w' a (fr.set u (.obj (cs.set off r0))):=by
 have hlt:u < fr.length:=(bC hd)
 have hobj:∀ {x:Nat},(∃ cs,fr[x]?=some (D.obj cs))→∃ cs',(fr.set u (D.obj (cs.set off r0)))[x]?=some (D.obj cs'):=fun {x} ⟨cs',hc'⟩=>by
  by_cases hxu:u=x
  ·subst hxu;exact ⟨_,List.getElem?_set_self hlt⟩
  ·exact ⟨cs',by rw [List.getElem?_set_ne hxu];exact hc'⟩
 have hrk:∀ e,bM fr e→bM (fr.set u (.obj (cs.set off r0))) e:=fun e he x hx=>hobj (he x hx)
 have howns:∀ {x:Nat} {d':D},fr[x]?=some d'→d'.owns=true→∃ d'',(fr.set u (D.obj (cs.set off r0)))[x]?=some d''∧d''.owns=true:=fun {x d'} g2 g3=>by
  by_cases hxu:u=x
  ·subst hxu;exact ⟨_,List.getElem?_set_self hlt,rfl⟩
  ·exact ⟨d',by rw [List.getElem?_set_ne hxu];exact g2,g3⟩
 have nm:∀ {x:Nat},ObjAt S fr x→ObjAt S' (fr.set u (D.obj (cs.set off r0))) x∧∀ (o:Nat) (y:Value),w.cell? ⟨S.loc (x+2),o,none⟩=some y→w'.cell? ⟨S'.loc (x+2),o,none⟩=some y:=fun {x} hx=>by
  obtain ⟨q1,q2⟩:=hold _ _ hx.own
  refine ⟨hx.mono (w:=w) (w':=w') (hobj hx.obj) (by rw [hloc']) q2,fun o y hy => ?_⟩
  rw [hloc',World.cell?_of_block (a:=⟨S.loc (x+2),o,none⟩) (w:=w) q1]
  exact hy
 refine ⟨hwf,by simp [h.size],h.defers,fun i e v hi hv => ?_⟩
 by_cases hiu:i=u
 ·subst hiu
  rw [List.getElem?_set_self hlt] at hi
  cases hi
  have hsl:=h.slot i _ v hd hv
  obtain ⟨b,cur,e,rfl,hbo,hloc,hh,hsz,h1,ih⟩:=hsl.1.obj_inv
  obtain ⟨q1,q2⟩:=hold _ _ hbo
  refine SlotRep.of (.obj (by rw [q2];exact hbo) rfl (by rw [hloc'];exact hloc) (q1.trans hh) (by simpa using hsz) h1 fun j d x hj hx => ?_) (fun t ht => ?_)
  ·by_cases hjo:j=off
   ·subst hjo
    have hjl:j < cs.length:=by
     have:=(bC hj)
     simpa using this
    rw [List.getElem?_set_self hjl] at hj
    cases hj
    exact hr x (by rw [hloc,cell_of_row w b _ cur e (0,0) hh];exact hx)
   ·rw [List.getElem?_set_ne (Ne.symm hjo)] at hj
    exact keep (fun hu=>by
     obtain ⟨_,l,hl⟩:=hu
     simp only [List.cons_append,List.nil_append,List.cons.injEq] at hl
     omega) (ih j d x hj hx)
  ·cases ht with
   |@obj j _ d hj hmm=>
    by_cases hjo:j=off
    ·subst hjo
     have hjl:j < cs.length:=by
      have:=(bC hj)
      simpa using this
     rw [List.getElem?_set_self hjl] at hj
     cases hj
     exact (hm _ hmm).elim
    ·rw [List.getElem?_set_ne (Ne.symm hjo)] at hj
     exact hobj (hsl.2 t (.obj hj hmm))
 ·rw [List.getElem?_set_ne (Ne.symm hiu)] at hi
  have hs:=h.slot i e v hi hv
  cases e with
  |al x=>
   obtain ⟨g1,d',g2,g3,g4⟩:=hs
   obtain ⟨d'',k1,k2⟩:=howns g2 g3
   exact ⟨g1,d'',k1,k2,g4⟩
  |alc x o=>
   obtain ⟨k1,k2⟩:=nm hs.1
   exact ⟨k1,k2 _ _ hs.2⟩
  |el x o sz k j=>
   obtain ⟨g1,s,g2,g3⟩:=hs
   obtain ⟨k1,k2⟩:=nm g1
   exact ⟨k1,s,k2 _ _ g2,g3⟩
  |es x sz k j=>
   obtain ⟨⟨d',g2,g3,g4⟩,s,g1,g5⟩:=hs
   obtain ⟨d'',k1,k2⟩:=howns g2 g3
   exact ⟨⟨d'',k1,k2,g4⟩,s,g1,g5⟩
  |_=>exact ⟨keep (fun hu=>hiu (by have:=hu.1;simp [Place.slot] at this;omega)) hs.1,hrk _ hs.2⟩
theorem FR.reownC {S':Sig} {w':World} {fr:List D} (h:FR S w a fr) {b0 l0:Nat} (hb:BT S w S' w' b0) (h0:S.own b0=some (⟨u+2,[off]⟩,l0)) (hd:fr[u]?=some (.obj cs))
  {r0:D} (hr:∀ x,w.cell? ⟨S.loc (u+2),off,none⟩=some x→Rep S' w' ⟨u+2,[off]⟩ x r0) (hm:∀ t,¬ Men t r0):FR S' w' a (fr.set u (.obj (cs.set off r0))):=
 h.recellG hb.wf hb.loc (fun b x hbx=>by
  have hne:b ≠ b0:=fun e=>by subst e;rw [h0] at hbx;simp [Place.slot] at hbx
  exact ⟨hb.heap _ (h.wf _ _ hbx) hne,hb.own _ (h.wf _ _ hbx) hne⟩) (fun hp hr=>hb.repC h.wf h0 hp hr) hd hr hm
theorem FR.recell {fr:List D} (h:FR S w a fr) (hd:fr[u]?=some (.obj cs)) (off:Nat)
  {r0:D} (hr:∀ x,w.cell? ⟨S.loc (u+2),off,none⟩=some x→Rep S w ⟨u+2,[off]⟩ x r0) (hm:∀ t,¬ Men t r0):FR S w a (fr.set u (.obj (cs.set off r0))):=
 h.recellG h.wf rfl (fun _ _ _=>⟨rfl,rfl⟩) (fun _ hr=>hr) hd hr hm
theorem FR.setD {fr:List D} (h:FR S w a fr) {t:Nat} {d d0:D} {v:Value} (h0:fr[t]?=some d0) (hn:d0.owns=false) (hv:a.tmps[t]?=some v) (hr:Rep S w (.slot t) v d) (hf:bM fr d):FR S w a (fr.set t d):=by
 have hp:=h.put (PT.refl h.wf) h0 hn hr hf
 have ha:a.put (some t) v=a:=by
  have hlt:t < a.tmps.size:=(Array.getElem?_eq_some_iff.1 hv).1
  have hvt:a.tmps[t]=v:=(Array.getElem?_eq_some_iff.1 hv).2
  cases a with
  |mk tmps defers=>
   simp only [Act.put]
   congr 1
   apply Array.ext_getElem?
   intro i
   rw [Array.getElem?_setIfInBounds]
   split
   ·rename_i e
    subst e
    simp only at hlt hvt
    simp [hlt,hvt]
   ·rfl
 rwa [ha] at hp
theorem FR.nameC {fr:List D} (h:FR S w a fr) {d:D} (hd:fr[u]?=some (.obj cs)) (hc:cs[off]?=some d):∃ x,w.cell? ⟨S.loc (u+2),off,none⟩=some x∧x.oneCell'=true∧Rep S w ⟨u+2,[off]⟩ x d∧∀ t,SlotRep S w a fr t x (.alc u off):=by
 obtain ⟨v,hv,hs⟩:=h.at hd
 obtain ⟨b,cur,e,rfl,hbo,hloc,hh,hsz,h1,ih⟩:=hs.1.obj_inv
 have hlt:off < cur.size:=by rw [← hsz];exact (bC hc)
 have hx:cur[off]?=some cur[off]:=Array.getElem?_eq_getElem hlt
 have hcell:w.cell? ⟨S.loc (u+2),off,none⟩=some cur[off]:=by rw [hloc,cell_of_row w b _ cur e (0,0) hh];exact hx
 exact ⟨_,hcell,h1 _ _ hx,ih _ _ _ hc hx,fun t=>⟨⟨⟨cs,hd⟩,by rw [hloc];exact hbo⟩,hcell⟩⟩
theorem FR.takeC {fr:List D} (h:FR S w a fr) {x m sz:Nat} (hx:fr[x]?=some (.alc u off)) (hd:fr[u]?=some (.obj cs)) (hc:cs[off]?=some (.sl (m+1) sz rows)):
  ∃ S',Trans S w S' w∧FR S' w a ((fr.set u (.obj (cs.set off .any))).set x (.sl (m+1) sz rows)):=by
 obtain ⟨y,hy,_,hrep,_⟩:=h.nameC hd hc
 obtain ⟨v,hv,hs⟩:=h.at hx
 obtain rfl:v=y:=Option.some.inj (hs.2.symm.trans hy)
 have hux:u ≠ x:=fun e=>by subst e;rw [hd] at hx;cases hx
 rcases hrep.sl_inv with ⟨rfl,rfl⟩|⟨b,cap,cur,e,rfl,g⟩
 ·have hfin:∀ {S:Sig},Rep S w (.slot x) (.slice none 0 0) (.sl (m+1) sz []):=.fz (.slNil _ _)
  refine ⟨S,Trans.refl S w,?_⟩
  have h1:FR S w a (fr.set x (.sl (m+1) sz [])):=h.setD hx rfl hv hfin fun t ht=>(bG ht).elim
  rw [List.set_comm _ _ hux]
  have hd1:(fr.set x (.sl (m+1) sz []))[u]?=some (.obj cs):=by rw [List.getElem?_set_ne (Ne.symm hux)];exact hd
  exact h1.recell hd1 off (fun _ _=>.fz (.any _)) (fun t ht=>by cases ht)
 ·have hbt:BT S w (S.set b (some (.slot x,if m+1=2 then 0 else rows.length * sz))) w b:=BT.ghost h.wf g.own (by simp) (fun y hy=>by cases hy;simp)
  have h1:=h.reownC (r0:=.any) hbt g.own hd (fun _ _=>.fz (.any _)) (fun t ht=>by cases ht)
  refine ⟨_,hbt.tr,h1.setD (by rw [List.getElem?_set_ne hux];exact hx) rfl hv (.own ⟨g.mode,g.heap,g.le,g.max,g.size,g.each,by rw [S.set_at],fun k r j d k1 k2 => ?_⟩) fun t ht=>(bG ht).elim⟩
  obtain ⟨z,x1,x2,x3⟩:=g.cells k r j d k1 k2
  exact ⟨z,x1,x2,x3.trans hbt.tr⟩
theorem FR.downC {fr:List D} (h:FR S w a fr) {sz:Nat} (hd:fr[u]?=some (.obj cs)) (hc:cs[off]?=some (.sl 2 sz rows)):
  ∃ S',Trans S w S' w∧FR S' w a (fr.set u (.obj (cs.set off (.sl 1 sz rows)))):=by
 obtain ⟨y,hy,_,hrep,_⟩:=h.nameC hd hc
 rcases hrep.sl_inv with ⟨rfl,rfl⟩|⟨b,cap,cur,e,rfl,g⟩
 ·exact ⟨S,Trans.refl S w,h.recell hd off (fun x hx=>by rw [hy] at hx;cases hx;exact .fz (.slNil _ _)) fun t=>bG⟩
 ·have hbt:BT S w (S.set b (some (⟨u+2,[off]⟩,rows.length * sz))) w b:=BT.ghost h.wf g.own (by simp) (fun y hy=>by cases hy;simp)
  refine ⟨_,hbt.tr,h.reownC hbt g.own hd (fun x hx => ?_) fun t=>bG⟩
  rw [hy] at hx
  cases hx
  refine .own ⟨.inl rfl,g.heap,g.le,g.max,g.size,g.each,by rw [S.set_at];rfl,fun k r j d k1 k2 => ?_⟩
  obtain ⟨z,x1,x2,x3⟩:=g.cells k r j d k1 k2
  exact ⟨z,x1,x2,x3.trans hbt.tr⟩
theorem FR.freezeC {fr:List D} (h:FR S w a fr) {m sz:Nat} (hd:fr[u]?=some (.obj cs)) (hc:cs[off]?=some (.sl (m+1) sz rows)):
  ∃ S',Trans S w S' w∧FR S' w a (fr.set u (.obj (cs.set off (.sl 0 sz rows)))):=by
 obtain ⟨y,hy,_,hrep,_⟩:=h.nameC hd hc
 rcases hrep.sl_inv with ⟨rfl,rfl⟩|⟨b,cap,cur,e,rfl,g⟩
 ·exact ⟨S,Trans.refl S w,h.recell hd off (fun x hx=>by rw [hy] at hx;cases hx;exact .fz (.slNil _ _)) fun t=>bG⟩
 ·have hbt:BT S w (S.set b none) w b:=BT.ghost h.wf g.own (by simp) (fun y hy=>by cases hy)
  refine ⟨_,hbt.tr,h.reownC hbt g.own hd (fun x hx => ?_) fun t=>bG⟩
  rw [hy] at hx
  cases hx
  exact .fz (g.fz2 (fun h=>h.trans hbt.tr) rfl (fun k _ s hs=>by simp [Sig.lim,S.set_at] at hs))
theorem zH1 {us:List Value} {n:Nat} (hn:us.length=n) (hl:off+n≤cur.size):
  (cur.toList.take off++us++cur.toList.drop (off+n)).toArray.size=cur.size∧∀ i,(cur.toList.take off++us++cur.toList.drop (off+n)).toArray[i]?=if i < off then cur[i]? else if i < off+n then us[i - off]? else cur[i]?:=by
 refine ⟨by simp;omega,fun i => ?_⟩
 rw [← Array.getElem?_toList]
 simp only []
 by_cases h1:i < off
 ·rw [if_pos h1,List.append_assoc,List.getElem?_append_left (by simp;omega),List.getElem?_take,if_pos h1,Array.getElem?_toList]
 ·rw [if_neg h1]
  by_cases h2:i < off+n
  ·rw [if_pos h2,List.append_assoc,List.getElem?_append_right (by simp;omega),List.getElem?_append_left (by simp;omega)]
   congr 1;simp;omega
  ·rw [if_neg h2,List.getElem?_append_right (by simp;omega),List.getElem?_drop,Array.getElem?_toList]
   congr 1;simp;omega
theorem zF7 {p:Place} {s v:Value} {m sz k j:Nat} {r:List D} (hr:Rep S w p s (.sl (m+1) sz rows)) (he:zAe s sz k j v) (hk:rows[k]?=some r):
  ∃ b cap cur e,v=.pointer (some ⟨b,k * sz+j,none⟩)∧s=.slice (some ⟨b,0,none⟩) rows.length cap∧OwnAt S w p b cap (m+1) sz rows cur e:=by
 obtain ⟨b,len,cap,hs,rfl⟩:=he
 rcases hr.sl_inv with ⟨h1,_⟩|⟨b',cap',cur,e,h1,g⟩
 ·rw [h1] at hs;cases hs
 ·rw [h1] at hs
  cases hs
  exact ⟨b,cap,cur,e,rfl,h1,g⟩
theorem OwnAt.elem {p:Place} {b cap m sz:Nat} {e:TypeId} (g:OwnAt S w p b cap m sz rows cur e) {k j:Nat} {r:List D} {d:D} (hk:rows[k]?=some r) (hj:r[j]?=some d):
  ∃ x,w.cell? ⟨b,k * sz+j,none⟩=some x∧x.oneCell'=true∧Fz S.lim w x d:=by
 obtain ⟨x,x1,x2,x3⟩:=g.cells k r j d hk hj
 exact ⟨x,by rw [cell_of_row w b _ cur e (0,0) g.heap];exact x1,x2,x3⟩
theorem OwnAt.store {p:Place} {b cap sz:Nat} {e:TypeId} (hw:WF S w) (hp:p.r ≠ 0) (g:OwnAt S w p b cap 2 sz rows cur e) {k j:Nat} {r vs:List D} {us:List Value} (hk:rows[k]?=some r) (hc:CR S.lim w us vs) (hl:j+vs.length≤sz):
  k * sz+j+vs.length≤cur.size∧BT S w S (w.setRow b (cur.toList.take (k * sz+j)++us++cur.toList.drop (k * sz+j+vs.length)).toArray) b∧
   ∃ CUR,OwnAt S (w.setRow b (cur.toList.take (k * sz+j)++us++cur.toList.drop (k * sz+j+vs.length)).toArray) p b cap 2 sz (rows.set k (r.take j++vs++r.drop (j+vs.length))) CUR e:=by
 have hkl:k < rows.length:=(bC hk)
 have hrl:=g.each r (aK hk)
 have hks:(k+1) * sz≤rows.length * sz:=Nat.mul_le_mul_right _ hkl
 have hcs:rows.length * sz≤cap * sz:=Nat.mul_le_mul_right _ g.le
 rw [Nat.add_mul] at hks
 have hle:k * sz+j+vs.length≤cur.size:=by rw [g.size];omega
 have hown:=g.own
 simp only [if_true] at hown
 obtain ⟨hCs,hcell⟩:=zH1 (cur:=cur) (us:=us) (off:=k * sz+j) (n:=vs.length) hc.len hle
 generalize (cur.toList.take (k * sz+j)++us++cur.toList.drop (k * sz+j+vs.length)).toArray=CUR at *
 have hh:=g.heap
 have hw':(w.setRow b CUR).heap[b]?=some (.cells CUR e (0,0)):=setRow_heap w b cur CUR e (0,0) hh
 have hother:∀ k,k ≠ b→(w.setRow b CUR).heap[k]?=w.heap[k]?:=fun k hk=>setRow_other w b k CUR hk
 have hsz:(w.setRow b CUR).heap.size=w.heap.size:=by simp
 have htr:Trans S w S (w.setRow b CUR):=by
  refine ⟨rfl,rfl,rfl,by simp,fun k hk hn=>⟨hother k (fun e=>by subst e;rw [hown] at hn;cases hn),hn⟩,fun k q l hk hs hq=>⟨hother k (fun e=>by subst e;rw [hown] at hs;cases hs;exact hp hq),hs⟩,fun k q l hk hs=>⟨?_,fun x hx=>by rw [hs] at hx;cases hx;exact Nat.le_refl _⟩,rfl⟩
  by_cases hkb:k=b
  ·subst hkb
   rw [hown] at hs
   cases hs
   intro cur1 e1 fz1 h2
   rw [hh] at h2
   cases h2
   exact ⟨CUR,hw',hCs,fun off ho=>by omega⟩
  ·exact Keeps.of_eq (hother k hkb)
 refine ⟨hle,⟨htr,hw.of htr fun k x hk=>by rw [hsz];exact hw k x hk,rfl,fun k _ hne=>hother k hne,fun k _ _=>rfl⟩,CUR,?_⟩
 refine ⟨.inr rfl,hw',by simpa using g.le,g.max,by rw [hCs];exact g.size,fun r' hr' => ?_,by simpa using hown,fun k' r' j' d hk' hd => ?_⟩
 ·rcases List.mem_or_eq_of_mem_set hr' with h1|rfl
  ·exact g.each r' h1
  ·simp;omega
 ·rw [hcell]
  by_cases hkk:k'=k
  ·subst hkk
   rw [List.getElem?_set_self hkl] at hk'
   cases hk'
   by_cases h1:j' < j
   ·rw [List.append_assoc,List.getElem?_append_left (by simp;omega),List.getElem?_take,if_pos h1] at hd
    rw [if_pos (by omega)]
    obtain ⟨x,x1,x2,x3⟩:=g.cells k' r j' d hk hd
    exact ⟨x,x1,x2,x3.trans htr⟩
   ·by_cases h2:j' < j+vs.length
    ·rw [List.append_assoc,List.getElem?_append_right (by simp;omega),List.getElem?_append_left (by simp;omega)] at hd
     have hd':vs[j' - j]?=some d:=by rw [← hd];congr 1;simp;omega
     rw [if_neg (by omega),if_pos (by omega)]
     have hlt:j' - j < us.length:=by rw [hc.len];exact (List.getElem?_eq_some_iff.1 hd').1
     refine ⟨us[j' - j],by rw [show k' * sz+j' - (k' * sz+j)=j' - j by omega];exact List.getElem?_eq_getElem hlt,hc.one _ (List.getElem_mem hlt),(hc.fz _ _ _ hd' (List.getElem?_eq_getElem hlt)).trans htr⟩
    ·rw [List.getElem?_append_right (by simp;omega),List.getElem?_drop] at hd
     have hd':r[j']?=some d:=by rw [← hd];congr 1;simp;omega
     rw [if_neg (by omega),if_neg (by omega)]
     obtain ⟨x,x1,x2,x3⟩:=g.cells k' r j' d hk hd'
     exact ⟨x,x1,x2,x3.trans htr⟩
  ·rw [List.getElem?_set_ne (Ne.symm hkk)] at hk'
   have hj':j' < sz:=by rw [← g.each r' (aK hk')];exact (bC hd)
   obtain ⟨x,x1,x2,x3⟩:=g.cells k' r' j' d hk' hd
   refine ⟨x,?_,x2,x3.trans htr⟩
   rcases Nat.lt_or_ge k' k with h1|h1
   ·have:(k'+1) * sz≤k * sz:=Nat.mul_le_mul_right _ h1
    rw [Nat.add_mul] at this
    rw [if_pos (by omega)]
    exact x1
   ·have:(k+1) * sz≤k' * sz:=Nat.mul_le_mul_right _ (by omega)
    rw [Nat.add_mul] at this
    rw [if_neg (by omega),if_neg (by omega)]
    exact x1
end Go.Proofs.YtnjgoldinaffgaaGreatDoor
namespace Go.Proofs.YtnjgoldinaffgaaGreatDoor
set_option linter.unusedSimpArgs false
set_option linter.unusedVariables false
open Go.RowKit
variable {a:Act} {cs:List D} {es:List (Value × Value)} {w:World}
theorem zGA {S:Sig} (hw:WF S w) {b clock clock':Nat} {q:Place} {ents ents':Array MapEntry} (hb:S.own b=some (q,0)) (hq:q.r ≠ 0) (hh:w.heap[b]?=some (.map ents clock)):
  BT S w S (World.setMap w b (.map ents' clock')) b∧(World.setMap w b (.map ents' clock')).heap[b]?=some (.map ents' clock'):=by
 obtain ⟨h1,h2⟩:=MapKept.heap_set (o':=.map ents' clock') hh
 have other:∀ c,c ≠ b→(World.setMap w b (.map ents' clock')).heap[c]?=w.heap[c]?:=h2
 have hsz:(World.setMap w b (.map ents' clock')).heap.size=w.heap.size:=by simp [World.setMap]
 have htr:Trans S w S (World.setMap w b (.map ents' clock')):=by
  refine ⟨rfl,rfl,rfl,by rw [hsz];exact Nat.le_refl _,fun k hk hn=>⟨other k (fun e=>by subst e;rw [hb] at hn;cases hn),hn⟩,fun k p l hk hs hp=>⟨other k (fun e=>by subst e;rw [hb] at hs;cases hs;exact hq hp),hs⟩,fun k p l hk hs=>⟨?_,fun x hx=>by rw [hs] at hx;cases hx;exact Nat.le_refl _⟩,rfl⟩
  by_cases hkb:k=b
  ·subst hkb
   intro cur e fz h3
   rw [hh] at h3
   cases h3
  ·exact Keeps.of_eq (other k hkb)
 exact ⟨⟨htr,hw.of htr fun k x hx=>by rw [hsz];exact hw k x hx,rfl,fun k _ hne=>other k hne,fun k _ _=>rfl⟩,h1⟩
theorem zA6 {t:Nat} {kd:KD} :¬ Men t (.mp kd es):=fun h=>by cases h
theorem zEN {t:Nat} {kd:KD} :¬ Men t (.fmp kd es):=fun h=>by cases h
theorem FR.setMapC {S:Sig} {fr:List D} (h:FR S w a fr) {u off b clock clock':Nat} {kd:KD} {es':List (Value × Value)} {ents ents':Array MapEntry} (hd:fr[u]?=some (.obj cs)) (hy:w.cell? ⟨S.loc (u+2),off,none⟩=some (.map (some b))) (hb:S.own b=some (⟨u+2,[off]⟩,0)) (hh:w.heap[b]?=some (.map ents clock)) (he:ents'.toList.map pr=es'∧cG ents' clock') (hk:∀ x ∈ es',fC kd x.1=true):
  Trans S w S (World.setMap w b (.map ents' clock'))∧FR S (World.setMap w b (.map ents' clock')) a (fr.set u (.obj (cs.set off (.mp kd es')))):=by
 obtain ⟨hbt,h1⟩:=zGA (ents':=ents') (clock':=clock') h.wf hb (by simp) hh
 refine ⟨hbt.tr,h.reownC hbt hb hd (fun x hx => ?_) fun t=>zA6⟩
 rw [hy] at hx
 cases hx
 exact .mp hb h1 he hk
theorem FR.freezeMC {S:Sig} {fr:List D} (h:FR S w a fr) {u off:Nat} {kd:KD} (hd:fr[u]?=some (.obj cs)) (hc:cs[off]?=some (.mp kd es)):
  ∃ S',Trans S w S' w∧FR S' w a (fr.set u (.obj (cs.set off (.fmp kd es)))):=by
 obtain ⟨y,hy,_,hrep,_⟩:=h.nameC hd hc
 obtain ⟨b,clock,ents,rfl,hb,hh,he,hk⟩:=hrep.mp_inv
 have hbt:BT S w (S.set b none) w b:=BT.ghost h.wf hb (by simp) (fun y hy=>by cases hy)
 refine ⟨_,hbt.tr,h.reownC hbt hb hd (fun x hx => ?_) fun t=>zEN⟩
 rw [hy] at hx
 cases hx
 exact .fz (.fmp (by simp [Sig.lim,S.set_at]) hh he hk)
theorem FR.wipe {S:Sig} {fr:List D} (h:FR S w a fr) (f:D→D) (hf:∀ d,f d=d∨(d.owns=false∧f d=.any)):FR S w a (fr.map f):=by
 have keep:∀ {x:Nat} {d:D},fr[x]?=some d→d.owns=true→(fr.map f)[x]?=some d:=fun {x d} hx ho=>by
  rw [List.getElem?_map,hx,Option.map_some]
  rcases hf d with e|⟨e,_⟩
  ·rw [e]
  ·rw [ho] at e;cases e
 have hobj:∀ {x:Nat},(∃ cs,fr[x]?=some (D.obj cs))→∃ cs,(fr.map f)[x]?=some (D.obj cs):=fun ⟨cs,hc⟩=>⟨cs,keep hc rfl⟩
 refine ⟨h.wf,by simp [h.size],h.defers,fun i e v hi hv => ?_⟩
 rw [List.getElem?_map] at hi
 cases hfi:fr[i]? with
 |none=>rw [hfi] at hi;cases hi
 |some e0=>
  rw [hfi] at hi
  cases hi
  have hs:=h.slot i e0 v hfi hv
  rcases hf e0 with he|⟨_,he⟩
  ·rw [he]
   cases e0 with
   |al x=>
    obtain ⟨h1,d',h2,h3,h4⟩:=hs
    exact ⟨h1,d',keep h2 h3,h3,h4⟩
   |alc x o=>exact ⟨hs.1.mono (w:=w) (w':=w) (hobj hs.1.obj) rfl rfl,hs.2⟩
   |el x o sz k j=>exact ⟨hs.1.mono (w:=w) (w':=w) (hobj hs.1.obj) rfl rfl,hs.2⟩
   |es x sz k j=>
    obtain ⟨⟨d',h2,h3,h4⟩,s,h1,h5⟩:=hs
    exact ⟨⟨d',keep h2 h3,h3,h4⟩,s,h1,h5⟩
   |_=>exact ⟨hs.1,fun t ht=>hobj (hs.2 t ht)⟩
  ·rw [he]
   exact SlotRep.of (.fz (.any _)) fun t ht=>by cases ht
def zAm:D→Bool
 |.sl (_+1) _ _=>true
 |.mp _ _=>true
 |_=>false
theorem nX {d:D} (h:zAm d=true) {t:Nat}:¬ Men t d:=by
 cases d with
 |sl m sz rows=>exact bG
 |mp kd es=>exact zA6
 |_=>cases h
theorem zGM {d:D} (h:zAm d=true) (u:Nat) (r:D):bI u r d=d:=by
 cases d with
 |sl m sz rows=>rfl
 |mp kd es=>rfl
 |_=>cases h
theorem FR.takeX {S:Sig} {fr:List D} (h:FR S w a fr) {u:Nat} (p:Place) {d:D} (hd:fr[u]?=some d) (ho:zAm d=true):
  ∃ S' v,Trans S w S' w∧a.tmps[u]?=some v∧v.oneCell'=true∧v.cells.toList = [v]∧FR S' w a ((fr.map (bI u .any)).set u .any)∧Rep S' w p v d∧S'.loc=S.loc∧∀ b q l,S.own b=some (q,l)→q.r ≠ u+2→S'.own b=some (q,l):=by
 obtain ⟨v,hv,hs⟩:=h.at hd
 have key:∀ {b l0:Nat} {x:Option (Place × Nat)},S.own b=some (.slot u,l0)→∀ k q l,S.own k=some (q,l)→q.r ≠ u+2→(S.set b x).own k=some (q,l):=fun {b l0 x} hb k q l hk hq=>by
  rw [S.set_ne x fun e=>by subst e;rw [hb] at hk;cases hk;exact hq rfl]
  exact hk
 cases d with
 |sl m sz rows=>
  cases m with
  |zero=>cases ho
  |succ m=>
   rcases hs.1.sl_inv with ⟨rfl,rfl⟩|⟨b,cap,cur,e,rfl,g⟩
   ·exact ⟨S,_,Trans.refl S w,hv,rfl,rfl,h.renil hd rfl hv (.inl rfl) (.inl rfl),.fz (.slNil _ _),rfl,fun b q l h _=>h⟩
   ·have hb:BT S w (S.set b (some (p,if m+1=2 then 0 else rows.length * sz))) w b:=BT.ghost h.wf g.own (by simp [Place.slot]) (fun y hy=>by cases hy;simp)
    refine ⟨_,_,hb.tr,hv,rfl,rfl,h.rebuild hb g.own rfl hd rfl (fun v' p hv'=>.fz (.any _)) (fun t ht=>by cases ht) (fun v' hv'=>.fz (.any _)) (fun t ht=>by cases ht),?_,rfl,key g.own⟩
    refine .own ⟨g.mode,g.heap,g.le,g.max,g.size,g.each,by rw [S.set_at],fun k r j d k1 k2 => ?_⟩
    obtain ⟨x,x1,x2,x3⟩:=g.cells k r j d k1 k2
    exact ⟨x,x1,x2,x3.trans hb.tr⟩
 |mp kd es=>
  obtain ⟨b,clock,ents,rfl,hb,hh,he,hk⟩:=hs.1.mp_inv
  have hbt:BT S w (S.set b (some (p,0))) w b:=BT.ghost h.wf hb (by simp [Place.slot]) (fun y hy=>by cases hy;simp)
  exact ⟨_,_,hbt.tr,hv,rfl,rfl,h.rebuild hbt hb rfl hd rfl (fun v' p hv'=>.fz (.any _)) (fun t ht=>by cases ht) (fun v' hv'=>.fz (.any _)) (fun t ht=>by cases ht),.mp (S.set_at _ _) hh he hk,rfl,key hb⟩
 |_=>cases ho
def zB6:List (Nat × Nat)→List D→List D
 |[],fr=>fr
 |(_,y)::r,fr=>zB6 r ((fr.map (bI y .any)).set y .any)
theorem zFr {w:World} {a:Act} (t:Nat):∀ (L:List (Nat × Nat)) {S:Sig} {fr:List D},FR S w a fr→(∀ x ∈ L,x.2 ≠ t∧∃ d,fr[x.2]?=some d∧zAm d=true)→(L.map (·.2)).Nodup→
  ∃ S',Trans S w S' w∧FR S' w a (zB6 L fr)∧S'.loc=S.loc∧(∀ b q l,S.own b=some (q,l)→q.r=t+2→S'.own b=some (q,l))∧∀ x ∈ L,∃ d v,fr[x.2]?=some d∧zAm d=true∧a.tmps[x.2]?=some v∧v.oneCell'=true∧v.cells.toList = [v]∧Rep S' w ⟨t+2,[x.1]⟩ v d
 |[],S,fr,h,_,_=>⟨S,Trans.refl S w,h,rfl,fun _ _ _ h _=>h,fun x hx=>by simp at hx⟩
 |(off,y)::r,S,fr,h,hx,hn=>by
  obtain ⟨hyt,d,hd,ho⟩:=hx (off,y) (by simp)
  simp only at hyt hd
  rw [List.map_cons,List.nodup_cons] at hn
  obtain ⟨S1,v,t1,hv,g1,g2,f1,r1,l1,k1⟩:=h.takeX ⟨t+2,[off]⟩ hd ho
  have back:∀ x ∈ r,∀ e,fr[x.2]?=some e→zAm e=true→((fr.map (bI y .any)).set y .any)[x.2]?=some e:=fun x hxr e he hoe=>by
   have hne:y ≠ x.2:=fun e=>hn.1 (List.mem_map.2 ⟨x,hxr,e.symm⟩)
   rw [List.getElem?_set_ne hne,List.getElem?_map,he,Option.map_some,zGM hoe]
  obtain ⟨S',t2,f2,l2,k2,m2⟩:=zFr t r f1 (fun x hxr=>by
   obtain ⟨h1,e,he,hoe⟩:=hx x (by simp [hxr])
   exact ⟨h1,e,back x hxr e he hoe,hoe⟩) hn.2
  refine ⟨S',t1.trans t2,f2,l2.trans l1,fun b q l hb hq=>k2 b q l (k1 b q l hb (by omega)) hq,fun x hxr => ?_⟩
  rcases List.mem_cons.1 hxr with rfl|hxr
  ·refine ⟨d,v,hd,ho,hv,g1,g2,r1.trans f1.wf t2 (by rw [l2]) (fun b q l hb hu=>⟨rfl,k2 b q l hb hu.1⟩) (fun e=>by cases e) fun x hm=>(nX ho hm).elim⟩
  ·obtain ⟨_,e,he,hoe⟩:=hx x (by simp [hxr])
   obtain ⟨d',v',q1,q2⟩:=m2 x hxr
   rw [back x hxr e he hoe] at q1
   cases q1
   exact ⟨e,v',he,q2⟩
theorem FR.recellAll {S:Sig} {fr:List D} (h:FR S w a fr) {u:Nat} {cs':List D} (hd:fr[u]?=some (.obj cs)) (hl:cs'.length=cs.length)
  (hr:∀ i d' x,cs'[i]?=some d'→w.cell? ⟨S.loc (u+2),i,none⟩=some x→Rep S w ⟨u+2,[i]⟩ x d') (hm:∀ d' ∈ cs',∀ t,¬ Men t d'):FR S w a (fr.set u (.obj cs')):=by
 have hlt:u < fr.length:=(bC hd)
 have hobj:∀ {x:Nat},(∃ cs,fr[x]?=some (D.obj cs))→∃ cs'',(fr.set u (D.obj cs'))[x]?=some (D.obj cs''):=fun {x} ⟨cs0,hc⟩=>by
  by_cases hxu:u=x
  ·subst hxu;exact ⟨_,List.getElem?_set_self hlt⟩
  ·exact ⟨cs0,by rw [List.getElem?_set_ne hxu];exact hc⟩
 have howns:∀ {x:Nat} {d':D},fr[x]?=some d'→d'.owns=true→∃ d'',(fr.set u (D.obj cs'))[x]?=some d''∧d''.owns=true:=fun {x d'} g2 g3=>by
  by_cases hxu:u=x
  ·subst hxu;exact ⟨_,List.getElem?_set_self hlt,rfl⟩
  ·exact ⟨d',by rw [List.getElem?_set_ne hxu];exact g2,g3⟩
 refine ⟨h.wf,by simp [h.size],h.defers,fun i e v hi hv => ?_⟩
 by_cases hiu:i=u
 ·subst hiu
  rw [List.getElem?_set_self hlt] at hi
  cases hi
  have hsl:=h.slot i _ v hd hv
  obtain ⟨b,cur,e,rfl,hbo,hloc,hh,hsz,h1,ih⟩:=hsl.1.obj_inv
  refine SlotRep.of (.obj hbo rfl hloc hh (hl.trans hsz) h1 fun j d x hj hx => ?_) (fun t ht => ?_)
  ·exact hr j d x hj (by rw [hloc,cell_of_row w b _ cur e (0,0) hh];exact hx)
  ·cases ht with
   |obj hj hmm=>exact (hm _ (aK hj) _ hmm).elim
 ·rw [List.getElem?_set_ne (Ne.symm hiu)] at hi
  have hs:=h.slot i e v hi hv
  cases e with
  |al x=>
   obtain ⟨g1,d',g2,g3,g4⟩:=hs
   obtain ⟨d'',k1,k2⟩:=howns g2 g3
   exact ⟨g1,d'',k1,k2,g4⟩
  |alc x o=>exact ⟨hs.1.mono (w:=w) (w':=w) (hobj hs.1.obj) rfl rfl,hs.2⟩
  |el x o sz k j=>exact ⟨hs.1.mono (w:=w) (w':=w) (hobj hs.1.obj) rfl rfl,hs.2⟩
  |es x sz k j=>
   obtain ⟨⟨d',g2,g3,g4⟩,s,g1,g5⟩:=hs
   obtain ⟨d'',k1,k2⟩:=howns g2 g3
   exact ⟨⟨d'',k1,k2,g4⟩,s,g1,g5⟩
  |_=>exact ⟨hs.1,fun t ht=>hobj (hs.2 t ht)⟩
def zKk (u off:Nat) (fr:List D):List D:=
 match fr[u]? with
 |some (.obj cs)=>match cs[off]? with
  |some (.sl (_+1) sz rows)=>fr.set u (.obj (cs.set off (.sl 0 sz rows)))
  |some (.mp kd es)=>fr.set u (.obj (cs.set off (.fmp kd es)))
  |_=>fr
 |_=>fr
def zF0 (u:Nat):Nat→List D→List D
 |0,fr=>fr
 |n+1,fr=>zKk u n (zF0 u n fr)
theorem zDC {S:Sig} {fr:List D} (h:FR S w a fr) (u off:Nat):∃ S',Trans S w S' w∧FR S' w a (zKk u off fr):=by
 unfold zKk
 split
 ·rename_i cs hd
  split
  ·rename_i hc;exact h.freezeC hd hc
  ·rename_i hc;exact h.freezeMC hd hc
  ·exact ⟨S,Trans.refl S w,h⟩
 ·exact ⟨S,Trans.refl S w,h⟩
theorem vP {w:World} {a:Act} (u:Nat):∀ (n:Nat) {S:Sig} {fr:List D},FR S w a fr→∃ S',Trans S w S' w∧FR S' w a (zF0 u n fr)
 |0,S,fr,h=>⟨S,Trans.refl S w,h⟩
 |n+1,S,fr,h=>by
  obtain ⟨S1,t1,h1⟩:=vP u n h
  obtain ⟨S2,t2,h2⟩:=zDC h1 u n
  exact ⟨S2,t1.trans t2,h2⟩
def zAu (u:Nat) (d:D):D:=match lV u d with
 |true=>d
 |false=>match d.owns with
  |true=>d
  |false=>.any
theorem zHM (u:Nat) (d:D):zAu u d=d∨(d.owns=false∧zAu u d=.any):=by
 unfold zAu
 split
 ·exact .inl rfl
 ·split
  ·exact .inl rfl
  ·rename_i h;exact .inr ⟨h,rfl⟩
def zAa:Nat→List D→List (Nat × Nat)
 |_,[] => []
 |k,.al y::r=>(k,y)::zAa (k+1) r
 |k,_::r=>zAa (k+1) r
theorem uL:∀ {cs:List D} {k i y:Nat},cs[i]?=some (.al y)→(k+i,y) ∈ zAa k cs
 |d::r,k,0,y,h=>by
  have h':d=.al y:=by simpa using h
  subst h'
  exact List.mem_cons_self
 |d::r,k,i+1,y,h=>by
  have h':r[i]?=some (.al y):=by simpa using h
  have:=uL (k:=k+1) h'
  rw [show k+(i+1)=k+1+i by omega]
  cases d<;>first|exact this|exact List.mem_cons_of_mem _ this
def zBQ:List Nat→Bool
 |[]=>true
 |x::l => !(l.any fun y=>Nat.beq x y) && zBQ l
theorem zA5:∀ {l:List Nat},zBQ l=true→l.Nodup
 |[],_=>List.nodup_nil
 |x::l,h=>by
  simp only [zBQ,Bool.and_eq_true,Bool.not_eq_true',List.any_eq_false] at h
  refine List.nodup_cons.2 ⟨fun hx => ?_,zA5 h.2⟩
  exact h.1 x hx (by simp)
def vW (fr:List D):D→D
 |.al y=>(fr[y]?).getD .any
 |d=>d
def zLc:D→Bool
 |.al _=>true
 |d=>d.one
def okL (fr:List D) (t:Nat) (L:List (Nat × Nat)):Bool:=zBQ (L.map (·.2)) && L.all fun x=>match Nat.beq x.2 t with
 |true=>false
 |false=>match fr[x.2]? with
  |some d=>zAm d
  |none=>false
theorem zNF {fr:List D} {t:Nat} {L:List (Nat × Nat)} (h:okL fr t L=true):(L.map (·.2)).Nodup∧∀ x ∈ L,x.2 ≠ t∧∃ d,fr[x.2]?=some d∧zAm d=true:=by
 simp only [okL,Bool.and_eq_true] at h
 refine ⟨zA5 h.1,fun x hx => ?_⟩
 have:=List.all_eq_true.1 h.2 x hx
 split at this
 ·cases this
 ·rename_i hne
  split at this
  ·rename_i d hd
   exact ⟨fun e=>by rw [e] at hne;simp at hne,d,hd,this⟩
  ·cases this
def zAl (a:Act):D→D
 |.al y=>.pv ((a.tmps[y]?).getD undef)
 |d=>d
theorem yB {d:D} (h:d.one=true):zAl a d=d:=by cases d<;>first|rfl|cases h
theorem zEF (h:cs.all D.one=true):cs.map (zAl a)=cs:=by
 have:∀ d ∈ cs,zAl a d=id d:=fun d hd=>yB (List.all_eq_true.1 h d hd)
 rw [List.map_congr_left this,List.map_id]
theorem zEL (u:Value):zAl a (nH u)=nH u:=by
 unfold nH
 split<;>rfl
theorem zEe {zc:List Value}:(cX zc).map (zAl a)=cX zc:=by
 unfold cX
 rw [List.map_map]
 exact List.map_congr_left fun u _=>zEL u
theorem zB7 {d:D} {ds:List D} (h:d.cellsOf=some ds):ds.map (zAl a)=ds:=by
 unfold D.cellsOf at h
 split at h
 ·split at h
  ·rename_i hc
   cases h
   exact zEF hc
  ·cases h
 ·split at h
  ·cases h;rfl
  ·cases h
 ·split at h
  ·rename_i ho
   cases h
   rw [List.map_cons,List.map_nil,yB ho]
  ·cases h
def zL0 (fr:List D):Operand→Option (List D)
 |.tmp y=>match fr[y]? with
  |some d=>match zAm d with
   |true=>some [.al y]
   |false=>(bD fr (.tmp y)).cellsOf
  |none=>none
 |x=>(bD fr x).cellsOf
end Go.Proofs.YtnjgoldinaffgaaGreatDoor
namespace Go.Proofs.YtnjgoldinaffgaaGreatDoor
set_option linter.unusedSimpArgs false
set_option linter.unusedVariables false
open Go.RowKit
variable {Q1 Q2:Exit→Act→World→Prop} {l:List Oper} {ss:List Spec}
section
variable (P:Program) (ops:Array Oper) (Q:Exit→Act→World→Prop)
def lF (R:World→World→Prop) (o:Oper) (s:Spec) (a:Act) (w:World):Prop:=
 if Region.wanted o (yielded ops a.tmps)=true then
  ∀ K:Act→World→Prop,(∀ u w',s.fact u w'→R w w'→K (a.put o.dst (s.shape u)) w')→o.wp P a w K (NoPanic Q)∨(o.asks P a w∧LetsOut (NoPanic Q))
 else ∃ u,s.shape u=undef∧s.fact u w
structure Ways where
 R:World→World→Prop
 c:Nat
 late:Nat→Bool
 base:∀ w w',Ext w w'→R w w'
 trans:∀ a b c,R a b→R b c→R a c
def Ways.sees (W:Ways) (i:Nat):World→World→Prop:=if i=W.c then Ext else W.R
def Ways.does (W:Ways) (i:Nat):World→World→Prop:=if i=W.c then W.R else Ext
theorem Ways.self (W:Ways) (i:Nat) (w:World):W.does i w w:=by
 unfold Ways.does
 split
 ·exact W.base _ _ (Ext.refl w)
 ·exact Ext.refl w
def ParW (W:Ways) (w0:World):Nat→List Oper→List Spec→List (World→Prop)→Act→Prop
 |_,[],_,fs,a=>∀ w,W.R w0 w→(∀ f ∈ fs,f w)→Q .normal a w
 |_,_::_,[],_,_=>False
 |i,o::r,s::ss,fs,a=>
  (∀ w,W.sees i w0 w→(∀ e ∈ o.after.toList,Region.binds .any e=true→(fs.getD e.on (fun _=>True)) w)→lF P ops Q (W.does i) o s a w)∧
  (W.late i=false→∀ u w w',W.R w w'→s.fact u w→s.fact u w')∧
  ∀ u,ParW W w0 (i+1) r ss (fs ++ [s.fact u]) (a.put o.dst (s.shape u))
end
def zE1 (l:Array Oper) (m:Nat):Bool:=(List.range l.size).all fun i=>decide (i < m) || (List.range m).all fun j=>jY l l.size i j
def jD (m n:Nat):Array Bool:=((List.range n).map fun j=>decide (j < m)).toArray
section
variable {P:Program} {Q:Exit→Act→World→Prop}
def xI (P:Program) (l:List Oper) (m:Nat) (Q:Exit→Act→World→Prop):Exit→Act→World→Prop
 |.normal,a,w=>∀ fuel,l.length≤fuel+m→wpAny P .any l.toArray (NoPanic Q) fuel (jD m l.length) a w
 |e,a,w=>Q e a w
theorem zCt {R:World→World→Prop} {ops:Array Oper} {m:Nat} {o:Oper} {s:Spec} {a:Act} {w:World} (h:lF P ops (xI P l m Q) R o s a w):lF P ops Q R o s a w:=by
 have hp:∀ c a w,NoPanic (xI P l m Q) (.panic c) a w→NoPanic Q (.panic c) a w:=fun _ _ _ h=>h
 have ho:LetsOut (NoPanic (xI P l m Q))→LetsOut (NoPanic Q):=fun ⟨a,w,h⟩=>⟨a,w,h⟩
 unfold lF at *
 split
 ·rename_i hw
  rw [if_pos hw] at h
  intro K hK
  rcases h K hK with h1|h1
  ·exact .inl (zAt hp ho h1)
  ·exact .inr ⟨h1.1,ho h1.2⟩
 ·rename_i hw
  rw [if_neg hw] at h
  exact h
theorem wR {ops:Array Oper} {W:Ways} {w0:World} {env:Nat→Unk}:∀ (l:List Oper) (ss:List Spec) (fs:List (World→Prop)) (k:Nat) (a:Act),ParW P ops Q W w0 k l ss fs a→fs.length=k→
  ∀ (i:Nat) (o:Oper),l[i]?=some o→∃ s,ss[i]?=some s∧∃ gs:List (World→Prop),gs.length=i∧(∀ j (sj:Spec),j < i→ss[j]?=some sj→gs[j]?=some (sj.fact (env (k+j))))∧
   (∀ w,W.sees (k+i) w0 w→(∀ e ∈ o.after.toList,Region.binds .any e=true→((fs++gs).getD e.on (fun _=>True)) w)→lF P ops Q (W.does (k+i)) o s (bO env (fun j=>decide (j < k+i)) l ss k a) w)∧(W.late (k+i)=false→∀ u w w',W.R w w'→s.fact u w→s.fact u w')
 |[],_,_,_,_,_,_,_,_,h=>by simp at h
 |_::_,[],_,_,_,h,_,_,_,_=>h.elim
 |o'::r,s'::ss,fs,k,a,h,hk,0,o,ho=>by
  simp only [List.getElem?_cons_zero,Option.some.injEq] at ho
  subst ho
  refine ⟨s',rfl,[],rfl,fun j _ hj=>by omega,fun w hw hf => ?_,h.2.1⟩
  have hnone:∀ (l:List Oper) (ss:List Spec) (m:Nat) (a:Act),k≤m→bO env (fun j=>decide (j < k+0)) l ss m a=a:=by
   intro l
   induction l with
   |nil=>intro ss m a _;simp [bO]
   |cons o r ih=>intro ss m a hm;cases ss with
    |nil=>simp [bO]
    |cons s ss=>simp only [bO];rw [if_neg (by simp;omega)];exact ih ss (m+1) a (by omega)
  rw [hnone _ _ _ _ (Nat.le_refl _)]
  exact h.1 w hw (by simpa using hf)
 |o'::r,s'::ss,fs,k,a,h,hk,i+1,o,ho=>by
  obtain ⟨s,hs,gs,hl,hg,hstep,hmono⟩:=wR r ss (fs ++ [s'.fact (env k)]) (k+1) _ (h.2.2 (env k)) (by simp [hk]) i o (by simpa using ho)
  refine ⟨s,by simpa using hs,s'.fact (env k)::gs,by simp [hl],fun j sj hj hsj => ?_,fun w hw hf => ?_,?_⟩
  ·cases j with
   |zero=>simp at hsj;subst hsj;rfl
   |succ j=>have:=hg j sj (by omega) (by simpa using hsj);simpa [Nat.add_assoc,Nat.add_comm 1 j] using this
  ·have e:k+1+i=k+(i+1):=by omega
   rw [e] at hstep
   have:=hstep w hw (by simpa using hf)
   simp only [bO]
   rw [if_pos (by simp)]
   exact this
  ·have e:k+1+i=k+(i+1):=by omega
   rwa [e] at hmono
theorem zCL {ops:Array Oper} {W:Ways} {w0:World} {env:Nat→Unk}:∀ (l:List Oper) (ss:List Spec) (fs:List (World→Prop)) (k:Nat) (a:Act),ParW P ops Q W w0 k l ss fs a→
  ∀ w,W.R w0 w→(∀ f ∈ fs,f w)→(∀ j (s:Spec),j < l.length→ss[j]?=some s→s.fact (env (k+j)) w)→Q .normal (bO env (fun _=>true) l ss k a) w
 |[],_,_,_,_,h,w,hw,hf,_=>by simpa [bO] using h w hw hf
 |_::_,[],_,_,_,h,_,_,_,_=>h.elim
 |o::r,s::ss,fs,k,a,h,w,hw,hf,hs=>by
  simp only [bO,if_true]
  refine zCL r ss _ (k+1) _ (h.2.2 (env k)) w hw (fun f hm => ?_) (fun j s' hj hs' => ?_)
  ·rcases List.mem_append.1 hm with hm|hm
   ·exact hf f hm
   ·simp only [List.mem_singleton] at hm;subst hm;simpa using hs 0 s (by simp) rfl
  ·have:=hs (j+1) s' (by simpa using hj) (by simpa using hs')
   simpa [Nat.add_assoc,Nat.add_comm 1 j] using this
theorem wG {id:Nat} (m:Nat) (W:Ways) {a:Act} {w:World} (hm:P.follows .mixedOrders=true) (hok:jO l.toArray=true) (htl:zE1 l.toArray m=true) (hml:m≤l.length) (hlate:∀ i,W.late i=true→i ≠ W.c→jY l.toArray l.toArray.size i W.c=true)
  (hin:(l.all fun o=>match o.dst with|some d=>decide (d < a.tmps.size)|none=>true)=true) 
  (h:ParW P l.toArray (xI P l m Q) W w 0 (l.take m) ss [] a):(Code.region id l.toArray true).wp P Q a w:=by
 refine wp_region_noPanic (wp_region_any hm ?_)
 have hops:∀ i:Nat,l.toArray[i]?=l[i]?:=fun i=>by simp
 obtain ⟨L,hL⟩:∃ L,L=l.take m:=⟨_,rfl⟩
 rw [← hL] at h
 have hLl:L.length=m:=by rw [hL,List.length_take];omega
 have hLi:∀ i o,L[i]?=some o→l[i]?=some o∧i < m:=fun i o ho=>by
  have hi:i < L.length:=(bC ho)
  rw [hL,List.getElem?_take] at ho
  split at ho
  ·exact ⟨ho,by omega⟩
  ·cases ho
 have hLo:∀ i o,i < m→l[i]?=some o→L[i]?=some o:=fun i o hi ho=>by rw [hL,List.getElem?_take,if_pos hi];exact ho
 have hlen:∀ (i:Nat) (o:Oper),L[i]?=some o→∃ s,ss[i]?=some s:=fun i o ho=>by
  obtain ⟨s,hs,_⟩:=wR (env:=fun _=>default) L ss [] 0 a h rfl i o ho
  exact ⟨s,hs⟩
 have inb:∀ (i:Nat) (o:Oper),l[i]?=some o→∀ d,o.dst=some d→d < a.tmps.size:=fun i o ho d hd=>by
  have:=List.all_eq_true.1 hin o (aK ho)
  simpa [hd] using this
 have key:∀ (fuel:Nat) (listed:Array Bool) (b:Act) (w1:World) (env:Nat→Unk),listed.size=l.length→l.length≤fuel+listed.toList.countP (fun x=>x)→((listed.getD W.c false=false→Ext w w1)∧W.R w w1)→
   b=bO env (fun j=>listed.getD j false) L ss 0 a→(∀ j (s:Spec),listed.getD j false=true→ss[j]?=some s→s.fact (env j) w1)→
   (∀ j o,l[j]?=some o→listed.getD j false=true→∀ e ∈ o.after,Region.binds .any e=true→listed.getD e.on false=true)→(∀ j,m≤j→listed.getD j false=false)→
   wpAny P .any l.toArray (NoPanic Q) fuel listed b w1:=by
  intro fuel
  have finish:∀ (listed:Array Bool) (b:Act) (w1:World) (env:Nat→Unk),(∀ j,j < m→listed.getD j false=true)→W.R w w1→
    b=bO env (fun j=>listed.getD j false) L ss 0 a→(∀ j (s:Spec),listed.getD j false=true→ss[j]?=some s→s.fact (env j) w1)→xI P l m Q .normal b w1:=by
   intro listed b w1 env hall hw hb hf
   have e:bO env (fun j=>listed.getD j false) L ss 0 a=bO env (fun _=>true) L ss 0 a:=by
    refine zGh (by rw [hP,hP]) fun t=>jE L ss 0 a a rfl rfl fun j o ho _ => ?_
    simp only [Nat.zero_add]
    exact hall j (hLi j o ho).2
   rw [hb,e]
   exact zCL (Q:=xI P l m Q) (env:=env) L ss [] 0 a h w1 hw (by simp) (fun j s hj hs=>by
    simp only [Nat.zero_add]
    exact hf j s (hall j (by omega)) hs)
  have fin:∀ (listed:Array Bool) (b:Act) (w1:World) (env:Nat→Unk),(∀ j,j < l.length→listed.getD j false=true)→(∀ j,m≤j→listed.getD j false=false)→W.R w w1→
    b=bO env (fun j=>listed.getD j false) L ss 0 a→(∀ j (s:Spec),listed.getD j false=true→ss[j]?=some s→s.fact (env j) w1)→NoPanic Q .normal b w1:=by
   intro listed b w1 env hall hnt hw hb hf
   have hlm:l.length≤m:=by
    rcases Nat.lt_or_ge m l.length with h1|h1
    ·have h2:=hall m h1
     rw [hnt m (Nat.le_refl _)] at h2
     cases h2
    ·exact h1
   exact (finish listed b w1 env (fun j hj=>hall j (by omega)) hw hb hf 0 (by omega)).2
  have allOf:∀ listed:Array Bool,listed.size=l.length→Region.ready .any l.toArray listed = []→∀ j,j < l.length→listed.getD j false=true:=by
   intro listed hsz hr j
   induction j using Nat.strongRecOn with
   |_ j ih=>
    intro hj
    cases hb:listed.getD j false with
    |true=>rfl
    |false=>
     exfalso
     have hm:j ∈ Region.ready .any l.toArray listed:=by
      rw [mem_ready]
      refine ⟨?_,l[j],by simp [hj],fun e he hbd=>ih e.on (bY hok (by simp [hj]) he hbd) ?_⟩
      ·have hjs:j < listed.size:=by omega
       simp [hjs] at hb ⊢
       exact hb
      ·have:=bY hok (i:=j) (o:=l[j]) (by simp [hj]) he hbd
       omega
     rw [hr] at hm
     cases hm
  induction fuel with
  |zero=>
   intro listed b w1 env hsz hfu hw hb hf hcl hnt
   have hall:∀ j,j < l.length→listed.getD j false=true:=by
    intro j hj
    have hc:listed.toList.countP (fun x=>x)=listed.toList.length:=by
     have:=List.countP_le_length (p:=fun x=>x) (l:=listed.toList)
     simp only [Array.length_toList] at *
     omega
    have:=List.countP_eq_length.1 hc
    have hjs:j < listed.size:=by omega
    simp [hjs]
    exact this _ (by simp)
   refine ⟨?_,fin listed b w1 env hall hnt hw.2 hb hf⟩
   rw [List.eq_nil_iff_forall_not_mem]
   intro j hj
   obtain ⟨h0,o,ho,_⟩:=mem_ready.1 hj
   have hjl:j < l.length:=by have:=(Array.getElem?_eq_some_iff.1 ho).1;simpa using this
   have h1:=hall j hjl
   have hjs:j < listed.size:=by omega
   simp [hjs] at h0 h1
   rw [h0] at h1
   cases h1
  |succ fuel ih=>
   intro listed b w1 env hsz hfu hw hb hf hcl hnt
   refine ⟨fun hr=>fin listed b w1 env (allOf listed hsz hr) hnt hw.2 hb hf,fun i hi => ?_⟩
   obtain ⟨h0,o,ho',hall⟩:=mem_ready.1 hi
   have ho:l[i]?=some o:=by rw [← hops];exact ho'
   have hil:i < l.length:=(bC ho)
   have his:i < listed.size:=by omega
   have hun:listed.getD i false=false:=by
    simp [his] at h0 ⊢
    exact h0
   rcases Nat.lt_or_ge i m with him|him
   case inr=>
    have hpre:∀ j,j < m→listed.getD j false=true:=by
     intro j hj
     have h1:=List.all_eq_true.1 htl i (by simpa using hil)
     simp only [Bool.or_eq_true,decide_eq_true_eq,List.all_eq_true,List.mem_range] at h1
     rcases h1 with h1|h1
     ·omega
     ·exact jQ (l:=l.toArray) (fun j o ho=>hcl j o (by rw [← hops];exact ho)) _ i o j ho' hall (h1 j hj)
    have hw3:=finish listed b w1 env hpre hw.2 hb hf
    have hall':∀ j,listed.getD j false=decide (j < m):=fun j=>by
     by_cases hj:j < m
     ·rw [hpre j hj];simp [hj]
     ·rw [hnt j (by omega)];simp [hj]
    have hcnt:listed.toList.countP (fun x=>x)=m:=zKB listed m (by omega) hall'
    have hld:listed=jD m l.length:=by
     apply Array.ext
     ·rw [hsz];simp [jD]
     ·intro j h1 h2
      have h3:=hall' j
      simp [h1] at h3
      rw [h3]
      simp [jD]
    have h4:=hw3 (fuel+1) (by omega)
    rw [← hld] at h4
    exact h4.2 i hi
   have hoL:=hLo i o him ho
   obtain ⟨s,hs,gs,hgl,hg,hstep,_⟩:=wR (env:=env) L ss [] 0 a h rfl i o hoL
   have hb4:∀ e ∈ o.after,Region.binds .any e=true→e.on < i:=fun e he hbd=>bY hok ho' he hbd
   have hst:=hstep w1 (by
    simp only [Nat.zero_add,Ways.sees]
    split
    ·rename_i hic;exact hw.1 (hic ▸ hun)
    ·exact hw.2) (fun e he hbd=>by
    have he':e ∈ o.after:=by simpa using he
    have hlt:=hb4 e he' hbd
    obtain ⟨sj,hsj⟩:=hlen e.on (L[e.on]'(by omega)) (by simp)
    have hge:=hg e.on sj hlt hsj
    simp only [List.nil_append,List.getD_eq_getElem?_getD,hge,Option.getD_some,Nat.zero_add]
    exact hf e.on sj (hall e he' hbd) hsj)
   simp only [Nat.zero_add] at hst
   -- the canonical frame and the frame at hand agree on what the operation looks at
   have hag:∀ t ∈ o.looksAt l.toArray,b.tmps[t]?=(bO env (fun j=>decide (j < i)) L ss 0 a).tmps[t]?:=by
    intro t ht
    rw [hb]
    refine jE L ss 0 a a rfl rfl fun j p hpL hpt => ?_
    have hp:=(hLi j p hpL).1
    simp only [Nat.zero_add]
    by_cases hji:j=i
    ·subst hji;rw [hun];simp
    ·have hpair:=(fJ hok ho' (by rw [hops];exact hp) hji hpt).2 ht
     rcases hpair with hd|hd
     ·obtain ⟨e,he,hbd,hej⟩:=cW hd
      rw [← hej,hall e he hbd]
      simp [hb4 e he hbd]
     ·obtain ⟨e,he,hbd,hej⟩:=cW hd
      have hij:i < j:=by rw [← hej];exact bY hok (by rw [hops];exact hp) he hbd
      have:listed.getD j false=false:=by
       cases hlj:listed.getD j false with
       |false=>rfl
       |true=>have:=hcl j p hp hlj e he hbd;rw [hej,hun] at this;cases this
      rw [this]
      simp;omega
   have hev:∀ x ∈ o.op.operands,b.eval x=(bO env (fun j=>decide (j < i)) L ss 0 a).eval x:=by
    intro x hx
    cases x with
    |tmp t=>
     have:=hag t (List.mem_append_left _ (List.mem_filterMap.2 ⟨.tmp t,by simpa using hx,rfl⟩))
     simp [Act.eval,this]
    |_=>rfl
   have hexe:execOp b.eval o=execOp (bO env (fun j=>decide (j < i)) L ss 0 a).eval o:=
    execOp_congr o (fun cs bb=>Region.noSelect_spec (nV hok) i o cs bb ho') hev
   have hwan:Region.wanted o (yielded l.toArray b.tmps)=Region.wanted o (yielded l.toArray (bO env (fun j=>decide (j < i)) L ss 0 a).tmps):=by
    unfold Region.wanted
    cases hgd:o.guard with
    |none=>rfl
    |some gw=>
     obtain ⟨g,want⟩:=gw
     simp only
     congr 1
     unfold yielded
     cases ht:(l.toArray[g]?).bind (·.dst) with
     |none=>rfl
     |some t=>
      have e2:=hag t (List.mem_append_right _ (by simp only [hgd];rw [ht];simp))
      simp only [Option.bind_some]
      rw [e2]
   -- what follows behind the operation
   have next:∀ u w2,s.fact u w2→W.does i w1 w2→wpAny P .any l.toArray (NoPanic Q) fuel (listed.setIfInBounds i true) (b.put o.dst (s.shape u)) w2:=by
    intro u w2 hfu2 hx
    let env':Nat→Unk:=fun j=>if j=i then u else env j
    have hset:∀ j,(listed.setIfInBounds i true).getD j false=(decide (j=i) || listed.getD j false):=by
     intro j
     by_cases hji:j=i
     ·subst hji;simp [his]
     ·rw [getD_set_ne false (Ne.symm hji)];simp [hji]
    have henv:∀ (l:List Oper) (ss:List Spec) (k:Nat) (a:Act),bO env (fun j=>listed.getD j false) l ss k a=bO env' (fun j=>listed.getD j false) l ss k a:=by
     intro l
     induction l with
     |nil=>intro ss k a;simp [bO]
     |cons o r ihl=>intro ss k a;cases ss with
      |nil=>simp [bO]
      |cons s ss=>
       simp only [bO]
       by_cases hki:k=i
       ·subst hki
        rw [if_neg (by rw [hun];simp),if_neg (by rw [hun];simp)]
        exact ihl _ _ _
       ·have:env' k=env k:=if_neg hki
        rw [this]
        exact ihl _ _ _
    refine ih _ _ w2 env' (by simpa using hsz) ?_ ⟨fun hc => ?_,?_⟩ ?_ (fun j s' hj hs' => ?_) (fun j p hp hj e he hbd => ?_) (fun j hj=>by rw [hset,hnt j hj];simp;omega)
    ·have hc:(listed.setIfInBounds i true).toList.countP (fun x=>x)=listed.toList.countP (fun x=>x)+1:=by
      have hi':i < listed.toList.length:=by simpa using his
      simp only [Array.toList_setIfInBounds]
      rw [List.countP_set (h:=hi')]
      have:listed.toList[i]=false:=by
       have:=hun
       simp [his] at this
       simpa using this
      rw [this]
      simp
     rw [hc]
     omega
    ·rw [hset] at hc
     have hci:i ≠ W.c:=fun e=>by subst e;simp at hc
     simp only [Ways.does,if_neg hci] at hx
     exact (hw.1 (by simpa [Ne.symm hci] using hc)).trans hx
    ·refine W.trans _ _ _ hw.2 ?_
     simp only [Ways.does] at hx
     split at hx
     ·exact hx
     ·exact W.base _ _ hx
    ·rw [hb,henv]
     refine zGh (by rw [mS,hP,hP]) fun t => ?_
     by_cases hdt:o.dst=some t
     ·rw [hdt,xT,rL]
      rw [zDM (env:=env') L ss 0 a i o s hoL hs hdt (by rw [Nat.zero_add,hset];simp) (fun j p hpL hji=>by
       have hp:=(hLi j p hpL).1
       intro hpd
       have h2:=(fJ hok ho' (by rw [hops];exact hp) hji hpd).1
       exact h2 hdt)]
      simp only [Nat.zero_add]
      have:env' i=u:=if_pos rfl
      rw [this]
     ·rw [zIk _ _ _ _ hdt]
      refine jE L ss 0 a a rfl rfl fun j p hpL hpt => ?_
      have hp:=(hLi j p hpL).1
      rw [Nat.zero_add,hset]
      by_cases hji:j=i
      ·subst hji;rw [ho] at hp;cases hp;exact absurd hpt hdt
      ·simp [hji]
    ·rw [hset] at hj
     by_cases hji:j=i
     ·subst hji
      rw [hs] at hs'
      cases hs'
      have:env' j=u:=if_pos rfl
      rw [this]
      exact hfu2
     ·have:env' j=env j:=if_neg hji
      rw [this]
      have hj0:listed.getD j false=true:=by simpa [hji] using hj
      have hold:=hf j s' hj0 hs'
      simp only [Ways.does] at hx
      split at hx
      ·rename_i hic
       have hjl:j < l.length:=by
        rcases Nat.lt_or_ge j l.length with h1|h1
        ·exact h1
        ·have:¬ j < listed.size:=by omega
         simp [this] at hj0
       have hjm:j < m:=by
        rcases Nat.lt_or_ge j m with h1|h1
        ·exact h1
        ·rw [hnt j h1] at hj0;cases hj0
       obtain ⟨s2,hs2,_,_,_,_,hmono⟩:=wR (env:=env) L ss [] 0 a h rfl j l[j] (hLo j _ hjm (by simp))
       rw [hs'] at hs2
       cases hs2
       rw [Nat.zero_add] at hmono
       refine hmono ?_ _ _ _ hx hold
       cases hlj:W.late j with
       |false=>rfl
       |true=>
        exfalso
        have hjc:j ≠ W.c:=fun e=>hji (e.trans hic.symm)
        have:=jQ (l:=l.toArray) (fun j o ho=>hcl j o (by rw [← hops];exact ho)) _ j l[j] W.c (by simp [hjl]) (hcl j l[j] (by simp [hjl]) hj0) (hlate j hlj hjc)
        rw [← hic,hun] at this
        cases this
      ·exact s'.mono _ _ _ hx hold
    ·rw [hset] at hj ⊢
     by_cases hji:j=i
     ·subst hji
      rw [ho] at hp
      cases hp
      rw [hall e he hbd]
      simp
     ·rw [hcl j p hp (by simpa [hji] using hj) e he hbd]
      simp
   -- the step
   unfold wpOp
   simp only [ho']
   replace hst:=zCt hst
   unfold lF at hst
   rw [hwan]
   split
   ·rename_i hw'
    rw [if_pos hw'] at hst
    rcases hst (fun a' w'=>∃ v,a'=(bO env (fun j=>decide (j < i)) L ss 0 a).put o.dst v∧∃ u,v=s.shape u∧s.fact u w'∧W.does i w1 w') (fun u w' h1 h2=>⟨_,rfl,u,rfl,h1,h2⟩) with hs1|hs1
    ·refine .inl (Oper.wp_mono (fun a' w' hh => ?_) (zHK hexe (fun d hd=>by rw [rL];exact inb i o ho d hd) hs1))
     obtain ⟨v,rfl,u,rfl,h1,h2⟩:=hh
     exact next u w' h1 h2
    ·refine .inr ⟨?_,hs1.2⟩
     have:=hs1.1
     unfold Oper.asks at this ⊢
     rw [hexe]
     exact this
   ·rename_i hw'
    rw [if_neg hw'] at hst
    obtain ⟨u,hu,h1⟩:=hst
    rw [← hu]
    exact next u w1 h1 (W.self i w1)
 refine key l.toArray.size _ a _ (fun _=>default) (by simp) (by simp) ⟨fun _=>Ext.drew w,W.base _ _ (Ext.drew w)⟩ ?_ (fun j s hj => ?_) (fun j o _ hj => ?_) (fun j _ => ?_)
 ·have hnone:∀ (m:List Oper) (ss:List Spec) (k:Nat) (a:Act),bO (fun _=>default) (fun j=>(Array.replicate l.toArray.size false).getD j false) m ss k a=a:=by
   intro m
   induction m with
   |nil=>intro ss k a;simp [bO]
   |cons o r ih=>intro ss k a;cases ss with
    |nil=>simp [bO]
    |cons s ss=>
     simp only [bO]
     rw [if_neg (by simp [Array.getElem?_replicate];split<;>simp)]
     exact ih ss (k+1) a
  exact (hnone L ss 0 a).symm
 ·exfalso
  simp [Array.getElem?_replicate] at hj
  split at hj<;>simp at hj
 ·exfalso
  simp [Array.getElem?_replicate] at hj
  split at hj<;>simp at hj
 ·simp [Array.getElem?_replicate]
  split<;>simp
theorem ParW.mono {Q1 Q2:Exit→Act→World→Prop} {ops:Array Oper} {W:Ways} {w0:World} (hn:∀ a w,Q1 .normal a w→Q2 .normal a w) (hs:∀ R o s a w,lF P ops Q1 R o s a w→lF P ops Q2 R o s a w):
  ∀ (l:List Oper) (ss:List Spec) (fs:List (World→Prop)) (k:Nat) (a:Act),ParW P ops Q1 W w0 k l ss fs a→ParW P ops Q2 W w0 k l ss fs a
 |[],_,_,_,_,h=>fun w h1 h2=>hn _ w (h w h1 h2)
 |_::_,[],_,_,_,h=>h.elim
 |_::r,_::ss,_,_,_,h=>⟨fun w h1 h2=>hs _ _ _ _ _ (h.1 w h1 h2),h.2.1,fun u=>ParW.mono hn hs r ss _ _ _ (h.2.2 u)⟩
theorem zEn (hp:∀ c a w,NoPanic Q1 (.panic c) a w→NoPanic Q2 (.panic c) a w) (ho:LetsOut (NoPanic Q1)→LetsOut (NoPanic Q2)) {ops:Array Oper} (R:World→World→Prop) (o:Oper) (s:Spec) (a:Act) (w:World) (h:lF P ops Q1 R o s a w):lF P ops Q2 R o s a w:=by
 unfold lF at *
 split
 ·rename_i hw
  rw [if_pos hw] at h
  intro K hK
  rcases h K hK with h1|h1
  ·exact .inl (zAt hp ho h1)
  ·exact .inr ⟨h1.1,ho h1.2⟩
 ·rename_i hw
  rw [if_neg hw] at h
  exact h
theorem zB0 {l:Array Oper} {m:Nat} (h:tR l m=true):zE1 l m=true:=by
 unfold zE1
 rw [List.all_eq_true]
 intro i hi
 have h1:=List.all_eq_true.1 h i hi
 simp only [Bool.or_eq_true,decide_eq_true_eq,List.all_eq_true,List.mem_range] at h1 ⊢
 rcases h1 with h1|h1
 ·exact .inl h1
 ·rcases Nat.lt_or_ge i m with h2|h2
  ·exact .inl h2
  ·exact .inr fun j hj=>h1 j (by omega)
theorem zHX {m:Nat} (hok:jO l.toArray=true) (htl:tR l.toArray m=true) (hml:m≤l.length) (a:Act) (w:World) (h:zCo P l m Q .normal a w):xI P l m Q .normal a w:=fun fuel hf=>
 zEa hok htl m fuel (jD m l.length) a w (Nat.le_refl _) hml (by simp [jD]) (fun j=>by
  by_cases hj:j < l.length
  ·simp [jD,hj]
  ·simp [jD,hj];omega) hf h
theorem nO {id:Nat} (m:Nat) (W:Ways) {a:Act} {w:World} (hm:P.follows .mixedOrders=true) (hok:jO l.toArray=true) (htl:tR l.toArray m=true) (hml:m≤l.length) (hlate:∀ i,W.late i=true→i ≠ W.c→jY l.toArray l.toArray.size i W.c=true)
  (hin:(l.all fun o=>match o.dst with|some d=>decide (d < a.tmps.size)|none=>true)=true) 
  (h:ParW P l.toArray (zCo P l m Q) W w 0 (l.take m) ss [] a):(Code.region id l.toArray true).wp P Q a w:=by  refine wG m W hm hok (zB0 htl) hml hlate hin (ParW.mono (zHX hok htl hml) (fun R o s a w=>zEn (fun _ _ _ h=>h) (fun ⟨a,w,h⟩=>⟨a,w,h⟩) R o s a w) _ _ _ _ _ h)
def Ways.none:Ways:=⟨Ext,0,fun _=>false,fun _ _ h=>h,fun _ _ _ h k=>h.trans k⟩
theorem zFE {ops:Array Oper} {w0:World}:∀ (l:List Oper) (ss:List Spec) (fs:List (World→Prop)) (k:Nat) (a:Act),cF P ops Q w0 l ss fs a→ParW P ops Q Ways.none w0 k l ss fs a
 |[],_,_,_,_,h=>h
 |_::_,[],_,_,_,h=>h.elim
 |o::r,s::ss,fs,k,a,h=>by
  have e1:Ways.none.sees k=Ext:=by unfold Ways.sees;split<;>rfl
  have e2:Ways.none.does k=Ext:=by unfold Ways.does;split<;>rfl
  refine ⟨fun w hw hf => ?_,fun _ u w w' hw hf=>s.mono u w w' hw hf,fun u=>zFE r ss _ _ _ (h.2 u)⟩
  rw [e2]
  exact h.1 w (by rw [e1] at hw;exact hw) hf
theorem wZ {id:Nat} (m:Nat) {a:Act} {w:World} (hm:P.follows .mixedOrders=true) (hok:jO l.toArray=true) (htl:tR l.toArray m=true) (hml:m≤l.length)
  (hin:(l.all fun o=>match o.dst with|some d=>decide (d < a.tmps.size)|none=>true)=true) 
  (h:cF P l.toArray (zCo P l m Q) w (l.take m) ss [] a):(Code.region id l.toArray true).wp P Q a w:=by  exact nO m Ways.none hm hok htl hml (fun _ h=>by cases h) hin (zFE _ _ _ _ _ h)
end
end Go.Proofs.YtnjgoldinaffgaaGreatDoor
