/- Single operations on data: what each gives, and that the machine gives no other. Single operations on data: parts of structs, memory, slices. Single operations on data: structs and slices written out, parts of slices. What a call gives; every single operation as one function. Every operation as one function on data, and why the machine does the same. -/
import Derived.Test.YtnlbekongmkmjaaGreatDoorZ1
import Derived.Laws.IdiomStrings
import Derived.Laws.MakeOwn
namespace Go.Proofs.YtnlbekongmkmjaaGreatDoor
set_option linter.unusedSimpArgs false
set_option linter.unusedVariables false
open Go.RowKit
inductive TI where
 |int (k:IntKind)
 |str
 |bool
 |one
 |ifc
 |sl (e sz bytes:Nat) (zc:List Value)
 |mp (k e:Nat) (kd:KD) (z:Value)
 |st (n:Nat) (fl:List (Nat × Nat × Bool)) (ks:Option (List Nat))
def TFact (P:Program) (t:Nat):TI→Prop
 |.int k=>TInt P t k∧TOne P t
 |.str=>TStr P t∧TOne P t
 |.bool=>TBool P t∧TOne P t
 |.one=>TOne P t
 |.ifc=>TIfc P t∧TOne P t
 |.sl e sz by' zc=>TSlice P t e∧TSize P e sz∧TOne P t∧TElem P e sz by' zc∧TZer P e zc
 |.mp k e kd z=>TMap P t k e kd∧TZ1 P e z∧TOne P t
 |.st n fl ks=>TRow P t n∧(∀ (i off n':Nat) (ag:Bool),fl[i]?=some (off,n'+1,ag)→TFld P t i off n' ag)∧TStruct P t (fl.map fun x=>(x.1,x.2.1))∧∀ k,ks=some k→TEq P t k
structure TOk (P:Program) (T:Nat→Option TI) (Z:Nat→Option (List Value)):Prop where
 ty:∀ t i,T t=some i→TFact P t i
 zer:∀ t z,Z t=some z→TZer P t z
theorem D.one_fz {S:Sig} {w:World} {q:Place} {v:Value} {d:D} (h:Rep S w q v d) (ho:d.one=true):Fz S.lim w v d:=by
 cases h with
 |fz h=>exact h
 |own g=>
  rcases g.mode with h|h<;>subst h<;>cases ho
 |_=>cases ho
theorem D.one_cell {lim:Nat→Option Nat} {w:World} {v:Value} {d:D} (h:Fz lim w v d) (ho:d.one=true):v.oneCell'=true:=by
 cases h with
 |pv v=>exact ho
 |_=>first|rfl|cases ho
theorem Fz.cells {S:Sig} {w:World} {q:Place} {v:Value} {d:D} {cs:List D} (h:Rep S w q v d) (hc:d.cellsOf=some cs):
  v.cells.toList.length=cs.length∧(∀ u:Value,u ∈ v.cells.toList→u.oneCell'=true)∧∀ (j:Nat) (e:D) (u:Value),cs[j]?=some e→v.cells.toList[j]?=some u→Fz S.lim w u e:=by
 have single1:Fz S.lim w v d→v.oneCell'=true→cs = [d]→v.cells.toList.length=cs.length∧(∀ u:Value,u ∈ v.cells.toList→u.oneCell'=true)∧∀ (j:Nat) (e:D) (u:Value),cs[j]?=some e→v.cells.toList[j]?=some u→Fz S.lim w u e:=by
  intro hf h1 he
  subst he
  have e1:v.cells = #[v]:=by cases v<;>first|rfl|cases h1
  rw [e1]
  refine ⟨rfl,fun u hu=>by simp at hu;subst hu;exact h1,fun j e u he hu => ?_⟩
  cases j with
  |zero=>cases he;cases hu;exact hf
  |succ j=>simp at he
 have single:d.one=true→cs = [d]→v.cells.toList.length=cs.length∧(∀ u:Value,u ∈ v.cells.toList→u.oneCell'=true)∧∀ (j:Nat) (e:D) (u:Value),cs[j]?=some e→v.cells.toList[j]?=some u→Fz S.lim w u e:=fun ho he=>single1 (D.one_fz h ho) (D.one_cell (D.one_fz h ho) ho) he
 cases d with
 |fn f caps=>
  simp only [D.cellsOf] at hc
  split at hc
  ·rename_i hall
   cases hc
   cases h with
   |fz h=>refine single1 h ?_ rfl;cases h;rfl
   |fn vs hl ih=>exact single1 (.fn vs hl fun j d v hd hv=>D.one_fz (ih j d v hd hv) (List.all_eq_true.1 hall d (gMem hd))) rfl rfl
  ·cases hc
 |agg cs0=>
  simp only [D.cellsOf] at hc
  split at hc
  ·rename_i hall
   cases hc
   obtain ⟨vs,rfl,h2,h3,h4⟩:=h.agg_inv
   refine ⟨by simpa [Value.cells] using h2,by simpa [Value.cells] using h3,fun j e u he hu => ?_⟩
   refine D.one_fz (h4 j e u he (by simpa [Value.cells] using hu)) ?_
   exact List.all_eq_true.1 hall e (gMem he)
  ·cases hc
 |_=>
  simp only [D.cellsOf] at hc
  split at hc
  ·rename_i ho
   cases hc
   exact single ho rfl
  ·cases hc
theorem Rep.plain {S:Sig} {w:World} {q p:Place} {v:Value} {d:D} (h:Rep S w q v d) (hp:d.plain=true):Rep S w p v d:=by
 cases h with
 |fz h=>exact .fz h
 |own g=>rcases g.mode with h|h<;>subst h<;>cases hp
 |mp=>cases hp
 |obj=>cases hp
 |ref h=>exact .ref h
 |gref h hv=>exact .gref h hv
 |fn vs hl ih=>exact .fn vs hl ih
 |agg vs hl h1 ih=>
  refine .agg vs hl h1 fun j d v hd hv=>.fz (D.one_fz (ih j d v hd hv) ?_)
  exact List.all_eq_true.1 hp d (gMem hd)
 |tup vs hl ih=>
  refine .tup vs hl fun j d v hd hv => ?_
  have h1:=List.all_eq_true.1 hp d (gMem hd)
  have h2:=ih j d v hd hv
  cases d with
  |agg cs=>
   obtain ⟨us,rfl,k1,k2,k3⟩:=h2.agg_inv
   exact .agg us k1 k2 fun j' e u he hu=>.fz (D.one_fz (k3 j' e u he hu) (List.all_eq_true.1 h1 e (gMem he)))
  |_=>exact .fz (D.one_fz h2 h1)
structure Vl (S:Sig) (w:World) (o:Op) (ρ:Operand→D) (v:Value) (d:D):Prop where
 rep:∀ p,Rep S w p v d
 men:∀ t,Men t d→∃ x ∈ o.operands.toList,Men t (ρ x)
theorem Vl.fz {S:Sig} {w:World} {o:Op} {ρ:Operand→D} {v:Value} {d:D} (h:Fz S.lim w v d):Vl S w o ρ v d:=⟨fun _=>.fz h,fun _ ht=>(h.men ht).elim⟩
def OpOk (P:Program) (o:Oper) (ρ:Operand→D) (d:D):Prop:=
 ∀ (S:Sig) (w:World) (a:Act) (p:Place),WF S w→(∀ x ∈ o.op.operands.toList,∃ q,Rep S w q (a.eval x) (ρ x))→∀ (K:Act→World→Prop) (Q:Exit→Act→World→Prop),
  (∀ v S' w',PT S w S' w'→Rep S' w' p v d→(∀ t,Men t d→∃ x ∈ o.op.operands.toList,Men t (ρ x))→K (a.put o.dst v) w')→o.wp P a w K Q
section
variable {P:Program} {dst:Option Tmp} {ty:TypeId} {pos:String} {after:Array Edge} {guard:Option (Nat × Bool)} {ρ:Operand→D}
theorem OpOk.still {o:Oper} {d:D} (h:∀ (S:Sig) (w:World) (a:Act),WF S w→(∀ x ∈ o.op.operands.toList,∃ q,Rep S w q (a.eval x) (ρ x))→∃ v,Vl S w o.op ρ v d∧∀ (K:Act→World→Prop) (Q:Exit→Act→World→Prop),K (a.put o.dst v) w→o.wp P a w K Q):OpOk P o ρ d:=by
 intro S w a p hw hx K Q hK
 obtain ⟨v,h1,h2⟩:=h S w a hw hx
 exact h2 K Q (hK v S w (PT.refl hw) (h1.rep p) h1.men)
theorem ok_move {x:Operand} (hp:(ρ x).plain=true):OpOk P (Oper.mk dst (.move x) ty pos after guard) ρ (ρ x):=
 .still fun S w a _ hx=>by
  obtain ⟨q,h⟩:=hx x (by simp [Op.operands])
  exact ⟨_,⟨fun p=>h.plain hp,fun t ht=>⟨x,by simp [Op.operands],ht⟩⟩,fun K Q hk=>r_move rfl hk⟩
theorem ok_assign {x:Operand} (hp:(ρ x).plain=true):OpOk P (Oper.mk dst (.assign x) ty pos after guard) ρ (ρ x):=
 .still fun S w a _ hx=>by
  obtain ⟨q,h⟩:=hx x (by simp [Op.operands])
  exact ⟨_,⟨fun p=>h.plain hp,fun t ht=>⟨x,by simp [Op.operands],ht⟩⟩,fun K Q hk=>r_assign rfl hk⟩
theorem Fz.ptr_inv {lim:Nat→Option Nat} {w:World} {v:Value} {cs:List D} (h:Fz lim w v (.ptr cs)):∃ b o,v=.pointer (some ⟨b,o,none⟩)∧∃ cv:Nat→Value,(∀ (j:Nat) (d:D),cs[j]?=some d→w.cell? ⟨b,o+j,none⟩=some (cv j)∧OkC lim b (o+j)∧(cv j).oneCell'=true)∧∀ (j:Nat) (d:D),cs[j]?=some d→Fz lim w (cv j) d:=by
 cases h with
 |ptr cv hh ih=>exact ⟨_,_,rfl,cv,hh,ih⟩
theorem arg {S:Sig} {w:World} {a:Act} {o:Op} {ρ:Operand→D} (hr:∀ x ∈ o.operands.toList,∃ q,Rep S w q (a.eval x) (ρ x)) {x:Operand} {d:D} (hx:ρ x=d) (hm:x ∈ o.operands.toList):∃ q,Rep S w q (a.eval x) d:=by
 obtain ⟨q,h⟩:=hr x hm
 exact ⟨q,hx ▸ h⟩
theorem argI {S:Sig} {w:World} {a:Act} {o:Op} {ρ:Operand→D} (hr:∀ x ∈ o.operands.toList,∃ q,Rep S w q (a.eval x) (ρ x)) {x:Operand} {k:IntKind} {n:Int} (hx:ρ x=.int k n) (hm:x ∈ o.operands.toList):a.eval x=.int k n:=by
 obtain ⟨q,h⟩:=arg hr hx hm;exact h.int_inv
theorem argB {S:Sig} {w:World} {a:Act} {o:Op} {ρ:Operand→D} (hr:∀ x ∈ o.operands.toList,∃ q,Rep S w q (a.eval x) (ρ x)) {x:Operand} {b:Bool} (hx:ρ x=.bool b) (hm:x ∈ o.operands.toList):a.eval x=.bool b:=by
 obtain ⟨q,h⟩:=arg hr hx hm;exact h.bool_inv
theorem argS {S:Sig} {w:World} {a:Act} {o:Op} {ρ:Operand→D} (hr:∀ x ∈ o.operands.toList,∃ q,Rep S w q (a.eval x) (ρ x)) {x:Operand} {s:List UInt8} (hx:ρ x=.str s) (hm:x ∈ o.operands.toList):a.eval x=.string ⟨s.toArray⟩:=by
 obtain ⟨q,h⟩:=arg hr hx hm;exact h.str_inv
theorem ok_nilPtr {x:Operand} {cs:List D} (hx:ρ x=.ptr cs):OpOk P (Oper.mk dst (.nilCheck x) ty pos after guard) ρ (.ptr cs):=
 .still fun S w a _ hr=>by
  obtain ⟨q,h⟩:=arg hr hx (by simp [Op.operands])
  have hf:=D.one_fz h rfl
  obtain ⟨b,o,hv,_⟩:=hf.ptr_inv
  exact ⟨_,.fz hf,fun K Q hk=>by rw [hv] at hk;exact r_nilCheck hv hk⟩
theorem ok_nilRef {x:Operand} {t o:Nat} (hx:ρ x=.ref t o):OpOk P (Oper.mk dst (.nilCheck x) ty pos after guard) ρ (.ref t o):=
 .still fun S w a _ hr=>by
  obtain ⟨q,h⟩:=arg hr hx (by simp [Op.operands])
  refine ⟨_,⟨fun p=>h.plain rfl,fun t ht=>⟨x,by simp [Op.operands],by rw [hx];exact ht⟩⟩,fun K Q hk => ?_⟩
  generalize hv:a.eval x=v at h hk
  cases h with
  |fz h=>cases h
  |ref g=>exact r_nilCheck hv hk
def D.oneA:D→Bool
 |.agg cs=>cs.all D.one
 |d=>d.one
theorem D.oneA_fz {S:Sig} {w:World} {q:Place} {v:Value} {d:D} (h:Rep S w q v d) (ho:d.oneA=true):Fz S.lim w v d:=by
 cases d with
 |agg cs=>
  obtain ⟨vs,rfl,h1,h2,h3⟩:=h.agg_inv
  exact .agg vs h1 h2 fun j d v hd hv=>D.one_fz (h3 j d v hd hv) (List.all_eq_true.1 ho d (gMem hd))
 |_=>exact D.one_fz h ho
theorem ok_extract {x:Operand} {i:Nat} {ds:List D} {d:D} (hx:ρ x=.tup ds) (hd:ds[i]?=some d) (hp:d.oneA=true):OpOk P (Oper.mk dst (.extract x i) ty pos after guard) ρ d:=
 .still fun S w a _ hr=>by
  obtain ⟨q,h⟩:=arg hr hx (by simp [Op.operands])
  obtain ⟨vs,hv,hl,hi⟩:=h.tup_inv
  have hlt:i < vs.length:=by rw [hl];exact (gLt hd)
  exact ⟨vs[i],.fz (D.oneA_fz (hi i d _ hd (List.getElem?_eq_getElem hlt)) hp),fun K Q hk=>r_extract hv (List.getElem?_eq_getElem hlt) hk⟩
theorem ok_not {x:Operand} {t:TypeId} {b:Bool} (hx:ρ x=.bool b):OpOk P (Oper.mk dst (.unOp .not t x) ty pos after guard) ρ (.bool !b):=
 .still fun S w a _ hr=>⟨_,.fz (.bool _),fun K Q hk=>r_not (argB hr hx (by simp [Op.operands])) hk⟩
theorem ok_neg {x:Operand} {t:TypeId} {k:IntKind} {p r:Int} (hx:ρ x=.int k p) (h:k.wrap (0 - p)=r):OpOk P (Oper.mk dst (.unOp .neg t x) ty pos after guard) ρ (.int k r):=
 .still fun S w a _ hr=>⟨_,.fz (.int _ _),fun K Q hk=>r_neg (argI hr hx (by simp [Op.operands])) h hk⟩
section
variable {x y:Operand} {t t':TypeId} {k:IntKind} {p q r:Int}
theorem ok_add (hx:ρ x=.int k p) (hy:ρ y=.int k q) (h:k.wrap (p+q)=r):OpOk P (Oper.mk dst (.binOp .add t x y t') ty pos after guard) ρ (.int k r):=
 .still fun S w a _ hr=>⟨_,.fz (.int _ _),fun K Q hk=>r_add (argI hr hx (by simp [Op.operands])) (argI hr hy (by simp [Op.operands])) h hk⟩
theorem ok_sub (hx:ρ x=.int k p) (hy:ρ y=.int k q) (h:k.wrap (p - q)=r):OpOk P (Oper.mk dst (.binOp .sub t x y t') ty pos after guard) ρ (.int k r):=
 .still fun S w a _ hr=>⟨_,.fz (.int _ _),fun K Q hk=>r_sub (argI hr hx (by simp [Op.operands])) (argI hr hy (by simp [Op.operands])) h hk⟩
theorem ok_mul (hx:ρ x=.int k p) (hy:ρ y=.int k q) (h:k.wrap (p * q)=r):OpOk P (Oper.mk dst (.binOp .mul t x y t') ty pos after guard) ρ (.int k r):=
 .still fun S w a _ hr=>⟨_,.fz (.int _ _),fun K Q hk=>r_mul (argI hr hx (by simp [Op.operands])) (argI hr hy (by simp [Op.operands])) h hk⟩
theorem ok_quo (hx:ρ x=.int k p) (hy:ρ y=.int k q) (h0:q ≠ 0) (h:k.wrap (p.tdiv q)=r):OpOk P (Oper.mk dst (.binOp .quo t x y t') ty pos after guard) ρ (.int k r):=
 .still fun S w a _ hr=>⟨_,.fz (.int _ _),fun K Q hk=>r_quo (argI hr hx (by simp [Op.operands])) (argI hr hy (by simp [Op.operands])) h0 h hk⟩
theorem ok_rem (hx:ρ x=.int k p) (hy:ρ y=.int k q) (h0:q ≠ 0) (h:p.tmod q=r):OpOk P (Oper.mk dst (.binOp .rem t x y t') ty pos after guard) ρ (.int k r):=
 .still fun S w a _ hr=>⟨_,.fz (.int _ _),fun K Q hk=>r_rem (argI hr hx (by simp [Op.operands])) (argI hr hy (by simp [Op.operands])) h0 h hk⟩
theorem ok_shr {k':IntKind} (hx:ρ x=.int k p) (hy:ρ y=.int k' q) (h0:0≤q) (h1:q≤k.bits) (h:p / 2 ^ q.toNat=r):OpOk P (Oper.mk dst (.binOp .shr t x y t') ty pos after guard) ρ (.int k r):=
 .still fun S w a _ hr=>⟨_,.fz (.int _ _),fun K Q hk=>wp_run (v:=.int k r) (by
  have hx':=argI hr hx (by simp [Op.operands])
  have hy':=argI hr hy (by simp [Op.operands])
  have he:(eqGuard .shr t x y (.int k p) (.int k' q)).run P w=.ok () w:=rfl
  have hb:(binOp .shr t (.int k p) (.int k' q)).run P w=.ok (.int k r) w:=by
   rw [show binOp .shr t (.int k p) (.int k' q)=Op.shift .shr k p k' q from rfl,shift_shr k k' p q h0 h1,h]
   rfl
  simp only [execOp,hx',hy',Sem.run_bind,he,Result.andThen_ok,hb,Sem.run_pure]) hk⟩
def bitsI (op:BinOp) (k:IntKind) (p q:Int):Int:=match op with
 |.and=>k.wrap (BitVec.ofInt k.bits p &&& BitVec.ofInt k.bits q).toNat
 |.or=>k.wrap (BitVec.ofInt k.bits p ||| BitVec.ofInt k.bits q).toNat
 |.xor=>k.wrap (BitVec.ofInt k.bits p ^^^ BitVec.ofInt k.bits q).toNat
 |_=>k.wrap (BitVec.ofInt k.bits p &&& ~~~BitVec.ofInt k.bits q).toNat
def isBits:BinOp→Bool
 |.and | .or | .xor | .andNot=>true
 |_=>false
theorem ok_bits {op:BinOp} (ho:isBits op=true) (hx:ρ x=.int k p) (hy:ρ y=.int k q) (h:bitsI op k p q=r):OpOk P (Oper.mk dst (.binOp op t x y t') ty pos after guard) ρ (.int k r):=
 .still fun S w a _ hr=>⟨_,.fz (.int _ _),fun K Q hk=>wp_run (v:=.int k r) (by
  have hx':=argI hr hx (by simp [Op.operands])
  have hy':=argI hr hy (by simp [Op.operands])
  have he:(eqGuard op t x y (.int k p) (.int k q)).run P w=.ok () w:=by cases op<;>first|rfl|cases ho
  have hb:(binOp op t (.int k p) (.int k q)).run P w=.ok (.int k r) w:=by
   subst h
   cases op<;>first|(cases ho;done)|(simp only [binOp,ne_eq,not_true_eq_false,if_false,Op.intBits,bitsI,Sem.run_pure])
  simp only [execOp,hx',hy',Sem.run_bind,he,Result.andThen_ok,hb,Sem.run_pure]) hk⟩
theorem ok_shl {k':IntKind} (hx:ρ x=.int k p) (hy:ρ y=.int k' q) (h0:0≤q) (h1:q≤k.bits) (h:k.wrap (p * 2 ^ q.toNat)=r):OpOk P (Oper.mk dst (.binOp .shl t x y t') ty pos after guard) ρ (.int k r):=
 .still fun S w a _ hr=>⟨_,.fz (.int _ _),fun K Q hk=>wp_run (v:=.int k r) (by
  have hx':=argI hr hx (by simp [Op.operands])
  have hy':=argI hr hy (by simp [Op.operands])
  have he:(eqGuard .shl t x y (.int k p) (.int k' q)).run P w=.ok () w:=rfl
  have hb:(binOp .shl t (.int k p) (.int k' q)).run P w=.ok (.int k r) w:=by
   rw [show binOp .shl t (.int k p) (.int k' q)=Op.shift .shl k p k' q from rfl]
   unfold Op.shift
   rw [if_neg (by omega)]
   have hm:min q.toNat k.bits=q.toNat:=by omega
   simp only [hm,h,Sem.run_pure]
  simp only [execOp,hx',hy',Sem.run_bind,he,Result.andThen_ok,hb,Sem.run_pure]) hk⟩
theorem ok_eql (hx:ρ x=.int k p) (hy:ρ y=.int k q):OpOk P (Oper.mk dst (.binOp .eql t x y t') ty pos after guard) ρ (.bool (p == q)):=
 .still fun S w a _ hr=>⟨_,.fz (.bool _),fun K Q hk=>r_eql (argI hr hx (by simp [Op.operands])) (argI hr hy (by simp [Op.operands])) hk⟩
theorem ok_neq (hx:ρ x=.int k p) (hy:ρ y=.int k q):OpOk P (Oper.mk dst (.binOp .neq t x y t') ty pos after guard) ρ (.bool !(p == q)):=
 .still fun S w a _ hr=>⟨_,.fz (.bool _),fun K Q hk=>r_neq (argI hr hx (by simp [Op.operands])) (argI hr hy (by simp [Op.operands])) hk⟩
theorem ok_lss (hx:ρ x=.int k p) (hy:ρ y=.int k q):OpOk P (Oper.mk dst (.binOp .lss t x y t') ty pos after guard) ρ (.bool (decide (p < q))):=
 .still fun S w a _ hr=>⟨_,.fz (.bool _),fun K Q hk=>r_lss (argI hr hx (by simp [Op.operands])) (argI hr hy (by simp [Op.operands])) hk⟩
theorem ok_leq (hx:ρ x=.int k p) (hy:ρ y=.int k q):OpOk P (Oper.mk dst (.binOp .leq t x y t') ty pos after guard) ρ (.bool (decide (p≤q))):=
 .still fun S w a _ hr=>⟨_,.fz (.bool _),fun K Q hk=>r_leq (argI hr hx (by simp [Op.operands])) (argI hr hy (by simp [Op.operands])) hk⟩
theorem ok_gtr (hx:ρ x=.int k p) (hy:ρ y=.int k q):OpOk P (Oper.mk dst (.binOp .gtr t x y t') ty pos after guard) ρ (.bool (decide (q < p))):=
 .still fun S w a _ hr=>⟨_,.fz (.bool _),fun K Q hk=>r_gtr (argI hr hx (by simp [Op.operands])) (argI hr hy (by simp [Op.operands])) hk⟩
theorem ok_geq (hx:ρ x=.int k p) (hy:ρ y=.int k q):OpOk P (Oper.mk dst (.binOp .geq t x y t') ty pos after guard) ρ (.bool (decide (q≤p))):=
 .still fun S w a _ hr=>⟨_,.fz (.bool _),fun K Q hk=>r_geq (argI hr hx (by simp [Op.operands])) (argI hr hy (by simp [Op.operands])) hk⟩
theorem ok_max {ts:Array TypeId} (hx:ρ x=.int k p) (hy:ρ y=.int k q):OpOk P (Oper.mk dst (.call ⟨.builtin .max,#[x,y],ts⟩) ty pos after guard) ρ (.int k (max p q)):=
 .still fun S w a _ hr=>⟨_,.fz (.int _ _),fun K Q hk=>r_max (argI hr hx (by simp [Op.operands,Call.operands])) (argI hr hy (by simp [Op.operands,Call.operands])) hk⟩
theorem ok_min {ts:Array TypeId} (hx:ρ x=.int k p) (hy:ρ y=.int k q):OpOk P (Oper.mk dst (.call ⟨.builtin .min,#[x,y],ts⟩) ty pos after guard) ρ (.int k (min p q)):=
 .still fun S w a _ hr=>⟨_,.fz (.int _ _),fun K Q hk=>r_min (argI hr hx (by simp [Op.operands,Call.operands])) (argI hr hy (by simp [Op.operands,Call.operands])) hk⟩
theorem ok_conv {k':IntKind} [i:TInt P t' k] (hs:∃ d,P.underlying t=some d) (hx:ρ x=.int k' p) (h:k.wrap p=r):OpOk P (Oper.mk dst (.convert t t' x) ty pos after guard) ρ (.int k r):=
 .still fun S w a _ hr=>⟨_,.fz (.int _ _),fun K Q hk=>r_conv hs.choose_spec (argI hr hx (by simp [Op.operands])) h hk⟩
end
section
variable {x y:Operand} {t t':TypeId} {b c:Bool} {s u:List UInt8}
theorem ok_boolEq [TBool P t] (hx:ρ x=.bool b) (hy:ρ y=.bool c):OpOk P (Oper.mk dst (.binOp .eql t x y t') ty pos after guard) ρ (.bool (b == c)):=
 .still fun S w a _ hr=>⟨_,.fz (.bool _),fun K Q hk=>r_boolEq (argB hr hx (by simp [Op.operands])) (argB hr hy (by simp [Op.operands])) hk⟩
theorem ok_boolNe [TBool P t] (hx:ρ x=.bool b) (hy:ρ y=.bool c):OpOk P (Oper.mk dst (.binOp .neq t x y t') ty pos after guard) ρ (.bool !(b == c)):=
 .still fun S w a _ hr=>⟨_,.fz (.bool _),fun K Q hk=>r_boolNe (argB hr hx (by simp [Op.operands])) (argB hr hy (by simp [Op.operands])) hk⟩
theorem ok_cat (hx:ρ x=.str s) (hy:ρ y=.str u) (hl:s.length+u.length≤9223372036854775807):OpOk P (Oper.mk dst (.binOp .add t x y t') ty pos after guard) ρ (.str (s++u)):=
 .still fun S w a _ hr=>⟨_,.fz (.str _),fun K Q hk=>r_cat (argS hr hx (by simp [Op.operands])) (argS hr hy (by simp [Op.operands])) hl hk⟩
theorem ok_seql (hx:ρ x=.str s) (hy:ρ y=.str u):OpOk P (Oper.mk dst (.binOp .eql t x y t') ty pos after guard) ρ (.bool (s == u)):=
 .still fun S w a _ hr=>⟨_,.fz (.bool _),fun K Q hk=>r_seql (argS hr hx (by simp [Op.operands])) (argS hr hy (by simp [Op.operands])) hk⟩
theorem ok_sneq (hx:ρ x=.str s) (hy:ρ y=.str u):OpOk P (Oper.mk dst (.binOp .neq t x y t') ty pos after guard) ρ (.bool !(s == u)):=
 .still fun S w a _ hr=>⟨_,.fz (.bool _),fun K Q hk=>r_sneq (argS hr hx (by simp [Op.operands])) (argS hr hy (by simp [Op.operands])) hk⟩
theorem ok_slss (hx:ρ x=.str s) (hy:ρ y=.str u):OpOk P (Oper.mk dst (.binOp .lss t x y t') ty pos after guard) ρ (.bool (Op.bytesLess s u)):=
 .still fun S w a _ hr=>⟨_,.fz (.bool _),fun K Q hk=>r_slss (argS hr hx (by simp [Op.operands])) (argS hr hy (by simp [Op.operands])) hk⟩
theorem ok_sleq (hx:ρ x=.str s) (hy:ρ y=.str u):OpOk P (Oper.mk dst (.binOp .leq t x y t') ty pos after guard) ρ (.bool (Op.bytesLess s u || s == u)):=
 .still fun S w a _ hr=>⟨_,.fz (.bool _),fun K Q hk=>r_sleq (argS hr hx (by simp [Op.operands])) (argS hr hy (by simp [Op.operands])) hk⟩
theorem r_sgtr {x y:Operand} {t t':TypeId} {s u:List UInt8} {Q:Exit→Act→World→Prop} {K:Act→World→Prop} {a:Act} {w:World} (hx:a.eval x=.string ⟨s.toArray⟩) (hy:a.eval y=.string ⟨u.toArray⟩) (hk:K (a.put dst (.bool (!(Op.bytesLess s u || s == u)))) w):(Oper.mk dst (.binOp .gtr t x y t') ty pos after guard).wp P a w K Q:=
 str_run hx hy (by simp [binOp,Op.stringOp]) hk
theorem r_sgeq {x y:Operand} {t t':TypeId} {s u:List UInt8} {Q:Exit→Act→World→Prop} {K:Act→World→Prop} {a:Act} {w:World} (hx:a.eval x=.string ⟨s.toArray⟩) (hy:a.eval y=.string ⟨u.toArray⟩) (hk:K (a.put dst (.bool (!Op.bytesLess s u))) w):(Oper.mk dst (.binOp .geq t x y t') ty pos after guard).wp P a w K Q:=
 str_run hx hy (by simp [binOp,Op.stringOp]) hk
theorem ok_sgtr (hx:ρ x=.str s) (hy:ρ y=.str u):OpOk P (Oper.mk dst (.binOp .gtr t x y t') ty pos after guard) ρ (.bool (!(Op.bytesLess s u || s == u))):=
 .still fun S w a _ hr=>⟨_,.fz (.bool _),fun K Q hk=>r_sgtr (argS hr hx (by simp [Op.operands])) (argS hr hy (by simp [Op.operands])) hk⟩
theorem ok_sgeq (hx:ρ x=.str s) (hy:ρ y=.str u):OpOk P (Oper.mk dst (.binOp .geq t x y t') ty pos after guard) ρ (.bool (!Op.bytesLess s u)):=
 .still fun S w a _ hr=>⟨_,.fz (.bool _),fun K Q hk=>r_sgeq (argS hr hx (by simp [Op.operands])) (argS hr hy (by simp [Op.operands])) hk⟩
theorem ok_lenS [TStr P t] (hx:ρ x=.str s):OpOk P (Oper.mk dst (.call ⟨.builtin .len,#[x],#[t]⟩) ty pos after guard) ρ (.int .i64 s.length):=
 .still fun S w a _ hr=>⟨_,.fz (.int _ _),fun K Q hk=>r_len_str (argS hr hx (by simp [Op.operands,Call.operands])) hk⟩
theorem ok_indexS [TStr P t] {k:IntKind} {n:Int} (hx:ρ x=.str s) (hy:ρ y=.int k n) (h0:0≤n) (h1:n < s.length):OpOk P (Oper.mk dst (.index t x y) ty pos after guard) ρ (.int .u8 (s.getD n.toNat 0).toNat):=
 .still fun S w a _ hr=>⟨_,.fz (.int _ _),fun K Q hk=>r_index_str (argS hr hx (by simp [Op.operands])) (argI hr hy (by simp [Op.operands])) h0 h1 hk⟩
def BndOk (ρ:Operand→D) (x:Option Operand) (dflt n:Int):Prop:=match x with
 |none=>n=dflt
 |some o=>∃ k:IntKind,ρ o=.int k n
theorem ok_sliceS [TStr P t] {lo hi:Option Operand} {l h:Int} (hx:ρ x=.str s) (hl:BndOk ρ lo 0 l) (hh:BndOk ρ hi s.length h) (h0:0≤l) (h1:l≤h) (h2:h≤s.length):OpOk P (Oper.mk dst (.slice t x lo hi none) ty pos after guard) ρ (.str ((s.take h.toNat).drop l.toNat)):=
 .still fun S w a _ hr=>⟨_,.fz (.str _),fun K Q hk=>by
  refine r_slice_str (l:=l.toNat) (h:=h.toNat) (argS hr hx (by simp [Op.operands])) ?_ ?_ (by omega) (by omega) hk
  ·cases lo with
   |none=>simp only [BndOk] at hl;simp only;omega
   |some o=>
    obtain ⟨k,hk'⟩:=hl
    exact ⟨k,by rw [Int.toNat_of_nonneg h0];exact argI hr hk' (by simp [Op.operands])⟩
  ·cases hi with
   |none=>simp only [BndOk] at hh;simp only;omega
   |some o=>
    obtain ⟨k,hk'⟩:=hh
    exact ⟨k,by rw [Int.toNat_of_nonneg (by omega)];exact argI hr hk' (by simp [Op.operands])⟩⟩
end
end
section
variable {P:Program} {dst:Option Tmp} {ty:TypeId} {pos:String} {after:Array Edge} {guard:Option (Nat × Bool)} {ρ:Operand→D}
theorem ok_field1 {x:Operand} {t:TypeId} {i off:Nat} [TFld P t i off 0 false] {cs:List D} {d:D} (hx:ρ x=.agg cs) (hd:cs[off]?=some d) (ho:d.one=true):OpOk P (Oper.mk dst (.field t x i) ty pos after guard) ρ d:=
 .still fun S w a _ hr=>by
  obtain ⟨q,h⟩:=arg hr hx (by simp [Op.operands])
  obtain ⟨vs,hv,hl,_,hi⟩:=h.agg_inv
  have hlt:off < vs.length:=by rw [hl];exact (gLt hd)
  exact ⟨vs[off],.fz (D.one_fz (hi off d _ hd (List.getElem?_eq_getElem hlt)) ho),fun K Q hk=>r_field1 hv (List.getElem?_eq_getElem hlt) hk⟩
theorem ok_fieldN {x:Operand} {t:TypeId} {i off n:Nat} [TFld P t i off n true] {cs:List D} (hx:ρ x=.agg cs) (ho:cs.all D.one=true):OpOk P (Oper.mk dst (.field t x i) ty pos after guard) ρ (.agg ((cs.drop off).take (n+1))):=
 .still fun S w a _ hr=>by
  obtain ⟨q,h⟩:=arg hr hx (by simp [Op.operands])
  obtain ⟨vs,hv,hl,h1,hi⟩:=h.agg_inv
  refine ⟨_,.fz (.agg ((vs.drop off).take (n+1)) (by simp [hl]) (fun u hu=>h1 u (List.mem_of_mem_drop (List.mem_of_mem_take hu))) fun j d v hd hv => ?_),fun K Q hk=>r_fieldN hv hk⟩
  rw [List.getElem?_take] at hd hv
  split at hd
  ·rename_i hj
   rw [if_pos hj] at hv
   rw [List.getElem?_drop] at hd hv
   exact D.one_fz (hi _ d v hd hv) (List.all_eq_true.1 ho d (gMem hd))
  ·cases hd
theorem ok_fieldAddr {x:Operand} {t:TypeId} {i off n:Nat} {ag:Bool} [TFld P t i off n ag] {cs:List D} (hx:ρ x=.ptr cs):OpOk P (Oper.mk dst (.fieldAddr t x i) ty pos after guard) ρ (.ptr (cs.drop off)):=
 .still fun S w a _ hr=>by
  obtain ⟨q,h⟩:=arg hr hx (by simp [Op.operands])
  obtain ⟨b,o,hv,cv,h1,h2⟩:=(D.one_fz h rfl).ptr_inv
  refine ⟨_,.fz (.ptr (o:=o+off) (fun j=>cv (off+j)) (fun j d hd => ?_) fun j d hd => ?_),fun K Q hk=>r_fieldAddr hv hk⟩
  ·rw [List.getElem?_drop] at hd
   have:=h1 _ d hd
   rwa [← Nat.add_assoc] at this
  ·rw [List.getElem?_drop] at hd
   exact h2 _ d hd
theorem ok_fieldRef {x:Operand} {t:TypeId} {i off n:Nat} {ag:Bool} [TFld P t i off n ag] {u o:Nat} (hx:ρ x=.ref u o):OpOk P (Oper.mk dst (.fieldAddr t x i) ty pos after guard) ρ (.ref u (o+off)):=
 .still fun S w a _ hr=>by
  obtain ⟨q,h⟩:=arg hr hx (by simp [Op.operands])
  generalize hv:a.eval x=v at h
  cases h with
  |fz h=>cases h
  |ref g=>exact ⟨_,⟨fun p=>.ref g,fun t' ht=>⟨x,by simp [Op.operands],by cases ht;rw [hx];exact .ref _⟩⟩,fun K Q hk=>r_fieldAddr hv hk⟩
theorem ok_load1 {x:Operand} {t:TypeId} [TOne P t] {d:D} {cs:List D} (hx:ρ x=.ptr (d::cs)):OpOk P (Oper.mk dst (.load t x) ty pos after guard) ρ d:=
 .still fun S w a _ hr=>by
  obtain ⟨q,h⟩:=arg hr hx (by simp [Op.operands])
  obtain ⟨b,o,hv,cv,h1,h2⟩:=(D.one_fz h rfl).ptr_inv
  exact ⟨_,.fz (h2 0 d rfl),fun K Q hk=>r_load1 hv (h1 0 d rfl).1 hk⟩
theorem ok_loadN {x:Operand} {t n:Nat} [TRow P t n] {cs:List D} (hx:ρ x=.ptr cs) (hn:n≤cs.length):OpOk P (Oper.mk dst (.load t x) ty pos after guard) ρ (.agg (cs.take n)):=
 .still fun S w a _ hr=>by
  obtain ⟨q,h⟩:=arg hr hx (by simp [Op.operands])
  obtain ⟨b,o,hv,cv,h1,h2⟩:=(D.one_fz h rfl).ptr_inv
  have hget:∀ j,j < n→∃ d,cs[j]?=some d:=fun j hj=>⟨cs[j],List.getElem?_eq_getElem (by omega)⟩
  refine ⟨.agg ((List.range n).map cv).toArray,.fz (.agg _ (by simp;omega) (fun u hu => ?_) fun j d v hd hv' => ?_),fun K Q hk=>r_loadN (cs:=(List.range n).map cv) hv (fun j u hu => ?_) (by simp) hk⟩
  ·obtain ⟨j,hj,rfl⟩:=List.mem_map.1 hu
   obtain ⟨d,hd⟩:=hget j (List.mem_range.1 hj)
   exact (h1 j d hd).2.2
  ·rw [List.getElem?_take] at hd
   split at hd
   ·rename_i hj
    rw [List.getElem?_map,List.getElem?_range hj] at hv'
    cases hv'
    exact h2 j d hd
   ·cases hd
  ·have hj:j < n:=by have:=(gLt hu);simpa using this
   rw [List.getElem?_map,List.getElem?_range hj] at hu
   cases hu
   obtain ⟨d,hd⟩:=hget j hj
   exact (h1 j d hd).1
theorem ok_indexAddr {x y:Operand} {t e sz:Nat} [TSlice P t e] [TSize P e sz] {m:Nat} {k:IntKind} {j:Int} {rows:List (List D)} {r:List D} (hx:ρ x=.sl m sz rows) (hm:m < 2) (hy:ρ y=.int k j) (h0:0≤j) (hr':rows[j.toNat]?=some r):
  OpOk P (Oper.mk dst (.indexAddr t x y) ty pos after guard) ρ (.ptr r):=
 .still fun S w a _ hr=>by
  obtain ⟨q,h⟩:=arg hr hx (by simp [Op.operands])
  have hj:=(List.getElem?_eq_some_iff.1 hr').1
  have hf:Fz S.lim w (a.eval x) (.sl 0 sz rows):=by
   generalize a.eval x=v at h
   cases h with
   |fz h=>
    cases h with
    |slNil=>simp at hj
    |slE=>simp at hj
    |sl cv hc hmx hl hh ih=>exact .sl cv hc hmx hl hh ih
   |own g=>
    have:m=1:=by rcases g.mode with h|h<;>omega
    subst this
    exact g.fz
  generalize hv:a.eval x=v at hf
  cases hf with
  |slNil=>simp at hj
  |slE=>simp at hj
  |sl cv hc hm hl hh ih=>
   refine ⟨_,.fz (.ptr (fun i=>cv j.toNat i) (fun i d hd=>hh _ r i d hr' hd) fun i d hd=>ih _ r i d hr' hd),fun K Q hk=>r_indexAddr hv (argI hr hy (by simp [Op.operands])) h0 (by omega) hk⟩
theorem ok_lenSl {x:Operand} {t e:Nat} [TSlice P t e] {m sz:Nat} {rows:List (List D)} (hx:ρ x=.sl m sz rows):OpOk P (Oper.mk dst (.call ⟨.builtin .len,#[x],#[t]⟩) ty pos after guard) ρ (.int .i64 rows.length):=
 .still fun S w a _ hr=>by
  obtain ⟨q,h⟩:=arg hr hx (by simp [Op.operands,Call.operands])
  have hv:∃ A c,a.eval x=.slice A rows.length c:=by
   generalize a.eval x=v at h
   cases h with
   |fz h=>cases h<;>exact ⟨_,_,rfl⟩
   |own g=>exact ⟨_,_,rfl⟩
  obtain ⟨A,c,hv⟩:=hv
  exact ⟨_,.fz (.int _ _),fun K Q hk=>r_len_slice hv hk⟩
theorem ok_lenNil {x:Operand} {t e:Nat} [TSlice P t e] (hx:ρ x=.nil):OpOk P (Oper.mk dst (.call ⟨.builtin .len,#[x],#[t]⟩) ty pos after guard) ρ (.int .i64 0):=
 .still fun S w a _ hr=>by
  obtain ⟨q,h⟩:=arg hr hx (by simp [Op.operands,Call.operands])
  exact ⟨_,.fz (.int _ _),fun K Q hk=>r_len_slice h.nil_inv hk⟩
theorem ok_box {x:Operand} {t:TypeId} {cs:List D} (hc:(ρ x).cellsOf=some cs):OpOk P (Oper.mk dst (.box t x) ty pos after guard) ρ (.ptr cs):=by
 intro S w a p hw hr K Q hK
 obtain ⟨q,h⟩:=hr x (by simp [Op.operands])
 obtain ⟨h1,h2,h3⟩:=Fz.cells h hc
 refine r_box rfl fun g w' hb hx hg => ?_
 have hp:=PT.ext' hw hx
 have hK':∀ v,Fz S.lim w' v (.ptr cs)→K (a.put dst v) w':=fun v hf=>hK v S w' hp (.fz hf) (fun t ht=>by cases ht)
 refine hK' _ (.ptr (fun j=>(a.eval x).cells.toList.getD j undef) (fun j d hd => ?_) fun j d hd => ?_)
 ·have hj:j < (a.eval x).cells.toList.length:=by rw [h1];exact (gLt hd)
  have he:(a.eval x).cells.toList[j]?=some ((a.eval x).cells.toList.getD j undef):=by rw [List.getD_eq_getElem?_getD,List.getElem?_eq_getElem hj];rfl
  refine ⟨?_,fun s hs => ?_,h2 _ (gMem he)⟩
  ·rw [Nat.zero_add,hb.cell]
   simpa using he
  ·exfalso
   simp only [Sig.lim] at hs
   cases ho:S.own g with
   |none=>rw [ho] at hs;cases hs
   |some x=>have:=hw g x ho;omega
 ·have hj:j < (a.eval x).cells.toList.length:=by rw [h1];exact (gLt hd)
  have he:(a.eval x).cells.toList[j]?=some ((a.eval x).cells.toList.getD j undef):=by rw [List.getD_eq_getElem?_getD,List.getElem?_eq_getElem hj];rfl
  exact (h3 j d _ hd he).trans hp.trans
def deqs:List D→List D→Option Bool
 |[],[]=>some true
 |.int _ p::xs,.int _ q::ys=>(deqs xs ys).map fun b=>p == q && b
 |.str p::xs,.str q::ys=>(deqs xs ys).map fun b=>p == q && b
 |.bool p::xs,.bool q::ys=>(deqs xs ys).map fun b=>p == q && b
 |_,_=>none
def fitsD:List Nat→List D→List D→Prop
 |[],[],[]=>True
 |0::ks,.int k _::xs,.int k' _::ys=>k=k'∧fitsD ks xs ys
 |1::ks,.str _::xs,.str _::ys=>fitsD ks xs ys
 |2::ks,.bool _::xs,.bool _::ys=>fitsD ks xs ys
 |_,_,_=>False
theorem fitsD_fits {S:Sig} {w:World}:∀ (ks:List Nat) (xs ys:List D) (us vs:List Value) (q q':Nat→Place) (b:Bool),fitsD ks xs ys→deqs xs ys=some b→us.length=xs.length→vs.length=ys.length→
  (∀ (j:Nat) (d:D) (v:Value),xs[j]?=some d→us[j]?=some v→Rep S w (q j) v d)→(∀ (j:Nat) (d:D) (v:Value),ys[j]?=some d→vs[j]?=some v→Rep S w (q' j) v d)→fitsV ks us vs=true∧veqs us vs=b
 |ks,xs,ys,us,vs,q,q',b,hf,hd,hu,hv,h1,h2=>by
  match ks,xs,ys,us,vs,hf,hd,hu,hv with
  |[],[],[],[],[],_,hd,_,_=>cases hd;exact ⟨rfl,rfl⟩
  |0::ks,.int k m::xs,.int k' n::ys,u::us,v::vs,hf,hd,hu,hv=>
   obtain ⟨rfl,hf⟩:=hf
   simp only [deqs,Option.map_eq_some_iff] at hd
   obtain ⟨b',hb',rfl⟩:=hd
   obtain rfl:=(h1 0 _ u rfl rfl).int_inv
   obtain rfl:=(h2 0 _ v rfl rfl).int_inv
   obtain ⟨e1,e2⟩:=fitsD_fits ks xs ys us vs (fun j=>q (j+1)) (fun j=>q' (j+1)) b' hf hb' (by simpa using hu) (by simpa using hv) (fun j d v hd hv=>h1 (j+1) d v (by simpa using hd) (by simpa using hv)) (fun j d v hd hv=>h2 (j+1) d v (by simpa using hd) (by simpa using hv))
   exact ⟨by simp [fitsV,e1],by simp [veqs,veq,e2]⟩
  |1::ks,.str m::xs,.str n::ys,u::us,v::vs,hf,hd,hu,hv=>
   simp only [deqs,Option.map_eq_some_iff] at hd
   obtain ⟨b',hb',rfl⟩:=hd
   obtain rfl:=(h1 0 _ u rfl rfl).str_inv
   obtain rfl:=(h2 0 _ v rfl rfl).str_inv
   obtain ⟨e1,e2⟩:=fitsD_fits ks xs ys us vs (fun j=>q (j+1)) (fun j=>q' (j+1)) b' hf hb' (by simpa using hu) (by simpa using hv) (fun j d v hd hv=>h1 (j+1) d v (by simpa using hd) (by simpa using hv)) (fun j d v hd hv=>h2 (j+1) d v (by simpa using hd) (by simpa using hv))
   exact ⟨by simp [fitsV,e1],by simp [veqs,veq,e2]⟩
  |2::ks,.bool m::xs,.bool n::ys,u::us,v::vs,hf,hd,hu,hv=>
   simp only [deqs,Option.map_eq_some_iff] at hd
   obtain ⟨b',hb',rfl⟩:=hd
   obtain rfl:=(h1 0 _ u rfl rfl).bool_inv
   obtain rfl:=(h2 0 _ v rfl rfl).bool_inv
   obtain ⟨e1,e2⟩:=fitsD_fits ks xs ys us vs (fun j=>q (j+1)) (fun j=>q' (j+1)) b' hf hb' (by simpa using hu) (by simpa using hv) (fun j d v hd hv=>h1 (j+1) d v (by simpa using hd) (by simpa using hv)) (fun j d v hd hv=>h2 (j+1) d v (by simpa using hd) (by simpa using hv))
   exact ⟨by simp [fitsV,e1],by simp [veqs,veq,e2]⟩
theorem ok_structEq {x y:Operand} {t t':TypeId} {ks:List Nat} {xs ys:List D} {b:Bool} [TEq P t ks] (hx:ρ x=.agg xs) (hy:ρ y=.agg ys) (hf:fitsD ks xs ys) (hb:deqs xs ys=some b):OpOk P (Oper.mk dst (.binOp .eql t x y t') ty pos after guard) ρ (.bool b):=
 .still fun S w a _ hr=>by
  obtain ⟨q,h⟩:=arg hr hx (by simp [Op.operands])
  obtain ⟨q',h'⟩:=arg hr hy (by simp [Op.operands])
  obtain ⟨us,hu,hl,_,hi⟩:=h.agg_inv
  obtain ⟨vs,hv,hl',_,hi'⟩:=h'.agg_inv
  obtain ⟨e1,e2⟩:=fitsD_fits ks xs ys us vs _ _ b hf hb hl hl' hi hi'
  exact ⟨_,.fz (.bool _),fun K Q hk=>r_structEq hu hv e1 (by rw [e2];exact hk)⟩
theorem ok_structNe {x y:Operand} {t t':TypeId} {ks:List Nat} {xs ys:List D} {b:Bool} [TEq P t ks] (hx:ρ x=.agg xs) (hy:ρ y=.agg ys) (hf:fitsD ks xs ys) (hb:deqs xs ys=some b):OpOk P (Oper.mk dst (.binOp .neq t x y t') ty pos after guard) ρ (.bool !b):=
 .still fun S w a _ hr=>by
  obtain ⟨q,h⟩:=arg hr hx (by simp [Op.operands])
  obtain ⟨q',h'⟩:=arg hr hy (by simp [Op.operands])
  obtain ⟨us,hu,hl,_,hi⟩:=h.agg_inv
  obtain ⟨vs,hv,hl',_,hi'⟩:=h'.agg_inv
  obtain ⟨e1,e2⟩:=fitsD_fits ks xs ys us vs _ _ b hf hb hl hl' hi hi'
  exact ⟨_,.fz (.bool _),fun K Q hk=>r_structNe hu hv e1 (by rw [e2];exact hk)⟩
end
structure CR (lim:Nat→Option Nat) (w:World) (us:List Value) (ds:List D):Prop where
 len:us.length=ds.length
 one:∀ u:Value,u ∈ us→u.oneCell'=true
 fz:∀ (j:Nat) (d:D) (u:Value),ds[j]?=some d→us[j]?=some u→Fz lim w u d
theorem CR.of {S:Sig} {w:World} {q:Place} {v:Value} {d:D} {cs:List D} (h:Rep S w q v d) (hc:d.cellsOf=some cs):CR S.lim w v.cells.toList cs:=by
 obtain ⟨h1,h2,h3⟩:=Fz.cells h hc
 exact ⟨h1,h2,h3⟩
theorem CR.append {lim:Nat→Option Nat} {w:World} {us vs:List Value} {ds es:List D} (h:CR lim w us ds) (k:CR lim w vs es):CR lim w (us++vs) (ds++es):=by
 refine ⟨by simp [h.len,k.len],fun u hu => ?_,fun j d u hd hu => ?_⟩
 ·rcases List.mem_append.1 hu with hu|hu
  ·exact h.one u hu
  ·exact k.one u hu
 ·by_cases hj:j < ds.length
  ·rw [List.getElem?_append_left hj] at hd
   rw [List.getElem?_append_left (by rw [h.len];exact hj)] at hu
   exact h.fz j d u hd hu
  ·rw [List.getElem?_append_right (by omega)] at hd
   rw [List.getElem?_append_right (by rw [h.len];omega),h.len] at hu
   exact k.fz _ d u hd hu
theorem CR.take {lim:Nat→Option Nat} {w:World} {us:List Value} {ds:List D} (h:CR lim w us ds) (n:Nat):CR lim w (us.take n) (ds.take n):=by
 refine ⟨by simp [h.len],fun u hu=>h.one u (List.mem_of_mem_take hu),fun j d u hd hu => ?_⟩
 rw [List.getElem?_take] at hd hu
 split at hd
 ·rename_i hj
  rw [if_pos hj] at hu
  exact h.fz j d u hd hu
 ·cases hd
theorem CR.drop {lim:Nat→Option Nat} {w:World} {us:List Value} {ds:List D} (h:CR lim w us ds) (n:Nat):CR lim w (us.drop n) (ds.drop n):=by
 refine ⟨by simp [h.len],fun u hu=>h.one u (List.mem_of_mem_drop hu),fun j d u hd hu => ?_⟩
 rw [List.getElem?_drop] at hd hu
 exact h.fz _ d u hd hu
theorem CR.agg {lim:Nat→Option Nat} {w:World} {us:List Value} {ds:List D} (h:CR lim w us ds):Fz lim w (.agg us.toArray) (.agg ds):=.agg us h.len h.one h.fz
def zeroD (zc:List Value):List D:=zc.map ofVal
theorem CR.zero {lim:Nat→Option Nat} {w:World} {zc:List Value} (h:zc.all Value.oneCell'=true):CR lim w zc (zeroD zc):=by
 have h1:∀ u:Value,u ∈ zc→u.oneCell'=true:=fun u hu=>List.all_eq_true.1 h u hu
 refine ⟨by simp [zeroD],h1,fun j d u hd hu => ?_⟩
 rw [zeroD,List.getElem?_map,hu] at hd
 cases hd
 refine ofVal_rep u fun cs hc => ?_
 have:=h1 u (gMem hu)
 rw [hc] at this
 cases this
def fillR (pl:List (Nat × Nat)):List D→List (Nat × Option (List D))→Option (List D)
 |cells,[]=>some cells
 |cells,(i,some cs)::r=>match pl[i]? with
  |some (off,sz)=>if cs.length=sz∧off+sz≤cells.length then fillR pl (cells.take off++cs++cells.drop (off+sz)) r else none
  |none=>none
 |_,(_,none)::_=>none
theorem fillR_sound {S:Sig} {w:World} {pl:List (Nat × Nat)}:∀ (vals:List (Nat × Value)) (parts:List (Nat × Option (List D))) (cells:List Value) (cellsD cs:List D),fillR pl cellsD parts=some cs→CR S.lim w cells cellsD→
  vals.length=parts.length→(∀ (j:Nat) (x:Nat × Value) (y:Nat × Option (List D)),vals[j]?=some x→parts[j]?=some y→x.1=y.1∧∀ ds,y.2=some ds→CR S.lim w x.2.cells.toList ds)→∃ us,fillL pl cells vals=some us∧CR S.lim w us cs
 |[],[],cells,cellsD,cs,h,hc,_,_=>by
  simp only [fillR,Option.some.injEq] at h
  subst h
  exact ⟨cells,rfl,hc⟩
 |(i,v)::vals,(i',none)::parts,_,_,_,h,_,_,_=>by simp [fillR] at h
 |(i,v)::vals,(i',some ds)::parts,cells,cellsD,cs,h,hc,hl,hr=>by
  obtain ⟨rfl,h1⟩:=hr 0 _ _ rfl rfl
  have hds:=h1 ds rfl
  simp only [fillR] at h
  cases hp:pl[i]? with
  |none=>rw [hp] at h;cases h
  |some x=>
   obtain ⟨off,sz⟩:=x
   rw [hp] at h
   simp only at h
   split at h
   ·rename_i hcnd
    obtain ⟨us,k1,k2⟩:=fillR_sound vals parts (cells.take off++v.cells.toList++cells.drop (off+sz)) _ cs h (((hc.take off).append hds).append (hc.drop (off+sz))) (by simpa using hl) (fun j x y hx hy=>hr (j+1) x y (by simpa using hx) (by simpa using hy))
    refine ⟨us,?_,k2⟩
    simp only [fillL,hp]
    rw [if_pos ⟨by rw [hds.len];exact hcnd.1,by rw [hc.len];exact hcnd.2⟩]
    exact k1
   ·cases h
def sequ:List (Option (List D))→Option (List (List D))
 |[]=>some []
 |none::_=>none
 |some x::r=>(sequ r).map (x :: ·)
theorem sequ_spec:∀ (l:List (Option (List D))) (rows:List (List D)),sequ l=some rows→rows.length=l.length∧∀ (j:Nat) (r:List D),rows[j]?=some r→l[j]?=some (some r)
 |[],rows,h=>by cases h;exact ⟨rfl,fun j r h=>by simp at h⟩
 |none::_,rows,h=>by cases h
 |some x::l,rows,h=>by
  simp only [sequ,Option.map_eq_some_iff] at h
  obtain ⟨rows',h1,rfl⟩:=h
  obtain ⟨k1,k2⟩:=sequ_spec l rows' h1
  refine ⟨by simp [k1],fun j r hr => ?_⟩
  cases j with
  |zero=>cases hr;rfl
  |succ j=>simpa using k2 j r (by simpa using hr)
section
variable {P:Program} {dst:Option Tmp} {ty:TypeId} {pos:String} {after:Array Edge} {guard:Option (Nat × Bool)} {ρ:Operand→D}
theorem ok_build {t:TypeId} {pl:List (Nat × Nat)} {zc:List Value} [TStruct P t pl] [TZer P t zc] {parts:Array (Nat × Operand)} {cs:List D} (hz:zc.all Value.oneCell'=true) (hf:fillR pl (zeroD zc) (parts.toList.map fun x=>(x.1,(ρ x.2).cellsOf))=some cs):
  OpOk P (Oper.mk dst (.build t parts) ty pos after guard) ρ (.agg cs):=
 .still fun S w a _ hr=>by
  obtain ⟨us,h1,h2⟩:=fillR_sound (S:=S) (w:=w) (parts.toList.map fun x=>(x.1,a.eval x.2)) _ zc (zeroD zc) cs hf (CR.zero hz) (by simp) (fun j x y hx hy=>by
   rw [List.getElem?_map] at hx hy
   cases hp:parts.toList[j]? with
   |none=>rw [hp] at hx;cases hx
   |some z=>
    rw [hp] at hx hy
    cases hx;cases hy
    refine ⟨rfl,fun ds hd => ?_⟩
    obtain ⟨q,h⟩:=hr z.2 (by simp only [Op.operands,List.mem_map];exact ⟨z,gMem hp,rfl⟩)
    exact CR.of h hd)
  refine ⟨_,.fz h2.agg,fun K Q hk => ?_⟩
  have:=r_build (P:=P) (dst:=dst) (ty:=ty) (pos:=pos) (after:=after) (guard:=guard) (Q:=Q) (t:=t) (parts:=parts.toList) rfl h1 hk
  simpa using this
theorem ok_buildSlice {t e n m:Nat} {zc:List Value} [TSlice P t e] [TSize P e n] [TZer P e zc] {parts:Array (Nat × Operand)} {rows:List (List D)} (hi:parts.toList.map (·.1)=List.range m) (hr0:sequ (parts.toList.map fun x=>(ρ x.2).cellsOf)=some rows)
  (hn:(rows.all fun r=>r.length == n)=true) (hz:(decide (0 < n) && decide (m * n≤16777216))=true):OpOk P (Oper.mk dst (.buildSlice t m parts) ty pos after guard) ρ (.sl 2 n rows):=by
 intro S w a p hw hr K Q hK
 have hlen:parts.toList.length=m:=by have:=congrArg List.length hi;simpa using this
 have hp:parts=((parts.toList.map (·.2)).zipIdx.map fun x=>(x.2,x.1)).toArray:=by
  apply Array.ext'
  simp only []
  apply List.ext_getElem?
  intro j
  rw [List.getElem?_map,List.getElem?_zipIdx,List.getElem?_map]
  cases hj:parts.toList[j]? with
  |none=>rfl
  |some x=>
   have h1:(parts.toList.map (·.1))[j]?=some x.1:=by rw [List.getElem?_map,hj];rfl
   have hjm:j < m:=by rw [← hlen];exact (gLt hj)
   rw [hi,List.getElem?_range hjm] at h1
   simp only [Option.some.injEq] at h1
   obtain ⟨x1,x2⟩:=x
   simp only at h1
   subst h1
   simp
 have hrl:rows.length=m:=by
  have:=(sequ_spec _ _ hr0).1
  rw [this,List.length_map,hlen]
 have hcr:∀ (j:Nat) (x:Nat × Operand) (r:List D),parts.toList[j]?=some x→rows[j]?=some r→CR S.lim w (a.eval x.2).cells.toList r:=fun j x r hx hrj=>by
  have hc:(ρ x.2).cellsOf=some r:=by
   have:=(sequ_spec _ _ hr0).2 j r hrj
   rw [List.getElem?_map,hx] at this
   exact Option.some.inj this
  obtain ⟨q,h⟩:=hr x.2 (by simp only [Op.operands,List.mem_map];exact ⟨x,gMem hx,rfl⟩)
  exact CR.of h hc
 have hallD:∀ r ∈ rows,r.length=n:=fun r hr'=>by simpa using List.all_eq_true.1 hn r hr'
 let vrows:List (List Value):=(parts.toList.map (·.2)).map fun x=>(a.eval x).cells.toList
 have hvl:vrows.length=rows.length:=by simp only [vrows,List.length_map,hlen,hrl]
 have hcv:∀ (j:Nat) (u:List Value) (r:List D),vrows[j]?=some u→rows[j]?=some r→CR S.lim w u r:=fun j u r hu hrj=>by
  simp only [vrows,List.map_map,List.getElem?_map] at hu
  cases hp:parts.toList[j]? with
  |none=>rw [hp] at hu;cases hu
  |some x=>rw [hp] at hu;cases hu;exact hcr j x r hp hrj
 have hallV:∀ u ∈ vrows,u.length=n:=fun u hu=>by
  obtain ⟨j,hj,rfl⟩:=List.mem_iff_getElem.1 hu
  have hj':j < rows.length:=by omega
  have:=(hcv j _ rows[j] (List.getElem?_eq_getElem hj) (List.getElem?_eq_getElem hj')).len
  rw [this]
  exact hallD _ (List.getElem_mem hj')
 refine r_buildSlice (rows:=vrows) hp (by simpa using hlen) rfl (by simp [vrows]) (by rw [List.all_eq_true];intro u hu;simpa using hallV u hu) hz fun g w' hb hx hg => ?_
 let S':Sig:=⟨fun b=>if b=g then some (p,0) else S.own b,S.loc⟩
 have hpt:PT S w S' w':=⟨hx,fun b hb'=>if_neg (by omega),rfl,⟨fun b x hbx=>by
  by_cases hbg:b=g
  ·subst hbg;exact hb.lt
  ·have:S.own b=some x:=by simpa [S',hbg] using hbx
   exact Nat.lt_of_lt_of_le (hw b x this) hx.sizeOf,hw.gl.keep fun b hb' hn=>⟨hx.block hb',(if_neg (by omega)).trans hn⟩⟩⟩
 refine hK _ S' w' hpt ?_ (fun t ht=>by cases ht)
 have hfl:∀ (l:List (List Value)),(∀ r ∈ l,r.length=n)→l.flatten.length=l.length * n:=by
  intro l
  induction l with
  |nil=>intro _;simp
  |cons r l ih=>intro h;simp only [List.flatten_cons,List.length_append,List.length_cons,h r (by simp),ih (fun q hq=>h q (by simp [hq])),Nat.add_mul];omega
 have hmn:n≤m * n∨m=0:=by
  rcases Nat.eq_zero_or_pos m with h|h
  ·exact .inr h
  ·exact .inl (Nat.le_mul_of_pos_left n h)
 simp only [Bool.and_eq_true,decide_eq_true_eq] at hz
 have hmm:m≤m * n:=Nat.le_mul_of_pos_right m hz.1
 have ho:OwnAt S' w' p g m 2 n rows vrows.flatten.toArray e:=by
  refine ⟨.inr rfl,hb,by omega,by unfold maxLen;omega,by simp only [List.size_toArray];rw [hfl vrows hallV,hvl,hrl],hallD,by simp [S'],fun k r j d hk hd => ?_⟩
  have hkr:k < rows.length:=(gLt hk)
  have hkv:k < vrows.length:=by omega
  have hj:j < n:=by rw [← hallD r (gMem hk)];exact (gLt hd)
  have hcrk:=hcv k vrows[k] r (List.getElem?_eq_getElem hkv) hk
  have hjv:j < vrows[k].length:=by rw [hallV _ (List.getElem_mem hkv)];exact hj
  refine ⟨vrows[k][j],?_,hcrk.one _ (List.getElem_mem hjv),(hcrk.fz j d _ hd (List.getElem?_eq_getElem hjv)).trans hpt.trans⟩
  have:=flat_row hallV k vrows[k] (List.getElem?_eq_getElem hkv) j hj
  simpa [List.getElem?_eq_getElem hjv] using this
 have hfin:=Rep.own ho
 rw [hrl] at hfin
 exact hfin
theorem ok_makeSlice {t e n by':Nat} {zc:List Value} [ts:TSlice P t e] [tz:TZer P e zc] [te:TElem P e n by' zc] {l c:Operand} {q q2:Int} (hz:zc.all Value.oneCell'=true) (hl:ρ l=.int .i64 q) (hc:ρ c=.int .i64 q2) (h0:0≤q) (h2:q≤q2) (h1:q2≤1000000) (hby:by'≤1000):OpOk P (Oper.mk dst (.makeSlice t l c) ty pos after guard) ρ (.sl 2 n (List.replicate q.toNat (zeroD zc))):=by
 intro S w a p hw hr K Q hK
 obtain ⟨inf,z0,e1,e2,e3,e4,e5,e6⟩:=te.h
 have hzc:z0.cells.toList=zc:=by
  have:=tz.h
  rw [e1] at this
  simp only [Option.map_some,e2,Option.some.injEq] at this
  exact this
 have hzl:zc.length=n:=by rw [← hzc];simpa using e5
 obtain ⟨L,rfl⟩:∃ L:Nat,q=L:=⟨q.toNat,by omega⟩
 obtain ⟨N,rfl⟩:∃ N:Nat,q2=N:=⟨q2.toNat,by omega⟩
 have hN:N≤1000000:=by omega
 have hLN:L≤N:=by omega
 have hmul:(inf.bytes:Int) * (N:Int)≤281474976710656:=by
  have h2':inf.bytes * N≤1000 * 1000000:=Nat.mul_le_mul (by omega) hN
  have h3:((inf.bytes * N:Nat):Int)≤281474976710656:=by omega
  rwa [Int.natCast_mul] at h3
 have hrun:=run_make (P:=P) w t e inf z0 ts.h e1 e2 .i64 .i64 (L:Int) (N:Int) (by omega) (by omega) hmul (by omega)
 rw [Int.toNat_natCast,Int.toNat_natCast,e3] at hrun
 unfold Oper.wp
 rw [show (execOp a.eval (Oper.mk dst (.makeSlice t l c) ty pos after guard)).run P w=.ok (.value (.slice (some ⟨w.heap.size,0,none⟩) L N)) (w.alloc (.cells (madeCells z0.cells (N * n)) e)) by
  simp only [execOp,argI hr hl (by simp [Op.operands]),argI hr hc (by simp [Op.operands]),Sem.run_bind,hrun,Result.andThen_ok,Sem.run_pure]]
 show K (a.put dst (.slice (some ⟨w.heap.size,0,none⟩) L N)) _
 have hb:=Blk.new w e (madeCells z0.cells (N * n))
 have hx:=Ext.alloc w (.cells (madeCells z0.cells (N * n)) e)
 generalize w.alloc (.cells (madeCells z0.cells (N * n)) e)=w' at hb hx ⊢
 let S':Sig:=⟨fun b=>if b=w.heap.size then some (p,0) else S.own b,S.loc⟩
 have hpt:PT S w S' w':=⟨hx,fun b hb'=>if_neg (by omega),rfl,⟨fun b x hbx=>by
  by_cases hbg:b=w.heap.size
  ·subst hbg;exact hb.lt
  ·have:S.own b=some x:=by simpa [S',hbg] using hbx
   exact Nat.lt_of_lt_of_le (hw b x this) hx.sizeOf,hw.gl.keep fun b hb' hn=>⟨hx.block hb',(if_neg (by omega)).trans hn⟩⟩⟩
 refine hK _ S' w' hpt ?_ (fun t ht=>by cases ht)
 have hcz:=CR.zero (lim:=S'.lim) (w:=w') hz
 have ho:OwnAt S' w' p w.heap.size N 2 n (List.replicate L (zeroD zc)) (madeCells z0.cells (N * n)) e:=by
  refine ⟨.inr rfl,hb,by simp;omega,by unfold maxLen;omega,size_madeCells _ _,fun r hr' => ?_,by simp [S'],fun k r j d hk hd => ?_⟩
  ·rw [List.mem_replicate] at hr'
   rw [hr'.2,← hcz.len,hzl]
  ·have hkN:k < L:=by have:=(gLt hk);simpa using this
   have hrz:r=zeroD zc:=by rw [List.getElem?_replicate,if_pos hkN] at hk;exact (Option.some.inj hk).symm
   subst hrz
   have hj:j < n:=by rw [← hzl,hcz.len];exact (gLt hd)
   have hjz:j < zc.length:=by omega
   have hlt:k * n+j < N * n:=by
    have:(k+1) * n≤N * n:=Nat.mul_le_mul_right n (Nat.le_trans hkN hLN)
    rw [Nat.add_mul,Nat.one_mul] at this
    omega
   refine ⟨zc[j],?_,hcz.one _ (List.getElem_mem hjz),hcz.fz j d _ hd (List.getElem?_eq_getElem hjz)⟩
   unfold madeCells
   rw [Array.getElem?_map,Array.getElem?_range,if_pos hlt,Option.map_some,e5,Nat.mul_comm k n,Nat.mul_add_mod,Nat.mod_eq_of_lt hj]
   congr 1
   subst hzc
   rw [getElem!_pos z0.cells j (by omega)]
   simp
 have hfin:=Rep.own ho
 rw [List.length_replicate] at hfin
 exact hfin
/-! parts of slices -/
def BndV (a:Act) (x:Option Operand) (dflt n:Nat):Prop:=match x with
 |none=>n=dflt
 |some o=>∃ k:IntKind,a.eval o=.int k (n:Int)
theorem r_slice_sl {t e sz:Nat} [i:TSlice P t e] [z:TSize P e sz] {x:Operand} {lo hi:Option Operand} {A:Option Addr} {len cap l h:Nat} {Q:Exit→Act→World→Prop} {K:Act→World→Prop} {a:Act} {w:World} (hx:a.eval x=.slice A len cap)
  (hl:BndV a lo 0 l) (hh:BndV a hi len h) (h1:l≤h) (h2:h≤len) (h3:len≤cap)
  (hk:K (a.put dst (.slice (if cap=l then A else A.map (·.add (l * sz))) (h - l) (cap - l))) w):(Oper.mk dst (.slice t x lo hi none) ty pos after guard).wp P a w K Q:=by
 refine wp_run (v:=.slice (if cap=l then A else A.map (·.add (l * sz))) (h - l) (cap - l)) ?_ hk
 have hs:=run_sizeOf_of (P:=P) (w:=w) z.sz
 have hb:∀ (k:IntKind) (n y:Nat) (c:BoundsCode),n≤y→(Instr.sliceBound (.int k (n:Int)) y c).run P w=.ok n w:=fun k n y c hn=>by
  rw [run_sliceBound w k n y c (by omega) (by omega)]
  simp
 cases lo with
 |none=>
  simp only [BndV] at hl
  subst hl
  cases hi with
  |none=>
   simp only [BndV] at hh
   subst hh
   simp [execOp,hx,Instr.sliceAt,Instr.slice,Instr.sliceBounds,run_underlying i.h,hs]
  |some o=>
   obtain ⟨k,hk'⟩:=hh
   simp [execOp,hx,hk',Instr.sliceAt,Instr.slice,Instr.sliceBounds,run_underlying i.h,hs,hb k h cap _ (by omega)]
 |some o'=>
  obtain ⟨k2,hk2⟩:=hl
  cases hi with
  |none=>
   simp only [BndV] at hh
   subst hh
   simp [execOp,hx,hk2,Instr.sliceAt,Instr.slice,Instr.sliceBounds,run_underlying i.h,hs,hb k2 l h _ (by omega)]
  |some o=>
   obtain ⟨k,hk'⟩:=hh
   simp [execOp,hx,hk',hk2,Instr.sliceAt,Instr.slice,Instr.sliceBounds,run_underlying i.h,hs,hb k h cap _ (by omega),hb k2 l h _ (by omega)]
theorem ok_sliceSl {t e sz:Nat} [TSlice P t e] [TSize P e sz] {x:Operand} {lo hi:Option Operand} {rows:List (List D)} {l h:Int} (hx:ρ x=.sl 0 sz rows) (hl:BndOk ρ lo 0 l) (hh:BndOk ρ hi rows.length h) (h0:0≤l) (h1:l≤h) (h2:h≤rows.length):OpOk P (Oper.mk dst (.slice t x lo hi none) ty pos after guard) ρ (.sl 0 sz ((rows.take h.toNat).drop l.toNat)):=
 .still fun S w a _ hr=>by
  obtain ⟨q,hq⟩:=arg hr hx (by simp [Op.operands])
  have hf:=D.one_fz hq rfl
  have blo:BndV a lo 0 l.toNat:=by
   cases lo with
   |none=>simp only [BndOk] at hl;simp only [BndV];omega
   |some o=>
    obtain ⟨k,hk'⟩:=hl
    exact ⟨k,by rw [Int.toNat_of_nonneg h0];exact argI hr hk' (by simp [Op.operands])⟩
  have bhi:∀ n:Nat,n=rows.length→BndV a hi n h.toNat:=by
   intro n hn
   cases hi with
   |none=>simp only [BndOk] at hh;simp only [BndV];omega
   |some o=>
    obtain ⟨k,hk'⟩:=hh
    exact ⟨k,by rw [Int.toNat_of_nonneg (by omega)];exact argI hr hk' (by simp [Op.operands])⟩
  generalize hv:a.eval x=v at hf
  cases hf with
  |slNil=>
   have e1:h.toNat=0:=by simp at h2;omega
   have e2:l.toNat=0:=by omega
   refine ⟨.slice none 0 0,.fz (by rw [e1,e2];exact .slNil 0 sz),fun K Q hk=>r_slice_sl hv blo (bhi 0 rfl) (by omega) (by omega) (Nat.le_refl _) ?_⟩
   rw [e1,e2]
   simpa using hk
  |slE A=>
   have e1:h.toNat=0:=by simp at h2;omega
   have e2:l.toNat=0:=by omega
   refine ⟨.slice (some A) 0 0,.fz (by rw [e1,e2];exact .slE A sz),fun K Q hk=>r_slice_sl hv blo (bhi 0 rfl) (by omega) (by omega) (Nat.le_refl _) ?_⟩
   rw [e1,e2]
   simpa using hk
  |@sl b o cap _ _ cv hc hm hrw hcell ih=>
   have hlen:((rows.take h.toNat).drop l.toNat).length=h.toNat - l.toNat:=by simp;omega
   have hat:∀ (k:Nat) (r:List D),((rows.take h.toNat).drop l.toNat)[k]?=some r→rows[l.toNat+k]?=some r:=fun k r hk=>by
    rw [List.getElem?_drop,List.getElem?_take] at hk
    split at hk
    ·exact hk
    ·cases hk
   by_cases hcl:cap=l.toNat
   ·have hnil:(rows.take h.toNat).drop l.toNat = []:=List.eq_nil_of_length_eq_zero (by omega)
    refine ⟨.slice (some ⟨b,o,none⟩) 0 0,.fz (by rw [hnil];exact .slE _ sz),fun K Q hk=>r_slice_sl hv blo (bhi _ rfl) (by omega) (by omega) hc ?_⟩
    rw [if_pos hcl,show h.toNat - l.toNat=0 by omega,show cap - l.toNat=0 by omega]
    exact hk
   ·refine ⟨.slice (some ⟨b,o+l.toNat * sz,none⟩) ((rows.take h.toNat).drop l.toNat).length (cap - l.toNat),.fz (.sl (fun k j=>cv (l.toNat+k) j) (by omega) (by omega) (fun k r hk=>hrw _ r (hat k r hk)) (fun k r j d hk hd => ?_) fun k r j d hk hd=>ih _ r j d (hat k r hk) hd),fun K Q hk=>r_slice_sl hv blo (bhi _ rfl) (by omega) (by omega) hc ?_⟩
    ·have:=hcell _ r j d (hat k r hk) hd
     rw [Nat.add_mul,← Nat.add_assoc] at this
     exact this
    ·rw [if_neg hcl,← hlen]
     have ha:(⟨b,o,none⟩:Addr).add (l.toNat * sz)=⟨b,o+l.toNat * sz,none⟩:=by unfold Addr.add;split<;>simp_all
     simp only [Option.map_some,ha]
     exact hk
/-! maps -/
theorem Rep.source {S:Sig} {w:World} {q:Place} {v:Value} {m sz:Nat} {rows:List (List D)} (h:Rep S w q v (.sl m sz rows)):
  (∃ A,v=.slice A 0 0∧rows = [])∨∃ (b o c:Nat) (news:List Value),v=.slice (some ⟨b,o,none⟩) rows.length c∧news.length=rows.length * sz∧(∀ (j:Nat) (u:Value),news[j]?=some u→w.cell? ⟨b,o+j,none⟩=some u)∧(∀ u:Value,u ∈ news→u.oneCell'=true)∧
   (∀ r ∈ rows,r.length=sz)∧∀ (k:Nat) (r:List D) (j:Nat) (d:D),rows[k]?=some r→r[j]?=some d→∃ u,news[k * sz+j]?=some u∧Fz S.lim w u d:=by
 cases h with
 |fz h=>
  cases h with
  |slNil=>exact .inl ⟨_,rfl,rfl⟩
  |slE=>exact .inl ⟨_,rfl,rfl⟩
  |@sl b o cap _ _ cv hc hm hr hh ih=>
   have hallr:∀ r ∈ rows,r.length=sz:=fun r hr'=>by
    obtain ⟨k,hk,rfl⟩:=List.mem_iff_getElem.1 hr'
    exact hr k _ (List.getElem?_eq_getElem hk)
   have hcell:∀ i,i < rows.length * sz→∃ r d,rows[i / sz]?=some r∧r[i % sz]?=some d∧i / sz * sz+i % sz=i:=fun i hi=>by
    have hz:0 < sz:=by
     rcases Nat.eq_zero_or_pos sz with h|h
     ·rw [h] at hi;omega
     ·exact h
    have hk:i / sz < rows.length:=(Nat.div_lt_iff_lt_mul hz).2 hi
    have hj:i % sz < (rows[i / sz]).length:=by rw [hallr _ (List.getElem_mem hk)];exact Nat.mod_lt _ hz
    exact ⟨_,_,List.getElem?_eq_getElem hk,List.getElem?_eq_getElem hj,Nat.div_add_mod' i sz⟩
   refine .inr ⟨b,o,cap,(List.range (rows.length * sz)).map fun i=>cv (i / sz) (i % sz),rfl,by simp,fun j u hu => ?_,fun u hu => ?_,hallr,fun k r j d hk hd => ?_⟩
   ·have hj:j < rows.length * sz:=by have:=(gLt hu);simpa using this
    rw [List.getElem?_map,List.getElem?_range hj] at hu
    cases hu
    obtain ⟨r,d,h1,h2,h3⟩:=hcell j hj
    have:=(hh _ r _ d h1 h2).1
    rwa [Nat.add_assoc,h3] at this
   ·obtain ⟨i,hi,rfl⟩:=List.mem_map.1 hu
    obtain ⟨r,d,h1,h2,_⟩:=hcell i (List.mem_range.1 hi)
    exact (hh _ r _ d h1 h2).2.2
   ·have hkl:k < rows.length:=(gLt hk)
    have hj:j < sz:=by rw [← hallr r (gMem hk)];exact (gLt hd)
    have hlt:k * sz+j < rows.length * sz:=by
     have:(k+1) * sz≤rows.length * sz:=Nat.mul_le_mul_right _ hkl
     rw [Nat.add_mul] at this
     omega
    refine ⟨cv k j,?_,ih k r j d hk hd⟩
    rw [List.getElem?_map,List.getElem?_range hlt]
    have e1:(k * sz+j) / sz=k:=by rw [Nat.mul_comm,Nat.mul_add_div (by omega),Nat.div_eq_of_lt hj];omega
    have e2:(k * sz+j) % sz=j:=by rw [Nat.mul_comm,Nat.mul_add_mod];exact Nat.mod_eq_of_lt hj
    simp only [Option.map_some,e1,e2]
 |@own _ b cap _ _ _ cur e g=>
  refine .inr ⟨b,0,cap,cur.toList.take (rows.length * sz),rfl,?_,fun j u hu => ?_,fun u hu => ?_,g.each,fun k r j d hk hd => ?_⟩
  ·have:rows.length * sz≤cap * sz:=Nat.mul_le_mul_right _ g.le
   have e:cur.toList.length=cap * sz:=by rw [Array.length_toList,g.size]
   rw [List.length_take,e]
   omega
  ·rw [List.getElem?_take] at hu
   split at hu
   ·rw [cell_of_row w b _ cur e (0,0) g.heap,Nat.zero_add]
    simpa using hu
   ·cases hu
  ·obtain ⟨i,hi,rfl⟩:=List.mem_iff_getElem.1 hu
   have hi':i < rows.length * sz:=by rw [List.length_take] at hi;omega
   have hz:0 < sz:=by
    rcases Nat.eq_zero_or_pos sz with h|h
    ·rw [h] at hi';omega
    ·exact h
   have hk:i / sz < rows.length:=(Nat.div_lt_iff_lt_mul hz).2 hi'
   have hj:i % sz < (rows[i / sz]).length:=by rw [g.each _ (List.getElem_mem hk)];exact Nat.mod_lt _ hz
   obtain ⟨x,x1,x2,_⟩:=g.cells _ _ _ _ (List.getElem?_eq_getElem hk) (List.getElem?_eq_getElem hj)
   rw [Nat.div_add_mod'] at x1
   have:(cur.toList.take (rows.length * sz))[i]=x:=by
    rw [List.getElem_take]
    have:=(Array.getElem?_eq_some_iff.1 x1).2
    simpa using this
   rw [this]
   exact x2
  ·obtain ⟨x,x1,_,x3⟩:=g.cells k r j d hk hd
   have hkl:k < rows.length:=(gLt hk)
   have hj:j < sz:=by rw [← g.each r (gMem hk)];exact (gLt hd)
   have hlt:k * sz+j < rows.length * sz:=by
    have:(k+1) * sz≤rows.length * sz:=Nat.mul_le_mul_right _ hkl
    rw [Nat.add_mul] at this
    omega
   exact ⟨x,by rw [List.getElem?_take,if_pos hlt];simpa using x1,x3⟩
def bR (b:UInt8):List D := [.int .u8 b.toNat]
theorem bytes_cells {w:World} {lim:Nat→Option Nat} {b o:Nat} {s:List UInt8} {news:List Value} (k2:∀ (j:Nat) (u:Value),news[j]?=some u→w.cell? ⟨b,o+j,none⟩=some u) (k5:∀ (k:Nat) (r:List D) (j:Nat) (d:D),(s.map bR)[k]?=some r→r[j]?=some d→∃ u,news[k * 1+j]?=some u∧Fz lim w u d):
  ∀ j (hj:j < s.length),w.cell? ((⟨b,o,none⟩:Addr).add j)=some (.int .u8 (s[j].toNat:Int)):=fun j hj=>by
 obtain ⟨u,u1,u2⟩:=k5 j (bR s[j]) 0 (.int .u8 s[j].toNat) (by simp [hj]) rfl
 cases u2
 rw [Nat.mul_one,Nat.add_zero] at u1
 rw [show (⟨b,o,none⟩:Addr).add j=⟨b,o+j,none⟩ by unfold Addr.add;split<;>simp_all]
 exact k2 j _ u1
theorem ok_bytesStr {x:Operand} {t t' e m:Nat} [TSlice P t e] [TInt P e .u8] [TStr P t'] {s:List UInt8} (hx:ρ x=.sl m 1 (s.map bR)):OpOk P (Oper.mk dst (.convert t t' x) ty pos after guard) ρ (.str s):=
 .still fun S w a _ hr=>by
  obtain ⟨q,h⟩:=arg hr hx (by simp [Op.operands])
  refine ⟨.string ⟨s.toArray⟩,.fz (.str _),fun K Q hk=>wp_run ?_ hk⟩
  have hs:=TSlice.h (P:=P) (t:=t) (e:=e)
  have he:=TInt.h (P:=P) (t:=e) (k:=.u8)
  have hd:=TStr.h (P:=P) (t:=t')
  rcases h.source with ⟨A,hv,h0⟩|⟨b,o,c,news,hv,k1,k2,k3,k4,k5⟩
  ·obtain rfl:s = []:=by simpa using h0
   cases A with
   |none=>
    have:=run_convert_bytes_string (P:=P) w t t' e none 0 0 hs he hd
    simp only [execOp,hv,Sem.run_bind,this,Conv.bytesToString,Sem.run_pure,Result.andThen_ok]
    rfl
   |some a0=>
    have:=run_convert_bytes_back (P:=P) w t t' e a0 0 [] hs he hd (fun j hj=>by simp at hj)
    simp only [List.length_nil] at this
    simp only [execOp,hv,Sem.run_bind,this,Sem.run_pure,Result.andThen_ok]
  ·have:=run_convert_bytes_back (P:=P) w t t' e ⟨b,o,none⟩ c s hs he hd (bytes_cells k2 k5)
   rw [List.length_map] at hv
   simp only [execOp,hv,Sem.run_bind,this,Sem.run_pure,Result.andThen_ok]
theorem ok_nilStr {x:Operand} {t t' e:Nat} [TSlice P t e] [TInt P e .u8] [TStr P t'] (hx:ρ x=.nil):OpOk P (Oper.mk dst (.convert t t' x) ty pos after guard) ρ (.str []):=
 .still fun S w a _ hr=>by
  obtain ⟨q,h⟩:=arg hr hx (by simp [Op.operands])
  refine ⟨.string ⟨#[]⟩,.fz (.str []),fun K Q hk=>wp_run ?_ hk⟩
  have:=run_convert_bytes_string (P:=P) w t t' e none 0 0 (TSlice.h (P:=P) (t:=t) (e:=e)) (TInt.h (P:=P) (t:=e) (k:=.u8)) (TStr.h (P:=P) (t:=t'))
  simp only [execOp,h.nil_inv,Sem.run_bind,this,Conv.bytesToString,Sem.run_pure,Result.andThen_ok]
  rfl
theorem ok_intStr {x:Operand} {t t':Nat} {k k':IntKind} {n:Int} [TInt P t k'] [TStr P t'] (hx:ρ x=.int k n):OpOk P (Oper.mk dst (.convert t t' x) ty pos after guard) ρ (.str (Utf8.encode n).data.toList):=
 .still fun S w a _ hr=>by
  refine ⟨.string ⟨(Utf8.encode n).data.toList.toArray⟩,.fz (.str _),fun K Q hk=>wp_run ?_ hk⟩
  have hv:=argI hr hx (by simp [Op.operands])
  have h:=run_convert_int_string (P:=P) w t t' k n (by rw [TInt.h (P:=P) (t:=t) (k:=k')];rfl) (TStr.h (P:=P) (t:=t'))
  rw [show (⟨(Utf8.encode n).data.toList.toArray⟩:ByteArray)=Utf8.encode n by rw [Array.toArray_toList]]
  simp only [execOp,hv,Sem.run_bind,h,Sem.run_pure,Result.andThen_ok]
theorem ok_strStr {x:Operand} {t t':Nat} [TStr P t] [TStr P t'] {s:List UInt8} (hx:ρ x=.str s):OpOk P (Oper.mk dst (.convert t t' x) ty pos after guard) ρ (.str s):=
 .still fun S w a _ hr=>⟨_,.fz (.str _),fun K Q hk=>wp_run (v:=.string ⟨s.toArray⟩) (by
  simp [execOp,argS hr hx (by simp [Op.operands]),convert,run_underlying (TStr.h (P:=P) (t:=t)),run_underlying (TStr.h (P:=P) (t:=t'))]) hk⟩
theorem ok_strBytes {x:Operand} {t t' e:Nat} [TStr P t] [TSlice P t' e] [TInt P e .u8] {s:List UInt8} (hx:ρ x=.str s) (hl:s.length≤1000000000):OpOk P (Oper.mk dst (.convert t t' x) ty pos after guard) ρ (.sl 0 1 (s.map bR)):=by
 intro S w a p hw hr K Q hK
 have hv:=argS hr hx (by simp [Op.operands])
 have hrun:=run_bytes_of_string (P:=P) w t t' e ⟨s.toArray⟩ (TStr.h (P:=P) (t:=t)) (TSlice.h (P:=P) (t:=t') (e:=e)) (TInt.h (P:=P) (t:=e) (k:=.u8))
 have hsz:(ByteArray.mk s.toArray).size=s.length:=by simp [ByteArray.size]
 rw [hsz] at hrun
 generalize hcap:grownCap w s.length 0 e=cap at hrun
 have hge:s.length≤cap:=hcap ▸ grownCap_ge w s.length 0 e
 have hcm:cap≤maxLen:=hcap ▸ grownCap_le_maxLen w s.length 0 e (by unfold maxLen;omega)
 generalize hw':(w.drew.alloc (.cells (bytesRow ⟨s.toArray⟩ cap) e ((bytesRow ⟨s.toArray⟩ cap).size,(bytesRow ⟨s.toArray⟩ cap).size+1)))=w' at hrun
 have hx':Ext w w':=hw' ▸ (Ext.drew w).trans (Ext.alloc _ _)
 have hcell:∀ j (hj:j < s.length),w'.cell? ⟨w.heap.size,j,none⟩=some (.int .u8 (s[j].toNat:Int)):=fun j hj=>by
  rw [← hw']
  have h1:=World.cell?_alloc_mark w.drew (bytesRow ⟨s.toArray⟩ cap) e ((bytesRow ⟨s.toArray⟩ cap).size,(bytesRow ⟨s.toArray⟩ cap).size+1) j
  rw [show w.drew.heap.size=w.heap.size from rfl] at h1
  rw [h1]
  have:=bytesRow_at ⟨s.toArray⟩ cap j (by simpa using hj)
  simpa using this
 have hwp:∀ (K:Act→World→Prop),K (a.put dst (.slice (some ⟨w.heap.size,0,none⟩) s.length cap)) w'→(Oper.mk dst (.convert t t' x) ty pos after guard).wp P a w K Q:=fun K hk=>by
  unfold Oper.wp
  have he:(execOp a.eval (Oper.mk dst (.convert t t' x) ty pos after guard)).run P w=.ok (.value (.slice (some ⟨w.heap.size,0,none⟩) s.length cap)) w':=by
   simp only [execOp,hv,Sem.run_bind,hrun,Sem.run_pure,Result.andThen_ok]
  rw [he]
  exact hk
 refine hwp K (hK _ S w' (PT.ext' hw hx') ?_ (fun t ht=>by cases ht))
 have hlen:(s.map bR).length=s.length:=List.length_map _
 have hrow:∀ (k:Nat) (r:List D),(s.map bR)[k]?=some r→∃ b,s[k]?=some b∧r=bR b:=fun k r hk=>by
  rw [List.getElem?_map] at hk
  cases hb:s[k]? with
  |none=>rw [hb] at hk;cases hk
  |some b=>rw [hb] at hk;cases hk;exact ⟨b,rfl,rfl⟩
 rw [show Value.slice (some ⟨w.heap.size,0,none⟩) s.length cap=Value.slice (some ⟨w.heap.size,0,none⟩) (s.map bR).length cap by rw [hlen]]
 refine .fz (.sl (fun k j=>.int .u8 (s.getD k 0).toNat) (by omega) hcm (fun k r hk => ?_) (fun k r j d hk hd => ?_) fun k r j d hk hd => ?_)
 ·obtain ⟨b,_,rfl⟩:=hrow k r hk;rfl
 ·obtain ⟨b,hb,rfl⟩:=hrow k r hk
  have hks:=(gLt hb)
  match j,hd with
  |0,hd=>
   refine ⟨?_,fun l hl => ?_,rfl⟩
   ·have:=hcell k hks
    simp only [Nat.zero_add,Nat.mul_one,Nat.add_zero]
    rw [this]
    simp [List.getD_eq_getElem?_getD,hks]
   ·exfalso
    unfold Sig.lim at hl
    cases ho:S.own w.heap.size with
    |none=>rw [ho] at hl;cases hl
    |some x=>have:=hw _ _ ho;omega
  |j+1,hd=>simp [bR] at hd
 ·obtain ⟨b,hb,rfl⟩:=hrow k r hk
  have hks:=(gLt hb)
  match j,hd with
  |0,hd=>
   cases hd
   simp only [List.getD_eq_getElem?_getD,hb,Option.getD_some]
   exact .int _ _
  |j+1,hd=>simp [bR] at hd
def D.val:D→Option Value
 |.int k n=>some (.int k n)
 |.bool b=>some (.bool b)
 |.str s=>some (.string ⟨s.toArray⟩)
 |.pv v=>some v
 |_=>none
def valsOf:List D→Option (List Value)
 |[]=>some []
 |d::ds=>match d.val with
  |some v=>match valsOf ds with
   |some vs=>some (v::vs)
   |none=>none
  |none=>none
def D.keyV:D→Option Value
 |.agg cs=>match valsOf cs with
  |some vs=>some (.agg vs.toArray)
  |none=>none
 |d=>d.val
theorem val_eq {S:Sig} {w:World} {q:Place} {v u:Value} {d:D} (h:Rep S w q v d) (hd:d.val=some u):v=u:=by
 cases d with
 |int k n=>cases hd;exact h.int_inv
 |bool b=>cases hd;exact h.bool_inv
 |str s=>cases hd;exact h.str_inv
 |pv x=>cases hd;exact h.pv_inv
 |_=>cases hd
theorem vals_eq {S:Sig} {w:World} {q:Nat→Place}:∀ {ds:List D} {vs us:List Value},valsOf ds=some us→vs.length=ds.length→(∀ (j:Nat) (d:D) (v:Value),ds[j]?=some d→vs[j]?=some v→Rep S w (q j) v d)→vs=us
 |[],[],us,h,_,_=>by cases h;rfl
 |[],_::_,_,_,h,_=>by cases h
 |_::_,[],_,_,h,_=>by cases h
 |d::ds,v::vs,us,h,hl,hr=>by
  simp only [valsOf] at h
  split at h
  ·rename_i u hu
   split at h
   ·rename_i us' hus
    cases h
    rw [val_eq (hr 0 d v rfl rfl) hu,vals_eq (S:=S) (w:=w) (q:=fun j=>q (j+1)) (vs:=vs) hus (by simpa using hl) (fun j d v h1 h2=>hr (j+1) d v (by simpa using h1) (by simpa using h2))]
   ·cases h
  ·cases h
theorem keyV_eq {S:Sig} {w:World} {q:Place} {v u:Value} {d:D} (h:Rep S w q v d) (hd:d.keyV=some u):v=u:=by
 cases d with
 |agg cs=>
  simp only [D.keyV] at hd
  split at hd
  ·rename_i vs hv
   cases hd
   obtain ⟨us,rfl,h1,_,h3⟩:=h.agg_inv
   rw [vals_eq hv h1 h3]
  ·cases hd
 |_=>exact val_eq h hd
def ofV1 (v:Value):D:=match v with
 |.agg _=>.any
 |v=>ofVal v
theorem ofV1_rep {lim:Nat→Option Nat} {w:World} (v:Value):Fz lim w v (ofV1 v):=by
 unfold ofV1
 split
 ·exact .any _
 ·rename_i h;exact ofVal_rep _ h
def lookD (es:List (Value × Value)) (k z:Value):D:=ofV1 ((findV k es).getD z)
theorem ok_makeMap {t k e:Nat} {kd:KD} [TMap P t k e kd]:OpOk P (Oper.mk dst (.makeMap t none) ty pos after guard) ρ (.mp kd []):=by
 intro S w a p hw hr K Q hK
 refine r_makeMap ?_
 let S':Sig:=⟨fun b=>if b=w.heap.size then some (p,0) else S.own b,S.loc⟩
 have hx:Ext w (w.alloc (.map #[] 0)):=Ext.alloc _ _
 have hh:=(MapKept.heap_alloc w (.map #[] 0)).1
 have hpt:PT S w S' (w.alloc (.map #[] 0)):=⟨hx,fun b hb'=>if_neg (by omega),rfl,⟨fun b x hbx=>by
  by_cases hbg:b=w.heap.size
  ·subst hbg;exact (Array.getElem?_eq_some_iff.1 hh).1
  ·have:S.own b=some x:=by simpa [S',hbg] using hbx
   exact Nat.lt_of_lt_of_le (hw b x this) hx.sizeOf,hw.gl.keep fun b hb' hn=>⟨hx.block hb',(if_neg (by omega)).trans hn⟩⟩⟩
 exact hK _ S' _ hpt (.mp (by simp [S']) hh rfl (fun x hx=>by cases hx)) (fun t ht=>by cases ht)
theorem Rep.mp_inv {S:Sig} {w:World} {p:Place} {v:Value} {kd:KD} {es:List (Value × Value)} (h:Rep S w p v (.mp kd es)):∃ b clock ents,v=.map (some b)∧S.own b=some (p,0)∧w.heap[b]?=some (.map ents clock)∧ents.toList.map pr=es∧∀ x ∈ es,fitK kd x.1=true:=by
 cases h with
 |fz h=>cases h
 |mp hb hh he hk=>exact ⟨_,_,_,rfl,hb,hh,he,hk⟩
theorem ok_lookup {t k e:Nat} {kd:KD} {z:Value} [TMap P t k e kd] [TZ1 P e z] {x y:Operand} {es:List (Value × Value)} {kv:Value} {r:D} (hx:ρ x=.mp kd es) (hy:(ρ y).keyV=some kv) (hf:fitK kd kv=true) (h:lookD es kv z=r):OpOk P (Oper.mk dst (.lookup t x y false) ty pos after guard) ρ r:=
 .still fun S w a _ hr=>by
  obtain ⟨q,hq⟩:=arg hr hx (by simp [Op.operands])
  obtain ⟨q',hq'⟩:=hr y (by simp [Op.operands])
  obtain ⟨b,clock,ents,hv,_,hh,he,hk⟩:=hq.mp_inv
  subst h
  exact ⟨_,.fz (ofV1_rep _),fun K Q hK=>r_lookup hv hh he hk (keyV_eq hq' hy) hf (by simpa [lookV] using hK)⟩
theorem ok_lookupOk {t k e:Nat} {kd:KD} {z:Value} [TMap P t k e kd] [TZ1 P e z] {x y:Operand} {es:List (Value × Value)} {kv:Value} {r:D} {o:Bool} (hx:ρ x=.mp kd es) (hy:(ρ y).keyV=some kv) (hf:fitK kd kv=true) (h:lookD es kv z=r∧(findV kv es).isSome=o):OpOk P (Oper.mk dst (.lookup t x y true) ty pos after guard) ρ (.tup [r,.bool o]):=
 .still fun S w a _ hr=>by
  obtain ⟨q,hq⟩:=arg hr hx (by simp [Op.operands])
  obtain ⟨q',hq'⟩:=hr y (by simp [Op.operands])
  obtain ⟨b,clock,ents,hv,_,hh,he,hk⟩:=hq.mp_inv
  obtain ⟨rfl,rfl⟩:=h
  refine ⟨.tuple [(findV kv es).getD z,.bool (findV kv es).isSome].toArray,.fz (.tup [(findV kv es).getD z,.bool (findV kv es).isSome] rfl fun j d v hd hv => ?_),fun K Q hK=>r_lookup hv hh he hk (keyV_eq hq' hy) hf (by simpa [lookV] using hK)⟩
  match j,hd,hv with
  |0,hd,hv=>cases hd;cases hv;exact ofV1_rep _
  |1,hd,hv=>cases hd;cases hv;exact .bool _
  |j+2,hd,hv=>simp at hd
theorem ok_lenMap {t k e:Nat} {kd kd':KD} [TMap P t k e kd] {x:Operand} {es:List (Value × Value)} (hx:ρ x=.mp kd' es):OpOk P (Oper.mk dst (.call ⟨.builtin .len,#[x],#[t]⟩) ty pos after guard) ρ (.int .i64 es.length):=
 .still fun S w a _ hr=>by
  obtain ⟨q,hq⟩:=arg hr hx (by simp [Op.operands,Call.operands])
  obtain ⟨b,clock,ents,hv,_,hh,he,hk⟩:=hq.mp_inv
  exact ⟨_,.fz (.int _ _),fun K Q hK=>r_lenMap hv hh (by rw [← he,List.length_map] at hK;exact hK)⟩
end
def D.calm1:D→Bool
 |.sl _ _ _=>true
 |.mp _ _=>true
 |d=>d.one
def D.calm:D→Bool
 |.agg cs=>cs.all D.calm1
 |.tup ds=>ds.all fun d=>match d with
  |.agg cs=>cs.all D.calm1
  |d=>d.calm1
 |.any=>true
 |d=>d.calm1
def D.passes:D→Bool
 |.agg cs=>cs.all D.one
 |.fn _ cs=>cs.all D.one
 |.any=>true
 |d=>d.one
theorem D.calm1_men {d:D} (h:d.calm1=true) {t:Nat}:¬ Men t d:=by
 intro hm
 cases hm<;>cases h
theorem D.calm_men {d:D} (h:d.calm=true) {t:Nat}:¬ Men t d:=by
 have key:∀ (cs:List D) (j:Nat) (d:D),cs.all D.calm1=true→cs[j]?=some d→¬ Men t d:=fun cs j d h hd=>D.calm1_men (List.all_eq_true.1 h d (gMem hd))
 intro hm
 cases hm with
 |ref=>cases h
 |gref=>cases h
 |fn=>cases h
 |obj=>cases h
 |agg hd hm=>exact key _ _ _ h hd hm
 |tup hd hm=>
  rename_i j cs d
  have h1:=List.all_eq_true.1 h d (gMem hd)
  cases d with
  |agg cs=>cases hm with|agg hd' hm'=>exact key _ _ _ h1 hd' hm'
  |_=>exact D.calm1_men h1 hm
theorem Rep.passes {S:Sig} {w:World} {q:Place} {v:Value} {d:D} (h:Rep S w q v d) (hp:d.passes=true):Fz S.lim w v d:=by
 cases d with
 |agg cs=>
  obtain ⟨vs,rfl,h1,h2,h3⟩:=h.agg_inv
  exact .agg vs h1 h2 fun j d v hd hv=>D.one_fz (h3 j d v hd hv) (List.all_eq_true.1 hp d (gMem hd))
 |fn f cs=>
  cases h with
  |fz h=>exact h
  |fn vs hl ih=>exact .fn vs hl fun j d v hd hv=>D.one_fz (ih j d v hd hv) (List.all_eq_true.1 hp d (gMem hd))
 |any=>exact .any v
 |_=>exact D.one_fz h hp
def Sem (P:Program) (f:Nat) (args:List D) (d:D):Prop:=
 Enters P f∧d.calm=true∧∀ (S:Sig) (w:World) (vs:List Value),WF S w→vs.length=args.length→(∀ (i:Nat) (d:D) (v:Value),args[i]?=some d→vs[i]?=some v→Rep S w (.slot i) v d)→
  Calls P f vs.toArray w fun e w'=>∃ v S',e=.returned v∧WF S' w'∧Trans S w S' w'∧Rep S' w' .res v d
inductive DLes:List D→List D→Prop
 |nil:DLes [] []
 |cons {d d':D} {ds ds':List D} (h:DLe d d') (hs:DLes ds ds'):DLes (d::ds) (d'::ds')
theorem DLes.refl:∀ ds:List D,DLes ds ds
 |[]=>.nil
 |d::ds=>.cons (.refl d) (DLes.refl ds)
theorem DLes.len:∀ {ds ds':List D},DLes ds ds'→ds'.length=ds.length
 |[],[],.nil=>rfl
 |_::_,_::_,.cons _ hs=>by simp [hs.len]
theorem DLes.get:∀ {ds ds':List D},DLes ds ds'→∀ {i:Nat} {d d':D},ds[i]?=some d→ds'[i]?=some d'→DLe d d'
 |_::_,_::_,.cons h _,0,_,_,h1,h2=>by cases h1;cases h2;exact h
 |_::_,_::_,.cons _ hs,i+1,_,_,h1,h2=>hs.get (i:=i) (by simpa using h1) (by simpa using h2)
 |[],[],.nil,i,_,_,h1,_=>by simp at h1
def Gives (P:Program) (f:Nat) (args:List D) (d:D):Prop:=∃ ds',DLes args ds'∧ds'.all D.passes=true∧Sem P f ds' d
def Sig.hide (S:Sig):Sig:=⟨fun b=>(S.own b).map fun x=>(.dead,x.2),S.loc⟩
theorem Sig.hide_lim (S:Sig):S.hide.lim=S.lim:=by
 funext b
 simp only [Sig.lim,Sig.hide]
 cases S.own b<;>rfl
theorem WF.hide {S:Sig} {w:World} (h:WF S w):WF S.hide w:=⟨fun b x hb=>by
 simp only [Sig.hide,Option.map_eq_some_iff] at hb
 obtain ⟨y,hy,_⟩:=hb
 exact h b y hy,h.gl.sig fun b hb=>by simp [Sig.hide,hb]⟩
def Sig.back (S:Sig) (n:Nat) (S':Sig) (p:Place):Sig:=
 ⟨fun b=>if b < n then S.own b else (S'.own b).map fun x=>(if x.1.r=1 then ⟨p.r,p.path++x.1.path⟩ else .dead,x.2),S.loc⟩
theorem Sig.back_lim {S S':Sig} {n:Nat} {p:Place} (h:∀ b,b < n→S'.own b=S.hide.own b):(S.back n S' p).lim=S'.lim:=by
 funext b
 simp only [Sig.lim,Sig.back]
 by_cases hb:b < n
 ·rw [if_pos hb,h b hb]
  simp only [Sig.hide]
  cases S.own b<;>rfl
 ·rw [if_neg hb]
  cases S'.own b<;>rfl
theorem Rep.back {S S':Sig} {n:Nat} {p:Place} {w:World} (h:∀ b,b < n→S'.own b=S.hide.own b) {v:Value} {d:D}:∀ {x:List Nat},d.calm=true→Rep S' w ⟨1,x⟩ v d→Rep (S.back n S' p) w ⟨p.r,p.path++x⟩ v d:=by
 have hlim:=Sig.back_lim (p:=p) h
 have hown:∀ {x:List Nat} {v:Value} {d:D},d.calm1=true→Rep S' w ⟨1,x⟩ v d→Rep (S.back n S' p) w ⟨p.r,p.path++x⟩ v d:=by
  intro x v d hc hr
  cases hr with
  |fz hf=>exact .fz (by rw [hlim];exact hf)
  |@own _ b cap m sz rows cur e g=>
   refine .own ⟨g.mode,g.heap,g.le,g.max,g.size,g.each,?_,fun k r j d hk hd => ?_⟩
   ·have hb:¬ b < n:=fun hb=>by
     have h1:=h b hb
     rw [g.own] at h1
     simp only [Sig.hide] at h1
     cases ho:S.own b with
     |none=>rw [ho] at h1;cases h1
     |some y=>rw [ho] at h1;cases h1
    simp only [Sig.back,if_neg hb,g.own,Option.map_some,if_true]
   ·obtain ⟨u,h1,h2,h3⟩:=g.cells k r j d hk hd
    exact ⟨u,h1,h2,by rw [hlim];exact h3⟩
  |@mp _ b clock kd es ents hown hh he hk=>
   refine .mp ?_ hh he hk
   have hb:¬ b < n:=fun hb=>by
    have h1:=h b hb
    rw [hown] at h1
    simp only [Sig.hide] at h1
    cases ho:S.own b with
    |none=>rw [ho] at h1;cases h1
    |some y=>rw [ho] at h1;cases h1
   simp only [Sig.back,if_neg hb,hown,Option.map_some,if_true]
  |obj=>cases hc
  |ref=>cases hc
  |gref=>cases hc
  |fn=>cases hc
  |agg=>cases hc
  |tup=>cases hc
 have hagg:∀ {x:List Nat} {v:Value} {cs:List D},cs.all D.calm1=true→Rep S' w ⟨1,x⟩ v (.agg cs)→Rep (S.back n S' p) w ⟨p.r,p.path++x⟩ v (.agg cs):=by
  intro x v cs hc hr
  obtain ⟨vs,rfl,h1,h2,h3⟩:=hr.agg_inv
  refine .agg vs h1 h2 fun j d v hd hv => ?_
  have:=hown (List.all_eq_true.1 hc d (gMem hd)) (h3 j d v hd hv)
  simpa [Place.at,List.append_assoc] using this
 intro x hc hr
 cases d with
 |agg cs=>exact hagg hc hr
 |tup ds=>
  obtain ⟨vs,rfl,h1,h3⟩:=hr.tup_inv
  refine .tup vs h1 fun j d v hd hv => ?_
  have hc1:=List.all_eq_true.1 hc d (gMem hd)
  have h4:=h3 j d v hd hv
  have:Rep (S.back n S' p) w ⟨p.r,p.path++(x ++ [j])⟩ v d:=by
   cases d with
   |agg cs=>exact hagg hc1 h4
   |_=>exact hown hc1 h4
  simpa [Place.at,List.append_assoc] using this
 |any=>exact .fz (.any v)
 |_=>exact hown hc hr
theorem call_core {P:Program} {f:Nat} {ds':List D} {d:D} (hsem:Sem P f ds' d) {S:Sig} {w:World} (hw:WF S w) {vs:List Value} (hlen:vs.length=ds'.length) (hfz:∀ (i:Nat) (d:D) (v:Value),ds'[i]?=some d→vs[i]?=some v→Fz S.lim w v d) (p:Place):
  Calls P f vs.toArray w fun e w'=>∃ v S',e=.returned v∧PT S w S' w'∧Rep S' w' p v d:=by
 obtain ⟨hen,hcalm,hsem⟩:=hsem
 have hwh:WF S.hide w:=hw.hide
 refine (hsem S.hide w vs hwh hlen fun i d v hd hv=>.fz (by rw [S.hide_lim];exact hfz i d v hd hv)).mono fun e w' ⟨v,S',he,hw',ht,hrep⟩ => ?_
 have hold:∀ b,b < w.heap.size→w'.heap[b]?=w.heap[b]?∧S'.own b=S.hide.own b:=fun b hb=>by
  cases ho:S.own b with
  |none=>
   have h0:S.hide.own b=none:=by simp [Sig.hide,ho]
   obtain ⟨k1,k2⟩:=ht.free b hb h0
   exact ⟨k1,k2.trans h0.symm⟩
  |some y=>
   have h0:S.hide.own b=some (.dead,y.2):=by simp [Sig.hide,ho]
   obtain ⟨k1,k2⟩:=ht.foreign b _ _ hb h0 rfl
   exact ⟨k1,k2.trans h0.symm⟩
 have hext:Ext w w':=⟨ht.os,ht.tape,ht.output,ht.size,fun b hb=>(hold b hb).1⟩
 have hpt:PT S w (S.back w.heap.size S' p) w':=⟨hext,fun b hb=>by simp only [Sig.back,if_pos hb],rfl,⟨fun b x hb=>by
  by_cases hlt:b < w.heap.size
  ·exact Nat.lt_of_lt_of_le hlt ht.size
  ·simp only [Sig.back,if_neg hlt,Option.map_eq_some_iff] at hb
   obtain ⟨y,hy,_⟩:=hb
   exact hw' b y hy,hw.gl.keep fun b hb hn=>⟨(hold b hb).1,by simp only [Sig.back,if_pos hb];exact hn⟩⟩⟩
 have hfin:=Rep.back (p:=p) (fun b hb=>(hold b hb).2) (x := []) hcalm hrep
 rw [List.append_nil] at hfin
 exact ⟨v,_,he,hpt,hfin⟩
def Sig.lend (S:Sig) (w:World):Sig:=⟨fun b=>(S.own b).map fun _=>(.dead,match w.heap[b]? with
 |some (.cells cur _ _)=>cur.size
 |_=>0),fun _=>0⟩
def D.flat1:D→Bool
 |.int _ _ | .bool _ | .str _=>true
 |_=>false
def D.flat:D→Bool
 |.agg cs=>cs.all D.flat1
 |.tup ds=>ds.all D.flat1
 |d=>d.flat1
theorem lend_okc {S:Sig} {w:World} {b o:Nat} {v:Value} (h:w.cell? ⟨b,o,none⟩=some v):OkC (S.lend w).lim b o:=fun s hs=>by
 simp only [Sig.lim,Sig.lend] at hs
 cases ho:S.own b with
 |none=>rw [ho] at hs;cases hs
 |some y=>
  rw [ho] at hs
  unfold World.cell? at h
  simp only at h
  split at h
  ·rename_i cur e fz he
   rw [he] at hs
   simp only [Option.map_some,Option.some.injEq] at hs
   subst hs
   simp only [Option.isSome_none,Bool.false_eq_true,if_false] at h
   exact (Array.getElem?_eq_some_iff.1 h).1
  ·cases h
theorem Fz.lend {S:Sig} {w:World} {v:Value} {d:D} (h:Fz S.lim w v d):Fz (S.lend w).lim w v d:=h.mono fun _ _ _ hc _=>lend_okc hc
theorem flat1_fz {S:Sig} {w w':World} {lim:Nat→Option Nat} {q:Place} {v:Value} {d:D} (h:Rep S w q v d) (hf:d.flat1=true):Fz lim w' v d:=by
 cases h with
 |fz h=>cases h<;>first|exact .int _ _|exact .bool _|exact .str _|cases hf
 |_=>cases hf
theorem flat_fz {S:Sig} {w w':World} {lim:Nat→Option Nat} {q:Place} {v:Value} {d:D} (h:Rep S w q v d) (hf:d.flat=true):Fz lim w' v d:=by
 cases d with
 |agg cs=>
  obtain ⟨vs,rfl,h1,h2,h3⟩:=h.agg_inv
  exact .agg vs h1 h2 fun j d v hd hv=>flat1_fz (h3 j d v hd hv) (List.all_eq_true.1 hf d (gMem hd))
 |tup ds=>
  obtain ⟨vs,rfl,h1,h3⟩:=h.tup_inv
  exact .tup vs h1 fun j d v hd hv=>flat1_fz (h3 j d v hd hv) (List.all_eq_true.1 hf d (gMem hd))
 |_=>exact flat1_fz h hf
theorem call_lend {P:Program} {f:Nat} {ds':List D} {d:D} (hsem:Sem P f ds' d) (hflat:d.flat=true) {S:Sig} {w:World} (hw:WF S w) {vs:List Value} (hlen:vs.length=ds'.length) (hfz:∀ (i:Nat) (d:D) (v:Value),ds'[i]?=some d→vs[i]?=some v→Fz (S.lend w).lim w v d):
  Calls P f vs.toArray w fun e w'=>∃ v,e=.returned v∧PT S w S w'∧∀ p,Rep S w' p v d:=by
 obtain ⟨hen,hcalm,hsem⟩:=hsem
 have hwh:WF (S.lend w) w:=⟨fun b x hb=>by
  simp only [Sig.lend,Option.map_eq_some_iff] at hb
  obtain ⟨y,hy,_⟩:=hb
  exact hw b y hy,hw.gl.sig fun b hb=>by simp [Sig.lend,hb]⟩
 refine (hsem (S.lend w) w vs hwh hlen fun i d v hd hv=>.fz (hfz i d v hd hv)).mono fun e w' ⟨v,S',he,hw',ht,hrep⟩ => ?_
 have hold:∀ b,b < w.heap.size→w'.heap[b]?=w.heap[b]?:=fun b hb=>by
  cases ho:S.own b with
  |none=>exact (ht.free b hb (by simp [Sig.lend,ho])).1
  |some y=>exact (ht.foreign b .dead _ hb (by simp only [Sig.lend,ho];rfl) rfl).1
 exact ⟨v,he,PT.ext' hw ⟨ht.os,ht.tape,ht.output,ht.size,hold⟩,fun p=>.fz (flat_fz hrep hflat)⟩
theorem Rep.fn_inv {S:Sig} {w:World} {q:Place} {v:Value} {f:Nat} {cs:List D} (h:Rep S w q v (.fn f cs)):∃ vs:List Value,v=.func (.func f) #[] vs.toArray∧vs.length=cs.length∧∀ (j:Nat) (d:D) (v:Value),cs[j]?=some d→vs[j]?=some v→Rep S w .dead v d:=by
 cases h with
 |fz h=>cases h with|fn vs hl ih=>exact ⟨vs,rfl,hl,fun j d v hd hv=>.fz (ih j d v hd hv)⟩
 |fn vs hl ih=>exact ⟨vs,rfl,hl,ih⟩
theorem DLes.passes {ρ:Operand→D} {S:Sig} {w:World} {a:Act} {xs:List Operand} {ds':List D} (h1:DLes (xs.map ρ) ds') (h2:ds'.all D.passes=true) (hr:∀ x ∈ xs,∃ q,Rep S w q (a.eval x) (ρ x)):∀ (i:Nat) (d:D) (v:Value),ds'[i]?=some d→(xs.map a.eval)[i]?=some v→Fz S.lim w v d:=fun i d v hd hv=>by
 rw [List.getElem?_map] at hv
 cases hx:xs[i]? with
 |none=>rw [hx] at hv;cases hv
 |some x=>
  rw [hx] at hv
  cases hv
  obtain ⟨q,hq⟩:=hr x (gMem hx)
  have hle:=h1.get (i:=i) (d:=ρ x) (by rw [List.getElem?_map,hx];rfl) hd
  exact (Rep.le hle hq).passes (List.all_eq_true.1 h2 d (gMem hd))
theorem DLes.split:∀ {as bs ds:List D},DLes (as++bs) ds→∃ d1 d2,ds=d1++d2∧DLes as d1∧DLes bs d2
 |[],bs,ds,h=>⟨[],ds,rfl,.nil,h⟩
 |a::as,bs,_::ds,.cons h hs=>by
  obtain ⟨d1,d2,rfl,h1,h2⟩:=DLes.split (as:=as) hs
  exact ⟨_::d1,d2,rfl,.cons h h1,h2⟩
section
variable {P:Program} {Q:Exit→Act→World→Prop} {K:Act→World→Prop} {a:Act} {w:World} {dst:Option Tmp} {ty:TypeId} {pos:String} {after:Array Edge} {guard:Option (Nat × Bool)}
theorem r_makeFunc {f:FuncId} {xs:Array Operand} (hk:K (a.put dst (.func (.func f) #[] (xs.map a.eval))) w):(Oper.mk dst (.makeFunc (.func f) #[] xs) ty pos after guard).wp P a w K Q:=by
 have e:(execOp a.eval (Oper.mk dst (.makeFunc (.func f) #[] xs) ty pos after guard)).run P w=.ok (.value (.func (.func f) #[] (xs.map a.eval))) w:=by
  simp [execOp,Instr.makeFunc]
 exact wp_run e hk
theorem r_callF {f:FuncId} [e:Enters P f] {x:Operand} {xs:Array Operand} {ts:Array TypeId} {args vs:Array Value} {R:Ending→World→Prop} (hf:a.eval x=.func (.func f) #[] vs) (hn:∀ g,x ≠ .func g) (hc:Calls P f args w R) (hx:xs.map a.eval++vs=args)
  (hk:∀ e w',R e w'→match e with | .returned v=>K (a.put dst v) w' | .panicked ch=>Q (.panic ch) a w' | .outgrown=>LetsOut Q):(Oper.mk dst (.call ⟨.value x,xs,ts⟩) ty pos after guard).wp P a w K Q:=by
 subst hx
 have e:(execOp a.eval (Oper.mk dst (.call ⟨.value x,xs,ts⟩) ty pos after guard)).run P w=.ok (.enter f (xs.map a.eval++vs)) w:=by
  simp [execOp,resolve,hf,Deferred.ofValue,invoke,run_callFunc]
 unfold Oper.wp
 rw [e]
 refine Calls.mono hc fun en w' hr => ?_
 have:=hk en w' hr
 cases en<;>exact this
end
section
variable {P:Program} {dst:Option Tmp} {ty:TypeId} {pos:String} {after:Array Edge} {guard:Option (Nat × Bool)} {ρ:Operand→D}
theorem ok_call {f:Nat} {xs:Array Operand} {ts:Array TypeId} {d:D} (h:Gives P f (xs.toList.map ρ) d):OpOk P (Oper.mk dst (.call ⟨.value (.func f),xs,ts⟩) ty pos after guard) ρ d:=by
 obtain ⟨ds',h1,h2,hen,hcalm,hsem⟩:=h
 intro S w a p hw hr K Q hK
 have hops:∀ x ∈ xs.toList,x ∈ (Op.call ⟨.value (.func f),xs,ts⟩).operands.toList:=fun x hx=>by simp [Op.operands,Call.operands];right;simpa using hx
 have hlen:(xs.toList.map a.eval).length=ds'.length:=by rw [h1.len];simp
 have hfz:∀ (i:Nat) (d:D) (v:Value),ds'[i]?=some d→(xs.toList.map a.eval)[i]?=some v→Fz S.lim w v d:=fun i d v hd hv=>by
  rw [List.getElem?_map] at hv
  cases hx:xs.toList[i]? with
  |none=>rw [hx] at hv;cases hv
  |some x=>
   rw [hx] at hv
   cases hv
   obtain ⟨q,hq⟩:=hr x (hops x (gMem hx))
   have hle:=h1.get (i:=i) (d:=ρ x) (by rw [List.getElem?_map,hx];rfl) hd
   exact (Rep.le hle hq).passes (List.all_eq_true.1 h2 d (gMem hd))
 have hwh:WF S.hide w:=hw.hide
 have hcall:=hsem S.hide w (xs.toList.map a.eval) hwh hlen fun i d v hd hv=>.fz (by rw [S.hide_lim];exact hfz i d v hd hv)
 haveI:=hen
 refine r_call hcall (by apply Array.ext';simp) fun e w' ⟨v,S',he,hw',ht,hrep⟩ => ?_
 subst he
 have hold:∀ b,b < w.heap.size→w'.heap[b]?=w.heap[b]?∧S'.own b=S.hide.own b:=fun b hb=>by
  cases ho:S.own b with
  |none=>
   have h0:S.hide.own b=none:=by simp [Sig.hide,ho]
   obtain ⟨k1,k2⟩:=ht.free b hb h0
   exact ⟨k1,k2.trans h0.symm⟩
  |some y=>
   have h0:S.hide.own b=some (.dead,y.2):=by simp [Sig.hide,ho]
   obtain ⟨k1,k2⟩:=ht.foreign b _ _ hb h0 rfl
   exact ⟨k1,k2.trans h0.symm⟩
 have hext:Ext w w':=⟨ht.os,ht.tape,ht.output,ht.size,fun b hb=>(hold b hb).1⟩
 have hpt:PT S w (S.back w.heap.size S' p) w':=⟨hext,fun b hb=>by simp only [Sig.back,if_pos hb],rfl,⟨fun b x hb=>by
  by_cases hlt:b < w.heap.size
  ·exact Nat.lt_of_lt_of_le hlt ht.size
  ·simp only [Sig.back,if_neg hlt,Option.map_eq_some_iff] at hb
   obtain ⟨y,hy,_⟩:=hb
   exact hw' b y hy,hw.gl.keep fun b hb hn=>⟨(hold b hb).1,by simp only [Sig.back,if_pos hb];exact hn⟩⟩⟩
 have hfin:=Rep.back (p:=p) (fun b hb=>(hold b hb).2) (x := []) hcalm hrep
 rw [List.append_nil] at hfin
 exact hK v _ w' hpt hfin fun t h=>(D.calm_men hcalm h).elim
theorem ok_callF {t f:Nat} {cs:List D} {xs:Array Operand} {ts:Array TypeId} {d:D} (hf:ρ (.tmp t)=.fn f cs) (h:Gives P f (xs.toList.map ρ++cs) d):OpOk P (Oper.mk dst (.call ⟨.value (.tmp t),xs,ts⟩) ty pos after guard) ρ d:=by
 obtain ⟨ds',h1,h2,hsem⟩:=h
 intro S w a p hw hr K Q hK
 obtain ⟨q,hq⟩:=hr (.tmp t) (by simp [Op.operands,Call.operands])
 rw [hf] at hq
 obtain ⟨vs,hv,hvl,hvr⟩:=hq.fn_inv
 obtain ⟨d1,d2,rfl,l1,l2⟩:=h1.split
 rw [List.all_append,Bool.and_eq_true] at h2
 have hops:∀ x ∈ xs.toList,∃ q,Rep S w q (a.eval x) (ρ x):=fun x hx=>hr x (by simp [Op.operands,Call.operands];right;simpa using hx)
 have f1:=l1.passes h2.1 hops
 have n1:=l1.len
 have n2:=l2.len
 simp only [List.length_map] at n1
 have hcalm:=hsem.2.1
 have hcall:=call_core hsem hw (vs:=xs.toList.map a.eval++vs) (by simp [n1,n2,hvl]) (fun i d v hd hv=>by
  by_cases hi:i < d1.length
  ·rw [List.getElem?_append_left hi] at hd
   rw [List.getElem?_append_left (by simp;rw [← Array.length_toList];omega)] at hv
   exact f1 i d v hd hv
  ·rw [List.getElem?_append_right (by omega)] at hd
   rw [List.getElem?_append_right (by simp;rw [← Array.length_toList];omega)] at hv
   rw [show (xs.toList.map a.eval).length=d1.length by simp;rw [← Array.length_toList];omega] at hv
   have hcl:i - d1.length < cs.length:=by rw [← n2];exact (gLt hd)
   have hle:=l2.get (List.getElem?_eq_getElem hcl) hd
   exact (Rep.le hle (hvr _ _ v (List.getElem?_eq_getElem hcl) hv)).passes (List.all_eq_true.1 h2.2 d (gMem hd))) p
 haveI:=hsem.1
 refine r_callF hv (fun g e=>by cases e) hcall (by apply Array.ext';simp) fun e w' ⟨v,S',he,hpt,hrep⟩ => ?_
 subst he
 exact hK v _ w' hpt hrep fun t h=>(D.calm_men hcalm h).elim
theorem ok_makeFunc {f:Nat} {xs:Array Operand} (h:(xs.toList.all fun x=>match ρ x with | .ref _ _=>true|d=>d.one)=true):OpOk P (Oper.mk dst (.makeFunc (.func f) #[] xs) ty pos after guard) ρ (.fn f (xs.toList.map ρ)):=by
 intro S w a p hw hr K Q hK
 refine r_makeFunc ?_
 rw [show xs.map a.eval=(xs.toList.map a.eval).toArray by apply Array.ext';simp]
 refine hK _ S w (PT.refl hw) (.fn _ (by simp) fun j d v hd hv => ?_) fun t hm => ?_
 ·rw [List.getElem?_map] at hd hv
  cases hx:xs.toList[j]? with
  |none=>rw [hx] at hd;cases hd
  |some x=>
   rw [hx] at hd hv
   cases hd;cases hv
   have hmem:=gMem hx
   obtain ⟨q,hq⟩:=hr x (by simp [Op.operands];simpa using hmem)
   have h1:=List.all_eq_true.1 h x hmem
   generalize ρ x=d at hq h1
   generalize a.eval x=v at hq
   cases d with
   |ref t o=>cases hq with
    |fz h=>cases h
    |ref h=>exact .ref h
   |_=>exact .fz (D.one_fz hq h1)
 ·cases hm with
  |fn hd hm=>
   rw [List.getElem?_map] at hd
   rename_i j _
   cases hx:xs.toList[j]? with
   |none=>rw [hx] at hd;cases hd
   |some x=>
    rw [hx] at hd
    cases hd
    exact ⟨x,by simp [Op.operands];simpa using gMem hx,hm⟩
end
@[reducible] def holds:Option Prop→Prop
 |none=>True
 |some s=>s
structure SideD (s q:Prop):Prop where
 side:s
 rest:q
def andO:Option Prop→Prop→Prop
 |none,q=>q
 |some s,q=>SideD s q
theorem andO_iff {s:Option Prop} {q:Prop}:andO s q↔holds s∧q:=by
 cases s with
 |none=>exact ⟨fun h=>⟨trivial,h⟩,fun h=>h.2⟩
 |some s=>exact ⟨fun h=>⟨h.1,h.2⟩,fun h=>⟨h.1,h.2⟩⟩
structure NumE (F:Int→Prop):Prop where
 h:∃ r,F r
structure IdxE (F:List D→Prop):Prop where
 h:∃ r,F r
structure CallE (F:D→Prop):Prop where
 h:∃ d,F d
theorem NumE.go {F:Int→Prop} {r:Int} (h:F r):NumE F:=⟨r,h⟩
theorem IdxE.go {F:List D→Prop} {r:List D} (h:F r):IdxE F:=⟨r,h⟩
structure LookE (F:D→Bool→Prop):Prop where
 h:∃ r o,F r o
theorem LookE.go {F:D→Bool→Prop} {r:D} {o:Bool} (h:F r o):LookE F:=⟨r,o,h⟩
structure TextE (F:List UInt8→Prop):Prop where
 h:∃ s,F s
theorem TextE.go {F:List UInt8→Prop} {s:List UInt8} (h:F s):TextE F:=⟨s,h⟩
theorem CallE.go {F:D→Prop} {d:D} (h:F d):CallE F:=⟨d,h⟩
def intD (op:BinOp) (k:IntKind) (p q:Int) (K:Option Prop→D→Prop):Prop:=
 match op with
 |.add=>NumE fun r=>K (some (k.wrap (p+q)=r)) (.int k r)
 |.sub=>NumE fun r=>K (some (k.wrap (p - q)=r)) (.int k r)
 |.mul=>NumE fun r=>K (some (k.wrap (p * q)=r)) (.int k r)
 |.quo=>NumE fun r=>K (some (q ≠ 0∧k.wrap (p.tdiv q)=r)) (.int k r)
 |.rem=>NumE fun r=>K (some (q ≠ 0∧p.tmod q=r)) (.int k r)
 |.eql=>K none (.bool (p == q))
 |.neq=>K none (.bool (!(p == q)))
 |.lss=>K none (.bool (decide (p < q)))
 |.leq=>K none (.bool (decide (p≤q)))
 |.gtr=>K none (.bool (decide (q < p)))
 |.geq=>K none (.bool (decide (q≤p)))
 |.and=>NumE fun r=>K (some (bitsI .and k p q=r)) (.int k r)
 |.or=>NumE fun r=>K (some (bitsI .or k p q=r)) (.int k r)
 |.xor=>NumE fun r=>K (some (bitsI .xor k p q=r)) (.int k r)
 |.andNot=>NumE fun r=>K (some (bitsI .andNot k p q=r)) (.int k r)
 |_=>False
def strD (op:BinOp) (s u:List UInt8) (K:Option Prop→D→Prop):Prop:=
 match op with
 |.add=>K (some (s.length+u.length≤9223372036854775807)) (.str (s++u))
 |.eql=>K none (.bool (s == u))
 |.neq=>K none (.bool (!(s == u)))
 |.lss=>K none (.bool (Op.bytesLess s u))
 |.leq=>K none (.bool (Op.bytesLess s u || s == u))
 |.gtr=>K none (.bool (!(Op.bytesLess s u || s == u)))
 |.geq=>K none (.bool (!Op.bytesLess s u))
 |_=>False
def binD (op:BinOp) (ti:Option TI) (x y:D) (K:Option Prop→D→Prop):Prop:=
 match x,y with
 |.int k p,.int k' q=>match op with
  |.shr=>NumE fun r=>K (some (0≤q∧q≤k.bits∧p / 2 ^ q.toNat=r)) (.int k r)
  |.shl=>NumE fun r=>K (some (0≤q∧q≤k.bits∧k.wrap (p * 2 ^ q.toNat)=r)) (.int k r)
  |op=>match sameK k k' with
   |true=>intD op k p q K
   |false=>False
 |.str s,.str u=>strD op s u K
 |.bool b,.bool c=>match ti with
  |some .bool=>match op with
   |.eql=>K none (.bool (b == c))
   |.neq=>K none (.bool (!(b == c)))
   |_=>False
  |_=>False
 |.agg xs,.agg ys=>match ti with
  |some (.st _ _ (some ks))=>match deqs xs ys with
   |some b=>match op with
    |.eql=>K (some (fitsD ks xs ys)) (.bool b)
    |.neq=>K (some (fitsD ks xs ys)) (.bool (!b))
    |_=>False
   |none=>False
  |_=>False
 |.sl _ _ rows,.nil=>match ti with
  |some (.sl _ _ _ _)=>match op with
   |.eql=>K (some (rows ≠ [])) (.bool false)
   |.neq=>K (some (rows ≠ [])) (.bool true)
   |_=>False
  |_=>False
 |.nil,.nil=>match ti with
  |some (.sl _ _ _ _)=>match op with
   |.eql=>K none (.bool true)
   |.neq=>K none (.bool false)
   |_=>False
  |_=>False
 |_,_=>False
def ifcD (op:BinOp) (ti:Option TI) (x:D) (K:Option Prop→D→Prop):Prop:=
 match ti with
 |some .ifc=>match x with
  |.pv .nilIface=>match op with
   |.eql=>K none (.bool true)
   |.neq=>K none (.bool false)
   |_=>False
  |_=>False
 |_=>False
def bndD (ρ:Operand→D) (dflt:Int):Option Operand→Option Int
 |none=>some dflt
 |some o=>match ρ o with
  |.int _ n=>some n
  |_=>none
theorem bndD_ok {ρ:Operand→D} {dflt n:Int}:∀ {x:Option Operand},bndD ρ dflt x=some n→BndOk ρ x dflt n
 |none,h=>by cases h;rfl
 |some o,h=>by
  simp only [bndD] at h
  split at h
  ·rename_i k m hk
   cases h
   exact ⟨k,hk⟩
  ·cases h
def callD (P:Program) (T:Nat→Option TI) (ρ:Operand→D) (c:Call) (K:Option Prop→D→Prop):Prop:=
 match c.callee with
 |.value (.func f)=>CallE fun d=>K (some (Gives P f (c.args.toList.map ρ) d)) d
 |.value (.tmp t)=>match ρ (.tmp t) with
  |.fn f cs=>CallE fun d=>K (some (Gives P f (c.args.toList.map ρ++cs) d)) d
  |_=>False
 |.builtin .len=>match c.args.toList,c.argTypes.toList with
  |[x],[t]=>match T t,ρ x with
   |some .str,.str s=>K none (.int .i64 s.length)
   |some (.sl _ _ _ _),.sl _ _ rows=>K none (.int .i64 rows.length)
   |some (.sl _ _ _ _),.nil=>K none (.int .i64 0)
   |some (.mp _ _ _ _),.mp _ es=>K none (.int .i64 es.length)
   |_,_=>False
  |_,_=>False
 |.builtin .max=>match c.args.toList with
  |[x,y]=>match ρ x,ρ y with
   |.int k p,.int k' q=>match sameK k k' with
    |true=>K none (.int k (max p q))
    |false=>False
   |_,_=>False
  |_=>False
 |.builtin .min=>match c.args.toList with
  |[x,y]=>match ρ x,ρ y with
   |.int k p,.int k' q=>match sameK k k' with
    |true=>K none (.int k (min p q))
    |false=>False
   |_,_=>False
  |_=>False
 |_=>False
def opD (P:Program) (T:Nat→Option TI) (Z:Nat→Option (List Value)) (ρ:Operand→D) (o:Op) (K:Option Prop→D→Prop):Prop:=
 match o with
 |.move x | .assign x=>match (ρ x).plain with
  |true=>K none (ρ x)
  |false=>False
 |.nilCheck x=>match ρ x with
  |.ptr cs=>K none (.ptr cs)
  |.ref t o=>K none (.ref t o)
  |_=>False
 |.extract x i=>match ρ x with
  |.tup ds=>match ds[i]? with
   |some d=>match d.oneA with
    |true=>K none d
    |false=>False
   |none=>False
  |_=>False
 |.unOp .not _ x=>match ρ x with
  |.bool b=>K none (.bool (!b))
  |_=>False
 |.unOp .neg _ x=>match ρ x with
  |.int k p=>NumE fun r=>K (some (k.wrap (0 - p)=r)) (.int k r)
  |_=>False
 |.binOp op t x y _=>match y with
  |.const .nilIface=>ifcD op (T t) (ρ x) K
  |_=>binD op (T t) (ρ x) (ρ y) K
 |.convert s t x=>match T s,T t,ρ x with
  |some (.int _),some (.int k),.int _ p=>NumE fun r=>K (some (k.wrap p=r)) (.int k r)
  |some (.int _),some .str,.int _ p=>K none (.str (Utf8.encode p).data.toList)
  |some .str,some .str,.str p=>K none (.str p)
  |some .str,some (.sl e _ _ _),.str p=>match T e with
   |some (.int .u8)=>K (some (p.length≤1000000000)) (.sl 0 1 (p.map bR))
   |_=>False
  |some (.sl e _ _ _),some .str,.sl _ sz rows=>match T e,Nat.beq sz 1 with
   |some (.int .u8),true=>TextE fun q=>K (some (rows=q.map bR)) (.str q)
   |_,_=>False
  |some (.sl e _ _ _),some .str,.nil=>match T e with
   |some (.int .u8)=>K none (.str [])
   |_=>False
  |_,_,_=>False
 |.field t x i=>match T t,ρ x with
  |some (.st _ fl _),.agg cs=>match fl[i]? with
   |some (off,1,false)=>match cs[off]? with
    |some d=>match d.one with
     |true=>K none d
     |false=>False
    |none=>False
   |some (off,n+1,true)=>match cs.all D.one with
    |true=>K none (.agg ((cs.drop off).take (n+1)))
    |false=>False
   |_=>False
  |_,_=>False
 |.fieldAddr t x i=>match T t with
  |some (.st _ fl _)=>match fl[i]? with
   |some (off,_+1,_)=>match ρ x with
    |.ptr cs=>K none (.ptr (cs.drop off))
    |.ref u o=>K none (.ref u (o+off))
    |_=>False
   |_=>False
  |_=>False
 |.load t x=>match ρ x with
  |.ptr cs=>match T t with
   |some (.st n _ _)=>match Nat.ble n cs.length with
    |true=>K none (.agg (cs.take n))
    |false=>False
   |some _=>match cs with
    |d::_=>K none d
    |[]=>False
   |none=>False
  |_=>False
 |.indexAddr t x y=>match T t,ρ x,ρ y with
  |some (.sl _ sz _ _),.sl m sz' rows,.int _ j=>match Nat.ble m 1 with
   |true=>match Nat.beq sz' sz with
    |true=>IdxE fun r=>K (some (0≤j∧rows[j.toNat]?=some r)) (.ptr r)
    |false=>False
   |false=>False
  |_,_,_=>False
 |.index t x y=>match T t,ρ x,ρ y with
  |some .str,.str s,.int _ j=>K (some (0≤j∧j < s.length)) (.int .u8 (s.getD j.toNat 0).toNat)
  |_,_,_=>False
 |.slice t x lo hi none=>match T t,ρ x with
  |some .str,.str s=>match bndD ρ 0 lo,bndD ρ s.length hi with
   |some l,some h=>K (some (0≤l∧l≤h∧h≤s.length)) (.str ((s.take h.toNat).drop l.toNat))
   |_,_=>False
  |some (.sl _ sz _ _),.sl 0 sz' rows=>match Nat.beq sz' sz with
   |true=>match bndD ρ 0 lo,bndD ρ rows.length hi with
    |some l,some h=>K (some (0≤l∧l≤h∧h≤rows.length)) (.sl 0 sz ((rows.take h.toNat).drop l.toNat))
    |_,_=>False
   |false=>False
  |_,_=>False
 |.box _ x=>match (ρ x).cellsOf with
  |some cs=>K none (.ptr cs)
  |none=>False
 |.build t parts=>match T t,Z t with
  |some (.st _ fl _),some zc=>match zc.all Value.oneCell' with
   |true=>match fillR (fl.map fun x=>(x.1,x.2.1)) (zeroD zc) (parts.toList.map fun x=>(x.1,(ρ x.2).cellsOf)) with
    |some cs=>K none (.agg cs)
    |none=>False
   |false=>False
  |_,_=>False
 |.buildSlice t m parts=>match T t with
  |some (.sl _ sz _ _)=>match sequ (parts.toList.map fun x=>(ρ x.2).cellsOf) with
   |some rows=>match (parts.toList.map (·.1) == List.range m) && ((rows.all fun r=>r.length == sz) && (Nat.blt 0 sz && Nat.ble (m * sz) 16777216)) with
    |true=>K none (.sl 2 sz rows)
    |false=>False
   |none=>False
  |_=>False
 |.makeSlice t l c=>match T t,ρ l,ρ c with
  |some (.sl _ sz by' zc),.int .i64 q,.int .i64 q2=>match Nat.ble by' 1000 && zc.all Value.oneCell' with
   |true=>K (some (0≤q∧q≤q2∧q2≤1000000)) (.sl 2 sz (List.replicate q.toNat (zeroD zc)))
   |false=>False
  |_,_,_=>False
 |.call c=>callD P T ρ c K
 |.makeMap t none=>match T t with
  |some (.mp _ _ kd _)=>K none (.mp kd [])
  |_=>False
 |.lookup t x y ok=>match T t,ρ x,(ρ y).keyV with
  |some (.mp _ _ kd z),.mp kd' es,some kv=>match sameKD kd kd' && fitK kd kv with
   |true=>LookE fun r o=>match ok with
    |true=>K (some (lookD es kv z=r∧(findV kv es).isSome=o)) (.tup [r,.bool o])
    |false=>K (some (lookD es kv z=r)) r
   |false=>False
  |_,_,_=>False
 |.makeFunc (.func f) first xs=>match first.toList with
  |[]=>match xs.toList.all fun x=>match ρ x with | .ref _ _=>true|d=>d.one with
   |true=>K none (.fn f (xs.toList.map ρ))
   |false=>False
  |_=>False
 |_=>False
section
variable {P:Program} {T:Nat→Option TI} {Z:Nat→Option (List Value)} {dst:Option Tmp} {ty:TypeId} {pos:String} {after:Array Edge} {guard:Option (Nat × Bool)} {ρ:Operand→D} {K:Option Prop→D→Prop}
def Does (P:Program) (o:Oper) (ρ:Operand→D) (K:Option Prop→D→Prop):Prop:=∃ s d,K s d∧(holds s→OpOk P o ρ d)
theorem r_same {x y:Operand} {t t':TypeId} {u v:Value} {b:Bool} {Q:Exit→Act→World→Prop} {K:Act→World→Prop} {a:Act} {w:World} (hx:a.eval x=u) (hy:a.eval y=v) (he:(eqGuard .eql t x y u v).run P w=.ok () w) (hb:(binOp .eql t u v).run P w=.ok (.bool b) w) (hk:K (a.put dst (.bool b)) w):(Oper.mk dst (.binOp .eql t x y t') ty pos after guard).wp P a w K Q:=
 wp_run (by simp only [execOp,hx,hy,Sem.run_bind,he,Result.andThen_ok,hb,Sem.run_pure]) hk
theorem r_differ {x y:Operand} {t t':TypeId} {u v:Value} {b:Bool} {Q:Exit→Act→World→Prop} {K:Act→World→Prop} {a:Act} {w:World} (hx:a.eval x=u) (hy:a.eval y=v) (he:(eqGuard .neq t x y u v).run P w=.ok () w) (hb:(binOp .neq t u v).run P w=.ok (.bool b) w) (hk:K (a.put dst (.bool b)) w):(Oper.mk dst (.binOp .neq t x y t') ty pos after guard).wp P a w K Q:=
 wp_run (by simp only [execOp,hx,hy,Sem.run_bind,he,Result.andThen_ok,hb,Sem.run_pure]) hk
theorem run_slNil {w:World} {t e:TypeId} {A:Option Addr} {l c:Nat} (h:P.underlying t=some (.slice e)):(binOp .eql t (.slice A l c) (.slice none 0 0)).run P w=.ok (.bool A.isNone) w∧(binOp .neq t (.slice A l c) (.slice none 0 0)).run P w=.ok (.bool (!A.isNone)) w:=by
 have h2:(Op.equal t (.slice A l c) (.slice none 0 0)).run P w=.ok A.isNone w:=by
  show (Op.equalIn (9999+1) t _ _).run P w=_
  unfold Op.equalIn
  rw [Sem.run_bind,run_underlying h]
  cases A<;>rfl
 exact ⟨by
  show (do pure (Value.bool (← Op.equal t (.slice A l c) (.slice none 0 0))):Go.Sem Value).run P w=_
  rw [Sem.run_bind,h2]
  rfl,by
  show (do pure (Value.bool (!(← Op.equal t (.slice A l c) (.slice none 0 0)))):Go.Sem Value).run P w=_
  rw [Sem.run_bind,h2]
  rfl⟩
theorem run_ifcNil {w:World} {t:TypeId} (h:∃ ms,P.underlying t=some (.interface ms)):(binOp .eql t .nilIface .nilIface).run P w=.ok (.bool true) w∧(binOp .neq t .nilIface .nilIface).run P w=.ok (.bool false) w:=by
 obtain ⟨ms,h⟩:=h
 have h2:(Op.equal t .nilIface .nilIface).run P w=.ok true w:=by
  show (Op.equalIn (9999+1) t _ _).run P w=_
  unfold Op.equalIn
  rw [Sem.run_bind,run_underlying h]
  rfl
 exact ⟨by
  show (do pure (Value.bool (← Op.equal t .nilIface .nilIface)):Go.Sem Value).run P w=_
  rw [Sem.run_bind,h2]
  rfl,by
  show (do pure (Value.bool (!(← Op.equal t .nilIface .nilIface))):Go.Sem Value).run P w=_
  rw [Sem.run_bind,h2]
  rfl⟩
theorem guard_slNil {op:BinOp} {w:World} {t:TypeId} {x y:Operand} {A:Option Addr} {l c:Nat}:(eqGuard op t x y (.slice A l c) (.slice none 0 0)).run P w=.ok () w:=by
 unfold eqGuard
 cases op<;>rfl
theorem guard_ifcNil {op:BinOp} {w:World} {t:TypeId} {x:Operand}:(eqGuard op t x (.const .nilIface) .nilIface .nilIface).run P w=.ok () w:=by
 unfold eqGuard
 cases op<;>first|rfl|(cases x<;>rfl)
theorem arg_some {S:Sig} {w:World} {q:Place} {v:Value} {m sz:Nat} {rows:List (List D)} (h:Rep S w q v (.sl m sz rows)) (hn:rows ≠ []):∃ A l c,v=.slice (some A) l c:=by
 rcases h.source with ⟨A,_,h0⟩|⟨b,o,c,news,hv,_⟩
 ·exact absurd h0 hn
 ·exact ⟨_,_,_,hv⟩
theorem ok_slNil {x y:Operand} {t t' e m sz:Nat} [i:TSlice P t e] {rows:List (List D)} (hx:ρ x=.sl m sz rows) (hy:ρ y=.nil) (hn:rows ≠ []):OpOk P (Oper.mk dst (.binOp .eql t x y t') ty pos after guard) ρ (.bool false):=
 .still fun S w a _ hr=>⟨_,.fz (.bool _),fun K Q hk=>by
  obtain ⟨q,h⟩:=arg hr hx (by simp [Op.operands])
  obtain ⟨q',h'⟩:=arg hr hy (by simp [Op.operands])
  obtain ⟨A,l,c,hv⟩:=arg_some h hn
  exact r_same hv h'.nil_inv guard_slNil (run_slNil i.h).1 hk⟩
theorem ok_slNilNe {x y:Operand} {t t' e m sz:Nat} [i:TSlice P t e] {rows:List (List D)} (hx:ρ x=.sl m sz rows) (hy:ρ y=.nil) (hn:rows ≠ []):OpOk P (Oper.mk dst (.binOp .neq t x y t') ty pos after guard) ρ (.bool true):=
 .still fun S w a _ hr=>⟨_,.fz (.bool _),fun K Q hk=>by
  obtain ⟨q,h⟩:=arg hr hx (by simp [Op.operands])
  obtain ⟨q',h'⟩:=arg hr hy (by simp [Op.operands])
  obtain ⟨A,l,c,hv⟩:=arg_some h hn
  exact r_differ hv h'.nil_inv guard_slNil (run_slNil i.h).2 hk⟩
theorem ok_nilNil {x y:Operand} {t t' e:Nat} [i:TSlice P t e] (hx:ρ x=.nil) (hy:ρ y=.nil):OpOk P (Oper.mk dst (.binOp .eql t x y t') ty pos after guard) ρ (.bool true):=
 .still fun S w a _ hr=>⟨_,.fz (.bool _),fun K Q hk=>by
  obtain ⟨q,h⟩:=arg hr hx (by simp [Op.operands])
  obtain ⟨q',h'⟩:=arg hr hy (by simp [Op.operands])
  exact r_same h.nil_inv h'.nil_inv guard_slNil (run_slNil i.h).1 hk⟩
theorem ok_nilNilNe {x y:Operand} {t t' e:Nat} [i:TSlice P t e] (hx:ρ x=.nil) (hy:ρ y=.nil):OpOk P (Oper.mk dst (.binOp .neq t x y t') ty pos after guard) ρ (.bool false):=
 .still fun S w a _ hr=>⟨_,.fz (.bool _),fun K Q hk=>by
  obtain ⟨q,h⟩:=arg hr hx (by simp [Op.operands])
  obtain ⟨q',h'⟩:=arg hr hy (by simp [Op.operands])
  exact r_differ h.nil_inv h'.nil_inv guard_slNil (run_slNil i.h).2 hk⟩
theorem ok_ifc {x:Operand} {t t':Nat} [i:TIfc P t] (hx:ρ x=.pv .nilIface):OpOk P (Oper.mk dst (.binOp .eql t x (.const .nilIface) t') ty pos after guard) ρ (.bool true):=
 .still fun S w a _ hr=>⟨_,.fz (.bool _),fun K Q hk=>by
  obtain ⟨q,h⟩:=arg hr hx (by simp [Op.operands])
  exact r_same h.pv_inv rfl guard_ifcNil (run_ifcNil i.h).1 hk⟩
theorem ok_ifcNe {x:Operand} {t t':Nat} [i:TIfc P t] (hx:ρ x=.pv .nilIface):OpOk P (Oper.mk dst (.binOp .neq t x (.const .nilIface) t') ty pos after guard) ρ (.bool false):=
 .still fun S w a _ hr=>⟨_,.fz (.bool _),fun K Q hk=>by
  obtain ⟨q,h⟩:=arg hr hx (by simp [Op.operands])
  exact r_differ h.pv_inv rfl guard_ifcNil (run_ifcNil i.h).2 hk⟩
theorem binD_sound (hT:TOk P T Z) {op:BinOp} {t t':TypeId} {x y:Operand} (h:binD op (T t) (ρ x) (ρ y) K):Does P (Oper.mk dst (.binOp op t x y t') ty pos after guard) ρ K:=by
 unfold binD at h
 split at h
 ·rename_i k p k' q hx hy
  split at h
  ·obtain ⟨r,h⟩:=h.h;exact ⟨_,_,h,fun ⟨h0,h1,hr⟩=>ok_shr hx hy h0 h1 hr⟩
  ·obtain ⟨r,h⟩:=h.h;exact ⟨_,_,h,fun ⟨h0,h1,hr⟩=>ok_shl hx hy h0 h1 hr⟩
  split at h
  ·rename_i hk
   obtain rfl:=sameK_eq hk
   unfold intD at h
   split at h
   ·obtain ⟨r,h⟩:=h.h;exact ⟨_,_,h,fun hr=>ok_add hx hy hr⟩
   ·obtain ⟨r,h⟩:=h.h;exact ⟨_,_,h,fun hr=>ok_sub hx hy hr⟩
   ·obtain ⟨r,h⟩:=h.h;exact ⟨_,_,h,fun hr=>ok_mul hx hy hr⟩
   ·obtain ⟨r,h⟩:=h.h;exact ⟨_,_,h,fun ⟨h0,hr⟩=>ok_quo hx hy h0 hr⟩
   ·obtain ⟨r,h⟩:=h.h;exact ⟨_,_,h,fun ⟨h0,hr⟩=>ok_rem hx hy h0 hr⟩
   ·exact ⟨_,_,h,fun _=>ok_eql hx hy⟩
   ·exact ⟨_,_,h,fun _=>ok_neq hx hy⟩
   ·exact ⟨_,_,h,fun _=>ok_lss hx hy⟩
   ·exact ⟨_,_,h,fun _=>ok_leq hx hy⟩
   ·exact ⟨_,_,h,fun _=>ok_gtr hx hy⟩
   ·exact ⟨_,_,h,fun _=>ok_geq hx hy⟩
   ·obtain ⟨r,h⟩:=h.h;exact ⟨_,_,h,fun hr=>ok_bits rfl hx hy hr⟩
   ·obtain ⟨r,h⟩:=h.h;exact ⟨_,_,h,fun hr=>ok_bits rfl hx hy hr⟩
   ·obtain ⟨r,h⟩:=h.h;exact ⟨_,_,h,fun hr=>ok_bits rfl hx hy hr⟩
   ·obtain ⟨r,h⟩:=h.h;exact ⟨_,_,h,fun hr=>ok_bits rfl hx hy hr⟩
   ·exact h.elim
  ·exact h.elim
 ·rename_i s u hx hy
  unfold strD at h
  split at h
  ·exact ⟨_,_,h,fun hl=>ok_cat hx hy hl⟩
  ·exact ⟨_,_,h,fun _=>ok_seql hx hy⟩
  ·exact ⟨_,_,h,fun _=>ok_sneq hx hy⟩
  ·exact ⟨_,_,h,fun _=>ok_slss hx hy⟩
  ·exact ⟨_,_,h,fun _=>ok_sleq hx hy⟩
  ·exact ⟨_,_,h,fun _=>ok_sgtr hx hy⟩
  ·exact ⟨_,_,h,fun _=>ok_sgeq hx hy⟩
  ·exact h.elim
 ·rename_i b c hx hy
  split at h
  ·rename_i ht
   haveI:=(hT.ty _ _ ht).1
   split at h
   ·exact ⟨_,_,h,fun _=>ok_boolEq hx hy⟩
   ·exact ⟨_,_,h,fun _=>ok_boolNe hx hy⟩
   ·exact h.elim
  ·exact h.elim
 ·rename_i xs ys hx hy
  split at h
  ·rename_i n fl ks ht
   haveI:=(hT.ty _ _ ht).2.2.2 ks rfl
   split at h
   ·rename_i b hb
    split at h
    ·exact ⟨_,_,h,fun hf=>ok_structEq hx hy hf hb⟩
    ·exact ⟨_,_,h,fun hf=>ok_structNe hx hy hf hb⟩
    ·exact h.elim
   ·exact h.elim
  ·exact h.elim
 ·rename_i m sz rows hx hy
  split at h
  ·rename_i ht
   haveI:=(hT.ty _ _ ht).1
   split at h
   ·exact ⟨_,_,h,fun hn=>ok_slNil hx hy hn⟩
   ·exact ⟨_,_,h,fun hn=>ok_slNilNe hx hy hn⟩
   ·exact h.elim
  ·exact h.elim
 ·rename_i hx hy
  split at h
  ·rename_i ht
   haveI:=(hT.ty _ _ ht).1
   split at h
   ·exact ⟨_,_,h,fun _=>ok_nilNil hx hy⟩
   ·exact ⟨_,_,h,fun _=>ok_nilNilNe hx hy⟩
   ·exact h.elim
  ·exact h.elim
 ·exact h.elim
theorem ifcD_sound (hT:TOk P T Z) {op:BinOp} {t t':TypeId} {x:Operand} (h:ifcD op (T t) (ρ x) K):Does P (Oper.mk dst (.binOp op t x (.const .nilIface) t') ty pos after guard) ρ K:=by
 unfold ifcD at h
 split at h
 ·rename_i ht
  haveI:=(hT.ty _ _ ht).1
  split at h
  ·rename_i hx
   split at h
   ·exact ⟨_,_,h,fun _=>ok_ifc hx⟩
   ·exact ⟨_,_,h,fun _=>ok_ifcNe hx⟩
   ·exact h.elim
  ·exact h.elim
 ·exact h.elim
theorem TFact.slice {t e sz by':Nat} {zc:List Value} (h:TFact P t (.sl e sz by' zc)):TSlice P t e:=h.1
theorem TFact.one {t:Nat} {i:TI} (h:TFact P t i) (hn:∀ n fl ks,i ≠ .st n fl ks):TOne P t:=by
 cases i with
 |int k=>exact h.2
 |str=>exact h.2
 |bool=>exact h.2
 |one=>exact h
 |ifc=>exact h.2
 |sl e sz b zc=>exact h.2.2.1
 |mp k e kd z=>exact h.2.2
 |st n fl ks=>exact absurd rfl (hn n fl ks)
theorem arr0 {α:Type} {a:Array α} (h:a.toList = []):a = #[]:=Array.ext' h
theorem arr1 {α:Type} {a:Array α} {x:α} (h:a.toList = [x]):a = #[x]:=Array.ext' h
theorem arr2 {α:Type} {a:Array α} {x y:α} (h:a.toList = [x,y]):a = #[x,y]:=Array.ext' h
theorem callD_sound (hT:TOk P T Z) {c:Call} (h:callD P T ρ c K):Does P (Oper.mk dst (.call c) ty pos after guard) ρ K:=by
 obtain ⟨callee,args,argTypes⟩:=c
 unfold callD at h
 simp only at h
 split at h
 ·obtain ⟨d,h⟩:=h.h;exact ⟨_,_,h,fun hg=>ok_call hg⟩
 ·split at h
  ·rename_i hf
   obtain ⟨d,h⟩:=h.h;exact ⟨_,_,h,fun hg=>ok_callF hf hg⟩
  ·exact h.elim
 ·split at h
  ·rename_i h1 h2
   obtain rfl:=arr1 h1
   obtain rfl:=arr1 h2
   split at h
   ·rename_i ht hx
    haveI:=(hT.ty _ _ ht).1
    exact ⟨_,_,h,fun _=>ok_lenS hx⟩
   ·rename_i ht hx
    haveI:=(hT.ty _ _ ht).1
    exact ⟨_,_,h,fun _=>ok_lenSl hx⟩
   ·rename_i ht hx
    haveI:=(hT.ty _ _ ht).1
    exact ⟨_,_,h,fun _=>ok_lenNil hx⟩
   ·rename_i ht hx
    haveI:=(hT.ty _ _ ht).1
    exact ⟨_,_,h,fun _=>ok_lenMap hx⟩
   ·exact h.elim
  ·exact h.elim
 ·split at h
  ·rename_i h1
   obtain rfl:=arr2 h1
   split at h
   ·rename_i hx hy
    split at h
    ·rename_i hk
     obtain rfl:=sameK_eq hk
     exact ⟨_,_,h,fun _=>ok_max hx hy⟩
    ·exact h.elim
   ·exact h.elim
  ·exact h.elim
 ·split at h
  ·rename_i h1
   obtain rfl:=arr2 h1
   split at h
   ·rename_i hx hy
    split at h
    ·rename_i hk
     obtain rfl:=sameK_eq hk
     exact ⟨_,_,h,fun _=>ok_min hx hy⟩
    ·exact h.elim
   ·exact h.elim
  ·exact h.elim
 ·exact h.elim
theorem opD_sound (hT:TOk P T Z) {o:Op} (h:opD P T Z ρ o K):Does P (Oper.mk dst o ty pos after guard) ρ K:=by
 unfold opD at h
 split at h
 ·split at h
  ·rename_i hp;exact ⟨_,_,h,fun _=>ok_move hp⟩
  ·exact h.elim
 ·split at h
  ·rename_i hp;exact ⟨_,_,h,fun _=>ok_assign hp⟩
  ·exact h.elim
 ·split at h
  ·rename_i hx;exact ⟨_,_,h,fun _=>ok_nilPtr hx⟩
  ·rename_i hx;exact ⟨_,_,h,fun _=>ok_nilRef hx⟩
  ·exact h.elim
 ·split at h
  ·rename_i hx
   split at h
   ·rename_i hd
    split at h
    ·rename_i ho;exact ⟨_,_,h,fun _=>ok_extract hx hd ho⟩
    ·exact h.elim
   ·exact h.elim
  ·exact h.elim
 ·split at h
  ·rename_i hx;exact ⟨_,_,h,fun _=>ok_not hx⟩
  ·exact h.elim
 ·split at h
  ·rename_i hx;obtain ⟨r,h⟩:=h.h;exact ⟨_,_,h,fun hr=>ok_neg hx hr⟩
  ·exact h.elim
 ·split at h
  ·exact ifcD_sound hT h
  ·exact binD_sound hT h
 ·split at h
  ·rename_i hs ht hx
   obtain ⟨r,h⟩:=h.h
   haveI:=(hT.ty _ _ ht).1
   exact ⟨_,_,h,fun hr=>ok_conv ⟨_,(hT.ty _ _ hs).1.h⟩ hx hr⟩
  ·rename_i hs ht hx
   haveI:=(hT.ty _ _ hs).1
   haveI:=(hT.ty _ _ ht).1
   exact ⟨_,_,h,fun _=>ok_intStr hx⟩
  ·rename_i hs ht hx
   haveI:=(hT.ty _ _ hs).1
   haveI:=(hT.ty _ _ ht).1
   exact ⟨_,_,h,fun _=>ok_strStr hx⟩
  ·rename_i hs ht hx
   haveI:=(hT.ty _ _ hs).1
   haveI:=(hT.ty _ _ ht).1
   split at h
   ·rename_i he
    haveI:=(hT.ty _ _ he).1
    exact ⟨_,_,h,fun hl=>ok_strBytes hx hl⟩
   ·exact h.elim
  ·rename_i hs ht hx
   haveI:=(hT.ty _ _ hs).1
   haveI:=(hT.ty _ _ ht).1
   split at h
   ·rename_i he hz
    haveI:=(hT.ty _ _ he).1
    obtain rfl:=Nat.eq_of_beq_eq_true hz
    obtain ⟨q,h⟩:=h.h
    exact ⟨_,_,h,fun hq=>ok_bytesStr (by rw [hx,hq])⟩
   ·exact h.elim
  ·rename_i hs ht hx
   haveI:=(hT.ty _ _ hs).1
   haveI:=(hT.ty _ _ ht).1
   split at h
   ·rename_i he
    haveI:=(hT.ty _ _ he).1
    exact ⟨_,_,h,fun _=>ok_nilStr hx⟩
   ·exact h.elim
  ·exact h.elim
 ·split at h
  ·rename_i ht hx
   split at h
   ·rename_i hf
    haveI:=(hT.ty _ _ ht).2.1 _ _ _ _ hf
    split at h
    ·rename_i hd
     split at h
     ·rename_i ho;exact ⟨_,_,h,fun _=>ok_field1 hx hd ho⟩
     ·exact h.elim
    ·exact h.elim
   ·rename_i hf
    haveI:=(hT.ty _ _ ht).2.1 _ _ _ _ hf
    split at h
    ·rename_i ho;exact ⟨_,_,h,fun _=>ok_fieldN hx ho⟩
    ·exact h.elim
   ·exact h.elim
  ·exact h.elim
 ·split at h
  ·rename_i ht
   split at h
   ·rename_i hf
    haveI:=(hT.ty _ _ ht).2.1 _ _ _ _ hf
    split at h
    ·rename_i hx;exact ⟨_,_,h,fun _=>ok_fieldAddr hx⟩
    ·rename_i hx;exact ⟨_,_,h,fun _=>ok_fieldRef hx⟩
    ·exact h.elim
   ·exact h.elim
  ·exact h.elim
 ·split at h
  ·rename_i hx
   split at h
   ·rename_i ht
    haveI:=(hT.ty _ _ ht).1
    split at h
    ·rename_i hn;exact ⟨_,_,h,fun _=>ok_loadN hx (Nat.le_of_ble_eq_true hn)⟩
    ·exact h.elim
   ·rename_i i hi ht
    haveI:=(hT.ty _ _ ht).one (fun n fl ks e=>hi n fl ks e)
    split at h
    ·exact ⟨_,_,h,fun _=>ok_load1 hx⟩
    ·exact h.elim
   ·exact h.elim
  ·exact h.elim
 ·split at h
  ·rename_i ht hx hy
   haveI:=(hT.ty _ _ ht).1
   haveI:=(hT.ty _ _ ht).2.1
   split at h
   ·rename_i hm
    split at h
    ·rename_i he
     obtain rfl:=Nat.eq_of_beq_eq_true he
     obtain ⟨r,h⟩:=h.h
     exact ⟨_,_,h,fun ⟨h0,hr⟩=>ok_indexAddr hx (by have:=Nat.le_of_ble_eq_true hm;omega) hy h0 hr⟩
    ·exact h.elim
   ·exact h.elim
  ·exact h.elim
 ·split at h
  ·rename_i ht hx hy
   haveI:=(hT.ty _ _ ht).1
   exact ⟨_,_,h,fun ⟨h0,h1⟩=>ok_indexS hx hy h0 h1⟩
  ·exact h.elim
 ·split at h
  ·rename_i ht hx
   haveI:=(hT.ty _ _ ht).1
   split at h
   ·rename_i hl hh
    exact ⟨_,_,h,fun ⟨h0,h1,h2⟩=>ok_sliceS hx (bndD_ok hl) (bndD_ok hh) h0 h1 h2⟩
   ·exact h.elim
  ·rename_i ht hx
   haveI:=(hT.ty _ _ ht).1
   haveI:=(hT.ty _ _ ht).2.1
   split at h
   ·rename_i he
    obtain rfl:=Nat.eq_of_beq_eq_true he
    split at h
    ·rename_i hl hh
     exact ⟨_,_,h,fun ⟨h0,h1,h2⟩=>ok_sliceSl hx (bndD_ok hl) (bndD_ok hh) h0 h1 h2⟩
    ·exact h.elim
   ·exact h.elim
  ·exact h.elim
 ·split at h
  ·rename_i hc;exact ⟨_,_,h,fun _=>ok_box hc⟩
  ·exact h.elim
 ·split at h
  ·rename_i ht hz
   haveI:=(hT.ty _ _ ht).2.2.1
   haveI:=hT.zer _ _ hz
   split at h
   ·rename_i h1
    split at h
    ·rename_i hf;exact ⟨_,_,h,fun _=>ok_build h1 hf⟩
    ·exact h.elim
   ·exact h.elim
  ·exact h.elim
 ·split at h
  ·rename_i ht
   haveI:=(hT.ty _ _ ht).1
   haveI:=(hT.ty _ _ ht).2.1
   haveI:=(hT.ty _ _ ht).2.2.2.2
   split at h
   ·rename_i hr
    split at h
    ·rename_i hb
     simp only [Bool.and_eq_true,beq_iff_eq] at hb
     exact ⟨_,_,h,fun _=>ok_buildSlice hb.1 hr hb.2.1 (by simp only [Bool.and_eq_true,decide_eq_true_eq];exact ⟨by have:=hb.2.2.1;simp [Nat.blt] at this;omega,Nat.le_of_ble_eq_true hb.2.2.2⟩)⟩
    ·exact h.elim
   ·exact h.elim
  ·exact h.elim
 ·split at h
  ·rename_i ht hl hc
   haveI:=(hT.ty _ _ ht).1
   haveI:=(hT.ty _ _ ht).2.2.2.1
   haveI:=(hT.ty _ _ ht).2.2.2.2
   split at h
   ·rename_i hb
    simp only [Bool.and_eq_true] at hb
    exact ⟨_,_,h,fun ⟨h0,h2,h1⟩=>ok_makeSlice hb.2 hl hc h0 h2 h1 (Nat.le_of_ble_eq_true hb.1)⟩
   ·exact h.elim
  ·exact h.elim
 ·exact callD_sound hT h
 ·split at h
  ·rename_i ht
   haveI:=(hT.ty _ _ ht).1
   exact ⟨_,_,h,fun _=>ok_makeMap⟩
  ·exact h.elim
 ·split at h
  ·rename_i ht hx hy
   haveI:=(hT.ty _ _ ht).1
   haveI:=(hT.ty _ _ ht).2.1
   split at h
   ·rename_i hb
    simp only [Bool.and_eq_true] at hb
    obtain rfl:=sameKD_eq hb.1
    obtain ⟨r,o,h⟩:=h.h
    split at h
    ·exact ⟨_,_,h,fun hs=>ok_lookupOk hx hy hb.2 hs⟩
    ·exact ⟨_,_,h,fun hs=>ok_lookup hx hy hb.2 hs⟩
   ·exact h.elim
  ·exact h.elim
 ·split at h
  ·rename_i hfirst
   obtain rfl:=arr0 hfirst
   split at h
   ·rename_i ha
    exact ⟨_,_,h,fun _=>ok_makeFunc ha⟩
   ·exact h.elim
  ·exact h.elim
 ·exact h.elim
end
end Go.Proofs.YtnlbekongmkmjaaGreatDoor
