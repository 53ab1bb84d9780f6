/- The table that a Replacer is built to: rules for single operations, and the building. -/
import Derived.Test.YtindehjiaknokaaGreatDoorZ9
namespace Go.Proofs.YtindehjiaknokaaGreatDoor
set_option linter.unusedSimpArgs false
set_option linter.unusedVariables false
open Go.RowKit
set_option maxRecDepth 100000
set_option maxHeartbeats 4000000
section
variable {P:Program} {Q:Exit→Act→World→Prop} {K:Act→World→Prop} {a:Act} {w:World}
 {dst:Option Tmp} {ty:TypeId} {pos:String} {after:Array Edge} {guard:Option (Nat × Bool)} {ops:Array Oper} {rest:List Oper} {ss:List Spec} {fs:List (World→Prop)}
theorem l_append1G {s x:Operand} {t e bytes B g p c:Nat} {zc:List Value} [i:TSlice P t e] [z:TElem P e 1 bytes zc] {v u:Value} {rows:List (List Value)} (hs:a.eval s=v) (hown:Own w B e 1 v rows)
  (hx:a.eval x=.slice (some ⟨g,p,none⟩) 1 c) (hrow:RowAt w g p [u]) (h1:u.oneCell'=true) (hB:B≤w.heap.size) (hlen:rows.length+1≤1000000000) (hby:bytes≤1000)
  (hr:∀ v' w',Own w' B e 1 v' (rows ++ [[u]])→w.grownBy w' v.ownBlock→wpList P ops Q rest (a.put dst v') w'):wpList P ops Q (Oper.mk dst (.call ⟨.builtin .append,#[s,x],#[t,t]⟩) ty pos after none::rest) a w:=by
 obtain ⟨inf,z0,h1',h2,h3,h4,h5,h6⟩:=z.h
 have hfl:rows.flatten.length=rows.length * 1:=by
  have:∀ (l:List (List Value)),(∀ r ∈ l,r.length=1)→l.flatten.length=l.length:=by
   intro l
   induction l with
   |nil=>intro _;simp
   |cons r l ih=>intro h;simp only [List.flatten_cons,List.length_append,List.length_cons,h r (by simp),ih (fun q hq=>h q (by simp [hq]))];omega
  rw [this rows hown.each,Nat.mul_one]
 have hmul:(rows.length+1) * bytes≤1000000000 * 1000:=Nat.mul_le_mul hlen hby
 refine wpList_plain rfl fun K hK => ?_
 refine wp_append_own w s x t rfl B e inf z0 1 bytes i.h h1' h2 h3 h4 h5 h6 v rows.length rows.flatten hs hown.own ⟨g,p,none⟩ 1 c [u] hx rfl ?_ ?_ ?_ ?_ hB ?_
 ·intro j y hy
  have hadd:(⟨g,p,none⟩:Addr).add j=⟨g,p+j,none⟩:=by unfold Addr.add;split<;>simp_all
  rw [hadd]
  exact hrow j y hy
 ·intro y hy
  rw [List.mem_singleton] at hy
  rw [hy]
  exact h1
 ·unfold maxLen;omega
 ·omega
 ·intro v' w' h7 h8 h9
  refine hK _ _ (hr v' w' ⟨?_,?_⟩ h8)
  ·rw [List.length_append,List.flatten_append]
   exact h7
  ·intro r hr
   rcases List.mem_append.1 hr with hr|hr
   ·exact hown.each r hr
   ·rw [List.mem_singleton] at hr
    rw [hr]
    rfl
end
/-! The table. -/
theorem Own.typed {w:World} {B:Nat} {e:TypeId} {sz:Nat} {v:Value} {rows:List (List Value)} (h:Own w B e sz v rows):v.ownBlock=none∨∃ k cur,v.ownBlock=some k∧w.heap[k]?=some (.cells cur e (0,0)):=by
 obtain ⟨_,h2⟩:=h.own
 rcases h2 with ⟨rfl,_⟩|⟨g,cap,cur,rfl,_,hg,_⟩
 ·exact .inl rfl
 ·exact .inr ⟨g,cur,rfl,hg⟩
def oB (j:Nat):Nat:=if j=0 then 34 else 92
def nB (j:Nat):List UInt8:=if j=0 then [92,34] else [92,92]
def u8s (l:List UInt8):List Value:=l.map fun b=>.int .u8 b.toNat
def nilS:Value:=.slice none 0 0
def tRep:List (List Value) := [[st [34]],[st [92]]]
structure Tc (B b m:Nat) (w:World) (cs:List Value):Prop where
 blk:Blk w b 152 cs.toArray
 len:cs.length=257
 low:B≤b
 done:∀ j,j < m→∃ b1 c1 cur fz,cs[oB j]?=some (.slice (some ⟨b1,0,none⟩) 2 c1)∧B≤b1∧w.heap[b1]?=some (.cells cur 5 fz)∧RowAt w b1 0 (u8s (nB j))
 rest:∀ k,k < 256→(∀ j,j < m→k ≠ oB j)→cs[k]?=some nilS
theorem RowAt.same {w w':World} {b p:Nat} {cs:List Value} (h:RowAt w b p cs) (hb:w'.heap[b]?=w.heap[b]?):RowAt w' b p cs:=fun j u hu=>(World.cell?_of_block (w:=w) (w':=w') (a:=⟨b,p+j,none⟩) hb).trans (h j u hu)
theorem Tc.ext {B b m:Nat} {w w':World} {cs:List Value} (h:Tc B b m w cs) (hx:Ext w w'):Tc B b m w' cs:=by
 refine ⟨h.blk.ext hx,h.len,h.low,fun j hj => ?_,h.rest⟩
 obtain ⟨b1,c1,cur,fz,h1,h2,h3,h4⟩:=h.done j hj
 exact ⟨b1,c1,cur,fz,h1,h2,(Below.block hx b1 (Array.getElem?_eq_some_iff.1 h3).1).trans h3,h4.ext hx⟩
theorem Tc.grown {B b m:Nat} {w w':World} {cs:List Value} (h:Tc B b m w cs) {row:Option Nat} (hg:w.grownBy w' row) (hr:row=none∨∃ k cur,row=some k∧w.heap[k]?=some (.cells cur 9 (0,0))):Tc B b m w' cs:=by
 have key:∀ (k:Nat) (o:Obj),w.heap[k]?=some o→(∀ cur fz,o ≠ .cells cur 9 fz)→w'.heap[k]?=some o:=fun k o ho hn=>by
  refine (hg.block k (Array.getElem?_eq_some_iff.1 ho).1 fun e => ?_).trans ho
  rcases hr with hr|⟨k',cur,hr,hk⟩
  ·rw [hr] at e;cases e
  ·rw [hr] at e
   cases e
   rw [hk] at ho
   cases ho
   exact hn _ _ rfl
 refine ⟨key b _ h.blk (fun cur fz e=>nomatch e),h.len,h.low,fun j hj => ?_,h.rest⟩
 obtain ⟨b1,c1,cur,fz,h1,h2,h3,h4⟩:=h.done j hj
 have h5:=key b1 _ h3 (fun cur fz e=>nomatch e)
 exact ⟨b1,c1,cur,fz,h1,h2,h5,h4.same (h5.trans h3.symm)⟩
theorem grown_setRow {w w':World} {b:Nat} {cur cur':Array Value} {e:TypeId} (h:Writes w w' b cur cur' e):w.grownBy w' (some b):=
 ⟨h.os,h.tape,h.output,Nat.le_of_eq h.size.symm,fun k _ hk=>h.other k fun e=>hk (by rw [e])⟩
theorem Own.keep {w w':World} {B b:Nat} {e e':TypeId} {sz:Nat} {v:Value} {rows:List (List Value)} (h:Own w B e sz v rows) {cur cur':Array Value} (hw:Writes w w' b cur cur' e') (hne:e ≠ e'):Own w' B e sz v rows:=by
 refine ⟨h.own.kept (grown_setRow hw) ?_,h.each⟩
 rcases h.typed with h0|⟨k,c,h0,h1⟩
 ·exact .inl h0
 ·refine .inr fun h2 => ?_
  rw [h0] at h2
  cases h2
  rw [hw.was] at h1
  cases h1
  exact hne rfl
theorem Tc.list {B b m:Nat} {w w':World} {cs:List Value} (h:Tc B b m w cs) {v:Value} (hw:Writes w w' b cs.toArray (cs.set 256 v).toArray 152):Tc B b m w' (cs.set 256 v):=by
 refine ⟨hw.now,by rw [List.length_set];exact h.len,h.low,fun j hj => ?_,fun k hk hj => ?_⟩
 ·obtain ⟨b1,c1,cur,fz,h1,h2,h3,h4⟩:=h.done j hj
  have hne:b1 ≠ b:=fun e=>by
   subst e
   have:=h.blk
   unfold Blk at this
   rw [this] at h3
   cases h3
  refine ⟨b1,c1,cur,fz,?_,h2,(hw.other b1 hne).trans h3,h4.same (hw.other b1 hne)⟩
  rw [List.getElem?_set_ne (by unfold oB;split<;>omega)]
  exact h1
 ·rw [List.getElem?_set_ne (by omega)]
  exact h.rest k hk hj
theorem Tc.next {B b m:Nat} {w w':World} {cs:List Value} (h:Tc B b m w cs) {b1 c1:Nat} (hb1:B≤b1) (hc:∃ cur fz,w.heap[b1]?=some (.cells cur 5 fz)) (hr:RowAt w b1 0 (u8s (nB m))) (hm:∀ j,j < m→oB j ≠ oB m)
  (hw:Writes w w' b cs.toArray (cs.set (oB m) (.slice (some ⟨b1,0,none⟩) 2 c1)).toArray 152):Tc B b (m+1) w' (cs.set (oB m) (.slice (some ⟨b1,0,none⟩) 2 c1)):=by
 have ho:oB m < 256:=by unfold oB;split<;>omega
 have diff:∀ b2 cur fz,w.heap[b2]?=some (.cells cur 5 fz)→b2 ≠ b:=fun b2 cur fz h3 e=>by
  subst e
  have:=h.blk
  unfold Blk at this
  rw [this] at h3
  cases h3
 obtain ⟨cur,fz,hc⟩:=hc
 refine ⟨hw.now,by rw [List.length_set];exact h.len,h.low,fun j hj => ?_,fun k hk hj => ?_⟩
 ·by_cases hjm:j=m
  ·subst hjm
   refine ⟨b1,c1,cur,fz,by rw [List.getElem?_set_self (by rw [h.len];omega)],hb1,(hw.other b1 (diff _ _ _ hc)).trans hc,hr.same (hw.other b1 (diff _ _ _ hc))⟩
  ·obtain ⟨b2,c2,cur,fz,h1,h2,h3,h4⟩:=h.done j (by omega)
   refine ⟨b2,c2,cur,fz,?_,h2,(hw.other b2 (diff _ _ _ h3)).trans h3,h4.same (hw.other b2 (diff _ _ _ h3))⟩
   rw [List.getElem?_set_ne (Ne.symm (hm j (by omega)))]
   exact h1
 ·rw [List.getElem?_set_ne (Ne.symm (hj m (by omega)))]
  exact h.rest k hk fun j hjm=>hj j (by omega)
end Go.Proofs.YtindehjiaknokaaGreatDoor
