/- The text that a table of replacements makes of a text. The program's reader: a condition that begins with a path (walk by hand). -/
import Derived.Test.YtindehjiaknokaaGreatDoorY27
import Derived.Test.YtindehjiaknokaaGreatDoorY23
namespace Go.Proofs.YtindehjiaknokaaGreatDoor
set_option linter.unusedSimpArgs false
set_option linter.unusedVariables false
open Go.RowKit
set_option maxRecDepth 100000
set_option maxHeartbeats 8000000
instance:Enters Tryz.prog 18:=⟨⟨_,Tryz.func18,by kernel_rfl,by kernel_rfl⟩⟩
instance:Enters Tryz.prog 31:=⟨⟨_,Tryz.func31,by kernel_rfl,by kernel_rfl⟩⟩
instance:Enters Tryz.prog 64:=⟨⟨_,Tryz.func64,by kernel_rfl,by kernel_rfl⟩⟩
instance:Enters Tryz.prog 70:=⟨⟨_,Tryz.func70,by kernel_rfl,by kernel_rfl⟩⟩
variable {cur:Array Value} {w':World}
def sp (s:Str):Nat:=s.count 34+s.count 92
theorem sp_snoc (s:Str) (c:UInt8):sp (s ++ [c])=sp s+(if c=34∨c=92 then 1 else 0):=by
 unfold sp
 rw [List.count_append,List.count_append,List.count_singleton,List.count_singleton]
 by_cases h1:c=34
 ·subst h1;simp;omega
 ·by_cases h2:c=92
  ·subst h2;simp;omega
  ·simp [h1,h2]
theorem sp_take {s:Str} {k:Nat} {c:UInt8} (h:s[k]?=some c):sp (s.take (k+1))=sp (s.take k)+(if c=34∨c=92 then 1 else 0):=by
 obtain ⟨hl,rfl⟩:=List.getElem?_eq_some_iff.1 h
 rw [List.take_succ_eq_append_getElem hl,sp_snoc]
theorem sp_le (s:Str) (k:Nat):sp (s.take k)≤sp s:=by
 unfold sp
 have h1:(s.take k).count 34≤s.count 34:=(List.take_sublist k s).count_le 34
 have h2:(s.take k).count 92≤s.count 92:=(List.take_sublist k s).count_le 92
 omega
theorem sp_len (s:Str):sp s≤2 * s.length:=by
 unfold sp
 have h1:s.count 34≤s.length:=List.count_le_length
 have h2:s.count 92≤s.length:=List.count_le_length
 omega
theorem escS_len' (s:Str):(escS s).length=s.length+sp s:=by
 induction s with
 |nil=>rfl
 |cons c s ih=>
  have e:escS (c::s)=escB c++escS s:=rfl
  have h:sp (c::s)=sp s+(if c=34∨c=92 then 1 else 0):=by
   unfold sp
   rw [List.count_cons,List.count_cons]
   by_cases h1:c=34
   ·subst h1;simp;omega
   ·by_cases h2:c=92
    ·subst h2;simp;omega
    ·simp [h1,h2]
  rw [e,List.length_append,ih,List.length_cons,h]
  unfold escB
  split<;>simp<;>omega
theorem escS_none {s:Str} (h:sp s=0):escS s=s:=by
 induction s with
 |nil=>rfl
 |cons c s ih=>
  have e:escS (c::s)=escB c++escS s:=rfl
  unfold sp at h
  rw [List.count_cons,List.count_cons] at h
  have h1:c ≠ 34:=fun e=>by subst e;simp at h
  have h2:c ≠ 92:=fun e=>by subst e;simp at h
  rw [e,ih (by unfold sp;omega)]
  unfold escB
  rw [if_neg (by simp [h1,h2])]
  rfl
structure TabR (b:Nat) (w:World):Prop where
 row:∀ j,j < 2→∃ b1 c1,w.cell? ⟨b,oB j,none⟩=some (.slice (some ⟨b1,0,none⟩) 2 c1)∧RowAt w b1 0 (u8s (nB j))
 rest:∀ k,k < 256→k ≠ 34→k ≠ 92→w.cell? ⟨b,k,none⟩=some (.slice none 0 0)
 list:∃ bt ct,w.cell? ⟨b,256,none⟩=some (.slice (some ⟨bt,0,none⟩) 2 ct)∧RowAt w bt 0 [st [34],st [92]]
theorem TabR.ext {b:Nat} {w:World} (h:TabR b w) (hx:Ext w w'):TabR b w':=by
 refine ⟨fun j hj => ?_,fun k h1 h2 h3=>hx.cell (h.rest k h1 h2 h3),?_⟩
 ·obtain ⟨b1,c1,h1,h2⟩:=h.row j hj
  exact ⟨b1,c1,hx.cell h1,h2.ext hx⟩
 ·obtain ⟨bt,ct,h1,h2⟩:=h.list
  exact ⟨bt,ct,hx.cell h1,h2.ext hx⟩
theorem TabAt.read {B b:Nat} {w:World} (h:TabAt B b w):TabR b w:=by
 obtain ⟨cs,v,hT,hv,ho⟩:=h
 refine ⟨fun j hj => ?_,fun k h1 h2 h3 => ?_,?_⟩
 ·obtain ⟨b1,c1,cur,fz,h1,_,_,h4⟩:=hT.done j hj
  exact ⟨b1,c1,(hT.blk.cell _).trans (by rw [List.getElem?_toArray];exact h1),h4⟩
 ·refine (hT.blk.cell _).trans ?_
  rw [List.getElem?_toArray]
  refine hT.rest k h1 fun j hj => ?_
  unfold oB
  split<;>omega
 ·obtain ⟨A,c,rfl,h1,h2,h3,h4⟩:=ho.slr
  obtain ⟨_,bt,o,h5,h6⟩:=h4 0 [st [34]] rfl
  obtain ⟨_,bt',o',h5',h6'⟩:=h4 1 [st [92]] rfl
  rw [h5] at h5'
  cases h5'
  obtain ⟨_,h7⟩:=ho.own
  have ho0:o=0:=by
   rcases h7 with ⟨h8,_⟩|⟨g,cap,cur,h8,_⟩
   ·rw [h5] at h8;cases h8
   ·rw [h5] at h8;cases h8;rfl
  subst ho0
  subst h5
  refine ⟨bt,c,(hT.blk.cell _).trans (by rw [List.getElem?_toArray];exact hv),fun j u hu => ?_⟩
  match j,hu with
  |0,hu=>have:=h6 0 u hu;simpa using this
  |1,hu=>have:=h6' 0 u hu;simpa using this
  |j+2,hu=>simp at hu
theorem TabR.at {b:Nat} {w:World} (h:TabR b w) (c:UInt8):∃ v,w.cell? ⟨b,c.toNat,none⟩=some v∧((c=34∨c=92)∧(∃ b1 c1,v=.slice (some ⟨b1,0,none⟩) 2 c1∧RowAt w b1 0 (u8s [92,c]))∨¬ (c=34∨c=92)∧v=.slice none 0 0):=by
 by_cases h1:c=34
 ·subst h1
  obtain ⟨b1,c1,h2,h3⟩:=h.row 0 (by omega)
  exact ⟨_,h2,.inl ⟨.inl rfl,b1,c1,rfl,h3⟩⟩
 ·by_cases h2:c=92
  ·subst h2
   obtain ⟨b1,c1,h2,h3⟩:=h.row 1 (by omega)
   exact ⟨_,h2,.inl ⟨.inr rfl,b1,c1,rfl,h3⟩⟩
  ·refine ⟨_,h.rest c.toNat c.toNat_lt (fun e=>h1 (UInt8.toNat_inj.1 e)) (fun e=>h2 (UInt8.toNat_inj.1 e)),.inr ⟨by simp [h1,h2],rfl⟩⟩
def Buf (w:World) (g n:Nat) (t:Str):Prop:=∃ cur,Blk w g 5 cur∧cur.size=n∧cur.toList.take t.length=u8s t
theorem Blk.setCell {w:World} {g:Nat} {t:TypeId} (h:Blk w g t cur) (i:Nat) (v:Value):Blk (w.setCell ⟨g,i,none⟩ v) g t (cur.setIfInBounds i v):=by
 unfold Blk at h ⊢
 simp only [World.setCell,Array.getElem?_modify,if_true,h]
 rfl
theorem Buf.put {n:Nat} {t:Str} (hs:cur.size=n) (hc:cur.toList.take t.length=u8s t) (hl:t.length < n) (x:UInt8):
  (cur.setIfInBounds t.length (.int .u8 x.toNat)).size=n∧(cur.setIfInBounds t.length (.int .u8 x.toNat)).toList.take (t ++ [x]).length=u8s (t ++ [x]):=by
 refine ⟨by simpa using hs,?_⟩
 have hlt:t.length < cur.toList.length:=by simpa [hs] using hl
 rw [Array.toList_setIfInBounds,List.length_append,List.length_singleton,List.take_add_one,List.take_set_of_le (Nat.le_refl _),hc,List.getElem?_set_self hlt]
 simp [u8s]
theorem putA {i:Nat} {v:Value} (h:i < cur.size):(cur.toList.take i ++ [v]++cur.toList.drop (i+1)).toArray=cur.setIfInBounds i v:=by
 apply Array.ext'
 rw [Array.toList_setIfInBounds,List.set_eq_take_append_cons_drop,if_pos (by rw [Array.length_toList];exact h)]
 simp
section
variable {P:Program} {Q:Exit→Act→World→Prop} {K:Act→World→Prop} {a:Act} {w:World}
 {dst:Option Tmp} {ty:TypeId} {pos:String} {after:Array Edge} {guard:Option (Nat × Bool)} {ops:Array Oper} {rest:List Oper} {ss:List Spec} {fs:List (World→Prop)}
theorem r_sliceFrom {t e:Nat} [TSlice P t e] [TSize P e 1] {x o:Operand} {b l c j:Nat} (hx:a.eval x=.slice (some ⟨b,0,none⟩) l c) (ho:a.eval o=.int .i64 j) (hj:j < l) (hc:l≤c)
  (hk:K (a.put dst (.slice (some ⟨b,j,none⟩) (l - j) (c - j))) w):(Oper.mk dst (.slice t x (some o) none none) ty pos after guard).wp P a w K Q:=by
 refine r_slice_sl (l:=j) (h:=l) hx ⟨.i64,ho⟩ rfl (by omega) (Nat.le_refl _) hc ?_
 rw [if_neg (by omega),Option.map_some,show (⟨b,0,none⟩:Addr).add (j * 1)=⟨b,j,none⟩ by unfold Addr.add;split<;>simp_all]
 exact hk
theorem r_copy2 {t e:Nat} [TSlice P t e] [TSize P e 1] {x y:Operand} {b j l c b1 c1:Nat} {u v:Value} (hx:a.eval x=.slice (some ⟨b,j,none⟩) l c) (hy:a.eval y=.slice (some ⟨b1,0,none⟩) 2 c1) (hl:2≤l) (hs:RowAt w b1 0 [u,v]) (h1:u.oneCell'=true) (h2:v.oneCell'=true)
  {t':TypeId} (hb:Blk w b t' cur) (hn:j+1 < cur.size) (hr:K (a.put dst (.int .i64 2)) ((w.setCell ⟨b,j,none⟩ u).setCell ⟨b,j+1,none⟩ v)):(Oper.mk dst (.call ⟨.builtin .copy,#[x,y],#[t,t]⟩) ty pos after none).wp P a w K Q:=by
 have hrun:=run_copy_cells (P:=P) w t t ty e b j l c ⟨b1,0,none⟩ 2 c1 [u,v] (TSlice.h (P:=P) (t:=t) (e:=e)) (TSize.sz (P:=P) (t:=e) (n:=1)) (by simp [Nat.min_def];omega) (fun k y hk=>by
  rw [show (⟨b1,0,none⟩:Addr).add k=⟨b1,0+k,none⟩ by unfold Addr.add;split<;>simp_all]
  exact hs k y hk) (fun k hk=>by
  rw [hb.cell]
  have hk':k < 2:=hk
  simp
  omega) (fun k _=>hb.frozen _) (fun y hy=>by
  simp only [List.mem_cons,List.not_mem_nil,or_false] at hy
  rcases hy with rfl|rfl
  ·exact h1
  ·exact h2)
 unfold Oper.wp
 rw [show (execOp a.eval (Oper.mk dst (.call ⟨.builtin .copy,#[x,y],#[t,t]⟩) ty pos after none)).run P w=.ok (.value (.int .i64 2)) ((w.setCell ⟨b,j,none⟩ u).setCell ⟨b,j+1,none⟩ v) by
  simp only [execOp,resolve,invoke,builtin,Sem.run_bind,Sem.run_pure,Result.andThen_ok,List.map_toArray,List.map_cons,List.map_nil,hx,hy,hrun]
  rfl]
 exact hr
end
/-! One operation among the others writes a block of one's own. -/
section
variable {P:Program} {Q:Exit→Act→World→Prop} {a:Act} {w0:World} {ops:Array Oper} {rest:List Oper} {ss:List Spec} {fs:List (World→Prop)} {W:Ways} {i:Nat}
theorem w_val {o:Oper} {v:Value} (hg:o.guard=none) (hic:i ≠ W.c) (h:∀ w,W.R w0 w→∀ K:Act→World→Prop,K (a.put o.dst v) w→o.wp P a w K (NoPanic Q)) (hr:ParW P ops Q W w0 (i+1) rest ss (fs ++ [fun _=>True]) (a.put o.dst v)):ParW P ops Q W w0 i (o::rest) (Spec.det v::ss) fs a:=by
 refine ⟨fun w hw _ => ?_,fun _ _ _ _ _ h=>h,fun u=>hr⟩
 unfold Ways.sees at hw
 rw [if_neg hic] at hw
 unfold StepG
 rw [if_pos (by unfold Region.wanted;rw [hg])]
 intro K hK
 exact .inl (h w hw K (hK (0,0,undef) w trivial (W.self i w)))
theorem w_do {o:Oper} {v:Value} {R:World→Prop} (hm:∀ w w',Ext w w'→R w→R w') (hg:o.guard=none) (hic:i=W.c) (hl:W.late i=true) (h:∀ w,Ext w0 w→∀ K:Act→World→Prop,(∀ w',R w'→W.R w w'→K (a.put o.dst v) w')→o.wp P a w K (NoPanic Q))
  (hr:ParW P ops Q W w0 (i+1) rest ss (fs ++ [R]) (a.put o.dst v)):ParW P ops Q W w0 i (o::rest) (⟨fun _=>v,fun _=>R,fun _=>hm⟩::ss) fs a:=by
 refine ⟨fun w hw _ => ?_,fun h=>(by rw [hl] at h;cases h),fun u=>hr⟩
 unfold Ways.sees at hw
 rw [if_pos hic] at hw
 unfold StepG
 rw [if_pos (by unfold Region.wanted;rw [hg])]
 intro K hK
 refine .inl (h w hw K fun w' hr hR=>hK (0,0,undef) w' hr ?_)
 unfold Ways.does
 rw [if_pos hic]
 exact hR
theorem w_nil (h:∀ w,W.R w0 w→(∀ f ∈ fs,f w)→Q .normal a w):ParW P ops Q W w0 i [] [] fs a:=by
 unfold ParW
 exact h
end
structure Bel (g:Nat) (w w':World):Prop where
 os:w'.os=w.os
 tape:w'.tape=w.tape
 output:w'.output=w.output
 size:w.heap.size≤w'.heap.size
 block:∀ k,k < w.heap.size→k ≠ g→w'.heap[k]?=w.heap[k]?
theorem Bel.of {g:Nat} {w:World} (h:Ext w w'):Bel g w w':=⟨h.os,h.tape,h.output,h.size,fun k hk _=>h.block hk⟩
theorem Bel.trans {g:Nat} {a b c:World} (h:Bel g a b) (k:Bel g b c):Bel g a c:=
 ⟨k.os.trans h.os,k.tape.trans h.tape,k.output.trans h.output,Nat.le_trans h.size k.size,fun j hj hn=>(k.block j (Nat.lt_of_lt_of_le hj h.size) hn).trans (h.block j hj hn)⟩
theorem Bel.setCell {g i:Nat} (w:World) (v:Value):Bel g w (w.setCell ⟨g,i,none⟩ v):=
 ⟨rfl,rfl,rfl,by simp [World.setCell],fun k _ hk=>Below.heap_setCell _ _ _ _ hk⟩
theorem Bel.cell {g b i:Nat} {w:World} {v:Value} (h:Bel g w w') (hb:b ≠ g) (hc:w.cell? ⟨b,i,none⟩=some v):w'.cell? ⟨b,i,none⟩=some v:=
 (World.cell?_of_block (w:=w) (w':=w') (a:=⟨b,i,none⟩) (h.block b (block_lt_of_cell hc) hb)).trans hc
theorem Bel.ext {g:Nat} {w0 w:World} (h:Bel g w w') (hx:Ext w0 w) (hg:w0.heap.size≤g):Ext w0 w':=
 ⟨h.os.trans hx.os,h.tape.trans hx.tape,h.output.trans hx.output,Nat.le_trans hx.size h.size,fun k hk=>(h.block k (Nat.lt_of_lt_of_le hk hx.size) (by omega)).trans (hx.block hk)⟩
def waysB (g c:Nat):Ways:=⟨Bel g,c,fun i=>decide (i=c) || decide (i=c+1),fun _ _ h=>Bel.of h,fun _ _ _ h k=>h.trans k⟩
end Go.Proofs.YtindehjiaknokaaGreatDoor
namespace Go.Proofs.YtindehjiaknokaaGreatDoor
set_option linter.unusedSimpArgs false
set_option linter.unusedVariables false
open Go.RowKit
set_option maxRecDepth 100000
variable {L:List Nat} {b:Nat} {cur cur':Array Value} {q:Pl} {s:Str} {w w':World}
def sgL (S0:Sig) (b:Nat) (L:List Nat):Sig:=⟨fun k=>if k=b then some (.slot 0,0) else if k ∈ L then some (.dead,0) else (S0.own k).map fun x=>(.dead,x.2),fun _=>b⟩
theorem sgL_b (S0:Sig) (b:Nat) (L:List Nat):(sgL S0 b L).own b=some (.slot 0,0):=if_pos rfl
theorem sgL_in {S0:Sig} {k:Nat} (h:k ∈ L) (hb:k ≠ b):(sgL S0 b L).own k=some (.dead,0):=by
 show (if k=b then _ else if k ∈ L then _ else _)=_
 rw [if_neg hb,if_pos h]
theorem sgL_out {S0:Sig} {k:Nat} (h:k ∉ L) (hb:k ≠ b):(sgL S0 b L).own k=(S0.own k).map fun x=>(.dead,x.2):=by
 show (if k=b then _ else if k ∈ L then _ else _)=_
 rw [if_neg hb,if_neg h]
structure Hst (S0:Sig) (b:Nat) (L:List Nat) (s:Str) (q:Pl) (w:World):Prop where
 rd:∃ e,w.heap[b]?=some (.cells #[.string ⟨s.toArray⟩,.int .i64 q.1,.bool q.2] e (0,0))
 gl:∀ (g:Nat) (φ:Obj→Prop),GB g=some φ→(g ≠ b∧g ∉ L∧S0.own g=none)∧∃ o,w.heap[g]?=some o∧φ o
 lt:∀ k ∈ L,k < w.heap.size∧k ≠ b
 base:∀ k x,S0.own k=some x→k < w.heap.size
theorem Hst.blt {S0:Sig} (h:Hst S0 b L s q w):b < w.heap.size:=by
 obtain ⟨e,he⟩:=h.rd
 exact (Array.getElem?_eq_some_iff.1 he).1
theorem Hst.wf {S0:Sig} (h:Hst S0 b L s q w):WF (sgL S0 b L) w:=by
 refine ⟨fun k x hx => ?_,fun g φ hg => ?_⟩
 ·by_cases hk:k=b
  ·subst hk;exact h.blt
  ·by_cases hL:k ∈ L
   ·exact (h.lt k hL).1
   ·rw [sgL_out hL hk] at hx
    cases ho:S0.own k with
    |none=>rw [ho] at hx;cases hx
    |some y=>exact h.base k y ho
 ·obtain ⟨⟨h1,h2,h4⟩,h3⟩:=h.gl g φ hg
  exact ⟨by rw [sgL_out h2 h1,h4];rfl,h3⟩
theorem Hst.rep {S0:Sig} (h:Hst S0 b L s q w):Rep (sgL S0 b L) w (.slot 0) (.pointer (some ⟨b,0,none⟩)) (.obj (pC s q)):=by
 obtain ⟨e,he⟩:=h.rd
 refine Rep.obj (path := []) (sgL_b S0 b L) rfl rfl he rfl (fun i v hv => ?_) fun i d v hd hv => ?_
 ·match i,hv with
  |0,hv=>cases hv;rfl
  |1,hv=>cases hv;rfl
  |2,hv=>cases hv;rfl
 ·match i,hd,hv with
  |0,hd,hv=>cases hd;cases hv;exact .fz (.str _)
  |1,hd,hv=>cases hd;cases hv;exact .fz (.int _ _)
  |2,hd,hv=>cases hd;cases hv;exact .fz (.bool _)
theorem Bel.of_trans {S0:Sig} {S':Sig} (t:Trans (sgL S0 b L) w S' w'):Bel b w w':=by
 refine ⟨t.os,t.tape,t.output,t.size,fun k hk hb => ?_⟩
 by_cases hL:k ∈ L
 ·exact (t.foreign k .dead 0 hk (sgL_in hL hb) rfl).1
 ·cases ho:S0.own k with
  |none=>exact (t.free k hk (by rw [sgL_out hL hb,ho];rfl)).1
  |some y=>exact (t.foreign k .dead y.2 hk (by rw [sgL_out hL hb,ho];rfl) rfl).1
theorem Hst.of_trans {S0:Sig} {q':Pl} {S':Sig} (h:Hst S0 b L s q w) (t:Trans (sgL S0 b L) w S' w') (hr:Rep S' w' (.slot 0) (.pointer (some ⟨b,0,none⟩)) (.obj (pC s q'))):Hst S0 b L s q' w':=by
 have hB:=Bel.of_trans t
 refine ⟨?_,fun g φ hg => ?_,fun k hk=>⟨Nat.lt_of_lt_of_le (h.lt k hk).1 t.size,(h.lt k hk).2⟩,fun k x hx=>Nat.lt_of_lt_of_le (h.base k x hx) t.size⟩
 ·obtain ⟨b',cur,e,hv,_,_,hh,hsz,_,hc⟩:=hr.obj_inv
  cases hv
  refine ⟨e,hh.trans ?_⟩
  obtain ⟨l⟩:=cur
  match l,hsz,hc with
  |[v0,v1,v2],_,hc=>
   have c0:=hc 0 _ v0 rfl rfl
   have c1:=hc 1 _ v1 rfl rfl
   have c2:=hc 2 _ v2 rfl rfl
   cases c0 with
   |fz c0=>
    cases c0
    cases c1 with
    |fz c1=>
     cases c1
     cases c2 with
     |fz c2=>
      cases c2
      rfl
 ·obtain ⟨h1,o,h2,h3⟩:=h.gl g φ hg
  exact ⟨h1,o,(hB.block g (Array.getElem?_eq_some_iff.1 h2).1 h1.1).trans h2,h3⟩
theorem T_of {S0:Sig} {S':Sig} (t:Trans (sgL S0 b L) w S' w'):Trans (sgL S0 b L) w (sgL S0 b L) w':=by
 refine ⟨t.os,t.tape,t.output,t.size,fun k hk hn=>⟨(t.free k hk hn).1,hn⟩,fun k p l hk ho hr=>⟨(t.foreign k p l hk ho hr).1,ho⟩,fun k p l hk ho=>⟨(t.held k p l hk ho).1,fun x hx => ?_⟩,rfl⟩
 rw [ho] at hx
 cases hx
 exact Nat.le_refl _
theorem T_ext {S0:Sig} (h:Ext w w'):Trans (sgL S0 b L) w (sgL S0 b L) w':=by
 refine ⟨h.os,h.tape,h.output,h.size,fun k hk hn=>⟨h.block hk,hn⟩,fun k p l hk ho _=>⟨h.block hk,ho⟩,fun k p l hk ho=>⟨Keeps.of_eq (h.block hk),fun x hx => ?_⟩,rfl⟩
 rw [ho] at hx
 cases hx
 exact Nat.le_refl _
theorem Hst.ext {S0:Sig} (h:Hst S0 b L s q w) (hx:Ext w w'):Hst S0 b L s q w':=by
 refine ⟨?_,fun g φ hg => ?_,fun k hk=>⟨Nat.lt_of_lt_of_le (h.lt k hk).1 hx.size,(h.lt k hk).2⟩,fun k x hk=>Nat.lt_of_lt_of_le (h.base k x hk) hx.size⟩
 ·obtain ⟨e,he⟩:=h.rd
  exact ⟨e,(hx.block h.blt).trans he⟩
 ·obtain ⟨h1,o,h2,h3⟩:=h.gl g φ hg
  exact ⟨h1,o,(hx.block (Array.getElem?_eq_some_iff.1 h2).1).trans h2,h3⟩
theorem Hst.own {S0:Sig} {b g:Nat} {L:List Nat} {s:Str} {q:Pl} {w w':World} (h:Hst S0 b L s q w) (hx:Ext w w') (hg:w.heap.size≤g) (hg2:g < w'.heap.size):Hst S0 b (g::L) s q w':=by
 have h':=h.ext hx
 refine ⟨h'.rd,fun k φ hk => ?_,fun k hk => ?_,h'.base⟩
 ·obtain ⟨⟨h1,h4,h5⟩,o,h2,h3⟩:=h.gl k φ hk
  have hlt:=(Array.getElem?_eq_some_iff.1 h2).1
  refine ⟨⟨h1,fun hm => ?_,h5⟩,(h'.gl k φ hk).2⟩
  rcases List.mem_cons.1 hm with e|hm
  ·omega
  ·exact h4 hm
 ·rcases List.mem_cons.1 hk with e|hk
  ·subst e
   have:=h.blt
   exact ⟨hg2,by omega⟩
  ·exact h'.lt k hk
theorem Hst.write {S0:Sig} {k:Nat} (h:Hst S0 b L s q w) (hk:k ∈ L) {e:TypeId} (hw:Writes w w' k cur cur' e):Hst S0 b L s q w':=by
 have hb:=(h.lt k hk).2
 refine ⟨?_,fun g φ hg => ?_,fun j hj=>⟨by rw [hw.size];exact (h.lt j hj).1,(h.lt j hj).2⟩,fun k x hk=>by rw [hw.size];exact h.base k x hk⟩
 ·obtain ⟨e,he⟩:=h.rd
  exact ⟨e,(hw.other b (Ne.symm hb)).trans he⟩
 ·obtain ⟨⟨h1,h4,h5⟩,o,h2,h3⟩:=h.gl g φ hg
  exact ⟨⟨h1,h4,h5⟩,o,(hw.other g (fun e=>h4 (e ▸ hk))).trans h2,h3⟩
theorem Fz.writeL {S0:Sig} {k:Nat} {v:Value} {d:D} (hf:Fz (sgL S0 b L).lim w v d) (hk:k ∈ L) (hb:k ≠ b) {e:TypeId} (hw:Writes w w' k cur cur' e):Fz (sgL S0 b L).lim w' v d:=hf.write (sgL_in hk hb) hw
theorem rep_unit (S:Sig) (w:World) (v:Value) (h:Rep S w .res v (.tup [])):Fz S.lim w v (.tup []):=by
 cases h with
 |fz h=>exact h
 |tup vs hl _=>exact .tup vs hl fun j d u hd=>by cases hd
theorem rep_flat {d:D} (hp:d.passes=true) (S:Sig) (w:World) (v:Value) (h:Rep S w .res v d):Fz S.lim w v d:=h.passes hp
theorem callO {S0:Sig} {f:Nat} {q':Pl} {rest:List D} {d:D} (hsem:SemO Tryz.prog f (.obj (pC s q)) rest d (some (.obj (pC s q')))) (hp:∀ (S:Sig) (w:World) (v:Value),Rep S w .res v d→Fz S.lim w v d) (h:Hst S0 b L s q w) (vs:List Value) (hl:vs.length=rest.length)
  (hf:∀ (i:Nat) (d:D) (v:Value),rest[i]?=some d→vs[i]?=some v→Fz (sgL S0 b L).lim w v d):
  Calls Tryz.prog f (.pointer (some ⟨b,0,none⟩)::vs).toArray w fun e w'=>∃ v,e=.returned v∧Hst S0 b L s q' w'∧(Bel b w w'∧Trans (sgL S0 b L) w (sgL S0 b L) w')∧Fz (sgL S0 b L).lim w' v d:=by
 obtain ⟨_,_,_,hs⟩:=hsem
 refine (hs (sgL S0 b L) w _ vs h.wf h.rep hl hf).mono fun e w' ⟨v,S',he,hw',ht,hr,ho⟩=>⟨v,he,h.of_trans ht (ho _ rfl),⟨Bel.of_trans ht,T_of ht⟩,?_⟩
 refine (hp _ _ _ hr).monoL fun k x hx => ?_
 obtain ⟨b',cur,e',hv,hb',_⟩:=(ho _ rfl).obj_inv
 cases hv
 by_cases hk:k=b
 ·subst hk
  unfold Sig.lim at hx ⊢
  rw [sgL_b] at hx
  rw [hb']
  exact hx
 ·by_cases hL:k ∈ L
  ·unfold Sig.lim at hx ⊢
   rw [sgL_in hL hk] at hx
   rw [(ht.foreign k .dead 0 (h.lt k hL).1 (sgL_in hL hk) rfl).2]
   exact hx
  ·unfold Sig.lim at hx ⊢
   rw [sgL_out hL hk] at hx
   cases ho2:S0.own k with
   |none=>rw [ho2] at hx;cases hx
   |some y=>
    rw [ho2] at hx
    rw [(ht.foreign k .dead y.2 (h.base k y ho2) (by rw [sgL_out hL hk,ho2];rfl) rfl).2]
    exact hx
end Go.Proofs.YtindehjiaknokaaGreatDoor
namespace Go.Proofs.YtindehjiaknokaaGreatDoor
set_option linter.unusedSimpArgs false
set_option linter.unusedVariables false
open Go.RowKit
set_option maxRecDepth 100000
set_option maxHeartbeats 8000000
variable {L:List Nat} {cur cur':Array Value}
structure Bel2 (S0:Sig) (b:Nat) (L:List Nat) (C:Nat) (w w':World):Prop where
 os:w'.os=w.os
 tape:w'.tape=w.tape
 output:w'.output=w.output
 size:w.heap.size≤w'.heap.size
 block:∀ k,k < w.heap.size→k ≠ b→k ≠ C→w'.heap[k]?=w.heap[k]?
 fz:∀ v d,Fz (sgL S0 b L).lim w v d→Fz (sgL S0 b L).lim w' v d
 keep:Keeps 0 w.heap[b]? w'.heap[b]?
theorem Bel2.refl (S0:Sig) (b:Nat) (L:List Nat) (C:Nat) (w:World):Bel2 S0 b L C w w:=⟨rfl,rfl,rfl,Nat.le_refl _,fun _ _ _ _=>rfl,fun _ _ h=>h,Keeps.refl 0 _⟩
theorem Bel2.trans {S0:Sig} {b C:Nat} {x y z:World} (h:Bel2 S0 b L C x y) (g:Bel2 S0 b L C y z):Bel2 S0 b L C x z:=
 ⟨g.os.trans h.os,g.tape.trans h.tape,g.output.trans h.output,Nat.le_trans h.size g.size,fun k hk h1 h2=>(g.block k (Nat.lt_of_lt_of_le hk h.size) h1 h2).trans (h.block k hk h1 h2),fun v d hf=>g.fz v d (h.fz v d hf),h.keep.trans g.keep (Nat.le_refl 0)⟩
theorem Bel2.call {S0:Sig} {b C:Nat} {w w':World} (hb:b < w.heap.size) (h:Bel b w w'∧Trans (sgL S0 b L) w (sgL S0 b L) w'):Bel2 S0 b L C w w':=
 ⟨h.1.os,h.1.tape,h.1.output,h.1.size,fun k hk h1 _=>h.1.block k hk h1,fun _ _ hf=>hf.trans h.2,(h.2.held b _ _ hb (sgL_b S0 b L)).1⟩
theorem Bel2.ext {S0:Sig} {b C:Nat} {w w':World} (hb:b < w.heap.size) (h:Ext w w'):Bel2 S0 b L C w w':=
 ⟨h.os,h.tape,h.output,h.size,fun _ hk _ _=>h.block hk,fun _ _ hf=>hf.trans (T_ext h),Keeps.of_eq (h.block hb)⟩
theorem Bel2.write {S0:Sig} {b C:Nat} {w w':World} (hC:C ∈ L) (hb:C ≠ b) {e:TypeId} (h:Writes w w' C cur cur' e):Bel2 S0 b L C w w':=
 ⟨h.os,h.tape,h.output,by rw [h.size];exact Nat.le_refl _,fun k _ _ h2=>h.other k h2,fun _ _ hf=>hf.writeL hC hb h,Keeps.of_eq (h.other b (Ne.symm hb))⟩
theorem fz0 {lim:Nat→Option Nat} {w:World} (i:Nat) (d:D) (v:Value) (hd:([]:List D)[i]?=some d) (_:([]:List Value)[i]?=some v):Fz lim w v d:=by cases hd
theorem fz1 {lim:Nat→Option Nat} {w:World} {t:Str} (i:Nat) (d:D) (v:Value) (hd : [D.str t][i]?=some d) (hv : [Value.string ⟨t.toArray⟩][i]?=some v):Fz lim w v d:=by
 match i,hd,hv with
 |0,hd,hv=>cases hd;cases hv;exact .str _
section
variable {Q:Exit→Act→World→Prop} {a:Act} {w:World} {dst:Option Tmp} {ty:TypeId} {pos:String} {after:Array Edge} {ops:Array Oper} {rest:List Oper}
theorem l_storeW {P:Program} {t n b o:Nat} {x y:Operand} (hs:(P.info? t).map (·.size)=some n) (hx:a.eval x=.pointer (some ⟨b,o,none⟩)) {us:List Value} (hy:(a.eval y).cells.toList=us) (hn:us.length=n) (h1:∀ u:Value,u ∈ us→u.oneCell'=true) {e:TypeId}
  (hg:w.heap[b]?=some (.cells cur e (0,0))) (hl:o+n≤cur.size) (hc:(cur.toList.take o++us++cur.toList.drop (o+n)).toArray=cur') (hk:∀ w',Writes w w' b cur cur' e→wpList P ops Q rest (a.put dst undef) w'):wpList P ops Q (Oper.mk dst (.store t x y) ty pos after none::rest) a w:=by
 subst hc
 refine wpList_plain rfl fun K hK=>r_store hs hx hy hn h1 hg hl (hK _ _ (hk _ (Writes.row hg _ ?_)))
 have hz:cur.toList.length=cur.size:=Array.length_toList
 rw [List.size_toArray,List.length_append,List.length_append,List.length_take,List.length_drop,hn]
 omega
theorem l_callO {S0:Sig} {f:Nat} {s:Str} {q q':Pl} {ds:List D} {d:D} (hsem:SemO Tryz.prog f (.obj (pC s q)) ds d (some (.obj (pC s q')))) (hp:∀ (S:Sig) (w:World) (v:Value),Rep S w .res v d→Fz S.lim w v d) {b:Nat} (h:Hst S0 b L s q w) {xl:List Operand} {vs:List Value} {ts:Array TypeId} (hx:xl.map a.eval=.pointer (some ⟨b,0,none⟩)::vs) (hl:vs.length=ds.length)
  (hf:∀ (i:Nat) (d:D) (v:Value),ds[i]?=some d→vs[i]?=some v→Fz (sgL S0 b L).lim w v d) (hk:∀ v w',Hst S0 b L s q' w'→(Bel b w w'∧Trans (sgL S0 b L) w (sgL S0 b L) w')→Fz (sgL S0 b L).lim w' v d→wpList Tryz.prog ops Q rest (a.put dst v) w'):
  wpList Tryz.prog ops Q (Oper.mk dst (.call ⟨.value (.func f),xl.toArray,ts⟩) ty pos after none::rest) a w:=by
 haveI:Enters Tryz.prog f:=hsem.1
 refine l_enter hx ((callO hsem hp h vs hl hf).mono fun ee w2 he => ?_)
 obtain ⟨u,rfl,H2,B2,F2⟩:=he
 exact hk u w2 H2 B2 F2
end
theorem ends_at {S0:Sig} {b C:Nat} {s:Str} {q:Pl} {w:World} (H:Hst S0 b L s q w) (hC:C ∈ L) {v0 v1 v2 v3 v4 v5:Value} {e:TypeId} (hcur:w.heap[C]?=some (.cells #[v0,v1,v2,v3,v4,v5] e (0,0))) (hq:q.1≤s.length) (hs:s.length≤100000000):
  Calls Tryz.prog 35 #[.pointer (some ⟨b,0,none⟩),.pointer (some ⟨C,0,none⟩)] w fun e' w'=>e'=.returned (.tuple #[])∧Hst S0 b L s (endsS s q).2 w'∧w'.heap[C]?=some (.cells #[v0,v1,v2,v3,.int .i64 (endsS s q).1.1,.int .i64 (endsS s q).1.2] e (0,0))∧Bel2 S0 b L C w w':=by
 have hCb:=(H.lt C hC).2
 have h1:=num_fwd hq
 have h2:=want_fwd [32,116,111,32] h1.2
 have m1:=number_sem s q hq hs
 have m2:=want_sem s [32,116,111,32] (numS s q).2 h1.2 hs (by decide)
 have m3:=number_sem s (wantS s [32,116,111,32] (numS s q).2) h2.2 hs
 unfold endsS
 dsimp only
 generalize wantS s [32,116,111,32] (numS s q).2=q2 at *
 generalize numS s q2=r3 at *
 generalize numS s q=r1 at *
 go_enter Tryz.func35,Tryz.ntmps35
 repeat' (first|(with_reducible first|apply wp_block|apply wp_skip|apply wp_exit)|((with_reducible apply wp_seq_k);intro K hK)|simp only [Exit.then,Exit.inBlock,↓reduceIte,Nat.reduceEqDiff]|((with_reducible apply wp_cond_true);exact rfl)|((with_reducible apply wp_cond_false);exact rfl)|((fail_if_success with_reducible apply no_region);go_step))
 with_reducible apply (wp_region_lit (id:=0))
 refine l_move rfl ?_;(try simp only [SS,Nat.reduceAdd])
 refine l_move rfl ?_;(try simp only [SS,Nat.reduceAdd])
 refine l_callO m1 (rep_flat rfl) H (vs := []) rfl rfl fz0 fun u1 w1 H1 B1 F1 => ?_
 cases F1
 (try simp only [SS,Nat.reduceAdd])
 (apply l_nilCheck);exact rfl;(try simp only [SS,Nat.reduceAdd])
 (apply l_fieldAddr);exact rfl;(try simp only [SS,Nat.reduceAdd])
 have hc1:w1.heap[C]?=some (.cells #[v0,v1,v2,v3,v4,v5] e (0,0)):=(B1.1.block C (H.lt C hC).1 hCb).trans hcur
 refine l_storeW (n:=1) (o:=4) (by kernel_rfl) rfl (us := [.int .i64 r1.1]) rfl rfl (by simp [Value.oneCell']) hc1 (by simp) rfl fun w2 wr1 => ?_
 have H2:=H1.write hC wr1
 have X2:Bel2 S0 b L C w w2:=(Bel2.call H.blt B1).trans (Bel2.write hC hCb wr1)
 (try simp only [SS,Nat.reduceAdd])
 apply wpList_nil
 repeat' (first|(with_reducible first|apply wp_block|apply wp_skip|apply wp_exit)|((with_reducible apply wp_seq_k);intro K hK)|simp only [Exit.then,Exit.inBlock,↓reduceIte,Nat.reduceEqDiff]|((with_reducible apply wp_cond_true);exact rfl)|((with_reducible apply wp_cond_false);exact rfl)|((fail_if_success with_reducible apply no_region);go_step))
 with_reducible apply (wp_region_lit (id:=1))
 refine l_move rfl ?_;(try simp only [SS,Nat.reduceAdd])
 refine l_callO m2 rep_unit H2 (vs := [.string ⟨#[32,116,111,32]⟩]) rfl rfl fz1 fun u3 w3 H3 B3 F3 => ?_
 (try simp only [SS,Nat.reduceAdd])
 apply wpList_nil
 repeat' (first|(with_reducible first|apply wp_block|apply wp_skip|apply wp_exit)|((with_reducible apply wp_seq_k);intro K hK)|simp only [Exit.then,Exit.inBlock,↓reduceIte,Nat.reduceEqDiff]|((with_reducible apply wp_cond_true);exact rfl)|((with_reducible apply wp_cond_false);exact rfl)|((fail_if_success with_reducible apply no_region);go_step))
 with_reducible apply (wp_region_lit (id:=2))
 refine l_move rfl ?_;(try simp only [SS,Nat.reduceAdd])
 refine l_move rfl ?_;(try simp only [SS,Nat.reduceAdd])
 refine l_callO m3 (rep_flat rfl) H3 (vs := []) rfl rfl fz0 fun u4 w4 H4 B4 F4 => ?_
 cases F4
 (try simp only [SS,Nat.reduceAdd])
 (apply l_nilCheck);exact rfl;(try simp only [SS,Nat.reduceAdd])
 (apply l_fieldAddr);exact rfl;(try simp only [SS,Nat.reduceAdd])
 have hc3:w3.heap[C]?=some (.cells #[v0,v1,v2,v3,.int .i64 r1.1,v5] e (0,0)):=(B3.1.block C (H2.lt C hC).1 hCb).trans wr1.now
 have hc4:w4.heap[C]?=some (.cells #[v0,v1,v2,v3,.int .i64 r1.1,v5] e (0,0)):=(B4.1.block C (H3.lt C hC).1 hCb).trans hc3
 refine l_storeW (n:=1) (o:=5) (by kernel_rfl) rfl (us := [.int .i64 r3.1]) rfl rfl (by simp [Value.oneCell']) hc4 (by simp) rfl fun w5 wr2 => ?_
 have H5:=H4.write hC wr2
 (try simp only [SS,Nat.reduceAdd])
 apply wpList_nil
 repeat' (first|(with_reducible first|apply wp_block|apply wp_skip|apply wp_exit)|((with_reducible apply wp_seq_k);intro K hK)|simp only [Exit.then,Exit.inBlock,↓reduceIte,Nat.reduceEqDiff]|((with_reducible apply wp_cond_true);exact rfl)|((with_reducible apply wp_cond_false);exact rfl)|((fail_if_success with_reducible apply no_region);go_step))
 go_end0
 exact ⟨rfl,H5,wr2.now,((X2.trans (Bel2.call H2.blt B3)).trans (Bel2.call H3.blt B4)).trans (Bel2.write hC hCb wr2)⟩
theorem semO_hand {f:Nat} [en:Enters Tryz.prog f] {s:Str} {q q':Pl} {d:D} (hcalm:d.calm=true)
  (h:∀ (S:Sig) (b:Nat) (w:World),Hst S b [] s q w→Calls Tryz.prog f #[.pointer (some ⟨b,0,none⟩)] w fun e w'=>∃ v,e=.returned v∧∃ L,Hst S b L s q' w'∧(∀ k ∈ L,w.heap.size≤k)∧Bel b w w'∧Keeps 0 w.heap[b]? w'.heap[b]?∧Fz (sgL S b L).lim w' v d):
  SemO Tryz.prog f (.obj (pC s q)) [] d (some (.obj (pC s q'))):=by
 refine ⟨en,hcalm,fun d' hd=>by cases hd;rfl,fun S w v0 vs hw hr hl hf => ?_⟩
 cases vs with
 |cons x xs=>cases hl
 |nil=>
  have hr0:=hr
  obtain ⟨b,cur,e0,rfl,hb,hloc,hh,_,_,_⟩:=hr.obj_inv
  have hst:Hst S b [] s q w:=by
   refine ⟨?_,fun g φ hg => ?_,fun k (hk:k ∈ ([]:List Nat))=>absurd hk (by simp),fun k x hx=>hw k x hx⟩
   ·have h2:Hst S b [] s q w→True:=fun _=>trivial
    obtain ⟨b',cur',e',hv,_,_,hh',hsz,_,hc⟩:=hr0.obj_inv
    cases hv
    refine ⟨e',hh'.trans ?_⟩
    obtain ⟨l⟩:=cur'
    match l,hsz,hc with
    |[v0,v1,v2],_,hc=>
     have c0:=hc 0 _ v0 rfl rfl
     have c1:=hc 1 _ v1 rfl rfl
     have c2:=hc 2 _ v2 rfl rfl
     cases c0 with
     |fz c0=>
      cases c0
      cases c1 with
      |fz c1=>
       cases c1
       cases c2 with
       |fz c2=>
        cases c2
        rfl
   ·obtain ⟨h1,h2⟩:=hw.gl g φ hg
    refine ⟨⟨fun e => ?_,by simp,h1⟩,h2⟩
    rw [e,hb] at h1
    cases h1
  refine (h S b w hst).mono fun e w' ⟨v,he,L,hst',hnew,hB,hK,hfz⟩=>⟨v,S,he,?_,?_,?_,fun d' hd => ?_⟩
  ·exact ⟨fun k x hx=>Nat.lt_of_lt_of_le (hw k x hx) hB.size,fun g φ hg=>by
    obtain ⟨⟨h1,_,h3⟩,h4⟩:=hst'.gl g φ hg
    exact ⟨h3,h4⟩⟩
  ·refine ⟨hB.os,hB.tape,hB.output,hB.size,fun k hk hn=>⟨hB.block k hk (fun e=>by rw [e,hb] at hn;cases hn),hn⟩,fun k p l hk ho hp=>⟨hB.block k hk (fun e=>by rw [e,hb] at ho;cases ho;cases hp),ho⟩,fun k p l hk ho=>⟨?_,fun x hx=>by rw [ho] at hx;cases hx;exact Nat.le_refl _⟩,rfl⟩
   by_cases hkb:k=b
   ·subst hkb
    rw [hb] at ho
    cases ho
    exact hK
   ·exact Keeps.of_eq (hB.block k hk hkb)
  ·refine .fz (hfz.monoL fun k x hx => ?_)
   unfold Sig.lim at hx ⊢
   by_cases hkb:k=b
   ·subst hkb
    rw [hb] at hx
    rw [sgL_b]
    exact hx
   ·have hkL:k ∉ L:=fun hm=>by
     have:=hnew k hm
     cases ho:S.own k with
     |none=>rw [ho] at hx;cases hx
     |some y=>have:=hw k y ho;omega
    rw [sgL_out hkL hkb]
    cases ho:S.own k with
    |none=>rw [ho] at hx;cases hx
    |some y=>rw [ho] at hx;exact hx
  ·cases hd
   obtain ⟨e1,he1⟩:=hst'.rd
   refine Rep.obj (path := []) hb rfl hloc he1 rfl (fun i v hv => ?_) fun i d v hd hv => ?_
   ·match i,hv with
    |0,hv=>cases hv;rfl
    |1,hv=>cases hv;rfl
    |2,hv=>cases hv;rfl
   ·match i,hd,hv with
    |0,hd,hv=>cases hd;cases hv;exact .fz (.str _)
    |1,hd,hv=>cases hd;cases hv;exact .fz (.int _ _)
    |2,hd,hv=>cases hd;cases hv;exact .fz (.bool _)
end Go.Proofs.YtindehjiaknokaaGreatDoor
namespace Go.Proofs.YtindehjiaknokaaGreatDoor
set_option linter.unusedSimpArgs false
set_option linter.unusedVariables false
open Go.RowKit
set_option maxRecDepth 100000
set_option maxHeartbeats 8000000
variable {w w' w0:World}
theorem results_row {P:Program} {fn:Func} {tmps:Array Value} {t ty n g:Nat} {cs:List Value} [i:TRow P ty n] (h:fn.results = #[.cell t ty]) (ht:tmps.getD t undef=.pointer (some ⟨g,0,none⟩)) (hc:RowAt w g 0 cs) (hn:cs.length=n):(results fn tmps).run P w=.ok (.agg cs.toArray) w:=by
 obtain ⟨d,h1,h2⟩:=i.h
 have hl:=run_loadVar_at (P:=P) w g 0 ty cs d hc h1 (by cases d<;>simp_all [aggDesc]) (by rw [i.sz,hn])
 rw [Array.getD_eq_getD_getElem?] at ht
 simp [results,h,ht,asAddr,hl]
structure Far (b:Nat) (w w':World):Prop where
 bel:Bel b w w'
 keep:Keeps 0 w.heap[b]? w'.heap[b]?
theorem Far.ext {b:Nat} (h:Far b w0 w) (hb:b < w.heap.size) (hx:Ext w w'):Far b w0 w':=⟨h.bel.trans (Bel.of hx),h.keep.trans (Keeps.of_eq (h:=hx.block hb)) (Nat.le_refl 0)⟩
theorem Far.call {S0:Sig} {b:Nat} {L:List Nat} (h:Far b w0 w) (hb:b < w.heap.size) (hx:Bel b w w'∧Trans (sgL S0 b L) w (sgL S0 b L) w'):Far b w0 w':=⟨h.bel.trans hx.1,h.keep.trans (hx.2.held b _ _ hb (sgL_b S0 b L)).1 (Nat.le_refl 0)⟩
theorem Far.write {b g:Nat} (h:Far b w0 w) (hg:w0.heap.size≤g) (hb:g ≠ b) {cur cur':Array Value} {e:TypeId} (hw:Writes w w' g cur cur' e):Far b w0 w':=
 ⟨⟨hw.os.trans h.bel.os,hw.tape.trans h.bel.tape,hw.output.trans h.bel.output,by rw [hw.size];exact h.bel.size,fun k hk hn=>(hw.other k (by omega)).trans (h.bel.block k hk hn)⟩,h.keep.trans (Keeps.of_eq (h:=hw.other b (Ne.symm hb))) (Nat.le_refl 0)⟩
theorem Far.bel2 {S0:Sig} {b g:Nat} {L:List Nat} (h:Far b w0 w) (hg:w0.heap.size≤g) (hx:Bel2 S0 b L g w w'):Far b w0 w':=
 ⟨⟨hx.os.trans h.bel.os,hx.tape.trans h.bel.tape,hx.output.trans h.bel.output,Nat.le_trans h.bel.size hx.size,fun k hk hn=>(hx.block k (Nat.lt_of_lt_of_le hk h.bel.size) hn (by omega)).trans (h.bel.block k hk hn)⟩,h.keep.trans hx.keep (Nat.le_refl 0)⟩
theorem condP_4 (s:Str) (i:Nat) (e0:startsAt s wAll i=false) (e1:startsAt s wAny i=false) (e2:startsAt s wNot i=false) (e3:startsAt s wThere i=false) (e4:startsAt s wCount i=true) (hi:i≤s.length) (hs:s.length≤100000000):
  SemO Tryz.prog 18 (.obj (pC s (i,false))) [] (.agg (countS s (i+6,false)).1.row) (some (.obj (pC s (countS s (i+6,false)).2))):=by
 have hle:i+6≤s.length:=starts_le e4 hi
 have m0:SemO Tryz.prog 30 (.obj (pC s (i,false))) [.str wAll] (.bool false) (some (.obj (pC s (i,false)))):=isF e0 hi hs (by decide)
 have m1:SemO Tryz.prog 30 (.obj (pC s (i,false))) [.str wAny] (.bool false) (some (.obj (pC s (i,false)))):=isF e1 hi hs (by decide)
 have m2:SemO Tryz.prog 30 (.obj (pC s (i,false))) [.str wNot] (.bool false) (some (.obj (pC s (i,false)))):=isF e2 hi hs (by decide)
 have m3:SemO Tryz.prog 30 (.obj (pC s (i,false))) [.str wThere] (.bool false) (some (.obj (pC s (i,false)))):=isF e3 hi hs (by decide)
 have m4:SemO Tryz.prog 30 (.obj (pC s (i,false))) [.str wCount] (.bool true) (some (.obj (pC s (i+6,false)))):=isT e4 hi hs (by decide)
 have c1:=path_sem s (i+6,false) hle hs
 have h1:=path_fwd (s:=s) (q:=(i+6,false)) hle
 have c2:=want_sem s (32::wFrom) (pathS s (i+6,false)).2 h1.2 hs (by decide)
 have h2:=want_fwd (32::wFrom) h1.2
 unfold countS
 dsimp only
 rw [Cond.row_mk]
 generalize wantS s (32::wFrom) (pathS s (i+6,false)).2=q2 at *
 generalize pathS s (i+6,false)=r at *
 have hq2:q2.1≤s.length:=h2.2
 refine semO_hand rfl fun S b w hst => ?_
 go_enter Tryz.func18,Tryz.ntmps18
 repeat' (first|(with_reducible first|apply wp_block|apply wp_skip|apply wp_exit)|((with_reducible apply wp_seq_k);intro K hK)|simp only [Exit.then,Exit.inBlock,↓reduceIte,Nat.reduceEqDiff]|((with_reducible apply wp_cond_true);exact rfl)|((with_reducible apply wp_cond_false);exact rfl)|((fail_if_success with_reducible apply no_region);go_step))
 with_reducible apply (wp_region_lit (id:=0))
 refine l_alloc fun g2 w1 hb1 hx1 hg1 => ?_
 (try simp only [SS,Nat.reduceAdd])
 apply wpList_nil
 have H1:Hst S b [g2] s (i,false) w1:=hst.own hx1 (by omega) hb1.lt
 repeat' (first|(with_reducible first|apply wp_block|apply wp_skip|apply wp_exit)|((with_reducible apply wp_seq_k);intro K hK)|simp only [Exit.then,Exit.inBlock,↓reduceIte,Nat.reduceEqDiff]|((with_reducible apply wp_cond_true);exact rfl)|((with_reducible apply wp_cond_false);exact rfl)|((fail_if_success with_reducible apply no_region);go_step))
 obtain ⟨er,hrd⟩:=H1.rd
 with_reducible apply (wp_region_lit (id:=1))
 refine l_move rfl ?_;(try simp only [SS,Nat.reduceAdd])
 (apply l_nilCheck);exact rfl;(try simp only [SS,Nat.reduceAdd])
 (apply l_fieldAddr);exact rfl;(try simp only [SS,Nat.reduceAdd])
 (apply l_load1);exact rfl;exact (cell_of_row w1 b 2 _ _ _ hrd).trans rfl;(try simp only [SS,Nat.reduceAdd])
 refine l_assign rfl ?_;(try simp only [SS,Nat.reduceAdd])
 apply wpList_nil
 repeat' (first|(with_reducible first|apply wp_block|apply wp_skip|apply wp_exit)|((with_reducible apply wp_seq_k);intro K hK)|simp only [Exit.then,Exit.inBlock,↓reduceIte,Nat.reduceEqDiff]|((with_reducible apply wp_cond_true);exact rfl)|((with_reducible apply wp_cond_false);exact rfl)|((fail_if_success with_reducible apply no_region);go_step))
 with_reducible apply (wp_region_lit (id:=3))
 refine l_move rfl ?_;(try simp only [SS,Nat.reduceAdd])
 refine l_callO m0 (rep_flat rfl) H1 (vs := [.string ⟨wAll.toArray⟩]) rfl rfl fz1 fun u1 w2 H2 B2 F1 => ?_
 cases F1
 (try simp only [SS,Nat.reduceAdd])
 refine l_assign rfl ?_;(try simp only [SS,Nat.reduceAdd])
 apply wpList_nil
 repeat' (first|(with_reducible first|apply wp_block|apply wp_skip|apply wp_exit)|((with_reducible apply wp_seq_k);intro K hK)|simp only [Exit.then,Exit.inBlock,↓reduceIte,Nat.reduceEqDiff]|((with_reducible apply wp_cond_true);exact rfl)|((with_reducible apply wp_cond_false);exact rfl)|((fail_if_success with_reducible apply no_region);go_step))
 with_reducible apply (wp_region_lit (id:=5))
 refine l_move rfl ?_;(try simp only [SS,Nat.reduceAdd])
 refine l_callO m1 (rep_flat rfl) H2 (vs := [.string ⟨wAny.toArray⟩]) rfl rfl fz1 fun u2 w3 H3 B3 F2 => ?_
 cases F2
 (try simp only [SS,Nat.reduceAdd])
 refine l_assign rfl ?_;(try simp only [SS,Nat.reduceAdd])
 apply wpList_nil
 repeat' (first|(with_reducible first|apply wp_block|apply wp_skip|apply wp_exit)|((with_reducible apply wp_seq_k);intro K hK)|simp only [Exit.then,Exit.inBlock,↓reduceIte,Nat.reduceEqDiff]|((with_reducible apply wp_cond_true);exact rfl)|((with_reducible apply wp_cond_false);exact rfl)|((fail_if_success with_reducible apply no_region);go_step))
 with_reducible apply (wp_region_lit (id:=7))
 refine l_move rfl ?_;(try simp only [SS,Nat.reduceAdd])
 refine l_callO m2 (rep_flat rfl) H3 (vs := [.string ⟨wNot.toArray⟩]) rfl rfl fz1 fun u3 w4 H4 B4 F3 => ?_
 cases F3
 (try simp only [SS,Nat.reduceAdd])
 refine l_assign rfl ?_;(try simp only [SS,Nat.reduceAdd])
 apply wpList_nil
 repeat' (first|(with_reducible first|apply wp_block|apply wp_skip|apply wp_exit)|((with_reducible apply wp_seq_k);intro K hK)|simp only [Exit.then,Exit.inBlock,↓reduceIte,Nat.reduceEqDiff]|((with_reducible apply wp_cond_true);exact rfl)|((with_reducible apply wp_cond_false);exact rfl)|((fail_if_success with_reducible apply no_region);go_step))
 with_reducible apply (wp_region_lit (id:=9))
 refine l_move rfl ?_;(try simp only [SS,Nat.reduceAdd])
 refine l_callO m3 (rep_flat rfl) H4 (vs := [.string ⟨wThere.toArray⟩]) rfl rfl fz1 fun u4 w5 H5 B5 F4 => ?_
 cases F4
 (try simp only [SS,Nat.reduceAdd])
 refine l_assign rfl ?_;(try simp only [SS,Nat.reduceAdd])
 apply wpList_nil
 repeat' (first|(with_reducible first|apply wp_block|apply wp_skip|apply wp_exit)|((with_reducible apply wp_seq_k);intro K hK)|simp only [Exit.then,Exit.inBlock,↓reduceIte,Nat.reduceEqDiff]|((with_reducible apply wp_cond_true);exact rfl)|((with_reducible apply wp_cond_false);exact rfl)|((fail_if_success with_reducible apply no_region);go_step))
 with_reducible apply (wp_region_lit (id:=11))
 refine l_move rfl ?_;(try simp only [SS,Nat.reduceAdd])
 refine l_callO m4 (rep_flat rfl) H5 (vs := [.string ⟨wCount.toArray⟩]) rfl rfl fz1 fun u5 w6 H6 B6 F5 => ?_
 cases F5
 (try simp only [SS,Nat.reduceAdd])
 refine l_assign rfl ?_;(try simp only [SS,Nat.reduceAdd])
 apply wpList_nil
 repeat' (first|(with_reducible first|apply wp_block|apply wp_skip|apply wp_exit)|((with_reducible apply wp_seq_k);intro K hK)|simp only [Exit.then,Exit.inBlock,↓reduceIte,Nat.reduceEqDiff]|((with_reducible apply wp_cond_true);exact rfl)|((with_reducible apply wp_cond_false);exact rfl)|((fail_if_success with_reducible apply no_region);go_step))
 with_reducible apply (wp_region_lit (id:=12))
 refine l_move rfl ?_;(try simp only [SS,Nat.reduceAdd])
 refine l_callO c1 (rep_flat rfl) H6 (vs := []) rfl rfl fz0 fun u7 w7 H7 B7 F7 => ?_
 cases F7
 (try simp only [SS,Nat.reduceAdd])
 refine l_build (vals := [(0,.int .i64 6),(2,.string ⟨r.1.toArray⟩)]) (cs := [.int .i64 6,.slice none 0 0,.string ⟨r.1.toArray⟩,.slice none 0 0,.int .i64 0,.int .i64 0]) rfl rfl ?_
 (try simp only [SS,Nat.reduceAdd])
 refine l_alloc fun g3 w8 hb8 hx8 hg8 => ?_
 (try simp only [SS,Nat.reduceAdd])
 have H8:Hst S b (g3 :: [g2]) s r.2 w8:=H7.own hx8 (by omega) hb8.lt
 have hg3:g3 ∈ g3 :: [g2]:=by simp
 have hg2:g2 ∈ g3 :: [g2]:=by simp
 refine l_storeW (n:=6) (o:=0) (by kernel_rfl) rfl (us := [.int .i64 6,.slice none 0 0,.string ⟨r.1.toArray⟩,.slice none 0 0,.int .i64 0,.int .i64 0]) rfl rfl (by simp [Value.oneCell']) hb8 (by decide) rfl fun w9 wr8 => ?_
 have H9:=H8.write hg3 wr8
 (try simp only [SS,Nat.reduceAdd])
 apply wpList_nil
 repeat' (first|(with_reducible first|apply wp_block|apply wp_skip|apply wp_exit)|((with_reducible apply wp_seq_k);intro K hK)|simp only [Exit.then,Exit.inBlock,↓reduceIte,Nat.reduceEqDiff]|((with_reducible apply wp_cond_true);exact rfl)|((with_reducible apply wp_cond_false);exact rfl)|((fail_if_success with_reducible apply no_region);go_step))
 with_reducible apply (wp_region_lit (id:=13))
 refine l_move rfl ?_;(try simp only [SS,Nat.reduceAdd])
 refine l_callO c2 rep_unit H9 (vs := [.string ⟨(32::wFrom).toArray⟩]) rfl rfl fz1 fun u10 w10 H10 B10 F10 => ?_
 (try simp only [SS,Nat.reduceAdd])
 apply wpList_nil
 repeat' (first|(with_reducible first|apply wp_block|apply wp_skip|apply wp_exit)|((with_reducible apply wp_seq_k);intro K hK)|simp only [Exit.then,Exit.inBlock,↓reduceIte,Nat.reduceEqDiff]|((with_reducible apply wp_cond_true);exact rfl)|((with_reducible apply wp_cond_false);exact rfl)|((fail_if_success with_reducible apply no_region);go_step))
 have hc10:w10.heap[g3]?=some (.cells #[.int .i64 6,.slice none 0 0,.string ⟨r.1.toArray⟩,.slice none 0 0,.int .i64 0,.int .i64 0] 25 (0,0)):=(B10.1.block g3 (H9.lt g3 hg3).1 (H9.lt g3 hg3).2).trans wr8.now
 with_reducible apply (wp_region_lit (id:=14))
 refine l_move rfl ?_;(try simp only [SS,Nat.reduceAdd])
 refine l_enter (al := [.pointer (some ⟨b,0,none⟩),.pointer (some ⟨g3,0,none⟩)]) rfl ((ends_at H10 hg3 hc10 hq2 hs).mono fun ee w11 he => ?_)
 obtain ⟨rfl,H11,hc11,B11⟩:=he
 generalize endsS s q2=ends at *
 (try simp only [SS,Nat.reduceAdd])
 apply wpList_nil
 repeat' (first|(with_reducible first|apply wp_block|apply wp_skip|apply wp_exit)|((with_reducible apply wp_seq_k);intro K hK)|simp only [Exit.then,Exit.inBlock,↓reduceIte,Nat.reduceEqDiff]|((with_reducible apply wp_cond_true);exact rfl)|((with_reducible apply wp_cond_false);exact rfl)|((fail_if_success with_reducible apply no_region);go_step))
 have hrow:RowAt w11 g3 0 [.int .i64 6,.slice none 0 0,.string ⟨r.1.toArray⟩,.slice none 0 0,.int .i64 ends.1.1,.int .i64 ends.1.2]:=fun j u hu=>(cell_of_row w11 g3 (0+j) _ _ _ hc11).trans (by simpa using hu)
 with_reducible apply (wp_region_lit (id:=15))
 (apply l_loadN);exact rfl;exact hrow;exact rfl;(try simp only [SS,Nat.reduceAdd])
 have n2:g2 ≠ b:=(H1.lt g2 (by simp)).2
 have l2:∀ {q:Pl} {w':World} {L:List Nat},Hst S b L s q w'→g2 ∈ L→g2 < w'.heap.size:=fun h hm=>(h.lt g2 hm).1
 have k2:=(B2.1.block g2 (l2 H1 (by simp)) n2).trans hb1
 have k3:=(B3.1.block g2 (l2 H2 (by simp)) n2).trans k2
 have k4:=(B4.1.block g2 (l2 H3 (by simp)) n2).trans k3
 have k5:=(B5.1.block g2 (l2 H4 (by simp)) n2).trans k4
 have k6:=(B6.1.block g2 (l2 H5 (by simp)) n2).trans k5
 have k7:=(B7.1.block g2 (l2 H6 (by simp)) n2).trans k6
 have k8:=(hx8.block (l2 H7 (by simp))).trans k7
 have n32:g2 ≠ g3:=by have:=l2 H7 (by simp);omega
 have k9:=(wr8.other g2 n32).trans k8
 have k10:=(B10.1.block g2 (l2 H9 hg2) n2).trans k9
 have k11:=(B11.block g2 (l2 H10 hg2) n2 n32).trans k10
 refine l_storeW (n:=6) (o:=0) (by kernel_rfl) rfl (us := [.int .i64 6,.slice none 0 0,.string ⟨r.1.toArray⟩,.slice none 0 0,.int .i64 ends.1.1,.int .i64 ends.1.2]) rfl rfl (by simp [Value.oneCell']) k11 (by decide) rfl fun w12 wr11 => ?_
 have H12:=H11.write hg2 wr11
 (try simp only [SS,Nat.reduceAdd])
 apply wpList_nil
 repeat' (first|(with_reducible first|apply wp_block|apply wp_skip|apply wp_exit)|((with_reducible apply wp_seq_k);intro K hK)|simp only [Exit.then,Exit.inBlock,↓reduceIte,Nat.reduceEqDiff]|((with_reducible apply wp_cond_true);exact rfl)|((with_reducible apply wp_cond_false);exact rfl)|((fail_if_success with_reducible apply no_region);go_step))
 have X1:Far b w w1:=(Far.mk (Bel.of (Ext.refl w)) (Keeps.refl 0 _)).ext hst.blt hx1
 have X6:=((((X1.call H1.blt B2).call H2.blt B3).call H3.blt B4).call H4.blt B5).call H5.blt B6
 have gg2:w.heap.size≤g2:=by omega
 have gg3:w.heap.size≤g3:=by have:=X6.bel.size;have:=B7.1.size;omega
 have X9:=((X6.call H6.blt B7).ext H7.blt hx8).write gg3 (H8.lt g3 hg3).2 wr8
 have X11:=(X9.call H9.blt B10).bel2 gg3 B11
 have X12:=X11.write gg2 n2 wr11
 have hrow2:RowAt w12 g2 0 [.int .i64 6,.slice none 0 0,.string ⟨r.1.toArray⟩,.slice none 0 0,.int .i64 ends.1.1,.int .i64 ends.1.2]:=fun j u hu=>(cell_of_row w12 g2 (0+j) _ _ _ wr11.now).trans (by simpa using hu)
 refine bodyPost_ret (results_row (t:=2) rfl rfl hrow2 rfl) rfl ?_
 refine ⟨_,rfl,g3 :: [g2],H12,fun k hk => ?_,X12.bel,X12.keep,?_⟩
 ·rcases List.mem_cons.1 hk with rfl|hk
  ·exact gg3
  ·rw [List.mem_singleton.1 hk]
   exact gg2
 ·refine Fz.agg [.int .i64 6,.slice none 0 0,.string ⟨r.1.toArray⟩,.slice none 0 0,.int .i64 ends.1.1,.int .i64 ends.1.2] rfl (fun u hu=>by simp at hu;rcases hu with rfl|rfl|rfl|rfl|rfl|rfl<;>rfl) fun j d v hd hv => ?_
  match j,hd,hv with
  |0,hd,hv=>cases hd;cases hv;exact .int _ _
  |1,hd,hv=>cases hd;cases hv;exact .slNil _ _
  |2,hd,hv=>cases hd;cases hv;exact .str _
  |3,hd,hv=>cases hd;cases hv;exact .slNil _ _
  |4,hd,hv=>cases hd;cases hv;exact .int _ _
  |5,hd,hv=>cases hd;cases hv;exact .int _ _
end Go.Proofs.YtindehjiaknokaaGreatDoor
namespace Go.Proofs.YtindehjiaknokaaGreatDoor
set_option linter.unusedSimpArgs false
set_option linter.unusedVariables false
open Go.RowKit
set_option maxRecDepth 100000
section
variable {P:Program} {Q:Exit→Act→World→Prop} {a:Act} {w:World} {dst:Option Tmp} {ty:TypeId} {pos:String} {after:Array Edge} {ops:Array Oper} {rest:List Oper}
end
section
variable {P:Program} {ops:Array Oper} {Q:Exit→Act→World→Prop} {W:Ways} {w0:World} {i:Nat} {rest:List Oper} {ss:List Spec} {fs:List (World→Prop)} {a:Act}
theorem w_gen {o:Oper} {sp:Spec} (hg:o.guard=none) (hic:i ≠ W.c) (hst:∀ u w w',W.R w w'→sp.fact u w→sp.fact u w') (h:∀ w,W.R w0 w→∀ K:Act→World→Prop,(∀ u w',sp.fact u w'→Ext w w'→K (a.put o.dst (sp.shape u)) w')→o.wp P a w K (NoPanic Q))
  (hr:∀ u,ParW P ops Q W w0 (i+1) rest ss (fs ++ [sp.fact u]) (a.put o.dst (sp.shape u))):ParW P ops Q W w0 i (o::rest) (sp::ss) fs a:=by
 refine ⟨fun w hw _ => ?_,fun _=>hst,hr⟩
 unfold Ways.sees at hw
 rw [if_neg hic] at hw
 unfold StepG
 rw [if_pos (by unfold Region.wanted;rw [hg])]
 intro K hK
 refine .inl (h w hw K fun u w' hu hx=>hK u w' hu ?_)
 unfold Ways.does
 rw [if_neg hic]
 exact hx
theorem w_call {o:Oper} {sp:Spec} (hg:o.guard=none) (hic:i=W.c) (hl:W.late i=true) (h:∀ w,Ext w0 w→∀ K:Act→World→Prop,(∀ u w',sp.fact u w'→W.R w w'→K (a.put o.dst (sp.shape u)) w')→o.wp P a w K (NoPanic Q))
  (hr:∀ u,ParW P ops Q W w0 (i+1) rest ss (fs ++ [sp.fact u]) (a.put o.dst (sp.shape u))):ParW P ops Q W w0 i (o::rest) (sp::ss) fs a:=by
 refine ⟨fun w hw _ => ?_,fun h=>(by rw [hl] at h;cases h),hr⟩
 unfold Ways.sees at hw
 rw [if_pos hic] at hw
 unfold StepG
 rw [if_pos (by unfold Region.wanted;rw [hg])]
 intro K hK
 refine .inl (h w hw K fun u w' hu hR=>hK u w' hu ?_)
 unfold Ways.does
 rw [if_pos hic]
 exact hR
end
def waysR (b c:Nat):Ways:=⟨Bel b,c,fun i=>decide (i=c),fun _ _ h=>Bel.of h,fun _ _ _ h k=>h.trans k⟩
set_option maxHeartbeats 8000000
variable {L:List Nat} {w':World}
def zeroV:List Value := [.int .i64 0,.slice none 0 0,.string ⟨#[]⟩,.slice none 0 0,.int .i64 0,.int .i64 0]
structure JV (S0:Sig) (w0:World) (b C boxR g2:Nat) (s:Str) (cs:List Value) (acc:List Str) (q:Pl) (w:World) (L:List Nat) (v:Value):Prop where
 st:Hst S0 b L s q w
 inC:C ∈ L
 inR:boxR ∈ L
 ne:C ≠ boxR
 inG:g2 ∈ L∧g2 ≠ C
 res:Blk w g2 25 zeroV.toArray
 new:∀ k ∈ L,w0.heap.size≤k
 box:Blk w boxR 44 #[.pointer (some ⟨b,0,none⟩)]
 var:Blk w C 25 (cs.set 3 v).toArray
 own:Own w w0.heap.size 9 1 v (acc.map fun u => [.string ⟨u.toArray⟩])
 blk:∀ g,v.ownBlock=some g→g ∈ L∧g ≠ C∧g ≠ boxR∧g ≠ g2
 far:Far b w0 w
 low:b < w0.heap.size∧∀ (k:Nat) (φ:Obj→Prop),GB k=some φ→k < w0.heap.size
theorem Hst.grown {S0:Sig} {b:Nat} {s:Str} {q:Pl} {w:World} {row:Option Nat} (h:Hst S0 b L s q w) (hg:w.grownBy w' row) (hr:∀ g,row=some g→g ∈ L):Hst S0 b L s q w':=by
 obtain ⟨_,_,_,hsz,hb⟩:=hg
 refine ⟨?_,fun g φ hg => ?_,fun k hk=>⟨Nat.lt_of_lt_of_le (h.lt k hk).1 hsz,(h.lt k hk).2⟩,fun k x hx=>Nat.lt_of_lt_of_le (h.base k x hx) hsz⟩
 ·obtain ⟨e,he⟩:=h.rd
  exact ⟨e,(hb b h.blt (fun e=>(h.lt b (hr b e.symm)).2 rfl)).trans he⟩
 ·obtain ⟨h1,o,h2,h3⟩:=h.gl g φ hg
  exact ⟨h1,o,(hb g (Array.getElem?_eq_some_iff.1 h2).1 (fun e=>h1.2.1 (hr g e.symm))).trans h2,h3⟩
theorem Hst.add {S0:Sig} {b g:Nat} {L0:List Nat} {s:Str} {q q0:Pl} {w:World} (h:Hst S0 b L s q w') (h0:Hst S0 b L0 s q0 w) (hg:w.heap.size≤g) (hg2:g < w'.heap.size):Hst S0 b (g::L) s q w':=by
 refine ⟨h.rd,fun k φ hk => ?_,fun k hk => ?_,h.base⟩
 ·obtain ⟨⟨h1,h4,h5⟩,h6⟩:=h.gl k φ hk
  obtain ⟨_,o,h2,_⟩:=h0.gl k φ hk
  have hlt:=(Array.getElem?_eq_some_iff.1 h2).1
  refine ⟨⟨h1,fun hm => ?_,h5⟩,h6⟩
  rcases List.mem_cons.1 hm with e|hm
  ·omega
  ·exact h4 hm
 ·rcases List.mem_cons.1 hk with e|hk
  ·subst e
   have:=h0.blt
   exact ⟨hg2,by omega⟩
  ·exact h.lt k hk
theorem Hst.add2 {S0:Sig} {b g:Nat} {s:Str} {q:Pl} (h:Hst S0 b L s q w') (hgl:∀ (k:Nat) (φ:Obj→Prop),GB k=some φ→k ≠ g) (hb:g ≠ b) (hg2:g < w'.heap.size):Hst S0 b (g::L) s q w':=by
 refine ⟨h.rd,fun k φ hk => ?_,fun k hk => ?_,h.base⟩
 ·obtain ⟨⟨h1,h4,h5⟩,h6⟩:=h.gl k φ hk
  refine ⟨⟨h1,fun hm => ?_,h5⟩,h6⟩
  rcases List.mem_cons.1 hm with e|hm
  ·exact hgl k φ hk e
  ·exact h4 hm
 ·rcases List.mem_cons.1 hk with e|hk
  ·subst e
   exact ⟨hg2,hb⟩
  ·exact h.lt k hk
theorem Own.bel {b:Nat} {w:World} {B:Nat} {e:TypeId} {sz:Nat} {v:Value} {rows:List (List Value)} (h:Own w B e sz v rows) (hB:Bel b w w') (hv:v.ownBlock ≠ some b):Own w' B e sz v rows:=
 ⟨h.own.kept (row:=some b) ⟨hB.os,hB.tape,hB.output,hB.size,fun k hk hn=>hB.block k hk (fun e=>hn (by rw [e]))⟩ (by
  cases hx:v.ownBlock with
  |none=>simp
  | some g=>rw [hx] at hv;simpa [eq_comm] using hv),h.each⟩
theorem val_at {S0:Sig} {w0:World} {b C boxR g2:Nat} {s:Str} {cs:List Value} {acc:List Str} {q:Pl} {w:World} {v:Value} (J:JV S0 w0 b C boxR g2 s cs acc q w L v) (hcs:cs.length=6) (hq:q.1≤s.length) (hs:s.length≤100000000) (hlen:acc.length≤200000000):
  Calls Tryz.prog 69 #[.pointer (some ⟨C,0,none⟩),.pointer (some ⟨boxR,0,none⟩)] w fun e w'=>e=.returned (.tuple #[])∧∃ L' v',JV S0 w0 b C boxR g2 s cs (acc ++ [(quoS s q).1]) (quoS s q).2 w' L' v':=by
 have hCb:=(J.st.lt C J.inC).2
 have hRb:=(J.st.lt boxR J.inR).2
 have hsem:=quotedP_sem s q hq hs
 generalize quoS s q=r at *
 obtain ⟨c0,c1,c2,c3,c4,c5,rfl⟩:∃ c0 c1 c2 c3 c4 c5,cs = [c0,c1,c2,c3,c4,c5]:=by
  match cs,hcs with
  |[c0,c1,c2,c3,c4,c5],_=>exact ⟨_,_,_,_,_,_,rfl⟩
 have h3:([c0,c1,c2,c3,c4,c5].set 3 v).toArray[3]?=some v:=rfl
 go_enter Tryz.func69,Tryz.ntmps69
 repeat' (first|(with_reducible first|apply wp_block|apply wp_skip|apply wp_exit)|((with_reducible apply wp_seq_k);intro K hK)|simp only [Exit.then,Exit.inBlock,↓reduceIte,Nat.reduceEqDiff]|((with_reducible apply wp_cond_true);exact rfl)|((with_reducible apply wp_cond_false);exact rfl)|((fail_if_success with_reducible apply no_region);go_step))
 (with_reducible apply (wp_region_ways (id:=0) 5 (waysB b 3)));kernel_rfl;kernel_rfl;kernel_rfl;(focus exact of_decide_eq_true rfl)
 (focus (intro i hi hic;have h11:i=4:=(by have hi':(decide (i=3) || decide (i=3+1))=true:=hi;have hic':i ≠ 3:=hic;simp at hi';omega);subst h11;change reachB _ _ 4 3=true;kernel_rfl))
 exact rfl
 simp only [List.take_succ_cons,List.take_zero]
 (with_reducible apply (w_val (v:=.pointer (some ⟨C,3,none⟩)) rfl (show (0:Nat) ≠ 3 by decide)));(focus (intro w1 hw1 K1 hK1;exact r_fieldAddr rfl hK1));(try simp only [SS,Nat.reduceAdd])
 (with_reducible apply (w_val (v:=v) rfl (show (1:Nat) ≠ 3 by decide)));(focus (intro w1 hw1 K1 hK1;exact r_load1 rfl (Bel.cell hw1 hCb ((J.var.cell 3).trans h3)) hK1));(try simp only [SS,Nat.reduceAdd])
 (with_reducible apply (w_val (v:=.pointer (some ⟨b,0,none⟩)) rfl (show (2:Nat) ≠ 3 by decide)));(focus (intro w1 hw1 K1 hK1;exact r_load1 rfl (Bel.cell hw1 hRb ((J.box.cell 0).trans rfl)) hK1));(try simp only [SS,Nat.reduceAdd])
 (with_reducible apply (w_do (v:=.string ⟨r.1.toArray⟩) (R:=fun w'=>Hst S0 b L s r.2 w'∧Far b w w') (W:=waysB b 3) (i:=3) (fun x y hx h=>⟨h.1.ext hx,h.2.ext h.1.blt hx⟩) rfl rfl rfl))
 ·intro w1 hx1 K1 hK1
  have H1:=J.st.ext hx1
  refine r_enter (al := [.pointer (some ⟨b,0,none⟩)]) rfl ((callO hsem (rep_flat rfl) H1 [] rfl (fun j d v hd _=>by cases hd)).mono fun ee w2 he => ?_)
  obtain ⟨u,rfl,H2,B2,F2⟩:=he
  cases F2
  refine hK1 w2 ⟨H2,?_⟩ B2.1
  exact ((Far.mk (Bel.of (Ext.refl w)) (Keeps.refl 0 _)).ext J.st.blt hx1).call H1.blt B2
 ·(try simp only [SS,Nat.reduceAdd])
  have hst4:∀ (u:Unk) (x y:World),(waysB b 3).R x y→(Blk x u.1 9 #[.string ⟨r.1.toArray⟩]∧w.heap.size≤u.1∧u.1 ≠ b)→(Blk y u.1 9 #[.string ⟨r.1.toArray⟩]∧w.heap.size≤u.1∧u.1 ≠ b):=fun u x y hR h=>⟨((show Bel b x y from hR).block u.1 h.1.lt h.2.2).trans h.1,h.2⟩
  (with_reducible apply (w_gen (sp:=⟨fun u=>.slice (some ⟨u.1,0,none⟩) 1 1,fun u x=>Blk x u.1 9 #[.string ⟨r.1.toArray⟩]∧w.heap.size≤u.1∧u.1 ≠ b,fun u x y hx h=>⟨h.1.ext hx,h.2⟩⟩) rfl (show (4:Nat) ≠ 3 by decide) hst4))
  ·intro w1 hw1 K1 hK1
   refine r_buildSlice (xs := [.tmp 5]) rfl rfl rfl (rows := [[.string ⟨r.1.toArray⟩]]) rfl rfl rfl fun g w2 hb2 hx2 hg2=>hK1 (g,0,undef) w2 ⟨hb2,?_,?_⟩ hx2
   ·have:=hw1.size
    show w.heap.size≤g
    omega
   ·have:=hw1.size
    have:=J.st.blt
    show g ≠ b
    omega
  ·rintro ⟨g,u2,u3⟩
   (try simp only [SS,Nat.reduceAdd])
   refine w_nil fun w9 hR9 hf9 => ?_
   obtain ⟨H9,X9⟩:=hf9 (fun w'=>Hst S0 b L s r.2 w'∧Far b w w') (by simp)
   obtain ⟨hb9,hg9,hgb9⟩:=hf9 (fun x=>Blk x g 9 #[.string ⟨r.1.toArray⟩]∧w.heap.size≤g∧g ≠ b) (by simp)
   have hvb:v.ownBlock ≠ some b:=fun e=>(J.st.lt b (J.blk b e).1).2 rfl
   have own9:=J.own.bel X9.bel hvb
   have hs0:w0.heap.size≤w9.heap.size:=Nat.le_trans J.far.bel.size X9.bel.size
   have hC9:=(X9.bel.block C (J.st.lt C J.inC).1 hCb).trans J.var
   have hR9:=(X9.bel.block boxR (J.st.lt boxR J.inR).1 hRb).trans J.box
   unfold tailQ
   simp only [List.drop_succ_cons,List.drop_zero]
   refine l_append1G (u:=.string ⟨r.1.toArray⟩) (g:=g) (p:=0) (c:=1) rfl own9 rfl (row_blk hb9 (Ext.refl _)) rfl hs0 (by rw [List.length_map];omega) (by decide) fun v' w10 own10 hgr => ?_
   (try simp only [SS,Nat.reduceAdd])
   have H10:=H9.grown hgr fun g e=>(J.blk g e).1
   (apply l_fieldAddr);exact rfl;(try simp only [SS,Nat.reduceAdd])
   have h1v:v'.oneCell'=true:=by
    obtain ⟨_,h2⟩:=own10.own
    rcases h2 with ⟨rfl,_⟩|⟨g,cap,cur,rfl,_⟩<;>rfl
   have hcv:v'.cells.toList = [v']:=by
    obtain ⟨_,h2⟩:=own10.own
    rcases h2 with ⟨rfl,_⟩|⟨g,cap,cur,rfl,_⟩<;>rfl
   have hC10:w10.heap[C]?=some (.cells #[c0,c1,c2,v,c4,c5] 25 (0,0)):=by
    obtain ⟨_,_,_,_,hb⟩:=hgr
    exact (hb C (H9.lt C J.inC).1 (fun e=>(J.blk C e.symm).2.1 rfl)).trans hC9
   refine wpList_plain rfl fun K1 hK1=>r_store (n:=1) (o:=3) (by kernel_rfl) rfl (us := [v']) hcv rfl (by intro u hu;rw [List.mem_singleton.1 hu];exact h1v) hC10 (by simp) (hK1 _ _ ?_)
   have wr:=Writes.row hC10 #[c0,c1,c2,v',c4,c5] rfl
   change wpList _ _ _ _ _ (w10.setRow C #[c0,c1,c2,v',c4,c5])
   generalize w10.setRow C #[c0,c1,c2,v',c4,c5]=w11 at wr ⊢
   (try simp only [SS,Nat.reduceAdd])
   apply wpList_nil
   refine NoPanic.normal ?_
   repeat' (first|(with_reducible first|apply wp_block|apply wp_skip|apply wp_exit)|((with_reducible apply wp_seq_k);intro K hK)|simp only [Exit.then,Exit.inBlock,↓reduceIte,Nat.reduceEqDiff]|((with_reducible apply wp_cond_true);exact rfl)|((with_reducible apply wp_cond_false);exact rfl)|((fail_if_success with_reducible apply no_region);go_step))
   go_end0
   have H11:=H10.write J.inC wr
   have hR10:w10.heap[boxR]?=some (.cells #[.pointer (some ⟨b,0,none⟩)] 44 (0,0)):=by
    obtain ⟨_,_,_,_,hb⟩:=hgr
    exact (hb boxR (H9.lt boxR J.inR).1 (fun e=>(J.blk boxR e.symm).2.2.1 rfl)).trans hR9
   have hG10:w10.heap[g2]?=some (.cells zeroV.toArray 25 (0,0)):=by
    obtain ⟨_,_,_,_,hb⟩:=hgr
    exact (hb g2 (H9.lt g2 J.inG.1).1 (fun e=>(J.blk g2 e.symm).2.2.2 rfl)).trans ((X9.bel.block g2 (J.st.lt g2 J.inG.1).1 (J.st.lt g2 J.inG.1).2).trans J.res)
   have hty:∀ g',v'.ownBlock=some g'→g' ≠ C∧g' ≠ boxR∧w0.heap.size≤g'∧g' < w10.heap.size∧g' ≠ g2:=fun g' e=>by
    have hlo:=(own10.own.lt g' e).1
    rcases own10.typed with hn|⟨k,cur,hk,hh⟩
    ·rw [hn] at e;cases e
    ·rw [e] at hk
     cases hk
     refine ⟨fun e => ?_,fun e => ?_,hlo,(Array.getElem?_eq_some_iff.1 hh).1,fun e => ?_⟩
     ·rw [e,hC10] at hh;cases hh
     ·rw [e,hR10] at hh;cases hh
     ·rw [e,hG10] at hh;cases hh
   have own11:Own w11 w0.heap.size 9 1 v' ((acc ++ [r.1]).map fun u => [.string ⟨u.toArray⟩]):=by
    rw [List.map_append]
    exact ⟨own10.own.kept (row:=some C) ⟨wr.os,wr.tape,wr.output,by rw [wr.size];exact Nat.le_refl _,fun k hk hn=>wr.other k (fun e=>hn (by rw [e]))⟩ (by
     cases hx:v'.ownBlock with
     |none=>simp
     | some g=>have:=(hty g hx).1;simpa [eq_comm] using this),own10.each⟩
   have hCw:w0.heap.size≤C:=J.new C J.inC
   have XF:Far b w0 w9:=⟨J.far.bel.trans X9.bel,J.far.keep.trans X9.keep (Nat.le_refl 0)⟩
   have F10:Far b w0 w10:=by
    obtain ⟨h1,h2,h3,h4,h5⟩:=hgr
    refine ⟨⟨h1.trans XF.bel.os,h2.trans XF.bel.tape,h3.trans XF.bel.output,Nat.le_trans XF.bel.size h4,fun k hk hn=>(h5 k (Nat.lt_of_lt_of_le hk XF.bel.size) (fun e => ?_)).trans (XF.bel.block k hk hn)⟩,XF.keep.trans (Keeps.of_eq (h5 b H9.blt (fun e=>hvb e.symm))) (Nat.le_refl 0)⟩
    have:=J.new k (J.blk k e.symm).1
    omega
   have F11:Far b w0 w11:=F10.write hCw hCb wr
   have hsz:=wr.size
   cases hx:v'.ownBlock with
   |none=>exact ⟨rfl,L,v',H11,J.inC,J.inR,J.ne,J.inG,(wr.other g2 J.inG.2).trans hG10,J.new,(wr.other boxR (Ne.symm J.ne)).trans hR10,wr.now,own11,fun g e=>(by rw [hx] at e;cases e),F11,J.low⟩
   |some g'=>
    obtain ⟨t1,t2,t3,t4,t5⟩:=hty g' hx
    have hlow:=J.low
    refine ⟨rfl,g'::L,v',H11.add2 (fun k φ hk=>by have:=hlow.2 k φ hk;omega) (by have:=hlow.1;omega) (by omega),List.mem_cons_of_mem _ J.inC,List.mem_cons_of_mem _ J.inR,J.ne,⟨List.mem_cons_of_mem _ J.inG.1,J.inG.2⟩,(wr.other g2 J.inG.2).trans hG10,fun k hk => ?_,(wr.other boxR (Ne.symm J.ne)).trans hR10,wr.now,own11,fun g e => ?_,F11,J.low⟩
    ·rcases List.mem_cons.1 hk with e|hk
     ·rw [e];exact t3
     ·exact J.new k hk
    ·rw [hx] at e
     cases e
     exact ⟨List.mem_cons_self,t1,t2,t5⟩
end Go.Proofs.YtindehjiaknokaaGreatDoor
namespace Go.Proofs.YtindehjiaknokaaGreatDoor
set_option linter.unusedSimpArgs false
set_option linter.unusedVariables false
open Go.RowKit
set_option maxRecDepth 100000
variable {L:List Nat} {rows vs:List (List Value)} {w':World}
theorem Own.put {w:World} {B n g len cap:Nat} {e:TypeId} {z r:List Value} {cur:Array Value} (h:Own w B e n (.slice (some ⟨g,0,none⟩) len cap) (rows ++ [z])) (hc:w.heap[g]?=some (.cells cur e (0,0))) (hr:r.length=n)
  (hw:w'.heap[g]?=some (.cells (cur.toList.take (rows.length * n)++r++cur.toList.drop (rows.length * n+n)).toArray e (0,0))):Own w' B e n (.slice (some ⟨g,0,none⟩) len cap) (rows ++ [r]):=by
 obtain ⟨⟨hl,h2⟩,hall⟩:=h
 have hz:z.length=n:=hall z (by simp)
 rcases h2 with ⟨hv,_⟩|⟨g',cap',cur',hv,hB,hg,hnc,hcm,hcs,htake⟩
 ·cases hv
 ·cases hv
  rw [hc] at hg
  cases hg
  simp only [List.length_append,List.length_cons,List.length_nil,List.flatten_append,List.flatten_cons,List.flatten_nil,List.append_nil,Nat.zero_add,Nat.add_mul,Nat.one_mul] at hl htake hnc
  have ha:rows.flatten.length=rows.length * n:=by omega
  have hlen:rows.length * n+n≤cur.toList.length:=by
   have:=congrArg List.length htake
   rw [List.length_take,List.length_append] at this
   omega
  have h1:cur.toList.take (rows.length * n)=rows.flatten:=by
   have:=congrArg (List.take (rows.length * n)) htake
   rw [List.take_take,Nat.min_eq_left (by omega),List.take_append_of_le_length (by omega)] at this
   rw [this]
   exact List.take_of_length_le (by omega)
  refine ⟨⟨?_,.inr ⟨g,cap,_,by simp,hB,hw,by simpa using hnc,hcm,?_,?_⟩⟩,fun x hx => ?_⟩
  ·simp only [List.length_append,List.length_cons,List.length_nil,List.flatten_append,List.flatten_cons,List.flatten_nil,List.append_nil,Nat.zero_add,Nat.add_mul,Nat.one_mul]
   omega
  ·rw [List.size_toArray,List.length_append,List.length_append,List.length_take,List.length_drop,hr,← hcs]
   have hz:cur.toList.length=cur.size:=Array.length_toList
   omega
  ·simp only [List.length_append,List.length_cons,List.length_nil,List.flatten_append,List.flatten_cons,List.flatten_nil,List.append_nil,Nat.zero_add,Nat.add_mul,Nat.one_mul]
   rw [h1,List.take_append_of_le_length (by rw [List.length_append];omega),List.take_of_length_le (by rw [List.length_append];omega)]
  ·rcases List.mem_append.1 hx with hx|hx
   ·exact hall x (by simp [hx])
   ·rw [List.mem_singleton.1 hx];exact hr
def RowsAt (S0:Sig) (b:Nat) (L:List Nat) (w:World) (vs:List (List Value)) (acc:List Cond):Prop:=vs.length=acc.length∧∀ (k:Nat) (r:List Value) (c:Cond),vs[k]?=some r→acc[k]?=some c→Fz (sgL S0 b L).lim w (.agg r.toArray) (.agg c.row)
theorem RowsAt.trans {S0:Sig} {b:Nat} {L':List Nat} {w:World} {acc:List Cond} (h:RowsAt S0 b L w vs acc) (t:Trans (sgL S0 b L) w (sgL S0 b L') w'):RowsAt S0 b L' w' vs acc:=⟨h.1,fun k r c hk hc=>(h.2 k r c hk hc).trans t⟩
structure JC (S0:Sig) (w0:World) (b outV boxR:Nat) (s:Str) (acc:List Cond) (q:Pl) (w:World) (L:List Nat) (vs:List (List Value)) (v:Value):Prop where
 st:Hst S0 b L s q w
 inO:outV ∈ L
 inR:boxR ∈ L
 ne:outV ≠ boxR
 new:∀ k ∈ L,w0.heap.size≤k
 box:Blk w boxR 44 #[.pointer (some ⟨b,0,none⟩)]
 var:Blk w outV 22 #[v]
 own:Own w w0.heap.size 25 6 v vs
 rows:RowsAt S0 b L w vs acc
 blk:∀ g,v.ownBlock=some g→g ∈ L∧g ≠ outV∧g ≠ boxR
 far:Far b w0 w
 low:b < w0.heap.size∧∀ (k:Nat) (φ:Obj→Prop),GB k=some φ→k < w0.heap.size
def JCx (S0:Sig) (w0:World) (b outV boxR:Nat) (s:Str) (acc:List Cond) (q:Pl) (w:World):Prop:=∃ L vs v,JC S0 w0 b outV boxR s acc q w L vs v
theorem JC.call {S0:Sig} {w0:World} {b outV boxR:Nat} {s:Str} {acc:List Cond} {q q':Pl} {w:World} {v:Value} (J:JC S0 w0 b outV boxR s acc q w L vs v) (H:Hst S0 b L s q' w') (hB:Bel b w w'∧Trans (sgL S0 b L) w (sgL S0 b L) w'):JC S0 w0 b outV boxR s acc q' w' L vs v:=
 ⟨H,J.inO,J.inR,J.ne,J.new,(hB.1.block boxR (J.st.lt boxR J.inR).1 (J.st.lt boxR J.inR).2).trans J.box,(hB.1.block outV (J.st.lt outV J.inO).1 (J.st.lt outV J.inO).2).trans J.var,J.own.bel hB.1 (fun e=>(J.st.lt b (J.blk b e).1).2 rfl),J.rows.trans hB.2,J.blk,J.far.call J.st.blt hB,J.low⟩
theorem JV.call {S0:Sig} {w0:World} {b C boxR g2:Nat} {s:Str} {cs:List Value} {acc:List Str} {q q':Pl} {w:World} {v:Value} (J:JV S0 w0 b C boxR g2 s cs acc q w L v) (H:Hst S0 b L s q' w') (hB:Bel b w w'∧Trans (sgL S0 b L) w (sgL S0 b L) w'):JV S0 w0 b C boxR g2 s cs acc q' w' L v:=
 ⟨H,J.inC,J.inR,J.ne,J.inG,(hB.1.block g2 (J.st.lt g2 J.inG.1).1 (J.st.lt g2 J.inG.1).2).trans J.res,J.new,(hB.1.block boxR (J.st.lt boxR J.inR).1 (J.st.lt boxR J.inR).2).trans J.box,(hB.1.block C (J.st.lt C J.inC).1 (J.st.lt C J.inC).2).trans J.var,J.own.bel hB.1 (fun e=>(J.st.lt b (J.blk b e).1).2 rfl),J.blk,J.far.call J.st.blt hB,J.low⟩
theorem Fz.still {lim lim':Nat→Option Nat} {w:World} {v:Value} {d:D} (hf:Fz lim w v d) (h:∀ k,k < w.heap.size→lim k ≠ some 0→w'.heap[k]?=w.heap[k]?∧lim' k=lim k):Fz lim' w' v d:=by
 have hcell:∀ {b o:Nat} {v:Value},w.cell? ⟨b,o,none⟩=some v→OkC lim b o→w'.cell? ⟨b,o,none⟩=some v∧OkC lim' b o:=fun {b o v} hc hk=>by
  obtain ⟨h1,h2⟩:=h b (cell_lt hc) (fun e=>by have:=hk 0 e;omega)
  exact ⟨by rw [World.cell?_of_block (a:=⟨b,o,none⟩) (w:=w) h1];exact hc,fun s hs=>hk s (by rw [← h2];exact hs)⟩
 induction hf with
 |any v=>exact .any v
 |int k n=>exact .int k n
 |bool b=>exact .bool b
 |str s=>exact .str s
 |pv v=>exact .pv v
 |nil=>exact .nil
 |slNil m sz=>exact .slNil m sz
 |slE A sz=>exact .slE A sz
 |sl cv hc hm hr hh _ ih=>
  exact .sl cv hc hm hr (fun k r j d h1 h2=>by
   obtain ⟨g1,g2,g3⟩:=hh k r j d h1 h2
   obtain ⟨q1,q2⟩:=hcell g1 g2
   exact ⟨q1,q2,g3⟩) ih
 |ptr cv hh _ ih=>
  exact .ptr cv (fun j d h1=>by
   obtain ⟨g1,g2,g3⟩:=hh j d h1
   obtain ⟨q1,q2⟩:=hcell g1 g2
   exact ⟨q1,q2,g3⟩) ih
 |fn vs hl _ ih=>exact .fn vs hl ih
 |gd _ h0 ih=>exact .gd ih h0
 |agg vs hl h1 _ ih=>exact .agg vs hl h1 ih
 |tup vs hl _ ih=>exact .tup vs hl ih
 |@fmp b clock kd es ents hb hh he hk=>
  obtain ⟨k1,k2⟩:=h b (Array.getElem?_eq_some_iff.1 hh).1 (by rw [hb];simp)
  exact .fmp (k2.trans hb) (k1.trans hh) he hk
theorem still_sgL {S0:Sig} {b:Nat} {L':List Nat} {w:World} (hL:∀ k,k < w.heap.size→k ≠ b→k ∉ L→w'.heap[k]?=w.heap[k]?) (hs:∀ k,k < w.heap.size→k ∈ L'→k ∈ L) (hs2:∀ k,k ∈ L→k ∈ L'):∀ k,k < w.heap.size→(sgL S0 b L).lim k ≠ some 0→w'.heap[k]?=w.heap[k]?∧(sgL S0 b L').lim k=(sgL S0 b L).lim k:=fun k hk hn=>by
 by_cases hb:k=b
 ·subst hb
  exact absurd (by unfold Sig.lim;rw [sgL_b];rfl) hn
 ·by_cases hm:k ∈ L
  ·exact absurd (by unfold Sig.lim;rw [sgL_in hm hb];rfl) hn
  ·exact ⟨hL k hk hb hm,by unfold Sig.lim;rw [sgL_out hm hb,sgL_out (fun e=>hm (hs k hk e)) hb]⟩
structure Writes2 (w w':World) (g o:Nat) (curG curO:Array Value) (eG eO:TypeId):Prop where
 os:w'.os=w.os
 tape:w'.tape=w.tape
 output:w'.output=w.output
 size:w'.heap.size=w.heap.size
 other:∀ k,k ≠ g→k ≠ o→w'.heap[k]?=w.heap[k]?
 nowG:w'.heap[g]?=some (.cells curG eG (0,0))
 nowO:w'.heap[o]?=some (.cells curO eO (0,0))
theorem Writes2.of {w w1 w2:World} {g o:Nat} {a a' c c':Array Value} {eG eO:TypeId} (h:Writes w w1 g a a' eG) (k:Writes w1 w2 o c c' eO) (hn:g ≠ o):Writes2 w w2 g o a' c' eG eO:=
 ⟨k.os.trans h.os,k.tape.trans h.tape,k.output.trans h.output,k.size.trans h.size,fun j h1 h2=>(k.other j h2).trans (h.other j h1),(k.other g hn).trans h.now,k.now⟩
theorem Writes2.of' {w w1 w2:World} {g o:Nat} {a a' c c':Array Value} {eG eO:TypeId} (h:Writes w w1 o c c' eO) (k:Writes w1 w2 g a a' eG) (hn:g ≠ o):Writes2 w w2 g o a' c' eG eO:=
 ⟨k.os.trans h.os,k.tape.trans h.tape,k.output.trans h.output,k.size.trans h.size,fun j h1 h2=>(k.other j h1).trans (h.other j h2),k.now,(k.other o (Ne.symm hn)).trans h.now⟩
section
variable {P:Program} {Q:Exit→Act→World→Prop} {K:Act→World→Prop} {a:Act} {w:World} {dst:Option Tmp} {ty:TypeId} {pos:String} {after:Array Edge} {guard:Option (Nat × Bool)}
theorem r_appendNG {s x:Operand} {t e n bytes B g p c:Nat} {zc:List Value} [i:TSlice P t e] [z:TElem P e n bytes zc] {v:Value} {r:List Value} (hs:a.eval s=v) (hown:Own w B e n v rows)
  (hx:a.eval x=.slice (some ⟨g,p,none⟩) 1 c) (hrow:RowAt w g p r) (hl:r.length=n) (h1:∀ u ∈ r,u.oneCell'=true) (hB:B≤w.heap.size) (hlen:rows.length+1≤1000000000) (hby:bytes≤1000)
  (hr:∀ g' c' cur w',Own w' B e n (.slice (some ⟨g',0,none⟩) (rows.length+1) c') (rows ++ [r])→w'.heap[g']?=some (.cells cur e (0,0))→(v.ownBlock=some g'∨w.heap.size≤g')→w.grownBy w' v.ownBlock→K (a.put dst (.slice (some ⟨g',0,none⟩) (rows.length+1) c')) w'):(Oper.mk dst (.call ⟨.builtin .append,#[s,x],#[t,t]⟩) ty pos after guard).wp P a w K Q:=by
 obtain ⟨inf,z0,h1',h2,h3,h4,h5,h6⟩:=z.h
 have hmul:(rows.length+1) * bytes≤1000000000 * 1000:=Nat.mul_le_mul hlen hby
 have ht:=i.h
 have hnews:∀ (j:Nat) (y:Value),r[j]?=some y→w.cell? ((⟨g,p,none⟩:Addr).add j)=some y:=fun j y hy=>by
  have hadd:(⟨g,p,none⟩:Addr).add j=⟨g,p+j,none⟩:=by unfold Addr.add;split<;>simp_all
  rw [hadd]
  exact hrow j y hy
 obtain ⟨v',w',hrun,h7,h8,_⟩:=run_append_own (P:=P) w B t ty e inf z0 n bytes ht h1' h2 h3 h4 h5 h6 v rows.length rows.flatten hown.own ⟨g,p,none⟩ 1 c r (by omega) hnews h1 (by unfold maxLen;omega) (by omega) hB
 have hO:Own w' B e n v' (rows ++ [r]):=by
  refine ⟨?_,fun y hy => ?_⟩
  ·rw [List.length_append,List.flatten_append]
   simpa using h7
  ·rcases List.mem_append.1 hy with hy|hy
   ·exact hown.each y hy
   ·rw [List.mem_singleton.1 hy]
    exact hl
 refine wp_append_run (by rw [hs,hx];exact hrun) ?_
 obtain ⟨_,h10⟩:=hO.own
 rcases h10 with ⟨_,hn⟩|⟨g',cap,cur,hv,hB',hg,_⟩
 ·simp at hn
 ·rw [List.length_append] at hv
  subst hv
  refine hr g' cap cur w' hO hg ?_ h8
  obtain ⟨hl0,ho⟩:=hown.own
  rcases ho with ⟨rfl,hn0⟩|⟨g0,cap0,cur0,rfl,_,hg0,hnc,hcm,hcs,htake⟩
  ·have hrow0:rows = []:=List.eq_nil_of_length_eq_zero hn0
   subst hrow0
   have hr2:=run_append_nil (P:=P) w t ty e inf z0 ht h1' h2 ⟨g,p,none⟩ 1 c r (by rw [h3];omega) hnews (by omega) (by omega) (by rw [h4];omega)
   rw [hrun] at hr2
   injection hr2 with e1 _
   injection e1 with e1 _ _
   cases e1
   exact .inr (Nat.le_refl _)
  ·by_cases hroom:rows.length+1≤cap0
   ·have hr2:=run_append_room (P:=P) w t ty e inf ht h1' g0 rows.length cap0 cur0 hg0 ⟨g,p,none⟩ 1 c r (by rw [h3];omega) hnews h1 hroom (by rw [h3,hl,hcs,← Nat.succ_mul];exact Nat.mul_le_mul_right _ hroom)
    rw [hrun] at hr2
    injection hr2 with e1 _
    injection e1 with e1 _ _
    cases e1
    exact .inl rfl
   ·have holds:∀ (j:Nat) (u:Value),rows.flatten[j]?=some u→w.cell? ((⟨g0,0,none⟩:Addr).add j)=some u:=hown.own.cells (g:=g0) rfl
    have hr2:=run_append_grow (P:=P) w t ty e inf z0 ht h1' h2 ⟨g0,0,none⟩ rows.length cap0 rows.flatten (by rw [h3];exact hl0) holds ⟨g,p,none⟩ 1 c r (by rw [h3];omega) hnews (by omega) (by omega) (growslice_fits (by omega) (by rw [h4];omega))
    rw [hrun] at hr2
    injection hr2 with e1 _
    injection e1 with e1 _ _
    cases e1
    exact .inr (Nat.le_refl _)
end
end Go.Proofs.YtindehjiaknokaaGreatDoor
namespace Go.Proofs.YtindehjiaknokaaGreatDoor
set_option linter.unusedSimpArgs false
set_option linter.unusedVariables false
open Go.RowKit
set_option maxRecDepth 100000
set_option maxHeartbeats 8000000
theorem put_end {S0:Sig} {w0:World} {b outV boxR:Nat} {s:Str} {acc:List Cond} {q q':Pl} {c:Cond} {w w9 w10 w12:World} {L:List Nat} {vs:List (List Value)} {v:Value} (J:JC S0 w0 b outV boxR s acc q w L vs v)
  (H9:Hst S0 b L s q' w9) (X9:Far b w w9) (T9:Trans (sgL S0 b L) w (sgL S0 b L) w9) {r:List Value} (F9:Fz (sgL S0 b L).lim w9 (.agg r.toArray) (.agg c.row)) (hr:r.length=6)
  {g' c':Nat} {cur:Array Value} (own10:Own w10 w0.heap.size 25 6 (.slice (some ⟨g',0,none⟩) (vs.length+1) c') (vs ++ [zeroV])) (hh10:w10.heap[g']?=some (.cells cur 25 (0,0))) (hg':v.ownBlock=some g'∨w9.heap.size≤g') (hgr:w9.grownBy w10 v.ownBlock)
  (W2:Writes2 w10 w12 g' outV (cur.toList.take (vs.length * 6)++r++cur.toList.drop (vs.length * 6+6)).toArray #[.slice (some ⟨g',0,none⟩) (vs.length+1) c'] 25 22):
  JCx S0 w0 b outV boxR s (acc ++ [c]) q' w12:=by
 have hvb:v.ownBlock ≠ some b:=fun e=>(J.st.lt b (J.blk b e).1).2 rfl
 obtain ⟨hOl,hOb⟩:=H9.lt outV J.inO
 obtain ⟨hRl,hRb⟩:=H9.lt boxR J.inR
 obtain ⟨h1,h2,h3,h4,h5⟩:=hgr
 have hbl:=H9.blt
 have hgb:g' ≠ b:=by
  rcases hg' with h|h
  ·exact fun e=>hvb (e ▸ h)
  ·omega
 have hgO:g' ≠ outV:=by
  rcases hg' with h|h
  ·exact (J.blk g' h).2.1
  ·omega
 have hgR:g' ≠ boxR:=by
  rcases hg' with h|h
  ·exact (J.blk g' h).2.2
  ·omega
 have hgl:g' < w12.heap.size:=(Array.getElem?_eq_some_iff.1 W2.nowG).1
 have hin:∀ k,k < w9.heap.size→k ∈ g'::L→k ∈ L:=fun k hk hm=>by
  rcases List.mem_cons.1 hm with e|hm
  ·rcases hg' with h|h
   ·rw [e];exact (J.blk g' h).1
   ·omega
  ·exact hm
 have hkeep:∀ k,k < w9.heap.size→k ∉ L→w12.heap[k]?=w9.heap[k]?:=fun k hk hL=>by
  have h6:some k ≠ v.ownBlock:=fun e=>hL (J.blk k e.symm).1
  have h7:k ≠ outV:=fun e=>hL (e ▸ J.inO)
  have h8:k ≠ g':=fun e=>hL (hin k hk (by rw [e];exact List.mem_cons_self))
  exact (W2.other k h8 h7).trans (h5 k hk h6)
 have hbL:b ∉ L:=fun h=>(H9.lt b h).2 rfl
 have hsz:w9.heap.size≤w12.heap.size:=by rw [W2.size];exact h4
 have hb12:=hkeep b hbl hbL
 have hg0:=(own10.own.lt g' rfl).1
 have hR12:w12.heap[boxR]?=w9.heap[boxR]?:=(W2.other boxR (Ne.symm hgR) (Ne.symm J.ne)).trans (h5 boxR hRl (fun e=>(J.blk boxR e.symm).2.2 rfl))
 have hstill:=still_sgL (S0:=S0) (b:=b) (L:=L) (L':=g'::L) (w:=w9) (w':=w12) (fun k hk _ hL=>hkeep k hk hL) hin (fun k hk=>List.mem_cons_of_mem _ hk)
 refine ⟨g'::L,vs ++ [r],.slice (some ⟨g',0,none⟩) (vs.length+1) c',⟨⟨?_,fun k φ hk => ?_,fun k hk => ?_,fun k x hk => ?_⟩,List.mem_cons_of_mem _ J.inO,List.mem_cons_of_mem _ J.inR,J.ne,fun k hk => ?_,?_,W2.nowO,Own.put own10 hh10 hr W2.nowG,?_,fun k hk => ?_,⟨⟨?_,?_,?_,?_,fun k hk hb => ?_⟩,?_⟩,J.low⟩⟩
 ·obtain ⟨e,he⟩:=H9.rd
  exact ⟨e,hb12.trans he⟩
 ·obtain ⟨⟨k1,k2,k3⟩,o,k4,k5⟩:=H9.gl k φ hk
  have hlt:=(Array.getElem?_eq_some_iff.1 k4).1
  exact ⟨⟨k1,fun hm=>k2 (hin k hlt hm),k3⟩,o,(hkeep k hlt k2).trans k4,k5⟩
 ·rcases List.mem_cons.1 hk with e|hk
  ·rw [e];exact ⟨hgl,hgb⟩
  ·exact ⟨Nat.lt_of_lt_of_le (H9.lt k hk).1 hsz,(H9.lt k hk).2⟩
 ·exact Nat.lt_of_lt_of_le (H9.base k x hk) hsz
 ·rcases List.mem_cons.1 hk with e|hk
  ·rw [e];exact hg0
  ·exact J.new k hk
 ·exact hR12.trans ((X9.bel.block boxR (J.st.lt boxR J.inR).1 hRb).trans J.box)
 ·have hl:=J.rows.1
  refine ⟨by rw [List.length_append,List.length_append,hl];rfl,fun k x y hx hy => ?_⟩
  rcases Nat.lt_or_ge k vs.length with hk|hk
  ·rw [List.getElem?_append_left hk] at hx
   rw [List.getElem?_append_left (by omega)] at hy
   exact ((J.rows.2 k x y hx hy).trans T9).still hstill
  ·rw [List.getElem?_append_right hk] at hx
   rw [List.getElem?_append_right (by omega)] at hy
   have hk0:k - vs.length=0:=by
    have:=(gLt hx)
    simp at this
    omega
   rw [hk0] at hx
   rw [← hl,hk0] at hy
   cases hx
   cases hy
   exact F9.still hstill
 ·cases hk
  exact ⟨List.mem_cons_self,hgO,hgR⟩
 ·exact W2.os.trans (h1.trans (X9.bel.os.trans J.far.bel.os))
 ·exact W2.tape.trans (h2.trans (X9.bel.tape.trans J.far.bel.tape))
 ·exact W2.output.trans (h3.trans (X9.bel.output.trans J.far.bel.output))
 ·have:=J.far.bel.size
  have:=X9.bel.size
  omega
 ·have s1:=J.far.bel.size
  have s2:=X9.bel.size
  have hL:k ∉ L:=fun h=>by have:=J.new k h;omega
  exact (hkeep k (by omega) hL).trans ((X9.bel.block k (by omega) hb).trans (J.far.bel.block k hk hb))
 ·exact (J.far.keep.trans X9.keep (Nat.le_refl 0)).trans (Keeps.of_eq hb12) (Nat.le_refl 0)
theorem row_passes (c:Cond):(D.agg c.row).passes=true:=by
 cases c
 rw [Cond.row_mk]
 rfl
theorem row_len (c:Cond):c.row.length=6:=by
 cases c
 rw [Cond.row_mk]
 rfl
theorem put_at {S0:Sig} {w0:World} {b outV boxR n:Nat} {s:Str} {acc:List Cond} {q:Pl} {w:World} (H:CondP n s) (h:JCx S0 w0 b outV boxR s acc q w) (hq:q.1≤s.length) (hn:q.2=false→s.length - q.1 < n) (hlen:acc.length≤200000000):
  Calls Tryz.prog 66 #[.pointer (some ⟨outV,0,none⟩),.pointer (some ⟨boxR,0,none⟩)] w fun e w'=>e=.returned (.tuple #[])∧JCx S0 w0 b outV boxR s (acc ++ [(pcS n s q).1]) (pcS n s q).2 w':=by
 obtain ⟨L,vs,v,J⟩:=h
 have hOb:=(J.st.lt outV J.inO).2
 have hRb:=(J.st.lt boxR J.inR).2
 have hsem:=H q hq hn
 generalize pcS n s q=r at *
 obtain ⟨c,q'⟩:=r
 dsimp only at hsem ⊢
 obtain ⟨A,cap,hv⟩:∃ A cap,v=.slice A vs.length cap:=by
  obtain ⟨_,h2⟩:=J.own.own
  rcases h2 with ⟨rfl,hn⟩|⟨g,cap,cur,rfl,_⟩
  ·exact ⟨none,0,by rw [hn]⟩
  ·exact ⟨_,cap,rfl⟩
 go_enter Tryz.func66,Tryz.ntmps66
 repeat' (first|(with_reducible first|apply wp_block|apply wp_skip|apply wp_exit)|((with_reducible apply wp_seq_k);intro K hK)|simp only [Exit.then,Exit.inBlock,↓reduceIte,Nat.reduceEqDiff]|((with_reducible apply wp_cond_true);exact rfl)|((with_reducible apply wp_cond_false);exact rfl)|((fail_if_success with_reducible apply no_region);go_step))
 (with_reducible apply (wp_region_waysA (id:=0) 5 (waysR b 2)));kernel_rfl;kernel_rfl;kernel_rfl;(focus exact of_decide_eq_true rfl)
 (focus (intro i hi hic;exact absurd (of_decide_eq_true hi) hic))
 exact rfl
 simp only [List.take_succ_cons,List.take_zero]
 (with_reducible apply (w_val (v:=v) rfl (show (0:Nat) ≠ 2 by decide)));(focus (intro w1 hw1 K1 hK1;refine r_load1 rfl ?_ hK1;exact Bel.cell hw1 hOb ((J.var.cell 0).trans rfl)));(try simp only [SS,Nat.reduceAdd])
 (with_reducible apply (w_val (v:=.pointer (some ⟨b,0,none⟩)) rfl (show (1:Nat) ≠ 2 by decide)));(focus (intro w1 hw1 K1 hK1;exact r_load1 rfl (Bel.cell hw1 hRb ((J.box.cell 0).trans rfl)) hK1));(try simp only [SS,Nat.reduceAdd])
 (with_reducible apply (w_call (W:=waysR b 2) (i:=2) (sp:=⟨fun u=>u.2.2,fun u x=>Hst S0 b L s q' x∧Far b w x∧Trans (sgL S0 b L) w (sgL S0 b L) x∧Fz (sgL S0 b L).lim x u.2.2 (.agg c.row),fun u x y hx h=>⟨h.1.ext hx,h.2.1.ext h.1.blt hx,h.2.2.1.trans (T_ext hx),h.2.2.2.trans (T_ext hx)⟩⟩) rfl rfl rfl))
 ·intro w1 hx1 K1 hK1
  have H1:=J.st.ext hx1
  refine r_enter (al := [.pointer (some ⟨b,0,none⟩)]) rfl ((callO hsem (rep_flat (row_passes c)) H1 [] rfl (fun j d v hd _=>by cases hd)).mono fun ee w2 he => ?_)
  obtain ⟨u,rfl,H2,B2,F2⟩:=he
  exact hK1 (0,0,u) w2 ⟨H2,((Far.mk (Bel.of (Ext.refl w)) (Keeps.refl 0 _)).ext J.st.blt hx1).call H1.blt B2,(T_ext hx1).trans B2.2,F2⟩ B2.1
 ·rintro ⟨u0,u1,u⟩
  (try simp only [SS,Nat.reduceAdd])
  (with_reducible apply (w_val (v:=.int .i64 vs.length) rfl (show (3:Nat) ≠ 2 by decide)));(focus (intro w1 hw1 K1 hK1;exact r_len_slice (A:=A) (c:=cap) hv hK1));(try simp only [SS,Nat.reduceAdd])
  have hst4:∀ (u:Unk) (x y:World),(waysR b 2).R x y→(Blk x u.1 25 zeroV.toArray∧w.heap.size≤u.1∧u.1 ≠ b)→(Blk y u.1 25 zeroV.toArray∧w.heap.size≤u.1∧u.1 ≠ b):=fun u x y hR h=>⟨((show Bel b x y from hR).block u.1 h.1.lt h.2.2).trans h.1,h.2⟩
  (with_reducible apply (w_gen (sp:=⟨fun u=>.slice (some ⟨u.1,0,none⟩) 1 1,fun u x=>Blk x u.1 25 zeroV.toArray∧w.heap.size≤u.1∧u.1 ≠ b,fun u x y hx h=>⟨h.1.ext hx,h.2⟩⟩) rfl (show (4:Nat) ≠ 2 by decide) hst4))
  ·intro w1 hw1 K1 hK1
   refine r_buildSlice (xs := [.const (.agg zeroV.toArray)]) rfl rfl rfl (rows := [zeroV]) rfl rfl rfl fun g w2 hb2 hx2 hg2=>hK1 (g,0,undef) w2 ⟨hb2,?_,?_⟩ hx2
   ·have:=(show Bel b w w1 from hw1).size
    show w.heap.size≤g
    omega
   ·have:=(show Bel b w w1 from hw1).size
    have:=J.st.blt
    show g ≠ b
    omega
  ·rintro ⟨g,u2,u3⟩
   (try simp only [SS,Nat.reduceAdd])
   refine w_nil fun w9 hR9 hf9 => ?_
   obtain ⟨H9,X9,T9,F9⟩:=hf9 (fun x=>Hst S0 b L s q' x∧Far b w x∧Trans (sgL S0 b L) w (sgL S0 b L) x∧Fz (sgL S0 b L).lim x u (.agg c.row)) (by simp)
   obtain ⟨hb9,hg9,hgb9⟩:=hf9 (fun x=>Blk x g 25 zeroV.toArray∧w.heap.size≤g∧g ≠ b) (by simp)
   obtain ⟨r,rfl,hrl,hr1,_⟩:=F9.agg_inv
   have hrl:r.length=6:=hrl.trans (row_len c)
   have hvb:v.ownBlock ≠ some b:=fun e=>(J.st.lt b (J.blk b e).1).2 rfl
   have own9:=J.own.bel X9.bel hvb
   have hs0:w0.heap.size≤w9.heap.size:=Nat.le_trans J.far.bel.size X9.bel.size
   have hO9:=(X9.bel.block outV (J.st.lt outV J.inO).1 hOb).trans J.var
   show tailA _ _ _ _ _ _ _
   unfold tailA
   dsimp only
   intro fuel hfuel
   obtain ⟨k,rfl⟩:∃ k,fuel=k+4:=⟨fuel - 4,by simp at hfuel;omega⟩
   refine any_step [5] (by kernel_rfl) (by simp) fun i hi => ?_
   obtain rfl:=List.mem_singleton.1 hi
   refine wpOp_one rfl rfl ?_
   refine r_appendNG rfl own9 rfl (row_blk hb9 (Ext.refl _)) rfl (by decide) hs0 (by have:=J.rows.1;omega) (by decide) fun g' c' cur w10 own10 hh10 hg' hgr => ?_
   (try simp only [SS,Nat.reduceAdd])
   have hgO:g' ≠ outV:=by
    rcases hg' with h|h
    ·exact (J.blk g' h).2.1
    ·have:=(H9.lt outV J.inO).1
     omega
   have hO10:w10.heap[outV]?=some (.cells #[v] 22 (0,0)):=by
    obtain ⟨_,_,_,_,h5⟩:=hgr
    exact (h5 outV (H9.lt outV J.inO).1 (fun e=>(J.blk outV e.symm).2.1 rfl)).trans hO9
   have hcs:vs.length * 6+6≤cur.size∧True:=by
    obtain ⟨_,h2⟩:=own10.own
    rcases h2 with ⟨hv,_⟩|⟨g1,cap1,cur1,hv,_,hg1,hnc,_,hcs,_⟩
    ·cases hv
    ·injection hv with h1 _ _
     injection h1 with h1
     injection h1 with h1 _ _
     subst h1
     rw [hh10] at hg1
     cases hg1
     rw [List.length_append] at hnc
     simp at hnc
     refine ⟨?_,trivial⟩
     rw [hcs]
     have:=Nat.mul_le_mul_right 6 hnc
     omega
   have hcz:(cur.toList.take (vs.length * 6)++r++cur.toList.drop (vs.length * 6+6)).toArray.size=cur.size:=by
    have hz:cur.toList.length=cur.size:=Array.length_toList
    rw [List.size_toArray,List.length_append,List.length_append,List.length_take,List.length_drop,hrl]
    omega
   refine any_step [6,8] (by kernel_rfl) (by simp) fun i hi => ?_
   rcases List.mem_cons.1 hi with rfl|hi
   ·refine wpOp_one rfl rfl (r_indexAddr (b:=g') (p:=0) (l:=vs.length+1) (c:=c') (k:=.i64) (j:=vs.length) rfl rfl (by omega) (by omega) ?_)
    rw [show 0+((vs.length:Nat):Int).toNat * 6=vs.length * 6 by simp]
    (try simp only [SS,Nat.reduceAdd])
    refine any_step [7,8] (by kernel_rfl) (by simp) fun i hi => ?_
    rcases List.mem_cons.1 hi with rfl|hi
    ·refine wpOp_one rfl rfl (r_store (n:=6) (o:=vs.length * 6) (by kernel_rfl) rfl (us:=r) rfl hrl hr1 hh10 (by omega) ?_)
     have wr11:=Writes.row hh10 (cur.toList.take (vs.length * 6)++r++cur.toList.drop (vs.length * 6+6)).toArray hcz
     change wpAny _ _ _ _ _ _ _ (w10.setRow g' (cur.toList.take (vs.length * 6)++r++cur.toList.drop (vs.length * 6+6)).toArray)
     generalize w10.setRow g' (cur.toList.take (vs.length * 6)++r++cur.toList.drop (vs.length * 6+6)).toArray=w11 at wr11 ⊢
     (try simp only [SS,Nat.reduceAdd])
     refine any_step [8] (by kernel_rfl) (by simp) fun i hi => ?_
     obtain rfl:=List.mem_singleton.1 hi
     have hO11:=(wr11.other outV (Ne.symm hgO)).trans hO10
     refine wpOp_one rfl rfl (r_store (n:=1) (o:=0) (by kernel_rfl) rfl (us := [.slice (some ⟨g',0,none⟩) (vs.length+1) c']) rfl rfl (by simp [Value.oneCell']) hO11 (by simp) ?_)
     have wr12:=Writes.row hO11 #[.slice (some ⟨g',0,none⟩) (vs.length+1) c'] rfl
     change wpAny _ _ _ _ _ _ _ (w11.setRow outV #[.slice (some ⟨g',0,none⟩) (vs.length+1) c'])
     generalize w11.setRow outV #[.slice (some ⟨g',0,none⟩) (vs.length+1) c']=w12 at wr12 ⊢
     (try simp only [SS,Nat.reduceAdd])
     refine any_end (by kernel_rfl) (NoPanic.normal ?_)
     repeat' (first|(with_reducible first|apply wp_block|apply wp_skip|apply wp_exit)|((with_reducible apply wp_seq_k);intro K hK)|simp only [Exit.then,Exit.inBlock,↓reduceIte,Nat.reduceEqDiff]|((with_reducible apply wp_cond_true);exact rfl)|((with_reducible apply wp_cond_false);exact rfl)|((fail_if_success with_reducible apply no_region);go_step))
     go_end0
     exact ⟨rfl,put_end J H9 X9 T9 F9 hrl own10 hh10 hg' hgr (Writes2.of wr11 wr12 hgO)⟩
    ·obtain rfl:=List.mem_singleton.1 hi
     refine wpOp_one rfl rfl (r_store (n:=1) (o:=0) (by kernel_rfl) rfl (us := [.slice (some ⟨g',0,none⟩) (vs.length+1) c']) rfl rfl (by simp [Value.oneCell']) hO10 (by simp) ?_)
     have wr11:=Writes.row hO10 #[.slice (some ⟨g',0,none⟩) (vs.length+1) c'] rfl
     change wpAny _ _ _ _ _ _ _ (w10.setRow outV #[.slice (some ⟨g',0,none⟩) (vs.length+1) c'])
     generalize w10.setRow outV #[.slice (some ⟨g',0,none⟩) (vs.length+1) c']=w11 at wr11 ⊢
     (try simp only [SS,Nat.reduceAdd])
     refine any_step [7] (by kernel_rfl) (by simp) fun i hi => ?_
     obtain rfl:=List.mem_singleton.1 hi
     have hh11:=(wr11.other g' hgO).trans hh10
     refine wpOp_one rfl rfl (r_store (n:=6) (o:=vs.length * 6) (by kernel_rfl) rfl (us:=r) rfl hrl hr1 hh11 (by omega) ?_)
     have wr12:=Writes.row hh11 (cur.toList.take (vs.length * 6)++r++cur.toList.drop (vs.length * 6+6)).toArray hcz
     change wpAny _ _ _ _ _ _ _ (w11.setRow g' (cur.toList.take (vs.length * 6)++r++cur.toList.drop (vs.length * 6+6)).toArray)
     generalize w11.setRow g' (cur.toList.take (vs.length * 6)++r++cur.toList.drop (vs.length * 6+6)).toArray=w12 at wr12 ⊢
     (try simp only [SS,Nat.reduceAdd])
     refine any_end (by kernel_rfl) (NoPanic.normal ?_)
     repeat' (first|(with_reducible first|apply wp_block|apply wp_skip|apply wp_exit)|((with_reducible apply wp_seq_k);intro K hK)|simp only [Exit.then,Exit.inBlock,↓reduceIte,Nat.reduceEqDiff]|((with_reducible apply wp_cond_true);exact rfl)|((with_reducible apply wp_cond_false);exact rfl)|((fail_if_success with_reducible apply no_region);go_step))
     go_end0
     exact ⟨rfl,put_end J H9 X9 T9 F9 hrl own10 hh10 hg' hgr (Writes2.of' wr11 wr12 hgO)⟩
   ·obtain rfl:=List.mem_singleton.1 hi
    refine wpOp_one rfl rfl (r_store (n:=1) (o:=0) (by kernel_rfl) rfl (us := [.slice (some ⟨g',0,none⟩) (vs.length+1) c']) rfl rfl (by simp [Value.oneCell']) hO10 (by simp) ?_)
    have wr11:=Writes.row hO10 #[.slice (some ⟨g',0,none⟩) (vs.length+1) c'] rfl
    change wpAny _ _ _ _ _ _ _ (w10.setRow outV #[.slice (some ⟨g',0,none⟩) (vs.length+1) c'])
    generalize w10.setRow outV #[.slice (some ⟨g',0,none⟩) (vs.length+1) c']=w11 at wr11 ⊢
    (try simp only [SS,Nat.reduceAdd])
    refine any_step [6] (by kernel_rfl) (by simp) fun i hi => ?_
    obtain rfl:=List.mem_singleton.1 hi
    refine wpOp_one rfl rfl (r_indexAddr (b:=g') (p:=0) (l:=vs.length+1) (c:=c') (k:=.i64) (j:=vs.length) rfl rfl (by omega) (by omega) ?_)
    rw [show 0+((vs.length:Nat):Int).toNat * 6=vs.length * 6 by simp]
    (try simp only [SS,Nat.reduceAdd])
    refine any_step [7] (by kernel_rfl) (by simp) fun i hi => ?_
    obtain rfl:=List.mem_singleton.1 hi
    have hh11:=(wr11.other g' hgO).trans hh10
    refine wpOp_one rfl rfl (r_store (n:=6) (o:=vs.length * 6) (by kernel_rfl) rfl (us:=r) rfl hrl hr1 hh11 (by omega) ?_)
    have wr12:=Writes.row hh11 (cur.toList.take (vs.length * 6)++r++cur.toList.drop (vs.length * 6+6)).toArray hcz
    change wpAny _ _ _ _ _ _ _ (w11.setRow g' (cur.toList.take (vs.length * 6)++r++cur.toList.drop (vs.length * 6+6)).toArray)
    generalize w11.setRow g' (cur.toList.take (vs.length * 6)++r++cur.toList.drop (vs.length * 6+6)).toArray=w12 at wr12 ⊢
    (try simp only [SS,Nat.reduceAdd])
    refine any_end (by kernel_rfl) (NoPanic.normal ?_)
    repeat' (first|(with_reducible first|apply wp_block|apply wp_skip|apply wp_exit)|((with_reducible apply wp_seq_k);intro K hK)|simp only [Exit.then,Exit.inBlock,↓reduceIte,Nat.reduceEqDiff]|((with_reducible apply wp_cond_true);exact rfl)|((with_reducible apply wp_cond_false);exact rfl)|((fail_if_success with_reducible apply no_region);go_step))
    go_end0
    exact ⟨rfl,put_end J H9 X9 T9 F9 hrl own10 hh10 hg' hgr (Writes2.of' wr11 wr12 hgO)⟩
variable {L:List Nat}
theorem l_makeFunc {P:Program} {Q:Exit→Act→World→Prop} {a:Act} {w:World} {dst:Option Tmp} {ty:TypeId} {pos:String} {after:Array Edge} {ops:Array Oper} {rest:List Oper} {f:FuncId} {xl:List Operand} {vs:List Value} (hx:xl.map a.eval=vs) (hr:wpList P ops Q rest (a.put dst (.func (.func f) #[] vs.toArray)) w):
  wpList P ops Q (Oper.mk dst (.makeFunc (.func f) #[] xl.toArray) ty pos after none::rest) a w:=
 wpList_plain rfl fun K hK=>r_makeFunc (by rw [show (xl.toArray.map a.eval)=vs.toArray by rw [← hx];simp];exact hK _ _ hr)
theorem Hst.sub {S0:Sig} {b:Nat} {L':List Nat} {s:Str} {q:Pl} {w:World} (h:Hst S0 b L s q w) (hs:∀ k,k ∈ L'→k ∈ L):Hst S0 b L' s q w:=
 ⟨h.rd,fun g φ hg=>by obtain ⟨⟨h1,h2,h3⟩,h4⟩:=h.gl g φ hg;exact ⟨⟨h1,fun hm=>h2 (hs g hm),h3⟩,h4⟩,fun k hk=>h.lt k (hs k hk),h.base⟩
theorem Hst.cells {S0:Sig} {b:Nat} {s:Str} {q:Pl} {w:World} (h:Hst S0 b L s q w):w.cell? ⟨b,2,none⟩=some (.bool q.2)∧w.cell? ⟨b,1,none⟩=some (.int .i64 q.1):=by
 obtain ⟨e,he⟩:=h.rd
 exact ⟨(cell_of_row w b 2 _ _ _ he).trans rfl,(cell_of_row w b 1 _ _ _ he).trans rfl⟩
theorem lim_sub {S0:Sig} {b n:Nat} {L':List Nat} (hs:∀ k,k ∈ L'→k ∈ L) (hn:∀ k ∈ L,n≤k) (hbase:∀ k x,S0.own k=some x→k < n):∀ k s,(sgL S0 b L').lim k=some s→(sgL S0 b L).lim k=some s:=fun k s h=>by
 by_cases hb:k=b
 ·subst hb
  unfold Sig.lim at h ⊢
  rw [sgL_b] at h ⊢
  exact h
 ·by_cases hm:k ∈ L'
  ·unfold Sig.lim at h ⊢
   rw [sgL_in hm hb] at h
   rw [sgL_in (hs k hm) hb]
   exact h
  ·unfold Sig.lim at h ⊢
   rw [sgL_out hm hb] at h
   by_cases hL:k ∈ L
   ·exfalso
    have h1:=hn k hL
    cases ho:S0.own k with
    |none=>rw [ho] at h;cases h
    |some x=>have:=hbase k x ho;omega
   ·rw [sgL_out hL hb]
    exact h
theorem Own.frozen {S0:Sig} {b:Nat} {w:World} {B sz:Nat} {e:TypeId} {v:Value} {vs:List (List Value)} {rows:List (List D)} (hO:Own w B e sz v vs) (hl:vs.length=rows.length) (hr:∀ r ∈ rows,r.length=sz) (hb:v.ownBlock ≠ some b) (hn:∀ g,v.ownBlock=some g→g ∉ L∧S0.own g=none)
  (h1:∀ (k:Nat) (x:List Value) (r:List D),vs[k]?=some x→rows[k]?=some r→Fz (sgL S0 b L).lim w (.agg x.toArray) (.agg r)):Fz (sgL S0 b L).lim w v (.sl 0 sz rows):=by
 have hslr:=hO.slr
 obtain ⟨_,h2⟩:=hO.own
 rcases h2 with ⟨rfl,hn0⟩|⟨g,cap,cur,rfl,_,hg,hnc,hcm,_⟩
 ·rw [hn0] at hl
  obtain rfl:=List.length_eq_zero_iff.1 hl.symm
  exact .slNil _ _
 ·obtain ⟨A,c,hv,_,_,_,hcell⟩:=hslr
  cases hv
  have hgb:g ≠ b:=fun e=>hb (by rw [← e];rfl)
  obtain ⟨n1,n2⟩:=hn g rfl
  have hlim:(sgL S0 b L).lim g=none:=by
   unfold Sig.lim
   rw [sgL_out n1 hgb,n2]
   rfl
  rw [hl]
  refine .sl (fun k j=>((vs.getD k []).getD j undef)) (by omega) hcm (fun k r hk=>hr r (gMem hk)) (fun k r j d hk hd => ?_) (fun k r j d hk hd => ?_)
  ·have hkl:k < vs.length:=by have:=(gLt hk);omega
   have hx:vs[k]?=some vs[k]:=List.getElem?_eq_getElem hkl
   have hxl:=hO.each _ (gMem hx)
   have hjl:j < vs[k].length:=by rw [hxl,← hr r (gMem hk)];exact (gLt hd)
   have hgd:((vs.getD k []).getD j undef)=vs[k][j]:=by simp [hkl,hjl]
   rw [hgd]
   obtain ⟨_,g0,o0,ha,hrow⟩:=hcell k _ hx
   cases ha
   have hc:=hrow j _ (List.getElem?_eq_getElem hjl)
   rw [Nat.zero_add] at hc
   obtain ⟨xs,e1,_,e3,_⟩:=(h1 k _ r hx hk).agg_inv
   have e1:vs[k]=xs:=by
    have:=congrArg Array.toList (Value.agg.inj e1)
    simpa using this
   rw [Nat.zero_add]
   exact ⟨hc,(fun s hs=>by rw [hlim] at hs;cases hs),e3 _ (by rw [← e1];exact List.getElem_mem hjl)⟩
  ·have hkl:k < vs.length:=by have:=(gLt hk);omega
   have hx:vs[k]?=some vs[k]:=List.getElem?_eq_getElem hkl
   have hxl:=hO.each _ (gMem hx)
   have hjl:j < vs[k].length:=by rw [hxl,← hr r (gMem hk)];exact (gLt hd)
   have hgd:((vs.getD k []).getD j undef)=vs[k][j]:=by simp [hkl,hjl]
   rw [hgd]
   obtain ⟨xs,e1,_,_,e4⟩:=(h1 k _ r hx hk).agg_inv
   have e1:vs[k]=xs:=by
    have:=congrArg Array.toList (Value.agg.inj e1)
    simpa using this
   exact e4 j d _ hd (by rw [← e1];exact List.getElem?_eq_getElem hjl)
theorem pc_bad (n:Nat) (s:Str) (q:Pl) (h:q.2=true):(pcS n s q).2.2=true:=by
 obtain ⟨i,b⟩:=q
 dsimp only at h
 subst h
 cases n<;>rfl
theorem sev_conds {S0:Sig} {w0:World} {b outV boxR n lo:Nat} {s:Str} (H:CondP n s) (hs:s.length≤100000000) (hlo:s.length - lo < n):
  Sev b s (pcS n s) (.func (.func 66) #[] #[.pointer (some ⟨outV,0,none⟩),.pointer (some ⟨boxR,0,none⟩)]) (JCx S0 w0 b outV boxR s) lo where
 cell:=fun acc q w ⟨L,vs,v,J⟩=>J.st.cells
 fwd:=pc_fwd n s fun q hq=>(sim_rc s n q hq).1
 bad:=pc_bad n s
 is:=fun acc q w ⟨L,vs,v,J⟩ hq=>by
  refine (callO (is_sem s [41] q hq hs (by decide)) (rep_flat rfl) J.st [.string ⟨#[41]⟩] rfl (fun j d v hd hv=>by match j,hd,hv with|0,hd,hv=>cases hd;cases hv;exact .str _)).mono fun e w' he => ?_
  obtain ⟨u,rfl,H2,B2,F2⟩:=he
  cases F2
  exact ⟨rfl,L,vs,v,J.call H2 B2⟩
 want:=fun acc q w ⟨L,vs,v,J⟩ hq=>by
  refine (callO (want_sem s [44,32] q hq hs (by decide)) rep_unit J.st [.string ⟨#[44,32]⟩] rfl (fun j d v hd hv=>by match j,hd,hv with|0,hd,hv=>cases hd;cases hv;exact .str _)).mono fun e w' he => ?_
  obtain ⟨u,rfl,H2,B2,F2⟩:=he
  obtain ⟨us,rfl,hl,_⟩:=F2.tup_inv
  obtain rfl:=List.length_eq_zero_iff.1 hl
  exact ⟨rfl,L,vs,v,J.call H2 B2⟩
 one:=fun acc q w h hq hlo' hlen=>by
  exact ⟨_,_,rfl,inferInstance,put_at H h hq (fun _=>by omega) (by omega)⟩
theorem conds_sem (n:Nat) (s:Str) (H:CondP n s) (hs:s.length≤100000000):CondsP n s:=by
 intro i h1 hi hn
 refine semO_hand rfl fun S b w hst => ?_
 go_enter Tryz.func31,Tryz.ntmps31
 repeat' (first|(with_reducible first|apply wp_block|apply wp_skip|apply wp_exit)|((with_reducible apply wp_seq_k);intro K hK)|simp only [Exit.then,Exit.inBlock,↓reduceIte,Nat.reduceEqDiff]|((with_reducible apply wp_cond_true);exact rfl)|((with_reducible apply wp_cond_false);exact rfl)|((fail_if_success with_reducible apply no_region);go_step))
 with_reducible apply (wp_region_lit (id:=0))
 refine l_box1 (v:=.pointer (some ⟨b,0,none⟩)) rfl rfl fun boxR w1 hb1 hx1 hg1 => ?_
 (try simp only [SS,Nat.reduceAdd])
 refine l_assign rfl ?_;(try simp only [SS,Nat.reduceAdd])
 apply wpList_nil
 have H1:Hst S b [boxR] s (i,false) w1:=hst.own hx1 (by omega) hb1.lt
 repeat' (first|(with_reducible first|apply wp_block|apply wp_skip|apply wp_exit)|((with_reducible apply wp_seq_k);intro K hK)|simp only [Exit.then,Exit.inBlock,↓reduceIte,Nat.reduceEqDiff]|((with_reducible apply wp_cond_true);exact rfl)|((with_reducible apply wp_cond_false);exact rfl)|((fail_if_success with_reducible apply no_region);go_step))
 with_reducible apply (wp_region_lit (id:=1))
 refine l_alloc fun outV w2 hb2 hx2 hg2 => ?_
 (try simp only [SS,Nat.reduceAdd])
 apply wpList_nil
 have H2:Hst S b [outV,boxR] s (i,false) w2:=H1.own hx2 (by omega) hb2.lt
 have hboxlt:boxR < w1.heap.size:=hb1.lt
 have hs1:=hx1.size
 have hb12:Blk w2 boxR 44 #[.pointer (some ⟨b,0,none⟩)]:=hb1.ext hx2
 have J2:JC S w b outV boxR s [] (i,false) w2 [outV,boxR] [] (.slice none 0 0):=
  ⟨H2,by simp,by simp,by omega,(fun k hk=>by simp at hk;omega),hb12,hb2,Own.nil _ _ _ _,⟨rfl,(fun k r c hk _=>by simp at hk)⟩,(fun g hg=>nomatch hg),(Far.mk (Bel.of (Ext.refl w)) (Keeps.refl 0 _)).ext hst.blt (hx1.trans hx2),hst.blt,fun k φ hk=>(Array.getElem?_eq_some_iff.1 (hst.gl k φ hk).2.choose_spec.1).1⟩
 repeat' (first|(with_reducible first|apply wp_block|apply wp_skip|apply wp_exit)|((with_reducible apply wp_seq_k);intro K hK)|simp only [Exit.then,Exit.inBlock,↓reduceIte,Nat.reduceEqDiff]|((with_reducible apply wp_cond_true);exact rfl)|((with_reducible apply wp_cond_false);exact rfl)|((fail_if_success with_reducible apply no_region);go_step))
 with_reducible apply (wp_region_lit (id:=2))
 (apply l_load1);exact rfl;exact (hb12.cell 0).trans rfl;(try simp only [SS,Nat.reduceAdd])
 refine l_makeFunc (vs := [.pointer (some ⟨outV,0,none⟩),.pointer (some ⟨boxR,0,none⟩)]) rfl ?_
 (try simp only [SS,Nat.reduceAdd])
 have hsev:=several_at (sev_conds (S0:=S) (w0:=w) (b:=b) (outV:=outV) (boxR:=boxR) H hs hn) w2 (i,false) ⟨_,_,_,J2⟩ hi rfl h1 (Nat.le_refl _)
 generalize sevS (pcS n s) s (s.length+1) (i,false)=r at *
 obtain ⟨acc,q'⟩:=r
 dsimp only at hsev ⊢
 refine l_enter (al := [.pointer (some ⟨b,0,none⟩),.func (.func 66) #[] #[.pointer (some ⟨outV,0,none⟩),.pointer (some ⟨boxR,0,none⟩)]]) rfl (hsev.mono fun ee w3 he => ?_)
 obtain ⟨rfl,L,vs,v,J3⟩:=he
 (try simp only [SS,Nat.reduceAdd])
 apply wpList_nil
 repeat' (first|(with_reducible first|apply wp_block|apply wp_skip|apply wp_exit)|((with_reducible apply wp_seq_k);intro K hK)|simp only [Exit.then,Exit.inBlock,↓reduceIte,Nat.reduceEqDiff]|((with_reducible apply wp_cond_true);exact rfl)|((with_reducible apply wp_cond_false);exact rfl)|((fail_if_success with_reducible apply no_region);go_step))
 with_reducible apply (wp_region_lit (id:=3))
 (apply l_load1);exact rfl;exact (J3.var.cell 0).trans rfl;(try simp only [SS,Nat.reduceAdd])
 refine l_assign rfl ?_;(try simp only [SS,Nat.reduceAdd])
 apply wpList_nil
 repeat' (first|(with_reducible first|apply wp_block|apply wp_skip|apply wp_exit)|((with_reducible apply wp_seq_k);intro K hK)|simp only [Exit.then,Exit.inBlock,↓reduceIte,Nat.reduceEqDiff]|((with_reducible apply wp_cond_true);exact rfl)|((with_reducible apply wp_cond_false);exact rfl)|((fail_if_success with_reducible apply no_region);go_step))
 go_ret
 have hL':∀ k,k ∈ L.filter (fun k => !decide (v.ownBlock=some k))→k ∈ L:=fun k hk=>(List.mem_filter.1 hk).1
 refine ⟨v,rfl,L.filter (fun k => !decide (v.ownBlock=some k)),J3.st.sub hL',fun k hk=>J3.new k (hL' k hk),J3.far.bel,J3.far.keep,?_⟩
 refine J3.own.frozen (by rw [List.length_map];exact J3.rows.1) (fun r hr => ?_) (fun e=>(J3.st.lt b (J3.blk b e).1).2 rfl) (fun g hg=>⟨fun hm => ?_,?_⟩) fun k x r hx hr => ?_
 ·obtain ⟨c,_,rfl⟩:=List.mem_map.1 hr
  exact row_len c
 ·have:=(List.mem_filter.1 hm).2
  rw [hg] at this
  simp at this
 ·cases ho:S.own g with
  |none=>rfl
  |some x=>
   have h2:=hst.base g x ho
   have h3:=J3.new g (J3.blk g hg).1
   omega
 ·rw [List.getElem?_map] at hr
  cases hc:acc[k]? with
  |none=>rw [hc] at hr;cases hr
  |some c=>
   rw [hc] at hr
   cases hr
   exact (J3.rows.2 k x c hx hc).monoL (lim_sub hL' J3.new hst.base)
end Go.Proofs.YtindehjiaknokaaGreatDoor
namespace Go.Proofs.YtindehjiaknokaaGreatDoor
set_option linter.unusedSimpArgs false
set_option linter.unusedVariables false
open Go.RowKit
set_option maxRecDepth 100000
set_option maxHeartbeats 8000000
theorem callB {S0:Sig} {f:Nat} {s:Str} {q:Pl} {ds:List D} {t:Bool} (hsem:Sem Tryz.prog f ds (.bool t)) {b:Nat} {L:List Nat} {w:World} (h:Hst S0 b L s q w) (vs:List Value) (hl:vs.length=ds.length)
  (hf:∀ (i:Nat) (d:D) (v:Value),ds[i]?=some d→vs[i]?=some v→Fz (sgL S0 b L).lim w v d):Calls Tryz.prog f vs.toArray w fun e w'=>e=.returned (.bool t)∧Ext w w':=by
 obtain ⟨_,_,hs⟩:=hsem
 refine (hs (sgL S0 b L).hide w vs h.wf.hide hl fun i d v hd hv=>.fz (by rw [(sgL S0 b L).hide_lim];exact hf i d v hd hv)).mono fun e w' ⟨v,S',he,_,ht,hr⟩ => ?_
 rw [hr.bool_inv] at he
 refine ⟨he,ht.os,ht.tape,ht.output,ht.size,fun k hk => ?_⟩
 cases ho:(sgL S0 b L).own k with
 |none=>exact (ht.free k hk (by simp [Sig.hide,ho])).1
 |some y=>exact (ht.foreign k .dead y.2 hk (by simp [Sig.hide,ho]) rfl).1
theorem fz_row {lim:Nat→Option Nat} {w:World} {k lo hi:Int} {p:Str} {v:Value} {vs:List (List D)} (hv:Fz lim w v (.sl 0 1 vs)) (h1:v.oneCell'=true):Fz lim w (.agg #[.int .i64 k,.slice none 0 0,.string ⟨p.toArray⟩,v,.int .i64 lo,.int .i64 hi]) (.agg [.int .i64 k,.sl 0 6 [],.str p,.sl 0 1 vs,.int .i64 lo,.int .i64 hi]):=by
 refine Fz.agg [.int .i64 k,.slice none 0 0,.string ⟨p.toArray⟩,v,.int .i64 lo,.int .i64 hi] rfl (fun u hu=>by simp at hu;rcases hu with rfl|rfl|rfl|rfl|rfl|rfl<;>first|rfl|exact h1) fun j d u hd hu => ?_
 match j,hd,hu with
 |0,hd,hu=>cases hd;cases hu;exact .int _ _
 |1,hd,hu=>cases hd;cases hu;exact .slNil _ _
 |2,hd,hu=>cases hd;cases hu;exact .str _
 |3,hd,hu=>cases hd;cases hu;exact hv
 |4,hd,hu=>cases hd;cases hu;exact .int _ _
 |5,hd,hu=>cases hd;cases hu;exact .int _ _
theorem quo_bad {s:Str} {q:Pl} (h:q.2=true):(quoS s q).2.2=true:=by
 have e:wantS s [34] q=q:=by unfold wantS;rw [if_pos h]
 unfold quoS
 rw [e,if_pos h]
 exact h
theorem sev_vals {S0:Sig} {w0:World} {b C boxR g2 lo:Nat} {s:Str} {cs:List Value} (hcs:cs.length=6) (hs:s.length≤100000000):
  Sev b s (quoS s) (.func (.func 69) #[] #[.pointer (some ⟨C,0,none⟩),.pointer (some ⟨boxR,0,none⟩)]) (fun acc q w=>∃ L v,JV S0 w0 b C boxR g2 s cs acc q w L v) lo where
 cell:=fun acc q w ⟨L,v,J⟩=>J.st.cells
 fwd:=fun q hq=>quo_fwd hq
 bad:=fun q hq=>quo_bad hq
 is:=fun acc q w ⟨L,v,J⟩ hq=>by
  refine (callO (is_sem s [41] q hq hs (by decide)) (rep_flat rfl) J.st [.string ⟨#[41]⟩] rfl (fun j d v hd hv=>by match j,hd,hv with|0,hd,hv=>cases hd;cases hv;exact .str _)).mono fun e w' he => ?_
  obtain ⟨u,rfl,H2,B2,F2⟩:=he
  cases F2
  exact ⟨rfl,L,v,J.call H2 B2⟩
 want:=fun acc q w ⟨L,v,J⟩ hq=>by
  refine (callO (want_sem s [44,32] q hq hs (by decide)) rep_unit J.st [.string ⟨#[44,32]⟩] rfl (fun j d v hd hv=>by match j,hd,hv with|0,hd,hv=>cases hd;cases hv;exact .str _)).mono fun e w' he => ?_
  obtain ⟨u,rfl,H2,B2,F2⟩:=he
  obtain ⟨us,rfl,hl,_⟩:=F2.tup_inv
  obtain rfl:=List.length_eq_zero_iff.1 hl
  exact ⟨rfl,L,v,J.call H2 B2⟩
 one:=fun acc q w ⟨L,v,J⟩ hq _ hlen=>⟨_,_,rfl,inferInstance,val_at J hcs hq hs (by omega)⟩
theorem row_calm (c:Cond):(D.agg c.row).calm=true:=by
 cases c
 rw [Cond.row_mk]
 rfl
theorem test_sem (s:Str) (hs:s.length≤100000000):TestP s:=fun i hi=>by
 have c1:=path_sem s (i,false) hi hs
 have h1:=path_fwd (s:=s) (q:=(i,false)) hi
 have c2:=want_sem s [32] (pathS s (i,false)).2 h1.2 hs (by decide)
 have h2:=want_fwd [32] h1.2
 have hT:testS s (i,false)=testS s (i,false):=rfl
 obtain ⟨T,hT⟩:∃ T,T=testS s (i,false):=⟨_,rfl⟩
 rw [← hT]
 unfold testS at hT
 dsimp only at hT
 generalize wantS s [32] (pathS s (i,false)).2=q2 at *
 generalize pathS s (i,false)=r at *
 have hq2:q2.1≤s.length:=h2.2
 have ci:=is_sem s wIn q2 hq2 hs (by decide)
 have cf:=is_sem s wFrom q2 hq2 hs (by decide)
 refine semO_hand (row_calm T.1) fun S b w hst => ?_
 go_enter Tryz.func37,Tryz.ntmps37
 repeat' (first|(with_reducible first|apply wp_block|apply wp_skip|apply wp_exit)|((with_reducible apply wp_seq_k);intro K hK)|simp only [Exit.then,Exit.inBlock,↓reduceIte,Nat.reduceEqDiff]|((with_reducible apply wp_cond_true);exact rfl)|((with_reducible apply wp_cond_false);exact rfl)|((fail_if_success with_reducible apply no_region);go_step))
 with_reducible apply (wp_region_lit (id:=0))
 refine l_box1 (v:=.pointer (some ⟨b,0,none⟩)) rfl rfl fun boxR w1 hb1 hx1 hg1 => ?_
 (try simp only [SS,Nat.reduceAdd])
 refine l_alloc fun g2 w2 hb2 hx2 hg2 => ?_
 (try simp only [SS,Nat.reduceAdd])
 apply wpList_nil
 have H2:Hst S b [g2,boxR] s (i,false) w2:=(hst.own hx1 (by omega) hb1.lt).own hx2 (by omega) hb2.lt
 have hs1:=hx1.size
 have hs2:=hx2.size
 have hl1:=hb1.lt
 have hl2:=hb2.lt
 have kR2:w2.heap[boxR]?=some (.cells #[.pointer (some ⟨b,0,none⟩)] 44 (0,0)):=hb1.ext hx2
 have kG2:w2.heap[g2]?=some (.cells zeroV.toArray 25 (0,0)):=hb2
 have X2:Far b w w2:=(Far.mk (Bel.of (Ext.refl w)) (Keeps.refl 0 _)).ext hst.blt (hx1.trans hx2)
 repeat' (first|(with_reducible first|apply wp_block|apply wp_skip|apply wp_exit)|((with_reducible apply wp_seq_k);intro K hK)|simp only [Exit.then,Exit.inBlock,↓reduceIte,Nat.reduceEqDiff]|((with_reducible apply wp_cond_true);exact rfl)|((with_reducible apply wp_cond_false);exact rfl)|((fail_if_success with_reducible apply no_region);go_step))
 with_reducible apply (wp_region_lit (id:=1))
 refine l_load1 rfl ((cell_of_row _ boxR 0 _ _ _ kR2).trans rfl) ?_;(try simp only [SS,Nat.reduceAdd])
 refine l_callO c1 (rep_flat rfl) H2 (vs := []) rfl rfl fz0 fun u3 w3 H3 B3 F3 => ?_
 cases F3
 (try simp only [SS,Nat.reduceAdd])
 have kR3:=(B3.1.block boxR (H2.lt boxR (by simp)).1 (H2.lt boxR (by simp)).2).trans kR2
 have kG3:=(B3.1.block g2 (H2.lt g2 (by simp)).1 (H2.lt g2 (by simp)).2).trans kG2
 have X3:=X2.call H2.blt B3
 refine l_build (vals := [(2,.string ⟨r.1.toArray⟩)]) (cs := [.int .i64 0,.slice none 0 0,.string ⟨r.1.toArray⟩,.slice none 0 0,.int .i64 0,.int .i64 0]) rfl rfl ?_
 (try simp only [SS,Nat.reduceAdd])
 refine l_alloc fun C w4 hb4 hx4 hg4 => ?_
 (try simp only [SS,Nat.reduceAdd])
 have H4:Hst S b [C,g2,boxR] s r.2 w4:=H3.own hx4 (by omega) hb4.lt
 have hs3:=B3.1.size
 have lR:=(H3.lt boxR (by simp)).1
 have lG:=(H3.lt g2 (by simp)).1
 have kR4:=(hx4.block lR).trans kR3
 have kG4:=(hx4.block lG).trans kG3
 have X4:=X3.ext H3.blt hx4
 have nCR:C ≠ boxR:=by omega
 have nCG:C ≠ g2:=by omega
 have hCw:w.heap.size≤C:=by omega
 have hgw:w.heap.size≤g2:=by omega
 refine l_storeW (n:=6) (o:=0) (by kernel_rfl) rfl (us := [.int .i64 0,.slice none 0 0,.string ⟨r.1.toArray⟩,.slice none 0 0,.int .i64 0,.int .i64 0]) rfl rfl (by simp [Value.oneCell']) hb4 (by simp) (cur' := #[.int .i64 0,.slice none 0 0,.string ⟨r.1.toArray⟩,.slice none 0 0,.int .i64 0,.int .i64 0]) rfl fun w5 wr5 => ?_
 have H5:=H4.write (by simp) wr5
 have kR5:=(wr5.other boxR (Ne.symm nCR)).trans kR4
 have kG5:=(wr5.other g2 (Ne.symm nCG)).trans kG4
 have kC5:=wr5.now
 have X5:=X4.write hCw (H4.lt C (by simp)).2 wr5
 (try simp only [SS,Nat.reduceAdd])
 apply wpList_nil
 repeat' (first|(with_reducible first|apply wp_block|apply wp_skip|apply wp_exit)|((with_reducible apply wp_seq_k);intro K hK)|simp only [Exit.then,Exit.inBlock,↓reduceIte,Nat.reduceEqDiff]|((with_reducible apply wp_cond_true);exact rfl)|((with_reducible apply wp_cond_false);exact rfl)|((fail_if_success with_reducible apply no_region);go_step))
 with_reducible apply (wp_region_lit (id:=2))
 refine l_load1 rfl ((cell_of_row _ boxR 0 _ _ _ kR5).trans rfl) ?_;(try simp only [SS,Nat.reduceAdd])
 refine l_callO c2 rep_unit H5 (vs := [.string ⟨#[32]⟩]) rfl rfl fz1 fun u6 w6 H6 B6 F6 => ?_
 (try simp only [SS,Nat.reduceAdd])
 apply wpList_nil
 have kR6:=(B6.1.block boxR (H5.lt boxR (by simp)).1 (H5.lt boxR (by simp)).2).trans kR5
 have kG6:=(B6.1.block g2 (H5.lt g2 (by simp)).1 (H5.lt g2 (by simp)).2).trans kG5
 have X6:=X5.call H5.blt B6
 have kC6:=(B6.1.block C (H5.lt C (by simp)).1 (H5.lt C (by simp)).2).trans kC5
 cases ha:isS s wIn q2 with
 |true=>
  rw [ha,if_pos rfl] at ci
  rw [if_pos ha] at hT
  subst hT
  have hle:q2.1+4≤s.length:=starts_le (t:=wIn) (by unfold isS at ha;rw [Bool.and_eq_true] at ha;exact ha.2) hq2
  repeat' (first|(with_reducible first|apply wp_block|apply wp_skip|apply wp_exit)|((with_reducible apply wp_seq_k);intro K hK)|simp only [Exit.then,Exit.inBlock,↓reduceIte,Nat.reduceEqDiff]|((with_reducible apply wp_cond_true);exact rfl)|((with_reducible apply wp_cond_false);exact rfl)|((fail_if_success with_reducible apply no_region);go_step))
  with_reducible apply (wp_region_lit (id:=7))
  refine l_load1 rfl ((cell_of_row _ boxR 0 _ _ _ kR6).trans rfl) ?_;(try simp only [SS,Nat.reduceAdd])
  refine l_callO ci (rep_flat rfl) H6 (vs := [.string ⟨wIn.toArray⟩]) rfl rfl fz1 fun u7 w7 H7 B7 F7 => ?_
  cases F7
  (try simp only [SS,Nat.reduceAdd])
  refine l_assign rfl ?_;(try simp only [SS,Nat.reduceAdd])
  apply wpList_nil
  have kR7:=(B7.1.block boxR (H6.lt boxR (by simp)).1 (H6.lt boxR (by simp)).2).trans kR6
  have kG7:=(B7.1.block g2 (H6.lt g2 (by simp)).1 (H6.lt g2 (by simp)).2).trans kG6
  have X7:=X6.call H6.blt B7
  have kC7:=(B7.1.block C (H6.lt C (by simp)).1 (H6.lt C (by simp)).2).trans kC6
  repeat' (first|(with_reducible first|apply wp_block|apply wp_skip|apply wp_exit)|((with_reducible apply wp_seq_k);intro K hK)|simp only [Exit.then,Exit.inBlock,↓reduceIte,Nat.reduceEqDiff]|((with_reducible apply wp_cond_true);exact rfl)|((with_reducible apply wp_cond_false);exact rfl)|((fail_if_success with_reducible apply no_region);go_step))
  with_reducible apply (wp_region_lit (id:=8))
  refine l_fieldAddr rfl ?_;(try simp only [SS,Nat.reduceAdd])
  refine l_storeW (n:=1) (o:=0) (by kernel_rfl) rfl (us := [.int .i64 5]) rfl rfl (by simp [Value.oneCell']) kC7 (by simp) (cur' := #[.int .i64 5,.slice none 0 0,.string ⟨r.1.toArray⟩,.slice none 0 0,.int .i64 0,.int .i64 0]) rfl fun w8 wr8 => ?_
  have H8:=H7.write (k:=C) (by simp) wr8
  have kR8:=(wr8.other boxR (Ne.symm nCR)).trans kR7
  have kG8:=(wr8.other g2 (Ne.symm nCG)).trans kG7
  have kC8:=wr8.now
  have X8:=X7.write hCw (H7.lt C (by simp)).2 wr8
  (try simp only [SS,Nat.reduceAdd])
  apply wpList_nil
  repeat' (first|(with_reducible first|apply wp_block|apply wp_skip|apply wp_exit)|((with_reducible apply wp_seq_k);intro K hK)|simp only [Exit.then,Exit.inBlock,↓reduceIte,Nat.reduceEqDiff]|((with_reducible apply wp_cond_true);exact rfl)|((with_reducible apply wp_cond_false);exact rfl)|((fail_if_success with_reducible apply no_region);go_step))
  with_reducible apply (wp_region_lit (id:=9))
  refine l_load1 rfl ((cell_of_row _ boxR 0 _ _ _ kR8).trans rfl) ?_;(try simp only [SS,Nat.reduceAdd])
  refine l_makeFunc (vs := [.pointer (some ⟨C,0,none⟩),.pointer (some ⟨boxR,0,none⟩)]) rfl ?_
  (try simp only [SS,Nat.reduceAdd])
  have J8:JV S w b C boxR g2 s [.int .i64 5,.slice none 0 0,.string ⟨r.1.toArray⟩,.slice none 0 0,.int .i64 0,.int .i64 0] [] (q2.1+4,false) w8 [C,g2,boxR] (.slice none 0 0):=⟨H8,by simp,by simp,nCR,⟨by simp,Ne.symm nCG⟩,kG8,(fun k hk=>by simp at hk;omega),kR8,kC8,Own.nil _ _ _ _,(fun g hg=>nomatch hg),X8,hst.blt,fun k φ hk=>(Array.getElem?_eq_some_iff.1 (hst.gl k φ hk).2.choose_spec.1).1⟩
  have hsev:=several_at (sev_vals (S0:=S) (w0:=w) (b:=b) (C:=C) (boxR:=boxR) (g2:=g2) (lo:=0) (cs := [.int .i64 5,.slice none 0 0,.string ⟨r.1.toArray⟩,.slice none 0 0,.int .i64 0,.int .i64 0]) rfl hs) w8 (q2.1+4,false) ⟨_,_,J8⟩ hle rfl (by dsimp only;omega) (Nat.zero_le _)
  generalize sevS (quoS s) s (s.length+1) (q2.1+4,false)=rv at *
  obtain ⟨acc,q'⟩:=rv
  dsimp only at hsev ⊢
  refine l_enter (al := [.pointer (some ⟨b,0,none⟩),.func (.func 69) #[] #[.pointer (some ⟨C,0,none⟩),.pointer (some ⟨boxR,0,none⟩)]]) rfl (hsev.mono fun ee w9 he => ?_)
  obtain ⟨rfl,L,v,J9⟩:=he
  (try simp only [SS,Nat.reduceAdd])
  apply wpList_nil
  have hv1:v.oneCell'=true:=by
   obtain ⟨_,h2⟩:=J9.own.own
   rcases h2 with ⟨rfl,_⟩|⟨g,cap,cur,rfl,_⟩<;>rfl
  have kG9:w9.heap[g2]?=some (.cells zeroV.toArray 25 (0,0)):=J9.res
  have kC9:w9.heap[C]?=some (.cells #[.int .i64 5,.slice none 0 0,.string ⟨r.1.toArray⟩,v,.int .i64 0,.int .i64 0] 25 (0,0)):=J9.var
  repeat' (first|(with_reducible first|apply wp_block|apply wp_skip|apply wp_exit)|((with_reducible apply wp_seq_k);intro K hK)|simp only [Exit.then,Exit.inBlock,↓reduceIte,Nat.reduceEqDiff]|((with_reducible apply wp_cond_true);exact rfl)|((with_reducible apply wp_cond_false);exact rfl)|((fail_if_success with_reducible apply no_region);go_step))
  with_reducible apply (wp_region_lit (id:=13))
  have hrow:RowAt w9 C 0 [.int .i64 5,.slice none 0 0,.string ⟨r.1.toArray⟩,v,.int .i64 0,.int .i64 0]:=fun j u hu=>(cell_of_row w9 C (0+j) _ _ _ kC9).trans (by simpa using hu)
  refine l_loadN rfl hrow rfl ?_;(try simp only [SS,Nat.reduceAdd])
  refine l_storeW (n:=6) (o:=0) (by kernel_rfl) rfl (us := [.int .i64 5,.slice none 0 0,.string ⟨r.1.toArray⟩,v,.int .i64 0,.int .i64 0]) rfl rfl (by simp [Value.oneCell'];exact hv1) kG9 (by decide) (cur' := #[.int .i64 5,.slice none 0 0,.string ⟨r.1.toArray⟩,v,.int .i64 0,.int .i64 0]) rfl fun w10 wr10 => ?_
  (try simp only [SS,Nat.reduceAdd])
  apply wpList_nil
  repeat' (first|(with_reducible first|apply wp_block|apply wp_skip|apply wp_exit)|((with_reducible apply wp_seq_k);intro K hK)|simp only [Exit.then,Exit.inBlock,↓reduceIte,Nat.reduceEqDiff]|((with_reducible apply wp_cond_true);exact rfl)|((with_reducible apply wp_cond_false);exact rfl)|((fail_if_success with_reducible apply no_region);go_step))
  have hrow2:RowAt w10 g2 0 [.int .i64 5,.slice none 0 0,.string ⟨r.1.toArray⟩,v,.int .i64 0,.int .i64 0]:=fun j u hu=>(cell_of_row w10 g2 (0+j) _ _ _ wr10.now).trans (by simpa using hu)
  refine bodyPost_ret (results_row (t:=2) rfl rfl hrow2 rfl) rfl ?_
  have hL':∀ k,k ∈ L.filter (fun k => !decide (v.ownBlock=some k))→k ∈ L:=fun k hk=>(List.mem_filter.1 hk).1
  have hgb:g2 ≠ b:=(J9.st.lt g2 J9.inG.1).2
  have X10:=J9.far.write hgw hgb wr10
  have H10:=J9.st.write J9.inG.1 wr10
  have hvb:v.ownBlock ≠ some b:=fun e=>(J9.st.lt b (J9.blk b e).1).2 rfl
  have own10:Own w10 w.heap.size 9 1 v (acc.map fun u => [.string ⟨u.toArray⟩]):=⟨J9.own.own.kept (row:=some g2) ⟨wr10.os,wr10.tape,wr10.output,by rw [wr10.size];exact Nat.le_refl _,fun k hk hn=>wr10.other k (fun e=>hn (by rw [e]))⟩ (by
   cases hx:v.ownBlock with
   |none=>simp
   | some g=>have:=(J9.blk g hx).2.2.2;simpa [eq_comm] using this),J9.own.each⟩
  refine ⟨_,rfl,L.filter (fun k => !decide (v.ownBlock=some k)),H10.sub hL',fun k hk=>J9.new k (hL' k hk),X10.bel,X10.keep,?_⟩
  rw [Cond.row_mk]
  refine fz_row ?_ hv1
  refine own10.frozen (by rw [List.length_map,List.length_map]) (fun r hr => ?_) hvb (fun g hg=>⟨fun hm => ?_,?_⟩) fun k x r hx hr => ?_
  ·obtain ⟨c,_,rfl⟩:=List.mem_map.1 hr
   rfl
  ·have:=(List.mem_filter.1 hm).2
   rw [hg] at this
   simp at this
  ·cases ho:S.own g with
   |none=>rfl
   |some x=>
    have h2:=hst.base g x ho
    have h3:=J9.new g (J9.blk g hg).1
    omega
  ·rw [List.getElem?_map] at hx hr
   cases hc:acc[k]? with
   |none=>rw [hc] at hr;cases hr
   |some c=>
    rw [hc] at hx hr
    cases hx
    cases hr
    refine Fz.agg [.string ⟨c.toArray⟩] rfl (fun u hu=>by rw [List.mem_singleton.1 hu];rfl) fun j d u hd hu => ?_
    match j,hd,hu with
    |0,hd,hu=>cases hd;cases hu;exact .str _
 |false=>
  rw [ha,if_neg (fun h=>nomatch h)] at ci
  rw [if_neg (by rw [ha];exact fun h=>nomatch h)] at hT
  repeat' (first|(with_reducible first|apply wp_block|apply wp_skip|apply wp_exit)|((with_reducible apply wp_seq_k);intro K hK)|simp only [Exit.then,Exit.inBlock,↓reduceIte,Nat.reduceEqDiff]|((with_reducible apply wp_cond_true);exact rfl)|((with_reducible apply wp_cond_false);exact rfl)|((fail_if_success with_reducible apply no_region);go_step))
  with_reducible apply (wp_region_lit (id:=7))
  refine l_load1 rfl ((cell_of_row _ boxR 0 _ _ _ kR6).trans rfl) ?_;(try simp only [SS,Nat.reduceAdd])
  refine l_callO ci (rep_flat rfl) H6 (vs := [.string ⟨wIn.toArray⟩]) rfl rfl fz1 fun u7 w7 H7 B7 F7 => ?_
  cases F7
  (try simp only [SS,Nat.reduceAdd])
  refine l_assign rfl ?_;(try simp only [SS,Nat.reduceAdd])
  apply wpList_nil
  have kR7:=(B7.1.block boxR (H6.lt boxR (by simp)).1 (H6.lt boxR (by simp)).2).trans kR6
  have kG7:=(B7.1.block g2 (H6.lt g2 (by simp)).1 (H6.lt g2 (by simp)).2).trans kG6
  have X7:=X6.call H6.blt B7
  have kC7:=(B7.1.block C (H6.lt C (by simp)).1 (H6.lt C (by simp)).2).trans kC6
  cases hf:isS s wFrom q2 with
  |true=>
   rw [hf,if_pos rfl] at cf
   rw [if_pos hf] at hT
   subst hT
   have hle:q2.1+5≤s.length:=starts_le (t:=wFrom) (by unfold isS at hf;rw [Bool.and_eq_true] at hf;exact hf.2) hq2
   repeat' (first|(with_reducible first|apply wp_block|apply wp_skip|apply wp_exit)|((with_reducible apply wp_seq_k);intro K hK)|simp only [Exit.then,Exit.inBlock,↓reduceIte,Nat.reduceEqDiff]|((with_reducible apply wp_cond_true);exact rfl)|((with_reducible apply wp_cond_false);exact rfl)|((fail_if_success with_reducible apply no_region);go_step))
   with_reducible apply (wp_region_lit (id:=10))
   refine l_load1 rfl ((cell_of_row _ boxR 0 _ _ _ kR7).trans rfl) ?_;(try simp only [SS,Nat.reduceAdd])
   refine l_callO cf (rep_flat rfl) H7 (vs := [.string ⟨wFrom.toArray⟩]) rfl rfl fz1 fun u8 w8 H8 B8 F8 => ?_
   cases F8
   (try simp only [SS,Nat.reduceAdd])
   refine l_assign rfl ?_;(try simp only [SS,Nat.reduceAdd])
   apply wpList_nil
   have kR8:=(B8.1.block boxR (H7.lt boxR (by simp)).1 (H7.lt boxR (by simp)).2).trans kR7
   have kG8:=(B8.1.block g2 (H7.lt g2 (by simp)).1 (H7.lt g2 (by simp)).2).trans kG7
   have X8:=X7.call H7.blt B8
   have kC8:=(B8.1.block C (H7.lt C (by simp)).1 (H7.lt C (by simp)).2).trans kC7
   repeat' (first|(with_reducible first|apply wp_block|apply wp_skip|apply wp_exit)|((with_reducible apply wp_seq_k);intro K hK)|simp only [Exit.then,Exit.inBlock,↓reduceIte,Nat.reduceEqDiff]|((with_reducible apply wp_cond_true);exact rfl)|((with_reducible apply wp_cond_false);exact rfl)|((fail_if_success with_reducible apply no_region);go_step))
   with_reducible apply (wp_region_lit (id:=11))
   refine l_fieldAddr rfl ?_;(try simp only [SS,Nat.reduceAdd])
   refine l_storeW (n:=1) (o:=0) (by kernel_rfl) rfl (us := [.int .i64 9]) rfl rfl (by simp [Value.oneCell']) kC8 (by simp) (cur' := #[.int .i64 9,.slice none 0 0,.string ⟨r.1.toArray⟩,.slice none 0 0,.int .i64 0,.int .i64 0]) rfl fun w9 wr9 => ?_
   have H9:=H8.write (k:=C) (by simp) wr9
   have kR9:=(wr9.other boxR (Ne.symm nCR)).trans kR8
   have kG9:=(wr9.other g2 (Ne.symm nCG)).trans kG8
   have kC9:=wr9.now
   have X9:=X8.write hCw (H8.lt C (by simp)).2 wr9
   (try simp only [SS,Nat.reduceAdd])
   apply wpList_nil
   repeat' (first|(with_reducible first|apply wp_block|apply wp_skip|apply wp_exit)|((with_reducible apply wp_seq_k);intro K hK)|simp only [Exit.then,Exit.inBlock,↓reduceIte,Nat.reduceEqDiff]|((with_reducible apply wp_cond_true);exact rfl)|((with_reducible apply wp_cond_false);exact rfl)|((fail_if_success with_reducible apply no_region);go_step))
   with_reducible apply (wp_region_lit (id:=12))
   refine l_load1 rfl ((cell_of_row _ boxR 0 _ _ _ kR9).trans rfl) ?_;(try simp only [SS,Nat.reduceAdd])
   have hE:=ends_at H9 (C:=C) (by simp) kC9 hle hs
   change Calls _ _ _ _ (fun e' w'=>e'=.returned (.tuple #[])∧Hst S b _ s (endsS s (q2.1+5,false)).2 w'∧w'.heap[C]?=some (.cells #[_,_,_,_,.int .i64 (endsS s (q2.1+5,false)).1.1,.int .i64 (endsS s (q2.1+5,false)).1.2] _ (0,0))∧Bel2 S b _ C w9 w') at hE
   generalize endsS s (q2.1+5,false)=ends at *
   refine l_enter (al := [.pointer (some ⟨b,0,none⟩),.pointer (some ⟨C,0,none⟩)]) rfl (hE.mono fun ee w10 he => ?_)
   obtain ⟨rfl,H10,kC10,B10⟩:=he
   have kG10:=(B10.block g2 (H9.lt g2 (by simp)).1 (H9.lt g2 (by simp)).2 (Ne.symm nCG)).trans kG9
   have X10:=X9.bel2 hCw B10
   (try simp only [SS,Nat.reduceAdd])
   apply wpList_nil
   repeat' (first|(with_reducible first|apply wp_block|apply wp_skip|apply wp_exit)|((with_reducible apply wp_seq_k);intro K hK)|simp only [Exit.then,Exit.inBlock,↓reduceIte,Nat.reduceEqDiff]|((with_reducible apply wp_cond_true);exact rfl)|((with_reducible apply wp_cond_false);exact rfl)|((fail_if_success with_reducible apply no_region);go_step))
   with_reducible apply (wp_region_lit (id:=13))
   have hrow:RowAt w10 C 0 [.int .i64 9,.slice none 0 0,.string ⟨r.1.toArray⟩,.slice none 0 0,.int .i64 ends.1.1,.int .i64 ends.1.2]:=fun j u hu=>(cell_of_row w10 C (0+j) _ _ _ kC10).trans (by simpa using hu)
   refine l_loadN rfl hrow rfl ?_;(try simp only [SS,Nat.reduceAdd])
   refine l_storeW (n:=6) (o:=0) (by kernel_rfl) rfl (us := [.int .i64 9,.slice none 0 0,.string ⟨r.1.toArray⟩,.slice none 0 0,.int .i64 ends.1.1,.int .i64 ends.1.2]) rfl rfl (by simp [Value.oneCell']) kG10 (by decide) (cur' := #[.int .i64 9,.slice none 0 0,.string ⟨r.1.toArray⟩,.slice none 0 0,.int .i64 ends.1.1,.int .i64 ends.1.2]) rfl fun w11 wr11 => ?_
   (try simp only [SS,Nat.reduceAdd])
   apply wpList_nil
   repeat' (first|(with_reducible first|apply wp_block|apply wp_skip|apply wp_exit)|((with_reducible apply wp_seq_k);intro K hK)|simp only [Exit.then,Exit.inBlock,↓reduceIte,Nat.reduceEqDiff]|((with_reducible apply wp_cond_true);exact rfl)|((with_reducible apply wp_cond_false);exact rfl)|((fail_if_success with_reducible apply no_region);go_step))
   have hrow2:RowAt w11 g2 0 [.int .i64 9,.slice none 0 0,.string ⟨r.1.toArray⟩,.slice none 0 0,.int .i64 ends.1.1,.int .i64 ends.1.2]:=fun j u hu=>(cell_of_row w11 g2 (0+j) _ _ _ wr11.now).trans (by simpa using hu)
   refine bodyPost_ret (results_row (t:=2) rfl rfl hrow2 rfl) rfl ?_
   have X11:=X10.write hgw (H10.lt g2 (by simp)).2 wr11
   have H11:=H10.write (k:=g2) (by simp) wr11
   refine ⟨_,rfl,[C,g2,boxR],H11,(fun k hk=>by simp at hk;omega),X11.bel,X11.keep,?_⟩
   try dsimp only
   rw [Cond.row_mk]
   exact fz_row (.slNil _ _) rfl
  |false=>
   rw [hf,if_neg (fun h=>nomatch h)] at cf
   rw [if_neg (by rw [hf];exact fun h=>nomatch h)] at hT
   subst hT
   have cp:=prefixAt s [102] q2.1
   repeat' (first|(with_reducible first|apply wp_block|apply wp_skip|apply wp_exit)|((with_reducible apply wp_seq_k);intro K hK)|simp only [Exit.then,Exit.inBlock,↓reduceIte,Nat.reduceEqDiff]|((with_reducible apply wp_cond_true);exact rfl)|((with_reducible apply wp_cond_false);exact rfl)|((fail_if_success with_reducible apply no_region);go_step))
   with_reducible apply (wp_region_lit (id:=10))
   refine l_load1 rfl ((cell_of_row _ boxR 0 _ _ _ kR7).trans rfl) ?_;(try simp only [SS,Nat.reduceAdd])
   refine l_callO cf (rep_flat rfl) H7 (vs := [.string ⟨wFrom.toArray⟩]) rfl rfl fz1 fun u8 w8 H8 B8 F8 => ?_
   cases F8
   (try simp only [SS,Nat.reduceAdd])
   refine l_assign rfl ?_;(try simp only [SS,Nat.reduceAdd])
   apply wpList_nil
   have kR8:=(B8.1.block boxR (H7.lt boxR (by simp)).1 (H7.lt boxR (by simp)).2).trans kR7
   have kG8:=(B8.1.block g2 (H7.lt g2 (by simp)).1 (H7.lt g2 (by simp)).2).trans kG7
   have X8:=X7.call H7.blt B8
   have kC8:=(B8.1.block C (H7.lt C (by simp)).1 (H7.lt C (by simp)).2).trans kC7
   repeat' (first|(with_reducible first|apply wp_block|apply wp_skip|apply wp_exit)|((with_reducible apply wp_seq_k);intro K hK)|simp only [Exit.then,Exit.inBlock,↓reduceIte,Nat.reduceEqDiff]|((with_reducible apply wp_cond_true);exact rfl)|((with_reducible apply wp_cond_false);exact rfl)|((fail_if_success with_reducible apply no_region);go_step))
   obtain ⟨er,hrd⟩:=H8.rd
   (with_reducible apply (wp_region_par (id:=3)));kernel_rfl;kernel_rfl;exact rfl
   apply p_load1;exact rfl;exact (cell_of_row _ boxR 0 _ _ _ kR8).trans rfl;(try simp only [SS,Nat.reduceAdd])
   apply p_nilCheck;exact rfl;(try simp only [SS,Nat.reduceAdd])
   apply p_fieldAddr;exact rfl;(try simp only [SS,Nat.reduceAdd])
   apply p_load1;exact rfl;exact (cell_of_row _ b 0 _ _ _ hrd).trans rfl;(try simp only [SS,Nat.reduceAdd])
   apply p_load1;exact rfl;exact (cell_of_row _ boxR 0 _ _ _ kR8).trans rfl;(try simp only [SS,Nat.reduceAdd])
   apply p_nilCheck;exact rfl;(try simp only [SS,Nat.reduceAdd])
   apply p_fieldAddr;exact rfl;(try simp only [SS,Nat.reduceAdd])
   apply p_load1;exact rfl;exact (cell_of_row _ b 1 _ _ _ hrd).trans rfl;(try simp only [SS,Nat.reduceAdd])
   apply p_slice_str (l:=q2.1) (h:=s.length);exact rfl;exact ⟨_,rfl⟩;exact rfl;exact hq2;exact Nat.le_refl _;(try simp only [SS,Nat.reduceAdd])
   apply p_assign;exact rfl;(try simp only [SS,Nat.reduceAdd])
   apply par_nil;intro w9 hx9 _
   have H9:=H8.ext hx9
   have kR9:=(hx9.block (H8.lt boxR (by simp)).1).trans kR8
   have kG9:=(hx9.block (H8.lt g2 (by simp)).1).trans kG8
   have kC9:=(hx9.block (H8.lt C (by simp)).1).trans kC8
   have X9:=X8.ext H8.blt hx9
   repeat' (first|(with_reducible first|apply wp_block|apply wp_skip|apply wp_exit)|((with_reducible apply wp_seq_k);intro K hK)|simp only [Exit.then,Exit.inBlock,↓reduceIte,Nat.reduceEqDiff]|((with_reducible apply wp_cond_true);exact rfl)|((with_reducible apply wp_cond_false);exact rfl)|((fail_if_success with_reducible apply no_region);go_step))
   with_reducible apply (wp_region_lit (id:=4))
   refine l_move rfl ?_;(try simp only [SS,Nat.reduceAdd])
   rw [show (s.take s.length).drop q2.1=(s.take ((s.length:Int)).toNat).drop ((q2.1:Int)).toNat by simp]
   refine l_enter (al := [.string ⟨((s.take ((s.length:Int)).toNat).drop ((q2.1:Int)).toNat).toArray⟩,.string ⟨#[102]⟩]) rfl ((callB cp H9 [.string ⟨((s.take ((s.length:Int)).toNat).drop ((q2.1:Int)).toNat).toArray⟩,.string ⟨#[102]⟩] rfl (fun j d v hd hv=>by match j,hd,hv with|0,hd,hv=>cases hd;cases hv;exact .str _|1,hd,hv=>cases hd;cases hv;exact .str _)).mono fun ee w10 he => ?_)
   obtain ⟨rfl,hx10⟩:=he
   (try simp only [SS,Nat.reduceAdd])
   apply wpList_nil
   have H10:=H9.ext hx10
   have kR10:=(hx10.block (H9.lt boxR (by simp)).1).trans kR9
   have kG10:=(hx10.block (H9.lt g2 (by simp)).1).trans kG9
   have kC10:=(hx10.block (H9.lt C (by simp)).1).trans kC9
   have X10:=X9.ext H9.blt hx10
   have hW:∀ t:Str,t.length≤100→SemO Tryz.prog 34 (.obj (pC s q2)) [.str t] (.tup []) (some (.obj (pC s (wantS s t q2)))):=fun t ht=>want_sem s t q2 hq2 hs ht
   cases hg:startsAt s [102] q2.1 with
   |true=>
    repeat' (first|(with_reducible first|apply wp_block|apply wp_skip|apply wp_exit)|((with_reducible apply wp_seq_k);intro K hK)|simp only [Exit.then,Exit.inBlock,↓reduceIte,Nat.reduceEqDiff]|((with_reducible apply wp_cond_true);exact rfl)|((with_reducible apply wp_cond_false);exact rfl)|((fail_if_success with_reducible apply no_region);go_step))
    with_reducible apply (wp_region_lit (id:=5))
    refine l_load1 rfl ((cell_of_row _ boxR 0 _ _ _ kR10).trans rfl) ?_;(try simp only [SS,Nat.reduceAdd])
    refine l_callO (hW wFrom (by decide)) rep_unit H10 (vs := [.string ⟨wFrom.toArray⟩]) rfl rfl fz1 fun u11 w11 H11 B11 F11 => ?_
    (try simp only [SS,Nat.reduceAdd])
    apply wpList_nil
    have kG11:=(B11.1.block g2 (H10.lt g2 (by simp)).1 (H10.lt g2 (by simp)).2).trans kG10
    have X11:=X10.call H10.blt B11
    have kC11:=(B11.1.block C (H10.lt C (by simp)).1 (H10.lt C (by simp)).2).trans kC10
    repeat' (first|(with_reducible first|apply wp_block|apply wp_skip|apply wp_exit)|((with_reducible apply wp_seq_k);intro K hK)|simp only [Exit.then,Exit.inBlock,↓reduceIte,Nat.reduceEqDiff]|((with_reducible apply wp_cond_true);exact rfl)|((with_reducible apply wp_cond_false);exact rfl)|((fail_if_success with_reducible apply no_region);go_step))
    with_reducible apply (wp_region_lit (id:=13))
    have hrow:RowAt w11 C 0 [.int .i64 0,.slice none 0 0,.string ⟨r.1.toArray⟩,.slice none 0 0,.int .i64 0,.int .i64 0]:=fun j u hu=>(cell_of_row w11 C (0+j) _ _ _ kC11).trans (by simpa using hu)
    refine l_loadN rfl hrow rfl ?_;(try simp only [SS,Nat.reduceAdd])
    refine l_storeW (n:=6) (o:=0) (by kernel_rfl) rfl (us := [.int .i64 0,.slice none 0 0,.string ⟨r.1.toArray⟩,.slice none 0 0,.int .i64 0,.int .i64 0]) rfl rfl (by simp [Value.oneCell']) kG11 (by decide) (cur' := #[.int .i64 0,.slice none 0 0,.string ⟨r.1.toArray⟩,.slice none 0 0,.int .i64 0,.int .i64 0]) rfl fun w12 wr12 => ?_
    (try simp only [SS,Nat.reduceAdd])
    apply wpList_nil
    repeat' (first|(with_reducible first|apply wp_block|apply wp_skip|apply wp_exit)|((with_reducible apply wp_seq_k);intro K hK)|simp only [Exit.then,Exit.inBlock,↓reduceIte,Nat.reduceEqDiff]|((with_reducible apply wp_cond_true);exact rfl)|((with_reducible apply wp_cond_false);exact rfl)|((fail_if_success with_reducible apply no_region);go_step))
    have hrow2:RowAt w12 g2 0 [.int .i64 0,.slice none 0 0,.string ⟨r.1.toArray⟩,.slice none 0 0,.int .i64 0,.int .i64 0]:=fun j u hu=>(cell_of_row w12 g2 (0+j) _ _ _ wr12.now).trans (by simpa using hu)
    refine bodyPost_ret (results_row (t:=2) rfl rfl hrow2 rfl) rfl ?_
    have X12:=X11.write hgw (H11.lt g2 (by simp)).2 wr12
    have H12:=H11.write (k:=g2) (by simp) wr12
    refine ⟨_,rfl,[C,g2,boxR],(by rw [if_pos hg];exact H12),(fun k hk=>by simp at hk;omega),X12.bel,X12.keep,?_⟩
    try dsimp only
    rw [Cond.row_mk]
    exact fz_row (.slNil _ _) rfl
   |false=>
    repeat' (first|(with_reducible first|apply wp_block|apply wp_skip|apply wp_exit)|((with_reducible apply wp_seq_k);intro K hK)|simp only [Exit.then,Exit.inBlock,↓reduceIte,Nat.reduceEqDiff]|((with_reducible apply wp_cond_true);exact rfl)|((with_reducible apply wp_cond_false);exact rfl)|((fail_if_success with_reducible apply no_region);go_step))
    with_reducible apply (wp_region_lit (id:=6))
    refine l_load1 rfl ((cell_of_row _ boxR 0 _ _ _ kR10).trans rfl) ?_;(try simp only [SS,Nat.reduceAdd])
    refine l_callO (hW wIn (by decide)) rep_unit H10 (vs := [.string ⟨wIn.toArray⟩]) rfl rfl fz1 fun u11 w11 H11 B11 F11 => ?_
    (try simp only [SS,Nat.reduceAdd])
    apply wpList_nil
    have kG11:=(B11.1.block g2 (H10.lt g2 (by simp)).1 (H10.lt g2 (by simp)).2).trans kG10
    have X11:=X10.call H10.blt B11
    have kC11:=(B11.1.block C (H10.lt C (by simp)).1 (H10.lt C (by simp)).2).trans kC10
    repeat' (first|(with_reducible first|apply wp_block|apply wp_skip|apply wp_exit)|((with_reducible apply wp_seq_k);intro K hK)|simp only [Exit.then,Exit.inBlock,↓reduceIte,Nat.reduceEqDiff]|((with_reducible apply wp_cond_true);exact rfl)|((with_reducible apply wp_cond_false);exact rfl)|((fail_if_success with_reducible apply no_region);go_step))
    with_reducible apply (wp_region_lit (id:=13))
    have hrow:RowAt w11 C 0 [.int .i64 0,.slice none 0 0,.string ⟨r.1.toArray⟩,.slice none 0 0,.int .i64 0,.int .i64 0]:=fun j u hu=>(cell_of_row w11 C (0+j) _ _ _ kC11).trans (by simpa using hu)
    refine l_loadN rfl hrow rfl ?_;(try simp only [SS,Nat.reduceAdd])
    refine l_storeW (n:=6) (o:=0) (by kernel_rfl) rfl (us := [.int .i64 0,.slice none 0 0,.string ⟨r.1.toArray⟩,.slice none 0 0,.int .i64 0,.int .i64 0]) rfl rfl (by simp [Value.oneCell']) kG11 (by decide) (cur' := #[.int .i64 0,.slice none 0 0,.string ⟨r.1.toArray⟩,.slice none 0 0,.int .i64 0,.int .i64 0]) rfl fun w12 wr12 => ?_
    (try simp only [SS,Nat.reduceAdd])
    apply wpList_nil
    repeat' (first|(with_reducible first|apply wp_block|apply wp_skip|apply wp_exit)|((with_reducible apply wp_seq_k);intro K hK)|simp only [Exit.then,Exit.inBlock,↓reduceIte,Nat.reduceEqDiff]|((with_reducible apply wp_cond_true);exact rfl)|((with_reducible apply wp_cond_false);exact rfl)|((fail_if_success with_reducible apply no_region);go_step))
    have hrow2:RowAt w12 g2 0 [.int .i64 0,.slice none 0 0,.string ⟨r.1.toArray⟩,.slice none 0 0,.int .i64 0,.int .i64 0]:=fun j u hu=>(cell_of_row w12 g2 (0+j) _ _ _ wr12.now).trans (by simpa using hu)
    refine bodyPost_ret (results_row (t:=2) rfl rfl hrow2 rfl) rfl ?_
    have X12:=X11.write hgw (H11.lt g2 (by simp)).2 wr12
    have H12:=H11.write (k:=g2) (by simp) wr12
    refine ⟨_,rfl,[C,g2,boxR],(by rw [if_neg (by rw [hg];exact fun h=>nomatch h)];exact H12),(fun k hk=>by simp at hk;omega),X12.bel,X12.keep,?_⟩
    try dsimp only
    rw [Cond.row_mk]
    exact fz_row (.slNil _ _) rfl
end Go.Proofs.YtindehjiaknokaaGreatDoor
