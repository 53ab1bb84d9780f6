/- The copy of a segment: by hand. -/
import Derived.Test.YtdhlopciapncfaaGreatDoorZ9
namespace Go.Proofs.YtdhlopciapncfaaGreatDoor
set_option linter.unusedSimpArgs false
set_option linter.unusedVariables false
open Go.RowKit
set_option maxRecDepth 100000
set_option maxHeartbeats 4000000
def CloneEOk:Prop:=∀ els:List El,els.length≤50→Sem Tryz.prog 62 [.sl 0 1 (els.map elR)] (.sl 2 1 (els.map elR))
def CloneROk:Prop:=∀ e:El,e.length≤20→Sem Tryz.prog 63 [.sl 0 1 (e.map repR)] (.sl 2 1 (e.map repR))
def ClonePOk:Prop:=∀ p:List Str,p.length≤20→Sem Tryz.prog 19 [.sl 0 1 (p.map partR)] (.sl 2 1 (p.map partR))
section
variable {P:Program} {ops:Array Oper} {Q:Exit→Act→World→Prop} {rest:List Oper} {ss:List Spec} {fs:List (World→Prop)} {a:Act} {w:World} {dst:Option Tmp} {ty:TypeId} {pos:String} {after:Array Edge}
theorem p_enterR {f:FuncId} [e:Enters P f] {xl:List Operand} {al:List Value} {ts:Array TypeId} {R:Value→World→Prop} (hm:∀ v w w',Ext w w'→R v w→R v w') (hx:xl.map a.eval=al)
  (hc:∀ w1,Ext w w1→Calls P f al.toArray w1 (fun e w'=>∃ v,e=.returned v∧R v w'∧Ext w1 w')) (hr:∀ v,ParSteps P ops Q w rest ss (fs ++ [fun w'=>R v w']) (a.put dst v)):
  ParSteps P ops Q w (Oper.mk dst (.call ⟨.value (.func f),xl.toArray,ts⟩) ty pos after none::rest) (Spec.some' R hm::ss) fs a:=by
 refine par_unk rfl (fun w1 hw1 _ K hK => ?_) (fun u=>hr u.2.2)
 exact r_enter hx ((hc w1 hw1).mono fun e w' h=>by obtain ⟨v,rfl,h1,h2⟩:=h;exact hK (0,0,v) w' h1 h2)
end
def NewSl (n:Nat) (d:D) (v:Value):Prop:=∀ sz rows b l c,d=.sl 2 sz rows→rows ≠ []→v=.slice (some ⟨b,0,none⟩) l c→n≤b
theorem call_coreN {P:Program} {f:Nat} {ds':List D} {d:D} (hsem:Sem P f ds' d) {S:Sig} {w:World} (hw:WF S w) {vs:List Value} (hlen:vs.length=ds'.length) (hfz:∀ (i:Nat) (d:D) (v:Value),ds'[i]?=some d→vs[i]?=some v→Fz S.lim w v d) (p:Place):
  Calls P f vs.toArray w fun e w'=>∃ v S',e=.returned v∧PT S w S' w'∧Rep S' w' p v d∧NewSl w.heap.size d v:=by
 obtain ⟨hen,hcalm,hsem⟩:=hsem
 have hwh:WF S.hide w:=hw.hide
 refine (hsem S.hide w vs hwh hlen fun i d v hd hv=>.fz (by rw [S.hide_lim];exact hfz i d v hd hv)).mono fun e w' ⟨v,S',he,hw',ht,hrep⟩ => ?_
 have hold:∀ b,b < w.heap.size→w'.heap[b]?=w.heap[b]?∧S'.own b=S.hide.own b:=fun b hb=>by
  cases ho:S.own b with
  |none=>
   have h0:S.hide.own b=none:=by simp [Sig.hide,ho]
   obtain ⟨k1,k2⟩:=ht.free b hb h0
   exact ⟨k1,k2.trans h0.symm⟩
  |some y=>
   have h0:S.hide.own b=some (.dead,y.2):=by simp [Sig.hide,ho]
   obtain ⟨k1,k2⟩:=ht.foreign b _ _ hb h0 rfl
   exact ⟨k1,k2.trans h0.symm⟩
 have hext:Ext w w':=⟨ht.os,ht.tape,ht.output,ht.size,fun b hb=>(hold b hb).1⟩
 have hpt:PT S w (S.back w.heap.size S' p) w':=⟨hext,fun b hb=>by simp only [Sig.back,if_pos hb],rfl,⟨fun b x hb=>by
  by_cases hlt:b < w.heap.size
  ·exact Nat.lt_of_lt_of_le hlt ht.size
  ·simp only [Sig.back,if_neg hlt,Option.map_eq_some_iff] at hb
   obtain ⟨y,hy,_⟩:=hb
   exact hw' b y hy,hw.gl.keep fun b hb hn=>⟨(hold b hb).1,by simp only [Sig.back,if_pos hb];exact hn⟩⟩⟩
 have hfin:=Rep.back (p:=p) (fun b hb=>(hold b hb).2) (x := []) hcalm hrep
 rw [List.append_nil] at hfin
 refine ⟨v,_,he,hpt,hfin,fun sz rows b l c hd hne hv => ?_⟩
 subst hd
 rcases hrep.sl_inv with ⟨e1,_⟩|⟨b',cap,cur,e0,e1,g⟩
 ·rw [hv] at e1;first|exact absurd e1 (by simp)|exact absurd ‹rows = []› hne
 ·rw [hv] at e1
  cases e1
  rcases Nat.lt_or_ge b w.heap.size with hb|hb
  ·have h1:=(hold b hb).2
   rw [g.own] at h1
   simp only [Sig.hide] at h1
   cases ho:S.own b with
   |none=>rw [ho] at h1;cases h1
   |some y=>rw [ho] at h1;cases h1
  ·exact hb
def Copies (S:Sig) (w:World) (p:Place) (d:D) (v:Value) (w':World):Prop:=∃ S',PT S w S' w'∧Rep S' w' p v d∧NewSl w.heap.size d v
theorem Copies.mono {S:Sig} {w:World} {p:Place} {d:D} (v:Value) (w1 w2:World) (hx:Ext w1 w2) (h:Copies S w p d v w1):Copies S w p d v w2:=by
 obtain ⟨S',h1,h2,h3⟩:=h
 have k:=PT.ext' h1.wf hx
 exact ⟨S',h1.comp k,k.rep h1.wf h2,h3⟩
theorem Copies.call {P:Program} {f:Nat} {d0 d:D} (hs:Sem P f [d0] d) {S:Sig} {w:World} (hw:WF S w) {u:Value} (hu:Fz S.lim w u d0) (p:Place):∀ w1,Ext w w1→Calls P f [u].toArray w1 fun e w'=>∃ v,e=.returned v∧Copies S w p d v w'∧Ext w1 w':=fun w1 hx=>by
 have k:=PT.ext' hw hx
 refine (call_coreN hs k.wf rfl (fun i d v hd hv => ?_) p).mono fun e w' ⟨v,S',he,hp,hr,hn⟩=>⟨v,he,⟨S',k.comp hp,hr,fun sz rows b l c h1 h2 h3=>Nat.le_trans hx.sizeOf (hn sz rows b l c h1 h2 h3)⟩,hp.ext⟩
 match i,hd,hv with
 |0,hd,hv=>cases hd;cases hv;exact hu.trans k.trans
 |i+1,hd,_=>simp at hd
def idxOf:Value→Nat
 |.int _ n=>n.toNat
 |_=>0
theorem Rep.sl_val {S:Sig} {w:World} {p:Place} {v:Value} {sz:Nat} {rows:List (List D)} (h:Rep S w p v (.sl 2 sz rows)):∃ A cap,v=.slice A rows.length cap∧((rows = []∧Fz S.lim w v (.sl 0 sz []))∨(rows ≠ []∧∃ b cur e,A=some ⟨b,0,none⟩∧OwnAt S w p b cap 2 sz rows cur e)):=by
 rcases h.sl_inv with ⟨e,rfl⟩|⟨b,cap,cur,e,e',g⟩
 ·exact ⟨none,0,e,.inl ⟨rfl,by rw [e];exact .slNil 0 sz⟩⟩
 ·refine ⟨_,_,e',?_⟩
  by_cases hr:rows = []
  ·refine .inl ⟨hr,?_⟩
   subst hr
   rw [e']
   exact Fz.sl (rows := []) (fun _ _=>undef) (Nat.zero_le _) g.max (fun k r h=>by simp at h) (fun k r j d h=>by simp at h) (fun k r j d h=>by simp at h)
  ·exact .inr ⟨hr,b,cur,e,rfl,g⟩
structure ESt (S:Sig) (w:World) (g1 g2 bE capE:Nat) (u0 vE:Value) (els:List El) (Sk:Sig) (wk:World):Prop where
 pt:PT S w Sk wk
 box:Blk wk g1 76 #[u0,vE]
 own1:Sk.own g1=some (.dead,0)
 box2:∃ c,Blk wk g2 76 c∧c.size=2
 own2:Sk.own g2=some (.dead,0)
 zero:els = []→Fz Sk.lim wk vE (.sl 0 1 [])
 ownE:els ≠ []→Sk.own bE=some (⟨0,[1]⟩,0)
 cells:els ≠ []→∃ cur e,wk.heap[bE]?=some (.cells cur e (0,0))∧cur.size=capE∧∀ (k:Nat) (x:El),els[k]?=some x→∃ u,cur[k]?=some u∧u.oneCell'=true∧Fz Sk.lim wk u (.sl 0 1 (x.map repR))
theorem ESt.grow {S:Sig} {w:World} {g1 g2 bE capE:Nat} {u0 vE:Value} {els:List El} {Sk S':Sig} {wk w':World} (h:ESt S w g1 g2 bE capE u0 vE els Sk wk) (p:PT Sk wk S' w'):ESt S w g1 g2 bE capE u0 vE els S' w':=by
 obtain ⟨c,hc,hc2⟩:=h.box2
 refine ⟨h.pt.comp p,h.box.ext p.ext,(p.own _ h.box.lt).trans h.own1,⟨c,hc.ext p.ext,hc2⟩,(p.own _ hc.lt).trans h.own2,fun e=>(h.zero e).trans p.trans,fun e => ?_,fun e => ?_⟩
 ·obtain ⟨cur,e0,h1,_⟩:=h.cells e
  exact (p.own _ (Array.getElem?_eq_some_iff.1 h1).1).trans (h.ownE e)
 ·obtain ⟨cur,e0,h1,h2,h3⟩:=h.cells e
  refine ⟨cur,e0,(p.ext.block (Array.getElem?_eq_some_iff.1 h1).1).trans h1,h2,fun k x hx => ?_⟩
  obtain ⟨u,a1,a2,a3⟩:=h3 k x hx
  exact ⟨u,a1,a2,a3.trans p.trans⟩
theorem ESt.write {S:Sig} {w:World} (hw:WF S w) {g1 g2 bE capE:Nat} {u0 vE:Value} {els:List El} {Sk:Sig} {wk w':World} (h:ESt S w g1 g2 bE capE u0 vE els Sk wk) {b:Nat} {q:Place} (ho:Sk.own b=some (q,0)) (hb:w.heap.size≤b) (h1:b ≠ g1) (h2:b ≠ g2) (h3:els ≠ []→b ≠ bE) {cur cur':Array Value} {e:TypeId} (hwr:Writes wk w' b cur cur' e):ESt S w g1 g2 bE capE u0 vE els Sk w':=by
 obtain ⟨c,hc,hc2⟩:=h.box2
 refine ⟨h.pt.write hw hb hwr,(hwr.other g1 h1.symm).trans h.box,h.own1,⟨c,(hwr.other g2 h2.symm).trans hc,hc2⟩,h.own2,fun e=>(h.zero e).write ho hwr,h.ownE,fun e => ?_⟩
 obtain ⟨cur,e0,k1,k2,k3⟩:=h.cells e
 refine ⟨cur,e0,(hwr.other bE (h3 e).symm).trans k1,k2,fun k x hx => ?_⟩
 obtain ⟨u,a1,a2,a3⟩:=k3 k x hx
 exact ⟨u,a1,a2,a3.write ho hwr⟩
theorem Fz.sl_val {lim:Nat→Option Nat} {w:World} {v:Value} {sz:Nat} {rows:List (List D)} (h:Fz lim w v (.sl 0 sz rows)):∃ A cap,v=.slice A rows.length cap:=by
 cases h with
 |slNil=>exact ⟨_,_,rfl⟩
 |slE A=>exact ⟨_,_,rfl⟩
 |sl cv hc hm hr hh _=>exact ⟨_,_,rfl⟩
theorem Fz.sl_at {lim:Nat→Option Nat} {w:World} {A:Option Addr} {n cap:Nat} {rows:List (List D)} (h:Fz lim w (.slice A n cap) (.sl 0 1 rows)) {k:Nat} {d:D} (hk:rows[k]?=some [d]):∃ b o y,A=some ⟨b,o,none⟩∧w.cell? ⟨b,o+k,none⟩=some y∧y.oneCell'=true∧Fz lim w y d:=by
 cases h with
 |slNil=>simp at hk
 |slE A=>simp at hk
 |@sl b o cap _ _ cv hc hm hr hh ih=>
  obtain ⟨h1,_,h2⟩:=hh k [d] 0 d hk rfl
  refine ⟨b,o,cv k 0,rfl,?_,h2,ih k [d] 0 d hk rfl⟩
  rw [← h1,Nat.mul_one,Nat.add_zero]
structure RSt (S:Sig) (w:World) (g1 g2 bE capE g4 bR capR i:Nat) (u0 vE u vR:Value) (els:List El) (x:El) (Sk:Sig) (wk:World):Prop where
 pt:PT S w Sk wk
 box:Blk wk g1 76 #[u0,vE]
 own1:Sk.own g1=some (.dead,0)
 box2:∃ c,Blk wk g2 76 c∧c.size=2
 own2:Sk.own g2=some (.dead,0)
 ownE:Sk.own bE=some (⟨0,[1]⟩,0)
 cells:∃ cur e,wk.heap[bE]?=some (.cells cur e (0,0))∧cur.size=capE∧cur[i]?=some vR∧∀ (k:Nat) (y:El),k ≠ i→els[k]?=some y→∃ u,cur[k]?=some u∧u.oneCell'=true∧Fz Sk.lim wk u (.sl 0 1 (y.map repR))
 xbox:Blk wk g4 93 #[u]
 ownX:Sk.own g4=some (.dead,0)
 fzX:Fz Sk.lim wk u (.sl 0 1 (x.map repR))
 zero:x = []→Fz Sk.lim wk vR (.sl 0 1 [])
 ownR:x ≠ []→Sk.own bR=some (⟨0,[2]⟩,0)
 cellsR:x ≠ []→∃ cur e,wk.heap[bR]?=some (.cells cur e (0,0))∧cur.size=capR∧∀ (k:Nat) (p:List Str),x[k]?=some p→∃ y,cur[k]?=some y∧y.oneCell'=true∧Fz Sk.lim wk y (.sl 0 1 (p.map partR))
theorem RSt.grow {S:Sig} {w:World} {g1 g2 bE capE g4 bR capR i:Nat} {u0 vE u vR:Value} {els:List El} {x:El} {Sk S':Sig} {wk w':World} (h:RSt S w g1 g2 bE capE g4 bR capR i u0 vE u vR els x Sk wk) (p:PT Sk wk S' w'):RSt S w g1 g2 bE capE g4 bR capR i u0 vE u vR els x S' w':=by
 obtain ⟨c,hc,hc2⟩:=h.box2
 obtain ⟨curE,eE,e1,e2,e3,e4⟩:=h.cells
 refine ⟨h.pt.comp p,h.box.ext p.ext,(p.own _ h.box.lt).trans h.own1,⟨c,hc.ext p.ext,hc2⟩,(p.own _ hc.lt).trans h.own2,(p.own _ (Array.getElem?_eq_some_iff.1 e1).1).trans h.ownE,⟨curE,eE,(p.ext.block (Array.getElem?_eq_some_iff.1 e1).1).trans e1,e2,e3,fun k y hk hy => ?_⟩,h.xbox.ext p.ext,(p.own _ h.xbox.lt).trans h.ownX,h.fzX.trans p.trans,fun e=>(h.zero e).trans p.trans,fun e => ?_,fun e => ?_⟩
 ·obtain ⟨u,a1,a2,a3⟩:=e4 k y hk hy
  exact ⟨u,a1,a2,a3.trans p.trans⟩
 ·obtain ⟨cur,e0,h1,_⟩:=h.cellsR e
  exact (p.own _ (Array.getElem?_eq_some_iff.1 h1).1).trans (h.ownR e)
 ·obtain ⟨cur,e0,h1,h2,h3⟩:=h.cellsR e
  refine ⟨cur,e0,(p.ext.block (Array.getElem?_eq_some_iff.1 h1).1).trans h1,h2,fun k y hy => ?_⟩
  obtain ⟨u,a1,a2,a3⟩:=h3 k y hy
  exact ⟨u,a1,a2,a3.trans p.trans⟩
theorem freeze_mono {S:Sig} {w:World} {b m:Nat} {p q:Place} (ho:S.own b=some (p,0)) (v:Value) (d:D) (h:Fz S.lim w v d):Fz (S.set b (some (q,m))).lim w v d:=by
 refine h.mono (fun b' o v _ hk s hs => ?_) (fun b' hn => ?_)
 ·by_cases hb:b'=b
  ·subst hb
   have:=hk 0 (by simp [Sig.lim,ho])
   omega
  ·exact hk s (by simpa [Sig.lim,S.set_ne _ hb] using hs)
 ·have hb:b' ≠ b:=fun e=>by subst e;simp [Sig.lim,ho] at hn
  simpa [Sig.lim,S.set_ne _ hb] using hn
theorem putL_get {l:List Value} {i k:Nat} {v:Value} (h:i < l.length):(l.take i ++ [v]++l.drop (i+1)).toArray[k]?=if k=i then some v else l[k]?:=by
 have e:l.take i ++ [v]++l.drop (i+1)=l.set i v:=by
  rw [List.set_eq_take_append_cons_drop,if_pos h]
  simp
 rw [e,List.getElem?_toArray]
 by_cases hk:k=i
 ·subst hk
  rw [if_pos rfl,List.getElem?_set_self h]
 ·rw [if_neg hk,List.getElem?_set_ne (Ne.symm hk)]
theorem segClone_sem (hE : CloneEOk) (hR : CloneROk) (hP : ClonePOk) (t : Str) (els : List El) (hl : els.length ≤ 50) (hn : ∀ e ∈ els, NarE e) : Sem Tryz.prog 38 [.agg [.str t, .sl 0 1 (els.map elR)]] (.agg [.str t, .sl 0 1 (els.map elR)]) := by
  refine ⟨inferInstance, rfl, fun S w vs hw hvl hr => ?_⟩
  obtain ⟨v0, rfl⟩ : ∃ v, vs = [v] := by
    match vs, hvl with
    |[v], _ => exact ⟨v, rfl⟩
  obtain ⟨us, rfl, hul, _, ih⟩ := ((hr 0 _ v0 rfl rfl).passes rfl).agg_inv
  obtain ⟨u0, u1, rfl⟩ : ∃ a b, us = [a, b] := by
    match us, hul with
    |[a, b], _ => exact ⟨a, b, rfl⟩
  have f0 := ih 0 _ u0 rfl rfl
  have f1 := ih 1 _ u1 rfl rfl
  clear ih hr
  obtain rfl : u0 = .string ⟨t.toArray⟩ := by cases f0; rfl
  go_enter Tryz.func38, Tryz.ntmps38
  repeat' (
      first
        |((with_reducible apply wp_seq_k); intro K hK)
        |(simp only [Exit.then, Exit.inBlock, ↓reduceIte, Nat.reduceEqDiff])
        |with_reducible apply wp_block
        |with_reducible apply wp_skip
        |with_reducible apply wp_exit
        |((with_reducible apply wp_cond_true); exact rfl)
        |((with_reducible apply wp_cond_false); exact rfl)
        |(((with_reducible apply wp_cond_split); exact rfl) <;> intro hb <;> (try simp only [bne_iff_ne, ne_eq, bne_eq_false_iff_eq, beq_iff_eq, beq_eq_false_iff_ne, decide_eq_true_eq, decide_eq_false_iff_not, Bool.not_eq_true', Bool.not_eq_false', Bool.and_eq_true, Bool.or_eq_true, Bool.and_eq_false_iff, Bool.or_eq_false_iff, Int.not_lt, Int.not_le, Bool.not_eq_true, Bool.not_eq_false] at hb) <;> (try (have hbl := And.left hb; have hbr := And.right hb)) <;> (try (have hbll := And.left hbl; have hblr := And.right hbl)) <;> (try first | contradiction | exact (bff hb (by assumption)).elim | exact (bft hb (by assumption)).elim | (exfalso; omega)))
        | ((with_reducible apply (wp_region_lit (id := 0)))
           ((with_reducible apply l_boxN); exact rfl; intro g1 w1 hb1 hx1 hg1; (try simp only [SS, Nat.reduceAdd]))
           ((with_reducible apply l_alloc); intro g2 w2 hb2 hx2 hg2; (try simp only [SS, Nat.reduceAdd]))
           (with_reducible apply wpList_nil))
        | ((fail_if_success (with_reducible apply no_region)); (fail_if_success (with_reducible apply no_list)); (fail_if_success (with_reducible apply no_oper)); (fail_if_success (with_reducible apply no_par)); (fail_if_success (with_reducible apply no_loop)); go_step))
  have hg1' : w.heap.size ≤ g1 := by omega
  have hg2' : w.heap.size ≤ g2 := by have := hx1.sizeOf; omega
  have hb2l := hb2.lt
  have hb2e : g2 ≠ g1 := fun e => by subst e; have := hb1.lt; omega
  have q1 : PT S w (S.set g1 (some (.dead, 0))) w2 := PT.name hw (PT.ext' hw (hx1.trans hx2)) (by omega) (Nat.lt_of_lt_of_le hb1.lt hx2.sizeOf)
  have q2 : PT S w ((S.set g1 (some (.dead, 0))).set g2 (some (.dead, 0))) w2 := PT.name hw q1 hg2' hb2l
  have o2 : ((S.set g1 (some (Place.dead, 0))).set g2 (some (Place.dead, 0))).own g1 = some (.dead, 0) := by rw [Sig.set_ne _ _ hb2e.symm, S.set_at]
  have o2b : ((S.set g1 (some (Place.dead, 0))).set g2 (some (Place.dead, 0))).own g2 = some (.dead, 0) := by rw [Sig.set_at]
  have f2 : Fz ((S.set g1 (some (.dead, 0))).set g2 (some (.dead, 0))).lim w2 u1 (.sl 0 1 (els.map elR)) := f1.trans q2.trans
  have b2 : Blk w2 g1 76 #[.string ⟨t.toArray⟩, u1] := hb1.ext hx2
  generalize (S.set g1 (some (Place.dead, 0))).set g2 (some (Place.dead, 0)) = S2 at q2 o2 o2b f2
  clear f1 hb1 hx1
  with_reducible apply (wp_region_lit (id := 1))
  (with_reducible apply l_fieldAddr); exact rfl; (try simp only [SS, Nat.reduceAdd])
  (with_reducible apply l_load1); exact rfl; exact b2.cell 1; (try simp only [SS, Nat.reduceAdd])
  refine l_enter (al := [u1]) rfl ?_
  refine (call_coreN (hE els hl) q2.wf rfl (fun i d v hd hv => ?_) ⟨0, [1]⟩).mono fun e w3 ⟨vE, S3, he, hp3, hr3, hn3⟩ => ?_
  · match i, hd, hv with
    |0, hd, hv => cases hd; cases hv; exact f2
    |i + 1, hd, _ => simp at hd
  subst he
  (try simp only [SS, Nat.reduceAdd])
  (with_reducible apply l_fieldAddr); exact rfl; (try simp only [SS, Nat.reduceAdd])
  have q3 := q2.comp hp3
  have b3 : Blk w3 g1 76 #[.string ⟨t.toArray⟩, u1] := b2.ext hp3.ext
  have o3 : S3.own g1 = some (.dead, 0) := by rw [hp3.own g1 b2.lt, o2]
  obtain ⟨A, capE, rfl, hcE⟩ := hr3.sl_val
  rw [List.length_map] at *
  refine wpList_plain rfl fun K1 hK1 => r_store (n := 1) (by kernel_rfl) rfl (us := [.slice A els.length capE]) rfl rfl (by simp [Value.oneCell']) b3 (by simp) (hK1 _ _ ?_)
  have wr4 := Writes.row b3 #[.string ⟨t.toArray⟩, .slice A els.length capE] rfl
  change wpList _ _ _ _ _ (w3.setRow g1 #[.string ⟨t.toArray⟩, .slice A els.length capE])
  generalize w3.setRow g1 #[.string ⟨t.toArray⟩, .slice A els.length capE] = w4 at wr4 ⊢
  have hST : ∃ bE, (els ≠ [] → A = some ⟨bE, 0, none⟩ ∧ w.heap.size ≤ bE ∧ els.length ≤ capE ∧ capE ≤ maxLen) ∧ ESt S w g1 g2 bE capE (.string ⟨t.toArray⟩) (.slice A els.length capE) els S3 w4 := by
    have k2 : Blk w3 g2 76 _ := hb2.ext hp3.ext
    have o3b : S3.own g2 = some (.dead, 0) := (hp3.own g2 hb2l).trans o2b
    have k4 : Blk w4 g2 76 _ := (wr4.other g2 hb2e).trans k2
    rcases hcE with ⟨h0, hz⟩ | ⟨h0, b, cur, e, rfl, g⟩
    · have h0 : els = [] := by simpa using h0
      exact ⟨0, fun h => absurd h0 h, q3.write hw hg1' wr4, wr4.now, o3, ⟨_, k4, rfl⟩, o3b, fun e => by subst e; exact hz.write o3 wr4, fun h => absurd h0 h, fun h => absurd h0 h⟩
    · have h0' : els ≠ [] := fun e => h0 (by rw [e]; rfl)
      have hown : S3.own b = some (⟨0, [1]⟩, 0) := by simpa using g.own
      have hbg : b ≠ g1 := fun e => by subst e; rw [o3] at hown; cases hown
      have hle := g.le
      rw [List.length_map] at hle
      have hnb : w.heap.size ≤ b := Nat.le_trans q2.ext.sizeOf (hn3 _ _ b _ _ rfl h0 rfl)
      refine ⟨b, fun _ => ⟨rfl, hnb, hle, g.max⟩, q3.write hw hg1' wr4, wr4.now, o3, ⟨_, k4, rfl⟩, o3b, fun e => absurd e h0', fun _ => hown, fun _ => ⟨cur, e, (wr4.other b hbg).trans g.heap, by have := g.size; omega, fun k y hy => ?_⟩⟩
      obtain ⟨u, a1, a2, a3⟩ := g.cells k _ 0 _ (by rw [List.getElem?_map, hy]; rfl) rfl
      exact ⟨u, by simpa using a1, a2, a3.write o3 wr4⟩
  obtain ⟨bE, hA, hst⟩ := hST
  clear hcE q2 o2 o2b f2 b2 q3 b3 o3 hr3 hp3 wr4 hb2 hn3 q1
  with_reducible apply wpList_nil
  repeat' (
      first
        |((with_reducible apply wp_seq_k); intro K hK)
        |(simp only [Exit.then, Exit.inBlock, ↓reduceIte, Nat.reduceEqDiff])
        |with_reducible apply wp_block
        |with_reducible apply wp_skip
        |with_reducible apply wp_exit
        |((with_reducible apply wp_cond_true); exact rfl)
        |((with_reducible apply wp_cond_false); exact rfl)
        |(((with_reducible apply wp_cond_split); exact rfl) <;> intro hb <;> (try simp only [bne_iff_ne, ne_eq, bne_eq_false_iff_eq, beq_iff_eq, beq_eq_false_iff_ne, decide_eq_true_eq, decide_eq_false_iff_not, Bool.not_eq_true', Bool.not_eq_false', Bool.and_eq_true, Bool.or_eq_true, Bool.and_eq_false_iff, Bool.or_eq_false_iff, Int.not_lt, Int.not_le, Bool.not_eq_true, Bool.not_eq_false] at hb) <;> (try (have hbl := And.left hb; have hbr := And.right hb)) <;> (try (have hbll := And.left hbl; have hblr := And.right hbl)) <;> (try first | contradiction | exact (bff hb (by assumption)).elim | exact (bft hb (by assumption)).elim | (exfalso; omega)))
        | ((with_reducible apply (wp_region_lit (id := 0)))
           ((with_reducible apply l_boxN); exact rfl; intro g1 w1 hb1 hx1 hg1; (try simp only [SS, Nat.reduceAdd]))
           ((with_reducible apply l_alloc); intro g2 w2 hb2 hx2 hg2; (try simp only [SS, Nat.reduceAdd]))
           (with_reducible apply wpList_nil))
        | ((fail_if_success (with_reducible apply no_region)); (fail_if_success (with_reducible apply no_list)); (fail_if_success (with_reducible apply no_oper)); (fail_if_success (with_reducible apply no_par)); (fail_if_success (with_reducible apply no_loop)); go_step))
  with_reducible apply (wp_region_lit (id := 2))
  (with_reducible apply l_fieldAddr); exact rfl; (try simp only [SS, Nat.reduceAdd])
  (with_reducible apply l_load1); exact rfl; exact hst.box.cell 1; (try simp only [SS, Nat.reduceAdd])
  (with_reducible apply l_len_slice); exact rfl; (try simp only [SS, Nat.reduceAdd])
  (with_reducible apply l_move); (focus (first | (simp only [EE]; done) | (simp only [EE]; exact rfl) | exact rfl)); (try simp only [SS, Nat.reduceAdd])
  with_reducible apply wpList_nil
  repeat' (
      first
        |((with_reducible apply wp_seq_k); intro K hK)
        |(simp only [Exit.then, Exit.inBlock, ↓reduceIte, Nat.reduceEqDiff])
        |with_reducible apply wp_block
        |with_reducible apply wp_skip
        |with_reducible apply wp_exit
        |((with_reducible apply wp_cond_true); exact rfl)
        |((with_reducible apply wp_cond_false); exact rfl)
        |(((with_reducible apply wp_cond_split); exact rfl) <;> intro hb <;> (try simp only [bne_iff_ne, ne_eq, bne_eq_false_iff_eq, beq_iff_eq, beq_eq_false_iff_ne, decide_eq_true_eq, decide_eq_false_iff_not, Bool.not_eq_true', Bool.not_eq_false', Bool.and_eq_true, Bool.or_eq_true, Bool.and_eq_false_iff, Bool.or_eq_false_iff, Int.not_lt, Int.not_le, Bool.not_eq_true, Bool.not_eq_false] at hb) <;> (try (have hbl := And.left hb; have hbr := And.right hb)) <;> (try (have hbll := And.left hbl; have hblr := And.right hbl)) <;> (try first | contradiction | exact (bff hb (by assumption)).elim | exact (bft hb (by assumption)).elim | (exfalso; omega)))
        | ((with_reducible apply (wp_region_lit (id := 0)))
           ((with_reducible apply l_boxN); exact rfl; intro g1 w1 hb1 hx1 hg1; (try simp only [SS, Nat.reduceAdd]))
           ((with_reducible apply l_alloc); intro g2 w2 hb2 hx2 hg2; (try simp only [SS, Nat.reduceAdd]))
           (with_reducible apply wpList_nil))
        | ((fail_if_success (with_reducible apply no_region)); (fail_if_success (with_reducible apply no_list)); (fail_if_success (with_reducible apply no_oper)); (fail_if_success (with_reducible apply no_par)); (fail_if_success (with_reducible apply no_loop)); go_step))
  go_loopw [14] (fun v wr => ∃ (i : Nat) (Sk : Sig), v = .int .i64 i ∧ i ≤ els.length ∧ ESt S w g1 g2 bE capE (.string ⟨t.toArray⟩) (.slice A els.length capE) els Sk wr) (fun v _ => els.length - idxOf v)
  case atStart => exact ⟨0, S3, rfl, Nat.zero_le _, hst⟩
  case round =>
    obtain ⟨i, Sk, rfl, hi, hk⟩ := hrel
    repeat' (
        first
          |((with_reducible apply wp_seq_k); intro K hK)
          |(simp only [Exit.then, Exit.inBlock, ↓reduceIte, Nat.reduceEqDiff])
          |with_reducible apply wp_block
          |with_reducible apply wp_skip
          |with_reducible apply wp_exit
          |((with_reducible apply wp_cond_true); exact rfl)
          |((with_reducible apply wp_cond_false); exact rfl)
          |(((with_reducible apply wp_cond_split); exact rfl) <;> intro hb <;> (try simp only [bne_iff_ne, ne_eq, bne_eq_false_iff_eq, beq_iff_eq, beq_eq_false_iff_ne, decide_eq_true_eq, decide_eq_false_iff_not, Bool.not_eq_true', Bool.not_eq_false', Bool.and_eq_true, Bool.or_eq_true, Bool.and_eq_false_iff, Bool.or_eq_false_iff, Int.not_lt, Int.not_le, Bool.not_eq_true, Bool.not_eq_false] at hb) <;> (try (have hbl := And.left hb; have hbr := And.right hb)) <;> (try (have hbll := And.left hbl; have hblr := And.right hbl)) <;> (try first | contradiction | exact (bff hb (by assumption)).elim | exact (bft hb (by assumption)).elim | (exfalso; omega)))
          | ((with_reducible apply (wp_region_lit (id := 0)))
             ((with_reducible apply l_boxN); exact rfl; intro g1 w1 hb1 hx1 hg1; (try simp only [SS, Nat.reduceAdd]))
             ((with_reducible apply l_alloc); intro g2 w2 hb2 hx2 hg2; (try simp only [SS, Nat.reduceAdd]))
             (with_reducible apply wpList_nil))
          | ((with_reducible apply (wp_region_lit (id := 3)))
             ((with_reducible apply l_lss); exact rfl; exact rfl; (try simp only [SS, Nat.reduceAdd]))
             (with_reducible apply wpList_nil))
          | ((with_reducible apply (wp_region_lit (id := 7)))
             ((with_reducible apply l_lss); exact rfl; exact rfl; (try simp only [SS, Nat.reduceAdd]))
             (with_reducible apply wpList_nil))
          | ((with_reducible apply (wp_region_lit (id := 10)))
             ((with_reducible apply l_add); exact rfl; exact rfl; (focus (first | (apply IntWalk.i64_in; omega) | exact IntWalk.i64_left _)); (try simp only [SS, Nat.reduceAdd]))
             ((with_reducible apply l_move); (focus (first | (simp only [EE]; done) | (simp only [EE]; exact rfl) | exact rfl)); (try simp only [SS, Nat.reduceAdd]))
             (with_reducible apply wpList_nil))
          | ((with_reducible apply (wp_region_lit (id := 11)))
             ((with_reducible apply l_add); exact rfl; exact rfl; (focus (first | (apply IntWalk.i64_in; omega) | exact IntWalk.i64_left _)); (try simp only [SS, Nat.reduceAdd]))
             ((with_reducible apply l_move); (focus (first | (simp only [EE]; done) | (simp only [EE]; exact rfl) | exact rfl)); (try simp only [SS, Nat.reduceAdd]))
             (with_reducible apply wpList_nil))
          | ((fail_if_success (with_reducible apply no_region)); (fail_if_success (with_reducible apply no_list)); (fail_if_success (with_reducible apply no_oper)); (fail_if_success (with_reducible apply no_par)); (fail_if_success (with_reducible apply no_loop)); go_step))
    · have hne : els ≠ [] := fun e => by subst e; simp at hb; omega
      obtain ⟨rfl, hbE, hcap, hmax⟩ := hA hne
      have hil : i < els.length := by omega
      obtain ⟨x, hx⟩ : ∃ x, els[i]? = some x := ⟨_, List.getElem?_eq_getElem hil⟩
      obtain ⟨curE, eE, hhE, hsE, hcE⟩ := hk.cells hne
      obtain ⟨u, hu, hu1, hfu⟩ := hcE i x hx
      have hnx := hn x (gMem hx)
      have hrow : RowAt wr bE i [u] := fun j v hj => by
        match j, hj with
        |0, hj =>
          cases hj
          rw [cell_of_row wr bE _ curE eE (0, 0) hhE]
          simpa using hu
        |j + 1, hj => simp at hj
      with_reducible apply (wp_region_lit (id := 4))
      (with_reducible apply l_move); (focus (first | (simp only [EE]; done) | (simp only [EE]; exact rfl) | exact rfl)); (try simp only [SS, Nat.reduceAdd])
      (with_reducible apply l_indexAddr); exact rfl; exact rfl; omega; omega; (try simp only [SS, Nat.reduceAdd])
      (with_reducible apply (l_loadN (cs := [u]))); exact rfl; exact hrow; exact rfl; (try simp only [SS, Nat.reduceAdd])
      refine l_alloc fun g4 w5 hb5 hx5 hg5 => ?_
      (try simp only [SS, Nat.reduceAdd])
      (with_reducible apply l_assign); (focus (first | (simp only [EE]; done) | (simp only [EE]; exact rfl) | exact rfl)); (try simp only [SS, Nat.reduceAdd])
      refine wpList_plain rfl fun K1 hK1 => r_store (n := 1) (by kernel_rfl) rfl (us := [u]) rfl rfl (by simpa using hu1) hb5 (by simp) (hK1 _ _ ?_)
      have hg4 : w.heap.size ≤ g4 := by have := hk.pt.ext.sizeOf; omega
      have p5 := PT.ext' hk.pt.wf hx5
      have wr6 := Writes.row hb5 #[u] rfl
      change wpList _ _ _ _ _ (w5.setRow g4 #[u])
      have q6 : PT S w (Sk.set g4 (some (.dead, 0))) w5 := PT.name hw (hk.pt.comp p5) hg4 hb5.lt
      generalize w5.setRow g4 #[u] = w6 at wr6 ⊢
      have o6 : (Sk.set g4 (some (Place.dead, 0))).own g4 = some (.dead, 0) := by rw [Sk.set_at]
      have p5' : PT Sk wr (Sk.set g4 (some (.dead, 0))) w5 := PT.name hk.pt.wf p5 (by omega) hb5.lt
      have hbEl := (Array.getElem?_eq_some_iff.1 hhE).1
      have hst6 : ESt S w g1 g2 bE capE (.string ⟨t.toArray⟩) (.slice (some ⟨bE, 0, none⟩) els.length capE) els (Sk.set g4 (some (.dead, 0))) w6 := by
        obtain ⟨c2, hc2, _⟩ := hk.box2
        exact (hk.grow p5').write hw o6 hg4 (by have := hk.box.lt; omega) (by have := hc2.lt; omega) (fun _ => by omega) wr6
      have f6 : Fz (Sk.set g4 (some (Place.dead, 0))).lim w6 u (.sl 0 1 (x.map repR)) := (hfu.trans p5'.trans).write o6 wr6
      have b6 : Blk w6 g4 93 #[u] := wr6.now
      generalize Sk.set g4 (some (Place.dead, 0)) = S6 at o6 hst6 f6
      clear q6 p5 p5' wr6 hb5 hx5 hfu hrow hk hcE hhE hsE hu
      with_reducible apply wpList_nil
      repeat' (
          first
            |((with_reducible apply wp_seq_k); intro K hK)
            |(simp only [Exit.then, Exit.inBlock, ↓reduceIte, Nat.reduceEqDiff])
            |with_reducible apply wp_block
            |with_reducible apply wp_skip
            |with_reducible apply wp_exit
            |((with_reducible apply wp_cond_true); exact rfl)
            |((with_reducible apply wp_cond_false); exact rfl)
            |(((with_reducible apply wp_cond_split); exact rfl) <;> intro hb <;> (try simp only [bne_iff_ne, ne_eq, bne_eq_false_iff_eq, beq_iff_eq, beq_eq_false_iff_ne, decide_eq_true_eq, decide_eq_false_iff_not, Bool.not_eq_true', Bool.not_eq_false', Bool.and_eq_true, Bool.or_eq_true, Bool.and_eq_false_iff, Bool.or_eq_false_iff, Int.not_lt, Int.not_le, Bool.not_eq_true, Bool.not_eq_false] at hb) <;> (try (have hbl := And.left hb; have hbr := And.right hb)) <;> (try (have hbll := And.left hbl; have hblr := And.right hbl)) <;> (try first | contradiction | exact (bff hb (by assumption)).elim | exact (bft hb (by assumption)).elim | (exfalso; omega)))
            | ((with_reducible apply (wp_region_lit (id := 0)))
               ((with_reducible apply l_boxN); exact rfl; intro g1 w1 hb1 hx1 hg1; (try simp only [SS, Nat.reduceAdd]))
               ((with_reducible apply l_alloc); intro g2 w2 hb2 hx2 hg2; (try simp only [SS, Nat.reduceAdd]))
               (with_reducible apply wpList_nil))
            | ((with_reducible apply (wp_region_lit (id := 3)))
               ((with_reducible apply l_lss); exact rfl; exact rfl; (try simp only [SS, Nat.reduceAdd]))
               (with_reducible apply wpList_nil))
            | ((with_reducible apply (wp_region_lit (id := 7)))
               ((with_reducible apply l_lss); exact rfl; exact rfl; (try simp only [SS, Nat.reduceAdd]))
               (with_reducible apply wpList_nil))
            | ((with_reducible apply (wp_region_lit (id := 10)))
               ((with_reducible apply l_add); exact rfl; exact rfl; (focus (first | (apply IntWalk.i64_in; omega) | exact IntWalk.i64_left _)); (try simp only [SS, Nat.reduceAdd]))
               ((with_reducible apply l_move); (focus (first | (simp only [EE]; done) | (simp only [EE]; exact rfl) | exact rfl)); (try simp only [SS, Nat.reduceAdd]))
               (with_reducible apply wpList_nil))
            | ((with_reducible apply (wp_region_lit (id := 11)))
               ((with_reducible apply l_add); exact rfl; exact rfl; (focus (first | (apply IntWalk.i64_in; omega) | exact IntWalk.i64_left _)); (try simp only [SS, Nat.reduceAdd]))
               ((with_reducible apply l_move); (focus (first | (simp only [EE]; done) | (simp only [EE]; exact rfl) | exact rfl)); (try simp only [SS, Nat.reduceAdd]))
               (with_reducible apply wpList_nil))
            | ((fail_if_success (with_reducible apply no_region)); (fail_if_success (with_reducible apply no_list)); (fail_if_success (with_reducible apply no_oper)); (fail_if_success (with_reducible apply no_par)); (fail_if_success (with_reducible apply no_loop)); go_step))
      obtain ⟨Au, cu, rfl⟩ := f6.sl_val
      rw [List.length_map] at *
      ((with_reducible apply (wp_region_tail (id := 5) 6)); kernel_rfl; kernel_rfl; kernel_rfl; (focus exact of_decide_eq_true rfl); exact rfl; simp only [List.take_succ_cons, List.take_zero])
      (with_reducible apply p_fieldAddr); exact rfl; (try simp only [SS, Nat.reduceAdd])
      (with_reducible apply p_load1); exact rfl; exact hst6.box.cell 1; (try simp only [SS, Nat.reduceAdd])
      (with_reducible apply p_move); (focus (first | (simp only [EE]; done) | (simp only [EE]; exact rfl) | exact rfl)); (try simp only [SS, Nat.reduceAdd])
      (with_reducible apply p_fieldAddr); exact rfl; (try simp only [SS, Nat.reduceAdd])
      (with_reducible apply p_load1); exact rfl; exact b6.cell 0; (try simp only [SS, Nat.reduceAdd])
      (with_reducible apply (p_enterR (R := Copies S6 w6 ⟨0, [2]⟩ (.sl 2 1 (x.map repR))) (al := [.slice Au x.length cu]))); (focus exact Copies.mono); exact rfl; (focus exact Copies.call (hR x hnx.few) hst6.pt.wf f6 ⟨0, [2]⟩)
      intro vR
      (try simp only [SS, Nat.reduceAdd])
      with_reducible apply par_nil
      intro w7 hx7 hf7
      have hc7 := hf7 (fun w' => Copies S6 w6 ⟨0, [2]⟩ (.sl 2 1 (x.map repR)) vR w') (by simp)
      unfold tailQ
      simp only [List.drop_succ_cons, List.drop_zero]
      (with_reducible apply l_indexAddr); exact rfl; exact rfl; omega; omega; (try simp only [SS, Nat.reduceAdd])
      (with_reducible apply l_fieldAddr); exact rfl; (try simp only [SS, Nat.reduceAdd])
      obtain ⟨S7, p7, r7, n7⟩ := hc7
      obtain ⟨AR, capR, rfl, hcR⟩ := r7.sl_val
      rw [List.length_map] at *
      obtain ⟨curE, eE, hhE, hsE, hcE⟩ := hst6.cells hne
      have hhE7 : w7.heap[bE]? = some (.cells curE eE (0, 0)) := (p7.ext.block (Array.getElem?_eq_some_iff.1 hhE).1).trans hhE
      refine wpList_plain rfl fun K1 hK1 => r_store (n := 1) (by kernel_rfl) rfl (us := [.slice AR x.length capR]) rfl rfl (by simp [Value.oneCell']) hhE7 (by omega) (hK1 _ _ ?_)
      have wr8 := Writes.row hhE7 (curE.toList.take i ++ [Value.slice AR x.length capR] ++ curE.toList.drop (i + 1)).toArray (by simp; omega)
      change wpList _ _ _ _ _ (w7.setRow bE (curE.toList.take i ++ [Value.slice AR x.length capR] ++ curE.toList.drop (i + 1)).toArray)
      generalize w7.setRow bE (curE.toList.take i ++ [Value.slice AR x.length capR] ++ curE.toList.drop (i + 1)).toArray = w8 at wr8 ⊢
      have hRst : ∃ bR, (x ≠ [] → AR = some ⟨bR, 0, none⟩ ∧ w.heap.size ≤ bR ∧ x.length ≤ capR ∧ capR ≤ maxLen) ∧ RSt S w g1 g2 bE capE g4 bR capR i (.string ⟨t.toArray⟩) (.slice (some ⟨bE, 0, none⟩) els.length capE) (.slice Au x.length cu) (.slice AR x.length capR) els x S7 w8 := by
        have hEl := (Array.getElem?_eq_some_iff.1 hhE).1
        have oE7 : S7.own bE = some (⟨0, [1]⟩, 0) := (p7.own bE hEl).trans (hst6.ownE hne)
        have st7 := hst6.grow p7
        have o47 : S7.own g4 = some (.dead, 0) := (p7.own g4 b6.lt).trans o6
        have dif : ∀ b, S7.own b = some (.dead, 0) → b ≠ bE := fun b hb e => by subst e; rw [oE7] at hb; cases hb
        obtain ⟨c2, hc2, hc2s⟩ := st7.box2
        have hll : curE.toList.length = capE := by rw [Array.length_toList]; exact hsE
        have hcells : ∃ cur e, w8.heap[bE]? = some (.cells cur e (0, 0)) ∧ cur.size = capE ∧ cur[i]? = some (.slice AR x.length capR) ∧ ∀ (k : Nat) (y : El), k ≠ i → els[k]? = some y → ∃ u, cur[k]? = some u ∧ u.oneCell' = true ∧ Fz S7.lim w8 u (.sl 0 1 (y.map repR)) := by
          refine ⟨_, eE, wr8.now, wr8.same.trans hsE, by rw [putL_get (by omega), if_pos rfl], fun k y hki hy => ?_⟩
          obtain ⟨u, a1, a2, a3⟩ := hcE k y hy
          refine ⟨u, ?_, a2, (a3.trans p7.trans).write oE7 wr8⟩
          rw [putL_get (by omega), if_neg hki, Array.getElem?_toList]
          exact a1
        rcases hcR with ⟨h0, hz⟩ | ⟨h0, b, cur, e, rfl, g⟩
        · have h0 : x = [] := by simpa using h0
          exact ⟨0, fun h => absurd h0 h, st7.pt.write hw hbE wr8, (wr8.other g1 (dif g1 st7.own1)).trans st7.box, st7.own1, ⟨c2, (wr8.other g2 (dif g2 st7.own2)).trans hc2, hc2s⟩, st7.own2, oE7, hcells, (wr8.other g4 (dif g4 o47)).trans (b6.ext p7.ext), o47, (f6.trans p7.trans).write oE7 wr8, fun e => by subst e; exact hz.write oE7 wr8, fun h => absurd h0 h, fun h => absurd h0 h⟩
        · have h0' : x ≠ [] := fun e => h0 (by rw [e]; rfl)
          have hown : S7.own b = some (⟨0, [2]⟩, 0) := by simpa using g.own
          have hbE2 : b ≠ bE := fun e => by subst e; rw [oE7] at hown; cases hown
          have hle := g.le
          rw [List.length_map] at hle
          have hnb : w.heap.size ≤ b := Nat.le_trans hst6.pt.ext.sizeOf (n7 _ _ b _ _ rfl h0 rfl)
          refine ⟨b, fun _ => ⟨rfl, hnb, hle, g.max⟩, st7.pt.write hw hbE wr8, (wr8.other g1 (dif g1 st7.own1)).trans st7.box, st7.own1, ⟨c2, (wr8.other g2 (dif g2 st7.own2)).trans hc2, hc2s⟩, st7.own2, oE7, hcells, (wr8.other g4 (dif g4 o47)).trans (b6.ext p7.ext), o47, (f6.trans p7.trans).write oE7 wr8, fun e => absurd e h0', fun _ => hown, fun _ => ⟨cur, e, (wr8.other b hbE2).trans g.heap, by have := g.size; omega, fun k y hy => ?_⟩⟩
          obtain ⟨u, a1, a2, a3⟩ := g.cells k _ 0 _ (by rw [List.getElem?_map, hy]; rfl) rfl
          exact ⟨u, by simpa using a1, a2, a3.write oE7 wr8⟩
      obtain ⟨bR, hAR, hst8⟩ := hRst
      clear hcE hhE hsE hhE7 wr8 hcR r7 p7 hst6 f6 o6 b6 hf7 hx7
      with_reducible apply wpList_nil
      refine NoPanic.normal ?_
      repeat' (
          first
            |((with_reducible apply wp_seq_k); intro K hK)
            |(simp only [Exit.then, Exit.inBlock, ↓reduceIte, Nat.reduceEqDiff])
            |with_reducible apply wp_block
            |with_reducible apply wp_skip
            |with_reducible apply wp_exit
            |((with_reducible apply wp_cond_true); exact rfl)
            |((with_reducible apply wp_cond_false); exact rfl)
            |(((with_reducible apply wp_cond_split); exact rfl) <;> intro hb <;> (try simp only [bne_iff_ne, ne_eq, bne_eq_false_iff_eq, beq_iff_eq, beq_eq_false_iff_ne, decide_eq_true_eq, decide_eq_false_iff_not, Bool.not_eq_true', Bool.not_eq_false', Bool.and_eq_true, Bool.or_eq_true, Bool.and_eq_false_iff, Bool.or_eq_false_iff, Int.not_lt, Int.not_le, Bool.not_eq_true, Bool.not_eq_false] at hb) <;> (try (have hbl := And.left hb; have hbr := And.right hb)) <;> (try (have hbll := And.left hbl; have hblr := And.right hbl)) <;> (try first | contradiction | exact (bff hb (by assumption)).elim | exact (bft hb (by assumption)).elim | (exfalso; omega)))
            | ((with_reducible apply (wp_region_lit (id := 0)))
               ((with_reducible apply l_boxN); exact rfl; intro g1 w1 hb1 hx1 hg1; (try simp only [SS, Nat.reduceAdd]))
               ((with_reducible apply l_alloc); intro g2 w2 hb2 hx2 hg2; (try simp only [SS, Nat.reduceAdd]))
               (with_reducible apply wpList_nil))
            | ((with_reducible apply (wp_region_lit (id := 3)))
               ((with_reducible apply l_lss); exact rfl; exact rfl; (try simp only [SS, Nat.reduceAdd]))
               (with_reducible apply wpList_nil))
            | ((with_reducible apply (wp_region_lit (id := 7)))
               ((with_reducible apply l_lss); exact rfl; exact rfl; (try simp only [SS, Nat.reduceAdd]))
               (with_reducible apply wpList_nil))
            | ((with_reducible apply (wp_region_lit (id := 10)))
               ((with_reducible apply l_add); exact rfl; exact rfl; (focus (first | (apply IntWalk.i64_in; omega) | exact IntWalk.i64_left _)); (try simp only [SS, Nat.reduceAdd]))
               ((with_reducible apply l_move); (focus (first | (simp only [EE]; done) | (simp only [EE]; exact rfl) | exact rfl)); (try simp only [SS, Nat.reduceAdd]))
               (with_reducible apply wpList_nil))
            | ((with_reducible apply (wp_region_lit (id := 11)))
               ((with_reducible apply l_add); exact rfl; exact rfl; (focus (first | (apply IntWalk.i64_in; omega) | exact IntWalk.i64_left _)); (try simp only [SS, Nat.reduceAdd]))
               ((with_reducible apply l_move); (focus (first | (simp only [EE]; done) | (simp only [EE]; exact rfl) | exact rfl)); (try simp only [SS, Nat.reduceAdd]))
               (with_reducible apply wpList_nil))
            | ((fail_if_success (with_reducible apply no_region)); (fail_if_success (with_reducible apply no_list)); (fail_if_success (with_reducible apply no_oper)); (fail_if_success (with_reducible apply no_par)); (fail_if_success (with_reducible apply no_loop)); go_step))
      with_reducible apply (wp_region_lit (id := 6))
      (with_reducible apply l_fieldAddr); exact rfl; (try simp only [SS, Nat.reduceAdd])
      (with_reducible apply l_load1); exact rfl; exact hst8.xbox.cell 0; (try simp only [SS, Nat.reduceAdd])
      (with_reducible apply l_len_slice); exact rfl; (try simp only [SS, Nat.reduceAdd])
      (with_reducible apply l_move); (focus (first | (simp only [EE]; done) | (simp only [EE]; exact rfl) | exact rfl)); (try simp only [SS, Nat.reduceAdd])
      with_reducible apply wpList_nil
      repeat' (
          first
            |((with_reducible apply wp_seq_k); intro K hK)
            |(simp only [Exit.then, Exit.inBlock, ↓reduceIte, Nat.reduceEqDiff])
            |with_reducible apply wp_block
            |with_reducible apply wp_skip
            |with_reducible apply wp_exit
            |((with_reducible apply wp_cond_true); exact rfl)
            |((with_reducible apply wp_cond_false); exact rfl)
            |(((with_reducible apply wp_cond_split); exact rfl) <;> intro hb <;> (try simp only [bne_iff_ne, ne_eq, bne_eq_false_iff_eq, beq_iff_eq, beq_eq_false_iff_ne, decide_eq_true_eq, decide_eq_false_iff_not, Bool.not_eq_true', Bool.not_eq_false', Bool.and_eq_true, Bool.or_eq_true, Bool.and_eq_false_iff, Bool.or_eq_false_iff, Int.not_lt, Int.not_le, Bool.not_eq_true, Bool.not_eq_false] at hb) <;> (try (have hbl := And.left hb; have hbr := And.right hb)) <;> (try (have hbll := And.left hbl; have hblr := And.right hbl)) <;> (try first | contradiction | exact (bff hb (by assumption)).elim | exact (bft hb (by assumption)).elim | (exfalso; omega)))
            | ((with_reducible apply (wp_region_lit (id := 0)))
               ((with_reducible apply l_boxN); exact rfl; intro g1 w1 hb1 hx1 hg1; (try simp only [SS, Nat.reduceAdd]))
               ((with_reducible apply l_alloc); intro g2 w2 hb2 hx2 hg2; (try simp only [SS, Nat.reduceAdd]))
               (with_reducible apply wpList_nil))
            | ((with_reducible apply (wp_region_lit (id := 3)))
               ((with_reducible apply l_lss); exact rfl; exact rfl; (try simp only [SS, Nat.reduceAdd]))
               (with_reducible apply wpList_nil))
            | ((with_reducible apply (wp_region_lit (id := 7)))
               ((with_reducible apply l_lss); exact rfl; exact rfl; (try simp only [SS, Nat.reduceAdd]))
               (with_reducible apply wpList_nil))
            | ((with_reducible apply (wp_region_lit (id := 10)))
               ((with_reducible apply l_add); exact rfl; exact rfl; (focus (first | (apply IntWalk.i64_in; omega) | exact IntWalk.i64_left _)); (try simp only [SS, Nat.reduceAdd]))
               ((with_reducible apply l_move); (focus (first | (simp only [EE]; done) | (simp only [EE]; exact rfl) | exact rfl)); (try simp only [SS, Nat.reduceAdd]))
               (with_reducible apply wpList_nil))
            | ((with_reducible apply (wp_region_lit (id := 11)))
               ((with_reducible apply l_add); exact rfl; exact rfl; (focus (first | (apply IntWalk.i64_in; omega) | exact IntWalk.i64_left _)); (try simp only [SS, Nat.reduceAdd]))
               ((with_reducible apply l_move); (focus (first | (simp only [EE]; done) | (simp only [EE]; exact rfl) | exact rfl)); (try simp only [SS, Nat.reduceAdd]))
               (with_reducible apply wpList_nil))
            | ((fail_if_success (with_reducible apply no_region)); (fail_if_success (with_reducible apply no_list)); (fail_if_success (with_reducible apply no_oper)); (fail_if_success (with_reducible apply no_par)); (fail_if_success (with_reducible apply no_loop)); go_step))
      go_loopw [30] (fun v wr => ∃ (k : Nat) (Sk : Sig), v = .int .i64 k ∧ k ≤ x.length ∧ RSt S w g1 g2 bE capE g4 bR capR i (.string ⟨t.toArray⟩) (.slice (some ⟨bE, 0, none⟩) els.length capE) (.slice Au x.length cu) (.slice AR x.length capR) els x Sk wr) (fun v _ => x.length - idxOf v)
      case atStart => exact ⟨0, S7, rfl, Nat.zero_le _, hst8⟩
      case round =>
        obtain ⟨k, Sk, rfl, hk0, hk⟩ := hrel
        repeat' (
            first
              |((with_reducible apply wp_seq_k); intro K hK)
              |(simp only [Exit.then, Exit.inBlock, ↓reduceIte, Nat.reduceEqDiff])
              |with_reducible apply wp_block
              |with_reducible apply wp_skip
              |with_reducible apply wp_exit
              |((with_reducible apply wp_cond_true); exact rfl)
              |((with_reducible apply wp_cond_false); exact rfl)
              |(((with_reducible apply wp_cond_split); exact rfl) <;> intro hb <;> (try simp only [bne_iff_ne, ne_eq, bne_eq_false_iff_eq, beq_iff_eq, beq_eq_false_iff_ne, decide_eq_true_eq, decide_eq_false_iff_not, Bool.not_eq_true', Bool.not_eq_false', Bool.and_eq_true, Bool.or_eq_true, Bool.and_eq_false_iff, Bool.or_eq_false_iff, Int.not_lt, Int.not_le, Bool.not_eq_true, Bool.not_eq_false] at hb) <;> (try (have hbl := And.left hb; have hbr := And.right hb)) <;> (try (have hbll := And.left hbl; have hblr := And.right hbl)) <;> (try first | contradiction | exact (bff hb (by assumption)).elim | exact (bft hb (by assumption)).elim | (exfalso; omega)))
              | ((with_reducible apply (wp_region_lit (id := 0)))
                 ((with_reducible apply l_boxN); exact rfl; intro g1 w1 hb1 hx1 hg1; (try simp only [SS, Nat.reduceAdd]))
                 ((with_reducible apply l_alloc); intro g2 w2 hb2 hx2 hg2; (try simp only [SS, Nat.reduceAdd]))
                 (with_reducible apply wpList_nil))
              | ((with_reducible apply (wp_region_lit (id := 3)))
                 ((with_reducible apply l_lss); exact rfl; exact rfl; (try simp only [SS, Nat.reduceAdd]))
                 (with_reducible apply wpList_nil))
              | ((with_reducible apply (wp_region_lit (id := 7)))
                 ((with_reducible apply l_lss); exact rfl; exact rfl; (try simp only [SS, Nat.reduceAdd]))
                 (with_reducible apply wpList_nil))
              | ((with_reducible apply (wp_region_lit (id := 10)))
                 ((with_reducible apply l_add); exact rfl; exact rfl; (focus (first | (apply IntWalk.i64_in; omega) | exact IntWalk.i64_left _)); (try simp only [SS, Nat.reduceAdd]))
                 ((with_reducible apply l_move); (focus (first | (simp only [EE]; done) | (simp only [EE]; exact rfl) | exact rfl)); (try simp only [SS, Nat.reduceAdd]))
                 (with_reducible apply wpList_nil))
              | ((with_reducible apply (wp_region_lit (id := 11)))
                 ((with_reducible apply l_add); exact rfl; exact rfl; (focus (first | (apply IntWalk.i64_in; omega) | exact IntWalk.i64_left _)); (try simp only [SS, Nat.reduceAdd]))
                 ((with_reducible apply l_move); (focus (first | (simp only [EE]; done) | (simp only [EE]; exact rfl) | exact rfl)); (try simp only [SS, Nat.reduceAdd]))
                 (with_reducible apply wpList_nil))
              | ((fail_if_success (with_reducible apply no_region)); (fail_if_success (with_reducible apply no_list)); (fail_if_success (with_reducible apply no_oper)); (fail_if_success (with_reducible apply no_par)); (fail_if_success (with_reducible apply no_loop)); go_step))
        · have hnx0 : x ≠ [] := fun e => by subst e; simp at hb; omega
          obtain ⟨rfl, hbR, hcapR, hmaxR⟩ := hAR hnx0
          have hkl : k < x.length := by omega
          obtain ⟨p, hp⟩ : ∃ p, x[k]? = some p := ⟨_, List.getElem?_eq_getElem hkl⟩
          have hnp := hnx.parts p (gMem hp)
          obtain ⟨bU, oU, y, rfl, hyc, hy1, hyf⟩ := hk.fzX.sl_at (k := k) (d := .sl 0 1 (p.map partR)) (by rw [List.getElem?_map, hp]; rfl)
          obtain ⟨curE, eE, hhE, hsE, hvE, hcE⟩ := hk.cells
          obtain ⟨curR, eR, hhR, hsR, hcR⟩ := hk.cellsR hnx0
          with_reducible apply (wp_region_lit (id := 8))
          (with_reducible apply l_move); (focus (first | (simp only [EE]; done) | (simp only [EE]; exact rfl) | exact rfl)); (try simp only [SS, Nat.reduceAdd])
          (with_reducible apply l_indexAddr); exact rfl; exact rfl; omega; omega; (try simp only [SS, Nat.reduceAdd])
          (with_reducible apply l_load1); exact rfl; exact hyc; (try simp only [SS, Nat.reduceAdd])
          (with_reducible apply l_assign); (focus (first | (simp only [EE]; done) | (simp only [EE]; exact rfl) | exact rfl)); (try simp only [SS, Nat.reduceAdd])
          (with_reducible apply l_assign); (focus (first | (simp only [EE]; done) | (simp only [EE]; exact rfl) | exact rfl)); (try simp only [SS, Nat.reduceAdd])
          with_reducible apply wpList_nil
          repeat' (
              first
                |((with_reducible apply wp_seq_k); intro K hK)
                |(simp only [Exit.then, Exit.inBlock, ↓reduceIte, Nat.reduceEqDiff])
                |with_reducible apply wp_block
                |with_reducible apply wp_skip
                |with_reducible apply wp_exit
                |((with_reducible apply wp_cond_true); exact rfl)
                |((with_reducible apply wp_cond_false); exact rfl)
                |(((with_reducible apply wp_cond_split); exact rfl) <;> intro hb <;> (try simp only [bne_iff_ne, ne_eq, bne_eq_false_iff_eq, beq_iff_eq, beq_eq_false_iff_ne, decide_eq_true_eq, decide_eq_false_iff_not, Bool.not_eq_true', Bool.not_eq_false', Bool.and_eq_true, Bool.or_eq_true, Bool.and_eq_false_iff, Bool.or_eq_false_iff, Int.not_lt, Int.not_le, Bool.not_eq_true, Bool.not_eq_false] at hb) <;> (try (have hbl := And.left hb; have hbr := And.right hb)) <;> (try (have hbll := And.left hbl; have hblr := And.right hbl)) <;> (try first | contradiction | exact (bff hb (by assumption)).elim | exact (bft hb (by assumption)).elim | (exfalso; omega)))
                | ((with_reducible apply (wp_region_lit (id := 0)))
                   ((with_reducible apply l_boxN); exact rfl; intro g1 w1 hb1 hx1 hg1; (try simp only [SS, Nat.reduceAdd]))
                   ((with_reducible apply l_alloc); intro g2 w2 hb2 hx2 hg2; (try simp only [SS, Nat.reduceAdd]))
                   (with_reducible apply wpList_nil))
                | ((with_reducible apply (wp_region_lit (id := 3)))
                   ((with_reducible apply l_lss); exact rfl; exact rfl; (try simp only [SS, Nat.reduceAdd]))
                   (with_reducible apply wpList_nil))
                | ((with_reducible apply (wp_region_lit (id := 7)))
                   ((with_reducible apply l_lss); exact rfl; exact rfl; (try simp only [SS, Nat.reduceAdd]))
                   (with_reducible apply wpList_nil))
                | ((with_reducible apply (wp_region_lit (id := 10)))
                   ((with_reducible apply l_add); exact rfl; exact rfl; (focus (first | (apply IntWalk.i64_in; omega) | exact IntWalk.i64_left _)); (try simp only [SS, Nat.reduceAdd]))
                   ((with_reducible apply l_move); (focus (first | (simp only [EE]; done) | (simp only [EE]; exact rfl) | exact rfl)); (try simp only [SS, Nat.reduceAdd]))
                   (with_reducible apply wpList_nil))
                | ((with_reducible apply (wp_region_lit (id := 11)))
                   ((with_reducible apply l_add); exact rfl; exact rfl; (focus (first | (apply IntWalk.i64_in; omega) | exact IntWalk.i64_left _)); (try simp only [SS, Nat.reduceAdd]))
                   ((with_reducible apply l_move); (focus (first | (simp only [EE]; done) | (simp only [EE]; exact rfl) | exact rfl)); (try simp only [SS, Nat.reduceAdd]))
                   (with_reducible apply wpList_nil))
                | ((fail_if_success (with_reducible apply no_region)); (fail_if_success (with_reducible apply no_list)); (fail_if_success (with_reducible apply no_oper)); (fail_if_success (with_reducible apply no_par)); (fail_if_success (with_reducible apply no_loop)); go_step))
          have hvc : wr.cell? ⟨bE, i, none⟩ = some (.slice (some ⟨bR, 0, none⟩) x.length capR) := by rw [cell_of_row wr bE _ curE eE (0, 0) hhE]; exact hvE
          ((with_reducible apply (wp_region_tail (id := 9) 9)); kernel_rfl; kernel_rfl; kernel_rfl; (focus exact of_decide_eq_true rfl); exact rfl; simp only [List.take_succ_cons, List.take_zero])
          (with_reducible apply p_fieldAddr); exact rfl; (try simp only [SS, Nat.reduceAdd])
          (with_reducible apply p_load1); exact rfl; exact hk.box.cell 1; (try simp only [SS, Nat.reduceAdd])
          (with_reducible apply p_move); (focus (first | (simp only [EE]; done) | (simp only [EE]; exact rfl) | exact rfl)); (try simp only [SS, Nat.reduceAdd])
          (with_reducible apply p_indexAddr); exact rfl; exact rfl; omega; omega; (try simp only [SS, Nat.reduceAdd])
          (with_reducible apply p_fieldAddr); exact rfl; (try simp only [SS, Nat.reduceAdd])
          (with_reducible apply p_load1); exact rfl; exact hvc; (try simp only [SS, Nat.reduceAdd])
          (with_reducible apply p_move); (focus (first | (simp only [EE]; done) | (simp only [EE]; exact rfl) | exact rfl)); (try simp only [SS, Nat.reduceAdd])
          (with_reducible apply p_move); (focus (first | (simp only [EE]; done) | (simp only [EE]; exact rfl) | exact rfl)); (try simp only [SS, Nat.reduceAdd])
          (with_reducible apply (p_enterR (R := Copies Sk wr .dead (.sl 0 1 (p.map partR))) (al := [y]))); (focus exact Copies.mono); exact rfl; (focus exact Copies.call (hP p hnp.2).frozen hk.pt.wf hyf .dead)
          intro z
          (try simp only [SS, Nat.reduceAdd])
          with_reducible apply par_nil
          intro w9 hx9 hf9
          obtain ⟨S9, p9, r9, _⟩ := hf9 (fun w' => Copies Sk wr .dead (.sl 0 1 (p.map partR)) z w') (by simp)
          have fz9 : Fz S9.lim w9 z (.sl 0 1 (p.map partR)) := r9.passes rfl
          obtain ⟨Az, cz, rfl⟩ := fz9.sl_val
          unfold tailQ
          simp only [List.drop_succ_cons, List.drop_zero]
          (with_reducible apply l_indexAddr); exact rfl; exact rfl; omega; omega; (try simp only [SS, Nat.reduceAdd])
          have hhR9 : w9.heap[bR]? = some (.cells curR eR (0, 0)) := (p9.ext.block (Array.getElem?_eq_some_iff.1 hhR).1).trans hhR
          refine wpList_plain rfl fun K1 hK1 => r_store (n := 1) (by kernel_rfl) rfl (us := [.slice Az (p.map partR).length cz]) rfl rfl (by simp [Value.oneCell']) hhR9 (by omega) (hK1 _ _ ?_)
          have wr10 := Writes.row hhR9 (curR.toList.take k ++ [Value.slice Az (p.map partR).length cz] ++ curR.toList.drop (k + 1)).toArray (by simp; omega)
          change wpList _ _ _ _ _ (w9.setRow bR (curR.toList.take k ++ [Value.slice Az (p.map partR).length cz] ++ curR.toList.drop (k + 1)).toArray)
          generalize w9.setRow bR (curR.toList.take k ++ [Value.slice Az (p.map partR).length cz] ++ curR.toList.drop (k + 1)).toArray = w10 at wr10 ⊢
          have hst10 : RSt S w g1 g2 bE capE g4 bR capR i (.string ⟨t.toArray⟩) (.slice (some ⟨bE, 0, none⟩) els.length capE) (.slice (some ⟨bU, oU, none⟩) x.length cu) (.slice (some ⟨bR, 0, none⟩) x.length capR) els x S9 w10 := by
            have st9 := hk.grow p9
            have oR9 := st9.ownR hnx0
            have dif : ∀ b, S9.own b = some (.dead, 0) → b ≠ bR := fun b hb e => by subst e; rw [oR9] at hb; cases hb
            have difE : bE ≠ bR := fun e => by have := st9.ownE; rw [e, oR9] at this; cases this
            obtain ⟨c2, hc2, hc2s⟩ := st9.box2
            obtain ⟨cE, eE2, e1, e2, e3, e4⟩ := st9.cells
            have hll : curR.toList.length = capR := by rw [Array.length_toList]; exact hsR
            refine ⟨st9.pt.write hw hbR wr10, (wr10.other g1 (dif g1 st9.own1)).trans st9.box, st9.own1, ⟨c2, (wr10.other g2 (dif g2 st9.own2)).trans hc2, hc2s⟩, st9.own2, st9.ownE, ⟨cE, eE2, (wr10.other bE difE).trans e1, e2, e3, fun k' y' hk' hy' => ?_⟩, (wr10.other g4 (dif g4 st9.ownX)).trans st9.xbox, st9.ownX, st9.fzX.write oR9 wr10, fun e => absurd e hnx0, fun _ => oR9, fun _ => ⟨_, eR, wr10.now, wr10.same.trans hsR, fun k' q hq => ?_⟩⟩
            · obtain ⟨u', a1, a2, a3⟩ := e4 k' y' hk' hy'
              exact ⟨u', a1, a2, a3.write oR9 wr10⟩
            · rw [putL_get (by omega)]
              by_cases hkk : k' = k
              · subst hkk
                rw [hp] at hq
                cases hq
                rw [if_pos rfl]
                exact ⟨_, rfl, rfl, fz9.write oR9 wr10⟩
              · rw [if_neg hkk, Array.getElem?_toList]
                obtain ⟨u', a1, a2, a3⟩ := hcR k' q hq
                exact ⟨u', a1, a2, (a3.trans p9.trans).write oR9 wr10⟩
          with_reducible apply wpList_nil
          refine NoPanic.normal ?_
          repeat' (
              first
                |((with_reducible apply wp_seq_k); intro K hK)
                |(simp only [Exit.then, Exit.inBlock, ↓reduceIte, Nat.reduceEqDiff])
                |with_reducible apply wp_block
                |with_reducible apply wp_skip
                |with_reducible apply wp_exit
                |((with_reducible apply wp_cond_true); exact rfl)
                |((with_reducible apply wp_cond_false); exact rfl)
                |(((with_reducible apply wp_cond_split); exact rfl) <;> intro hb <;> (try simp only [bne_iff_ne, ne_eq, bne_eq_false_iff_eq, beq_iff_eq, beq_eq_false_iff_ne, decide_eq_true_eq, decide_eq_false_iff_not, Bool.not_eq_true', Bool.not_eq_false', Bool.and_eq_true, Bool.or_eq_true, Bool.and_eq_false_iff, Bool.or_eq_false_iff, Int.not_lt, Int.not_le, Bool.not_eq_true, Bool.not_eq_false] at hb) <;> (try (have hbl := And.left hb; have hbr := And.right hb)) <;> (try (have hbll := And.left hbl; have hblr := And.right hbl)) <;> (try first | contradiction | exact (bff hb (by assumption)).elim | exact (bft hb (by assumption)).elim | (exfalso; omega)))
                | ((with_reducible apply (wp_region_lit (id := 0)))
                   ((with_reducible apply l_boxN); exact rfl; intro g1 w1 hb1 hx1 hg1; (try simp only [SS, Nat.reduceAdd]))
                   ((with_reducible apply l_alloc); intro g2 w2 hb2 hx2 hg2; (try simp only [SS, Nat.reduceAdd]))
                   (with_reducible apply wpList_nil))
                | ((with_reducible apply (wp_region_lit (id := 3)))
                   ((with_reducible apply l_lss); exact rfl; exact rfl; (try simp only [SS, Nat.reduceAdd]))
                   (with_reducible apply wpList_nil))
                | ((with_reducible apply (wp_region_lit (id := 7)))
                   ((with_reducible apply l_lss); exact rfl; exact rfl; (try simp only [SS, Nat.reduceAdd]))
                   (with_reducible apply wpList_nil))
                | ((with_reducible apply (wp_region_lit (id := 10)))
                   ((with_reducible apply l_add); exact rfl; exact rfl; (focus (first | (apply IntWalk.i64_in; omega) | exact IntWalk.i64_left _)); (try simp only [SS, Nat.reduceAdd]))
                   ((with_reducible apply l_move); (focus (first | (simp only [EE]; done) | (simp only [EE]; exact rfl) | exact rfl)); (try simp only [SS, Nat.reduceAdd]))
                   (with_reducible apply wpList_nil))
                | ((with_reducible apply (wp_region_lit (id := 11)))
                   ((with_reducible apply l_add); exact rfl; exact rfl; (focus (first | (apply IntWalk.i64_in; omega) | exact IntWalk.i64_left _)); (try simp only [SS, Nat.reduceAdd]))
                   ((with_reducible apply l_move); (focus (first | (simp only [EE]; done) | (simp only [EE]; exact rfl) | exact rfl)); (try simp only [SS, Nat.reduceAdd]))
                   (with_reducible apply wpList_nil))
                | ((fail_if_success (with_reducible apply no_region)); (fail_if_success (with_reducible apply no_list)); (fail_if_success (with_reducible apply no_oper)); (fail_if_success (with_reducible apply no_par)); (fail_if_success (with_reducible apply no_loop)); go_step))
          have hx20 := hnx.few
          rw [IntWalk.wrap64_in _ (by omega)]
          refine ⟨⟨k + 1, S9, rfl, by omega, hst10⟩, ?_⟩
          simp only [idxOf]
          omega
        · repeat' (
              first
                |((with_reducible apply wp_seq_k); intro K hK)
                |(simp only [Exit.then, Exit.inBlock, ↓reduceIte, Nat.reduceEqDiff])
                |with_reducible apply wp_block
                |with_reducible apply wp_skip
                |with_reducible apply wp_exit
                |((with_reducible apply wp_cond_true); exact rfl)
                |((with_reducible apply wp_cond_false); exact rfl)
                |(((with_reducible apply wp_cond_split); exact rfl) <;> intro hb <;> (try simp only [bne_iff_ne, ne_eq, bne_eq_false_iff_eq, beq_iff_eq, beq_eq_false_iff_ne, decide_eq_true_eq, decide_eq_false_iff_not, Bool.not_eq_true', Bool.not_eq_false', Bool.and_eq_true, Bool.or_eq_true, Bool.and_eq_false_iff, Bool.or_eq_false_iff, Int.not_lt, Int.not_le, Bool.not_eq_true, Bool.not_eq_false] at hb) <;> (try (have hbl := And.left hb; have hbr := And.right hb)) <;> (try (have hbll := And.left hbl; have hblr := And.right hbl)) <;> (try first | contradiction | exact (bff hb (by assumption)).elim | exact (bft hb (by assumption)).elim | (exfalso; omega)))
                | ((with_reducible apply (wp_region_lit (id := 0)))
                   ((with_reducible apply l_boxN); exact rfl; intro g1 w1 hb1 hx1 hg1; (try simp only [SS, Nat.reduceAdd]))
                   ((with_reducible apply l_alloc); intro g2 w2 hb2 hx2 hg2; (try simp only [SS, Nat.reduceAdd]))
                   (with_reducible apply wpList_nil))
                | ((with_reducible apply (wp_region_lit (id := 3)))
                   ((with_reducible apply l_lss); exact rfl; exact rfl; (try simp only [SS, Nat.reduceAdd]))
                   (with_reducible apply wpList_nil))
                | ((with_reducible apply (wp_region_lit (id := 7)))
                   ((with_reducible apply l_lss); exact rfl; exact rfl; (try simp only [SS, Nat.reduceAdd]))
                   (with_reducible apply wpList_nil))
                | ((with_reducible apply (wp_region_lit (id := 10)))
                   ((with_reducible apply l_add); exact rfl; exact rfl; (focus (first | (apply IntWalk.i64_in; omega) | exact IntWalk.i64_left _)); (try simp only [SS, Nat.reduceAdd]))
                   ((with_reducible apply l_move); (focus (first | (simp only [EE]; done) | (simp only [EE]; exact rfl) | exact rfl)); (try simp only [SS, Nat.reduceAdd]))
                   (with_reducible apply wpList_nil))
                | ((with_reducible apply (wp_region_lit (id := 11)))
                   ((with_reducible apply l_add); exact rfl; exact rfl; (focus (first | (apply IntWalk.i64_in; omega) | exact IntWalk.i64_left _)); (try simp only [SS, Nat.reduceAdd]))
                   ((with_reducible apply l_move); (focus (first | (simp only [EE]; done) | (simp only [EE]; exact rfl) | exact rfl)); (try simp only [SS, Nat.reduceAdd]))
                   (with_reducible apply wpList_nil))
                | ((fail_if_success (with_reducible apply no_region)); (fail_if_success (with_reducible apply no_list)); (fail_if_success (with_reducible apply no_oper)); (fail_if_success (with_reducible apply no_par)); (fail_if_success (with_reducible apply no_loop)); go_step))
          have hfin : ∃ S', ESt S w g1 g2 bE capE (.string ⟨t.toArray⟩) (.slice (some ⟨bE, 0, none⟩) els.length capE) els S' wr := by
            obtain ⟨curE, eE, e1, e2, e3, e4⟩ := hk.cells
            by_cases h0 : x = []
            · refine ⟨Sk, hk.pt, hk.box, hk.own1, hk.box2, hk.own2, fun e => absurd e hne, fun _ => hk.ownE, fun _ => ⟨curE, eE, e1, e2, fun k' y hy => ?_⟩⟩
              by_cases hki : k' = i
              · subst hki
                rw [hx] at hy
                cases hy
                refine ⟨_, e3, rfl, ?_⟩
                have hz := hk.zero h0
                rw [h0]
                rw [h0] at hz
                exact hz
              · exact e4 k' y hki hy
            · obtain ⟨rfl, hbR, hcapR, hmaxR⟩ := hAR h0
              obtain ⟨curR, eR, r1, r2, r3⟩ := hk.cellsR h0
              have oR := hk.ownR h0
              have difE : bE ≠ bR := fun e => by have := hk.ownE; rw [e, oR] at this; cases this
              have dif : ∀ b, Sk.own b = some (.dead, 0) → b ≠ bR := fun b hb e => by subst e; rw [oR] at hb; cases hb
              have hm := freeze_mono (m := x.length) (q := ⟨0, [2]⟩) (w := wr) oR
              have hfr : Fz (Sk.set bR (some (⟨0, [2]⟩, x.length))).lim wr (.slice (some ⟨bR, 0, none⟩) x.length capR) (.sl 0 1 (x.map repR)) := by
                have g : OwnAt (Sk.set bR (some (⟨0, [2]⟩, x.length))) wr ⟨0, [2]⟩ bR capR 1 1 (x.map repR) curR eR := by
                  refine ⟨.inl rfl, r1, by rw [List.length_map]; exact hcapR, hmaxR, by omega, fun r hr => ?_, by rw [Sig.set_at, List.length_map, if_neg (by decide), Nat.mul_one], fun k r j d hk' hd => ?_⟩
                  · obtain ⟨q, _, rfl⟩ := List.mem_map.1 hr
                    rfl
                  · rw [List.getElem?_map] at hk'
                    cases hq : x[k]? with
                    |none => rw [hq] at hk'; cases hk'
                    |some q =>
                      rw [hq] at hk'
                      cases hk'
                      match j, hd with
                      |0, hd =>
                        cases hd
                        obtain ⟨y, a1, a2, a3⟩ := r3 k q hq
                        exact ⟨y, by simpa using a1, a2, hm _ _ a3⟩
                      |j + 1, hd => simp [repR] at hd
                have := g.fz
                rwa [List.length_map] at this
              have hbl := (Array.getElem?_eq_some_iff.1 r1).1
              obtain ⟨c2, hc2, hc2s⟩ := hk.box2
              refine ⟨_, PT.name hw hk.pt (x := (⟨0, [2]⟩, x.length)) hbR hbl, hk.box, by rw [Sk.set_ne _ (dif _ hk.own1)]; exact hk.own1, ⟨c2, hc2, hc2s⟩, by rw [Sk.set_ne _ (dif _ hk.own2)]; exact hk.own2, fun e => absurd e hne, fun _ => by rw [Sk.set_ne _ difE]; exact hk.ownE, fun _ => ⟨curE, eE, e1, e2, fun k' y hy => ?_⟩⟩
              by_cases hki : k' = i
              · subst hki
                rw [hx] at hy
                cases hy
                exact ⟨_, e3, rfl, hfr⟩
              · obtain ⟨u', a1, a2, a3⟩ := e4 k' y hki hy
                exact ⟨u', a1, a2, hm _ _ a3⟩
          obtain ⟨S', hfin⟩ := hfin
          refine ⟨⟨i + 1, S', rfl, by omega, hfin⟩, ?_⟩
          simp only [idxOf]
          omega
    · repeat' (
          first
            |((with_reducible apply wp_seq_k); intro K hK)
            |(simp only [Exit.then, Exit.inBlock, ↓reduceIte, Nat.reduceEqDiff])
            |with_reducible apply wp_block
            |with_reducible apply wp_skip
            |with_reducible apply wp_exit
            |((with_reducible apply wp_cond_true); exact rfl)
            |((with_reducible apply wp_cond_false); exact rfl)
            |(((with_reducible apply wp_cond_split); exact rfl) <;> intro hb <;> (try simp only [bne_iff_ne, ne_eq, bne_eq_false_iff_eq, beq_iff_eq, beq_eq_false_iff_ne, decide_eq_true_eq, decide_eq_false_iff_not, Bool.not_eq_true', Bool.not_eq_false', Bool.and_eq_true, Bool.or_eq_true, Bool.and_eq_false_iff, Bool.or_eq_false_iff, Int.not_lt, Int.not_le, Bool.not_eq_true, Bool.not_eq_false] at hb) <;> (try (have hbl := And.left hb; have hbr := And.right hb)) <;> (try (have hbll := And.left hbl; have hblr := And.right hbl)) <;> (try first | contradiction | exact (bff hb (by assumption)).elim | exact (bft hb (by assumption)).elim | (exfalso; omega)))
            | ((with_reducible apply (wp_region_lit (id := 0)))
               ((with_reducible apply l_boxN); exact rfl; intro g1 w1 hb1 hx1 hg1; (try simp only [SS, Nat.reduceAdd]))
               ((with_reducible apply l_alloc); intro g2 w2 hb2 hx2 hg2; (try simp only [SS, Nat.reduceAdd]))
               (with_reducible apply wpList_nil))
            | ((with_reducible apply (wp_region_lit (id := 3)))
               ((with_reducible apply l_lss); exact rfl; exact rfl; (try simp only [SS, Nat.reduceAdd]))
               (with_reducible apply wpList_nil))
            | ((with_reducible apply (wp_region_lit (id := 7)))
               ((with_reducible apply l_lss); exact rfl; exact rfl; (try simp only [SS, Nat.reduceAdd]))
               (with_reducible apply wpList_nil))
            | ((with_reducible apply (wp_region_lit (id := 10)))
               ((with_reducible apply l_add); exact rfl; exact rfl; (focus (first | (apply IntWalk.i64_in; omega) | exact IntWalk.i64_left _)); (try simp only [SS, Nat.reduceAdd]))
               ((with_reducible apply l_move); (focus (first | (simp only [EE]; done) | (simp only [EE]; exact rfl) | exact rfl)); (try simp only [SS, Nat.reduceAdd]))
               (with_reducible apply wpList_nil))
            | ((with_reducible apply (wp_region_lit (id := 11)))
               ((with_reducible apply l_add); exact rfl; exact rfl; (focus (first | (apply IntWalk.i64_in; omega) | exact IntWalk.i64_left _)); (try simp only [SS, Nat.reduceAdd]))
               ((with_reducible apply l_move); (focus (first | (simp only [EE]; done) | (simp only [EE]; exact rfl) | exact rfl)); (try simp only [SS, Nat.reduceAdd]))
               (with_reducible apply wpList_nil))
            | ((fail_if_success (with_reducible apply no_region)); (fail_if_success (with_reducible apply no_list)); (fail_if_success (with_reducible apply no_oper)); (fail_if_success (with_reducible apply no_par)); (fail_if_success (with_reducible apply no_loop)); go_step))
      obtain ⟨c2, hc2, hc2s⟩ := hk.box2
      with_reducible apply (wp_region_lit (id := 12))
      (with_reducible apply (l_loadN (cs := [.string ⟨t.toArray⟩, .slice A els.length capE]))); exact rfl; (focus (intro j v hj; rw [Nat.zero_add, hk.box.cell]; simpa using hj)); exact rfl; (try simp only [SS, Nat.reduceAdd])
      refine wpList_plain rfl fun K1 hK1 => r_store (n := 2) (by kernel_rfl) rfl (us := [.string ⟨t.toArray⟩, .slice A els.length capE]) rfl rfl (by simp [Value.oneCell']) hc2 (by omega) (hK1 _ _ ?_)
      have hcl : c2.toList.length = 2 := by rw [Array.length_toList]; exact hc2s
      have wr13 := Writes.row hc2 (c2.toList.take 0 ++ [Value.string ⟨t.toArray⟩, Value.slice A els.length capE] ++ c2.toList.drop (0 + 2)).toArray (by simp; omega)
      change wpList _ _ _ _ _ (wr.setRow g2 (c2.toList.take 0 ++ [Value.string ⟨t.toArray⟩, Value.slice A els.length capE] ++ c2.toList.drop (0 + 2)).toArray)
      rw [show c2.toList.take 0 ++ [Value.string ⟨t.toArray⟩, Value.slice A els.length capE] ++ c2.toList.drop (0 + 2) = [Value.string ⟨t.toArray⟩, Value.slice A els.length capE] by rw [List.drop_of_length_le (by omega)]; rfl] at wr13 ⊢
      generalize wr.setRow g2 [Value.string ⟨t.toArray⟩, Value.slice A els.length capE].toArray = w13 at wr13 ⊢
      with_reducible apply wpList_nil
      repeat' (
          first
            |((with_reducible apply wp_seq_k); intro K hK)
            |(simp only [Exit.then, Exit.inBlock, ↓reduceIte, Nat.reduceEqDiff])
            |with_reducible apply wp_block
            |with_reducible apply wp_skip
            |with_reducible apply wp_exit
            |((with_reducible apply wp_cond_true); exact rfl)
            |((with_reducible apply wp_cond_false); exact rfl)
            |(((with_reducible apply wp_cond_split); exact rfl) <;> intro hb <;> (try simp only [bne_iff_ne, ne_eq, bne_eq_false_iff_eq, beq_iff_eq, beq_eq_false_iff_ne, decide_eq_true_eq, decide_eq_false_iff_not, Bool.not_eq_true', Bool.not_eq_false', Bool.and_eq_true, Bool.or_eq_true, Bool.and_eq_false_iff, Bool.or_eq_false_iff, Int.not_lt, Int.not_le, Bool.not_eq_true, Bool.not_eq_false] at hb) <;> (try (have hbl := And.left hb; have hbr := And.right hb)) <;> (try (have hbll := And.left hbl; have hblr := And.right hbl)) <;> (try first | contradiction | exact (bff hb (by assumption)).elim | exact (bft hb (by assumption)).elim | (exfalso; omega)))
            | ((with_reducible apply (wp_region_lit (id := 0)))
               ((with_reducible apply l_boxN); exact rfl; intro g1 w1 hb1 hx1 hg1; (try simp only [SS, Nat.reduceAdd]))
               ((with_reducible apply l_alloc); intro g2 w2 hb2 hx2 hg2; (try simp only [SS, Nat.reduceAdd]))
               (with_reducible apply wpList_nil))
            | ((with_reducible apply (wp_region_lit (id := 3)))
               ((with_reducible apply l_lss); exact rfl; exact rfl; (try simp only [SS, Nat.reduceAdd]))
               (with_reducible apply wpList_nil))
            | ((with_reducible apply (wp_region_lit (id := 7)))
               ((with_reducible apply l_lss); exact rfl; exact rfl; (try simp only [SS, Nat.reduceAdd]))
               (with_reducible apply wpList_nil))
            | ((with_reducible apply (wp_region_lit (id := 10)))
               ((with_reducible apply l_add); exact rfl; exact rfl; (focus (first | (apply IntWalk.i64_in; omega) | exact IntWalk.i64_left _)); (try simp only [SS, Nat.reduceAdd]))
               ((with_reducible apply l_move); (focus (first | (simp only [EE]; done) | (simp only [EE]; exact rfl) | exact rfl)); (try simp only [SS, Nat.reduceAdd]))
               (with_reducible apply wpList_nil))
            | ((with_reducible apply (wp_region_lit (id := 11)))
               ((with_reducible apply l_add); exact rfl; exact rfl; (focus (first | (apply IntWalk.i64_in; omega) | exact IntWalk.i64_left _)); (try simp only [SS, Nat.reduceAdd]))
               ((with_reducible apply l_move); (focus (first | (simp only [EE]; done) | (simp only [EE]; exact rfl) | exact rfl)); (try simp only [SS, Nat.reduceAdd]))
               (with_reducible apply wpList_nil))
            | ((fail_if_success (with_reducible apply no_region)); (fail_if_success (with_reducible apply no_list)); (fail_if_success (with_reducible apply no_oper)); (fail_if_success (with_reducible apply no_par)); (fail_if_success (with_reducible apply no_loop)); go_step))
      have hst13 := hk.pt.write hw hg2' wr13
      have hT2 : TRow Tryz.prog 76 2 := inferInstance
      obtain ⟨dd, k1, k2⟩ := hT2.h
      have hl13 := run_loadVar_at (P := Tryz.prog) w13 g2 0 76 [.string ⟨t.toArray⟩, .slice A els.length capE] dd (fun j u hu => by
        rw [Nat.zero_add, cell_of_row w13 g2 _ _ _ (0, 0) wr13.now]
        simpa using hu) k1 (by cases dd <;> first | rfl | cases k2) (by rw [hT2.sz]; rfl)
      refine bodyPost_ret (v := .agg #[.string ⟨t.toArray⟩, .slice A els.length capE]) ?_ rfl ?_
      · have hres : Tryz.f38.results = #[.cell 2 76] := rfl
        simp [results, hres, Act.put, asAddr, hl13]
      · have hfin : ∃ S', PT S w S' w13 ∧ Fz S'.lim w13 (.slice A els.length capE) (.sl 0 1 (els.map elR)) := by
          by_cases h0 : els = []
          · refine ⟨Sk, hst13, ?_⟩
            have hz := (hk.zero h0).write hk.own2 wr13
            rw [h0] at hz ⊢
            exact hz
          · obtain ⟨rfl, hbE, hcap, hmax⟩ := hA h0
            obtain ⟨curE, eE, r1, r2, r3⟩ := hk.cells h0
            have oE := hk.ownE h0
            have dif : g2 ≠ bE := fun e => by have := hk.own2; rw [e, oE] at this; cases this
            have hm := freeze_mono (m := els.length) (q := ⟨0, [1]⟩) (w := w13) oE
            have hbl : bE < w13.heap.size := by rw [wr13.size]; exact (Array.getElem?_eq_some_iff.1 r1).1
            refine ⟨_, PT.name hw hst13 (x := (⟨0, [1]⟩, els.length)) hbE hbl, ?_⟩
            have g : OwnAt (Sk.set bE (some (⟨0, [1]⟩, els.length))) w13 ⟨0, [1]⟩ bE capE 1 1 (els.map elR) curE eE := by
              refine ⟨.inl rfl, (wr13.other bE dif.symm).trans r1, by rw [List.length_map]; exact hcap, hmax, by omega, fun r hr => ?_, by rw [Sig.set_at, List.length_map, if_neg (by decide), Nat.mul_one], fun k r j d hk' hd => ?_⟩
              · obtain ⟨q, _, rfl⟩ := List.mem_map.1 hr
                rfl
              · rw [List.getElem?_map] at hk'
                cases hq : els[k]? with
                |none => rw [hq] at hk'; cases hk'
                |some q =>
                  rw [hq] at hk'
                  cases hk'
                  match j, hd with
                  |0, hd =>
                    cases hd
                    obtain ⟨y, a1, a2, a3⟩ := r3 k q hq
                    exact ⟨y, by simpa using a1, a2, hm _ _ (a3.write hk.own2 wr13)⟩
                  |j + 1, hd => simp [elR] at hd
            have := g.fz
            rwa [List.length_map] at this
        obtain ⟨S', p', f'⟩ := hfin
        refine ⟨_, S', rfl, p'.wf, p'.trans, .fz (.agg [.string ⟨t.toArray⟩, .slice A els.length capE] rfl (by simp [Value.oneCell']) fun j d v hd hv => ?_)⟩
        match j, hd, hv with
        |0, hd, hv => cases hd; cases hv; exact .str t
        |1, hd, hv => cases hd; cases hv; exact f'
        |j + 2, hd, hv => simp at hd
end Go.Proofs.YtdhlopciapncfaaGreatDoor
