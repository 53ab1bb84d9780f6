/- Two maps, one behind the other: the tables of both: what the walk by hand leans on. -/
import Derived.Test.YtnjgoldinaffgaaGreatDoorY29
namespace Go.Proofs.YtnjgoldinaffgaaGreatDoor
open _root_.Go.Proofs.Tryz
set_option linter.unusedSimpArgs false
set_option linter.unusedVariables false
open Go.RowKit
set_option maxRecDepth 100000
set_option maxHeartbeats 4000000
theorem Fz.still {lim lim':Nat→Option Nat} {w w':World} {v:Value} {d:D} (hf:Fz lim w v d) (h:∀ k,k < w.heap.size→lim k ≠ some 0→w'.heap[k]?=w.heap[k]?∧lim' k=lim k):Fz lim' w' v d:=by
 have hcell:∀ {b o:Nat} {v:Value},w.cell? ⟨b,o,none⟩=some v→OkC lim b o→w'.cell? ⟨b,o,none⟩=some v∧OkC lim' b o:=fun {b o v} hc hk=>by
  obtain ⟨h1,h2⟩:=h b (tH hc) (fun e=>by have:=hk 0 e;omega)
  exact ⟨by rw [World.cell?_of_block (a:=⟨b,o,none⟩) (w:=w) h1];exact hc,fun s hs=>hk s (by rw [← h2];exact hs)⟩
 induction hf with
 |any v=>exact .any v
 |int k n=>exact .int k n
 |bool b=>exact .bool b
 |str s=>exact .str s
 |pv v=>exact .pv v
 |nil=>exact .nil
 |slNil m sz=>exact .slNil m sz
 |slE A sz=>exact .slE A sz
 |sl cv hc hm hr hh _ ih=>
  exact .sl cv hc hm hr (fun k r j d h1 h2=>by
   obtain ⟨g1,g2,g3⟩:=hh k r j d h1 h2
   obtain ⟨q1,q2⟩:=hcell g1 g2
   exact ⟨q1,q2,g3⟩) ih
 |ptr cv hh _ ih=>
  exact .ptr cv (fun j d h1=>by
   obtain ⟨g1,g2,g3⟩:=hh j d h1
   obtain ⟨q1,q2⟩:=hcell g1 g2
   exact ⟨q1,q2,g3⟩) ih
 |fn vs hl _ ih=>exact .fn vs hl ih
 |gd _ h0 ih=>exact .gd ih h0
 |agg vs hl h1 _ ih=>exact .agg vs hl h1 ih
 |tup vs hl _ ih=>exact .tup vs hl ih
 |@fmp b clock kd es ents hb hh he hk=>
  obtain ⟨k1,k2⟩:=h b (Array.getElem?_eq_some_iff.1 hh).1 (by rw [hb];simp)
  exact .fmp (k2.trans hb) (k1.trans hh) he hk
section
variable {P:Program} {Q:Exit→Act→World→Prop} {K:Act→World→Prop} {a:Act} {w:World} {dst:Option Tmp} {ty:TypeId} {pos:String} {after:Array Edge} {guard:Option (Nat × Bool)}
theorem zEA {s x:Operand} {t e n bytes B g p c:Nat} {zc:List Value} [i:TSlice P t e] [z:TElem P e n bytes zc] {v:Value} {rows:List (List Value)} {r:List Value} (hs:a.eval s=v) (hown:Own w B e n v rows)
  (hx:a.eval x=.slice (some ⟨g,p,none⟩) 1 c) (hrow:RowAt w g p r) (hl:r.length=n) (h1:∀ u ∈ r,u.oneCell'=true) (hB:B≤w.heap.size) (hlen:rows.length+1≤1000000000) (hby:bytes≤1000)
  (hr:∀ g' c' cur w',Own w' B e n (.slice (some ⟨g',0,none⟩) (rows.length+1) c') (rows ++ [r])→w'.heap[g']?=some (.cells cur e (0,0))→(v.ownBlock=some g'∨w.heap.size≤g')→w.grownBy w' v.ownBlock→K (a.put dst (.slice (some ⟨g',0,none⟩) (rows.length+1) c')) w'):(Oper.mk dst (.call ⟨.builtin .append,#[s,x],#[t,t]⟩) ty pos after guard).wp P a w K Q:=by
 obtain ⟨inf,z0,h1',h2,h3,h4,h5,h6⟩:=z.h
 have hmul:(rows.length+1) * bytes≤1000000000 * 1000:=Nat.mul_le_mul hlen hby
 have ht:=i.h
 have hnews:∀ (j:Nat) (y:Value),r[j]?=some y→w.cell? ((⟨g,p,none⟩:Addr).add j)=some y:=fun j y hy=>by
  have hadd:(⟨g,p,none⟩:Addr).add j=⟨g,p+j,none⟩:=by unfold Addr.add;split<;>simp_all
  rw [hadd]
  exact hrow j y hy
 obtain ⟨v',w',hrun,h7,h8,_⟩:=run_append_own (P:=P) w B t ty e inf z0 n bytes ht h1' h2 h3 h4 h5 h6 v rows.length rows.flatten hown.own ⟨g,p,none⟩ 1 c r (by omega) hnews h1 (by unfold maxLen;omega) (by omega) hB
 have hO:Own w' B e n v' (rows ++ [r]):=by
  refine ⟨?_,fun y hy => ?_⟩
  ·rw [List.length_append,List.flatten_append]
   simpa using h7
  ·rcases List.mem_append.1 hy with hy|hy
   ·exact hown.each y hy
   ·rw [List.mem_singleton.1 hy]
    exact hl
 refine cJ (by rw [hs,hx];exact hrun) ?_
 obtain ⟨_,h10⟩:=hO.own
 rcases h10 with ⟨_,hn⟩|⟨g',cap,cur,hv,hB',hg,_⟩
 ·simp at hn
 ·rw [List.length_append] at hv
  subst hv
  refine hr g' cap cur w' hO hg ?_ h8
  obtain ⟨hl0,ho⟩:=hown.own
  rcases ho with ⟨rfl,hn0⟩|⟨g0,cap0,cur0,rfl,_,hg0,hnc,hcm,hcs,htake⟩
  ·have hrow0:rows = []:=List.eq_nil_of_length_eq_zero hn0
   subst hrow0
   have hr2:=run_append_nil (P:=P) w t ty e inf z0 ht h1' h2 ⟨g,p,none⟩ 1 c r (by rw [h3];omega) hnews (by omega) (by omega) (by rw [h4];omega)
   rw [hrun] at hr2
   injection hr2 with e1 _
   injection e1 with e1 _ _
   cases e1
   exact .inr (Nat.le_refl _)
  ·by_cases hroom:rows.length+1≤cap0
   ·have hr2:=run_append_room (P:=P) w t ty e inf ht h1' g0 rows.length cap0 cur0 hg0 ⟨g,p,none⟩ 1 c r (by rw [h3];omega) hnews h1 hroom (by rw [h3,hl,hcs,← Nat.succ_mul];exact Nat.mul_le_mul_right _ hroom)
    rw [hrun] at hr2
    injection hr2 with e1 _
    injection e1 with e1 _ _
    cases e1
    exact .inl rfl
   ·have holds:∀ (j:Nat) (u:Value),rows.flatten[j]?=some u→w.cell? ((⟨g0,0,none⟩:Addr).add j)=some u:=hown.own.cells (g:=g0) rfl
    have hr2:=run_append_grow (P:=P) w t ty e inf z0 ht h1' h2 ⟨g0,0,none⟩ rows.length cap0 rows.flatten (by rw [h3];exact hl0) holds ⟨g,p,none⟩ 1 c r (by rw [h3];omega) hnews (by omega) (by omega) (growslice_fits (by omega) (by rw [h4];omega))
    rw [hrun] at hr2
    injection hr2 with e1 _
    injection e1 with e1 _ _
    cases e1
    exact .inr (Nat.le_refl _)
end
theorem zDG {S:Sig} {w:World} {b m:Nat} {p q:Place} (ho:S.own b=some (p,0)) (v:Value) (d:D) (h:Fz S.lim w v d):Fz (S.set b (some (q,m))).lim w v d:=by
 refine h.mono (fun b' o v _ hk s hs => ?_) (fun b' hn => ?_)
 ·by_cases hb:b'=b
  ·subst hb
   have:=hk 0 (by simp [Sig.lim,ho])
   omega
  ·exact hk s (by simpa [Sig.lim,S.set_ne _ hb] using hs)
 ·have hb:b' ≠ b:=fun e=>by subst e;simp [Sig.lim,ho] at hn
  simpa [Sig.lim,S.set_ne _ hb] using hn
instance:TMap Tryz.prog 88 9 51 .str:=⟨underlying88,underlying9⟩
instance:TZ1 Tryz.prog 51 (.agg #[.string ⟨#[]⟩,.slice none 0 0]):=⟨by kernel_rfl⟩
section
variable {P:Program} {Q:Exit→Act→World→Prop} {a:Act} {w:World} {ops:Array Oper} {rest:List Oper} {o:Oper}
theorem zHg (hw:Region.wanted o (yielded ops a.tmps)=true) (h:o.wp P a w (fun a' w'=>wpList P ops Q rest a' w') Q):wpList P ops Q (o::rest) a w:=by
 unfold wpList
 rw [hw,if_pos rfl]
 exact .inl h
theorem zA9 (hw:Region.wanted o (yielded ops a.tmps)=false) (h:wpList P ops Q rest (a.put o.dst undef) w):wpList P ops Q (o::rest) a w:=by
 unfold wpList
 rw [hw,if_neg (by simp)]
 exact h
end
structure WritesM (w w':World) (b:Nat):Prop where
 os:w'.os=w.os
 tape:w'.tape=w.tape
 output:w'.output=w.output
 size:w'.heap.size=w.heap.size
 other:∀ b',b' ≠ b→w'.heap[b']?=w.heap[b']?
 was:∃ ents clock,w.heap[b]?=some (.map ents clock)
theorem WritesM.set {w:World} {b clock clock':Nat} {ents ents':Array MapEntry} (hh:w.heap[b]?=some (.map ents clock)):WritesM w (World.setMap w b (.map ents' clock')) b∧(World.setMap w b (.map ents' clock')).heap[b]?=some (.map ents' clock'):=by
 obtain ⟨h1,h2⟩:=MapKept.heap_set (o':=.map ents' clock') hh
 exact ⟨⟨rfl,rfl,rfl,by simp [World.setMap],h2,_,_,hh⟩,h1⟩
theorem Trans.writeM {S S':Sig} {w w1 w2:World} (t:Trans S w S' w1) {b:Nat} (hm:Mine S w b) {q:Place} (ho:S'.own b=some (q,0)) (h:WritesM w1 w2 b):Trans S w S' w2:=by
 refine ⟨h.os.trans t.os,h.tape.trans t.tape,h.output.trans t.output,by rw [h.size];exact t.size,fun b' hb hn => ?_,fun b' p l hb hs hr => ?_,fun b' p l hb hs => ?_,t.loc2⟩
 ·have hne:b' ≠ b:=fun e=>by
   subst e
   obtain ⟨p,l,h1,_⟩:=hm hb
   rw [hn] at h1;cases h1
  rw [h.other b' hne]
  exact t.free b' hb hn
 ·have hne:b' ≠ b:=fun e=>by
   subst e
   obtain ⟨p',l',h1,h2⟩:=hm hb
   rw [hs] at h1;cases h1
   exact h2 hr
  rw [h.other b' hne]
  exact t.foreign b' p l hb hs hr
 ·obtain ⟨h1,h2⟩:=t.held b' p l hb hs
  refine ⟨?_,h2⟩
  by_cases hne:b'=b
  ·subst hne
   intro c0 e0 fz hc
   obtain ⟨c1,k1,k2,_⟩:=h1 c0 e0 fz hc
   obtain ⟨ents,clock,hw⟩:=h.was
   rw [hw] at k1
   cases k1
  ·rw [h.other b' hne]
   exact h1
theorem Fz.writeM {S:Sig} {w w':World} {b:Nat} {q:Place} (ho:S.own b=some (q,0)) (h:WritesM w w' b) {v:Value} {d:D} (hf:Fz S.lim w v d):Fz S.lim w' v d:=by
 have hl:S.lim=(S.set b (some (.res,0))).lim:=by
  funext b'
  by_cases hb:b'=b
  ·subst hb;simp [Sig.lim,S.set_at,ho]
  ·simp [Sig.lim,S.set_ne _ hb]
 have hr:(S.set b (some (.res,0))).own b=some (.res,0):=by rw [S.set_at]
 have t:Trans (S.set b (some (.res,0))) w (S.set b (some (.res,0))) w':=
  (Trans.refl _ w).writeM (fun _=>⟨_,_,hr,by simp [Place.res]⟩) hr h
 rw [hl] at hf ⊢
 exact hf.trans t
theorem PT.writeM {S S':Sig} {w w1 w2:World} (hw:WF S w) (h:PT S w S' w1) {b:Nat} (h0:w.heap.size≤b) (hwr:WritesM w1 w2 b):PT S w S' w2:=
 ⟨⟨hwr.os.trans h.ext.os,hwr.tape.trans h.ext.tape,hwr.output.trans h.ext.output,by rw [hwr.size];exact h.ext.sizeOf,fun b' hb=>(hwr.other b' (by omega)).trans (h.ext.block hb)⟩,h.own,h.loc,fun b' y hy=>by rw [hwr.size];exact h.wf b' y hy,hw.gl.keep fun b' hb hn=>⟨(hwr.other b' (by omega)).trans (h.ext.block hb),(h.own b' hb).trans hn⟩⟩
def EntR (S:Sig) (w:World) (es:List (Value × Value)) (all:List Tb):Prop:=es.length=all.length∧∀ (i:Nat) (t:Tb),all[i]?=some t→∃ u,es[i]?=some (.string ⟨t.name.toArray⟩,.agg #[.string ⟨t.name.toArray⟩,u])∧u.oneCell'=true∧Fz S.lim w u (.sl 0 2 (t.rows.map rU))
structure TSt (S:Sig) (w:World) (g2 g3 m:Nat) (ua ub:Array Value) (all:List Tb) (Sk:Sig) (wk:World):Prop where
 pt:PT S w Sk wk
 box2:Blk wk g2 25 ua
 box3:Blk wk g3 25 ub
 own:Sk.own m=some (⟨0,[1]⟩,0)
 new:w.heap.size≤m
 map:∃ ents clock,wk.heap[m]?=some (.map ents clock)∧cG ents clock∧EntR Sk wk (ents.toList.map pr) all
def zPQ (n:Nat) (d:D) (v:Value):Prop:=∀ sz rows b l c,d=.sl 2 sz rows→rows ≠ []→v=.slice (some ⟨b,0,none⟩) l c→n≤b
theorem rO {P:Program} {f:Nat} {ds':List D} {d:D} (hsem:Sem P f ds' d) {S:Sig} {w:World} (hw:WF S w) {vs:List Value} (hlen:vs.length=ds'.length) (hfz:∀ (i:Nat) (d:D) (v:Value),ds'[i]?=some d→vs[i]?=some v→Fz S.lim w v d) (p:Place):
  Calls P f vs.toArray w fun e w'=>∃ v S',e=.returned v∧PT S w S' w'∧Rep S' w' p v d∧zPQ w.heap.size d v:=by
 obtain ⟨hen,hcalm,hsem⟩:=hsem
 have hwh:WF S.hide w:=hw.hide
 refine (hsem S.hide w vs hwh hlen fun i d v hd hv=>.fz (by rw [S.hide_lim];exact hfz i d v hd hv)).mono fun e w' ⟨v,S',he,hw',ht,hrep⟩ => ?_
 have hold:∀ b,b < w.heap.size→w'.heap[b]?=w.heap[b]?∧S'.own b=S.hide.own b:=fun b hb=>by
  cases ho:S.own b with
  |none=>
   have h0:S.hide.own b=none:=by simp [Sig.hide,ho]
   obtain ⟨k1,k2⟩:=ht.free b hb h0
   exact ⟨k1,k2.trans h0.symm⟩
  |some y=>
   have h0:S.hide.own b=some (.dead,y.2):=by simp [Sig.hide,ho]
   obtain ⟨k1,k2⟩:=ht.foreign b _ _ hb h0 rfl
   exact ⟨k1,k2.trans h0.symm⟩
 have hext:Ext w w':=⟨ht.os,ht.tape,ht.output,ht.size,fun b hb=>(hold b hb).1⟩
 have hpt:PT S w (S.back w.heap.size S' p) w':=⟨hext,fun b hb=>by simp only [Sig.back,if_pos hb],rfl,⟨fun b x hb=>by
  by_cases hlt:b < w.heap.size
  ·exact Nat.lt_of_lt_of_le hlt ht.size
  ·simp only [Sig.back,if_neg hlt,Option.map_eq_some_iff] at hb
   obtain ⟨y,hy,_⟩:=hb
   exact hw' b y hy,hw.gl.keep fun b hb hn=>⟨(hold b hb).1,by simp only [Sig.back,if_pos hb];exact hn⟩⟩⟩
 have hfin:=Rep.back (p:=p) (fun b hb=>(hold b hb).2) (x := []) hcalm hrep
 rw [List.append_nil] at hfin
 refine ⟨v,_,he,hpt,hfin,fun sz rows b l c hd hne hv => ?_⟩
 subst hd
 rcases hrep.sl_inv with ⟨e1,_⟩|⟨b',cap,cur,e0,e1,g⟩
 ·rw [hv] at e1;first|exact absurd e1 (by simp)|exact absurd ‹rows = []› hne
 ·rw [hv] at e1
  cases e1
  rcases Nat.lt_or_ge b w.heap.size with hb|hb
  ·have h1:=(hold b hb).2
   rw [g.own] at h1
   simp only [Sig.hide] at h1
   cases ho:S.own b with
   |none=>rw [ho] at h1;cases h1
   |some y=>rw [ho] at h1;cases h1
  ·exact hb
theorem Fz.sl_val {lim:Nat→Option Nat} {w:World} {v:Value} {sz:Nat} {rows:List (List D)} (h:Fz lim w v (.sl 0 sz rows)):∃ A cap,v=.slice A rows.length cap:=by
 cases h with
 |slNil=>exact ⟨_,_,rfl⟩
 |slE A=>exact ⟨_,_,rfl⟩
 |sl cv hc hm hr hh _=>exact ⟨_,_,rfl⟩
theorem Fz.sl_at2 {lim:Nat→Option Nat} {w:World} {A:Option Addr} {n cap:Nat} {rows:List (List D)} (h:Fz lim w (.slice A n cap) (.sl 0 2 rows)) {k:Nat} {d d':D} (hk:rows[k]?=some [d,d']):∃ b o y y',A=some ⟨b,o,none⟩∧RowAt w b (o+k * 2) [y,y']∧y.oneCell'=true∧y'.oneCell'=true∧Fz lim w y d∧Fz lim w y' d':=by
 cases h with
 |slNil=>simp at hk
 |slE A=>simp at hk
 |@sl b o cap _ _ cv hc hm hr hh ih=>
  obtain ⟨h1,_,h2⟩:=hh k _ 0 d hk rfl
  obtain ⟨h3,_,h4⟩:=hh k _ 1 d' hk rfl
  refine ⟨b,o,cv k 0,cv k 1,rfl,fun j u hj => ?_,h2,h4,ih k _ 0 d hk rfl,ih k _ 1 d' hk rfl⟩
  match j,hj with
  |0,hj=>cases hj;exact h1
  |1,hj=>cases hj;exact h3
  |j+2,hj=>simp at hj
def idxOf:Value→Nat
 |.int _ n=>n.toNat
 |_=>0
theorem EntR.grow {S S':Sig} {w w':World} {es:List (Value × Value)} {all:List Tb} (h:EntR S w es all) (f:∀ u d,Fz S.lim w u d→Fz S'.lim w' u d):EntR S' w' es all:=
 ⟨h.1,fun i t ht=>by
  obtain ⟨u,h1,h2,h3⟩:=h.2 i t ht
  exact ⟨u,h1,h2,f _ _ h3⟩⟩
theorem TSt.grow {S:Sig} {w:World} {g2 g3 m:Nat} {ua ub:Array Value} {all:List Tb} {Sk S':Sig} {wk w':World} (h:TSt S w g2 g3 m ua ub all Sk wk) (p:PT Sk wk S' w'):TSt S w g2 g3 m ua ub all S' w':=by
 obtain ⟨ents,clock,h1,h2,h3⟩:=h.map
 have hm:=(Array.getElem?_eq_some_iff.1 h1).1
 exact ⟨h.pt.comp p,h.box2.ext p.ext,h.box3.ext p.ext,(p.own _ hm).trans h.own,h.new,ents,clock,(p.ext.block hm).trans h1,h2,h3.grow fun _ _ f=>f.trans p.trans⟩
theorem yP (a b:Str):gW (.string ⟨a.toArray⟩) (.string ⟨b.toArray⟩)=(a == b):=by
 unfold gW veq
 simp
theorem EntR.put {S:Sig} {w:World} {t:Tb} {u:Value} (h1:u.oneCell'=true) (hf:Fz S.lim w u (.sl 0 2 (t.rows.map rU))):∀ {es:List (Value × Value)} {all:List Tb},EntR S w es all→EntR S w (mT (.string ⟨t.name.toArray⟩) (.agg #[.string ⟨t.name.toArray⟩,u]) es) (cI t all)
 | [],[],h=>⟨rfl,fun i x hx=>by
  cases i with
  |zero=>cases hx;exact ⟨u,rfl,h1,hf⟩
  | succ i=>simp [cI] at hx⟩
 |[],_::_,h=>by have:=h.1;simp at this
 |_::_,[],h=>by have:=h.1;simp at this
 |e::es,o::all,h=>by
  obtain ⟨v,g1,g2,g3⟩:=h.2 0 o rfl
  simp only [List.getElem?_cons_zero,Option.some.injEq] at g1
  subst g1
  have ht:EntR S w es all:=⟨by have:=h.1;simpa using this,fun i x hx=>h.2 (i+1) x (by simpa using hx)⟩
  have hk:=yP t.name o.name
  unfold cI mT
  by_cases hn:t.name=o.name
  ·have:(t.name == o.name)=true:=by simpa using hn
   rw [hk,this,if_pos hn]
   refine ⟨by simpa using ht.1,fun i x hx => ?_⟩
   cases i with
   |zero=>cases hx;exact ⟨u,rfl,h1,hf⟩
   |succ i=>
    obtain ⟨v',q1,q2,q3⟩:=ht.2 i x (by simpa using hx)
    exact ⟨v',by simpa using q1,q2,q3⟩
  ·have:(t.name == o.name)=false:=by simpa using hn
   rw [hk,this,if_neg hn]
   have ih:=EntR.put h1 hf ht
   refine ⟨by simpa using ih.1,fun i x hx => ?_⟩
   cases i with
   |zero=>cases hx;exact ⟨v,rfl,g2,g3⟩
   |succ i=>
    obtain ⟨v',q1,q2,q3⟩:=ih.2 i x (by simpa using hx)
    exact ⟨v',by simpa using q1,q2,q3⟩
theorem EntR.keys {S:Sig} {w:World} {es:List (Value × Value)} {all:List Tb} (h:EntR S w es all):∀ x ∈ es,fC .str x.1=true:=fun x hx=>by
 obtain ⟨i,hi,rfl⟩:=List.mem_iff_getElem.1 hx
 have hl:=h.1
 obtain ⟨u,h1,_⟩:=h.2 i all[i] (List.getElem?_eq_getElem (by omega))
 rw [List.getElem?_eq_getElem hi] at h1
 rw [Option.some.inj h1]
 rfl
theorem EntR.find {S:Sig} {w:World} {n:Str}:∀ {es:List (Value × Value)} {all:List Tb},EntR S w es all→(cZ n all=none∧gA (.string ⟨n.toArray⟩) es=none)∨∃ o u,cZ n all=some o∧gA (.string ⟨n.toArray⟩) es=some (.agg #[.string ⟨n.toArray⟩,u])∧u.oneCell'=true∧Fz S.lim w u (.sl 0 2 (o.rows.map rU))
 |[],[],h=>.inl ⟨rfl,rfl⟩
 |[],_::_,h=>by have:=h.1;simp at this
 |_::_,[],h=>by have:=h.1;simp at this
 |e::es,o::all,h=>by
  obtain ⟨v,g1,g2,g3⟩:=h.2 0 o rfl
  simp only [List.getElem?_cons_zero,Option.some.injEq] at g1
  subst g1
  have ht:EntR S w es all:=⟨by have:=h.1;simpa using this,fun i x hx=>h.2 (i+1) x (by simpa using hx)⟩
  have hk:=yP n o.name
  unfold cZ gA
  by_cases hn:o.name=n
  ·subst hn
   have:(o.name == o.name)=true:=by simp
   rw [hk,this,if_pos rfl]
   exact .inr ⟨o,v,rfl,rfl,g2,g3⟩
  ·have:(n == o.name)=false:=by simpa using fun e=>hn e.symm
   rw [hk,this,if_neg hn]
   exact EntR.find ht
theorem uZ (t:Tb):∀ (l all:List Tb),dK all (l ++ [t])=cI t (dK all l)
 |[],all=>rfl
 |x::l,all=>by
  rw [List.cons_append,dK,dK]
  exact uZ t l _
def vF (s:Str):List D := [.str s]
theorem zFR {S:Sig} {w w':World} (hw:WF S w) {base n:Nat} (hb:w.heap.size≤base) {v:Value} {e:TypeId} {l:List Str} (ho:w'.ownsRow base e 1 v n (l.map fun s=>Value.string ⟨s.toArray⟩)) (hn:n=l.length):Fz S.lim w' v (.sl 0 1 (l.map vF)):=by
 subst hn
 rcases ho.2 with ⟨rfl,h0⟩|⟨g,cap,cur,rfl,hg,hh,hnc,hcm,hcs,ht⟩
 ·obtain rfl:=List.eq_nil_of_length_eq_zero h0
  exact .slNil 0 1
 ·have hlim:S.lim g=none:=by
   cases ho:S.own g with
   |none=>simp [Sig.lim,ho]
   |some y=>have:=hw g y ho;omega
  have hlen:(l.map vF).length=l.length:=List.length_map _
  rw [show l.length=(l.map vF).length from hlen.symm]
  have key:∀ (k:Nat) (r:List D) (j:Nat) (d:D),(l.map vF)[k]?=some r→r[j]?=some d→j=0∧∃ s,l[k]?=some s∧d=.str s:=fun k r j d h1 h2=>by
   rw [List.getElem?_map] at h1
   cases hl:l[k]? with
   |none=>rw [hl] at h1;cases h1
   |some s=>
    rw [hl] at h1
    cases h1
    match j,h2 with
    |0,h2=>cases h2;exact ⟨rfl,s,rfl,rfl⟩
    |j+1,h2=>simp [vF] at h2
  refine .sl (fun k _=>.string ⟨(l.getD k []).toArray⟩) (by rw [hlen];exact hnc) hcm (fun k r hk => ?_) (fun k r j d h1 h2 => ?_) (fun k r j d h1 h2 => ?_)
  ·obtain ⟨s,_,rfl⟩:=List.mem_map.1 (aK hk)
   rfl
  ·obtain ⟨rfl,s,hs,rfl⟩:=key k r j d h1 h2
   refine ⟨?_,fun z hz=>(by rw [hlim] at hz;cases hz),rfl⟩
   rw [cell_of_row w' g _ cur e (0,0) hh]
   have hlt:=(bC hs)
   have h3:(cur.toList.take (l.length * 1))[k]?=some (Value.string ⟨s.toArray⟩):=by
    rw [ht,List.getElem?_map,hs]
    rfl
   rw [List.getElem?_take,if_pos (by omega),Array.getElem?_toList] at h3
   rw [List.getD_eq_getElem?_getD,hs]
   simpa using h3
  ·obtain ⟨rfl,s,hs,rfl⟩:=key k r j d h1 h2
   rw [List.getD_eq_getElem?_getD,hs]
   exact .str s
theorem Fz.sl_at {lim:Nat→Option Nat} {w:World} {A:Option Addr} {n cap:Nat} {rows:List (List D)} (h:Fz lim w (.slice A n cap) (.sl 0 1 rows)) {k:Nat} {d:D} (hk:rows[k]?=some [d]):∃ b o y,A=some ⟨b,o,none⟩∧w.cell? ⟨b,o+k,none⟩=some y∧y.oneCell'=true∧Fz lim w y d:=by
 cases h with
 |slNil=>simp at hk
 |slE A=>simp at hk
 |@sl b o cap _ _ cv hc hm hr hh ih=>
  obtain ⟨h1,_,h2⟩:=hh k [d] 0 d hk rfl
  refine ⟨b,o,cv k 0,rfl,?_,h2,ih k [d] 0 d hk rfl⟩
  rw [← h1,Nat.mul_one,Nat.add_zero]
theorem zEj {all:List Tb} {ks:List Str} {j:Nat} {s:Str} {o:Tb} (h:ks[j]?=some s) (ho:cZ s all=some o):lR all (ks.take (j+1))=lR all (ks.take j) ++ [o]:=by
 rw [List.take_add_one,h]
 unfold lR
 rw [List.filterMap_append]
 simp [ho]
theorem EntR.keyList {S:Sig} {w:World}:∀ {es:List (Value × Value)} {all:List Tb},EntR S w es all→es.map Prod.fst=(all.map Tb.name).map fun s=>Value.string ⟨s.toArray⟩
 |[],[],h=>rfl
 |[],_::_,h=>by have:=h.1;simp at this
 |_::_,[],h=>by have:=h.1;simp at this
 |e::es,o::all,h=>by
  obtain ⟨v,g1,g2,g3⟩:=h.2 0 o rfl
  simp only [List.getElem?_cons_zero,Option.some.injEq] at g1
  subst g1
  have ht:EntR S w es all:=⟨by have:=h.1;simpa using this,fun i x hx=>h.2 (i+1) x (by simpa using hx)⟩
  simp only [List.map_cons]
  rw [EntR.keyList ht]
structure OSt (S:Sig) (w:World) (m:Nat) (all:List Tb) (vK:Value) (ks:List Str) (vo:Value) (ts:List Tb) (news:List (List Value)) (Sk:Sig) (wk:World):Prop where
 pt:PT S w Sk wk
 mown:Sk.own m=some (⟨0,[1]⟩,0)
 map:∃ ents clock,wk.heap[m]?=some (.map ents clock)∧cG ents clock∧EntR Sk wk (ents.toList.map pr) all
 keys:Fz Sk.lim wk vK (.sl 0 1 (ks.map vF))
 own:Own wk w.heap.size 51 2 vo news
 blk:∀ g,vo.ownBlock=some g→Sk.own g=some (⟨0,[2]⟩,0)
 len:news.length=ts.length
 rows:∀ (k:Nat) (t:Tb),ts[k]?=some t→∃ u,news[k]?=some [.string ⟨t.name.toArray⟩,u]∧u.oneCell'=true∧Fz Sk.lim wk u (.sl 0 2 (t.rows.map rU))
theorem OSt.grow {S:Sig} {w:World} {m:Nat} {all:List Tb} {vK:Value} {ks:List Str} {vo:Value} {ts:List Tb} {news:List (List Value)} {Sk S':Sig} {wk w':World} (h:OSt S w m all vK ks vo ts news Sk wk) (p:PT Sk wk S' w'):OSt S w m all vK ks vo ts news S' w':=by
 obtain ⟨ents,clock,h1,h2,h3⟩:=h.map
 have hm:=(Array.getElem?_eq_some_iff.1 h1).1
 refine ⟨h.pt.comp p,(p.own _ hm).trans h.mown,⟨ents,clock,(p.ext.block hm).trans h1,h2,h3.grow fun _ _ f=>f.trans p.trans⟩,h.keys.trans p.trans,h.own.ext p.ext,fun g hg => ?_,h.len,fun k t ht => ?_⟩
 ·have ho:=h.blk g hg
  exact (p.own _ (h.pt.wf g _ ho)).trans ho
 ·obtain ⟨u,a1,a2,a3⟩:=h.rows k t ht
  exact ⟨u,a1,a2,a3.trans p.trans⟩
theorem OSt.app {S:Sig} {w:World} (hw:WF S w) {m:Nat} {all:List Tb} {vK:Value} {ks:List Str} {vo:Value} {ts:List Tb} {news:List (List Value)} {Sk:Sig} {wk w':World} (h:OSt S w m all vK ks vo ts news Sk wk) {t:Tb} {u:Value} (h1:u.oneCell'=true) (hf:Fz Sk.lim wk u (.sl 0 2 (t.rows.map rU)))
  {g' l c':Nat} {cur:Array Value} {e:TypeId} (hO:Own w' w.heap.size 51 2 (.slice (some ⟨g',0,none⟩) l c') (news ++ [[.string ⟨t.name.toArray⟩,u]])) (hg:w'.heap[g']?=some (.cells cur e (0,0))) (hor:vo.ownBlock=some g'∨wk.heap.size≤g') (hgr:wk.grownBy w' vo.ownBlock):
  OSt S w m all vK ks (.slice (some ⟨g',0,none⟩) l c') (ts ++ [t]) (news ++ [[.string ⟨t.name.toArray⟩,u]]) (Sk.set g' (some (⟨0,[2]⟩,0))) w':=by
 have hold:∀ k,k < wk.heap.size→Sk.lim k ≠ some 0→k ≠ g':=fun k hk hn e=>by
  subst e
  rcases hor with h2|h2
  ·exact hn (by simp [Sig.lim,h.blk k h2])
  ·omega
 have hne:∀ k,Sk.own k ≠ some (⟨0,[2]⟩,0)→some k ≠ vo.ownBlock:=fun k hk e=>hk (h.blk k e.symm)
 have hst:∀ k,k < wk.heap.size→Sk.lim k ≠ some 0→w'.heap[k]?=wk.heap[k]?∧(Sk.set g' (some (⟨0,[2]⟩,0))).lim k=Sk.lim k:=fun k hk hn=>
  ⟨hgr.block k hk (hne k fun e=>hn (by simp [Sig.lim,e])),by simp [Sig.lim,Sk.set_ne _ (hold k hk hn)]⟩
 have hfz:∀ {v:Value} {d:D},Fz Sk.lim wk v d→Fz (Sk.set g' (some (⟨0,[2]⟩,0))).lim w' v d:=fun f=>f.still hst
 have hge:∀ g,vo.ownBlock=some g→w.heap.size≤g:=fun g hgo=>by
  rcases h.own.own.2 with ⟨rfl,_⟩|⟨g0,cap,c0,rfl,hb,_⟩
  ·cases hgo
  ·cases hgo;exact hb
 have hg0:w.heap.size≤g':=by
  rcases hor with h2|h2
  ·exact hge g' h2
  ·exact Nat.le_trans h.pt.ext.sizeOf h2
 have hblk:∀ b,b < w.heap.size→w'.heap[b]?=wk.heap[b]?:=fun b hb=>hgr.block b (Nat.lt_of_lt_of_le hb h.pt.ext.sizeOf) fun e=>by have:=hge b e.symm;omega
 have hpt:PT S w Sk w':=⟨⟨hgr.os.trans h.pt.ext.os,hgr.tape.trans h.pt.ext.tape,hgr.output.trans h.pt.ext.output,Nat.le_trans h.pt.ext.sizeOf hgr.size,fun b hb=>(hblk b hb).trans (h.pt.ext.block hb)⟩,h.pt.own,h.pt.loc,fun b y hy=>Nat.lt_of_lt_of_le (h.pt.wf b y hy) hgr.size,hw.gl.keep fun b hb hn=>⟨(hblk b hb).trans (h.pt.ext.block hb),(h.pt.own b hb).trans hn⟩⟩
 obtain ⟨ents,clock,k1,k2,k3⟩:=h.map
 have hm:=(Array.getElem?_eq_some_iff.1 k1).1
 have hmg:m ≠ g':=fun e=>by
  subst e
  rcases hor with h2|h2
  ·have:=h.blk m h2
   rw [h.mown] at this
   cases this
  ·omega
 have hmb:w'.heap[m]?=wk.heap[m]?:=hgr.block m hm (hne m (by rw [h.mown];intro e;cases e))
 refine ⟨PT.name hw hpt hg0 (Array.getElem?_eq_some_iff.1 hg).1,by rw [Sk.set_ne _ hmg];exact h.mown,⟨ents,clock,hmb.trans k1,k2,k3.grow fun _ _ f=>hfz f⟩,hfz h.keys,hO,fun g hgo=>by cases hgo;rw [Sk.set_at],by simp [h.len],fun k t' ht => ?_⟩
 by_cases hk:k < ts.length
 ·rw [List.getElem?_append_left hk] at ht
  obtain ⟨u',a1,a2,a3⟩:=h.rows k t' ht
  exact ⟨u',by rw [List.getElem?_append_left (by rw [h.len];exact hk)];exact a1,a2,hfz a3⟩
 ·rw [List.getElem?_append_right (by omega)] at ht
  obtain ⟨hk0,rfl⟩:k - ts.length=0∧t'=t:=by
   cases hq:k - ts.length with
   |zero=>rw [hq] at ht;exact ⟨rfl,by simpa using ht.symm⟩
   |succ n=>rw [hq] at ht;simp at ht
  refine ⟨u,?_,h1,hfz hf⟩
  rw [List.getElem?_append_right (by rw [h.len];omega),h.len,hk0]
  rfl
theorem OSt.fin {S:Sig} {w:World} (hw:WF S w) {m:Nat} {all:List Tb} {vK:Value} {ks:List Str} {vo:Value} {ts:List Tb} {news:List (List Value)} {Sk:Sig} {wk:World} (h:OSt S w m all vK ks vo ts news Sk wk):∃ S',PT S w S' wk∧Fz S'.lim wk vo (.sl 0 2 (ts.map Tb.row)):=by
 rcases h.own.own.2 with ⟨rfl,h0⟩|⟨g,cap,cur,hv,hb,hh,hnc,hcm,hcs,ht⟩
 ·have:ts = []:=List.eq_nil_of_length_eq_zero (h.len.symm.trans h0)
  subst this
  exact ⟨Sk,h.pt,.slNil 0 2⟩
 ·have ho:=h.blk g (by rw [hv];rfl)
  have hm:=zDG (m:=ts.length * 2) (q:=⟨0,[2]⟩) (w:=wk) ho
  have hlt:=(Array.getElem?_eq_some_iff.1 hh).1
  refine ⟨_,PT.name hw h.pt (x:=(⟨0,[2]⟩,ts.length * 2)) hb hlt,?_⟩
  have gg:OwnAt (Sk.set g (some (⟨0,[2]⟩,ts.length * 2))) wk ⟨0,[2]⟩ g cap 1 2 (ts.map Tb.row) cur 51:=by
   refine ⟨.inl rfl,hh,by rw [List.length_map,← h.len];exact hnc,hcm,hcs,fun r hr => ?_,by rw [Sig.set_at,List.length_map,if_neg (by decide)],fun k r j d hk hd => ?_⟩
   ·obtain ⟨q,_,rfl⟩:=List.mem_map.1 hr
    rfl
   ·rw [List.getElem?_map] at hk
    cases hq:ts[k]? with
    |none=>rw [hq] at hk;cases hk
    |some t=>
     rw [hq] at hk
     cases hk
     obtain ⟨u,a1,a2,a3⟩:=h.rows k t hq
     have hj:j < 2:=by have:=(bC hd);simpa [Tb.row] using this
     have hk2:k < news.length:=(bC a1)
     have hf:=zF h.own.each k _ a1 j hj
     rw [← ht,List.getElem?_take,if_pos (by omega),Array.getElem?_toList] at hf
     match j,hd with
     |0,hd=>cases hd;exact ⟨_,hf,rfl,.str _⟩
     |1,hd=>cases hd;exact ⟨_,hf,a2,hm _ _ a3⟩
     |j+2,hd=>simp [Tb.row] at hd
  have:=gg.fz
  rw [List.length_map] at this
  rw [hv,h.len]
  exact this
end Go.Proofs.YtnjgoldinaffgaaGreatDoor
