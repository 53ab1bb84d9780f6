/- What a map fills: sets of paths; a world that grew and one map of it was written. -/
import Derived.Test.YtnjgoldinaffgaaGreatDoorY30
import Derived.Lib.ItoaLen
namespace Go.Proofs.YtnjgoldinaffgaaGreatDoor
open _root_.Go.Proofs.Tryz
set_option linter.unusedSimpArgs false
set_option linter.unusedVariables false
open Go.RowKit Go.Sort
set_option maxRecDepth 100000
set_option maxHeartbeats 4000000
instance:TMap Tryz.prog 105 9 4 .str:=⟨underlying105,underlying9⟩
def zKL (s:Str) (ks:List Str):List Str:=if s ∈ ks then ks else ks ++ [s]
theorem zIl (a:Str):∀ {ks:List Str},a ∈ ks→mT (.string ⟨a.toArray⟩) (.bool true) (jP ks)=jP ks
 |[],h=>by simp at h
 |b::r,h=>by
  have hk:=uC a b
  unfold jP at *
  rw [List.map_cons,mT,hk]
  by_cases hab:a=b
  ·subst hab
   simp
  ·have h0:(a == b)=false:=by simpa using hab
   rw [h0]
   have hr:a ∈ r:=by
    rcases List.mem_cons.1 h with h|h
    ·exact absurd h hab
    ·exact h
   have ih:=zIl a hr
   unfold jP at ih
   simp only [ih]
theorem zK5 (s:Str) (ks:List Str):mT (.string ⟨s.toArray⟩) (.bool true) (jP ks)=jP (zKL s ks):=by
 unfold zKL
 split
 ·rename_i h
  exact zIl s h
 ·rename_i h
  exact zBJ s h
theorem zAB (ks:List Str):∀ x ∈ jP ks,fC .str x.1=true:=fun x hx=>by
 obtain ⟨s,_,rfl⟩:=List.mem_map.1 hx
 rfl
def I64 (n:Int):Prop := -9223372036854775808≤n∧n≤9223372036854775807
def zFD (before tag:Str) (f:Fld):Str:=before++tag ++ [46]++Lib.itoa f.el ++ [46]++Lib.itoa f.pt
def qK (before tag:Str):List Fld→List Str→List Str
 |[],ks=>ks
 |f::fs,ks=>qK before tag fs (zKL (zFD before tag f) ks)
mutual
def MStep.fills (before:Str):MStep→List Str→List Str
 |.mk _ t fs n _ _ ss,ks=>MStep.fillsL (if n = [] then before else before++(n ++ [47])) ss (qK before t fs ks)
def MStep.fillsL (before:Str):List MStep→List Str→List Str
 |[],ks=>ks
 |x::l,ks=>MStep.fillsL before l (MStep.fills before x ks)
end
def zGp:Nat→List MStep→Prop
 |0,l=>l = []
 |d+1,l=>∀ s ∈ l,s.tag.length≤1000∧s.name.length≤1000∧(∀ f ∈ s.flds,I64 f.el∧I64 f.pt)∧zGp d s.kids
structure Grew (w w':World) (b:Nat):Prop where
 os:w'.os=w.os
 tape:w'.tape=w.tape
 output:w'.output=w.output
 size:w.heap.size≤w'.heap.size
 other:∀ k,k < w.heap.size→k ≠ b→w'.heap[k]?=w.heap[k]?
theorem Grew.refl (w:World) (b:Nat):Grew w w b:=⟨rfl,rfl,rfl,Nat.le_refl _,fun _ _ _=>rfl⟩
theorem Grew.trans {w1 w2 w3:World} {b:Nat} (h:Grew w1 w2 b) (k:Grew w2 w3 b):Grew w1 w3 b:=
 ⟨k.os.trans h.os,k.tape.trans h.tape,k.output.trans h.output,Nat.le_trans h.size k.size,fun j h1 h2=>(k.other j (Nat.lt_of_lt_of_le h1 h.size) h2).trans (h.other j h1 h2)⟩
theorem Grew.of {w w':World} {b:Nat} (h:Ext w w'):Grew w w' b:=⟨h.os,h.tape,h.output,h.sizeOf,fun _ hk _=>h.block hk⟩
theorem Grew.ofM {w w':World} {b:Nat} (h:WritesM w w' b):Grew w w' b:=⟨h.os,h.tape,h.output,Nat.le_of_eq h.size.symm,fun k _ hk=>h.other k hk⟩
theorem Grew.fz {S:Sig} {w w':World} {b:Nat} {q:Place} (hb:S.own b=some (q,0)) (h:Grew w w' b) {v:Value} {d:D} (f:Fz S.lim w v d):Fz S.lim w' v d:=
 f.still fun k hk hn=>⟨h.other k hk fun e=>hn (by subst e;simp [Sig.lim,hb]),rfl⟩
theorem Grew.wf {S:Sig} {w w':World} {b:Nat} {q:Place} (hb:S.own b=some (q,0)) (h:Grew w w' b) (hw:WF S w):WF S w':=
 ⟨fun k x hx=>Nat.lt_of_lt_of_le (hw k x hx) h.size,hw.gl.keep fun k hk hn=>⟨h.other k hk (fun e=>by subst e;rw [hb] at hn;cases hn),hn⟩⟩
theorem Grew.blk {w w':World} {b g:Nat} {t:TypeId} {cs:Array Value} (h:Grew w w' b) (k:Blk w g t cs) (hg:g ≠ b):Blk w' g t cs:=(h.other g k.lt hg).trans k
def MapIs (w:World) (b:Nat) (es:List (Value × Value)):Prop:=∃ ents clock,w.heap[b]?=some (.map ents clock)∧cG ents clock∧ents.toList.map pr=es
theorem MapIs.lt {w:World} {b:Nat} {es:List (Value × Value)} (h:MapIs w b es):b < w.heap.size:=by
 obtain ⟨ents,clock,h1,_⟩:=h
 exact (Array.getElem?_eq_some_iff.1 h1).1
theorem MapIs.ext {w w':World} {b:Nat} {es:List (Value × Value)} (h:MapIs w b es) (hx:Ext w w'):MapIs w' b es:=by
 obtain ⟨ents,clock,h1,h2,h3⟩:=h
 exact ⟨ents,clock,(hx.block (Array.getElem?_eq_some_iff.1 h1).1).trans h1,h2,h3⟩
theorem Fz.sl_max {lim:Nat→Option Nat} {w:World} {v:Value} {sz:Nat} {rows:List (List D)} (h:Fz lim w v (.sl 0 sz rows)):rows.length≤9223372036854775807:=by
 cases h with
 |slNil=>simp
 |slE A=>simp
 |sl cv hc hm hr hh _=>unfold maxLen at hm;omega
theorem Fz.sl_row {lim:Nat→Option Nat} {w:World} {A:Option Addr} {n cap sz:Nat} {rows:List (List D)} (h:Fz lim w (.slice A n cap) (.sl 0 sz rows)) {k:Nat} {r:List D} (hk:rows[k]?=some r):∃ (b o:Nat) (cs:List Value),A=some ⟨b,o,none⟩∧RowAt w b (o+k * sz) cs∧cs.length=sz∧r.length=sz∧(∀ u ∈ cs,u.oneCell'=true)∧∀ (j:Nat) (d:D) (v:Value),r[j]?=some d→cs[j]?=some v→Fz lim w v d:=by
 cases h with
 |slNil=>simp at hk
 |slE A=>simp at hk
 |@sl b o cap _ _ cv hc hm hr hh ih=>
  have hrl:=hr k r hk
  have hget:∀ (j:Nat) (v:Value),((List.range sz).map (cv k))[j]?=some v→j < sz∧v=cv k j:=fun j v hv=>by
   rw [List.getElem?_map] at hv
   by_cases hj:j < sz
   ·rw [List.getElem?_range hj] at hv
    exact ⟨hj,by simpa using hv.symm⟩
   ·rw [List.getElem?_eq_none (by simp;omega)] at hv
    cases hv
  refine ⟨b,o,(List.range sz).map (cv k),rfl,fun j u hj => ?_,by simp,hrl,fun u hu => ?_,fun j d v hd hv => ?_⟩
  ·obtain ⟨hj,rfl⟩:=hget j u hj
   exact (hh k r j r[j] hk (List.getElem?_eq_getElem (by omega))).1
  ·obtain ⟨j,hj,rfl⟩:=List.mem_map.1 hu
   have hj:j < sz:=by simpa using hj
   exact (hh k r j r[j] hk (List.getElem?_eq_getElem (by omega))).2.2
  ·obtain ⟨hj,rfl⟩:=hget j v hv
   exact ih k r j d hk hd
def zGo (l:List MStep) (B:Nat):Prop:=∀ (before:Str) (ks:List Str),before.length≤B→∀ (S:Sig) (w:World) (b:Nat) (q:Place) (vL:Value),WF S w→S.own b=some (q,0)→MapIs w b (jP ks)→Fz S.lim w vL (.sl 0 12 (l.map MStep.row))→
 Calls Tryz.prog 49 #[.map (some b),vL,.string ⟨before.toArray⟩] w fun e w'=>e=.returned (.tuple #[])∧Grew w w' b∧MapIs w' b (jP (MStep.fillsL before l ks))
theorem zNb {P:Program} {name:String} {g:Nat} {k:IntKind} {zs:List Int} (hg:P.globalNamed name=some g) (hG:GB g=some (zKW k zs)) {S:Sig} {w:World} (h:GL S w):Lib.TabIs P w name k zs:=by
 obtain ⟨_,o,h2,e,fz,rfl⟩:=h g _ hG
 unfold Lib.TabIs World.var?
 rw [hg]
 simp [h2]
theorem zFn (w:World) (k:Nat) (os:Array Obj):Below w.heap.size w (grow (w.drewN k) os):=
 ⟨rfl,rfl,rfl,by simp [grow,World.drewN],fun b hb=>by
  have hb':b < w.heap.size:=hb
  show (w.heap++os)[b]?=w.heap[b]?
  rw [Array.getElem?_append_left hb']⟩
theorem zDr (n:Int) (h:I64 n):Sem Tryz.prog 88 [.int .i64 n] (.str (Lib.itoa n)):=
 zAJ (us := [.int .i64 n]) (v:=.string ⟨(Lib.itoa n).toArray⟩) rfl rfl (fun _ _=>.str _) fun S w hg=>
  (Any.strconv_Itoa zIV n h.1 h.2 w (zNb (g:=5) (by kernel_rfl) rfl hg)).mono fun e w' ⟨he,k,os,hw⟩=>⟨he,by subst hw;exact zFn _ _ _⟩
theorem zHt (n:Int) (h:I64 n):Sem Tryz.prog 54 [.int .i64 n] (.str (Lib.itoa n)):=by
 have i1:=zDr n h
 refine si [1000013,1000035,1000037,1000069,1000070,1000116,1000157] func54 ?_
 repeat'((conv=>whnf);first|(try(first|apply eN|apply eC);conv=>whnf);apply sD;(focus first|exact gx i1|(refine gx (zDr ?_ ?_)<;>exact pre)|exact bV)|apply rR|apply rE|apply rH| (apply cD<;>intro hb<;>(try simp only[aA]at hb)<;>try exact aM))
 all_goals try exact false
 exact aT
theorem wB (n:Int) (h:I64 n) {S:Sig} {w:World} (hw:WF S w):∀ w1,Ext w w1→Calls Tryz.prog 54 [Value.int .i64 n].toArray w1 fun e w'=>e=.returned (.string ⟨(Lib.itoa n).toArray⟩)∧Ext w1 w':=fun w1 hx=>by
 refine (rO (zHt n h) (PT.ext' hw hx).wf rfl (fun i d v hd hv => ?_) ⟨0,[3]⟩).mono fun e w' ⟨v,S',he,hp,hr,_⟩ => ?_
 ·match i,hd,hv with
  |0,hd,hv=>cases hd;cases hv;exact .int _ _
  |i+1,hd,_=>simp at hd
 ·have hf:=hr.passes rfl
  cases hf
  exact ⟨he,hp.ext⟩
end Go.Proofs.YtnjgoldinaffgaaGreatDoor
