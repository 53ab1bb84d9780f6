/- From what was read of an argument to data: maps. -/
import Derived.Test.YtnjgoldinaffgaaGreatDoorY40
namespace Go.Proofs.YtnjgoldinaffgaaGreatDoor
open _root_.Go.Proofs.Tryz
set_option linter.unusedSimpArgs false
set_option linter.unusedVariables false
open Go.ChangeShapes Go.WideShapes Go.ChangeAt Go.RowKit Go.Deep
section
variable {H:Type} {enc:TypeId × Value→H} {w:World} {base:Nat} {held:Bool}
set_option maxRecDepth 100000 in
theorem qQ:Tryz.prog.cellsOf 9=1:=by kernel_rfl
set_option maxRecDepth 100000 in
theorem zS:Tryz.prog.cellsOf 3=1:=by kernel_rfl
set_option maxRecDepth 100000 in
theorem zB8:Tryz.prog.cellsOf 56=4:=by kernel_rfl
set_option maxRecDepth 100000 in
theorem tG:Tryz.prog.cellsOf 58=6:=by kernel_rfl
set_option maxRecDepth 100000 in
theorem zD1:Tryz.prog.cellsOf 71=2:=by kernel_rfl
set_option maxRecDepth 100000 in
theorem pG:Tryz.prog.cellsOf 64=12:=by kernel_rfl
set_option maxRecDepth 100000 in
theorem zD2:Tryz.prog.cellsOf 62=6:=by kernel_rfl
set_option maxRecDepth 100000 in
theorem zAr:Tryz.prog.cellsOf 59=1:=by kernel_rfl
set_option maxRecDepth 100000 in
theorem zB9:Tryz.prog.cellsOf 23=1:=by kernel_rfl
set_option maxRecDepth 100000 in
theorem zE9 {fuel:Nat} {cs:List Value} {x:DataW H × List MemPlace} (h:DataW.trod enc Tryz.prog w base (fun _=>true) held fuel 56 cs=some x):∃ (k:Int) (a b c:Str),jI a∧jI b∧jI c∧Row w cs [.int .i64 k,.str a,.str b,.str c]:=by
 obtain ⟨hl,n,hfu,hf⟩:=iS underlying56 (by kernel_rfl) (by kernel_rfl) h
 match cs,hl with
 |[c0,c1,c2,c3],_=>
  obtain ⟨k,rfl,_⟩:=nC underlying3 (hf 0 _ c0 rfl rfl)
  obtain ⟨a,rfl,ha⟩:=hJ underlying9 (hf 1 _ c1 rfl rfl)
  obtain ⟨b,rfl,hb⟩:=hJ underlying9 (hf 2 _ c2 rfl rfl)
  obtain ⟨c,rfl,hc⟩:=hJ underlying9 (hf 3 _ c3 rfl rfl)
  exact ⟨k,a,b,c,ha,hb,hc,Row.nil.str.str.str.int⟩
set_option maxRecDepth 100000 in
theorem zFb {fuel:Nat} {cs:List Value} {x:DataW H × List MemPlace} (h:DataW.trod enc Tryz.prog w base (fun _=>true) held fuel 58 cs=some x):∃ f:Fld,f.Txt∧f.row.length=6∧Row w cs f.row:=by
 obtain ⟨xs,n,hfu,_,hl,hlen,hg⟩:=DataW.trod_struct underlying58 h
 rw [tG] at hl
 have hl3:xs.length=3:=hlen
 have g0:=hg 0 _ rfl
 have g1:=hg 1 _ rfl
 have g2:=hg 2 _ rfl
 match cs,hl with
 |[c0,c1,c2,c3,c4,c5],hl=>
  have e0:DataW.trod enc Tryz.prog w base (fun _=>true) held n 3 (([c0,c1,c2,c3,c4,c5].drop 0).take (Tryz.prog.cellsOf 3))=xs[0]?:=g0
  have e1:DataW.trod enc Tryz.prog w base (fun _=>true) held n 3 (([c0,c1,c2,c3,c4,c5].drop 1).take (Tryz.prog.cellsOf 3))=xs[1]?:=g1
  have e2:DataW.trod enc Tryz.prog w base (fun _=>true) held n 56 (([c0,c1,c2,c3,c4,c5].drop 2).take (Tryz.prog.cellsOf 56))=xs[2]?:=g2
  rw [zS,List.getElem?_eq_getElem (by omega)] at e0 e1
  rw [zB8,List.getElem?_eq_getElem (by omega)] at e2
  obtain ⟨a,rfl,_⟩:=nC underlying3 ⟨_,e0⟩
  obtain ⟨b,rfl,_⟩:=nC underlying3 ⟨_,e1⟩
  obtain ⟨k,s,p,t,h1,h2,h3,h4⟩:=zE9 e2
  have h4':Row w [c2,c3,c4,c5] [.int .i64 k,.str s,.str p,.str t]:=h4
  exact ⟨⟨a,b,k,s,p,t⟩,⟨h1,h2,h3⟩,rfl,h4'.int.int⟩
set_option maxRecDepth 100000 in
theorem zHp {fuel:Nat} {cs:List Value} {x:DataW H × List MemPlace} (h:DataW.trod enc Tryz.prog w base (fun _=>true) held fuel 71 cs=some x):∃ r:Str × Str,(jI r.1∧jI r.2)∧(rU r).length=2∧Row w cs (rU r):=by
 obtain ⟨xs,n,hfu,_,hl,hlen,hg⟩:=DataW.trod_array underlying71 h
 rw [zD1] at hl
 have g0:=hg 0 (by omega)
 have g1:=hg 1 (by omega)
 rw [qQ,List.getElem?_eq_getElem (by omega)] at g0 g1
 match cs,hl with
 |[c0,c1],hl=>
  obtain ⟨a,rfl,ha⟩:=hJ underlying9 ⟨_,g0⟩
  obtain ⟨b,rfl,hb⟩:=hJ underlying9 ⟨_,g1⟩
  exact ⟨(a,b),⟨ha,hb⟩,rfl,Row.nil.str.str⟩
set_option maxRecDepth 100000 in
theorem zFa {fuel:Nat} {cs:List Value} {x:DataW H × List MemPlace} (h:DataW.trod enc Tryz.prog w base (fun _=>true) held fuel 51 cs=some x):∃ t:Tb,t.Txt∧t.row.length=2∧Row w cs t.row:=by
 obtain ⟨hl,n,hfu,hf⟩:=iS underlying51 (by kernel_rfl) (by kernel_rfl) h
 match cs,hl with
 |[c0,c1],_=>
  obtain ⟨nm,rfl,hn⟩:=hJ underlying9 (hf 0 _ c0 rfl rfl)
  obtain ⟨y1,hy1⟩:=hf 1 _ c1 rfl rfl
  obtain ⟨rs,v1,v2,v3⟩:=fP (sz:=2) (row:=rU) (OkA:=fun r:Str × Str=>jI r.1∧jI r.2) underlying49 (by kernel_rfl) (by decide) (fun m hm cs x hx=>zHp hx) hy1
  exact ⟨⟨nm,rs⟩,⟨hn,v1⟩,rfl,(Row.nil.cons v2 v3).str⟩
set_option maxRecDepth 100000 in
theorem zHo:∀ (fuel:Nat) (cs:List Value) (x:DataW H × List MemPlace),DataW.trod enc Tryz.prog w base (fun _=>true) held fuel 64 cs=some x→∃ s:MStep,s.Txt∧s.row.length=12∧Row w cs s.row:=by
 intro fuel
 induction fuel using Nat.strongRecOn with
 |_ fuel ih=>
  intro cs x h
  obtain ⟨xs,n,hfu,_,hl,hlen,hg⟩:=DataW.trod_struct underlying64 h
  rw [pG] at hl
  have hl7:xs.length=7:=hlen
  have g0:=hg 0 _ rfl
  have g1:=hg 1 _ rfl
  have g2:=hg 2 _ rfl
  have g3:=hg 3 _ rfl
  have g4:=hg 4 _ rfl
  have g5:=hg 5 _ rfl
  have g6:=hg 6 _ rfl
  match cs,hl with
  |[c0,c1,c2,c3,c4,c5,c6,c7,c8,c9,c10,c11],hl=>
   have e0:DataW.trod enc Tryz.prog w base (fun _=>true) held n 3 (([c0,c1,c2,c3,c4,c5,c6,c7,c8,c9,c10,c11].drop 0).take (Tryz.prog.cellsOf 3))=xs[0]?:=g0
   have e1:DataW.trod enc Tryz.prog w base (fun _=>true) held n 9 (([c0,c1,c2,c3,c4,c5,c6,c7,c8,c9,c10,c11].drop 1).take (Tryz.prog.cellsOf 9))=xs[1]?:=g1
   have e2:DataW.trod enc Tryz.prog w base (fun _=>true) held n 59 (([c0,c1,c2,c3,c4,c5,c6,c7,c8,c9,c10,c11].drop 2).take (Tryz.prog.cellsOf 59))=xs[2]?:=g2
   have e3:DataW.trod enc Tryz.prog w base (fun _=>true) held n 9 (([c0,c1,c2,c3,c4,c5,c6,c7,c8,c9,c10,c11].drop 3).take (Tryz.prog.cellsOf 9))=xs[3]?:=g3
   have e4:DataW.trod enc Tryz.prog w base (fun _=>true) held n 9 (([c0,c1,c2,c3,c4,c5,c6,c7,c8,c9,c10,c11].drop 4).take (Tryz.prog.cellsOf 9))=xs[4]?:=g4
   have e5:DataW.trod enc Tryz.prog w base (fun _=>true) held n 62 (([c0,c1,c2,c3,c4,c5,c6,c7,c8,c9,c10,c11].drop 5).take (Tryz.prog.cellsOf 62))=xs[5]?:=g5
   have e6:DataW.trod enc Tryz.prog w base (fun _=>true) held n 23 (([c0,c1,c2,c3,c4,c5,c6,c7,c8,c9,c10,c11].drop 11).take (Tryz.prog.cellsOf 23))=xs[6]?:=g6
   rw [zS,List.getElem?_eq_getElem (by omega)] at e0
   rw [qQ,List.getElem?_eq_getElem (by omega)] at e1 e3 e4
   rw [zAr,List.getElem?_eq_getElem (by omega)] at e2
   rw [zD2,List.getElem?_eq_getElem (by omega)] at e5
   rw [zB9,List.getElem?_eq_getElem (by omega)] at e6
   obtain ⟨k,rfl,_⟩:=nC underlying3 ⟨_,e0⟩
   obtain ⟨t,rfl,ht⟩:=hJ underlying9 ⟨_,e1⟩
   obtain ⟨fs,f1,f2,f3⟩:=fP (sz:=6) (row:=Fld.row) (OkA:=Fld.Txt) underlying59 tG (by decide) (fun m hm cs x hx=>zFb hx) e2
   obtain ⟨nm,rfl,hn⟩:=hJ underlying9 ⟨_,e3⟩
   obtain ⟨o,rfl,ho⟩:=hJ underlying9 ⟨_,e4⟩
   obtain ⟨c,c1t,_,c3r⟩:=zHq n _ _ e5
   obtain ⟨ss,s1,s2,s3⟩:=fP (sz:=12) (row:=MStep.row) (OkA:=MStep.Txt) underlying23 pG (by decide) (fun m hm cs x hx=>ih m (by omega) cs x hx) e6
   refine ⟨.mk k t fs nm o c ss,.mk ht f1 hn ho c1t s1,MStep.row_len _,?_⟩
   obtain ⟨ck,cks,cp,cvs,clo,chi⟩:=c
   rw [MStep.row_mk]
   rw [Cond.row_mk] at c3r
   have hr:Row w [c5,c6,c7,c8,c9,c10] [.int .i64 ck,.sl 0 6 (cks.map Cond.row),.str cp,.sl 0 1 (cvs.map fun s => [.str s]),.int .i64 clo,.int .i64 chi]:=c3r
   have q:∀ (j:Nat) (d:D) (v:Value),[D.int .i64 ck,.sl 0 6 (cks.map Cond.row),.str cp,.sl 0 1 (cvs.map fun s => [.str s]),.int .i64 clo,.int .i64 chi][j]?=some d → [c5,c6,c7,c8,c9,c10][j]?=some v→v.oneCell'=true∧Fz S0.lim w v d:=hr.get
   have q0:=q 0 _ c5 rfl rfl
   have q1:=q 1 _ c6 rfl rfl
   have q2:=q 2 _ c7 rfl rfl
   have q3:=q 3 _ c8 rfl rfl
   have q4:=q 4 _ c9 rfl rfl
   have q5:=q 5 _ c10 rfl rfl
   exact Row.int (Row.str (Row.cons f2 f3 (Row.str (Row.str (Row.cons q0.1 q0.2 (Row.cons q1.1 q1.2 (Row.cons q2.1 q2.2 (Row.cons q3.1 q3.2 (Row.cons q4.1 q4.2 (Row.cons q5.1 q5.2 (Row.cons s2 s3 Row.nil)))))))))))
set_option maxRecDepth 100000 in
theorem zCP {v:Value} {d:DataW H} {p:List MemPlace} {r:Reach} {b0:Nat} (hv:Value.okWide Tryz.prog w r b0 25 v) (h:DataW.Trod enc Tryz.prog w base (fun _=>true) held 25 v d p):∃ m:Mp,m.Txt∧Fz S0.lim w v (.agg m.row):=by
 obtain ⟨cs,rfl,hsz⟩:=okWide_struct underlying25 hv
 obtain ⟨fuel,hf⟩:=h
 obtain ⟨hl,n,hfu,hf⟩:=iS underlying25 (by kernel_rfl) (by kernel_rfl) hf
 obtain ⟨c0,c1,c2,hc⟩:∃ c0 c1 c2,cs.toList = [c0,c1,c2]:=by
  have h3:cs.toList.length=3:=by simpa [Value.cells] using hl
  match cs.toList,h3 with
  |[a,b,c],_=>exact ⟨a,b,c,rfl⟩
 have hcl:(Value.agg cs).cells.toList = [c0,c1,c2]:=hc
 rw [hcl] at hf
 obtain ⟨nm,rfl,hn⟩:=hJ underlying9 (hf 0 _ c0 rfl rfl)
 obtain ⟨y1,hy1⟩:=hf 1 _ c1 rfl rfl
 obtain ⟨y2,hy2⟩:=hf 2 _ c2 rfl rfl
 obtain ⟨ts,v1,v2,v3⟩:=fP (sz:=2) (row:=Tb.row) (OkA:=Tb.Txt) underlying22 (by kernel_rfl) (by decide) (fun m hm cs x hx=>zFa hx) hy1
 obtain ⟨ss,s1,s2,s3⟩:=fP (sz:=12) (row:=MStep.row) (OkA:=MStep.Txt) underlying23 pG (by decide) (fun m hm cs x hx=>zHo m cs x hx) hy2
 refine ⟨⟨nm,ts,ss⟩,⟨hn,v1,s1⟩,?_⟩
 have hr:=(((Row.nil (w:=w)).cons s2 s3).cons v2 v3).str (s:=nm)
 have:=hr.agg
 rw [← hc] at this
 unfold Mp.row
 simpa using this
end
end Go.Proofs.YtnjgoldinaffgaaGreatDoor
