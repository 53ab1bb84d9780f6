/- Notes: the conditions of them, and the program's walk. -/
import Derived.Test.YtfolfppcadjccaaGreatDoorZ22
import Derived.Test.YtfolfppcadjccaaGreatDoorZ13
namespace Go.Proofs.YtfolfppcadjccaaGreatDoor
set_option linter.unusedSimpArgs false
set_option linter.unusedVariables false
open Go.RowKit
set_option maxRecDepth 100000
set_option maxHeartbeats 2000000
def idl20_27:List (List Bool) := [[false,false,false,false,false,false,false,false,false,false],[true,false,false,false,false,false,false,false,false,false],[false,false,false,false,true,false,false,false,false,false],[true,true,false,false,false,false,false,false,false,false],[true,false,false,false,true,false,false,false,false,false],[false,false,false,false,true,true,false,false,false,false],[true,true,true,false,false,false,false,false,false,false],[true,true,false,false,true,false,false,false,false,false],[true,false,false,false,true,true,false,false,false,false],[true,true,true,true,false,false,false,false,false,false],[true,true,true,false,true,false,false,false,false,false],[true,true,false,false,true,true,false,false,false,false],[true,true,true,true,true,false,false,false,false,false],[true,true,true,false,true,true,false,false,false,false],[true,true,true,true,true,true,false,false,false,false],[true,true,true,true,true,true,true,false,false,false],[true,true,true,true,true,true,true,true,false,false],[true,true,true,true,true,true,true,true,true,false],[true,true,true,true,true,true,true,true,true,true]]
def idl20_29:List (List Bool) := [[false,false,false,false,false,false,false,false,false,false],[true,false,false,false,false,false,false,false,false,false],[false,false,false,false,true,false,false,false,false,false],[true,true,false,false,false,false,false,false,false,false],[true,false,false,false,true,false,false,false,false,false],[false,false,false,false,true,true,false,false,false,false],[true,true,true,false,false,false,false,false,false,false],[true,true,false,false,true,false,false,false,false,false],[true,false,false,false,true,true,false,false,false,false],[true,true,true,true,false,false,false,false,false,false],[true,true,true,false,true,false,false,false,false,false],[true,true,false,false,true,true,false,false,false,false],[true,true,true,true,true,false,false,false,false,false],[true,true,true,false,true,true,false,false,false,false],[true,true,true,true,true,true,false,false,false,false],[true,true,true,true,true,true,true,false,false,false],[true,true,true,true,true,true,true,true,false,false],[true,true,true,true,true,true,true,true,true,false],[true,true,true,true,true,true,true,true,true,true]]
/-- The condition that an element is there. -/
def digs (n:Int):Str:=Lib.decDigits n.toNat
def atC (tag:Str) (n:Int):Cond:=thereC (tag ++ [46]++digs n)
/-- Pairs of the first so many with those behind them. -/
def pairsC (l:List Cond):Nat→List Cond
 | 0 => []
 | i+1=>pairsC l i++match l[i]? with
  | some a=>(l.drop (i+1)).map fun b=>notC (allC [a,b])
  | none => []
def noteC (c:UInt8) (l:List Cond):Cond:=
 if c.toNat=80 then anyC [allC l,notC (anyC l)] else if c.toNat=69 then allC (pairsC l l.length) else if c.toNat=67 then anyC [notC (l.headD noneC),allC l.tail] else if c.toNat=76 then anyC [notC (l.headD noneC),anyC l.tail] else anyC l
def ofNote (tag:Str) (c:UInt8) (els:List Int):Cond × Int:=
 if noteErr tag c els ≠ 0 then (noneC,noteErr tag c els) else (noteC c (els.map (atC tag)),0)
theorem itoaS_sem (n:Int) (h0:1≤n) (h1:n≤50):Sem Tryz.prog 41 [.int .i64 n] (.str (digs n)):=by
 obtain ⟨i,rfl⟩:∃ i:Nat,n=i:=⟨n.toNat,by omega⟩
 exact sem_valsK (us := [.int .i64 (i:Int)]) (v:=.string ⟨(digs (i:Int)).toArray⟩) rfl rfl (fun _ _=>.str _) fun w=>
  (Tryz.strconv_Itoa_small i (by omega) w).mono fun e w' ⟨h,h2⟩=>⟨h,h2 ▸ Ext.refl _⟩
theorem digs_len (n:Int) (h0:1≤n) (h1:n≤50):(digs n).length≤3:=by
 have:∀ i:Fin 51,(digs (i.val:Int)).length≤3:=by decide +kernel
 have h:=this ⟨n.toNat,by omega⟩
 simp only [show ((n.toNat:Nat):Int)=n by omega] at h
 exact h
theorem there_le (p:Str):DLes [.int .i64 4,.nil,.str p,.nil,.int .i64 0,.int .i64 0] (thereC p).row:=by
 rw [thereC,Cond.row_mk]
 exact .cons (.refl _) (.cons (.nil _ _) (.cons (.refl _) (.cons (.nil _ _) (.cons (.refl _) (.cons (.refl _) .nil)))))
theorem els_ok:∀ (l seen:List Int),elsErr seen l=0→∀ n ∈ l,1≤n∧n≤50
 | [],_,_,n,hn=>by simp at hn
 | m::l,seen,h,n,hn=>by
  rw [elsErr] at h
  split at h
  ·cases h
  ·split at h
   ·cases h
   ·rcases List.mem_cons.1 hn with rfl|hn
    ·omega
    ·exact els_ok l _ h n hn
theorem note_ok {tag:Str} {c:UInt8} {els:List Int} (h:noteErr tag c els=0):isTagB tag=true∧isNote c=true∧els.length≤10∧2≤els.length∧∀ n ∈ els,1≤n∧n≤50:=by
 unfold noteErr at h
 split at h
 ·cases h
 ·split at h
  ·cases h
  ·split at h
   ·cases h
   ·split at h
    ·cases h
    ·exact ⟨by simp_all,by simp_all,by omega,by omega,els_ok els [] h⟩
theorem tag_len {s:Str} (h:isTagB s=true):s.length≤6:=by
 unfold isTagB at h
 simp only [Bool.and_eq_true,decide_eq_true_eq] at h
 exact h.1.1.2
theorem small_any {l:List Cond} (h:l.length≤1000) (h':∀ x ∈ l,x.Small):(anyC l).Small:=.mk h (by simp) h'
theorem small_all {l:List Cond} (h:l.length≤1000) (h':∀ x ∈ l,x.Small):(allC l).Small:=.mk h (by simp) h'
theorem small_not {c:Cond} (h:c.Small):(notC c).Small:=.mk (by simp) (by simp) (by simpa using h)
theorem small_there (p:Str):(thereC p).Small:=.mk (by simp) (by simp) (by simp)
theorem small_two {a b:Cond} (h:a.Small) (h':b.Small):∀ x ∈ [a,b],x.Small:=by simp [h,h']
theorem pairs_mem {l:List Cond} (h:∀ x ∈ l,x.Small):∀ i,∀ x ∈ pairsC l i,x.Small
 | 0,x,hx=>by simp [pairsC] at hx
 | i+1,x,hx=>by
  rw [pairsC,List.mem_append] at hx
  rcases hx with hx|hx
  ·exact pairs_mem h i x hx
  ·split at hx
   ·rename_i a ha
    obtain ⟨b,hb,rfl⟩:=List.mem_map.1 hx
    exact small_not (small_all (by simp) (small_two (h a (List.mem_of_getElem? ha)) (h b (List.mem_of_mem_drop hb))))
   ·simp at hx
theorem pairs_len {l:List Cond} (h:l.length≤10):∀ i,(pairsC l i).length≤i * 10
 | 0=>by simp [pairsC]
 | i+1=>by
  rw [pairsC,List.length_append]
  have:=pairs_len h i
  split
  ·simp;omega
  ·simp;omega
/-- Own slices are given up for good ahead of a piece of code. -/
theorem ht_frz {P:Program} (ts:List Nat) {c:Code} {fr:List D} {Q:Exit→List D→Prop} (h:forceL (ts.foldl (fun fr t=>frz1 fr (.tmp t)) fr) fun fr=>HT P c fr Q):HT P c fr Q:=by
 rw [forceL_eq] at h
 refine ⟨fun S w a hF Q' hQ => ?_⟩
 obtain ⟨S1,t1,h1⟩:=fold_sound (fun S fr t h=>frz1_sound h (.tmp t)) ts _ _ hF
 exact h.h S1 w a h1 Q' fun e fr' S' w' a' k t f=>hQ e fr' S' w' a' k (t1.trans t) f
theorem part_eq (l:List Cond) (m:Nat):List.drop m (List.take ((l.map Cond.row).length:Int).toNat (l.map Cond.row))=(l.drop m).map Cond.row:=by
 rw [Int.toNat_natCast,List.take_length,List.map_drop]
theorem idx_part {l:List Cond} {i:Int} {m j:Nat} {k:Int} {ks:List Cond} {p:Str} {vs:List Str} {lo hi:Int} (h:l[m+j]?=some (.mk k ks p vs lo hi)) {m':Nat} (hm:m'=m) (hi':i=j):0≤i∧(List.drop m' (List.take ((l.map Cond.row).length:Int).toNat (l.map Cond.row)))[i.toNat]?=some [.int .i64 k,.sl 0 6 (ks.map Cond.row),.str p,.sl 0 1 (vs.map fun s => [.str s]),.int .i64 lo,.int .i64 hi]:=by
 subst hm
 rw [part_eq]
 exact idx_row (by rw [List.getElem?_drop];exact h) hi'
theorem ofNote_sem (tag:Str) (c:UInt8) (els:List Int) (hs:tag.length≤9223372036854775807):Sem Tryz.prog 20 [.str tag,.int .u8 c.toNat,.sl 0 1 (els.map numR)] (.tup [.agg (ofNote tag c els).1.row,.int .i64 (ofNote tag c els).2]):=by
 have hf:=noteFault_sem tag c els hs
 unfold ofNote
 by_cases he:noteErr tag c els=0
 ·obtain ⟨h1,h2,h3,h4,h5⟩:=note_ok he
  have h6:=tag_len h1
  rw [he] at hf
  simp only [he,ne_eq,not_true_eq_false,if_false]
  obtain ⟨cc,hcc⟩:∃ cc,cc=noteC c (els.map (atC tag)):=⟨_,rfl⟩
  rw [← hcc]
  obtain ⟨k,ks,p,vs,low,high⟩:=cc
  rw [Cond.row_mk]
  refine sem_intro (M:=fun t=>mem t [6,12,15,17,5000027,5000029]) hT hM Tryz.func20 inferInstance rfl rfl rfl rfl rfl rfl ?_
  repeat' (
   (conv=>whnf)
   first
    | ((with_reducible apply DrawI.at 86 idl20_27);(focus exact rfl);(focus kernel_rfl))
    | ((with_reducible apply DrawI.at 97 idl20_29);(focus exact rfl);(focus kernel_rfl))
    | with_reducible apply ExE.go
    | ((with_reducible apply EqF.mk);(focus exact rfl))
    | with_reducible apply AndI.mk
    | with_reducible exact trivial
    | ((try ((with_reducible first|apply NumE.go|apply IdxE.go|apply TextE.go|apply LookE.go|apply CallE.go);(conv=>whnf)));(with_reducible apply SideD.mk);(focus (first|((try apply givesl);(focus (first|((apply gives_go (hf));(focus (exact DLes.au));(focus exact rfl);(all_goals (exact pre)))|((first|apply gives_go (noteFault_sem _ _ _ _)|apply gives_go (itoaS_sem _ _ _)|apply gives_go (ruAnyX_sem _)|apply gives_go (ruAllX_sem _)|apply gives_go (ruNotX_sem _ _ _ _ _ _));(focus (exact DLes.au));(focus exact rfl);(all_goals (exact pre)))));(all_goals exact rfl))|exact side)))
    | ((with_reducible first|apply DrawR.go0|apply KerB.mk);(focus kernel_rfl))
    | (with_reducible first|apply ends_ret|apply ends_norm|apply Halt'.mk)
    | ((with_reducible apply CondD.mk)<;>intro hb<;>(try simp only [SPLT] at hb)<;>(try first|exact noB)))
  all_goals (try exact (false:Bool))
  refine loop_go (M:=fun t=>mem t [6,12,15,17,5000027,5000029]) hT hM (fun i:Nat => [(9,.sl 2 6 (((els.take i).map (atC tag)).map Cond.row)),(28,.int .i64 i)]) (fun i=>i≤els.length) (fun i=>els.length - i) (0) ?_ ?_ ?_
  ·(conv=>whnf)
   refine ⟨?_,by rfl⟩
   repeat' ((conv=>whnf);first|exact endF|exact endF2|with_reducible apply DLes.cons)
  ·exact Nat.zero_le _
  ·rintro i hi
   cases hx:els[i]? with
   | none=>
    have hn:=List.getElem?_eq_none_iff.1 hx
    rw [List.take_of_length_le hn]
    have hll:(els.map (atC tag)).length=els.length:=List.length_map _
    have hsm:∀ x ∈ els.map (atC tag),x.Small:=fun x hx=>by
     obtain ⟨n,_,rfl⟩:=List.mem_map.1 hx
     exact small_there _
    generalize els.map (atC tag)=l at hcc hll hsm
    have hk1:=cloneCond_sem _ (small_any (l := [allC l,notC (anyC l)]) (by simp) (small_two (small_all (by omega) hsm) (small_not (small_any (by omega) hsm))))
    have hk2:=cloneCond_sem _ (small_all (l:=pairsC l l.length) (by have:=pairs_len (l:=l) (by omega) l.length;omega) (pairs_mem hsm _))
    have hk5:=cloneCond_sem _ (small_any (l:=l) (by omega) hsm)
    obtain ⟨a,ha⟩:∃ a,l[0]?=some a:=⟨l[0]'(by omega),by simp⟩
    have hah:l.headD noneC=a:=by rw [← List.head?_eq_getElem?] at ha;simp [List.headD_eq_head?_getD,ha]
    have has:=hsm a (List.mem_of_getElem? ha)
    have hst:∀ x ∈ l.tail,x.Small:=fun x hx=>hsm x (List.mem_of_mem_tail hx)
    have hk3:=cloneCond_sem _ (small_any (l := [notC a,allC l.tail]) (by simp) (small_two (small_not has) (small_all (by simp;omega) hst)))
    have hk4:=cloneCond_sem _ (small_any (l := [notC a,anyC l.tail]) (by simp) (small_two (small_not has) (small_any (by simp;omega) hst)))
    have hnc:noteC c l=if c.toNat=80 then anyC [allC l,notC (anyC l)] else if c.toNat=69 then allC (pairsC l l.length) else if c.toNat=67 then anyC [notC a,allC l.tail] else if c.toNat=76 then anyC [notC a,anyC l.tail] else anyC l:=by rw [noteC,hah]
    rw [hnc] at hcc
    clear hnc hah has hst hsm
    have hrow : [D.int .i64 k,D.sl 0 6 (ks.map Cond.row),D.str p,D.sl 0 1 (vs.map fun s => [D.str s]),D.int .i64 low,D.int .i64 high]=(Cond.mk k ks p vs low high).row:=(Cond.row_mk ..).symm
    rw [hcc] at hrow
    clear hcc
    obtain ⟨k0,ks0,p0,vs0,lo0,hi0⟩:=a
    have htl:l.tail.map Cond.row=List.drop (Int.toNat 1) (List.take ((l.map Cond.row).length:Int).toNat (l.map Cond.row)):=by rw [part_eq];simp
    simp only [anyC,allC,notC,Cond.row_mk,List.map_cons,List.map_nil,htl] at hk1 hk2 hk3 hk4 hk5
    repeat' (
     (conv=>whnf)
     first
      | ((with_reducible apply DrawI.at 86 idl20_27);(focus exact rfl);(focus kernel_rfl))
      | ((with_reducible apply DrawI.at 97 idl20_29);(focus exact rfl);(focus kernel_rfl))
      | with_reducible apply ExE.go
      | ((with_reducible apply EqF.mk);(focus exact rfl))
      | with_reducible apply AndI.mk
      | with_reducible exact trivial
      | ((try ((with_reducible first|apply NumE.go|apply IdxE.go|apply TextE.go|apply LookE.go|apply CallE.go);(conv=>whnf)));(with_reducible apply SideD.mk);(focus (first|(exact idx_row ha rfl)|((try apply givesl);(focus (first|((apply gives_go (hf));(focus (exact DLes.au));(focus exact rfl);(all_goals (exact pre)))|((apply gives_go (hk1));(focus (exact DLes.au));(focus exact rfl);(all_goals (exact pre)))|((apply gives_go (hk2));(focus (exact DLes.au));(focus exact rfl);(all_goals (exact pre)))|((apply gives_go (hk3));(focus (exact DLes.au));(focus exact rfl);(all_goals (exact pre)))|((apply gives_go (hk4));(focus (exact DLes.au));(focus exact rfl);(all_goals (exact pre)))|((apply gives_go (hk5));(focus (exact DLes.au));(focus exact rfl);(all_goals (exact pre)))|((first|apply gives_go (ruAllX_sem _)|apply gives_go (ruAnyX_sem _)|apply gives_go (ruNotX_sem _ _ _ _ _ _)|apply gives_go (noteFault_sem _ _ _ _)|apply gives_go (itoaS_sem _ _ _));(focus (exact DLes.au));(focus exact rfl);(all_goals (exact pre)))));(all_goals exact rfl))|exact side)))
      | ((with_reducible first|apply DrawR.go0|apply KerB.mk);(focus kernel_rfl))
      | (with_reducible first|apply ends_ret|apply ends_norm|apply Halt'.mk)
      | ((with_reducible apply CondD.mk)<;>intro hb<;>(try simp only [SPLT] at hb)<;>(try first|exact noB)))
    all_goals (try exact (false:Bool))
    ·repeat' ((conv=>whnf);first|exact endR|(with_reducible first|apply And.intro|apply endsO_ret|apply endsO_norm|apply DLes.cons))
     all_goals (conv=>whnf)
     rw [if_pos (by omega)] at hrow
     rw [hrow]
     simp only [anyC,allC,notC,Cond.row_mk,List.map_cons,List.map_nil,htl]
     (first|refine rle_agg ?_|refine dle_agg ?_|skip)
     repeat' (first|exact endF|exact endF2|with_reducible apply DLes.cons|with_reducible apply dle_agg)
    ·have hE:c.toNat=69:=by omega
     rw [if_neg (by omega),if_pos hE] at hrow
     clear hk1 hk3 hk4 hk5 ha htl
     refine ht_frz [9] ?_
     conv=>whnf
     refine loop_go (M:=fun t=>mem t [6,12,15,17,5000027,5000029]) hT hM (fun i:Nat => [(13,.sl 2 6 ((pairsC l i).map Cond.row)),(58,.int .i64 i)]) (fun i=>i≤l.length) (fun i=>l.length - i) (0) ?_ ?_ ?_
     ·(conv=>whnf)
      refine ⟨?_,by rfl⟩
      repeat' ((conv=>whnf);first|exact endF|exact endF2|with_reducible apply DLes.cons)
     ·exact Nat.zero_le _
     ·rintro i1 hi1
      cases hx1:l[i1]? with
      | none=>
       have hn1:=List.getElem?_eq_none_iff.1 hx1
       obtain rfl:i1=l.length:=by omega
       repeat' (
        (conv=>whnf)
        first
         | ((with_reducible apply DrawI.at 86 idl20_27);(focus exact rfl);(focus kernel_rfl))
         | ((with_reducible apply DrawI.at 97 idl20_29);(focus exact rfl);(focus kernel_rfl))
         | with_reducible apply ExE.go
         | ((with_reducible apply EqF.mk);(focus exact rfl))
         | with_reducible apply AndI.mk
         | with_reducible exact trivial
         | ((try ((with_reducible first|apply NumE.go|apply IdxE.go|apply TextE.go|apply LookE.go|apply CallE.go);(conv=>whnf)));(with_reducible apply SideD.mk);(focus (first|((try apply givesl);(focus (first|((apply gives_go (hk2));(focus (exact DLes.au));(focus exact rfl);(all_goals (exact pre)))|((first|apply gives_go (ruAllX_sem _)|apply gives_go (noteFault_sem _ _ _ _)|apply gives_go (itoaS_sem _ _ _)|apply gives_go (ruAnyX_sem _)|apply gives_go (ruNotX_sem _ _ _ _ _ _));(focus (exact DLes.au));(focus exact rfl);(all_goals (exact pre)))));(all_goals exact rfl))|exact side)))
         | ((with_reducible first|apply DrawR.go0|apply KerB.mk);(focus kernel_rfl))
         | (with_reducible first|apply ends_ret|apply ends_norm|apply Halt'.mk)
         | ((with_reducible apply CondD.mk)<;>intro hb<;>(try simp only [SPLT] at hb)<;>(try first|exact noB)))
       all_goals (try exact (false:Bool))
       repeat' ((conv=>whnf);first|exact endR|(with_reducible first|apply And.intro|apply endsO_ret|apply endsO_norm|apply DLes.cons))
       all_goals (conv=>whnf)
       rw [hrow]
       simp only [allC,Cond.row_mk,List.map_nil]
       (first|refine rle_agg ?_|refine dle_agg ?_|skip)
       repeat' (first|exact endF|exact endF2|with_reducible apply DLes.cons|with_reducible apply dle_agg)
      | some a=>
       have hlt1:=(List.getElem?_eq_some_iff.1 hx1).1
       have hpl:=pairs_len (l:=l) (by omega) i1
       obtain ⟨k1,ks1,p1,vs1,lo1,hj1⟩:=a
       repeat' (
        (conv=>whnf)
        first
         | ((with_reducible apply DrawI.at 86 idl20_27);(focus exact rfl);(focus kernel_rfl))
         | ((with_reducible apply DrawI.at 97 idl20_29);(focus exact rfl);(focus kernel_rfl))
         | with_reducible apply ExE.go
         | ((with_reducible apply EqF.mk);(focus exact rfl))
         | with_reducible apply AndI.mk
         | with_reducible exact trivial
         | ((try ((with_reducible first|apply NumE.go|apply IdxE.go|apply TextE.go|apply LookE.go|apply CallE.go);(conv=>whnf)));(with_reducible apply SideD.mk);(focus (first|(exact idx_row hx1 rfl)|((try apply givesl);(focus (first|((apply gives_go (hk2));(focus (exact DLes.au));(focus exact rfl);(all_goals (exact pre)))|((first|apply gives_go (noteFault_sem _ _ _ _)|apply gives_go (itoaS_sem _ _ _)|apply gives_go (ruAnyX_sem _)|apply gives_go (ruAllX_sem _)|apply gives_go (ruNotX_sem _ _ _ _ _ _));(focus (exact DLes.au));(focus exact rfl);(all_goals (exact pre)))));(all_goals exact rfl))|exact side)))
         | ((with_reducible first|apply DrawR.go0|apply KerB.mk);(focus kernel_rfl))
         | (with_reducible first|apply ends_ret|apply ends_norm|apply Halt'.mk)
         | ((with_reducible apply CondD.mk)<;>intro hb<;>(try simp only [SPLT] at hb)<;>(try first|exact noB)))
       all_goals (try exact (false:Bool))
       refine loop_go (M:=fun t=>mem t [6,12,15,17,5000027,5000029]) hT hM (fun j:Nat => [(13,.sl 2 6 ((pairsC l i1++((l.drop (i1+1)).take j).map fun b=>notC (allC [.mk k1 ks1 p1 vs1 lo1 hj1,b])).map Cond.row)),(68,.int .i64 j)]) (fun j=>j≤l.length - (i1+1)) (fun j=>l.length - (i1+1) - j) (0) ?_ ?_ ?_
       ·(conv=>whnf)
        refine ⟨?_,by rfl⟩
        repeat' ((conv=>whnf);first|exact endF|(exact dle_sl (by simp))|exact endF2|with_reducible apply DLes.cons)
       ·exact Nat.zero_le _
       ·rintro j hj
        cases hy:l[i1+1+j]? with
        | none=>
         have hm:=List.getElem?_eq_none_iff.1 hy
         repeat' (
          (conv=>whnf)
          first
           | ((with_reducible apply DrawI.at 86 idl20_27);(focus exact rfl);(focus kernel_rfl))
           | ((with_reducible apply DrawI.at 97 idl20_29);(focus exact rfl);(focus kernel_rfl))
           | with_reducible apply ExE.go
           | ((with_reducible apply EqF.mk);(focus exact rfl))
           | with_reducible apply AndI.mk
           | with_reducible exact trivial
           | ((try ((with_reducible first|apply NumE.go|apply IdxE.go|apply TextE.go|apply LookE.go|apply CallE.go);(conv=>whnf)));(with_reducible apply SideD.mk);(focus (first|((try apply givesl);(focus (first|((apply gives_go (hk2));(focus (exact DLes.au));(focus exact rfl);(all_goals (exact pre)))|((first|apply gives_go (noteFault_sem _ _ _ _)|apply gives_go (itoaS_sem _ _ _)|apply gives_go (ruAnyX_sem _)|apply gives_go (ruAllX_sem _)|apply gives_go (ruNotX_sem _ _ _ _ _ _));(focus (exact DLes.au));(focus exact rfl);(all_goals (exact pre)))));(all_goals exact rfl))|exact side)))
           | ((with_reducible first|apply DrawR.go0|apply KerB.mk);(focus kernel_rfl))
           | (with_reducible first|apply ends_ret|apply ends_norm|apply Halt'.mk)
           | ((with_reducible apply CondD.mk)<;>intro hb<;>(try simp only [SPLT] at hb)<;>(try first|exact noB|((exfalso;simp at hb;omega);done))))
         all_goals (try exact (false:Bool))
         refine ⟨i1+1,by omega,by omega,?_⟩
         (conv=>whnf)
         refine ⟨?_,by rfl⟩
         repeat' ((conv=>whnf);first|exact endF|(exact dle_sl (by rw [pairsC,hx1,List.take_of_length_le (by simp;omega)]))|exact endF2|with_reducible apply DLes.cons)
        | some b=>
         have hlt2:=(List.getElem?_eq_some_iff.1 hy).1
         have hy2:(l.drop (i1+1))[j]?=some b:=by rw [List.getElem?_drop];exact hy
         obtain ⟨k2,ks2,p2,vs2,lo2,hj2⟩:=b
         repeat' (
          (conv=>whnf)
          first
           | ((with_reducible apply DrawI.at 86 idl20_27);(focus exact rfl);(focus kernel_rfl))
           | ((with_reducible apply DrawI.at 97 idl20_29);(focus exact rfl);(focus kernel_rfl))
           | with_reducible apply ExE.go
           | ((with_reducible apply EqF.mk);(focus exact rfl))
           | with_reducible apply AndI.mk
           | with_reducible exact trivial
           | ((try ((with_reducible first|apply NumE.go|apply IdxE.go|apply TextE.go|apply LookE.go|apply CallE.go);(conv=>whnf)));(with_reducible apply SideD.mk);(focus (first|(exact idx_part hy (by omega) rfl)|((try apply givesl);(focus (((first|apply gives_go (ruAllX_sem _)|apply gives_go (ruNotX_sem _ _ _ _ _ _)|apply gives_go (noteFault_sem _ _ _ _)|apply gives_go (itoaS_sem _ _ _)|apply gives_go (ruAnyX_sem _));(focus (exact DLes.au));(focus exact rfl);(all_goals (exact pre)))));(all_goals exact rfl))|exact side)))
           | ((with_reducible first|apply DrawR.go0|apply KerB.mk);(focus kernel_rfl))
           | (with_reducible first|apply ends_ret|apply ends_norm|apply Halt'.mk)
           | ((with_reducible apply CondD.mk)<;>intro hb<;>(try simp only [SPLT] at hb)<;>(try first|exact noB|((exfalso;simp at hb;omega);done))))
         all_goals (try exact (false:Bool))
         refine ⟨j+1,by omega,by omega,?_⟩
         (conv=>whnf)
         refine ⟨?_,by rfl⟩
         repeat' ((conv=>whnf);first|exact endF|(exact dle_sl (by simp only [take_at hy2,List.map_append,List.map_cons,List.map_nil,notC,allC,Cond.row_mk,List.append_assoc]))|exact endF2|with_reducible apply DLes.cons)
    ·repeat' ((conv=>whnf);first|exact endR|(with_reducible first|apply And.intro|apply endsO_ret|apply endsO_norm|apply DLes.cons))
     all_goals (conv=>whnf)
     rw [if_neg (by omega),if_neg (by omega),if_pos (by omega)] at hrow
     rw [hrow]
     simp only [anyC,allC,notC,Cond.row_mk,List.map_cons,List.map_nil,htl]
     (first|refine rle_agg ?_|refine dle_agg ?_|skip)
     repeat' (first|exact endF|exact endF2|with_reducible apply DLes.cons|with_reducible apply dle_agg)
    ·repeat' ((conv=>whnf);first|exact endR|(with_reducible first|apply And.intro|apply endsO_ret|apply endsO_norm|apply DLes.cons))
     all_goals (conv=>whnf)
     rw [if_neg (by omega),if_neg (by omega),if_neg (by omega),if_pos (by omega)] at hrow
     rw [hrow]
     simp only [anyC,allC,notC,Cond.row_mk,List.map_cons,List.map_nil,htl]
     (first|refine rle_agg ?_|refine dle_agg ?_|skip)
     repeat' (first|exact endF|exact endF2|with_reducible apply DLes.cons|with_reducible apply dle_agg)
    ·repeat' ((conv=>whnf);first|exact endR|(with_reducible first|apply And.intro|apply endsO_ret|apply endsO_norm|apply DLes.cons))
     all_goals (conv=>whnf)
     rw [if_neg (by omega),if_neg (by omega),if_neg (by omega),if_neg (by omega)] at hrow
     rw [hrow]
     simp only [anyC,allC,notC,Cond.row_mk,List.map_cons,List.map_nil,htl]
     (first|refine rle_agg ?_|refine dle_agg ?_|skip)
     repeat' (first|exact endF|exact endF2|with_reducible apply DLes.cons|with_reducible apply dle_agg)
   | some n=>
    have hlt:=(List.getElem?_eq_some_iff.1 hx).1
    obtain ⟨hn1,hn2⟩:=h5 n (List.mem_of_getElem? hx)
    have hd:=digs_len n hn1 hn2
    have hi:=itoaS_sem n hn1 hn2
    repeat' (
     (conv=>whnf)
     first
      | ((with_reducible apply DrawI.at 86 idl20_27);(focus exact rfl);(focus kernel_rfl))
      | ((with_reducible apply DrawI.at 97 idl20_29);(focus exact rfl);(focus kernel_rfl))
      | with_reducible apply ExE.go
      | ((with_reducible apply EqF.mk);(focus exact rfl))
      | with_reducible apply AndI.mk
      | with_reducible exact trivial
      | ((try ((with_reducible first|apply NumE.go|apply IdxE.go|apply TextE.go|apply LookE.go|apply CallE.go);(conv=>whnf)));(with_reducible apply SideD.mk);(focus (first|((try apply givesl);(focus (first|((apply gives_go (hf));(focus (exact DLes.au));(focus exact rfl);(all_goals (exact pre)))|((apply gives_go (hi));(focus (exact DLes.au));(focus exact rfl);(all_goals (exact pre)))|((first|apply gives_go (noteFault_sem _ _ _ _)|apply gives_go (itoaS_sem _ _ _)|apply gives_go (ruAnyX_sem _)|apply gives_go (ruAllX_sem _)|apply gives_go (ruNotX_sem _ _ _ _ _ _));(focus (exact DLes.au));(focus exact rfl);(all_goals (exact pre)))));(all_goals exact rfl))|exact side)))
      | ((with_reducible first|apply DrawR.go0|apply KerB.mk);(focus kernel_rfl))
      | (with_reducible first|apply ends_ret|apply ends_norm|apply Halt'.mk)
      | ((with_reducible apply CondD.mk)<;>intro hb<;>(try simp only [SPLT] at hb)<;>(try first|exact noB)))
    all_goals (try exact (false:Bool))
    refine ⟨i+1,by omega,by omega,?_⟩
    (conv=>whnf)
    refine ⟨?_,by rfl⟩
    repeat' ((conv=>whnf);first|exact endF|(exact dle_rows (by rw [take_at hx,List.map_append,List.map_append];exact .app (.refl _) (.cons (there_le _) (.refl _))))|exact endF2|with_reducible apply DLes.cons)
 ·rw [if_pos he]
  generalize noteErr tag c els=e at hf he
  show Sem _ _ _ (.tup [.agg noneC.row,.int .i64 e])
  rw [noneC,Cond.row_mk]
  refine sem_intro (M:=fun t=>mem t [6,12,15,17,5000027,5000029]) hT hM Tryz.func20 inferInstance rfl rfl rfl rfl rfl rfl ?_
  repeat' (
   (conv=>whnf)
   first
    | ((with_reducible apply DrawI.at 86 idl20_27);(focus exact rfl);(focus kernel_rfl))
    | ((with_reducible apply DrawI.at 97 idl20_29);(focus exact rfl);(focus kernel_rfl))
    | with_reducible apply ExE.go
    | ((with_reducible apply EqF.mk);(focus exact rfl))
    | with_reducible apply AndI.mk
    | with_reducible exact trivial
    | ((try ((with_reducible first|apply NumE.go|apply IdxE.go|apply TextE.go|apply LookE.go|apply CallE.go);(conv=>whnf)));(with_reducible apply SideD.mk);(focus (first|((try apply givesl);(focus (first|((apply gives_go (hf));(focus (exact DLes.au));(focus exact rfl);(all_goals (exact pre)))|((first|apply gives_go (noteFault_sem _ _ _ _)|apply gives_go (itoaS_sem _ _ _)|apply gives_go (ruAnyX_sem _)|apply gives_go (ruAllX_sem _)|apply gives_go (ruNotX_sem _ _ _ _ _ _));(focus (exact DLes.au));(focus exact rfl);(all_goals (exact pre)))));(all_goals exact rfl))|exact side)))
    | ((with_reducible first|apply DrawR.go0|apply KerB.mk);(focus kernel_rfl))
    | (with_reducible first|apply ends_ret|apply ends_norm|apply Halt'.mk)
    | ((with_reducible apply CondD.mk)<;>intro hb<;>(try simp only [SPLT] at hb)<;>(try first|exact noB)))
  all_goals (try exact (false:Bool))
  repeat' ((conv=>whnf);first|exact endR|(with_reducible first|apply And.intro|apply endsO_ret|apply endsO_norm|apply DLes.cons))
  all_goals (conv=>whnf)
  (first|refine rle_agg ?_|refine dle_agg ?_|skip)
  repeat' (first|exact endF|exact endF2|with_reducible apply DLes.cons|with_reducible apply dle_agg)
end Go.Proofs.YtfolfppcadjccaaGreatDoor
