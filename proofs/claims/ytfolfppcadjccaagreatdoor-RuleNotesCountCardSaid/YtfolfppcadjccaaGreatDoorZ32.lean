/- What the condition of a note says of a segment (plain). RuleNotesCount: the law's walk. -/
import Derived.Test.YtfolfppcadjccaaGreatDoorZ23
import Derived.Test.YtfolfppcadjccaaGreatDoorZ31
import Derived.Test.YtfolfppcadjccaaGreatDoorZ30
import Derived.Test.YtfolfppcadjccaaGreatDoorZ16
namespace Go.Proofs.YtfolfppcadjccaaGreatDoor
set_option linter.unusedSimpArgs false
set_option linter.unusedVariables false
open Go.RowKit
set_option maxRecDepth 100000
/-- Is there a text in an element? -/
def thereB (els:List El) (n:Int):Bool:=match els[(n - 1).toNat]? with
 | none=>false
 | some e=>e.any fun p=>p.headD [] != []
def shouldB (c:UInt8) (many len:Nat) (first:Bool):Bool:=
 if c.toNat=82 then decide (0 < many) else if c.toNat=69 then decide (many≤1) else if c.toNat=67 then !first || many == len else if c.toNat=76 then !first || decide (1 < many) else many == 0 || many == len
theorem num_digs {n:Int} (h0:1≤n) (h1:n≤50):numN (digs n)=(n,true)∧(46:UInt8) ∉ digs n∧(47:UInt8) ∉ digs n:=by
 have:∀ i:Fin 51,1≤i.val→numN (digs (i.val:Int))=((i.val:Int),true)∧(46:UInt8) ∉ digs (i.val:Int)∧(47:UInt8) ∉ digs (i.val:Int):=by decide +kernel
 have h:=this ⟨n.toNat,by omega⟩ (by show 1≤n.toNat;omega)
 simp only [show ((n.toNat:Nat):Int)=n by omega] at h
 exact h
theorem tag_free {s:Str} (h:isTagB s=true):(46:UInt8) ∉ s∧(47:UInt8) ∉ s:=by
 unfold isTagB at h
 simp only [Bool.and_eq_true] at h
 have h:=List.all_eq_true.1 h.2
 exact ⟨fun hm=>absurd (h _ hm) (by decide),fun hm=>absurd (h _ hm) (by decide)⟩
theorem way_at {tag:Str} {n:Int} (ht:isTagB tag=true) (h0:1≤n) (h1:n≤50):wayN (tag ++ [46]++digs n)=(([],tag,n,0),true):=by
 obtain ⟨d1,d2,d3⟩:=num_digs h0 h1
 obtain ⟨t1,t2⟩:=tag_free ht
 have e1:partsAt 47 (tag ++ [46]++digs n) = [tag ++ [46]++digs n]:=parts_none (by
  simp only [List.mem_append,List.mem_singleton,not_or]
  exact ⟨⟨t2,by decide⟩,d3⟩)
 have e2:partsAt 46 (tag ++ [46]++digs n) = [tag,digs n]:=by
  rw [List.append_assoc,List.singleton_append,parts_snoc _ _ d2,parts_none t1]
  rfl
 unfold wayN
 rw [e1]
 show (if ([]:List Str).all isNameB=true then tailN [] (partsAt 46 (tag ++ [46]++digs n)) else (zW,false))=_
 rw [if_pos (show ([]:List Str).all isNameB=true from rfl),e2,tailN,if_neg (by rw [ht];simp)]
 have hb:numB (digs n) 50=true:=by
  unfold numB outR
  rw [d1]
  simp only [Bool.true_and,Bool.not_eq_true',Bool.or_eq_false_iff,decide_eq_false_iff_not]
  omega
 rw [if_pos hb,d1]
theorem there_texts (e:El):decide (0 < (((e.filterMap fun p=>p[0]?).filter fun s=>s != []).length:Int))=e.any fun p=>p.headD [] != []:=by
 induction e with
 | nil=>rfl
 | cons p e ih=>
  rw [List.any_cons,← ih]
  cases p with
  | nil=>rw [List.filterMap_cons_none (by rfl)];rfl
  | cons s p=>
   rw [List.filterMap_cons_some (b:=s) (by rfl),List.filter_cons]
   show _=(s != [] || _)
   cases h:s != [] with
   | true=>
    rw [if_pos rfl,Bool.true_or,decide_eq_true_eq,List.length_cons]
    omega
   | false=>rw [if_neg (by decide),Bool.false_or]
theorem at_holds {tag:Str} {n:Int} (els:List El) (ht:isTagB tag=true) (h0:1≤n) (h1:n≤50):(atC tag n).holds [.mk [] tag els []]=thereB els n:=by
 have e:textsP (tag ++ [46]++digs n) [.mk [] tag els []]=segTexts tag els n 0:=by
  unfold textsP findTexts
  rw [way_at ht h0 h1]
  show (inside1 [] [Br.mk [] tag els []]).flatMap (listTexts tag n 0)=_
  rw [inside1,List.flatMap_cons,List.flatMap_nil,List.append_nil]
  unfold listTexts
  rw [List.flatMap_cons,List.flatMap_nil,List.append_nil]
  exact if_pos ⟨rfl,rfl⟩
 rw [atC,thereC,holds_mk,if_neg (by decide),if_neg (by decide),if_neg (by decide),if_neg (by decide),if_neg (by decide),e]
 unfold leafL segTexts thereB
 rw [if_pos rfl,if_neg (by omega)]
 cases els[(n - 1).toNat]? with
 | none=>rfl
 | some e=>
  show decide (0 < (((e.filterMap fun p=>p[(max (0:Int) 1 - 1).toNat]?).filter fun s=>s != []).length:Int))=_
  rw [show (max (0:Int) 1 - 1).toNat=0 by decide]
  exact there_texts e
theorem pairC_mem {l:List Cond} {x:Cond}:∀ k:Nat,x ∈ pairsC l k↔∃ i a,i < k∧l[i]?=some a∧∃ b ∈ l.drop (i+1),x=notC (allC [a,b])
 | 0=>by simp [pairsC]
 | k+1=>by
  rw [pairsC,List.mem_append,pairC_mem k]
  constructor
  ·rintro (⟨i,a,h1,h2⟩|h)
   ·exact ⟨i,a,by omega,h2⟩
   ·split at h
    ·rename_i a ha
     obtain ⟨b,hb,rfl⟩:=List.mem_map.1 h
     exact ⟨k,a,by omega,ha,b,hb,rfl⟩
    ·cases h
  ·rintro ⟨i,a,h1,h2,b,hb,rfl⟩
   rcases Nat.lt_or_ge i k with h|h
   ·exact .inl ⟨i,a,h,h2,b,hb,rfl⟩
   ·obtain rfl:i=k:=by omega
    right
    rw [h2]
    exact List.mem_map.2 ⟨b,hb,rfl⟩
theorem pair_filter {α:Type} (q:α→Bool):∀ l:List α,l.Pairwise (fun a b=>(q a && q b)=false)↔(l.filter q).length≤1
 | []=>by simp
 | a::l=>by
  rw [List.pairwise_cons,pair_filter q l,List.filter_cons]
  cases h:q a with
  | false=>simp
  | true=>
   simp only [Bool.true_and,ite_true,List.length_cons]
   constructor
   ·rintro ⟨h1,_⟩
    have:l.filter q = []:=List.filter_eq_nil_iff.2 fun b hb=>by rw [h1 b hb];decide
    rw [this]
    simp
   ·intro h1
    have e:l.filter q = []:=List.length_eq_zero_iff.1 (by omega)
    refine ⟨fun b hb => ?_,by rw [e];simp⟩
    have:=List.filter_eq_nil_iff.1 e b hb
    simpa using this
theorem allC_holds (l:List Cond) (t:List Br):(allC l).holds t=l.all fun c=>c.holds t:=by rw [allC,holds_mk,if_pos rfl,holdsA_all]
theorem anyC_holds (l:List Cond) (t:List Br):(anyC l).holds t=l.any fun c=>c.holds t:=by rw [anyC,holds_mk,if_neg (by decide),if_pos rfl,holdsO_any]
theorem all_count {α:Type} (q:α→Bool) (l:List α):l.all q=((l.filter q).length == l.length):=by
 rw [Bool.eq_iff_iff,List.all_eq_true,beq_iff_eq,List.length_filter_eq_length_iff]
theorem any_count {α:Type} (q:α→Bool) (l:List α):l.any q=decide (0 < (l.filter q).length):=by
 rw [Bool.eq_iff_iff,List.any_eq_true,decide_eq_true_eq,List.length_pos_iff_exists_mem]
 constructor
 ·rintro ⟨x,h1,h2⟩;exact ⟨x,List.mem_filter.2 ⟨h1,h2⟩⟩
 ·rintro ⟨x,h⟩;exact ⟨x,(List.mem_filter.1 h).1,(List.mem_filter.1 h).2⟩
theorem pairs_holds (l:List Cond) (t:List Br):(allC (pairsC l l.length)).holds t=decide ((l.filter fun c=>c.holds t).length≤1):=by
 rw [allC_holds,Bool.eq_iff_iff,List.all_eq_true,decide_eq_true_eq,← pair_filter,List.pairwise_iff_getElem]
 have key:∀ a b:Cond,(notC (allC [a,b])).holds t = !(a.holds t && b.holds t):=fun a b=>by
  rw [notC_holds,allC_holds]
  simp
 constructor
 ·intro h i j hi hj hij
  have h1:=h (notC (allC [l[i],l[j]])) ((pairC_mem _).2 ⟨i,l[i],hi,List.getElem?_eq_getElem hi,l[j],?_,rfl⟩)
  ·rw [key] at h1
   revert h1
   cases l[i].holds t<;>cases l[j].holds t<;>simp
  ·rw [List.mem_iff_getElem?]
   exact ⟨j - (i+1),by rw [List.getElem?_drop,show i+1+(j - (i+1))=j by omega,List.getElem?_eq_getElem hj]⟩
 ·rintro h x hx
  obtain ⟨i,a,hi,ha,b,hb,rfl⟩:=(pairC_mem _).1 hx
  obtain ⟨j,hj⟩:=List.mem_iff_getElem?.1 hb
  rw [List.getElem?_drop] at hj
  have hjl:=(List.getElem?_eq_some_iff.1 hj).1
  have h1:=h i (i+1+j) hi hjl (by omega)
  rw [(List.getElem?_eq_some_iff.1 ha).2,(List.getElem?_eq_some_iff.1 hj).2] at h1
  rw [key,h1]
  rfl
/-- What the condition of a note says. -/
theorem note_holds {tag:Str} {c:UInt8} {l:List Int} (els:List El) (h:noteErr tag c l=0):(noteC c (l.map (atC tag))).holds [.mk [] tag els []]=shouldB c (l.filter (thereB els)).length l.length (thereB els (l.headD 0)):=by
 obtain ⟨h1,h2,h3,h4,h5⟩:=note_ok h
 have hat:∀ x ∈ l,(atC tag x).holds [.mk [] tag els []]=thereB els x:=fun x hx=>at_holds els h1 (h5 x hx).1 (h5 x hx).2
 generalize [Br.mk [] tag els []]=t at hat
 have hall:∀ m:List Int,(∀ x ∈ m,x ∈ l)→(allC (m.map (atC tag))).holds t=m.all (thereB els):=fun m hm=>by
  rw [allC_holds,List.all_map]
  exact allE_congr m fun x hx=>hat x (hm x hx)
 have hany:∀ m:List Int,(∀ x ∈ m,x ∈ l)→(anyC (m.map (atC tag))).holds t=m.any (thereB els):=fun m hm=>by
  rw [anyC_holds,List.any_map]
  exact anyE_congr m fun x hx=>hat x (hm x hx)
 have hcnt:((l.map (atC tag)).filter fun c=>c.holds t).length=(l.filter (thereB els)).length:=by
  rw [List.filter_map,List.length_map]
  congr 1
  exact List.filter_congr fun x hx=>hat x hx
 obtain ⟨a,r,rfl⟩:∃ a r,l=a::r:=by
  cases l with
  | nil=>simp at h4
  | cons a r=>exact ⟨a,r,rfl⟩
 have ha:=hat a (by simp)
 have hr1:=hall r fun x hx=>by simp [hx]
 have hr2:=hany r fun x hx=>by simp [hx]
 have hl1:=hall (a::r) fun x hx=>hx
 have hl2:=hany (a::r) fun x hx=>hx
 have hp:=pairs_holds ((a::r).map (atC tag)) t
 rw [hcnt] at hp
 have c1:=all_count (thereB els) r
 have c2:=any_count (thereB els) r
 have c3:=all_count (thereB els) (a::r)
 have c4:=any_count (thereB els) (a::r)
 have hf:((a::r).filter (thereB els)).length=(if thereB els a=true then 1 else 0)+(r.filter (thereB els)).length:=by
  rw [List.filter_cons]
  split
  ·rename_i g;rw [List.length_cons];omega
  ·omega
 have hfl:=List.length_filter_le (thereB els) r
 unfold noteC shouldB
 have hn:c.toNat=80∨c.toNat=82∨c.toNat=69∨c.toNat=67∨c.toNat=76:=by
  unfold isNote at h2
  simp only [Bool.or_eq_true,beq_iff_eq] at h2
  omega
 have two:∀ x y:Cond,(anyC [x,y]).holds t=(x.holds t || y.holds t):=fun x y=>by rw [anyC_holds];simp
 rcases hn with e|e|e|e|e
 ·rw [if_pos e,if_neg (by omega),if_neg (by omega),if_neg (by omega),if_neg (by omega),two,notC_holds,hl1,hl2,c3,c4]
  generalize ((a::r).filter (thereB els)).length=m
  rw [Bool.or_comm]
  congr 1
  rcases Nat.eq_zero_or_pos m with h|h
  ·subst h;rfl
  ·rw [decide_eq_true h]
   symm
   simp
   omega
 ·rw [if_neg (by omega),if_neg (by omega),if_neg (by omega),if_neg (by omega),if_pos e,hl2,c4]
 ·rw [if_neg (by omega),if_pos e,if_neg (by omega),if_pos e,hp]
 ·rw [if_neg (by omega),if_neg (by omega),if_pos e,if_neg (by omega),if_neg (by omega),if_pos e,two,notC_holds]
  show (!(atC tag a).holds t || (allC (r.map (atC tag))).holds t)=(!thereB els a || _)
  rw [ha,hr1,c1,hf]
  cases hv:thereB els a with
  | false=>rfl
  | true=>
   simp only [Bool.not_true,Bool.false_or,ite_true,List.length_cons]
   rw [Bool.eq_iff_iff,beq_iff_eq,beq_iff_eq]
   omega
 ·rw [if_neg (by omega),if_neg (by omega),if_neg (by omega),if_pos e,if_neg (by omega),if_neg (by omega),if_neg (by omega),if_pos e,two,notC_holds]
  show (!(atC tag a).holds t || (anyC (r.map (atC tag))).holds t)=(!thereB els a || _)
  rw [ha,hr2,c2,hf]
  cases hv:thereB els a with
  | false=>rfl
  | true=>
   simp only [Bool.not_true,Bool.false_or,ite_true]
   rw [Bool.eq_iff_iff,decide_eq_true_eq,decide_eq_true_eq]
   omega
end Go.Proofs.YtfolfppcadjccaaGreatDoor
namespace Go.Proofs.YtfolfppcadjccaaGreatDoor
set_option linter.unusedSimpArgs false
set_option linter.unusedVariables false
open Go.RowKit
set_option maxRecDepth 100000
set_option maxHeartbeats 4000000
/-- Is a text there in one of the first repeats? -/
def thereTo (e:El) (k:Nat):Bool:=(e.take k).any fun p=>p.headD [] != []
theorem thereTo_at {e:El} {k:Nat} {p:List Str} (h:e[k]?=some p):thereTo e (k+1)=(thereTo e k || p.headD [] != []):=by
 unfold thereTo
 rw [take_at h,List.any_append,List.any_cons,List.any_nil,Bool.or_false]
/-- How many of the first elements are there, and whether the first one is. -/
def countTo (els:List El) (l:List Int) (i:Nat):Nat:=((l.take i).filter (thereB els)).length
theorem countTo_at {els:List El} {l:List Int} {i:Nat} {n:Int} (h:l[i]?=some n):countTo els l (i+1)=countTo els l i+if thereB els n=true then 1 else 0:=by
 unfold countTo
 rw [take_at h,List.filter_append,List.length_append,List.filter_cons,List.filter_nil]
 split<;>rfl
def firstTo (els:List El) (l:List Int) (i:Nat):Bool:=decide (0 < i) && thereB els (l.headD 0)
theorem beq_cast (a b:Nat):((a:Int) == (b:Int))=(a == b):=by
 rw [Bool.eq_iff_iff,beq_iff_eq,beq_iff_eq];omega
theorem beq_cast0 (a:Nat):((a:Int) == 0)=(a == 0):=beq_cast a 0
theorem one_cast (a:Nat):decide ((1:Int) < a)=decide (1 < a):=by
 rw [Bool.eq_iff_iff,decide_eq_true_iff,decide_eq_true_iff];omega
theorem beq_dec (a:Nat):(a == 0)=decide (a=0):=by
 rw [Bool.eq_iff_iff,decide_eq_true_iff,beq_iff_eq]
theorem idx_num {l:List Int} {i:Int} {j:Nat} {n:Int} (h:l[j]?=some n) (hi:i=j):0≤i∧(l.map numR)[i.toNat]?=some [.int .i64 n]:=by
 subst hi
 exact ⟨by omega,by rw [Int.toNat_natCast,List.getElem?_map,h];rfl⟩
theorem law30_sem (c:UInt8) (l:List Int) (tag:Str) (els:List El) (htag:tag.length≤9223372036854775807) (hte:∀ e ∈ els,∀ p ∈ e,∀ s ∈ p,s.length≤9223372036854775807) (hel:els.length≤9223372036854775807):Sem Tryz.prog 6 [.int .u8 c.toNat,.sl 0 1 (l.map numR),.agg [.str tag,.sl 0 1 (els.map elR)]] (.bool true):=by
 have h1:=ofNote_sem tag c l htag
 have h7:=awake4_sem
 have hb1:∀ b ∈ [Br.mk [] tag els []],b.Txt:=fun b hb=>by
  obtain rfl:=List.mem_singleton.1 hb
  exact .mk (by simp) htag hte (by simp) (by simp)
 have hH:∀ d:Cond,Sem Tryz.prog 10 [.agg d.row,.sl 0 4 [[.str [],.str tag,.sl 0 1 (els.map elR),.nil]]] (.tup [.bool (holdsN d [.mk [] tag els []]).1,.int .i64 (holdsN d [.mk [] tag els []]).2]):=fun d=>by
  have h:=Holds_sem d [.mk [] tag els []] (by simp) hb1
  rw [List.map_cons,List.map_nil,Br.row_mk] at h
  exact h.weak (.cons (.refl _) (.cons (dle_rows (.cons (.cons (.refl _) (.cons (.refl _) (.cons (.refl _) (.cons (.nil _ _) .nil)))) (.refl _))) .nil))
 unfold ofNote at h1
 by_cases g1:noteErr tag c l=0
 ·rw [if_neg (by simpa using g1)] at h1
  obtain ⟨n1,n2,n3,n4,n5⟩:=note_ok g1
  have h2:=hH (noteC c (l.map (atC tag)))
  by_cases g2:(holdsN (noteC c (l.map (atC tag))) [.mk [] tag els []]).2=0
  ·have g3:(holdsN (noteC c (l.map (atC tag))) [.mk [] tag els []]).1=shouldB c (l.filter (thereB els)).length l.length (thereB els (l.headD 0)):=by
    rw [← note_holds els g1]
    unfold holdsN at g2 ⊢
    split at g2
    ·rename_i q;exact absurd g2 q
    ·rename_i q1
     rw [if_neg q1]
     split at g2
     ·rename_i q;exact absurd g2 q
     ·rename_i q2
      rw [if_neg q2]
   have g4:∀ e ∈ els,NarE e:=by
    unfold holdsN at g2
    split at g2
    ·rename_i q;exact absurd g2 q
    ·split at g2
     ·rename_i q;exact absurd g2 q
     ·rename_i q2
      have:=tree_nar (by simpa using q2) (.mk [] tag els []) (by simp)
      obtain ⟨_,_,h,_⟩:=this
      exact h
   generalize holdsN (noteC c (l.map (atC tag))) [.mk [] tag els []]=r at h2 g2 g3
   obtain ⟨is,f⟩:=r
   dsimp only at h2 g2 g3
   subst g2
   have hlm:(l.map numR).length=l.length:=List.length_map _
   have helm:(els.map elR).length=els.length:=List.length_map _
   have hcl:(l.filter (thereB els)).length=countTo els l l.length:=by unfold countTo;rw [List.take_length]
   have hfl:thereB els (l.headD 0)=firstTo els l l.length:=by unfold firstTo;rw [decide_eq_true (by omega),Bool.true_and]
   have hcb:∀ i,countTo els l i≤i:=fun i=>by
    unfold countTo
    have:=List.length_filter_le (thereB els) (l.take i)
    rw [List.length_take] at this
    omega
   rw [hcl,hfl] at g3
   generalize noteC c (l.map (atC tag))=nc at h1 h2
   obtain ⟨kd,ks,p,vs,lo,hi⟩:=nc
   dsimp only at h1
   rw [Cond.row_mk] at h1 h2
   refine sem_intro (M:=fun t=>mem t [1000051,1000052,1000096]) hT hM Tryz.func6 inferInstance rfl rfl rfl rfl rfl rfl ?_
   repeat' (
    (conv=>whnf)
    first
     | ((try ((with_reducible first|apply NumE.go|apply IdxE.go|apply TextE.go|apply LookE.go|apply CallE.go);(conv=>whnf)));(with_reducible apply SideD.mk);(focus ((first|(intro hc;have hc0:=hc;(try simp only [SPLT] at hc);(try refine And.intro (by first|exact hc0|exact ⟨hc0,hc0⟩|exact ⟨hc0,hc0,hc0⟩) ?_))|skip);first|((try apply givesl);(focus (first|((apply gives_go (h1));(focus (exact DLes.au));(focus exact rfl);(all_goals (exact pre)))|((apply gives_go (h2));(focus (exact DLes.au));(focus exact rfl);(all_goals (exact pre)))|((first|apply gives_go (ofNote_sem _ _ _ _)|apply gives_go (awake4_sem )|apply gives_go (Holds_sem _ _ _ _));(focus (exact DLes.au));(focus exact rfl);(all_goals (exact pre)))));(all_goals exact rfl))|exact sideG)))
     | ((with_reducible first|apply DrawR.go0|apply KerB.mk);(focus kernel_rfl))
     | (with_reducible first|apply ends_ret|apply ends_norm|apply Halt'.mk)
     | ((with_reducible apply CondD.mk)<;>intro hb<;>(try simp only [SPLT] at hb)<;>(try first|exact noB)))
   all_goals (try exact (false:Bool))
   refine loop_go (M:=fun t=>mem t [1000051,1000052,1000096]) hT hM (fun i:Nat => [(12,.int .i64 i),(10,.int .i64 (countTo els l i)),(11,.bool (firstTo els l i))]) (fun i=>i≤l.length) (fun i=>l.length - i) (0) ?_ ?_ ?_
   ·(conv=>whnf)
    refine ⟨?_,by rfl⟩
    repeat' ((conv=>whnf);first|exact endF|exact endF2|with_reducible apply DLes.cons)
   ·exact Nat.zero_le _
   ·rintro i hi'
    have hci:=hcb i
    cases hx:l[i]? with
    | none=>
     have hm:=List.getElem?_eq_none_iff.1 hx
     obtain rfl:i=l.length:=by omega
     subst g3
     generalize hs:shouldB c (countTo els l l.length) l.length (firstTo els l l.length)=s at h2 ⊢
     generalize countTo els l l.length=m at hci hs ⊢
     generalize firstTo els l l.length=fi at hs ⊢
     repeat' (
      (conv=>whnf)
      first
       | ((try ((with_reducible first|apply NumE.go|apply IdxE.go|apply TextE.go|apply LookE.go|apply CallE.go);(conv=>whnf)));(with_reducible apply SideD.mk);(focus ((first|(intro hc;have hc0:=hc;(try simp only [SPLT] at hc);(try refine And.intro (by first|exact hc0|exact ⟨hc0,hc0⟩|exact ⟨hc0,hc0,hc0⟩) ?_))|skip);first|((try apply givesl);(focus (first|((apply gives_go (h7));(focus (exact DLes.au));(focus exact rfl);(all_goals (exact pre)))|((first|apply gives_go (ofNote_sem _ _ _ _)|apply gives_go (awake4_sem )|apply gives_go (Holds_sem _ _ _ _));(focus (exact DLes.au));(focus exact rfl);(all_goals (exact pre)))));(all_goals exact rfl))|exact sideG)))
       | ((with_reducible first|apply DrawR.go0|apply KerB.mk);(focus kernel_rfl))
       | (with_reducible first|apply ends_ret|apply ends_norm|apply Halt'.mk)
       | ((with_reducible apply CondD.mk)<;>intro hb<;>(try simp only [SPLT] at hb)<;>(try first|exact noB)))
     all_goals (try exact (false:Bool))
     ·repeat' ((conv=>whnf);first|exact endR|(with_reducible first|apply And.intro|apply endsO_ret|apply endsO_norm|apply DLes.cons))
      all_goals (conv=>whnf)
      exact rle_bool (by rw [← hs];unfold shouldB;rw [if_pos (by omega)];simp [beq_cast,beq_cast0,one_cast])
     ·repeat' ((conv=>whnf);first|exact endR|(with_reducible first|apply And.intro|apply endsO_ret|apply endsO_norm|apply DLes.cons))
      all_goals (conv=>whnf)
      exact rle_bool (by rw [← hs];unfold shouldB;rw [if_neg (by omega),if_pos (by omega)];simp;omega)
     ·repeat' ((conv=>whnf);first|exact endR|(with_reducible first|apply And.intro|apply endsO_ret|apply endsO_norm|apply DLes.cons))
      all_goals (conv=>whnf)
      exact rle_bool (by rw [← hs];unfold shouldB;rw [if_neg (by omega),if_neg (by omega),if_pos (by omega)];simp [beq_cast,beq_cast0,one_cast])
     ·repeat' ((conv=>whnf);first|exact endR|(with_reducible first|apply And.intro|apply endsO_ret|apply endsO_norm|apply DLes.cons))
      all_goals (conv=>whnf)
      exact rle_bool (by rw [← hs];unfold shouldB;rw [if_neg (by omega),if_neg (by omega),if_neg (by omega),if_pos (by omega)];simp [beq_cast,beq_cast0,one_cast])
     ·repeat' ((conv=>whnf);first|exact endR|(with_reducible first|apply And.intro|apply endsO_ret|apply endsO_norm|apply DLes.cons))
      all_goals (conv=>whnf)
      exact rle_bool (by rw [← hs];unfold shouldB;rw [if_neg (by omega),if_neg (by omega),if_neg (by omega),if_neg (by omega)];simp [beq_cast,beq_cast0,one_cast])
    | some n=>
     have hlt:=(List.getElem?_eq_some_iff.1 hx).1
     obtain ⟨b1,b2⟩:=n5 n (List.mem_of_getElem? hx)
     have hct:=countTo_at (els:=els) hx
     have hft:firstTo els l (i+1)=(firstTo els l i || (thereB els n && decide (i=0))):=by
      unfold firstTo
      rcases Nat.eq_zero_or_pos i with rfl|h
      ·have:l.headD 0=n:=by
        cases l with
        | nil=>simp at hx
        | cons a r=>simpa using hx
       rw [this]
       simp
      ·rw [decide_eq_true h,decide_eq_true (by omega),decide_eq_false (by omega:¬ i=0)]
       simp
     obtain ⟨e,he⟩:∃ e:El,n≤els.length→els[(n - 1).toNat]?=some e:=⟨els[(n - 1).toNat]?.getD [],fun h=>by rw [List.getElem?_eq_getElem (by omega)];rfl⟩
     repeat' (
      (conv=>whnf)
      first
       | ((try ((with_reducible first|apply NumE.go|apply IdxE.go|apply TextE.go|apply LookE.go|apply CallE.go);(conv=>whnf)));(with_reducible apply SideD.mk);(focus ((first|(intro hc;have hc0:=hc;(try simp only [SPLT] at hc);(try refine And.intro (by first|exact hc0|exact ⟨hc0,hc0⟩|exact ⟨hc0,hc0,hc0⟩) ?_))|skip);first|(exact idx_num hx rfl)|((try apply givesl);(focus (((first|apply gives_go (ofNote_sem _ _ _ _)|apply gives_go (awake4_sem )|apply gives_go (Holds_sem _ _ _ _));(focus (exact DLes.au));(focus exact rfl);(all_goals (exact pre)))));(all_goals exact rfl))|exact sideG)))
       | ((with_reducible first|apply DrawR.go0|apply KerB.mk);(focus kernel_rfl))
       | (with_reducible first|apply ends_ret|apply ends_norm|apply Halt'.mk)
       | ((with_reducible apply CondD.mk)<;>intro hb<;>(try simp only [SPLT] at hb)<;>(try first|exact noB)))
     all_goals (try exact (false:Bool))
     ·have hth:thereB els n=false:=by unfold thereB;rw [List.getElem?_eq_none (by omega)]
      rw [hth] at hct hft
      refine ⟨i+1,by omega,by omega,?_⟩
      (conv=>whnf)
      refine ⟨?_,by rfl⟩
      repeat' ((conv=>whnf);first|exact endF|(exact dle_int (by rw [hct];simp))|(exact dle_bool (by rw [hft];simp))|exact endF2|with_reducible apply DLes.cons)
     ·have he:=he (by omega)
      have hth:thereB els n=thereTo e e.length:=by unfold thereB thereTo;rw [he,List.take_length]
      have hne:=g4 e (List.mem_of_getElem? he)
      have hfew:=hne.few
      have hel2:(e.map repR).length=e.length:=List.length_map _
      refine loop_go (M:=fun t=>mem t [1000051,1000052,1000096]) hT hM (fun k:Nat => [(15,.int .i64 k),(14,.bool (thereTo e k))]) (fun k=>k≤e.length) (fun k=>e.length - k) (0) ?_ ?_ ?_
      ·(conv=>whnf)
       refine ⟨?_,by rfl⟩
       repeat' ((conv=>whnf);first|exact endF|exact endF2|with_reducible apply DLes.cons)
      ·exact Nat.zero_le _
      ·rintro k hk
       cases hp:e[k]? with
       | none=>
        have hm:=List.getElem?_eq_none_iff.1 hp
        obtain rfl:k=e.length:=by omega
        generalize thereTo e e.length=th at hth ⊢
        rw [hth] at hct hft
        repeat' (
         (conv=>whnf)
         first
          | ((try ((with_reducible first|apply NumE.go|apply IdxE.go|apply TextE.go|apply LookE.go|apply CallE.go);(conv=>whnf)));(with_reducible apply SideD.mk);(focus ((first|(intro hc;have hc0:=hc;(try simp only [SPLT] at hc);(try refine And.intro (by first|exact hc0|exact ⟨hc0,hc0⟩|exact ⟨hc0,hc0,hc0⟩) ?_))|skip);first|(exact idx_el he (by omega))|((try apply givesl);(focus (((first|apply gives_go (ofNote_sem _ _ _ _)|apply gives_go (awake4_sem )|apply gives_go (Holds_sem _ _ _ _));(focus (exact DLes.au));(focus exact rfl);(all_goals (exact pre)))));(all_goals exact rfl))|exact sideG)))
          | ((with_reducible first|apply DrawR.go0|apply KerB.mk);(focus kernel_rfl))
          | (with_reducible first|apply ends_ret|apply ends_norm|apply Halt'.mk)
          | ((with_reducible apply CondD.mk)<;>intro hb<;>(try simp only [SPLT] at hb)<;>(try first|exact noB)))
        all_goals (try exact (false:Bool))
        ·have hb:th=true:=by assumption
         subst hb
         rw [if_pos rfl] at hct
         rw [Bool.true_and] at hft
         refine ⟨i+1,by omega,by omega,?_⟩
         (conv=>whnf)
         refine ⟨?_,by rfl⟩
         repeat' ((conv=>whnf);first|exact endF|(exact dle_int (by rw [hct];simp))|(exact dle_bool (by rw [hft,beq_cast0,beq_dec]))|exact endF2|with_reducible apply DLes.cons)
        ·have hb:th=false:=by assumption
         subst hb
         rw [if_neg (by simp)] at hct
         rw [Bool.false_and,Bool.or_false] at hft
         refine ⟨i+1,by omega,by omega,?_⟩
         (conv=>whnf)
         refine ⟨?_,by rfl⟩
         repeat' ((conv=>whnf);first|exact endF|(exact dle_int (by rw [hct];simp))|(exact dle_bool (by rw [hft]))|exact endF2|with_reducible apply DLes.cons)
       | some p=>
        have hlk:=(List.getElem?_eq_some_iff.1 hp).1
        have hpt:=thereTo_at hp
        obtain ⟨a,r,rfl⟩:∃ a r,p=a::r:=by
         cases p with
         | nil=>exact absurd (hne.parts _ (List.mem_of_getElem? hp)).1 (by simp)
         | cons a r=>exact ⟨a,r,rfl⟩
        rw [List.headD_cons] at hpt
        repeat' (
         (conv=>whnf)
         first
          | ((try ((with_reducible first|apply NumE.go|apply IdxE.go|apply TextE.go|apply LookE.go|apply CallE.go);(conv=>whnf)));(with_reducible apply SideD.mk);(focus ((first|(intro hc;have hc0:=hc;(try simp only [SPLT] at hc);(try refine And.intro (by first|exact hc0|exact ⟨hc0,hc0⟩|exact ⟨hc0,hc0,hc0⟩) ?_))|skip);first|(exact idx_el he (by omega))|(exact idx_rep hp (by omega))|(exact idx_str (l:=a::r) (j:=0) rfl rfl)|((try apply givesl);(focus (((first|apply gives_go (ofNote_sem _ _ _ _)|apply gives_go (awake4_sem )|apply gives_go (Holds_sem _ _ _ _));(focus (exact DLes.au));(focus exact rfl);(all_goals (exact pre)))));(all_goals exact rfl))|exact sideG)))
          | ((with_reducible first|apply DrawR.go0|apply KerB.mk);(focus kernel_rfl))
          | (with_reducible first|apply ends_ret|apply ends_norm|apply Halt'.mk)
          | ((with_reducible apply CondD.mk)<;>intro hb<;>(try simp only [SPLT] at hb)<;>(try first|exact noB)))
        all_goals (try exact (false:Bool))
        refine ⟨k+1,by omega,by omega,?_⟩
        (conv=>whnf)
        refine ⟨?_,by rfl⟩
        repeat' ((conv=>whnf);first|exact endF|(exact dle_bool (by rw [hpt];rfl))|exact endF2|with_reducible apply DLes.cons)
  ·have g3:(holdsN (noteC c (l.map (atC tag))) [.mk [] tag els []]).1=false:=by
    unfold holdsN at g2 ⊢
    split
    ·rfl
    ·rename_i q1
     split
     ·rfl
     ·rename_i q2
      rw [if_neg q1,if_neg q2] at g2
      exact absurd rfl g2
   generalize holdsN (noteC c (l.map (atC tag))) [.mk [] tag els []]=r at h2 g2 g3
   obtain ⟨is,f⟩:=r
   dsimp only at h2 g2 g3
   subst g3
   generalize noteC c (l.map (atC tag))=nc at h1 h2
   obtain ⟨kd,ks,p,vs,lo,hi⟩:=nc
   dsimp only at h1
   rw [Cond.row_mk] at h1 h2
   refine sem_intro (M:=fun t=>mem t [1000051,1000052,1000096]) hT hM Tryz.func6 inferInstance rfl rfl rfl rfl rfl rfl ?_
   repeat' (
    (conv=>whnf)
    first
     | ((try ((with_reducible first|apply NumE.go|apply IdxE.go|apply TextE.go|apply LookE.go|apply CallE.go);(conv=>whnf)));(with_reducible apply SideD.mk);(focus ((first|(intro hc;have hc0:=hc;(try simp only [SPLT] at hc);(try refine And.intro (by first|exact hc0|exact ⟨hc0,hc0⟩|exact ⟨hc0,hc0,hc0⟩) ?_))|skip);first|((try apply givesl);(focus (first|((apply gives_go (h1));(focus (exact DLes.au));(focus exact rfl);(all_goals (exact pre)))|((apply gives_go (h2));(focus (exact DLes.au));(focus exact rfl);(all_goals (exact pre)))|((apply gives_go (h7));(focus (exact DLes.au));(focus exact rfl);(all_goals (exact pre)))|((first|apply gives_go (ofNote_sem _ _ _ _)|apply gives_go (awake4_sem )|apply gives_go (Holds_sem _ _ _ _));(focus (exact DLes.au));(focus exact rfl);(all_goals (exact pre)))));(all_goals exact rfl))|exact sideG)))
     | ((with_reducible first|apply DrawR.go0|apply KerB.mk);(focus kernel_rfl))
     | (with_reducible first|apply ends_ret|apply ends_norm|apply Halt'.mk)
     | ((with_reducible apply CondD.mk)<;>intro hb<;>(try simp only [SPLT] at hb)<;>(try first|exact noB)))
   all_goals (try exact (false:Bool))
   repeat' ((conv=>whnf);first|exact endR|(with_reducible first|apply And.intro|apply endsO_ret|apply endsO_norm|apply DLes.cons))
   all_goals (conv=>whnf)
 ·rw [if_pos g1] at h1
  generalize noteErr tag c l=e1 at h1 g1
  dsimp only [noneC] at h1
  rw [Cond.row_mk] at h1
  refine sem_intro (M:=fun t=>mem t [1000051,1000052,1000096]) hT hM Tryz.func6 inferInstance rfl rfl rfl rfl rfl rfl ?_
  repeat' (
   (conv=>whnf)
   first
    | ((try ((with_reducible first|apply NumE.go|apply IdxE.go|apply TextE.go|apply LookE.go|apply CallE.go);(conv=>whnf)));(with_reducible apply SideD.mk);(focus ((first|(intro hc;have hc0:=hc;(try simp only [SPLT] at hc);(try refine And.intro (by first|exact hc0|exact ⟨hc0,hc0⟩|exact ⟨hc0,hc0,hc0⟩) ?_))|skip);first|((try apply givesl);(focus (first|((apply gives_go (h1));(focus (exact DLes.au));(focus exact rfl);(all_goals (exact pre)))|((apply gives_go (h7));(focus (exact DLes.au));(focus exact rfl);(all_goals (exact pre)))|((first|apply gives_go (ofNote_sem _ _ _ _)|apply gives_go (awake4_sem )|apply gives_go (Holds_sem _ _ _ _));(focus (exact DLes.au));(focus exact rfl);(all_goals (exact pre)))));(all_goals exact rfl))|exact sideG)))
    | ((with_reducible first|apply DrawR.go0|apply KerB.mk);(focus kernel_rfl))
    | (with_reducible first|apply ends_ret|apply ends_norm|apply Halt'.mk)
    | ((with_reducible apply CondD.mk)<;>intro hb<;>(try simp only [SPLT] at hb)<;>(try first|exact noB)))
  all_goals (try exact (false:Bool))
  repeat' ((conv=>whnf);first|exact endR|(with_reducible first|apply And.intro|apply endsO_ret|apply endsO_norm|apply DLes.cons))
  all_goals (conv=>whnf)
end Go.Proofs.YtfolfppcadjccaaGreatDoor
