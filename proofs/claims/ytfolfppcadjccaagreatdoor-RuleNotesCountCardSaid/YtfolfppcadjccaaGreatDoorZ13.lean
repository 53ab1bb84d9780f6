/- Notes: what is wrong with one, and the walks of that. -/
import Derived.Test.YtfolfppcadjccaaGreatDoorZ12
namespace Go.Proofs.YtfolfppcadjccaaGreatDoor
set_option linter.unusedSimpArgs false
set_option linter.unusedVariables false
open Go.RowKit
set_option maxRecDepth 100000
set_option maxHeartbeats 1000000
def numR (n:Int):List D := [.int .i64 n]
theorem containsI_sem (l:List Int) (n:Int):Sem Tryz.prog 85 [.sl 0 1 (l.map numR),.int .i64 n] (.bool (l.contains n)):=by
 refine sem_len 0 rfl rfl fun hl => ?_
 rw [List.length_map] at hl
 refine ⟨inferInstance,rfl,fun S w vs hw hvl hr => ?_⟩
 obtain ⟨v,u,rfl⟩:∃ v u,vs = [v,u]:=by
  match vs,hvl with
  | [v,u],_=>exact ⟨v,u,rfl⟩
 obtain rfl:=(hr 1 _ u rfl rfl).int_inv
 rcases (hr 0 _ v rfl rfl).source with ⟨A,hv,h0⟩|⟨b,o,c,news,hv,k1,k2,k3,k4,k5⟩
 ·obtain rfl:l = []:=by simpa using h0
  subst hv
  refine (Tryz.slices_Contains_int_empty A 0 n w).mono fun e w' ⟨h1,h2⟩ => ?_
  subst h2
  exact ⟨_,S,h1,hw,Trans.refl S _,.fz (.bool _)⟩
 ·rw [List.length_map] at hv
  subst hv
  refine (Tryz.slices_Contains_int b o l.length c l n w (Nat.le_refl _) hl fun j hj => ?_).mono fun e w' ⟨h1,h2⟩ => ?_
  ·obtain ⟨u,u1,u2⟩:=k5 j (numR l[j]) 0 (.int .i64 l[j]) (by rw [List.getElem?_map,List.getElem?_eq_getElem hj];rfl) rfl
   rw [Nat.mul_one,Nat.add_zero] at u1
   cases u2
   rw [k2 j _ u1]
   simp [List.getD_eq_getElem?_getD,List.getElem?_eq_getElem hj]
  ·subst h2
   rw [List.take_length] at h1
   exact ⟨_,S,h1,hw,Trans.refl S _,.fz (.bool _)⟩
def precl:Str := [80,82,69,67,76]
def isNote (c:UInt8):Bool:=c.toNat == 80 || c.toNat == 82 || c.toNat == 69 || c.toNat == 67 || c.toNat == 76
theorem note_contains (c:UInt8):Lib.contains precl (Utf8.encode c.toNat).data.toList=isNote c:=by
 have:∀ n:Fin 256,Lib.contains precl (Utf8.encode (UInt8.ofNat n.val).toNat).data.toList=isNote (UInt8.ofNat n.val):=by decide +kernel
 have h:=this ⟨c.toNat,c.toNat_lt⟩
 simpa using h
theorem int_there {g:Nat} (hG:GB g=some intO) {S:Sig} {w:World} (h:GL S w):∃ n,w.cell? ⟨g,0,none⟩=some (.int .i64 n):=by
 obtain ⟨_,o,h2,cs,e,fz,n,rfl,hn⟩:=h g _ hG
 exact ⟨n,by rw [cell_of_row w g 0 cs e fz h2];exact hn⟩
theorem contains_sem (sub:Str):Sem Tryz.prog 84 [.str precl,.str sub] (.bool (Lib.contains precl sub)):=
 ⟨inferInstance,rfl,fun S w vs hw hl hr=>by
  obtain rfl:=vals_eq (us := [.string ⟨precl.toArray⟩,.string ⟨sub.toArray⟩]) (q:=fun i=>.slot i) rfl hl hr
  obtain ⟨m,hm⟩:=int_there (g:=0) rfl hw.gl
  refine (Tryz.strings_Contains ⟨precl.toArray⟩ ⟨sub.toArray⟩ m w (by decide) hm).mono fun e w' ⟨he,hx⟩ => ?_
  subst hx
  exact ⟨_,S,he,hw,Trans.refl S _,.fz (.bool _)⟩⟩
/-- The first error of elements behind others. -/
def elsErr (seen:List Int):List Int→Int
 | []=>0
 | n::l=>if n < 1∨50 < n then 1 else if seen.contains n then 7 else elsErr (seen ++ [n]) l
def noteErr (tag:Str) (c:UInt8) (els:List Int):Int:=
 if isTagB tag=false then 5 else if isNote c=false then 4 else if 10 < els.length then 2 else if els.length < 2 then 9 else elsErr [] els
theorem els_at {l:List Int} {i:Nat} {n:Int} (h:l[i]?=some n):elsErr (l.take i) (l.drop i)=if n < 1∨50 < n then 1 else if (l.take i).contains n then 7 else elsErr (l.take (i+1)) (l.drop (i+1)):=by
 have hlt:=(List.getElem?_eq_some_iff.1 h).1
 have h1:l.drop i=n::l.drop (i+1):=by
  rw [List.drop_eq_getElem_cons hlt,(List.getElem?_eq_some_iff.1 h).2]
 rw [h1,elsErr,take_at h]
theorem noteFault_sem (tag:Str) (c:UInt8) (els:List Int) (hs:tag.length≤9223372036854775807):Sem Tryz.prog 40 [.str tag,.int .u8 c.toNat,.sl 0 1 (els.map numR)] (.int .i64 (noteErr tag c els)):=by
 refine sem_len 2 rfl rfl fun hl => ?_
 rw [List.length_map] at hl
 have ht:=isTag_sem tag hs
 have hc:=contains_sem (Utf8.encode c.toNat).data.toList
 rw [note_contains] at hc
 have he:noteErr tag c els=if isTagB tag=false then 5 else if isNote c=false then 4 else if 10 < els.length then 2 else if els.length < 2 then 9 else elsErr [] els:=rfl
 generalize noteErr tag c els=e at he ⊢
 generalize isTagB tag=r at ht he
 generalize isNote c=q at hc he
 refine sem_intro (M:=fun t=>mem t []) hT hM Tryz.func40 inferInstance rfl rfl rfl rfl rfl rfl ?_
 repeat' (
  (conv=>whnf)
  first
   | ((try ((with_reducible first|apply NumE.go|apply IdxE.go|apply TextE.go|apply LookE.go|apply CallE.go);(conv=>whnf)));(with_reducible apply SideD.mk);(focus (first|((try apply givesl);(focus (first|((apply gives_go (ht));(focus (exact DLes.au));(focus exact rfl);(all_goals (exact pre)))|((apply gives_go (hc));(focus (exact DLes.au));(focus exact rfl);(all_goals (exact pre)))|((first|apply gives_go (isTag_sem _ _)|apply gives_go (contains_sem _)|apply gives_go (outsideK_sem _ _ _)|apply gives_go (containsI_sem _ _));(focus (exact DLes.au));(focus exact rfl);(all_goals (exact pre)))));(all_goals exact rfl))|exact side)))
   | ((with_reducible first|apply DrawR.go0|apply KerB.mk);(focus kernel_rfl))
   | (with_reducible first|apply ends_ret|apply ends_norm|apply Halt'.mk)
   | ((with_reducible apply CondD.mk)<;>intro hb<;>(try simp only [SPLT] at hb)<;>(try first|exact noB)))
 all_goals (try exact (false:Bool))
 ·repeat' ((conv=>whnf);first|exact endR|(with_reducible first|apply And.intro|apply endsO_ret|apply endsO_norm|apply DLes.cons))
  all_goals (conv=>whnf)
  exact rle_int (by simp_all)
 ·repeat' ((conv=>whnf);first|exact endR|(with_reducible first|apply And.intro|apply endsO_ret|apply endsO_norm|apply DLes.cons))
  all_goals (conv=>whnf)
  exact rle_int (by simp_all)
 ·repeat' ((conv=>whnf);first|exact endR|(with_reducible first|apply And.intro|apply endsO_ret|apply endsO_norm|apply DLes.cons))
  all_goals (conv=>whnf)
  refine rle_int ?_
  rw [he,if_neg (by simp_all),if_neg (by simp_all),if_pos (by omega)]
 ·repeat' ((conv=>whnf);first|exact endR|(with_reducible first|apply And.intro|apply endsO_ret|apply endsO_norm|apply DLes.cons))
  all_goals (conv=>whnf)
  refine rle_int ?_
  rw [he,if_neg (by simp_all),if_neg (by simp_all),if_neg (by omega),if_pos (by omega)]
 ·have he2:e=elsErr [] els:=by rw [he,if_neg (by simp_all),if_neg (by simp_all),if_neg (by omega),if_neg (by omega)]
  clear he
  refine loop_go (M:=fun t=>mem t []) hT hM (fun i:Nat => [(28,.int .i64 i)]) (fun i=>i≤els.length∧elsErr (els.take i) (els.drop i)=e) (fun i=>els.length - i) (0) ?_ ?_ ?_
  ·(conv=>whnf)
   refine ⟨?_,by rfl⟩
   repeat' ((conv=>whnf);first|exact endF|exact endF2|with_reducible apply DLes.cons)
  ·exact ⟨by omega,he2.symm⟩
  ·rintro i ⟨hi,hv⟩
   clear he2
   cases hx:els[i]? with
   | none=>
    have hn:=List.getElem?_eq_none_iff.1 hx
    rw [List.drop_of_length_le hn] at hv
    repeat' (
     (conv=>whnf)
     first
      | ((try ((with_reducible first|apply NumE.go|apply IdxE.go|apply TextE.go|apply LookE.go|apply CallE.go);(conv=>whnf)));(with_reducible apply SideD.mk);(focus (first|((try apply givesl);(focus (first|((apply gives_go (ht));(focus (exact DLes.au));(focus exact rfl);(all_goals (exact pre)))|((apply gives_go (hc));(focus (exact DLes.au));(focus exact rfl);(all_goals (exact pre)))|((first|apply gives_go (isTag_sem _ _)|apply gives_go (contains_sem _)|apply gives_go (outsideK_sem _ _ _)|apply gives_go (containsI_sem _ _));(focus (exact DLes.au));(focus exact rfl);(all_goals (exact pre)))));(all_goals exact rfl))|exact side)))
      | ((with_reducible first|apply DrawR.go0|apply KerB.mk);(focus kernel_rfl))
      | (with_reducible first|apply ends_ret|apply ends_norm|apply Halt'.mk)
      | ((with_reducible apply CondD.mk)<;>intro hb<;>(try simp only [SPLT] at hb)<;>(try first|exact noB)))
    all_goals (try exact (false:Bool))
    repeat' ((conv=>whnf);first|exact endR|(with_reducible first|apply And.intro|apply endsO_ret|apply endsO_norm|apply DLes.cons))
    all_goals (conv=>whnf)
    exact rle_int hv
   | some n=>
    have hlt:=(List.getElem?_eq_some_iff.1 hx).1
    rw [els_at hx] at hv
    have hk:=containsI_sem (els.take i) n
    rw [List.map_take] at hk
    generalize (els.take i).contains n=b at hk hv
    repeat' (
     (conv=>whnf)
     first
      | ((try ((with_reducible first|apply NumE.go|apply IdxE.go|apply TextE.go|apply LookE.go|apply CallE.go);(conv=>whnf)));(with_reducible apply SideD.mk);(focus (first|((try apply givesl);(focus (first|((apply gives_go (ht));(focus (exact DLes.au));(focus exact rfl);(all_goals (exact pre)))|((apply gives_go (hc));(focus (exact DLes.au));(focus exact rfl);(all_goals (exact pre)))|((apply gives_go (hk));(focus (exact DLes.au));(focus exact rfl);(all_goals (exact pre)))|((first|apply gives_go (outsideK_sem n 1 50)|apply gives_go (isTag_sem _ _)|apply gives_go (contains_sem _)|apply gives_go (containsI_sem _ _));(focus (exact DLes.au));(focus exact rfl);(all_goals (exact pre)))));(all_goals exact rfl))|exact side)))
      | ((with_reducible first|apply DrawR.go0|apply KerB.mk);(focus kernel_rfl))
      | (with_reducible first|apply ends_ret|apply ends_norm|apply Halt'.mk)
      | ((with_reducible apply CondD.mk)<;>intro hb<;>(try simp only [SPLT] at hb)<;>(try first|exact noB)))
    all_goals (try exact (false:Bool))
    ·repeat' ((conv=>whnf);first|exact endR|(with_reducible first|apply And.intro|apply endsO_ret|apply endsO_norm|apply DLes.cons))
     all_goals (conv=>whnf)
     rw [if_pos (by omega)] at hv
     exact rle_int hv
    ·repeat' ((conv=>whnf);first|exact endR|(with_reducible first|apply And.intro|apply endsO_ret|apply endsO_norm|apply DLes.cons))
     all_goals (conv=>whnf)
     rw [if_neg (by omega),if_pos (by assumption)] at hv
     exact rle_int hv
    ·rw [if_neg (by omega),if_neg (by simp_all)] at hv
     refine ⟨i+1,⟨by omega,hv⟩,by omega,?_⟩
     (conv=>whnf)
     refine ⟨?_,by rfl⟩
     repeat' ((conv=>whnf);first|exact endF|exact endF2|with_reducible apply DLes.cons)
end Go.Proofs.YtfolfppcadjccaaGreatDoor
