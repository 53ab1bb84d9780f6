/- Paths: the program zFy one (walks). -/
import Derived.Test.YtnjgoldinaffgaaGreatDoorY20
namespace Go.Proofs.YtnjgoldinaffgaaGreatDoor
open _root_.Go.Proofs.Tryz
set_option linter.unusedSimpArgs false
set_option linter.unusedVariables false
open Go.RowKit
set_option maxRecDepth 100000
set_option maxHeartbeats 2000000
def cM:List (List Bool) := [[b0,b0,b0,b0,b0,b0,b0,b0],[b1,b0,b0,b0,b0,b0,b0,b0],[b1,b1,b0,b0,b0,b0,b0,b0],[b1,b1,b1,b0,b0,b0,b0,b0],[b1,b1,b1,b1,b0,b0,b0,b0],[b1,b1,b1,b0,b0,b1,b0,b0],[b1,b1,b1,b1,b1,b0,b0,b0],[b1,b1,b1,b1,b0,b1,b0,b0],[b1,b1,b1,b0,b0,b1,b1,b0],[b1,b1,b1,b1,b1,b1,b0,b0],[b1,b1,b1,b1,b0,b1,b1,b0],[b1,b1,b1,b1,b1,b1,b1,b0],[b1,b1,b1,b1,b1,b1,b1,b1]]
abbrev Wy:=List Str × Str × Int × Int
def Wy.row (w:Wy):List D := [.sl 0 1 (w.1.map fun s => [.str s]),.str w.2.1,.int .i64 w.2.2.1,.int .i64 w.2.2.2]
def zBM (n m:Int):Bool:=decide (n < 1) || decide (m < n)
def nN (s:Str) (m:Int):Bool:=(eQ s).2 && !zBM (eQ s).1 m
def fY (ns:List Str):List Str→Wy × Bool
 |[a]=>if cA a=true then ((ns,a,0,0),true) else ((ns,[],0,0),false)
 |[a,b]=>if cA a=false then ((ns,[],0,0),false) else if nN b 50=true then ((ns,a,(eQ b).1,0),true) else ((ns,a,0,0),false)
 |[a,b,c]=>if cA a=false then ((ns,[],0,0),false) else if nN b 50=false then ((ns,a,0,0),false) else if nN c 20=true then ((ns,a,(eQ b).1,(eQ c).1),true) else ((ns,a,(eQ b).1,0),false)
 |_=>((ns,[],0,0),false)
theorem fK (n m:Int):Sem Tryz.prog 87 [.int .i64 n,.int .i64 1,.int .i64 m] (.bool (zBM n m)):=bJ n 1 m
theorem gB{p:Prop}(h:p:=by first|(refine gx (fK ?_ ?_)<;>exact pre)|(refine gx (iO ?_ ?_ ?_)<;>exact pre)|(refine gx (iX ?_ ?_)<;>exact pre)|(refine gx (eV ?_ ?_ ?_)<;>exact pre)|(refine gx (mE ?_ ?_)<;>exact pre)|(refine gx (rT ?_ ?_)<;>exact pre)|(refine gx (bJ ?_ ?_ ?_)<;>exact pre)):p:=h
theorem xB (p:Str) (hp:p.length≤1000) (hi:Lib.lastIndexByte ⟨p.toArray⟩ 47 = -1):Sem Tryz.prog 53 [.str p] (.tup [.agg (fY [] (aF 46 p)).1.row,.bool (fY [] (aF 46 p)).2]):=by
 have h1:=iO p 47 (by omega)
 rw [show ((47:UInt8).toNat:Int)=47 from rfl,hi] at h1
 have h0:True:=trivial
 have hq:p.length≤1000:=hp
 have h2:=(eV p 46 (by omega)).frozen
 have h3:∀ a ∈ aF 46 p,Sem Tryz.prog 85 [.str a] (.bool (cA a)):=fun a ha=>mE a (by have:=gV ha;omega)
 have h4:∀ a ∈ aF 46 p,Sem Tryz.prog 86 [.str a,.int .i64 3] (.tup [.int .i64 (eQ a).1,.bool (eQ a).2]):=fun a ha=>rT a (by have:=gV ha;omega)
 have h5:=fZ (c:=46) p
 have h6:=iI (c:=46) p
 generalize aF 46 p=l at h2 h3 h4 h5 h6 ⊢
 generalize hr:fY [] l=r
 rcases l with _|⟨a,_|⟨b,_|⟨c,_|⟨d,t⟩⟩⟩⟩
 ·exact absurd rfl h5
 ·have ha:=h3 a (by simp)
  rw [fY] at hr
  generalize cA a=q at ha hr
  refine si [2,4,5000007] func53 ?_
  repeat'((conv=>whnf);first|((with_reducible apply DrawI.at 28 cM);exact rfl;kernel_rfl)|with_reducible apply ExE.go|((with_reducible apply EqF.mk);exact rfl)|with_reducible apply AndI.mk|with_reducible exact trivial|(try(first|apply eN|apply eI|apply eC);conv=>whnf);apply sD;(focus(try intro hc;have hc0:=hc;(try simp only[aA]at hc);try refine aE ?_);first|exact gx h1|exact gx h2|exact gx ha|exact gB|exact aC)|(first|apply dG|apply kB);kernel_rfl|apply rR|apply rE|apply rH| (apply cD<;>intro hb<;>(try simp only[aA]at hb)<;>try exact aM))
  all_goals try exact false
  ·rw [if_neg (by simp_all)] at hr
   subst hr
   repeat' ((conv=>whnf);first|exact aI|with_reducible first|apply And.intro|apply oR|apply oN|apply dC)
   all_goals (conv=>whnf)
   simp only [Wy.row,List.map_nil]
   (first|refine aG ?_|refine aB ?_|skip)
   repeat' (first|exact bE|exact aO|with_reducible apply dC|with_reducible apply aB)
  ·rw [if_pos (by simp_all)] at hr
   refine aL (M:=fun t=>gF t [2,4,5000007]) hT hM (fun _:Unit => [(54,.int .i64 0),(4,.obj [.nil,.str a,.int .i64 0,.int .i64 0])]) (fun _=>True) (fun _=>0) (()) ?_ ?_ ?_
   ·exact aV
   ·exact trivial
   ·rintro _ _
    repeat'((conv=>whnf);first|((with_reducible apply DrawI.at 28 cM);exact rfl;kernel_rfl)|with_reducible apply ExE.go|((with_reducible apply EqF.mk);exact rfl)|with_reducible apply AndI.mk|with_reducible exact trivial|(try(first|apply eN|apply eI|apply eC);conv=>whnf);apply sD;(focus(try intro hc;have hc0:=hc;(try simp only[aA]at hc);try refine aE ?_);first|exact gB|exact aC)|(first|apply dG|apply kB);kernel_rfl|apply rR|apply rE|apply rH| (apply cD<;>intro hb<;>(try simp only[aA]at hb)<;>try exact aM))
    all_goals try exact false
    subst hr
    repeat' ((conv=>whnf);first|exact aI|with_reducible first|apply And.intro|apply oR|apply oN|apply dC)
    all_goals (conv=>whnf)
    simp only [Wy.row,List.map_nil]
    (first|refine aG ?_|refine aB ?_|skip)
    repeat' (first|exact bE|exact aO|with_reducible apply dC|with_reducible apply aB)
 ·have ha:=h3 a (by simp)
  have hb1:=h4 b (by simp)
  rw [fY,nN] at hr
  generalize cA a=q at ha hr
  generalize eQ b=nb at hb1 hr
  obtain ⟨n,o⟩:=nb
  dsimp only at hb1 hr
  have hO:=fK n 50
  generalize zBM n 50=u at hO hr
  refine si [2,4,5000007] func53 ?_
  repeat'((conv=>whnf);first|((with_reducible apply DrawI.at 28 cM);exact rfl;kernel_rfl)|with_reducible apply ExE.go|((with_reducible apply EqF.mk);exact rfl)|with_reducible apply AndI.mk|with_reducible exact trivial|(try(first|apply eN|apply eI|apply eC);conv=>whnf);apply sD;(focus(try intro hc;have hc0:=hc;(try simp only[aA]at hc);try refine aE ?_);first|exact gx h1|exact gx h2|exact gx ha|exact gB|exact aC)|(first|apply dG|apply kB);kernel_rfl|apply rR|apply rE|apply rH| (apply cD<;>intro hb<;>(try simp only[aA]at hb)<;>try exact aM))
  all_goals try exact false
  ·rw [if_pos (by simp_all)] at hr
   subst hr
   repeat' ((conv=>whnf);first|exact aI|with_reducible first|apply And.intro|apply oR|apply oN|apply dC)
   all_goals (conv=>whnf)
   simp only [Wy.row,List.map_nil]
   (first|refine aG ?_|refine aB ?_|skip)
   repeat' (first|exact bE|exact aO|with_reducible apply dC|with_reducible apply aB)
  ·rw [if_neg (by simp_all)] at hr
   refine aL (M:=fun t=>gF t [2,4,5000007]) hT hM (fun i:Nat => [(54,.int .i64 i),(4,.obj [.nil,.str a,.int .i64 (if i=0 then 0 else n),.int .i64 0])]) (fun i=>i≤1∧(1≤i→(o && !u)=true)) (fun i=>1 - i) (0) ?_ ?_ ?_
   ·exact aV
   ·exact ⟨by omega,by omega⟩
   ·rintro i ⟨hi1,hi2⟩
    rcases Nat.lt_or_ge i 1 with hz|hz
    ·obtain rfl:i=0:=by omega
     repeat'((conv=>whnf);first|((with_reducible apply DrawI.at 28 cM);exact rfl;kernel_rfl)|with_reducible apply ExE.go|((with_reducible apply EqF.mk);exact rfl)|with_reducible apply AndI.mk|with_reducible exact trivial|(try(first|apply eN|apply eI|apply eC);conv=>whnf);apply sD;(focus(try intro hc;have hc0:=hc;(try simp only[aA]at hc);try refine aE ?_);first|(exact ⟨by omega,rfl⟩)|exact gx hb1|exact gx hO|exact gB|exact aC)|(first|apply dG|apply kB);kernel_rfl|apply rR|apply rE|apply rH| (apply cD<;>intro hb<;>(try simp only[aA]at hb)<;>try exact aM))
     all_goals try exact false
     ·rw [if_neg (by (first|(revert hb;cases o<;>cases u<;>decide)|(cases o<;>cases u<;>simp_all)))] at hr
      subst hr
      repeat' ((conv=>whnf);first|exact aI|with_reducible first|apply And.intro|apply oR|apply oN|apply dC)
      all_goals (conv=>whnf)
      simp only [Wy.row,List.map_nil]
      (first|refine aG ?_|refine aB ?_|skip)
      repeat' (first|exact bE|exact aO|with_reducible apply dC|with_reducible apply aB)
     ·refine ⟨1,⟨by omega,fun _=>by rw [(‹o=true∧u=false›:o=true∧u=false).1,(‹o=true∧u=false›:o=true∧u=false).2];rfl⟩,by omega,?_⟩
      exact aV
    ·obtain rfl:i=1:=by omega
     rw [if_pos (hi2 (by omega))] at hr
     repeat'((conv=>whnf);first|((with_reducible apply DrawI.at 28 cM);exact rfl;kernel_rfl)|with_reducible apply ExE.go|((with_reducible apply EqF.mk);exact rfl)|with_reducible apply AndI.mk|with_reducible exact trivial|(try(first|apply eN|apply eI|apply eC);conv=>whnf);apply sD;(focus(try intro hc;have hc0:=hc;(try simp only[aA]at hc);try refine aE ?_);first|exact gB|exact aC)|(first|apply dG|apply kB);kernel_rfl|apply rR|apply rE|apply rH| (apply cD<;>intro hb<;>(try simp only[aA]at hb)<;>try exact aM))
     all_goals try exact false
     subst hr
     repeat' ((conv=>whnf);first|exact aI|with_reducible first|apply And.intro|apply oR|apply oN|apply dC)
     all_goals (conv=>whnf)
     simp only [Wy.row,List.map_nil]
     (first|refine aG ?_|refine aB ?_|skip)
     repeat' (first|exact bE|exact aO|with_reducible apply dC|with_reducible apply aB)
 ·have ha:=h3 a (by simp)
  have hb1:=h4 b (by simp)
  have hb2:=h4 c (by simp)
  rw [fY,nN,nN] at hr
  generalize cA a=q at ha hr
  generalize eQ b=nb at hb1 hr
  generalize eQ c=nc at hb2 hr
  obtain ⟨n,o⟩:=nb
  obtain ⟨m,x⟩:=nc
  dsimp only at hb1 hb2 hr
  have hO:=fK n 50
  have hO2:=fK m 20
  generalize zBM n 50=u at hO hr
  generalize zBM m 20=y at hO2 hr
  refine si [2,4,5000007] func53 ?_
  repeat'((conv=>whnf);first|((with_reducible apply DrawI.at 28 cM);exact rfl;kernel_rfl)|with_reducible apply ExE.go|((with_reducible apply EqF.mk);exact rfl)|with_reducible apply AndI.mk|with_reducible exact trivial|(try(first|apply eN|apply eI|apply eC);conv=>whnf);apply sD;(focus(try intro hc;have hc0:=hc;(try simp only[aA]at hc);try refine aE ?_);first|exact gx h1|exact gx h2|exact gx ha|exact gB|exact aC)|(first|apply dG|apply kB);kernel_rfl|apply rR|apply rE|apply rH| (apply cD<;>intro hb<;>(try simp only[aA]at hb)<;>try exact aM))
  all_goals try exact false
  ·rw [if_pos (by simp_all)] at hr
   subst hr
   repeat' ((conv=>whnf);first|exact aI|with_reducible first|apply And.intro|apply oR|apply oN|apply dC)
   all_goals (conv=>whnf)
   simp only [Wy.row,List.map_nil]
   (first|refine aG ?_|refine aB ?_|skip)
   repeat' (first|exact bE|exact aO|with_reducible apply dC|with_reducible apply aB)
  ·rw [if_neg (by simp_all)] at hr
   refine aL (M:=fun t=>gF t [2,4,5000007]) hT hM (fun i:Nat => [(54,.int .i64 i),(4,.obj [.nil,.str a,.int .i64 (if i=0 then 0 else n),.int .i64 (if i=2 then m else 0)])]) (fun i=>i≤2∧(1≤i→(o && !u)=true)∧(2≤i→(x && !y)=true)) (fun i=>2 - i) (0) ?_ ?_ ?_
   ·exact aV
   ·exact ⟨by omega,by omega,by omega⟩
   ·rintro i ⟨hi1,hi2,hi3⟩
    rcases Nat.lt_or_ge i 1 with hz|hz
    ·obtain rfl:i=0:=by omega
     repeat'((conv=>whnf);first|((with_reducible apply DrawI.at 28 cM);exact rfl;kernel_rfl)|with_reducible apply ExE.go|((with_reducible apply EqF.mk);exact rfl)|with_reducible apply AndI.mk|with_reducible exact trivial|(try(first|apply eN|apply eI|apply eC);conv=>whnf);apply sD;(focus(try intro hc;have hc0:=hc;(try simp only[aA]at hc);try refine aE ?_);first|(exact ⟨by omega,rfl⟩)|exact gx hb1|exact gx hO|exact gB|exact aC)|(first|apply dG|apply kB);kernel_rfl|apply rR|apply rE|apply rH| (apply cD<;>intro hb<;>(try simp only[aA]at hb)<;>try exact aM))
     all_goals try exact false
     ·rw [if_pos (by (first|(revert hb;cases o<;>cases u<;>decide)|(cases o<;>cases u<;>simp_all)))] at hr
      subst hr
      repeat' ((conv=>whnf);first|exact aI|with_reducible first|apply And.intro|apply oR|apply oN|apply dC)
      all_goals (conv=>whnf)
      simp only [Wy.row,List.map_nil]
      (first|refine aG ?_|refine aB ?_|skip)
      repeat' (first|exact bE|exact aO|with_reducible apply dC|with_reducible apply aB)
     ·refine ⟨1,⟨by omega,fun _=>by rw [(‹o=true∧u=false›:o=true∧u=false).1,(‹o=true∧u=false›:o=true∧u=false).2];rfl,by omega⟩,by omega,?_⟩
      exact aV
    ·have hou:=hi2 (by omega)
     rw [if_neg (by revert hou;cases o<;>cases u<;>decide)] at hr
     rcases Nat.lt_or_ge i 2 with hz2|hz2
     ·obtain rfl:i=1:=by omega
      repeat'((conv=>whnf);first|((with_reducible apply DrawI.at 28 cM);exact rfl;kernel_rfl)|with_reducible apply ExE.go|((with_reducible apply EqF.mk);exact rfl)|with_reducible apply AndI.mk|with_reducible exact trivial|(try(first|apply eN|apply eI|apply eC);conv=>whnf);apply sD;(focus(try intro hc;have hc0:=hc;(try simp only[aA]at hc);try refine aE ?_);first|(exact ⟨by omega,rfl⟩)|exact gx hb2|exact gx hO2|exact gB|exact aC)|(first|apply dG|apply kB);kernel_rfl|apply rR|apply rE|apply rH| (apply cD<;>intro hb<;>(try simp only[aA]at hb)<;>try exact aM))
      all_goals try exact false
      ·rw [if_neg (by (first|(revert hb;cases x<;>cases y<;>decide)|(cases x<;>cases y<;>simp_all)))] at hr
       subst hr
       repeat' ((conv=>whnf);first|exact aI|with_reducible first|apply And.intro|apply oR|apply oN|apply dC)
       all_goals (conv=>whnf)
       simp only [Wy.row,List.map_nil]
       (first|refine aG ?_|refine aB ?_|skip)
       repeat' (first|exact bE|exact aO|with_reducible apply dC|with_reducible apply aB)
      ·refine ⟨2,⟨by omega,fun _=>hou,fun _=>by rw [(‹x=true∧y=false›:x=true∧y=false).1,(‹x=true∧y=false›:x=true∧y=false).2];rfl⟩,by omega,?_⟩
       exact aV
     ·obtain rfl:i=2:=by omega
      rw [if_pos (hi3 (by omega))] at hr
      repeat'((conv=>whnf);first|((with_reducible apply DrawI.at 28 cM);exact rfl;kernel_rfl)|with_reducible apply ExE.go|((with_reducible apply EqF.mk);exact rfl)|with_reducible apply AndI.mk|with_reducible exact trivial|(try(first|apply eN|apply eI|apply eC);conv=>whnf);apply sD;(focus(try intro hc;have hc0:=hc;(try simp only[aA]at hc);try refine aE ?_);first|exact gB|exact aC)|(first|apply dG|apply kB);kernel_rfl|apply rR|apply rE|apply rH| (apply cD<;>intro hb<;>(try simp only[aA]at hb)<;>try exact aM))
      all_goals try exact false
      subst hr
      repeat' ((conv=>whnf);first|exact aI|with_reducible first|apply And.intro|apply oR|apply oN|apply dC)
      all_goals (conv=>whnf)
      simp only [Wy.row,List.map_nil]
      (first|refine aG ?_|refine aB ?_|skip)
      repeat' (first|exact bE|exact aO|with_reducible apply dC|with_reducible apply aB)
 ·replace hr:((([]:List Str),([]:Str),(0:Int),(0:Int)),false)=r:=hr
  have ha:=h3 a (by simp)
  refine si [2,4,5000007] func53 ?_
  repeat'((conv=>whnf);first|((with_reducible apply DrawI.at 28 cM);exact rfl;kernel_rfl)|with_reducible apply ExE.go|((with_reducible apply EqF.mk);exact rfl)|with_reducible apply AndI.mk|with_reducible exact trivial|(try(first|apply eN|apply eI|apply eC);conv=>whnf);apply sD;(focus(try intro hc;have hc0:=hc;(try simp only[aA]at hc);try refine aE ?_);first|exact gx h1|exact gx h2|exact gx ha|exact gB|exact aC)|(first|apply dG|apply kB);kernel_rfl|apply rR|apply rE|apply rH| (apply cD<;>intro hb<;>(try simp only[aA]at hb)<;>try exact aM))
  all_goals try exact false
  subst hr
  repeat' ((conv=>whnf);first|exact aI|with_reducible first|apply And.intro|apply oR|apply oN|apply dC)
  all_goals (conv=>whnf)
  simp only [Wy.row,List.map_nil]
  (first|refine aG ?_|refine aB ?_|skip)
  repeat' (first|exact bE|exact aO|with_reducible apply dC|with_reducible apply aB)
theorem xA (p:Str) (i:Nat) (hp:p.length≤1000) (hi:Lib.lastIndexByte ⟨p.toArray⟩ 47=i) (hil:i < p.length) (hnb:mW (p.take i)=true):Sem Tryz.prog 53 [.str p] (.tup [.agg (fY (aF 47 (p.take i)) (aF 46 (p.drop (i+1)))).1.row,.bool (fY (aF 47 (p.take i)) (aF 46 (p.drop (i+1)))).2]):=by
 have h1:=iO p 47 (by omega)
 rw [show ((47:UInt8).toNat:Int)=47 from rfl,hi] at h1
 have h0:=iX (p.take i) (by simp;omega)
 rw [hnb] at h0
 generalize aF 47 (p.take i)=ns at h0 ⊢
 have hq:(p.drop (i+1)).length≤1000:=by simp;omega
 have h2:=(eV (p.drop (i+1)) 46 (by omega)).frozen
 have h3:∀ a ∈ aF 46 (p.drop (i+1)),Sem Tryz.prog 85 [.str a] (.bool (cA a)):=fun a ha=>mE a (by have:=gV ha;omega)
 have h4:∀ a ∈ aF 46 (p.drop (i+1)),Sem Tryz.prog 86 [.str a,.int .i64 3] (.tup [.int .i64 (eQ a).1,.bool (eQ a).2]):=fun a ha=>rT a (by have:=gV ha;omega)
 have h5:=fZ (c:=46) (p.drop (i+1))
 have h6:=iI (c:=46) (p.drop (i+1))
 generalize aF 46 (p.drop (i+1))=l at h2 h3 h4 h5 h6 ⊢
 rw [show p.drop (i+1)=List.drop ((i:Int)+1).toNat (List.take ((p.length:Int)).toNat p) by rw [Int.toNat_natCast,List.take_length];congr 1] at h2
 generalize hr:fY ns l=r
 rcases l with _|⟨a,_|⟨b,_|⟨c,_|⟨d,t⟩⟩⟩⟩
 ·exact absurd rfl h5
 ·have ha:=h3 a (by simp)
  rw [fY] at hr
  generalize cA a=q at ha hr
  refine si [2,4,5000007] func53 ?_
  repeat'((conv=>whnf);first|((with_reducible apply DrawI.at 28 cM);exact rfl;kernel_rfl)|with_reducible apply ExE.go|((with_reducible apply EqF.mk);exact rfl)|with_reducible apply AndI.mk|with_reducible exact trivial|(try(first|apply eN|apply eI|apply eC);conv=>whnf);apply sD;(focus(try intro hc;have hc0:=hc;(try simp only[aA]at hc);try refine aE ?_);first|exact gx h1|exact gx h2|exact gx ha|exact gx h0|exact gB|exact aC)|(first|apply dG|apply kB);kernel_rfl|apply rR|apply rE|apply rH| (apply cD<;>intro hb<;>(try simp only[aA]at hb)<;>try exact aM))
  all_goals try exact false
  ·rw [if_neg (by simp_all)] at hr
   subst hr
   repeat' ((conv=>whnf);first|exact aI|with_reducible first|apply And.intro|apply oR|apply oN|apply dC)
   all_goals (conv=>whnf)
   simp only [Wy.row,List.map_nil]
   (first|refine aG ?_|refine aB ?_|skip)
   repeat' (first|exact bE|exact aO|with_reducible apply dC|with_reducible apply aB)
  ·rw [if_pos (by simp_all)] at hr
   refine aL (M:=fun t=>gF t [2,4,5000007]) hT hM (fun _:Unit => [(54,.int .i64 0),(4,.obj [.sl 0 1 (ns.map fun s => [.str s]),.str a,.int .i64 0,.int .i64 0])]) (fun _=>True) (fun _=>0) (()) ?_ ?_ ?_
   ·exact aV
   ·exact trivial
   ·rintro _ _
    repeat'((conv=>whnf);first|((with_reducible apply DrawI.at 28 cM);exact rfl;kernel_rfl)|with_reducible apply ExE.go|((with_reducible apply EqF.mk);exact rfl)|with_reducible apply AndI.mk|with_reducible exact trivial|(try(first|apply eN|apply eI|apply eC);conv=>whnf);apply sD;(focus(try intro hc;have hc0:=hc;(try simp only[aA]at hc);try refine aE ?_);first|exact gB|exact aC)|(first|apply dG|apply kB);kernel_rfl|apply rR|apply rE|apply rH| (apply cD<;>intro hb<;>(try simp only[aA]at hb)<;>try exact aM))
    all_goals try exact false
    subst hr
    repeat' ((conv=>whnf);first|exact aI|with_reducible first|apply And.intro|apply oR|apply oN|apply dC)
    all_goals (conv=>whnf)
    simp only [Wy.row,List.map_nil]
    (first|refine aG ?_|refine aB ?_|skip)
    repeat' (first|exact bE|exact aO|with_reducible apply dC|with_reducible apply aB)
 ·have ha:=h3 a (by simp)
  have hb1:=h4 b (by simp)
  rw [fY,nN] at hr
  generalize cA a=q at ha hr
  generalize eQ b=nb at hb1 hr
  obtain ⟨n,o⟩:=nb
  dsimp only at hb1 hr
  have hO:=fK n 50
  generalize zBM n 50=u at hO hr
  refine si [2,4,5000007] func53 ?_
  repeat'((conv=>whnf);first|((with_reducible apply DrawI.at 28 cM);exact rfl;kernel_rfl)|with_reducible apply ExE.go|((with_reducible apply EqF.mk);exact rfl)|with_reducible apply AndI.mk|with_reducible exact trivial|(try(first|apply eN|apply eI|apply eC);conv=>whnf);apply sD;(focus(try intro hc;have hc0:=hc;(try simp only[aA]at hc);try refine aE ?_);first|exact gx h1|exact gx h2|exact gx ha|exact gx h0|exact gB|exact aC)|(first|apply dG|apply kB);kernel_rfl|apply rR|apply rE|apply rH| (apply cD<;>intro hb<;>(try simp only[aA]at hb)<;>try exact aM))
  all_goals try exact false
  ·rw [if_pos (by simp_all)] at hr
   subst hr
   repeat' ((conv=>whnf);first|exact aI|with_reducible first|apply And.intro|apply oR|apply oN|apply dC)
   all_goals (conv=>whnf)
   simp only [Wy.row,List.map_nil]
   (first|refine aG ?_|refine aB ?_|skip)
   repeat' (first|exact bE|exact aO|with_reducible apply dC|with_reducible apply aB)
  ·rw [if_neg (by simp_all)] at hr
   refine aL (M:=fun t=>gF t [2,4,5000007]) hT hM (fun i:Nat => [(54,.int .i64 i),(4,.obj [.sl 0 1 (ns.map fun s => [.str s]),.str a,.int .i64 (if i=0 then 0 else n),.int .i64 0])]) (fun i=>i≤1∧(1≤i→(o && !u)=true)) (fun i=>1 - i) (0) ?_ ?_ ?_
   ·exact aV
   ·exact ⟨by omega,by omega⟩
   ·rintro i ⟨hi1,hi2⟩
    rcases Nat.lt_or_ge i 1 with hz|hz
    ·obtain rfl:i=0:=by omega
     repeat'((conv=>whnf);first|((with_reducible apply DrawI.at 28 cM);exact rfl;kernel_rfl)|with_reducible apply ExE.go|((with_reducible apply EqF.mk);exact rfl)|with_reducible apply AndI.mk|with_reducible exact trivial|(try(first|apply eN|apply eI|apply eC);conv=>whnf);apply sD;(focus(try intro hc;have hc0:=hc;(try simp only[aA]at hc);try refine aE ?_);first|(exact ⟨by omega,rfl⟩)|exact gx hb1|exact gx hO|exact gB|exact aC)|(first|apply dG|apply kB);kernel_rfl|apply rR|apply rE|apply rH| (apply cD<;>intro hb<;>(try simp only[aA]at hb)<;>try exact aM))
     all_goals try exact false
     ·rw [if_neg (by (first|(revert hb;cases o<;>cases u<;>decide)|(cases o<;>cases u<;>simp_all)))] at hr
      subst hr
      repeat' ((conv=>whnf);first|exact aI|with_reducible first|apply And.intro|apply oR|apply oN|apply dC)
      all_goals (conv=>whnf)
      simp only [Wy.row,List.map_nil]
      (first|refine aG ?_|refine aB ?_|skip)
      repeat' (first|exact bE|exact aO|with_reducible apply dC|with_reducible apply aB)
     ·refine ⟨1,⟨by omega,fun _=>by rw [(‹o=true∧u=false›:o=true∧u=false).1,(‹o=true∧u=false›:o=true∧u=false).2];rfl⟩,by omega,?_⟩
      exact aV
    ·obtain rfl:i=1:=by omega
     rw [if_pos (hi2 (by omega))] at hr
     repeat'((conv=>whnf);first|((with_reducible apply DrawI.at 28 cM);exact rfl;kernel_rfl)|with_reducible apply ExE.go|((with_reducible apply EqF.mk);exact rfl)|with_reducible apply AndI.mk|with_reducible exact trivial|(try(first|apply eN|apply eI|apply eC);conv=>whnf);apply sD;(focus(try intro hc;have hc0:=hc;(try simp only[aA]at hc);try refine aE ?_);first|exact gB|exact aC)|(first|apply dG|apply kB);kernel_rfl|apply rR|apply rE|apply rH| (apply cD<;>intro hb<;>(try simp only[aA]at hb)<;>try exact aM))
     all_goals try exact false
     subst hr
     repeat' ((conv=>whnf);first|exact aI|with_reducible first|apply And.intro|apply oR|apply oN|apply dC)
     all_goals (conv=>whnf)
     simp only [Wy.row,List.map_nil]
     (first|refine aG ?_|refine aB ?_|skip)
     repeat' (first|exact bE|exact aO|with_reducible apply dC|with_reducible apply aB)
 ·have ha:=h3 a (by simp)
  have hb1:=h4 b (by simp)
  have hb2:=h4 c (by simp)
  rw [fY,nN,nN] at hr
  generalize cA a=q at ha hr
  generalize eQ b=nb at hb1 hr
  generalize eQ c=nc at hb2 hr
  obtain ⟨n,o⟩:=nb
  obtain ⟨m,x⟩:=nc
  dsimp only at hb1 hb2 hr
  have hO:=fK n 50
  have hO2:=fK m 20
  generalize zBM n 50=u at hO hr
  generalize zBM m 20=y at hO2 hr
  refine si [2,4,5000007] func53 ?_
  repeat'((conv=>whnf);first|((with_reducible apply DrawI.at 28 cM);exact rfl;kernel_rfl)|with_reducible apply ExE.go|((with_reducible apply EqF.mk);exact rfl)|with_reducible apply AndI.mk|with_reducible exact trivial|(try(first|apply eN|apply eI|apply eC);conv=>whnf);apply sD;(focus(try intro hc;have hc0:=hc;(try simp only[aA]at hc);try refine aE ?_);first|exact gx h1|exact gx h2|exact gx ha|exact gx h0|exact gB|exact aC)|(first|apply dG|apply kB);kernel_rfl|apply rR|apply rE|apply rH| (apply cD<;>intro hb<;>(try simp only[aA]at hb)<;>try exact aM))
  all_goals try exact false
  ·rw [if_pos (by simp_all)] at hr
   subst hr
   repeat' ((conv=>whnf);first|exact aI|with_reducible first|apply And.intro|apply oR|apply oN|apply dC)
   all_goals (conv=>whnf)
   simp only [Wy.row,List.map_nil]
   (first|refine aG ?_|refine aB ?_|skip)
   repeat' (first|exact bE|exact aO|with_reducible apply dC|with_reducible apply aB)
  ·rw [if_neg (by simp_all)] at hr
   refine aL (M:=fun t=>gF t [2,4,5000007]) hT hM (fun i:Nat => [(54,.int .i64 i),(4,.obj [.sl 0 1 (ns.map fun s => [.str s]),.str a,.int .i64 (if i=0 then 0 else n),.int .i64 (if i=2 then m else 0)])]) (fun i=>i≤2∧(1≤i→(o && !u)=true)∧(2≤i→(x && !y)=true)) (fun i=>2 - i) (0) ?_ ?_ ?_
   ·exact aV
   ·exact ⟨by omega,by omega,by omega⟩
   ·rintro i ⟨hi1,hi2,hi3⟩
    rcases Nat.lt_or_ge i 1 with hz|hz
    ·obtain rfl:i=0:=by omega
     repeat'((conv=>whnf);first|((with_reducible apply DrawI.at 28 cM);exact rfl;kernel_rfl)|with_reducible apply ExE.go|((with_reducible apply EqF.mk);exact rfl)|with_reducible apply AndI.mk|with_reducible exact trivial|(try(first|apply eN|apply eI|apply eC);conv=>whnf);apply sD;(focus(try intro hc;have hc0:=hc;(try simp only[aA]at hc);try refine aE ?_);first|(exact ⟨by omega,rfl⟩)|exact gx hb1|exact gx hO|exact gB|exact aC)|(first|apply dG|apply kB);kernel_rfl|apply rR|apply rE|apply rH| (apply cD<;>intro hb<;>(try simp only[aA]at hb)<;>try exact aM))
     all_goals try exact false
     ·rw [if_pos (by (first|(revert hb;cases o<;>cases u<;>decide)|(cases o<;>cases u<;>simp_all)))] at hr
      subst hr
      repeat' ((conv=>whnf);first|exact aI|with_reducible first|apply And.intro|apply oR|apply oN|apply dC)
      all_goals (conv=>whnf)
      simp only [Wy.row,List.map_nil]
      (first|refine aG ?_|refine aB ?_|skip)
      repeat' (first|exact bE|exact aO|with_reducible apply dC|with_reducible apply aB)
     ·refine ⟨1,⟨by omega,fun _=>by rw [(‹o=true∧u=false›:o=true∧u=false).1,(‹o=true∧u=false›:o=true∧u=false).2];rfl,by omega⟩,by omega,?_⟩
      exact aV
    ·have hou:=hi2 (by omega)
     rw [if_neg (by revert hou;cases o<;>cases u<;>decide)] at hr
     rcases Nat.lt_or_ge i 2 with hz2|hz2
     ·obtain rfl:i=1:=by omega
      repeat'((conv=>whnf);first|((with_reducible apply DrawI.at 28 cM);exact rfl;kernel_rfl)|with_reducible apply ExE.go|((with_reducible apply EqF.mk);exact rfl)|with_reducible apply AndI.mk|with_reducible exact trivial|(try(first|apply eN|apply eI|apply eC);conv=>whnf);apply sD;(focus(try intro hc;have hc0:=hc;(try simp only[aA]at hc);try refine aE ?_);first|(exact ⟨by omega,rfl⟩)|exact gx hb2|exact gx hO2|exact gB|exact aC)|(first|apply dG|apply kB);kernel_rfl|apply rR|apply rE|apply rH| (apply cD<;>intro hb<;>(try simp only[aA]at hb)<;>try exact aM))
      all_goals try exact false
      ·rw [if_neg (by (first|(revert hb;cases x<;>cases y<;>decide)|(cases x<;>cases y<;>simp_all)))] at hr
       subst hr
       repeat' ((conv=>whnf);first|exact aI|with_reducible first|apply And.intro|apply oR|apply oN|apply dC)
       all_goals (conv=>whnf)
       simp only [Wy.row,List.map_nil]
       (first|refine aG ?_|refine aB ?_|skip)
       repeat' (first|exact bE|exact aO|with_reducible apply dC|with_reducible apply aB)
      ·refine ⟨2,⟨by omega,fun _=>hou,fun _=>by rw [(‹x=true∧y=false›:x=true∧y=false).1,(‹x=true∧y=false›:x=true∧y=false).2];rfl⟩,by omega,?_⟩
       exact aV
     ·obtain rfl:i=2:=by omega
      rw [if_pos (hi3 (by omega))] at hr
      repeat'((conv=>whnf);first|((with_reducible apply DrawI.at 28 cM);exact rfl;kernel_rfl)|with_reducible apply ExE.go|((with_reducible apply EqF.mk);exact rfl)|with_reducible apply AndI.mk|with_reducible exact trivial|(try(first|apply eN|apply eI|apply eC);conv=>whnf);apply sD;(focus(try intro hc;have hc0:=hc;(try simp only[aA]at hc);try refine aE ?_);first|exact gB|exact aC)|(first|apply dG|apply kB);kernel_rfl|apply rR|apply rE|apply rH| (apply cD<;>intro hb<;>(try simp only[aA]at hb)<;>try exact aM))
      all_goals try exact false
      subst hr
      repeat' ((conv=>whnf);first|exact aI|with_reducible first|apply And.intro|apply oR|apply oN|apply dC)
      all_goals (conv=>whnf)
      simp only [Wy.row,List.map_nil]
      (first|refine aG ?_|refine aB ?_|skip)
      repeat' (first|exact bE|exact aO|with_reducible apply dC|with_reducible apply aB)
 ·replace hr:(((ns:List Str),([]:Str),(0:Int),(0:Int)),false)=r:=hr
  have ha:=h3 a (by simp)
  refine si [2,4,5000007] func53 ?_
  repeat'((conv=>whnf);first|((with_reducible apply DrawI.at 28 cM);exact rfl;kernel_rfl)|with_reducible apply ExE.go|((with_reducible apply EqF.mk);exact rfl)|with_reducible apply AndI.mk|with_reducible exact trivial|(try(first|apply eN|apply eI|apply eC);conv=>whnf);apply sD;(focus(try intro hc;have hc0:=hc;(try simp only[aA]at hc);try refine aE ?_);first|exact gx h1|exact gx h2|exact gx ha|exact gx h0|exact gB|exact aC)|(first|apply dG|apply kB);kernel_rfl|apply rR|apply rE|apply rH| (apply cD<;>intro hb<;>(try simp only[aA]at hb)<;>try exact aM))
  all_goals try exact false
  subst hr
  repeat' ((conv=>whnf);first|exact aI|with_reducible first|apply And.intro|apply oR|apply oN|apply dC)
  all_goals (conv=>whnf)
  simp only [Wy.row,List.map_nil]
  (first|refine aG ?_|refine aB ?_|skip)
  repeat' (first|exact bE|exact aO|with_reducible apply dC|with_reducible apply aB)
theorem zBA (p:Str) (i:Nat) (hp:p.length≤1000) (hi:Lib.lastIndexByte ⟨p.toArray⟩ 47=i) (hil:i < p.length) (hnb:mW (p.take i)=false):Sem Tryz.prog 53 [.str p] (.tup [.agg (Wy.row ([],[],0,0)),.bool false]):=by
 have h1:=iO p 47 (by omega)
 rw [show ((47:UInt8).toNat:Int)=47 from rfl,hi] at h1
 have h0:=iX (p.take i) (by simp;omega)
 rw [hnb] at h0
 generalize aF 47 (p.take i)=ns at h0
 refine si [2,4,5000007] func53 ?_
 repeat'((conv=>whnf);first|((with_reducible apply DrawI.at 28 cM);exact rfl;kernel_rfl)|with_reducible apply ExE.go|((with_reducible apply EqF.mk);exact rfl)|with_reducible apply AndI.mk|with_reducible exact trivial|(try(first|apply eN|apply eI|apply eC);conv=>whnf);apply sD;(focus(try intro hc;have hc0:=hc;(try simp only[aA]at hc);try refine aE ?_);first|exact gx h1|exact gx h0|exact gB|exact aC)|(first|apply dG|apply kB);kernel_rfl|apply rR|apply rE|apply rH| (apply cD<;>intro hb<;>(try simp only[aA]at hb)<;>try exact aM))
 all_goals try exact false
 repeat' ((conv=>whnf);first|exact aI|with_reducible first|apply And.intro|apply oR|apply oN|apply dC)
 all_goals (conv=>whnf)
 simp only [Wy.row,List.map_nil]
 (first|refine aG ?_|refine aB ?_|skip)
 repeat' (first|exact bE|exact aO|with_reducible apply dC|with_reducible apply aB)
end Go.Proofs.YtnjgoldinaffgaaGreatDoor
