
/- The program's functions on agents: what makes them valid. Printed by gen_neti.py. -/
import Derived.Test.YtjijpkphkicoeaaGreatShort
import Derived.Test.YtjijpkphkicoeaaGreatProg
import Derived.Test.YtjijpkphkicoeaaGreatAgents
import Derived.Test.YtjijpkphkicoeaaGreatValid
import Derived.Test.YtjijpkphkicoeaaGreatQDbg
import Derived.Test.YtjijpkphkicoeaaGreatSc
import Derived.BigGuardPart
import Derived.Outline
import Derived.Deep.CutBlock
import Derived.Test.YtjijpkphkicoeaaGreatVti
import Derived.Test.YtjijpkphkicoeaaGreatVV
import Derived.Test.YtjijpkphkicoeaaGreatNz
import Derived.Test.YtjijpkphkicoeaaGreatIo
import Derived.StillTailTactics
import Derived.BigRegion
set_option maxHeartbeats 4000000
set_option maxRecDepth 100000
set_option linter.unusedSimpArgs false
set_option linter.unusedVariables false
namespace Go.Proofs.YtjijpkphkicoeaaGreat
open Go Go.RowKit Go.Proofs Go.Tr
theorem vZ(n:Int)(w:World):Calls Tryz.prog 204 #[.int .i64 n] w fun e w'=>e=.returned (.bool (jV n))∧Ext w w':=by
 refine aT fun e=> ?_
 go_enter Tryz.func204,Tryz.ntmps204
 go_wp2
 all_goals go_ret
 all_goals refine⟨?_,_,rfl⟩
 all_goals first|(simp[jV,dX, *];done)|(simp[jV,dX, *];omega)|(simp_all [jV,dX];done)|(simp_all [jV,dX];omega)
theorem OX(n:Int)(w:World):Calls Tryz.prog 205 #[.int .i64 n] w fun e w'=>e=.returned (.bool (qz n))∧Ext w w':=by
 refine aT fun e=> ?_
 go_enter Tryz.func205,Tryz.ntmps205
 go_wp2
 all_goals go_ret
 all_goals refine⟨?_,_,rfl⟩
 all_goals first|(simp[qz,dX, *];done)|(simp[qz,dX, *];omega)|(simp_all [qz,dX];done)|(simp_all [qz,dX];omega)
theorem CV(n:Int)(w:World):Calls Tryz.prog 206 #[.int .i64 n] w fun e w'=>e=.returned (.bool (jQ n))∧Ext w w':=by
 refine aT fun e=> ?_
 go_enter Tryz.func206,Tryz.ntmps206
 go_wp2
 all_goals go_ret
 all_goals refine⟨?_,_,rfl⟩
 all_goals first|(simp[jQ,dX, *];done)|(simp[jQ,dX, *];omega)|(simp_all [jQ,dX];done)|(simp_all [jQ,dX];omega)
theorem BA(k f:Int)(w:World):Calls Tryz.prog 201 #[.int .i64 k,.int .i64 f] w fun e w'=>e=.returned (.int .i64 (dz k f))∧Ext w w':=by
 refine aT fun e=> ?_
 have C1:Hid (QC Tryz.prog w _ _ _):=fun W hW=>(LC k W).q
 cases hk:kg k
 case false=>
  rw[hk]at C1;have hn:=Ri hk;have h9:(k==9)=false:=by simp;omega
  go_enter Tryz.func201,Tryz.ntmps201
  go_wp2_with (first|(go_at_call 187;with_reducible refine(C1.out.at_ _).mono ?_;rintro _ _ ⟨rfl,e,rfl⟩))
  repeat (refine ay _ (by kernel_rfl) (by kernel_rfl) ?_;(repeat (go_big_quiet_step ((first|with_reducible exact C1.out.at_ _))));refine wpQuiet_nil ?_;intro e;go_wp2_with (first|(go_at_call 187;with_reducible refine(C1.out.at_ _).mono ?_;rintro _ _ ⟨rfl,e,rfl⟩)))
  all_goals go_ret
  all_goals refine⟨?_,_,rfl⟩
  all_goals simp[dz]
  all_goals (repeat rw[if_neg (by omega)])
  all_goals (try split)
  all_goals (try rfl)
  all_goals (try omega)
 rw[hk]at C1;have ix1:∀W:World,(Instr.index 209 (.agg #[.int .i64 0,.int .i64 1,.int .i64 3,.int .i64 3,.int .i64 3,.int .i64 1,.int .i64 1,.int .i64 3,.int .i64 2,.int .i64 0,.int .i64 2,.int .i64 2,.int .i64 1]) (.int .i64 1)).run Tryz.prog W=.ok (.int .i64 1) W:=fun _=>by kernel_rfl
 have ix2:∀W:World,(Instr.index 209 (.agg #[.int .i64 0,.int .i64 1,.int .i64 3,.int .i64 3,.int .i64 3,.int .i64 1,.int .i64 1,.int .i64 3,.int .i64 2,.int .i64 0,.int .i64 2,.int .i64 2,.int .i64 1]) (.int .i64 2)).run Tryz.prog W=.ok (.int .i64 3) W:=fun _=>by kernel_rfl
 have ix3:∀W:World,(Instr.index 209 (.agg #[.int .i64 0,.int .i64 1,.int .i64 3,.int .i64 3,.int .i64 3,.int .i64 1,.int .i64 1,.int .i64 3,.int .i64 2,.int .i64 0,.int .i64 2,.int .i64 2,.int .i64 1]) (.int .i64 3)).run Tryz.prog W=.ok (.int .i64 3) W:=fun _=>by kernel_rfl
 have ix4:∀W:World,(Instr.index 209 (.agg #[.int .i64 0,.int .i64 1,.int .i64 3,.int .i64 3,.int .i64 3,.int .i64 1,.int .i64 1,.int .i64 3,.int .i64 2,.int .i64 0,.int .i64 2,.int .i64 2,.int .i64 1]) (.int .i64 4)).run Tryz.prog W=.ok (.int .i64 3) W:=fun _=>by kernel_rfl
 have ix5:∀W:World,(Instr.index 209 (.agg #[.int .i64 0,.int .i64 1,.int .i64 3,.int .i64 3,.int .i64 3,.int .i64 1,.int .i64 1,.int .i64 3,.int .i64 2,.int .i64 0,.int .i64 2,.int .i64 2,.int .i64 1]) (.int .i64 5)).run Tryz.prog W=.ok (.int .i64 1) W:=fun _=>by kernel_rfl
 have ix6:∀W:World,(Instr.index 209 (.agg #[.int .i64 0,.int .i64 1,.int .i64 3,.int .i64 3,.int .i64 3,.int .i64 1,.int .i64 1,.int .i64 3,.int .i64 2,.int .i64 0,.int .i64 2,.int .i64 2,.int .i64 1]) (.int .i64 6)).run Tryz.prog W=.ok (.int .i64 1) W:=fun _=>by kernel_rfl
 have ix7:∀W:World,(Instr.index 209 (.agg #[.int .i64 0,.int .i64 1,.int .i64 3,.int .i64 3,.int .i64 3,.int .i64 1,.int .i64 1,.int .i64 3,.int .i64 2,.int .i64 0,.int .i64 2,.int .i64 2,.int .i64 1]) (.int .i64 7)).run Tryz.prog W=.ok (.int .i64 3) W:=fun _=>by kernel_rfl
 have ix8:∀W:World,(Instr.index 209 (.agg #[.int .i64 0,.int .i64 1,.int .i64 3,.int .i64 3,.int .i64 3,.int .i64 1,.int .i64 1,.int .i64 3,.int .i64 2,.int .i64 0,.int .i64 2,.int .i64 2,.int .i64 1]) (.int .i64 8)).run Tryz.prog W=.ok (.int .i64 2) W:=fun _=>by kernel_rfl
 have ix9:∀W:World,(Instr.index 209 (.agg #[.int .i64 0,.int .i64 1,.int .i64 3,.int .i64 3,.int .i64 3,.int .i64 1,.int .i64 1,.int .i64 3,.int .i64 2,.int .i64 0,.int .i64 2,.int .i64 2,.int .i64 1]) (.int .i64 9)).run Tryz.prog W=.ok (.int .i64 0) W:=fun _=>by kernel_rfl
 have ix10:∀W:World,(Instr.index 209 (.agg #[.int .i64 0,.int .i64 1,.int .i64 3,.int .i64 3,.int .i64 3,.int .i64 1,.int .i64 1,.int .i64 3,.int .i64 2,.int .i64 0,.int .i64 2,.int .i64 2,.int .i64 1]) (.int .i64 10)).run Tryz.prog W=.ok (.int .i64 2) W:=fun _=>by kernel_rfl
 have ix11:∀W:World,(Instr.index 209 (.agg #[.int .i64 0,.int .i64 1,.int .i64 3,.int .i64 3,.int .i64 3,.int .i64 1,.int .i64 1,.int .i64 3,.int .i64 2,.int .i64 0,.int .i64 2,.int .i64 2,.int .i64 1]) (.int .i64 11)).run Tryz.prog W=.ok (.int .i64 2) W:=fun _=>by kernel_rfl
 have ix12:∀W:World,(Instr.index 209 (.agg #[.int .i64 0,.int .i64 1,.int .i64 3,.int .i64 3,.int .i64 3,.int .i64 1,.int .i64 1,.int .i64 3,.int .i64 2,.int .i64 0,.int .i64 2,.int .i64 2,.int .i64 1]) (.int .i64 12)).run Tryz.prog W=.ok (.int .i64 1) W:=fun _=>by kernel_rfl
 rcases CY hk with rfl|rfl|rfl|rfl|rfl|rfl|rfl|rfl|rfl|rfl|rfl|rfl
 all_goals clear hk
 all_goals
  go_enter Tryz.func201,Tryz.ntmps201
  go_wp2_with (first|(go_at_call 187;with_reducible refine(C1.out.at_ _).mono ?_;rintro _ _ ⟨rfl,e,rfl⟩))
  repeat (refine ay _ (by kernel_rfl) (by kernel_rfl) ?_;(repeat (go_big_quiet_step ((first|with_reducible exact C1.out.at_ _))));refine wpQuiet_nil ?_;intro e;go_wp2_with (first|(go_at_call 187;with_reducible refine(C1.out.at_ _).mono ?_;rintro _ _ ⟨rfl,e,rfl⟩)))
  all_goals go_ret
  all_goals refine⟨?_,_,rfl⟩
  all_goals first|(simp[dz,dX, *];done)|(simp[dz,dX, *];omega)|(simp_all [dz,dX];done)|(simp_all [dz,dX];omega)
theorem Hf(k p:Int)(w:World)(h1:0≤p)(h2:p≤9223372036854775807):Calls Tryz.prog 202 #[.int .i64 k,.int .i64 p] w fun e w'=>e=.returned (.int .i64 (eP k p))∧Ext w w':=by
 refine aT fun e=> ?_
 go_enter Tryz.func202,Tryz.ntmps202
 cases d1:(k==9)
 case true=>
  have E:Hid (eP k p=p-1):=by show _=_;simp[eP,d1]
  go_wp2_with fail
  repeat (refine ay _ (by kernel_rfl) (by kernel_rfl) ?_;(repeat (go_big_quiet_step (fail)));refine wpQuiet_nil ?_;intro e;go_wp2_with fail)
  go_ret;exact⟨by rw[E.out];rfl,_,rfl⟩
 have E:Hid (eP k p=0):=by show _=_;simp[eP,d1]
 go_wp2_with fail
 repeat (refine ay _ (by kernel_rfl) (by kernel_rfl) ?_;(repeat (go_big_quiet_step (fail)));refine wpQuiet_nil ?_;intro e;go_wp2_with fail)
 go_ret;exact⟨by rw[E.out];rfl,_,rfl⟩
theorem BJ(d:Int)(w:World):Calls Tryz.prog 203 #[.int .i64 d] w fun e w'=>e=.returned (.bool (!jV d))∧Ext w w':=by
 refine aT fun e=> ?_
 have C1:Hid (QC Tryz.prog w _ _ _):=fun W hW=>vZ d W
 go_enter Tryz.func203,Tryz.ntmps203
 go_wp2_with (first|(go_at_call 204;with_reducible refine(C1.out.at_ _).mono ?_;rintro _ _ ⟨rfl,e,rfl⟩))
 repeat (refine ay _ (by kernel_rfl) (by kernel_rfl) ?_;(repeat (go_big_quiet_step ((first|with_reducible exact C1.out.at_ _))));refine wpQuiet_nil ?_;intro e;go_wp2_with (first|(go_at_call 204;with_reducible refine(C1.out.at_ _).mono ?_;rintro _ _ ⟨rfl,e,rfl⟩)))
 go_ret;exact⟨rfl,_,rfl⟩
theorem EW(xs:List Int)(n:Nat){A:Option Addr}{c:Nat}{bs:List Nat}(w:World)(hx:T1 w (.sl n (xs.flatMap bM)) bs (.slice A n c))(Hl:Hid (xs.length=n)):Calls Tryz.prog 185 #[.slice A n c,.func (.func 203) #[] #[]] w fun e w'=>e=.returned (.int .i64 (idxOf n (fun k=> !jV (dZ xs k))))∧Ext w w':=by
 refine aT fun e=> ?_
 have hn:=hx.xI
 go_enter Tryz.func185,Tryz.ntmps185
 go_wp2_with fail
 repeat (refine ay _ (by kernel_rfl) (by kernel_rfl) ?_;(repeat (go_big_quiet_step (fail)));refine wpQuiet_nil ?_;intro e;go_wp2_with fail)
 go_loopw [5,8] (fun _ i w'=>∃k:Nat,k≤n∧i=.int .i64 k∧Hid (eu k (fun k=> !!jV (dZ xs k))=true)∧∃e:bf w,w'=e.to) (fun _ i _=>n-(intOf i).toNat)
 case atStart=>exact⟨0,Nat.zero_le _,rfl,nI _,_,rfl⟩
 case round=>
  obtain⟨k,hk,rfl,hf,e,rfl⟩:=hrel
  by_cases hlt:k<n
  ·skip
   obtain⟨b,off,x,bs',rfl,hxk,hp⟩:=T1.elem (s:=1) (fun _=>rfl) hx Hl hlt;have kx:=Ib hp;rw[Nat.mul_one]at kx;have EP:Hid ((!jV (dZ xs k))= !jV x):=by show _=_;rw[CU hxk]
   have C1:Hid (QC Tryz.prog w _ _ _):=fun W hW=>BJ x W
   cases d1:(!jV x)
   case true=>
    (try rw[d1]at C1)
    have E:Hid (idxOf n (fun k=> !jV (dZ xs k))=(k:Int)):=by show _=_;exact zw hf hlt (by rw[EP.out];exact d1)
    go_wp2_with (first|(go_at_call 203;with_reducible refine(C1.out.at_ _).mono ?_;rintro _ _ ⟨rfl,e,rfl⟩))
    repeat (refine ay _ (by kernel_rfl) (by kernel_rfl) ?_;(repeat (go_big_quiet_step ((first|with_reducible exact C1.out.at_ _))));refine wpQuiet_nil ?_;intro e;go_wp2_with (first|(go_at_call 203;with_reducible refine(C1.out.at_ _).mono ?_;rintro _ _ ⟨rfl,e,rfl⟩)))
    go_ret;exact⟨by rw[E.out];rfl,_,rfl⟩
   (try rw[d1]at C1)
   have E:Hid ((!!jV (dZ xs k))=true):=by show _=_;rw[EP.out,d1];rfl
   go_wp2_with (first|(go_at_call 203;with_reducible refine(C1.out.at_ _).mono ?_;rintro _ _ ⟨rfl,e,rfl⟩))
   repeat (refine ay _ (by kernel_rfl) (by kernel_rfl) ?_;(repeat (go_big_quiet_step ((first|with_reducible exact C1.out.at_ _))));refine wpQuiet_nil ?_;intro e;go_wp2_with (first|(go_at_call 203;with_reducible refine(C1.out.at_ _).mono ?_;rintro _ _ ⟨rfl,e,rfl⟩)))
   exact⟨⟨k+1,by omega,by go_num,gT hf E.out,_,rfl⟩,by simp[intOf];omega⟩
  ·have:n=k:=by omega
   subst this;have E:Hid (idxOf n (fun k=> !jV (dZ xs k))= -1):=by show _=_;exact qy hf
   go_wp2_with fail
   repeat (refine ay _ (by kernel_rfl) (by kernel_rfl) ?_;(repeat (go_big_quiet_step (fail)));refine wpQuiet_nil ?_;intro e;go_wp2_with fail)
   go_ret;exact⟨by rw[E.out];rfl,_,rfl⟩
theorem Ac(xs:List Int)(n:Nat){A:Option Addr}{c:Nat}{bs:List Nat}(w:World)(hx:T1 w (.sl n (xs.flatMap bM)) bs (.slice A n c))(Hl:Hid (xs.length=n)):Calls Tryz.prog 154 #[.slice A n c,.func (.func 203) #[] #[]] w fun e w'=>e=.returned (.bool (ou n (fun k=> !jV (dZ xs k))))∧Ext w w':=by
 refine aT fun e=> ?_
 have C1:Hid (QC Tryz.prog w _ _ _):=fun W hW=>EW xs n W (hx.below hW) Hl
 have hc:=zx n (fun k=> !jV (dZ xs k))
 go_enter Tryz.func154,Tryz.ntmps154
 go_wp2_with (first|(go_at_call 185;with_reducible refine(C1.out.at_ _).mono ?_;rintro _ _ ⟨rfl,e,rfl⟩))
 repeat (refine ay _ (by kernel_rfl) (by kernel_rfl) ?_;(repeat (go_big_quiet_step ((first|with_reducible exact C1.out.at_ _))));refine wpQuiet_nil ?_;intro e;go_wp2_with (first|(go_at_call 185;with_reducible refine(C1.out.at_ _).mono ?_;rintro _ _ ⟨rfl,e,rfl⟩)))
 go_ret;exact⟨by rw[←hc];rfl,_,rfl⟩
end Go.Proofs.YtjijpkphkicoeaaGreat
namespace Go.Tr
open Go Go.RowKit
def nA(a:aB):aj:=(a.kind,a.level,a.value,a.data,a.aJ.map fun p=>(p.agent,p.slot))
theorem Nr(a:aB):gA (nA a)=a:=by
 cases a with
 |mk k l v d ps=>
  unfold gA nA;simp only[List.map_map]
  congr 1
  exact(List.map_congr_left fun p _=>rfl).trans (List.map_id ps)
theorem RA(x:aB):enc aD (nA x)=x.enc:=by rw[←QW,Nr]
def oF(k v:Int)(d:List Int):Bool:=
 if k==6 then((d.length:Int)==0)&&qz v
 else if k==7 then((d.length:Int)==0)&&jQ v
 else if k==8 then((d.length:Int)==1)&&jQ v&&qz (dZ d 0)
 else if k==9 then((d.length:Int)==0)&&dX v 0 3
 else if k==12 then((d.length:Int)==0)&&jV v
 else if k==10 then v==0&&dX d.length 1 4&&kN d
 else if k==11 then v==0&&((d.length:Int)==2)&&kN d
 else v==0&&((d.length:Int)==0)
theorem M0(a:aj):gy (gA a)=oF a.1 a.2.2.1 a.2.2.2.1:=rfl
end Go.Tr
namespace Go.Proofs.YtjijpkphkicoeaaGreat
open Go Go.RowKit Go.Proofs Go.Tr
theorem WU(n:Int):aO Tryz.prog 208 [.int .i64 n] (.bool (jV n)):=by
 refine aO.intro (nt:=5) aH mixed (by kernel_rfl) Tryz.func208 rfl rfl rfl rfl rfl ?_;refine Or.inl (eI _ (aI (H8 n 0 23) ?_));exact rfl
theorem QA(a:aj):aO Tryz.prog 196 [.rp aD a] (.bool (gy (gA a))):=by
 refine aO.intro (nt:=162) aH mixed (by kernel_rfl) Tryz.func196 rfl rfl rfl rfl rfl ?_;rw[M0];generalize hk:a.1=k at*;have ek:∀{c:Int} {b:Bool},(a.1==c)=b→(k==c)=b:=fun h=>by rw[←hk];exact h
 refine aI (fun q1=> ?_) (fun q1=> ?_)
 ·refine Or.inl (eI _ (aI (fun _=>H8 a.2.2.1 (-2147483648) 2147483647) ?_));refine Eq.trans (Eq.refl _) ?_;unfold oF;rw[ek q1];show(bif ((a.2.2.2.1.length:Int)==0)then dX a.2.2.1 (-2147483648) 2147483647 else false)=(((a.2.2.2.1.length:Int)==0)&&qz a.2.2.1);cases ((a.2.2.2.1.length:Int)==0)<;>rfl
 refine aI (fun q2=> ?_) (fun q2=> ?_)
 ·refine Or.inl (eI _ (aI (fun _=>H8 a.2.2.1 1 6) ?_));refine Eq.trans (Eq.refl _) ?_;unfold oF;rw[ek q1,ek q2];show(bif ((a.2.2.2.1.length:Int)==0)then dX a.2.2.1 1 6 else false)=(((a.2.2.2.1.length:Int)==0)&&jQ a.2.2.1);cases ((a.2.2.2.1.length:Int)==0)<;>rfl
 refine aI (fun q3=> ?_) (fun q3=> ?_)
 ·refine Or.inl (eI _ (aI (fun _=>H8 a.2.2.1 1 6) ?_));refine aI (fun g=> ?_) ?_
  ·have g2:(bif ((a.2.2.2.1.length:Int)==1)then dX a.2.2.1 1 6 else false)=true:=g;cases hl:((a.2.2.2.1.length:Int)==1)with
   |false=>rw[hl]at g2;cases g2
   |true=>
    have hl2:(a.2.2.2.1.length:Int)=1:=by simpa using hl
    show(0:Int)≤0∧(0:Int)<(a.2.2.2.1.length:Nat);omega
  refine Or.inl (eI _ (aI (fun _=>H8 _ (-2147483648) 2147483647) ?_));refine Eq.trans (Eq.refl _) ?_;unfold oF;rw[ek q1,ek q2,ek q3];show(bif (bif ((a.2.2.2.1.length:Int)==1)then dX a.2.2.1 1 6 else false)then dX (dZ a.2.2.2.1 0) (-2147483648) 2147483647 else false)=(((a.2.2.2.1.length:Int)==1)&&jQ a.2.2.1&&qz (dZ a.2.2.2.1 0));unfold jQ qz;cases ((a.2.2.2.1.length:Int)==1)<;>cases dX a.2.2.1 1 6<;>rfl
 refine aI (fun q4=> ?_) (fun q4=> ?_)
 ·refine Or.inl (eI _ (aI (fun _=>H8 a.2.2.1 0 3) ?_));refine Eq.trans (Eq.refl _) ?_;unfold oF;rw[ek q1,ek q2,ek q3,ek q4];show(bif ((a.2.2.2.1.length:Int)==0)then dX a.2.2.1 0 3 else false)=(((a.2.2.2.1.length:Int)==0)&&dX a.2.2.1 0 3);cases ((a.2.2.2.1.length:Int)==0)<;>rfl
 refine aI (fun q5=> ?_) (fun q5=> ?_)
 ·refine Or.inl (eI _ (aI (fun _=>WU a.2.2.1) ?_));refine Eq.trans (Eq.refl _) ?_;unfold oF;rw[ek q1,ek q2,ek q3,ek q4,ek q5];show(bif ((a.2.2.2.1.length:Int)==0)then jV a.2.2.1 else false)=(((a.2.2.2.1.length:Int)==0)&&jV a.2.2.1);cases ((a.2.2.2.1.length:Int)==0)<;>rfl
 refine aI (fun q6=> ?_) (fun q6=> ?_)
 ·refine aI (fun _=> ?_) (fun p=>absurd (q6.symm.trans p) (by decide));refine Or.inl (eI _ (aI (fun _=>H8 a.2.2.2.1.length 1 4) ?_))
  have q7:(k==11)=false:=by
   have:k=10:=by have:=ek q6;simpa using this
   rw[this];rfl
  have q7':(a.1==11)=false:=by rw[hk];exact q7
  have ec:oF k a.2.2.1 a.2.2.2.1=(a.2.2.1==0&&dX a.2.2.2.1.length 1 4&&kN a.2.2.2.1):=by
   unfold oF;rw[ek q1,ek q2,ek q3,ek q4,ek q5,ek q6];rfl
  have q6':(a.1==10)=true:=q6;refine aI (fun q8=> ?_) (fun q8=> ?_)
  ·refine Eq.trans (Eq.refl _) ?_;rw[ec];have q9:(bif (bif (a.2.2.1 !=0)then true else bif (a.1==11)then((a.2.2.2.1.length:Int) !=2)else false)then true else bif (a.1==10)then !(dX a.2.2.2.1.length 1 4)else false)=true:=q8;rw[q7',q6',show(a.2.2.1 !=0)= !(a.2.2.1==0) from rfl]at q9;revert q9;cases (a.2.2.1==0)<;>cases dX a.2.2.2.1.length 1 4<;>simp
  have et:(true:Bool)=(a.2.2.1==0&&dX a.2.2.2.1.length 1 4):=by
   have q9:(bif (bif (a.2.2.1 !=0)then true else bif (a.1==11)then((a.2.2.2.1.length:Int) !=2)else false)then true else bif (a.1==10)then !(dX a.2.2.2.1.length 1 4)else false)=false:=q8;rw[q7',q6',show(a.2.2.1 !=0)= !(a.2.2.1==0) from rfl]at q9;revert q9;cases (a.2.2.1==0)<;>cases dX a.2.2.2.1.length 1 4<;>simp
  have hlen:a.2.2.2.1.length≤4:=by
   have h1:dX a.2.2.2.1.length 1 4=true:=by
    revert et;cases (a.2.2.1==0)<;>cases dX a.2.2.2.1.length 1 4<;>simp
   have:=iU h1;omega
  refine lp Nat (fun i=>[(3,.int .i64 (i:Nat))]) (fun _=>[]) (fun i=>a.2.2.2.1.length-i) (fun i=>i≤a.2.2.2.1.length∧eu i (fun k=>jV (dZ a.2.2.2.1 k))=true) 0 ⟨Nat.zero_le _,rfl⟩ ?_ ?_
  ·exact hd [] rfl (aI (aI rfl rfl) trivial) trivial
  rintro i ⟨hi,ha⟩;refine aI (fun p1=> ?_) (fun p1=> ?_)
  ·have hlt:i<a.2.2.2.1.length:=by
    have p2:decide (((i:Nat):Int)<(a.2.2.2.1.length:Nat))=true:=p1;simp only[qQ]at p2;omega
   refine aI (show 0≤((i:Nat):Int)∧((i:Nat):Int)<(a.2.2.2.1.length:Nat) by omega) ?_;refine Or.inl (eI _ (aI (WU _) ?_));refine aI (fun p2=> ?_) (fun p2=> ?_)
   ·have p3:jV (dZ a.2.2.2.1 i)=false:=by
     have p4:(!jV (dZ a.2.2.2.1 i))=true:=p2;simpa using p4
    refine Eq.trans (Eq.refl _) ?_;rw[ec,show kN a.2.2.2.1=false from iW hlt p3,Bool.and_false]
   ·have p3:jV (dZ a.2.2.2.1 i)=true:=by
     have p4:(!jV (dZ a.2.2.2.1 i))=false:=p2;simpa using p4
    refine aP (i+1) ⟨hlt,by rw[Ba];simp only[ha,p3,Bool.and_true]⟩ ?_ ?_
    ·exact hd [] rfl (aI (aI (dB (by omega)) rfl) trivial) trivial
    ·show a.2.2.2.1.length-(i+1)<a.2.2.2.1.length-i;omega
  ·have hge:a.2.2.2.1.length≤i:=by
    have p2:decide (((i:Nat):Int)<(a.2.2.2.1.length:Nat))=false:=p1;simp only[decide_eq_false_iff_not]at p2;omega
   have hie:i=a.2.2.2.1.length:=by omega
   subst hie;refine Eq.trans (Eq.refl _) ?_;rw[ec,show kN a.2.2.2.1=true from ha,Bool.and_true];exact et
 refine aI (fun q7=> ?_) (fun q7=> ?_)
 ·refine Or.inl (eI _ (aI (fun _=>H8 a.2.2.2.1.length 1 4) ?_))
  have ec:oF k a.2.2.1 a.2.2.2.1=(a.2.2.1==0&&((a.2.2.2.1.length:Int)==2)&&kN a.2.2.2.1):=by
   unfold oF;rw[ek q1,ek q2,ek q3,ek q4,ek q5,ek q6,ek q7];rfl
  have q6':(a.1==10)=false:=q6;have q7':(a.1==11)=true:=q7;refine aI (fun q8=> ?_) (fun q8=> ?_)
  ·refine Eq.trans (Eq.refl _) ?_;rw[ec];have q9:(bif (bif (a.2.2.1 !=0)then true else bif (a.1==11)then((a.2.2.2.1.length:Int) !=2)else false)then true else bif (a.1==10)then !(dX a.2.2.2.1.length 1 4)else false)=true:=q8;rw[q7',q6',show(a.2.2.1 !=0)= !(a.2.2.1==0) from rfl,show((a.2.2.2.1.length:Int) !=2)= !((a.2.2.2.1.length:Int)==2) from rfl]at q9;revert q9;cases (a.2.2.1==0)<;>cases ((a.2.2.2.1.length:Int)==2)<;>simp
  have et:(true:Bool)=(a.2.2.1==0&&((a.2.2.2.1.length:Int)==2)):=by
   have q9:(bif (bif (a.2.2.1 !=0)then true else bif (a.1==11)then((a.2.2.2.1.length:Int) !=2)else false)then true else bif (a.1==10)then !(dX a.2.2.2.1.length 1 4)else false)=false:=q8;rw[q7',q6',show(a.2.2.1 !=0)= !(a.2.2.1==0) from rfl,show((a.2.2.2.1.length:Int) !=2)= !((a.2.2.2.1.length:Int)==2) from rfl]at q9;revert q9;cases (a.2.2.1==0)<;>cases ((a.2.2.2.1.length:Int)==2)<;>simp
  have hlen:a.2.2.2.1.length≤4:=by
   have h1:((a.2.2.2.1.length:Int)==2)=true:=by
    revert et;cases (a.2.2.1==0)<;>cases ((a.2.2.2.1.length:Int)==2)<;>simp
   have h2:(a.2.2.2.1.length:Int)=2:=by simpa using h1
   omega
  refine lp Nat (fun i=>[(3,.int .i64 (i:Nat))]) (fun _=>[]) (fun i=>a.2.2.2.1.length-i) (fun i=>i≤a.2.2.2.1.length∧eu i (fun k=>jV (dZ a.2.2.2.1 k))=true) 0 ⟨Nat.zero_le _,rfl⟩ ?_ ?_
  ·exact hd [] rfl (aI (aI rfl rfl) trivial) trivial
  rintro i ⟨hi,ha⟩;refine aI (fun p1=> ?_) (fun p1=> ?_)
  ·have hlt:i<a.2.2.2.1.length:=by
    have p2:decide (((i:Nat):Int)<(a.2.2.2.1.length:Nat))=true:=p1;simp only[qQ]at p2;omega
   refine aI (show 0≤((i:Nat):Int)∧((i:Nat):Int)<(a.2.2.2.1.length:Nat) by omega) ?_;refine Or.inl (eI _ (aI (WU _) ?_));refine aI (fun p2=> ?_) (fun p2=> ?_)
   ·have p3:jV (dZ a.2.2.2.1 i)=false:=by
     have p4:(!jV (dZ a.2.2.2.1 i))=true:=p2;simpa using p4
    refine Eq.trans (Eq.refl _) ?_;rw[ec,show kN a.2.2.2.1=false from iW hlt p3,Bool.and_false]
   ·have p3:jV (dZ a.2.2.2.1 i)=true:=by
     have p4:(!jV (dZ a.2.2.2.1 i))=false:=p2;simpa using p4
    refine aP (i+1) ⟨hlt,by rw[Ba];simp only[ha,p3,Bool.and_true]⟩ ?_ ?_
    ·exact hd [] rfl (aI (aI (dB (by omega)) rfl) trivial) trivial
    ·show a.2.2.2.1.length-(i+1)<a.2.2.2.1.length-i;omega
  ·have hge:a.2.2.2.1.length≤i:=by
    have p2:decide (((i:Nat):Int)<(a.2.2.2.1.length:Nat))=false:=p1;simp only[decide_eq_false_iff_not]at p2;omega
   have hie:i=a.2.2.2.1.length:=by omega
   subst hie;refine Eq.trans (Eq.refl _) ?_;rw[ec,show kN a.2.2.2.1=true from ha,Bool.and_true];exact et
 ·refine Eq.trans (Eq.refl _) ?_;unfold oF;rw[ek q1,ek q2,ek q3,ek q4,ek q5,ek q6,ek q7];show(bif (a.2.2.1==0)then((a.2.2.2.1.length:Int)==0)else false)=(a.2.2.1==0&&((a.2.2.2.1.length:Int)==0));cases (a.2.2.1==0)<;>rfl
theorem C8(x:aB)(b o:Nat)(bs:List Nat)(w:World)(h:fU w b o x.enc bs):Calls Tryz.prog 196 #[.pointer (some ⟨b,o,none⟩)] w fun e w'=>e=.returned (.bool (gy x))∧Ext w w':=by
 have q:=aO.TV (u:=aD) (x:=nA x) (QA (nA x)) (fun _ _ _ h=>QE h) (w:=w) (b:=b) (o:=o) (bs:=bs) (by rw[RA];exact h);rw[Nr]at q;exact q
theorem prtI(k f:Int):aO Tryz.prog 201 [.int .i64 k,.int .i64 f] (.int .i64 (dz k f)):=aO.JV (l:=[k,f]) (by kernel_rfl) (BA k f) fun _ _=>M7 _
theorem VN(n:Int):aO Tryz.prog 205 [.int .i64 n] (.bool (qz n)):=aO.JV (l:=[n]) (by kernel_rfl) (OX n) fun _ _=>y9 _
theorem YV(n:Int):aO Tryz.prog 206 [.int .i64 n] (.bool (jQ n)):=aO.JV (l:=[n]) (by kernel_rfl) (CV n) fun _ _=>y9 _
theorem YC(n:Int):aO Tryz.prog 204 [.int .i64 n] (.bool (jV n)):=aO.JV (l:=[n]) (by kernel_rfl) (vZ n) fun _ _=>y9 _
theorem fldI(k:Int)(n:Nat)(h:n≤9223372036854775807):aO Tryz.prog 202 [.int .i64 k,.int .i64 (n:Int)] (.int .i64 (eP k n)):=aO.JV (l:=[k,(n:Int)]) (by kernel_rfl) (fun w=>Hf k n w (by omega) (by omega)) fun _ _=>M7 _
theorem ctnI(xs:List Int):aO Tryz.prog 154 [.rsl (.int .i64) xs,.fn 203 []] (.bool (!kN xs)):=by
 refine⟨(by kernel_rfl),fun cx β w fr vs hI hd=> ?_⟩;unfold aN at hd;obtain⟨v1,vs1,rfl,hd1,hd⟩:=hd;unfold aN at hd;obtain⟨v2,vs2,rfl,hd2,hd⟩:=hd;unfold aN at hd;subst hd;unfold Den at hd1 hd2;obtain⟨us,rfl,hd2⟩:=hd2;unfold aN at hd2;subst hd2;obtain⟨A,c,rfl⟩:=hd1.slice;obtain⟨bs,ht⟩:=hd1.now hI;refine Calls.mono (Ac xs xs.length w (by rw[←vV];exact ht) rfl) ?_;rintro e w' ⟨rfl,hx⟩;refine⟨_,rfl,?_,hI.ext hx⟩;unfold Den;unfold ou kN;simp only[Bool.not_not]
theorem ZB(a:aj)(hp:a.2.2.2.2.length≤9223372036854775807):aO Tryz.prog 183 [.agg [.int .i64 a.1,.int .i64 a.2.1,.int .i64 a.2.2.1,.rsl (.int .i64) a.2.2.2.1,.rsl aM a.2.2.2.2]] (.bool (dQ (gA a))):=by
 refine aO.intro (nt:=117) aH mixed (by kernel_rfl) Tryz.func183 rfl rfl rfl rfl rfl ?_
 have hag:dQ (gA a)=(decide (0<dz a.1 (eP a.1 a.2.2.2.2.length))&&(a.2.2.2.2.length:Int)==dz a.1 (eP a.1 a.2.2.2.2.length)&&cO a.1 a.2.1&&oF a.1 a.2.2.1 a.2.2.2.1):=by
  rw[←M0];unfold dQ fieldsOf;have e:(gA a).aJ.length=a.2.2.2.2.length:=qV _;rw[e];rfl
 rw[hag];refine Or.inl (eI _ (aI (fun _=>fldI a.1 a.2.2.2.2.length hp) ?_));refine Or.inl (eI _ (aI (fun _=>prtI a.1 (eP a.1 a.2.2.2.2.length)) ?_));refine Or.inl (eI _ (aI (fun _=>GN a.1 a.2.1) ?_));refine aI (by kernel_rfl) ?_
 have qc:∀{b:Bool},(bif (bif ((a.2.2.2.2.length:Int)==0)then true else(dz a.1 (eP a.1 a.2.2.2.2.length) !=(a.2.2.2.2.length:Int)))then true else !(cO a.1 a.2.1))=b→(decide (0<dz a.1 (eP a.1 a.2.2.2.2.length))&&(a.2.2.2.2.length:Int)==dz a.1 (eP a.1 a.2.2.2.2.length)&&cO a.1 a.2.1)= !b:=fun {b} h=>by
  generalize dz a.1 (eP a.1 a.2.2.2.2.length)=p at*;subst h;cases cO a.1 a.2.1
  ·simp
  ·by_cases h0:(a.2.2.2.2.length:Int)=0
   ·rw[h0]
    by_cases hp0:p=0
    ·subst hp0;rfl
    ·simp;omega
   ·rw[show((a.2.2.2.2.length:Int)==0)=false by simpa using h0]
    by_cases hpe:p=(a.2.2.2.2.length:Int)
    ·subst hpe;simp;omega
    ·simp only[qH];rw[show(p !=(a.2.2.2.2.length:Int))=true by simpa using hpe,show((a.2.2.2.2.length:Int)==p)=false by simp;omega];simp
 refine aI (fun q1=> ?_) (fun q1=> ?_)
 ·refine Eq.trans (Eq.refl _) ?_;rw[qc q1];rfl
 have hq:=qc q1;rw[hq];refine aI (by kernel_rfl) ?_;refine Or.inl (eI _ (aI (ctnI _) ?_));have cfin:∀{t u:Bool},(t&&u)=oF a.1 a.2.2.1 a.2.2.2.1→(bif t then u else false)=(!false&&oF a.1 a.2.2.1 a.2.2.2.1):=fun {t u} h=>by rw[←h];cases t<;>rfl
 unfold oF at cfin;refine aI (fun k1=> ?_) (fun k1=> ?_)
 ·refine Or.inl (eI _ (aI (VN _) ?_));refine Eq.trans (Eq.refl _) ?_;refine cfin ?_;rw[show(a.1==6)=true from k1,Bool.and_comm];rfl
 refine aI (fun k2=> ?_) (fun k2=> ?_)
 ·refine Or.inl (eI _ (aI (YV _) ?_));refine Eq.trans (Eq.refl _) ?_;refine cfin ?_;rw[show(a.1==6)=false from k1,show(a.1==7)=true from k2,Bool.and_comm];rfl
 refine aI (fun k3=> ?_) (fun k3=> ?_)
 ·refine Or.inl (eI _ (aI (YV _) ?_));refine aI (fun g=> ?_) ?_
  ·have g2:(bif jQ a.2.2.1 then((a.2.2.2.1.length:Int)==1)else false)=true:=g;cases ho:jQ a.2.2.1 with
   |false=>rw[ho]at g2;cases g2
   |true=>
    rw[ho]at g2;have hl2:(a.2.2.2.1.length:Int)=1:=by simpa using g2
    show(0:Int)≤0∧(0:Int)<(a.2.2.2.1.length:Nat);omega
  refine Or.inl (eI _ (aI (fun _=>VN _) ?_));refine Eq.trans (Eq.refl _) ?_;unfold oF;rw[show(a.1==6)=false from k1,show(a.1==7)=false from k2,show(a.1==8)=true from k3];show(bif (bif jQ a.2.2.1 then((a.2.2.2.1.length:Int)==1)else false)then qz (dZ a.2.2.2.1 0)else false)=(!false&&(((a.2.2.2.1.length:Int)==1)&&jQ a.2.2.1&&qz (dZ a.2.2.2.1 0)));cases ((a.2.2.2.1.length:Int)==1)<;>cases jQ a.2.2.1<;>rfl
 refine aI (fun k4=> ?_) (fun k4=> ?_)
 ·refine Eq.trans (Eq.refl _) ?_;refine cfin ?_;rw[show(a.1==6)=false from k1,show(a.1==7)=false from k2,show(a.1==8)=false from k3,show(a.1==9)=true from k4,Bool.and_comm];show _=(((a.2.2.2.1.length:Int)==0)&&dX a.2.2.1 0 3)
  congr 1
  unfold dX;show(bif decide (0≤a.2.2.1)then decide (a.2.2.1<4)else false)=(decide (0≤a.2.2.1)&&decide (a.2.2.1≤3));rw[show decide (a.2.2.1<4)=decide (a.2.2.1≤3) by rw[decide_eq_decide];omega];cases decide (0≤a.2.2.1)<;>rfl
 refine aI (fun k5=> ?_) (fun k5=> ?_)
 ·have k12:(a.1==12)=false:=by
   have:a.1=10:=by simpa using(show(a.1==10)=true from k5)
   rw[this];rfl
  refine Eq.trans (Eq.refl _) ?_;refine cfin ?_;rw[show(a.1==6)=false from k1,show(a.1==7)=false from k2,show(a.1==8)=false from k3,show(a.1==9)=false from k4,k12,show(a.1==10)=true from k5];show((a.2.2.1==0)&&(bif (bif decide (1≤(a.2.2.2.1.length:Int))then decide ((a.2.2.2.1.length:Int)≤4)else false)then !(!kN a.2.2.2.1)else false))=(a.2.2.1==0&&dX a.2.2.2.1.length 1 4&&kN a.2.2.2.1);unfold dX;cases (a.2.2.1==0)<;>cases decide (1≤(a.2.2.2.1.length:Int))<;>cases decide ((a.2.2.2.1.length:Int)≤4)<;>cases kN a.2.2.2.1<;>rfl
 refine aI (fun k6=> ?_) (fun k6=> ?_)
 ·have k12:(a.1==12)=false:=by
   have:a.1=11:=by simpa using(show(a.1==11)=true from k6)
   rw[this];rfl
  refine Eq.trans (Eq.refl _) ?_;refine cfin ?_;rw[show(a.1==6)=false from k1,show(a.1==7)=false from k2,show(a.1==8)=false from k3,show(a.1==9)=false from k4,k12,show(a.1==10)=false from k5,show(a.1==11)=true from k6];show((a.2.2.1==0)&&(bif ((a.2.2.2.1.length:Int)==2)then !(!kN a.2.2.2.1)else false))=(a.2.2.1==0&&((a.2.2.2.1.length:Int)==2)&&kN a.2.2.2.1);cases (a.2.2.1==0)<;>cases ((a.2.2.2.1.length:Int)==2)<;>cases kN a.2.2.2.1<;>rfl
 refine aI (fun k7=> ?_) (fun k7=> ?_)
 ·refine Or.inl (eI _ (aI (YC _) ?_));refine Eq.trans (Eq.refl _) ?_;refine cfin ?_;rw[show(a.1==6)=false from k1,show(a.1==7)=false from k2,show(a.1==8)=false from k3,show(a.1==9)=false from k4,show(a.1==12)=true from k7,Bool.and_comm];rfl
 ·refine Eq.trans (Eq.refl _) ?_;refine cfin ?_;rw[show(a.1==6)=false from k1,show(a.1==7)=false from k2,show(a.1==8)=false from k3,show(a.1==9)=false from k4,show(a.1==12)=false from k7,show(a.1==10)=false from k5,show(a.1==11)=false from k6];rfl
theorem Et(x:aB){bs us}(w:World)(h:TN w x.enc bs us):Calls Tryz.prog 183 #[.agg us.toArray] w fun e w'=>e=.returned (.bool (dQ x))∧Ext w w':=by
 have hp:(nA x).2.2.2.2.length≤9223372036854775807:=by
  obtain⟨_,_,_,A4,c4,b4,rfl,_,_,_,_,t4,n1,n2⟩:=aB.us (x:=x) h;have e:(nA x).2.2.2.2.length=x.aJ.length:=qV _;unfold maxLen at n2;omega
 have q:=aO.TU (u:=aD) (x:=nA x) (ZB (nA x) hp) (fun _ _ _ h=>QE h) (w:=w) (bs:=bs) (us:=us) (by rw[RA];exact h);rw[Nr]at q;exact q
theorem Kt(x:aQ)(b o:Nat)(bs:List Nat)(p:aG)(w:World)(h:fU w b o x.enc bs)(hp:iB x.agents p=true):Calls Tryz.prog 128 #[.pointer (some ⟨b,o,none⟩),.agg #[.int .i64 p.agent,.int .i64 p.slot]] w fun e w'=>e=.returned (.agg #[.int .i64 (rD x.agents p).agent,.int .i64 (rD x.agents p).slot])∧Ext w w':=by
 refine aT fun e=> ?_
 obtain⟨A0,c0,b0,h0,t0⟩:=aQ.pt h;have hltn:=h.lt;obtain⟨i,s,a,r,rfl,hi,ha,hs,hr,hpeer⟩:=Kw hp;rw[hpeer];clear hpeer hp;obtain⟨bz,oz,z,bs3,rfl,hzi,hz⟩:=T1.elem aB.bF t0 jy hi;obtain⟨_,rfl⟩:True∧z=a:=⟨trivial,Option.some.inj (hzi.out.symm.trans ha.out)⟩;obtain⟨A3,c3,b3,A5,c5,b5,u0,u1,u2,u3,u4,t3,t5⟩:=aB.pt hz;have hn5:=t5.xI;have hn0:=t0.xI;clear u0 u1 u2 u3 t3;obtain⟨bt,ot,r',bs4,rfl,hrs,hrr⟩:=T1.elem aG.bF t5 jy hs;obtain⟨_,rfl⟩:True∧r'=r:=⟨trivial,Option.some.inj (hrs.out.symm.trans hr.out)⟩
 obtain⟨r0,r1⟩:=aG.pt hrr;clear h hz hrr hltn;have i0:(0:Int)≤(i:Int):=by omega
 have i1:(i:Int)<(x.agents.length:Int):=by omega
 have s0:(0:Int)≤(s:Int):=by omega
 have s1:(s:Int)<(z.aJ.length:Int):=by omega
 go_enter Tryz.func128,Tryz.ntmps128
 go_upto_region 1 with(fail)
 generalize hg2:e.to.heap.size+1=g2;generalize hg1:e.to.heap.size=g1;refine Pq e hg1 hg2 (fun w1 hx1 hge1 hne hge2 r1_ r2_=> ?_);clear hg1 hg2;have q0:=h0.P6 hx1;have q4:=u4.P6 hx1;have q5:=r0.P6 hx1;have q6:=r1.P6 hx1;clear h0 u4 r0 r1;have k0:=mJ (i:=0) r1_ rfl;have k1:=mJ (i:=1) r1_ rfl;have m0:=mJ (i:=0) r2_ rfl;have m1:=mJ (i:=1) r2_ rfl;have f2:∀o,w1.frozen? ⟨g2,o,none⟩=false:=gJ r2_;clear r1_ r2_
 go_still_tail 13,(by kernel_rfl)
 go_wp2_with fail
 refine bodyPost_ret (v:=.agg #[.int .i64 r'.agent,.int .i64 r'.slot]) (by simp[results,Tryz.results128,go_sem, *]) rfl ⟨rfl,⟨_,?_⟩,rfl⟩;exact(((hx1.drewN _).setCell (by simpa using hge2) _).setCell (by simpa using hge2) _)
end Go.Proofs.YtjijpkphkicoeaaGreat
namespace Go.Tr
open Go Go.RowKit
def d9(l:List aB)(k:Nat):List aG:=(List.range k).flatMap fun(i:Nat)=>(List.range (gV l i).aJ.length).map fun(s:Nat)=>(⟨(i:Int),(s:Int)⟩:aG)
def o9(i j:Nat):List aG:=(List.range j).map fun(s:Nat)=>(⟨(i:Int),(s:Int)⟩:aG)
theorem IG(i j:Nat):o9 i (j+1)=o9 i j++[⟨(i:Int),(j:Int)⟩]:=by simp[o9,List.range_succ]
theorem zI(l:List aB)(k:Nat):d9 l (k+1)=d9 l k++o9 k (gV l k).aJ.length:=by simp[d9,o9,List.range_succ]
theorem Ma(k f:Int):dz k f≤4:=by
 unfold dz;split
 ·split
  ·rename_i h;have:=iU h;omega
  ·omega
 ·repeat' split
  all_goals omega
theorem GL{a:aB}(h:dQ a=true):1≤a.aJ.length∧a.aJ.length≤4:=by
 simp only[dQ,qD,qQ,beq_iff_eq]at h;have:=Ma a.kind (fieldsOf a);omega
theorem A9{l:List aB}(h:fD l=true):1≤l.length∧l.length≤600∧∀k,k<l.length→gW l k=true:=by
 simp only[fD,qD]at h;have h1:=iU h.1;exact⟨by omega,by omega,fun k hk=>jX h.2 hk⟩
theorem xL{l:List aB}{k:Nat}(h:gW l k=true):(gV l k).aJ.length≤4:=by
 simp only[gW,qD]at h;exact(GL h.1).2
theorem Md{l:List aB}{k:Nat}(h:∀j,j<k→gW l j=true):(d9 l k).length≤4*k:=by
 induction k with
 |zero=>simp[d9]
 |succ k ih=>
  rw[zI,qA];have h1:=ih (fun j hj=>h j (by omega));have h2:=xL (h k (by omega));simp only[o9,qV,List.length_range];omega
theorem Bl{l:List aB}{k:Nat}{p:aG}(h:p∈d9 l k):∃i s:Nat,p=⟨(i:Int),(s:Int)⟩∧i<k∧s<(gV l i).aJ.length:=by
 simp only[d9,List.mem_flatMap,List.mem_range,List.mem_map]at h;obtain⟨i,hi,s,hs,rfl⟩:=h;exact⟨i,s,rfl,hi,hs⟩
theorem Ky{l:List aB}{k i s:Nat}(hi:i<k)(hs:s<(gV l i).aJ.length):(⟨(i:Int),(s:Int)⟩:aG)∈d9 l k:=by
 simp only[d9,List.mem_flatMap,List.mem_range,List.mem_map];exact⟨i,hi,s,hs,rfl⟩
theorem Mc{l:List aB}{k:Nat}{y:aG}(h:(d9 l l.length)[k]? =some y):iB l y=true:=by
 obtain⟨i,s,rfl,hi,hs⟩:=Bl (List.mem_of_getElem? h);unfold iB;rw[qD];exact⟨vY (by simp) (by simp only;omega),vY (by simp) (by simp only[qK];omega)⟩
noncomputable def tq(l:List aB)(p:aG):Bool:= !oL l p (rD l p)
theorem LK(n:aQ)(h:fD n.agents=true):iE n= !ou (d9 n.agents n.agents.length).length (fun k=>tq n.agents (jD (d9 n.agents n.agents.length) k)):=by
 have h0:=A9 h;unfold iE;rw[h,Bool.true_and,ou,Bool.not_not,Bool.eq_iff_iff];constructor
 ·intro ha;unfold eu;rw[List.all_eq_true];intro q hq;have hq:q<(d9 n.agents n.agents.length).length:=by simpa using hq
  have he:Hid ((d9 n.agents n.agents.length)[q]? =some (d9 n.agents n.agents.length)[q]):=qB hq;obtain⟨i,s,hp,hi,hs⟩:=Bl (List.getElem_mem hq);rw[uw he,hp];have h1:=jX (jX ha hi) hs;simp only[tq,Bool.not_not];unfold rD;simpa using h1
 ·intro ha;unfold eu;rw[List.all_eq_true];intro i hi;unfold pI eu;rw[List.all_eq_true];intro s hs;obtain⟨q,hq,he⟩:=List.getElem_of_mem (Ky (l:=n.agents) (k:=n.agents.length) (by simpa using hi) (by simpa using hs));have h1:=jX ha hq;have he':Hid ((d9 n.agents n.agents.length)[q]? =some (d9 n.agents n.agents.length)[q]):=qB hq;rw[uw he',he]at h1;simp only[tq,Bool.not_not]at h1;unfold rD at h1;simpa using h1
end Go.Tr
namespace Go.Proofs.YtjijpkphkicoeaaGreat
open Go Go.RowKit Go.Proofs Go.Tr
theorem EO(xs:List aB)(n:Nat){A:Option Addr}{c:Nat}{bs:List Nat}(w:World)(hx:T1 w (.sl n (xs.flatMap aB.enc)) bs (.slice A n c))(Hl:Hid (xs.length=n)):Calls Tryz.prog 149 #[.slice A n c] w fun e w'=>e=.returned (.bool (fD xs))∧Ext w w':=by
 refine aT fun e=> ?_
 have hn:=hx.xI;have EV:Hid (fD xs=(dX n 1 600&&eu n (gW xs))):=by show _=_;rw[←Hl.out];rfl
 go_enter Tryz.func149,Tryz.ntmps149
 cases d1:decide ((n:Int)<1)
 case true=>
  have E:Hid (fD xs=false):=by show _=_;rw[EV.out,Ak (by simp at d1;omega)];rfl
  go_wp2_with fail
  repeat (refine ay _ (by kernel_rfl) (by kernel_rfl) ?_;(repeat (go_big_quiet_step (fail)));refine wpQuiet_nil ?_;intro e;go_wp2_with fail)
  go_ret;exact⟨by rw[E.out];rfl,_,rfl⟩
 cases d2:decide ((600:Int)<n)
 case true=>
  have E:Hid (fD xs=false):=by show _=_;rw[EV.out,Ak (by simp at d2;omega)];rfl
  go_wp2_with fail
  repeat (refine ay _ (by kernel_rfl) (by kernel_rfl) ?_;(repeat (go_big_quiet_step (fail)));refine wpQuiet_nil ?_;intro e;go_wp2_with fail)
  go_ret;exact⟨by rw[E.out];rfl,_,rfl⟩
 have hin:dX n 1 600=true:=vY (by simp at d1;omega) (by simp at d2;omega);have Hin:=Lib.hid hin;clear hin
 go_wp2_with fail
 repeat (refine ay _ (by kernel_rfl) (by kernel_rfl) ?_;(repeat (go_big_quiet_step (fail)));refine wpQuiet_nil ?_;intro e;go_wp2_with fail)
 go_loopw [3,15] (fun _ i w'=>∃k:Nat,k≤n∧i=.int .i64 k∧Hid (eu k (gW xs)=true)∧∃e:bf w,w'=e.to) (fun _ i _=>n-(intOf i).toNat)
 case atStart=>exact⟨0,Nat.zero_le _,rfl,nI _,_,rfl⟩
 case round=>
  obtain⟨k,hk,rfl,hfk,e,rfl⟩:=hrel
  by_cases hltk:k<n
  ·skip
   obtain⟨b,off,x,bs',rfl,hxk,hp⟩:=T1.elem aB.bF hx Hl hltk;obtain⟨A3,c3,b3,A4,c4,b4,h0,h1,h2,h3,h4,t3,t4⟩:=aB.pt hp;clear hp
   go_upto_region 6 with(fail)
   generalize hgg:e.to.heap.size=g;refine gU e hgg (fun w1 e hx1 hgeg hltg cg=> ?_);clear hgg
   replace t3:=t3.below hx1
   replace t4:=t4.below hx1
   have u0:=cg.always hltg 0 _ rfl;have u1:=cg.always hltg 1 _ rfl;have u2:=cg.always hltg 2 _ rfl;have u3:=cg.always hltg 3 _ rfl;have u4:=cg.always hltg 4 _ rfl;simp only[Nat.zero_add]at u0 u1 u2 u3 u4;clear cg;clear h0 h1 h2 h3 h4;have C1:Hid (QC Tryz.prog w1 _ _ _):=fun W hW=>Et x W (aB.zU (t3.below hW) (t4.below hW))
   have EK:Hid (gW xs k=(dQ x&&((x.kind==1)==((k:Int)==0)))):=by show _=_;rw[gW,jW hxk]
   cases d3:dQ x
   case false=>
    (try rw[d3]at C1)
    have E:Hid (fD xs=false):=by show _=_;rw[EV.out,iW hltk (by rw[EK.out,d3];rfl)];simp
    go_wp2_with (first|(go_at_call 183;with_reducible refine(C1.out.at_ _).mono ?_;rintro _ _ ⟨rfl,e,rfl⟩))
    repeat (refine ay _ (by kernel_rfl) (by kernel_rfl) ?_;(repeat (go_big_quiet_step ((first|with_reducible exact C1.out.at_ _))));refine wpQuiet_nil ?_;intro e;go_wp2_with (first|(go_at_call 183;with_reducible refine(C1.out.at_ _).mono ?_;rintro _ _ ⟨rfl,e,rfl⟩)))
    go_ret;exact⟨by rw[E.out];rfl,bf.old hx1 e⟩
   (try rw[d3]at C1)
   cases d4:(x.kind==1)
   case false=>
    (try rw[d4]at C1)
    cases d5:((k:Int)==0)
    case true=>
     (try rw[d5]at C1)
     have E:Hid (fD xs=false):=by show _=_;rw[EV.out,iW hltk (by rw[EK.out,d3,d4,d5];rfl)];simp
     go_wp2_with (first|(go_at_call 183;with_reducible refine(C1.out.at_ _).mono ?_;rintro _ _ ⟨rfl,e,rfl⟩))
     repeat (refine ay _ (by kernel_rfl) (by kernel_rfl) ?_;(repeat (go_big_quiet_step ((first|with_reducible exact C1.out.at_ _))));refine wpQuiet_nil ?_;intro e;go_wp2_with (first|(go_at_call 183;with_reducible refine(C1.out.at_ _).mono ?_;rintro _ _ ⟨rfl,e,rfl⟩)))
     go_ret;exact⟨by rw[E.out];rfl,bf.old hx1 e⟩
    (try rw[d5]at C1)
    have E:Hid (gW xs k=true):=by show _=_;rw[EK.out,d3,d4,d5];rfl
    go_wp2_with (first|(go_at_call 183;with_reducible refine(C1.out.at_ _).mono ?_;rintro _ _ ⟨rfl,e,rfl⟩))
    repeat (refine ay _ (by kernel_rfl) (by kernel_rfl) ?_;(repeat (go_big_quiet_step ((first|with_reducible exact C1.out.at_ _))));refine wpQuiet_nil ?_;intro e;go_wp2_with (first|(go_at_call 183;with_reducible refine(C1.out.at_ _).mono ?_;rintro _ _ ⟨rfl,e,rfl⟩)))
    exact⟨⟨k+1,by omega,by go_num,gT hfk E.out,⟨e.to,hx1.trans e.h⟩,rfl⟩,by simp[intOf];omega⟩
   (try rw[d4]at C1)
   cases d6:((k:Int)==0)
   case false=>
    (try rw[d6]at C1)
    have E:Hid (fD xs=false):=by show _=_;rw[EV.out,iW hltk (by rw[EK.out,d3,d4,d6];rfl)];simp
    go_wp2_with (first|(go_at_call 183;with_reducible refine(C1.out.at_ _).mono ?_;rintro _ _ ⟨rfl,e,rfl⟩))
    repeat (refine ay _ (by kernel_rfl) (by kernel_rfl) ?_;(repeat (go_big_quiet_step ((first|with_reducible exact C1.out.at_ _))));refine wpQuiet_nil ?_;intro e;go_wp2_with (first|(go_at_call 183;with_reducible refine(C1.out.at_ _).mono ?_;rintro _ _ ⟨rfl,e,rfl⟩)))
    go_ret;exact⟨by rw[E.out];rfl,bf.old hx1 e⟩
   (try rw[d6]at C1)
   have E:Hid (gW xs k=true):=by show _=_;rw[EK.out,d3,d4,d6];rfl
   go_wp2_with (first|(go_at_call 183;with_reducible refine(C1.out.at_ _).mono ?_;rintro _ _ ⟨rfl,e,rfl⟩))
   repeat (refine ay _ (by kernel_rfl) (by kernel_rfl) ?_;(repeat (go_big_quiet_step ((first|with_reducible exact C1.out.at_ _))));refine wpQuiet_nil ?_;intro e;go_wp2_with (first|(go_at_call 183;with_reducible refine(C1.out.at_ _).mono ?_;rintro _ _ ⟨rfl,e,rfl⟩)))
   exact⟨⟨k+1,by omega,by go_num,gT hfk E.out,⟨e.to,hx1.trans e.h⟩,rfl⟩,by simp[intOf];omega⟩
  ·have:n=k:=by omega
   subst this;have E:Hid (fD xs=true):=by show _=_;rw[EV.out,Hin.out,hfk.out];rfl
   go_wp2_with fail
   repeat (refine ay _ (by kernel_rfl) (by kernel_rfl) ?_;(repeat (go_big_quiet_step (fail)));refine wpQuiet_nil ?_;intro e;go_wp2_with fail)
   go_ret;exact⟨by rw[E.out];rfl,_,rfl⟩
theorem JQ(xs:List aB)(n:Nat){A:Option Addr}{c:Nat}{bs:List Nat}(p:aG)(w:World)(hx:T1 w (.sl n (xs.flatMap aB.enc)) bs (.slice A n c))(Hl:Hid (xs.length=n)):Calls Tryz.prog 153 #[.slice A n c,.agg #[.int .i64 p.agent,.int .i64 p.slot]] w fun e w'=>e=.returned (.bool (iB xs p))∧Ext w w':=by
 refine aT fun e=> ?_
 have hn:=hx.xI;have EV:Hid (iB xs p=(dX p.agent 0 ((n:Int)-1)&&dX p.slot 0 (((gV xs p.agent.toNat).aJ.length:Int)-1))):=by show _=_;rw[←Hl.out];rfl
 go_enter Tryz.func153,Tryz.ntmps153
 go_upto_region 1 with(fail)
 generalize hgg:e.to.heap.size=g;refine gU e hgg (fun w1 e hx1 hgeg hltg cg=> ?_);clear hgg
 replace hx:=hx.below hx1
 obtain⟨k0,k1⟩:=aG.PE (fU.box hltg cg aG.zU);cases d1:decide (0≤p.agent)
 case false=>
  have E:Hid (iB xs p=false):=by show _=_;rw[EV.out,Ak (by simp at d1;omega)];rfl
  go_wp2_with fail
  repeat (refine ay _ (by kernel_rfl) (by kernel_rfl) ?_;(repeat (go_big_quiet_step (fail)));refine wpQuiet_nil ?_;intro e;go_wp2_with fail)
  go_ret;exact⟨by rw[E.out];rfl,bf.old hx1 e⟩
 cases d2:decide (p.agent<(n:Int))
 case false=>
  have E:Hid (iB xs p=false):=by show _=_;rw[EV.out,Ak (by simp at d2;omega)];rfl
  go_wp2_with fail
  repeat (refine ay _ (by kernel_rfl) (by kernel_rfl) ?_;(repeat (go_big_quiet_step (fail)));refine wpQuiet_nil ?_;intro e;go_wp2_with fail)
  go_ret;exact⟨by rw[E.out];rfl,bf.old hx1 e⟩
 cases d3:decide (0≤p.slot)
 case false=>
  have E:Hid (iB xs p=false):=by show _=_;rw[EV.out,Ak (n:=p.slot) (by simp at d3;omega),Bool.and_false]
  go_wp2_with fail
  repeat (refine ay _ (by kernel_rfl) (by kernel_rfl) ?_;(repeat (go_big_quiet_step (fail)));refine wpQuiet_nil ?_;intro e;go_wp2_with fail)
  go_ret;exact⟨by rw[E.out];rfl,bf.old hx1 e⟩
 have ha0:0≤p.agent:=by simpa using d1
 have ha1:p.agent<(n:Int):=by simpa using d2
 obtain⟨i,hi⟩:=Int.eq_ofNat_of_zero_le ha0;have hlt:i<n:=by omega
 obtain⟨b,off,x,bs',rfl,hxk,hp⟩:=T1.elem aB.bF hx Hl hlt;obtain⟨A3,c3,b3,A4,c4,b4,h0,h1,h2,h3,h4,t3,t4⟩:=aB.pt hp;have hn4:=t4.xI;clear h0 h1 h2 h3 t3;have EA:Hid (gV xs p.agent.toNat=x):=by show _=_;rw[hi,qK];exact jW hxk
 have EI:Hid (dX p.agent 0 ((n:Int)-1)=true):=vY ha0 (by omega);rw[hi]at k0 d1 d2;have i0:(0:Int)≤(i:Int):=by omega
 have i1:(i:Int)<(n:Int):=by omega
 clear hi ha0 ha1;have E:Hid (iB xs p=decide (p.slot<(x.aJ.length:Int))):=by show _=_;rw[EV.out,EA.out,EI.out,Bool.true_and];unfold dX;rw[show decide ((0:Int)≤p.slot)=true from d3,Bool.true_and];rw[Bool.eq_iff_iff];simp;omega
 go_wp2_with fail
 repeat (refine ay _ (by kernel_rfl) (by kernel_rfl) ?_;(repeat (go_big_quiet_step (fail)));refine wpQuiet_nil ?_;intro e;go_wp2_with fail)
 go_ret;exact⟨by rw[E.out];rfl,bf.old hx1 e⟩
theorem Sk:p8 Tryz.prog 129 102 2:=p8.of Tryz.underlying129 (by kernel_rfl) (by omega)
theorem Pz(x:aQ)(b o:Nat)(bs:List Nat)(w:World)(h:fU w b o x.enc bs)(hok:fD x.agents=true):Calls Tryz.prog 151 #[.pointer (some ⟨b,o,none⟩)] w fun e w'=>
  Ext w w'∧∃A c bs',e=.returned (.slice A (d9 x.agents x.agents.length).length c)∧T1 w' (.sl (d9 x.agents x.agents.length).length ((d9 x.agents x.agents.length).flatMap aG.enc)) bs' (.slice A (d9 x.agents x.agents.length).length c):=by
 obtain⟨A0,c0,b0,h0,t0⟩:=aQ.pt h;have hn0:=t0.xI;obtain⟨hk1,hk2,hall⟩:=A9 hok;have Hall:=Lib.hid hall;clear hall hok;refine OT fun e=> ?_
 go_enter Tryz.func151,Tryz.ntmps151
 go_wp2_with fail
 go_loopw [3,12] (fun v i wr=>∃k:Nat,k≤x.agents.length∧i=.int .i64 k∧∃e:bf w,wr=e.to∧e.to.ownsRow w.heap.size 102 2 v (d9 x.agents k).length ((d9 x.agents k).flatMap aG.cells)) (fun _ i _=>x.agents.length-(intOf i).toNat)
 case atStart=>exact⟨0,Nat.zero_le _,rfl,_,rfl,World.ownsRow_nil _ _ _ _⟩
 case round=>
  obtain⟨k,hk,rfl,e,rfl,ho⟩:=hrel
  by_cases hlt:k<x.agents.length
  ·obtain⟨b',off,y,bs',rfl,hyk,hp⟩:=T1.elem aB.bF t0 jy hlt;obtain⟨A3,c3,b3,A4,c4,b4,g0,g1,g2,g3,g4,t3,t4⟩:=aB.pt hp;have hn4:=t4.xI;have HA:Hid (gV x.agents k=y):=jW hyk;have hy4:y.aJ.length≤4:=by have:=xL (Hall.out k hlt);rw[HA.out]at this;exact this
   have hle:(d9 x.agents k).length≤4*k:=Md fun j hj=>Hall.out j (by omega)
   clear t3 t4 hp
   go_wp2_with fail
   go_loopw [3,20] (fun v i wr=>∃j:Nat,j≤y.aJ.length∧i=.int .i64 j∧∃e:bf w,wr=e.to∧e.to.ownsRow w.heap.size 102 2 v ((d9 x.agents k).length+j) ((d9 x.agents k).flatMap aG.cells++(o9 k j).flatMap aG.cells)) (fun _ i _=>y.aJ.length-(intOf i).toNat)
   case atStart=>exact⟨0,Nat.zero_le _,rfl,⟨_,e.h.alloc e.h.size _⟩,rfl,by simpa[o9]using ho.alloc _⟩
   case round=>
    obtain⟨j,hj,rfl,e,rfl,ho⟩:=hrel
    by_cases hltj:j<y.aJ.length
    ·have hge:=e.h.size
     go_wp2_with (at_builtin;refine MG rfl (.tmp 23) (.tmp 27) 129 rfl Sk w.heap.size _ _ _ rfl (ho.alloc _) e.to.heap.size 1 1 #[.int .i64 (k:Int),.int .i64 (j:Int)] rfl (heap_alloc_new e.to _) rfl rfl (by omega) (by simp;omega) ?_;intro v' w2 ho2 hg2)
     have hx2:Ext w w2:=Ext.grown (e.h.alloc e.h.size _) hg2 (LY ho)
     go_roundw
     case rel=>exact⟨j+1,by omega,by go_num,⟨w2,hx2⟩,rfl,by rw[IG,List.flatMap_append,←qF];exact ho2⟩
     case measure=>simp[intOf];omega
    ·have:y.aJ.length=j:=by omega
     subst this
     go_wp2_with fail
     go_roundw
     case rel=>exact⟨k+1,by omega,by go_num,e,rfl,by rw[zI,HA.out,List.flatMap_append,qA];simpa[o9]using ho⟩
     case measure=>simp[intOf];omega
  ·have:x.agents.length=k:=by omega
   subst this
   go_wp2_with fail
   go_ret;obtain⟨A,c,bs',rfl,ht⟩:=LZ ho (TN.VH aG.cells (fun _=>rfl) _);exact⟨e,rfl,A,c,bs',rfl,ht⟩
theorem Jp(N:aQ)(nb no:Nat)(nbs:List Nat)(p:aG)(w:World)(hN:fU w nb no N.enc nbs)(hp:iB N.agents p=true):Calls Tryz.prog 152 #[.agg #[.int .i64 p.agent,.int .i64 p.slot],.pointer (some ⟨nb,no,none⟩)] w fun e w'=>e=.returned (.bool (tq N.agents p))∧Ext w w':=by
 refine aT fun e=> ?_
 obtain⟨A0,c0,b0,h0,t0⟩:=aQ.pt hN;obtain⟨q,hq⟩:∃q,rD N.agents p=q:=⟨_,rfl⟩;have EV:Hid (tq N.agents p= !oL N.agents p q):=by show _=_;rw[tq,hq]
 have Hq:=Lib.hid hq;clear hq
 go_enter Tryz.func152,Tryz.ntmps152
 go_upto_region 1 with(fail)
 generalize hgg:e.to.heap.size=g;refine gU e hgg (fun w1 e hx1 hgeg hltg cg=> ?_);clear hgg
 replace hN:=hN.ext hx1
 replace h0:=h0.ext hx1
 replace t0:=t0.below hx1
 obtain⟨k0,k1⟩:=aG.PE (x:=p) (fU.box hltg cg aG.zU);clear cg;have C1:Hid (QC Tryz.prog w1 _ _ _):=fun W hW=>Kt N nb no _ p W (hN.ext hW) hp
 rw[Hq.out]at C1
 go_upto_region 2 with(first|(go_at_call 128;with_reducible refine(C1.out.at_ _).mono ?_;rintro _ _ ⟨rfl,e,rfl⟩))
 repeat (refine ay _ (by kernel_rfl) (by kernel_rfl) ?_;(repeat (go_big_quiet_step ((first|with_reducible exact C1.out.at_ _))));refine wpQuiet_nil ?_;intro e;go_upto_region 2 with(first|(go_at_call 128;with_reducible refine(C1.out.at_ _).mono ?_;rintro _ _ ⟨rfl,e,rfl⟩)))
 generalize hggq:e.to.heap.size=gq;refine gU e hggq (fun w2 e hx2 hgegq hltgq cgq=> ?_);clear hggq
 replace hN:=hN.ext hx2
 replace h0:=h0.ext hx2
 replace k0:=k0.ext hx2
 replace k1:=k1.ext hx2
 replace t0:=t0.below hx2
 replace C1:Hid (QC Tryz.prog w2 _ _ _):=C1.out.ext hx2
 have hy2:=Ext.trans hx1 hx2;obtain⟨q0,q1⟩:=aG.PE (x:=q) (fU.box hltgq cgq aG.zU);clear cgq;clear C1;have hg:=V6;have heq:=fun W=>Ob W q p
 have C2:Hid (QC Tryz.prog w2 _ _ _):=fun W hW=>JQ N.agents _ q W (t0.below hW) jy
 cases d1:wS q p
 case true=>
  (try rw[d1]at C2)
  have E:Hid (tq N.agents p=true):=by show _=_;rw[EV.out];simp[oL,d1]
  go_wp2_with (first|(go_at_call 153;with_reducible refine(C2.out.at_ _).mono ?_;rintro _ _ ⟨rfl,e,rfl⟩))
  repeat (refine ay _ (by kernel_rfl) (by kernel_rfl) ?_;(repeat (go_big_quiet_step ((first|with_reducible exact C2.out.at_ _))));refine wpQuiet_nil ?_;intro e;go_wp2_with (first|(go_at_call 153;with_reducible refine(C2.out.at_ _).mono ?_;rintro _ _ ⟨rfl,e,rfl⟩)))
  go_ret;exact⟨by rw[E.out];rfl,bf.old hy2 e⟩
 (try rw[d1]at C2)
 cases d2:iB N.agents q
 case false=>
  (try rw[d2]at C2)
  have E:Hid (tq N.agents p=true):=by show _=_;rw[EV.out];simp[oL,d2]
  go_wp2_with (first|(go_at_call 153;with_reducible refine(C2.out.at_ _).mono ?_;rintro _ _ ⟨rfl,e,rfl⟩))
  repeat (refine ay _ (by kernel_rfl) (by kernel_rfl) ?_;(repeat (go_big_quiet_step ((first|with_reducible exact C2.out.at_ _))));refine wpQuiet_nil ?_;intro e;go_wp2_with (first|(go_at_call 153;with_reducible refine(C2.out.at_ _).mono ?_;rintro _ _ ⟨rfl,e,rfl⟩)))
  go_ret;exact⟨by rw[E.out];rfl,bf.old hy2 e⟩
 (try rw[d2]at C2)
 obtain⟨r,hr⟩:∃r,rD N.agents q=r:=⟨_,rfl⟩;have Hr:=Lib.hid hr;clear hr;have C3:Hid (QC Tryz.prog w2 _ _ _):=fun W hW=>Kt N nb no _ q W (hN.ext hW) d2
 rw[Hr.out]at C3;have hne:=fun W=>Oc W r p
 have E:Hid (tq N.agents p= !wS r p):=by show _=_;rw[EV.out];simp[oL,Hr.out,d1,d2]
 go_wp2_with (first|(go_at_call 153;with_reducible refine(C2.out.at_ _).mono ?_;rintro _ _ ⟨rfl,e,rfl⟩)|(go_at_call 128;with_reducible refine(C3.out.at_ _).mono ?_;rintro _ _ ⟨rfl,e,rfl⟩))
 repeat (refine ay _ (by kernel_rfl) (by kernel_rfl) ?_;(repeat (go_big_quiet_step ((first|with_reducible exact C2.out.at_ _|with_reducible exact C3.out.at_ _))));refine wpQuiet_nil ?_;intro e;go_wp2_with (first|(go_at_call 153;with_reducible refine(C2.out.at_ _).mono ?_;rintro _ _ ⟨rfl,e,rfl⟩)|(go_at_call 128;with_reducible refine(C3.out.at_ _).mono ?_;rintro _ _ ⟨rfl,e,rfl⟩)))
 go_ret;exact⟨by rw[E.out];rfl,bf.old hy2 e⟩
theorem Al(xs:List aG)(n:Nat){A:Option Addr}{c:Nat}{bs:List Nat}(N:aQ)(nb no:Nat)(nbs:List Nat)(w:World)(hx:T1 w (.sl n (xs.flatMap aG.enc)) bs (.slice A n c))(Hl:Hid (xs.length=n))(hN:fU w nb no N.enc nbs)(hin:∀(k:Nat) (y:aG),xs[k]? =some y→iB N.agents y=true):Calls Tryz.prog 184 #[.slice A n c,.func (.func 152) #[] #[.pointer (some ⟨nb,no,none⟩)]] w fun e w'=>e=.returned (.int .i64 (idxOf n (fun k=>tq N.agents (jD xs k))))∧Ext w w':=by
 refine aT fun e=> ?_
 have hn:=hx.xI
 go_enter Tryz.func184,Tryz.ntmps184
 go_wp2_with fail
 repeat (refine ay _ (by kernel_rfl) (by kernel_rfl) ?_;(repeat (go_big_quiet_step (fail)));refine wpQuiet_nil ?_;intro e;go_wp2_with fail)
 go_loopw [5,8] (fun _ i w'=>∃k:Nat,k≤n∧i=.int .i64 k∧Hid (eu k (fun k=> !tq N.agents (jD xs k))=true)∧∃e:bf w,w'=e.to) (fun _ i _=>n-(intOf i).toNat)
 case atStart=>exact⟨0,Nat.zero_le _,rfl,nI _,_,rfl⟩
 case round=>
  obtain⟨k,hk,rfl,hf,e,rfl⟩:=hrel
  by_cases hlt:k<n
  ·skip
   obtain⟨b,off,x,bs',rfl,hxk,hp⟩:=T1.elem aG.bF hx Hl hlt;obtain⟨kx0,kx1⟩:=aG.pt hp;have hpi:=hin k x hxk.out;have EP:Hid (tq N.agents (jD xs k)=tq N.agents x):=by show _=_;rw[uw hxk]
   have C1:Hid (QC Tryz.prog w _ _ _):=fun W hW=>Jp N nb no nbs x W (hN.ext hW) hpi
   cases d1:tq N.agents x
   case true=>
    (try rw[d1]at C1)
    have E:Hid (idxOf n (fun k=>tq N.agents (jD xs k))=(k:Int)):=by show _=_;exact zw hf hlt (by rw[EP.out];exact d1)
    go_wp2_with (first|(go_at_call 152;with_reducible refine(C1.out.at_ _).mono ?_;rintro _ _ ⟨rfl,e,rfl⟩))
    repeat (refine ay _ (by kernel_rfl) (by kernel_rfl) ?_;(repeat (go_big_quiet_step ((first|with_reducible exact C1.out.at_ _))));refine wpQuiet_nil ?_;intro e;go_wp2_with (first|(go_at_call 152;with_reducible refine(C1.out.at_ _).mono ?_;rintro _ _ ⟨rfl,e,rfl⟩)))
    go_ret;exact⟨by rw[E.out];rfl,_,rfl⟩
   (try rw[d1]at C1)
   have E:Hid ((!tq N.agents (jD xs k))=true):=by show _=_;rw[EP.out,d1];rfl
   go_wp2_with (first|(go_at_call 152;with_reducible refine(C1.out.at_ _).mono ?_;rintro _ _ ⟨rfl,e,rfl⟩))
   repeat (refine ay _ (by kernel_rfl) (by kernel_rfl) ?_;(repeat (go_big_quiet_step ((first|with_reducible exact C1.out.at_ _))));refine wpQuiet_nil ?_;intro e;go_wp2_with (first|(go_at_call 152;with_reducible refine(C1.out.at_ _).mono ?_;rintro _ _ ⟨rfl,e,rfl⟩)))
   exact⟨⟨k+1,by omega,by go_num,gT hf E.out,_,rfl⟩,by simp[intOf];omega⟩
  ·have:n=k:=by omega
   subst this;have E:Hid (idxOf n (fun k=>tq N.agents (jD xs k))= -1):=by show _=_;exact qy hf
   go_wp2_with fail
   repeat (refine ay _ (by kernel_rfl) (by kernel_rfl) ?_;(repeat (go_big_quiet_step (fail)));refine wpQuiet_nil ?_;intro e;go_wp2_with fail)
   go_ret;exact⟨by rw[E.out];rfl,_,rfl⟩
theorem xG(xs:List aG)(n:Nat){A:Option Addr}{c:Nat}{bs:List Nat}(N:aQ)(nb no:Nat)(nbs:List Nat)(w:World)(hx:T1 w (.sl n (xs.flatMap aG.enc)) bs (.slice A n c))(Hl:Hid (xs.length=n))(hN:fU w nb no N.enc nbs)(hin:∀(k:Nat) (y:aG),xs[k]? =some y→iB N.agents y=true):Calls Tryz.prog 150 #[.slice A n c,.func (.func 152) #[] #[.pointer (some ⟨nb,no,none⟩)]] w fun e w'=>e=.returned (.bool (ou n (fun k=>tq N.agents (jD xs k))))∧Ext w w':=by
 refine aT fun e=> ?_
 have C1:Hid (QC Tryz.prog w _ _ _):=fun W hW=>Al xs n N nb no nbs W (hx.below hW) Hl (hN.ext hW) hin
 have hc:=zx n (fun k=>tq N.agents (jD xs k))
 go_enter Tryz.func150,Tryz.ntmps150
 go_wp2_with (first|(go_at_call 184;with_reducible refine(C1.out.at_ _).mono ?_;rintro _ _ ⟨rfl,e,rfl⟩))
 repeat (refine ay _ (by kernel_rfl) (by kernel_rfl) ?_;(repeat (go_big_quiet_step ((first|with_reducible exact C1.out.at_ _))));refine wpQuiet_nil ?_;intro e;go_wp2_with (first|(go_at_call 184;with_reducible refine(C1.out.at_ _).mono ?_;rintro _ _ ⟨rfl,e,rfl⟩)))
 go_ret;exact⟨by rw[←hc];rfl,_,rfl⟩
theorem tL(x:aQ){bs us}(w:World)(h:TN w x.enc bs us):Calls Tryz.prog 95 #[.agg us.toArray] w fun e w'=>e=.returned (.bool (iE x))∧Ext w w':=by
 refine aT fun e=> ?_
 obtain⟨P0,p0,q0,rfl,_⟩:=aQ.us (x:=x) h
 go_enter Tryz.func95,Tryz.ntmps95
 go_upto_region 1 with(fail)
 generalize hgg:e.to.heap.size=g;refine gU e hgg (fun w1 e hx1 hgeg hltg cg=> ?_);clear hgg
 replace h:=h.below hx1
 have p:=fU.box hltg cg h;clear cg h;obtain⟨A0,c0,b0,h0,t0⟩:=aQ.PE p;have C1:Hid (QC Tryz.prog w1 _ _ _):=fun W hW=>EO x.agents _ W (t0.below hW) jy
 cases d1:fD x.agents
 case false=>
  (try rw[d1]at C1)
  have E:Hid (iE x=false):=by show _=_;simp[iE,d1]
  go_wp2_with (first|(go_at_call 149;with_reducible refine(C1.out.at_ _).mono ?_;rintro _ _ ⟨rfl,e,rfl⟩))
  repeat (refine ay _ (by kernel_rfl) (by kernel_rfl) ?_;(repeat (go_big_quiet_step ((first|with_reducible exact C1.out.at_ _))));refine wpQuiet_nil ?_;intro e;go_wp2_with (first|(go_at_call 149;with_reducible refine(C1.out.at_ _).mono ?_;rintro _ _ ⟨rfl,e,rfl⟩)))
  go_ret;exact⟨by rw[E.out];rfl,bf.old hx1 e⟩
 (try rw[d1]at C1)
 have EV:Hid (iE x= !ou (d9 x.agents x.agents.length).length (fun k=>tq x.agents (jD (d9 x.agents x.agents.length) k))):=LK x d1
 go_wp2_with (first|(go_at_call 149;with_reducible refine(C1.out.at_ _).mono ?_;rintro _ _ ⟨rfl,e,rfl⟩))
 repeat (refine ay _ (by kernel_rfl) (by kernel_rfl) ?_;(repeat (go_big_quiet_step ((first|with_reducible exact C1.out.at_ _))));refine wpQuiet_nil ?_;intro e;go_wp2_with (first|(go_at_call 149;with_reducible refine(C1.out.at_ _).mono ?_;rintro _ _ ⟨rfl,e,rfl⟩)))
 refine(Pz x g 0 _ _ (p.ext e.h) d1).mono ?_;rintro _ w2 ⟨hx2,A,c,bs',rfl,ht⟩;have hq:=Ext.trans e.h hx2;clear C1
 replace p:=p.ext hq
 have hy2:=Ext.trans hx1 hq;obtain⟨e,he⟩:∃e:bf w2,w2=e.to:=⟨⟨w2,Below.refl _ _⟩,rfl⟩;have C2:Hid (QC Tryz.prog w2 _ _ _):=fun W hW=>xG (d9 x.agents x.agents.length) _ x g 0 _ W (ht.below hW) jy (p.ext hW) (fun k y hy=>Mc hy)
 go_wp2_with (first|(go_at_call 150;with_reducible refine(C2.out.at_ _).mono ?_;rintro _ _ ⟨rfl,e,rfl⟩))
 repeat (refine ay _ (by kernel_rfl) (by kernel_rfl) ?_;(repeat (go_big_quiet_step ((first|with_reducible exact C2.out.at_ _))));refine wpQuiet_nil ?_;intro e;go_wp2_with (first|(go_at_call 150;with_reducible refine(C2.out.at_ _).mono ?_;rintro _ _ ⟨rfl,e,rfl⟩)))
 go_ret;refine⟨by rw[EV.out];rfl,?_⟩
 first|exact bf.old hy2 e|exact bf.old hy2 ⟨_,Below.refl _ _⟩
theorem EY(x:aB)(b o:Nat)(bs:List Nat)(w:World)(h:fU w b o x.enc bs):Calls Tryz.prog 175 #[.pointer (some ⟨b,o,none⟩)] w fun e w'=>e=.returned (.int .i64 (fieldsOf x))∧Ext w w':=by
 refine aT fun e=> ?_
 obtain⟨A3,c3,b3,A4,c4,b4,h0,h1,h2,h3,h4,t3,t4⟩:=aB.pt h
 go_enter Tryz.func175,Tryz.ntmps175
 have hn4:=t4.xI;cases d1:(x.kind==9)
 case false=>
  have E:Hid (fieldsOf x=0):=by show _=_;simp at d1;simp[fieldsOf,eP,d1]
  go_wp2_with fail
  repeat (refine ay _ (by kernel_rfl) (by kernel_rfl) ?_;(repeat (go_big_quiet_step (fail)));refine wpQuiet_nil ?_;intro e;go_wp2_with fail)
  go_ret;exact⟨by rw[E.out];rfl,_,rfl⟩
 have E:Hid (fieldsOf x=(x.aJ.length:Int)-1):=by show _=_;simp at d1;simp[fieldsOf,eP,d1]
 go_wp2_with fail
 repeat (refine ay _ (by kernel_rfl) (by kernel_rfl) ?_;(repeat (go_big_quiet_step (fail)));refine wpQuiet_nil ?_;intro e;go_wp2_with fail)
 go_ret;exact⟨by rw[E.out];rfl,_,rfl⟩
theorem BH(k f:Int)(w:World):Calls Tryz.prog 194 #[.int .i64 k,.int .i64 f] w fun e w'=>e=.returned (.int .i64 (dz k f))∧Ext w w':=by
 refine aT fun e=> ?_
 have C1:Hid (QC Tryz.prog w _ _ _):=fun W hW=>(nu f 0 3 W).q
 cases d1:dX f 0 3
 case true=>
  have hf:=iU d1
  go_enter Tryz.func194,Tryz.ntmps194
  go_wp2_with (first|(go_at_call 87;with_reducible refine(C1.out.at_ _).mono ?_;rintro _ _ ⟨rfl,e,rfl⟩))
  repeat (refine ay _ (by kernel_rfl) (by kernel_rfl) ?_;(repeat (go_big_quiet_step ((first|with_reducible exact C1.out.at_ _))));refine wpQuiet_nil ?_;intro e;go_wp2_with (first|(go_at_call 87;with_reducible refine(C1.out.at_ _).mono ?_;rintro _ _ ⟨rfl,e,rfl⟩)))
  all_goals go_ret
  all_goals refine⟨?_,_,rfl⟩
  all_goals first|(simp[dz, *];done)|(simp[dz, *];omega)|(simp_all [dz];done)|(simp_all [dz];omega)
 go_enter Tryz.func194,Tryz.ntmps194
 go_wp2_with (first|(go_at_call 87;with_reducible refine(C1.out.at_ _).mono ?_;rintro _ _ ⟨rfl,e,rfl⟩))
 repeat (refine ay _ (by kernel_rfl) (by kernel_rfl) ?_;(repeat (go_big_quiet_step ((first|with_reducible exact C1.out.at_ _))));refine wpQuiet_nil ?_;intro e;go_wp2_with (first|(go_at_call 87;with_reducible refine(C1.out.at_ _).mono ?_;rintro _ _ ⟨rfl,e,rfl⟩)))
 all_goals go_ret
 all_goals refine⟨?_,_,rfl⟩
 all_goals first|(simp[dz, *];done)|(simp[dz, *];omega)|(simp_all [dz];done)|(simp_all [dz];omega)
theorem Ig(x:aB)(b o:Nat)(bs:List Nat)(w:World)(h:fU w b o x.enc bs):Calls Tryz.prog 172 #[.pointer (some ⟨b,o,none⟩)] w fun e w'=>e=.returned (.bool (dQ x))∧Ext w w':=by
 refine aT fun e=> ?_
 obtain⟨A3,c3,b3,A4,c4,b4,h0,h1,h2,h3,h4,t3,t4⟩:=aB.pt h;have hn4:=t4.xI;have C1:Hid (QC Tryz.prog w _ _ _):=fun W hW=>EY x b o _ W (h.ext hW)
 have C2:Hid (QC Tryz.prog w _ _ _):=fun W hW=>C8 x b o _ W (h.ext hW)
 have C3:Hid (QC Tryz.prog w _ _ _):=fun W hW=>BH x.kind (fieldsOf x) W
 have C4:Hid (QC Tryz.prog w _ _ _):=fun W hW=>(Ie x.kind x.level W).q
 go_enter Tryz.func172,Tryz.ntmps172
 cases d1:decide (0<dz x.kind (fieldsOf x))
 case false=>
  (try rw[d1]at C1);(try rw[d1]at C2);(try rw[d1]at C3);(try rw[d1]at C4)
  have E:Hid (dQ x=false):=by show _=_;first|(simp only[dQ,d1];done)|(simp only[dQ,d1];rfl)|(simp[dQ,d1];done)|((try simp at d1);simp[dQ,d1];done)
  go_wp2_with (first|(go_at_call 175;with_reducible refine(C1.out.at_ _).mono ?_;rintro _ _ ⟨rfl,e,rfl⟩)|(go_at_call 196;with_reducible refine(C2.out.at_ _).mono ?_;rintro _ _ ⟨rfl,e,rfl⟩)|(go_at_call 194;with_reducible refine(C3.out.at_ _).mono ?_;rintro _ _ ⟨rfl,e,rfl⟩)|(go_at_call 195;with_reducible refine(C4.out.at_ _).mono ?_;rintro _ _ ⟨rfl,e,rfl⟩))
  repeat (refine ay _ (by kernel_rfl) (by kernel_rfl) ?_;(repeat (go_big_quiet_step ((first|with_reducible exact C1.out.at_ _|with_reducible exact C2.out.at_ _|with_reducible exact C3.out.at_ _|with_reducible exact C4.out.at_ _))));refine wpQuiet_nil ?_;intro e;go_wp2_with (first|(go_at_call 175;with_reducible refine(C1.out.at_ _).mono ?_;rintro _ _ ⟨rfl,e,rfl⟩)|(go_at_call 196;with_reducible refine(C2.out.at_ _).mono ?_;rintro _ _ ⟨rfl,e,rfl⟩)|(go_at_call 194;with_reducible refine(C3.out.at_ _).mono ?_;rintro _ _ ⟨rfl,e,rfl⟩)|(go_at_call 195;with_reducible refine(C4.out.at_ _).mono ?_;rintro _ _ ⟨rfl,e,rfl⟩)))
  go_ret;exact⟨by rw[E.out];rfl,_,rfl⟩
 (try rw[d1]at C1);(try rw[d1]at C2);(try rw[d1]at C3);(try rw[d1]at C4)
 cases d2:((x.aJ.length:Int)==dz x.kind (fieldsOf x))
 case false=>
  (try rw[d2]at C1);(try rw[d2]at C2);(try rw[d2]at C3);(try rw[d2]at C4)
  have E:Hid (dQ x=false):=by show _=_;first|(simp only[dQ,d1,d2];done)|(simp only[dQ,d1,d2];rfl)|(simp[dQ,d1,d2];done)|((try simp at d1);(try simp at d2);simp[dQ,d1,d2];done)
  go_wp2_with (first|(go_at_call 175;with_reducible refine(C1.out.at_ _).mono ?_;rintro _ _ ⟨rfl,e,rfl⟩)|(go_at_call 196;with_reducible refine(C2.out.at_ _).mono ?_;rintro _ _ ⟨rfl,e,rfl⟩)|(go_at_call 194;with_reducible refine(C3.out.at_ _).mono ?_;rintro _ _ ⟨rfl,e,rfl⟩)|(go_at_call 195;with_reducible refine(C4.out.at_ _).mono ?_;rintro _ _ ⟨rfl,e,rfl⟩))
  repeat (refine ay _ (by kernel_rfl) (by kernel_rfl) ?_;(repeat (go_big_quiet_step ((first|with_reducible exact C1.out.at_ _|with_reducible exact C2.out.at_ _|with_reducible exact C3.out.at_ _|with_reducible exact C4.out.at_ _))));refine wpQuiet_nil ?_;intro e;go_wp2_with (first|(go_at_call 175;with_reducible refine(C1.out.at_ _).mono ?_;rintro _ _ ⟨rfl,e,rfl⟩)|(go_at_call 196;with_reducible refine(C2.out.at_ _).mono ?_;rintro _ _ ⟨rfl,e,rfl⟩)|(go_at_call 194;with_reducible refine(C3.out.at_ _).mono ?_;rintro _ _ ⟨rfl,e,rfl⟩)|(go_at_call 195;with_reducible refine(C4.out.at_ _).mono ?_;rintro _ _ ⟨rfl,e,rfl⟩)))
  go_ret;exact⟨by rw[E.out];rfl,_,rfl⟩
 (try rw[d2]at C1);(try rw[d2]at C2);(try rw[d2]at C3);(try rw[d2]at C4)
 cases d3:cO x.kind x.level
 case false=>
  (try rw[d3]at C1);(try rw[d3]at C2);(try rw[d3]at C3);(try rw[d3]at C4)
  have E:Hid (dQ x=false):=by show _=_;first|(simp only[dQ,d1,d2,d3];done)|(simp only[dQ,d1,d2,d3];rfl)|(simp[dQ,d1,d2,d3];done)|((try simp at d1);(try simp at d2);(try simp at d3);simp[dQ,d1,d2,d3];done)
  go_wp2_with (first|(go_at_call 175;with_reducible refine(C1.out.at_ _).mono ?_;rintro _ _ ⟨rfl,e,rfl⟩)|(go_at_call 196;with_reducible refine(C2.out.at_ _).mono ?_;rintro _ _ ⟨rfl,e,rfl⟩)|(go_at_call 194;with_reducible refine(C3.out.at_ _).mono ?_;rintro _ _ ⟨rfl,e,rfl⟩)|(go_at_call 195;with_reducible refine(C4.out.at_ _).mono ?_;rintro _ _ ⟨rfl,e,rfl⟩))
  repeat (refine ay _ (by kernel_rfl) (by kernel_rfl) ?_;(repeat (go_big_quiet_step ((first|with_reducible exact C1.out.at_ _|with_reducible exact C2.out.at_ _|with_reducible exact C3.out.at_ _|with_reducible exact C4.out.at_ _))));refine wpQuiet_nil ?_;intro e;go_wp2_with (first|(go_at_call 175;with_reducible refine(C1.out.at_ _).mono ?_;rintro _ _ ⟨rfl,e,rfl⟩)|(go_at_call 196;with_reducible refine(C2.out.at_ _).mono ?_;rintro _ _ ⟨rfl,e,rfl⟩)|(go_at_call 194;with_reducible refine(C3.out.at_ _).mono ?_;rintro _ _ ⟨rfl,e,rfl⟩)|(go_at_call 195;with_reducible refine(C4.out.at_ _).mono ?_;rintro _ _ ⟨rfl,e,rfl⟩)))
  go_ret;exact⟨by rw[E.out];rfl,_,rfl⟩
 (try rw[d3]at C1);(try rw[d3]at C2);(try rw[d3]at C3);(try rw[d3]at C4)
 have E:Hid (dQ x=gy x):=by show _=_;first|(simp only[dQ,d1,d2,d3];done)|(simp only[dQ,d1,d2,d3];rfl)|(simp[dQ,d1,d2,d3];done)|((try simp at d1);(try simp at d2);(try simp at d3);simp[dQ,d1,d2,d3];done)
 go_wp2_with (first|(go_at_call 175;with_reducible refine(C1.out.at_ _).mono ?_;rintro _ _ ⟨rfl,e,rfl⟩)|(go_at_call 196;with_reducible refine(C2.out.at_ _).mono ?_;rintro _ _ ⟨rfl,e,rfl⟩)|(go_at_call 194;with_reducible refine(C3.out.at_ _).mono ?_;rintro _ _ ⟨rfl,e,rfl⟩)|(go_at_call 195;with_reducible refine(C4.out.at_ _).mono ?_;rintro _ _ ⟨rfl,e,rfl⟩))
 repeat (refine ay _ (by kernel_rfl) (by kernel_rfl) ?_;(repeat (go_big_quiet_step ((first|with_reducible exact C1.out.at_ _|with_reducible exact C2.out.at_ _|with_reducible exact C3.out.at_ _|with_reducible exact C4.out.at_ _))));refine wpQuiet_nil ?_;intro e;go_wp2_with (first|(go_at_call 175;with_reducible refine(C1.out.at_ _).mono ?_;rintro _ _ ⟨rfl,e,rfl⟩)|(go_at_call 196;with_reducible refine(C2.out.at_ _).mono ?_;rintro _ _ ⟨rfl,e,rfl⟩)|(go_at_call 194;with_reducible refine(C3.out.at_ _).mono ?_;rintro _ _ ⟨rfl,e,rfl⟩)|(go_at_call 195;with_reducible refine(C4.out.at_ _).mono ?_;rintro _ _ ⟨rfl,e,rfl⟩)))
 go_ret;exact⟨by rw[E.out];rfl,_,rfl⟩
theorem EX(xs:List aB)(n:Nat){A:Option Addr}{c:Nat}{bs:List Nat}(w:World)(hx:T1 w (.sl n (xs.flatMap aB.enc)) bs (.slice A n c))(Hl:Hid (xs.length=n)):Calls Tryz.prog 133 #[.slice A n c] w fun e w'=>e=.returned (.bool (fD xs))∧Ext w w':=by
 refine aT fun e=> ?_
 have hn:=hx.xI;have EV:Hid (fD xs=(dX n 1 600&&eu n (gW xs))):=by show _=_;rw[←Hl.out];rfl
 have C1:Hid (QC Tryz.prog w _ _ _):=fun W hW=>(nu n 1 600 W).q
 go_enter Tryz.func133,Tryz.ntmps133
 cases d1:dX n 1 600
 case false=>
  (try rw[d1]at C1)
  have E:Hid (fD xs=false):=by show _=_;rw[EV.out,d1];rfl
  go_wp2_with (first|(go_at_call 87;with_reducible refine(C1.out.at_ _).mono ?_;rintro _ _ ⟨rfl,e,rfl⟩))
  repeat (refine ay _ (by kernel_rfl) (by kernel_rfl) ?_;(repeat (go_big_quiet_step ((first|with_reducible exact C1.out.at_ _))));refine wpQuiet_nil ?_;intro e;go_wp2_with (first|(go_at_call 87;with_reducible refine(C1.out.at_ _).mono ?_;rintro _ _ ⟨rfl,e,rfl⟩)))
  go_ret;exact⟨by rw[E.out];rfl,_,rfl⟩
 (try rw[d1]at C1)
 go_wp2_with (first|(go_at_call 87;with_reducible refine(C1.out.at_ _).mono ?_;rintro _ _ ⟨rfl,e,rfl⟩))
 repeat (refine ay _ (by kernel_rfl) (by kernel_rfl) ?_;(repeat (go_big_quiet_step ((first|with_reducible exact C1.out.at_ _))));refine wpQuiet_nil ?_;intro e;go_wp2_with (first|(go_at_call 87;with_reducible refine(C1.out.at_ _).mono ?_;rintro _ _ ⟨rfl,e,rfl⟩)))
 go_loopw [3] (fun i w'=>∃k:Nat,k≤n∧i=.int .i64 k∧Hid (eu k (gW xs)=true)∧∃e:bf w,w'=e.to) (fun i _=>n-(intOf i).toNat)
 case atStart=>exact⟨0,Nat.zero_le _,rfl,nI _,_,rfl⟩
 case round=>
  obtain⟨k,hk,rfl,hfk,e,rfl⟩:=hrel
  by_cases hltk:k<n
  ·skip
   obtain⟨b,off,x,bs',rfl,hxk,hp⟩:=T1.elem aB.bF hx Hl hltk;obtain⟨A3,c3,b3,A4,c4,b4,h0,h1,h2,h3,h4,t3,t4⟩:=aB.pt hp;clear h1 h2 h3 h4 t3 t4;have C2:Hid (QC Tryz.prog w _ _ _):=fun W hW=>Ig x b (off+k*5) _ W (hp.ext hW)
   have EK:Hid (gW xs k=(dQ x&&((x.kind==1)==((k:Int)==0)))):=by show _=_;rw[gW,jW hxk]
   cases d2:dQ x
   case false=>
    (try rw[d2]at C1);(try rw[d2]at C2)
    have E:Hid (fD xs=false):=by show _=_;rw[EV.out,iW hltk (by rw[EK.out,d2];rfl)];simp
    go_wp2_with (first|(go_at_call 87;with_reducible refine(C1.out.at_ _).mono ?_;rintro _ _ ⟨rfl,e,rfl⟩)|(go_at_call 172;with_reducible refine(C2.out.at_ _).mono ?_;rintro _ _ ⟨rfl,e,rfl⟩))
    repeat (refine ay _ (by kernel_rfl) (by kernel_rfl) ?_;(repeat (go_big_quiet_step ((first|with_reducible exact C1.out.at_ _|with_reducible exact C2.out.at_ _))));refine wpQuiet_nil ?_;intro e;go_wp2_with (first|(go_at_call 87;with_reducible refine(C1.out.at_ _).mono ?_;rintro _ _ ⟨rfl,e,rfl⟩)|(go_at_call 172;with_reducible refine(C2.out.at_ _).mono ?_;rintro _ _ ⟨rfl,e,rfl⟩)))
    go_ret;exact⟨by rw[E.out];rfl,_,rfl⟩
   (try rw[d2]at C1);(try rw[d2]at C2)
   cases d3:(x.kind==1)
   case false=>
    (try rw[d3]at C1);(try rw[d3]at C2)
    cases d4:((k:Int)==0)
    case true=>
     (try rw[d4]at C1);(try rw[d4]at C2)
     have E:Hid (fD xs=false):=by show _=_;rw[EV.out,iW hltk (by rw[EK.out,d2,d3,d4];rfl)];simp
     go_wp2_with (first|(go_at_call 87;with_reducible refine(C1.out.at_ _).mono ?_;rintro _ _ ⟨rfl,e,rfl⟩)|(go_at_call 172;with_reducible refine(C2.out.at_ _).mono ?_;rintro _ _ ⟨rfl,e,rfl⟩))
     repeat (refine ay _ (by kernel_rfl) (by kernel_rfl) ?_;(repeat (go_big_quiet_step ((first|with_reducible exact C1.out.at_ _|with_reducible exact C2.out.at_ _))));refine wpQuiet_nil ?_;intro e;go_wp2_with (first|(go_at_call 87;with_reducible refine(C1.out.at_ _).mono ?_;rintro _ _ ⟨rfl,e,rfl⟩)|(go_at_call 172;with_reducible refine(C2.out.at_ _).mono ?_;rintro _ _ ⟨rfl,e,rfl⟩)))
     go_ret;exact⟨by rw[E.out];rfl,_,rfl⟩
    (try rw[d4]at C1);(try rw[d4]at C2)
    have E:Hid (gW xs k=true):=by show _=_;rw[EK.out,d2,d3,d4];rfl
    go_wp2_with (first|(go_at_call 87;with_reducible refine(C1.out.at_ _).mono ?_;rintro _ _ ⟨rfl,e,rfl⟩)|(go_at_call 172;with_reducible refine(C2.out.at_ _).mono ?_;rintro _ _ ⟨rfl,e,rfl⟩))
    repeat (refine ay _ (by kernel_rfl) (by kernel_rfl) ?_;(repeat (go_big_quiet_step ((first|with_reducible exact C1.out.at_ _|with_reducible exact C2.out.at_ _))));refine wpQuiet_nil ?_;intro e;go_wp2_with (first|(go_at_call 87;with_reducible refine(C1.out.at_ _).mono ?_;rintro _ _ ⟨rfl,e,rfl⟩)|(go_at_call 172;with_reducible refine(C2.out.at_ _).mono ?_;rintro _ _ ⟨rfl,e,rfl⟩)))
    exact⟨⟨k+1,by omega,by go_num,gT hfk E.out,_,rfl⟩,by simp[intOf];omega⟩
   (try rw[d3]at C1);(try rw[d3]at C2)
   cases d5:((k:Int)==0)
   case false=>
    (try rw[d5]at C1);(try rw[d5]at C2)
    have E:Hid (fD xs=false):=by show _=_;rw[EV.out,iW hltk (by rw[EK.out,d2,d3,d5];rfl)];simp
    go_wp2_with (first|(go_at_call 87;with_reducible refine(C1.out.at_ _).mono ?_;rintro _ _ ⟨rfl,e,rfl⟩)|(go_at_call 172;with_reducible refine(C2.out.at_ _).mono ?_;rintro _ _ ⟨rfl,e,rfl⟩))
    repeat (refine ay _ (by kernel_rfl) (by kernel_rfl) ?_;(repeat (go_big_quiet_step ((first|with_reducible exact C1.out.at_ _|with_reducible exact C2.out.at_ _))));refine wpQuiet_nil ?_;intro e;go_wp2_with (first|(go_at_call 87;with_reducible refine(C1.out.at_ _).mono ?_;rintro _ _ ⟨rfl,e,rfl⟩)|(go_at_call 172;with_reducible refine(C2.out.at_ _).mono ?_;rintro _ _ ⟨rfl,e,rfl⟩)))
    go_ret;exact⟨by rw[E.out];rfl,_,rfl⟩
   (try rw[d5]at C1);(try rw[d5]at C2)
   have E:Hid (gW xs k=true):=by show _=_;rw[EK.out,d2,d3,d5];rfl
   go_wp2_with (first|(go_at_call 87;with_reducible refine(C1.out.at_ _).mono ?_;rintro _ _ ⟨rfl,e,rfl⟩)|(go_at_call 172;with_reducible refine(C2.out.at_ _).mono ?_;rintro _ _ ⟨rfl,e,rfl⟩))
   repeat (refine ay _ (by kernel_rfl) (by kernel_rfl) ?_;(repeat (go_big_quiet_step ((first|with_reducible exact C1.out.at_ _|with_reducible exact C2.out.at_ _))));refine wpQuiet_nil ?_;intro e;go_wp2_with (first|(go_at_call 87;with_reducible refine(C1.out.at_ _).mono ?_;rintro _ _ ⟨rfl,e,rfl⟩)|(go_at_call 172;with_reducible refine(C2.out.at_ _).mono ?_;rintro _ _ ⟨rfl,e,rfl⟩)))
   exact⟨⟨k+1,by omega,by go_num,gT hfk E.out,_,rfl⟩,by simp[intOf];omega⟩
  ·have:n=k:=by omega
   subst this;have E:Hid (fD xs=true):=by show _=_;rw[EV.out,d1,hfk.out];rfl
   go_wp2_with (first|(go_at_call 87;with_reducible refine(C1.out.at_ _).mono ?_;rintro _ _ ⟨rfl,e,rfl⟩))
   repeat (refine ay _ (by kernel_rfl) (by kernel_rfl) ?_;(repeat (go_big_quiet_step ((first|with_reducible exact C1.out.at_ _))));refine wpQuiet_nil ?_;intro e;go_wp2_with (first|(go_at_call 87;with_reducible refine(C1.out.at_ _).mono ?_;rintro _ _ ⟨rfl,e,rfl⟩)))
   go_ret;exact⟨by rw[E.out];rfl,_,rfl⟩
theorem J2(xs:List aB)(n:Nat){A:Option Addr}{c:Nat}{bs:List Nat}(p:aG)(w:World)(hx:T1 w (.sl n (xs.flatMap aB.enc)) bs (.slice A n c))(Hl:Hid (xs.length=n)):Calls Tryz.prog 134 #[.slice A n c,.agg #[.int .i64 p.agent,.int .i64 p.slot]] w fun e w'=>e=.returned (.bool (iB xs p))∧Ext w w':=by
 refine aT fun e=> ?_
 have hn:=hx.xI;have EV:Hid (iB xs p=(dX p.agent 0 ((n:Int)-1)&&dX p.slot 0 (((gV xs p.agent.toNat).aJ.length:Int)-1))):=by show _=_;rw[←Hl.out];rfl
 go_enter Tryz.func134,Tryz.ntmps134
 go_upto_region 1 with(fail)
 generalize hgg:e.to.heap.size=g;refine gU e hgg (fun w1 e hx1 hgeg hltg cg=> ?_);clear hgg
 replace hx:=hx.below hx1
 obtain⟨k0,k1⟩:=aG.PE (fU.box hltg cg aG.zU);have C1:Hid (QC Tryz.prog w1 _ _ _):=fun W hW=>(nu p.agent 0 ((n:Int)-1) W).q
 cases d1:dX p.agent 0 ((n:Int)-1)
 case false=>
  (try rw[d1]at C1)
  have hw0:IntKind.i64.wrap ((n:Int)-1)=(n:Int)-1:=qO _ (by omega);have E:Hid (iB xs p=false):=by show _=_;rw[EV.out,d1];rfl
  go_wp2_with (first|(go_at_call 87;with_reducible refine(C1.out.at_ _).mono ?_;rintro _ _ ⟨rfl,e,rfl⟩))
  repeat (refine ay _ (by kernel_rfl) (by kernel_rfl) ?_;(repeat (go_big_quiet_step ((first|with_reducible exact C1.out.at_ _))));refine wpQuiet_nil ?_;intro e;go_wp2_with (first|(go_at_call 87;with_reducible refine(C1.out.at_ _).mono ?_;rintro _ _ ⟨rfl,e,rfl⟩)))
  go_ret;exact⟨by rw[E.out];rfl,bf.old hx1 e⟩
 (try rw[d1]at C1)
 have hr:=iU d1;obtain⟨i,hi⟩:=Int.eq_ofNat_of_zero_le hr.1;have hlt:i<n:=by omega
 obtain⟨b,off,x,bs',rfl,hxk,hp⟩:=T1.elem aB.bF hx Hl hlt;obtain⟨A3,c3,b3,A4,c4,b4,h0,h1,h2,h3,h4,t3,t4⟩:=aB.pt hp;have hn4:=t4.xI;clear h0 h1 h2 h3 t3;have EA:Hid (gV xs p.agent.toNat=x):=by show _=_;rw[hi,qK];exact jW hxk
 rw[hi]at k0 d1 C1;have Hi:=Lib.hid hi;clear hi;have C2:Hid (QC Tryz.prog w1 _ _ _):=fun W hW=>(nu p.slot 0 ((x.aJ.length:Int)-1) W).q
 have hw0:IntKind.i64.wrap ((n:Int)-1)=(n:Int)-1:=qO _ (by omega);have hw1:IntKind.i64.wrap ((x.aJ.length:Int)-1)=(x.aJ.length:Int)-1:=qO _ (by omega);have E:Hid (iB xs p=dX p.slot 0 ((x.aJ.length:Int)-1)):=by show _=_;rw[EV.out,EA.out,Hi.out,d1];rfl
 go_wp2_with (first|(go_at_call 87;with_reducible refine(C1.out.at_ _).mono ?_;rintro _ _ ⟨rfl,e,rfl⟩)|(go_at_call 87;with_reducible refine(C2.out.at_ _).mono ?_;rintro _ _ ⟨rfl,e,rfl⟩))
 repeat (refine ay _ (by kernel_rfl) (by kernel_rfl) ?_;(repeat (go_big_quiet_step ((first|with_reducible exact C1.out.at_ _|with_reducible exact C2.out.at_ _))));refine wpQuiet_nil ?_;intro e;go_wp2_with (first|(go_at_call 87;with_reducible refine(C1.out.at_ _).mono ?_;rintro _ _ ⟨rfl,e,rfl⟩)|(go_at_call 87;with_reducible refine(C2.out.at_ _).mono ?_;rintro _ _ ⟨rfl,e,rfl⟩)))
 go_ret;exact⟨by rw[E.out];rfl,bf.old hx1 e⟩
theorem FU(x:aQ)(b o:Nat)(bs:List Nat)(w:World)(h:fU w b o x.enc bs):Calls Tryz.prog 85 #[.pointer (some ⟨b,o,none⟩)] w fun e w'=>e=.returned (.bool (iE x))∧Ext w w':=by
 refine aT fun e=> ?_
 obtain⟨A0,c0,b0,h0,t0⟩:=aQ.pt h;have hn0:=t0.xI;have EV:Hid (iE x=(fD x.agents&&eu x.agents.length (pI x.agents))):=rfl;have C1:Hid (QC Tryz.prog w _ _ _):=fun W hW=>EX x.agents _ W (t0.below hW) jy
 go_enter Tryz.func85,Tryz.ntmps85
 cases d1:fD x.agents
 case false=>
  (try rw[d1]at C1)
  have E:Hid (iE x=false):=by show _=_;rw[EV.out,d1];rfl
  go_wp2_with (first|(go_at_call 133;with_reducible refine(C1.out.at_ _).mono ?_;rintro _ _ ⟨rfl,e,rfl⟩))
  repeat (refine ay _ (by kernel_rfl) (by kernel_rfl) ?_;(repeat (go_big_quiet_step ((first|with_reducible exact C1.out.at_ _))));refine wpQuiet_nil ?_;intro e;go_wp2_with (first|(go_at_call 133;with_reducible refine(C1.out.at_ _).mono ?_;rintro _ _ ⟨rfl,e,rfl⟩)))
  go_ret;exact⟨by rw[E.out];rfl,_,rfl⟩
 (try rw[d1]at C1)
 go_wp2_with (first|(go_at_call 133;with_reducible refine(C1.out.at_ _).mono ?_;rintro _ _ ⟨rfl,e,rfl⟩))
 repeat (refine ay _ (by kernel_rfl) (by kernel_rfl) ?_;(repeat (go_big_quiet_step ((first|with_reducible exact C1.out.at_ _))));refine wpQuiet_nil ?_;intro e;go_wp2_with (first|(go_at_call 133;with_reducible refine(C1.out.at_ _).mono ?_;rintro _ _ ⟨rfl,e,rfl⟩)))
 go_loopw [3] (fun i w'=>∃k:Nat,k≤x.agents.length∧i=.int .i64 k∧Hid (eu k (pI x.agents)=true)∧∃e:bf w,w'=e.to) (fun i _=>x.agents.length-(intOf i).toNat)
 case atStart=>exact⟨0,Nat.zero_le _,rfl,nI _,_,rfl⟩
 case round=>
  obtain⟨k,hk,rfl,hfk,e,rfl⟩:=hrel
  by_cases hltk:k<x.agents.length
  ·skip
   obtain⟨b',off,y,bs',rfl,hyk,hp⟩:=T1.elem aB.bF t0 jy hltk;obtain⟨A3,c3,b3,A4,c4,b4,g0,g1,g2,g3,g4,t3,t4⟩:=aB.pt hp;have hn4:=t4.xI;clear g0 g1 g2 g3 t3;have EK:Hid (pI x.agents k=eu y.aJ.length fun j=>oL x.agents ⟨k,j⟩ (jD y.aJ j)):=by show _=_;rw[pI,jW hyk]
   go_wp2_with fail
   repeat (refine ay _ (by kernel_rfl) (by kernel_rfl) ?_;(repeat (go_big_quiet_step (fail)));refine wpQuiet_nil ?_;intro e;go_wp2_with fail)
   go_loopw [5] (fun i w'=>∃j:Nat,j≤y.aJ.length∧i=.int .i64 j∧Hid (eu j (fun j=>oL x.agents ⟨k,j⟩ (jD y.aJ j))=true)∧∃e:bf w,w'=e.to) (fun i _=>y.aJ.length-(intOf i).toNat)
   case atStart=>exact⟨0,Nat.zero_le _,rfl,nI _,_,rfl⟩
   case round=>
    obtain⟨j,hj,rfl,hfj,e,rfl⟩:=hrel
    by_cases hltj:j<y.aJ.length
    ·skip
     obtain⟨bq,oq,q,bs2,rfl,hqj,hq⟩:=T1.elem aG.bF t4 jy hltj;obtain⟨q0,q1⟩:=aG.pt hq;have EJ:Hid (oL x.agents ⟨k,j⟩ (jD y.aJ j)=oL x.agents ⟨k,j⟩ q):=by show _=_;rw[uw hqj]
     go_upto_region 11 with(fail)
     generalize hgga:e.to.heap.size=ga;refine gU e hgga (fun w1 e hx1 hgega hltga cga=> ?_);clear hgga
     replace h0:=h0.ext hx1
     replace g4:=g4.ext hx1
     replace q0:=q0.ext hx1
     replace q1:=q1.ext hx1
     replace t0:=t0.below hx1
     replace t4:=t4.below hx1
     obtain⟨k0,k1⟩:=aG.PE (x:=⟨k,j⟩) (fU.box hltga cga aG.zU);simp only[]at k0 k1;clear cga
     go_upto_region 12 with(fail)
     generalize hggb:e.to.heap.size=gb;refine gU e hggb (fun w2 e hx2 hgegb hltgb cgb=> ?_);clear hggb
     replace h0:=h0.ext hx2
     replace g4:=g4.ext hx2
     replace k0:=k0.ext hx2
     replace k1:=k1.ext hx2
     replace t0:=t0.below hx2
     replace t4:=t4.below hx2
     have hy2:=Ext.trans hx1 hx2;obtain⟨p0,p1⟩:=aG.PE (x:=q) (fU.box hltgb cgb aG.zU);clear cgb q0 q1;have hg:=V6;have heq:=fun W=>Ob W q ⟨k,j⟩
     dsimp only at heq;have C2:Hid (QC Tryz.prog w2 _ _ _):=fun W hW=>J2 x.agents _ q W (t0.below hW) jy
     cases d2:wS q ⟨k,j⟩
     case true=>
      (try rw[d2]at C2)
      have E:Hid (iE x=false):=by show _=_;rw[EV.out,iW hltk (by rw[EK.out];exact iW hltj (by rw[EJ.out];simp[oL,d2]))];simp
      go_wp2_with (first|(go_at_call 134;with_reducible refine(C2.out.at_ _).mono ?_;rintro _ _ ⟨rfl,e,rfl⟩))
      repeat (refine ay _ (by kernel_rfl) (by kernel_rfl) ?_;(repeat (go_big_quiet_step ((first|with_reducible exact C2.out.at_ _))));refine wpQuiet_nil ?_;intro e;go_wp2_with (first|(go_at_call 134;with_reducible refine(C2.out.at_ _).mono ?_;rintro _ _ ⟨rfl,e,rfl⟩)))
      go_ret;exact⟨by rw[E.out];rfl,bf.old hy2 e⟩
     (try rw[d2]at C2)
     cases d3:iB x.agents q
     case false=>
      (try rw[d3]at C2)
      have E:Hid (iE x=false):=by show _=_;rw[EV.out,iW hltk (by rw[EK.out];exact iW hltj (by rw[EJ.out];simp[oL,d2,d3]))];simp
      go_wp2_with (first|(go_at_call 134;with_reducible refine(C2.out.at_ _).mono ?_;rintro _ _ ⟨rfl,e,rfl⟩))
      repeat (refine ay _ (by kernel_rfl) (by kernel_rfl) ?_;(repeat (go_big_quiet_step ((first|with_reducible exact C2.out.at_ _))));refine wpQuiet_nil ?_;intro e;go_wp2_with (first|(go_at_call 134;with_reducible refine(C2.out.at_ _).mono ?_;rintro _ _ ⟨rfl,e,rfl⟩)))
      go_ret;exact⟨by rw[E.out];rfl,bf.old hy2 e⟩
     (try rw[d3]at C2)
     obtain⟨i,s,a,r,rfl,hi,ha,hs,hr,hpeer⟩:=Kw d3;have Hpeer:=Lib.hid hpeer;clear hpeer;obtain⟨bz,oz,z,bs3,hA0,hzi,hz⟩:=T1.elem aB.bF t0 jy hi;obtain⟨_,rfl⟩:True∧z=a:=⟨trivial,Option.some.inj (hzi.out.symm.trans ha.out)⟩;obtain⟨rfl,rfl⟩:b'=bz∧off=oz:=by simpa using hA0
     clear hA0;obtain⟨A3,c3,b3,A5,c5,b5,u0,u1,u2,u3,u4,t3,t5⟩:=aB.pt hz;have hn5:=t5.xI;clear u0 u1 u2 u3 t3;obtain⟨bt,ot,r',bs4,rfl,hrs,hrr⟩:=T1.elem aG.bF t5 jy hs;obtain⟨_,rfl⟩:True∧r'=r:=⟨trivial,Option.some.inj (hrs.out.symm.trans hr.out)⟩;obtain⟨r0,r1⟩:=aG.pt hrr;have hne:=fun W=>Oc W r' ⟨k,j⟩
     dsimp only at hne;cases d4:wS r' ⟨k,j⟩
     case false=>
      (try rw[d4]at C2)
      have E:Hid (iE x=false):=by show _=_;rw[EV.out,iW hltk (by rw[EK.out];exact iW hltj (by rw[EJ.out];simp[oL,Hpeer.out,d2,d3,d4]))];simp
      go_wp2_with (first|(go_at_call 134;with_reducible refine(C2.out.at_ _).mono ?_;rintro _ _ ⟨rfl,e,rfl⟩))
      repeat (refine ay _ (by kernel_rfl) (by kernel_rfl) ?_;(repeat (go_big_quiet_step ((first|with_reducible exact C2.out.at_ _))));refine wpQuiet_nil ?_;intro e;go_wp2_with (first|(go_at_call 134;with_reducible refine(C2.out.at_ _).mono ?_;rintro _ _ ⟨rfl,e,rfl⟩)))
      go_ret;exact⟨by rw[E.out];rfl,bf.old hy2 e⟩
     (try rw[d4]at C2)
     have E:Hid (oL x.agents ⟨k,j⟩ (jD y.aJ j)=true):=by show _=_;rw[EJ.out];simp[oL,Hpeer.out,d2,d3,d4]
     go_wp2_with (first|(go_at_call 134;with_reducible refine(C2.out.at_ _).mono ?_;rintro _ _ ⟨rfl,e,rfl⟩))
     repeat (refine ay _ (by kernel_rfl) (by kernel_rfl) ?_;(repeat (go_big_quiet_step ((first|with_reducible exact C2.out.at_ _))));refine wpQuiet_nil ?_;intro e;go_wp2_with (first|(go_at_call 134;with_reducible refine(C2.out.at_ _).mono ?_;rintro _ _ ⟨rfl,e,rfl⟩)))
     exact⟨⟨j+1,by omega,by go_num,gT hfj E.out,⟨e.to,hy2.trans e.h⟩,rfl⟩,by simp[intOf];omega⟩
    ·have:y.aJ.length=j:=by omega
     subst this;have E:Hid (pI x.agents k=true):=by show _=_;rw[EK.out];exact hfj.out
     go_wp2_with fail
     repeat (refine ay _ (by kernel_rfl) (by kernel_rfl) ?_;(repeat (go_big_quiet_step (fail)));refine wpQuiet_nil ?_;intro e;go_wp2_with fail)
     exact⟨⟨k+1,by omega,by go_num,gT hfk E.out,_,rfl⟩,by simp[intOf];omega⟩
  ·have:x.agents.length=k:=by omega
   subst this;have E:Hid (iE x=true):=by show _=_;rw[EV.out,d1,hfk.out];rfl
   go_wp2_with fail
   repeat (refine ay _ (by kernel_rfl) (by kernel_rfl) ?_;(repeat (go_big_quiet_step (fail)));refine wpQuiet_nil ?_;intro e;go_wp2_with fail)
   go_ret;exact⟨by rw[E.out];rfl,_,rfl⟩
theorem xK(x:aQ){A:Option Addr}{c:Nat}{bs:List Nat}(w:World)(hx:T1 w (.sl x.agents.length (x.agents.flatMap aB.enc)) bs (.slice A x.agents.length c)):Calls Tryz.prog 148 #[.agg #[.slice A x.agents.length c]] w fun e w'=>e=.returned (.bool ((!iE x)))∧Ext w w':=by
 refine aT fun e=> ?_
 go_enter Tryz.func148,Tryz.ntmps148
 go_upto_region 1 with(fail)
 generalize hgg:e.to.heap.size=g;refine gU e hgg (fun w1 e hx1 hgeg hltg cg=> ?_);clear hgg
 replace hx:=hx.below hx1
 have k0:=cg.always hltg 0 _ rfl;simp only[Nat.zero_add]at k0;clear cg;have C1:Hid (QC Tryz.prog w1 _ _ _):=fun W hW=>tL x W (aQ.zU (hx.below hW))
 go_wp2_with (first|(go_at_call 95;with_reducible refine(C1.out.at_ _).mono ?_;rintro _ _ ⟨rfl,e,rfl⟩))
 repeat (refine ay _ (by kernel_rfl) (by kernel_rfl) ?_;(repeat (go_big_quiet_step ((first|with_reducible exact C1.out.at_ _))));refine wpQuiet_nil ?_;intro e;go_wp2_with (first|(go_at_call 95;with_reducible refine(C1.out.at_ _).mono ?_;rintro _ _ ⟨rfl,e,rfl⟩)))
 go_ret;exact⟨rfl,bf.old hx1 e⟩
theorem yw(xs:List aQ)(n:Nat){A:Option Addr}{c:Nat}{bs:List Nat}(w:World)(hx:T1 w (.sl n (xs.flatMap aQ.enc)) bs (.slice A n c))(Hl:Hid (xs.length=n)):Calls Tryz.prog 182 #[.slice A n c,.func (.func 148) #[] #[]] w fun e w'=>e=.returned (.int .i64 (idxOf n (fun k=> !iE (lU xs k))))∧Ext w w':=by
 refine aT fun e=> ?_
 have hn:=hx.xI
 go_enter Tryz.func182,Tryz.ntmps182
 go_wp2_with fail
 repeat (refine ay _ (by kernel_rfl) (by kernel_rfl) ?_;(repeat (go_big_quiet_step (fail)));refine wpQuiet_nil ?_;intro e;go_wp2_with fail)
 go_loopw [5,8] (fun _ i w'=>∃k:Nat,k≤n∧i=.int .i64 k∧Hid (eu k (fun k=> !!iE (lU xs k))=true)∧∃e:bf w,w'=e.to) (fun _ i _=>n-(intOf i).toNat)
 case atStart=>exact⟨0,Nat.zero_le _,rfl,nI _,_,rfl⟩
 case round=>
  obtain⟨k,hk,rfl,hf,e,rfl⟩:=hrel
  by_cases hlt:k<n
  ·skip
   obtain⟨b,off,x,bs',rfl,hxk,hp⟩:=T1.elem aQ.bF hx Hl hlt;obtain⟨A0,c0,b0,kx0,tx0⟩:=aQ.pt hp;rw[Nat.mul_one]at kx0;have EP:Hid ((!iE (lU xs k))= !iE x):=by show _=_;rw[J9 hxk]
   have C1:Hid (QC Tryz.prog w _ _ _):=fun W hW=>xK x W (tx0.below hW)
   cases d1:(!iE x)
   case true=>
    (try rw[d1]at C1)
    have E:Hid (idxOf n (fun k=> !iE (lU xs k))=(k:Int)):=by show _=_;exact zw hf hlt (by rw[EP.out];exact d1)
    go_wp2_with (first|(go_at_call 148;with_reducible refine(C1.out.at_ _).mono ?_;rintro _ _ ⟨rfl,e,rfl⟩))
    repeat (refine ay _ (by kernel_rfl) (by kernel_rfl) ?_;(repeat (go_big_quiet_step ((first|with_reducible exact C1.out.at_ _))));refine wpQuiet_nil ?_;intro e;go_wp2_with (first|(go_at_call 148;with_reducible refine(C1.out.at_ _).mono ?_;rintro _ _ ⟨rfl,e,rfl⟩)))
    go_ret;exact⟨by rw[E.out];rfl,_,rfl⟩
   (try rw[d1]at C1)
   have E:Hid ((!!iE (lU xs k))=true):=by show _=_;rw[EP.out,d1];rfl
   go_wp2_with (first|(go_at_call 148;with_reducible refine(C1.out.at_ _).mono ?_;rintro _ _ ⟨rfl,e,rfl⟩))
   repeat (refine ay _ (by kernel_rfl) (by kernel_rfl) ?_;(repeat (go_big_quiet_step ((first|with_reducible exact C1.out.at_ _))));refine wpQuiet_nil ?_;intro e;go_wp2_with (first|(go_at_call 148;with_reducible refine(C1.out.at_ _).mono ?_;rintro _ _ ⟨rfl,e,rfl⟩)))
   exact⟨⟨k+1,by omega,by go_num,gT hf E.out,_,rfl⟩,by simp[intOf];omega⟩
  ·have:n=k:=by omega
   subst this;have E:Hid (idxOf n (fun k=> !iE (lU xs k))= -1):=by show _=_;exact qy hf
   go_wp2_with fail
   repeat (refine ay _ (by kernel_rfl) (by kernel_rfl) ?_;(repeat (go_big_quiet_step (fail)));refine wpQuiet_nil ?_;intro e;go_wp2_with fail)
   go_ret;exact⟨by rw[E.out];rfl,_,rfl⟩
theorem vF(xs:List aQ)(n:Nat){A:Option Addr}{c:Nat}{bs:List Nat}(w:World)(hx:T1 w (.sl n (xs.flatMap aQ.enc)) bs (.slice A n c))(Hl:Hid (xs.length=n)):Calls Tryz.prog 147 #[.slice A n c,.func (.func 148) #[] #[]] w fun e w'=>e=.returned (.bool (ou n (fun k=> !iE (lU xs k))))∧Ext w w':=by
 refine aT fun e=> ?_
 have C1:Hid (QC Tryz.prog w _ _ _):=fun W hW=>yw xs n W (hx.below hW) Hl
 have hc:=zx n (fun k=> !iE (lU xs k))
 go_enter Tryz.func147,Tryz.ntmps147
 go_wp2_with (first|(go_at_call 182;with_reducible refine(C1.out.at_ _).mono ?_;rintro _ _ ⟨rfl,e,rfl⟩))
 repeat (refine ay _ (by kernel_rfl) (by kernel_rfl) ?_;(repeat (go_big_quiet_step ((first|with_reducible exact C1.out.at_ _))));refine wpQuiet_nil ?_;intro e;go_wp2_with (first|(go_at_call 182;with_reducible refine(C1.out.at_ _).mono ?_;rintro _ _ ⟨rfl,e,rfl⟩)))
 go_ret;exact⟨by rw[←hc];rfl,_,rfl⟩
theorem yM(xs:List aQ)(n:Nat){A:Option Addr}{c:Nat}{bs:List Nat}(w:World)(hx:T1 w (.sl n (xs.flatMap aQ.enc)) bs (.slice A n c))(Hl:Hid (xs.length=n)):Calls Tryz.prog 94 #[.slice A n c] w fun e w'=>e=.returned (.bool (lG xs))∧Ext w w':=by
 refine aT fun e=> ?_
 have hn:=hx.xI;have EV:Hid (lG xs=(decide ((n:Int)≤24)&&eu n fun k=>iE (lU xs k))):=by show _=_;rw[←Hl.out];rfl
 have hc:(!ou n (fun k=> !iE (lU xs k)))=eu n (fun k=>iE (lU xs k)):=by simp[ou]
 have HC:=Lib.hid hc;clear hc;have C1:Hid (QC Tryz.prog w _ _ _):=fun W hW=>vF xs n W (hx.below hW) Hl
 go_enter Tryz.func94,Tryz.ntmps94
 cases d1:decide ((n:Int)≤24)
 case false=>
  (try rw[d1]at C1)
  have E:Hid (lG xs=false):=by show _=_;rw[EV.out,d1];rfl
  go_wp2_with (first|(go_at_call 147;with_reducible refine(C1.out.at_ _).mono ?_;rintro _ _ ⟨rfl,e,rfl⟩))
  repeat (refine ay _ (by kernel_rfl) (by kernel_rfl) ?_;(repeat (go_big_quiet_step ((first|with_reducible exact C1.out.at_ _))));refine wpQuiet_nil ?_;intro e;go_wp2_with (first|(go_at_call 147;with_reducible refine(C1.out.at_ _).mono ?_;rintro _ _ ⟨rfl,e,rfl⟩)))
  go_ret;exact⟨by rw[E.out];rfl,_,rfl⟩
 (try rw[d1]at C1)
 have E:Hid (lG xs= !ou n (fun k=> !iE (lU xs k))):=by show _=_;rw[EV.out,d1,HC.out];rfl
 go_wp2_with (first|(go_at_call 147;with_reducible refine(C1.out.at_ _).mono ?_;rintro _ _ ⟨rfl,e,rfl⟩))
 repeat (refine ay _ (by kernel_rfl) (by kernel_rfl) ?_;(repeat (go_big_quiet_step ((first|with_reducible exact C1.out.at_ _))));refine wpQuiet_nil ?_;intro e;go_wp2_with (first|(go_at_call 147;with_reducible refine(C1.out.at_ _).mono ?_;rintro _ _ ⟨rfl,e,rfl⟩)))
 go_ret;exact⟨by rw[E.out];rfl,_,rfl⟩
theorem yL(s:Int)(w:World):Calls Tryz.prog 155 #[.int .i64 s] w fun e w'=>e=.returned (.bool ((!dX s 0 600)))∧Ext w w':=by
 refine aT fun e=> ?_
 go_enter Tryz.func155,Tryz.ntmps155
 cases d1:decide (s<0)
 case true=>
  have E:Hid ((!dX s 0 600)=true):=by show _=_;simp at d1;rw[Ak (Or.inl d1)];rfl
  go_wp2_with fail
  repeat (refine ay _ (by kernel_rfl) (by kernel_rfl) ?_;(repeat (go_big_quiet_step (fail)));refine wpQuiet_nil ?_;intro e;go_wp2_with fail)
  go_ret;exact⟨by rw[E.out];rfl,_,rfl⟩
 have E:Hid ((!dX s 0 600)=decide (600<s)):=by show _=_;simp at d1;unfold dX;rw[show decide ((0:Int)≤s)=true by simpa using d1,Bool.true_and];rw[Bool.eq_iff_iff];simp
 go_wp2_with fail
 repeat (refine ay _ (by kernel_rfl) (by kernel_rfl) ?_;(repeat (go_big_quiet_step (fail)));refine wpQuiet_nil ?_;intro e;go_wp2_with fail)
 go_ret;exact⟨by rw[E.out];rfl,_,rfl⟩
theorem CS(xs:List Int)(n:Nat){A:Option Addr}{c:Nat}{bs:List Nat}(w:World)(hx:T1 w (.sl n (xs.flatMap bM)) bs (.slice A n c))(Hl:Hid (xs.length=n)):Calls Tryz.prog 185 #[.slice A n c,.func (.func 155) #[] #[]] w fun e w'=>e=.returned (.int .i64 (idxOf n (fun k=> !dX (dZ xs k) 0 600)))∧Ext w w':=by
 refine aT fun e=> ?_
 have hn:=hx.xI
 go_enter Tryz.func185,Tryz.ntmps185
 go_wp2_with fail
 repeat (refine ay _ (by kernel_rfl) (by kernel_rfl) ?_;(repeat (go_big_quiet_step (fail)));refine wpQuiet_nil ?_;intro e;go_wp2_with fail)
 go_loopw [5,8] (fun _ i w'=>∃k:Nat,k≤n∧i=.int .i64 k∧Hid (eu k (fun k=> !!dX (dZ xs k) 0 600)=true)∧∃e:bf w,w'=e.to) (fun _ i _=>n-(intOf i).toNat)
 case atStart=>exact⟨0,Nat.zero_le _,rfl,nI _,_,rfl⟩
 case round=>
  obtain⟨k,hk,rfl,hf,e,rfl⟩:=hrel
  by_cases hlt:k<n
  ·skip
   obtain⟨b,off,x,bs',rfl,hxk,hp⟩:=T1.elem (s:=1) (fun _=>rfl) hx Hl hlt;have kx:=Ib hp;rw[Nat.mul_one]at kx;have EP:Hid ((!dX (dZ xs k) 0 600)= !dX x 0 600):=by show _=_;rw[CU hxk]
   have C1:Hid (QC Tryz.prog w _ _ _):=fun W hW=>yL x W
   cases d1:(!dX x 0 600)
   case true=>
    (try rw[d1]at C1)
    have E:Hid (idxOf n (fun k=> !dX (dZ xs k) 0 600)=(k:Int)):=by show _=_;exact zw hf hlt (by rw[EP.out];exact d1)
    go_wp2_with (first|(go_at_call 155;with_reducible refine(C1.out.at_ _).mono ?_;rintro _ _ ⟨rfl,e,rfl⟩))
    repeat (refine ay _ (by kernel_rfl) (by kernel_rfl) ?_;(repeat (go_big_quiet_step ((first|with_reducible exact C1.out.at_ _))));refine wpQuiet_nil ?_;intro e;go_wp2_with (first|(go_at_call 155;with_reducible refine(C1.out.at_ _).mono ?_;rintro _ _ ⟨rfl,e,rfl⟩)))
    go_ret;exact⟨by rw[E.out];rfl,_,rfl⟩
   (try rw[d1]at C1)
   have E:Hid ((!!dX (dZ xs k) 0 600)=true):=by show _=_;rw[EP.out,d1];rfl
   go_wp2_with (first|(go_at_call 155;with_reducible refine(C1.out.at_ _).mono ?_;rintro _ _ ⟨rfl,e,rfl⟩))
   repeat (refine ay _ (by kernel_rfl) (by kernel_rfl) ?_;(repeat (go_big_quiet_step ((first|with_reducible exact C1.out.at_ _))));refine wpQuiet_nil ?_;intro e;go_wp2_with (first|(go_at_call 155;with_reducible refine(C1.out.at_ _).mono ?_;rintro _ _ ⟨rfl,e,rfl⟩)))
   exact⟨⟨k+1,by omega,by go_num,gT hf E.out,_,rfl⟩,by simp[intOf];omega⟩
  ·have:n=k:=by omega
   subst this;have E:Hid (idxOf n (fun k=> !dX (dZ xs k) 0 600)= -1):=by show _=_;exact qy hf
   go_wp2_with fail
   repeat (refine ay _ (by kernel_rfl) (by kernel_rfl) ?_;(repeat (go_big_quiet_step (fail)));refine wpQuiet_nil ?_;intro e;go_wp2_with fail)
   go_ret;exact⟨by rw[E.out];rfl,_,rfl⟩
theorem y7(xs:List Int)(n:Nat){A:Option Addr}{c:Nat}{bs:List Nat}(w:World)(hx:T1 w (.sl n (xs.flatMap bM)) bs (.slice A n c))(Hl:Hid (xs.length=n)):Calls Tryz.prog 154 #[.slice A n c,.func (.func 155) #[] #[]] w fun e w'=>e=.returned (.bool (ou n (fun k=> !dX (dZ xs k) 0 600)))∧Ext w w':=by
 refine aT fun e=> ?_
 have C1:Hid (QC Tryz.prog w _ _ _):=fun W hW=>CS xs n W (hx.below hW) Hl
 have hc:=zx n (fun k=> !dX (dZ xs k) 0 600)
 go_enter Tryz.func154,Tryz.ntmps154
 go_wp2_with (first|(go_at_call 185;with_reducible refine(C1.out.at_ _).mono ?_;rintro _ _ ⟨rfl,e,rfl⟩))
 repeat (refine ay _ (by kernel_rfl) (by kernel_rfl) ?_;(repeat (go_big_quiet_step ((first|with_reducible exact C1.out.at_ _))));refine wpQuiet_nil ?_;intro e;go_wp2_with (first|(go_at_call 185;with_reducible refine(C1.out.at_ _).mono ?_;rintro _ _ ⟨rfl,e,rfl⟩)))
 go_ret;exact⟨by rw[←hc];rfl,_,rfl⟩
theorem zQ(xs:List Int)(n:Nat){A:Option Addr}{c:Nat}{bs:List Nat}(w:World)(hx:T1 w (.sl n (xs.flatMap bM)) bs (.slice A n c))(Hl:Hid (xs.length=n)):Calls Tryz.prog 96 #[.slice A n c] w fun e w'=>e=.returned (.bool (bY xs))∧Ext w w':=by
 refine aT fun e=> ?_
 have hn:=hx.xI;have EV:Hid (bY xs=(decide ((n:Int)≤200)&&eu n fun k=>dX (dZ xs k) 0 600)):=by show _=_;rw[←Hl.out];rfl
 have hc:(!ou n (fun k=> !dX (dZ xs k) 0 600))=eu n (fun k=>dX (dZ xs k) 0 600):=by simp[ou]
 have HC:=Lib.hid hc;clear hc;have C1:Hid (QC Tryz.prog w _ _ _):=fun W hW=>y7 xs n W (hx.below hW) Hl
 go_enter Tryz.func96,Tryz.ntmps96
 cases d1:decide ((n:Int)≤200)
 case false=>
  (try rw[d1]at C1)
  have E:Hid (bY xs=false):=by show _=_;rw[EV.out,d1];rfl
  go_wp2_with (first|(go_at_call 154;with_reducible refine(C1.out.at_ _).mono ?_;rintro _ _ ⟨rfl,e,rfl⟩))
  repeat (refine ay _ (by kernel_rfl) (by kernel_rfl) ?_;(repeat (go_big_quiet_step ((first|with_reducible exact C1.out.at_ _))));refine wpQuiet_nil ?_;intro e;go_wp2_with (first|(go_at_call 154;with_reducible refine(C1.out.at_ _).mono ?_;rintro _ _ ⟨rfl,e,rfl⟩)))
  go_ret;exact⟨by rw[E.out];rfl,_,rfl⟩
 (try rw[d1]at C1)
 have E:Hid (bY xs= !ou n (fun k=> !dX (dZ xs k) 0 600)):=by show _=_;rw[EV.out,d1,HC.out];rfl
 go_wp2_with (first|(go_at_call 154;with_reducible refine(C1.out.at_ _).mono ?_;rintro _ _ ⟨rfl,e,rfl⟩))
 repeat (refine ay _ (by kernel_rfl) (by kernel_rfl) ?_;(repeat (go_big_quiet_step ((first|with_reducible exact C1.out.at_ _))));refine wpQuiet_nil ?_;intro e;go_wp2_with (first|(go_at_call 154;with_reducible refine(C1.out.at_ _).mono ?_;rintro _ _ ⟨rfl,e,rfl⟩)))
 go_ret;exact⟨by rw[E.out];rfl,_,rfl⟩
theorem J3(xs:List aQ)(n:Nat){A:Option Addr}{c:Nat}{bs:List Nat}(w:World)(hx:T1 w (.sl n (xs.flatMap aQ.enc)) bs (.slice A n c))(Hl:Hid (xs.length=n)):Calls Tryz.prog 84 #[.slice A n c] w fun e w'=>e=.returned (.bool (lG xs))∧Ext w w':=by
 refine aT fun e=> ?_
 have hn:=hx.xI;have EV:Hid (lG xs=(decide ((n:Int)≤24)&&eu n fun k=>iE (lU xs k))):=by show _=_;rw[←Hl.out];rfl
 go_enter Tryz.func84,Tryz.ntmps84
 cases d1:decide ((24:Int)<n)
 case true=>
  have E:Hid (lG xs=false):=by show _=_;rw[EV.out,show decide ((n:Int)≤24)=false by simp at d1;simp;omega];rfl
  go_wp2_with fail
  repeat (refine ay _ (by kernel_rfl) (by kernel_rfl) ?_;(repeat (go_big_quiet_step (fail)));refine wpQuiet_nil ?_;intro e;go_wp2_with fail)
  go_ret;exact⟨by rw[E.out];rfl,_,rfl⟩
 have EN:Hid (decide ((n:Int)≤24)=true):=by show _=_;simp at d1;simp;omega
 go_wp2_with fail
 repeat (refine ay _ (by kernel_rfl) (by kernel_rfl) ?_;(repeat (go_big_quiet_step (fail)));refine wpQuiet_nil ?_;intro e;go_wp2_with fail)
 go_loopw [3] (fun i w'=>∃k:Nat,k≤n∧i=.int .i64 k∧Hid (eu k (fun k=>iE (lU xs k))=true)∧∃e:bf w,w'=e.to) (fun i _=>n-(intOf i).toNat)
 case atStart=>exact⟨0,Nat.zero_le _,rfl,nI _,_,rfl⟩
 case round=>
  obtain⟨k,hk,rfl,hfk,e,rfl⟩:=hrel
  by_cases hltk:k<n
  ·skip
   obtain⟨b,off,x,bs',rfl,hxk,hp⟩:=T1.elem aQ.bF hx Hl hltk;have EK:Hid (iE (lU xs k)=iE x):=by show _=_;rw[J9 hxk]
   have C1:Hid (QC Tryz.prog w _ _ _):=fun W hW=>FU x b (off+k*1) _ W (hp.ext hW)
   rw[Nat.mul_one]at C1;cases d2:iE x
   case false=>
    (try rw[d2]at C1)
    have E:Hid (lG xs=false):=by show _=_;rw[EV.out,iW hltk (by rw[EK.out];exact d2)];simp
    go_wp2_with (first|(go_at_call 85;with_reducible refine(C1.out.at_ _).mono ?_;rintro _ _ ⟨rfl,e,rfl⟩))
    repeat (refine ay _ (by kernel_rfl) (by kernel_rfl) ?_;(repeat (go_big_quiet_step ((first|with_reducible exact C1.out.at_ _))));refine wpQuiet_nil ?_;intro e;go_wp2_with (first|(go_at_call 85;with_reducible refine(C1.out.at_ _).mono ?_;rintro _ _ ⟨rfl,e,rfl⟩)))
    go_ret;exact⟨by rw[E.out];rfl,_,rfl⟩
   (try rw[d2]at C1)
   have E:Hid (iE (lU xs k)=true):=by show _=_;rw[EK.out];exact d2
   go_wp2_with (first|(go_at_call 85;with_reducible refine(C1.out.at_ _).mono ?_;rintro _ _ ⟨rfl,e,rfl⟩))
   repeat (refine ay _ (by kernel_rfl) (by kernel_rfl) ?_;(repeat (go_big_quiet_step ((first|with_reducible exact C1.out.at_ _))));refine wpQuiet_nil ?_;intro e;go_wp2_with (first|(go_at_call 85;with_reducible refine(C1.out.at_ _).mono ?_;rintro _ _ ⟨rfl,e,rfl⟩)))
   exact⟨⟨k+1,by omega,by go_num,gT hfk E.out,_,rfl⟩,by simp[intOf];omega⟩
  ·have:n=k:=by omega
   subst this;have E:Hid (lG xs=true):=by show _=_;rw[EV.out,EN.out,hfk.out];rfl
   go_wp2_with fail
   repeat (refine ay _ (by kernel_rfl) (by kernel_rfl) ?_;(repeat (go_big_quiet_step (fail)));refine wpQuiet_nil ?_;intro e;go_wp2_with fail)
   go_ret;exact⟨by rw[E.out];rfl,_,rfl⟩
theorem BD(xs:List Int)(n:Nat){A:Option Addr}{c:Nat}{bs:List Nat}(w:World)(hx:T1 w (.sl n (xs.flatMap bM)) bs (.slice A n c))(Hl:Hid (xs.length=n)):Calls Tryz.prog 86 #[.slice A n c] w fun e w'=>e=.returned (.bool (bY xs))∧Ext w w':=by
 refine aT fun e=> ?_
 have hn:=hx.xI;have EV:Hid (bY xs=(decide ((n:Int)≤200)&&eu n fun k=>dX (dZ xs k) 0 600)):=by show _=_;rw[←Hl.out];rfl
 go_enter Tryz.func86,Tryz.ntmps86
 cases d1:decide ((200:Int)<n)
 case true=>
  have E:Hid (bY xs=false):=by show _=_;rw[EV.out,show decide ((n:Int)≤200)=false by simp at d1;simp;omega];rfl
  go_wp2_with fail
  repeat (refine ay _ (by kernel_rfl) (by kernel_rfl) ?_;(repeat (go_big_quiet_step (fail)));refine wpQuiet_nil ?_;intro e;go_wp2_with fail)
  go_ret;exact⟨by rw[E.out];rfl,_,rfl⟩
 have EN:Hid (decide ((n:Int)≤200)=true):=by show _=_;simp at d1;simp;omega
 go_wp2_with fail
 repeat (refine ay _ (by kernel_rfl) (by kernel_rfl) ?_;(repeat (go_big_quiet_step (fail)));refine wpQuiet_nil ?_;intro e;go_wp2_with fail)
 go_loopw [3] (fun i w'=>∃k:Nat,k≤n∧i=.int .i64 k∧Hid (eu k (fun k=>dX (dZ xs k) 0 600)=true)∧∃e:bf w,w'=e.to) (fun i _=>n-(intOf i).toNat)
 case atStart=>exact⟨0,Nat.zero_le _,rfl,nI _,_,rfl⟩
 case round=>
  obtain⟨k,hk,rfl,hfk,e,rfl⟩:=hrel
  by_cases hltk:k<n
  ·skip
   obtain⟨b,off,x,bs',rfl,hxk,hp⟩:=T1.elem (s:=1) (fun _=>rfl) hx Hl hltk;have kx:=Ib hp;rw[Nat.mul_one]at kx;have EK:Hid (dX (dZ xs k) 0 600=dX x 0 600):=by show _=_;rw[CU hxk]
   have C1:Hid (QC Tryz.prog w _ _ _):=fun W hW=>(nu x 0 600 W).q
   cases d2:dX x 0 600
   case false=>
    (try rw[d2]at C1)
    have E:Hid (bY xs=false):=by show _=_;rw[EV.out,iW hltk (by rw[EK.out];exact d2)];simp
    go_wp2_with (first|(go_at_call 87;with_reducible refine(C1.out.at_ _).mono ?_;rintro _ _ ⟨rfl,e,rfl⟩))
    repeat (refine ay _ (by kernel_rfl) (by kernel_rfl) ?_;(repeat (go_big_quiet_step ((first|with_reducible exact C1.out.at_ _))));refine wpQuiet_nil ?_;intro e;go_wp2_with (first|(go_at_call 87;with_reducible refine(C1.out.at_ _).mono ?_;rintro _ _ ⟨rfl,e,rfl⟩)))
    go_ret;exact⟨by rw[E.out];rfl,_,rfl⟩
   (try rw[d2]at C1)
   have E:Hid (dX (dZ xs k) 0 600=true):=by show _=_;rw[EK.out];exact d2
   go_wp2_with (first|(go_at_call 87;with_reducible refine(C1.out.at_ _).mono ?_;rintro _ _ ⟨rfl,e,rfl⟩))
   repeat (refine ay _ (by kernel_rfl) (by kernel_rfl) ?_;(repeat (go_big_quiet_step ((first|with_reducible exact C1.out.at_ _))));refine wpQuiet_nil ?_;intro e;go_wp2_with (first|(go_at_call 87;with_reducible refine(C1.out.at_ _).mono ?_;rintro _ _ ⟨rfl,e,rfl⟩)))
   exact⟨⟨k+1,by omega,by go_num,gT hfk E.out,_,rfl⟩,by simp[intOf];omega⟩
  ·have:n=k:=by omega
   subst this;have E:Hid (bY xs=true):=by show _=_;rw[EV.out,EN.out,hfk.out];rfl
   go_wp2_with fail
   repeat (refine ay _ (by kernel_rfl) (by kernel_rfl) ?_;(repeat (go_big_quiet_step (fail)));refine wpQuiet_nil ?_;intro e;go_wp2_with fail)
   go_ret;exact⟨by rw[E.out];rfl,_,rfl⟩
theorem YP(xs:List aj):aO Tryz.prog 95 [.agg [.rsl aD xs]] (.bool (iE (gN xs))):=
 aO.Xu (u:=aR) (x:=xs) (by kernel_rfl) (fun w bs us h=>tL (gN xs) w (by rw[Hz];exact h)) (fun _ _=>y9 _) (fun _ _ _ _ _ hI hd=>XW hI hd)
theorem Wo(bk:List (List aj)):aO Tryz.prog 94 [.rsl aR bk] (.bool (lG (bk.map gN))):=
 aO.NQ (by kernel_rfl) (fun w A c bs h=>yM (bk.map gN) bk.length w (by rw[QX];exact h) (qV _)) (fun _ _=>y9 _)
theorem SH(l:List Int):aO Tryz.prog 96 [.rsl (.int .i64) l] (.bool (bY l)):=
 aO.NQ (by kernel_rfl) (fun w A c bs h=>zQ l l.length w (by rw[←vV];exact h) rfl) (fun _ _=>y9 _)
theorem netQ(xs:List aj):aO Tryz.prog 85 [.rp aR xs] (.bool (iE (gN xs))):=
 aO.Xv (by kernel_rfl) (fun w b o bs h=>FU (gN xs) b o bs w (by rw[Hz];exact h)) fun _ _=>y9 _
theorem Yx(bk:List (List aj)):aO Tryz.prog 84 [.rsl aR bk] (.bool (lG (bk.map gN))):=
 aO.NQ (by kernel_rfl) (fun w A c bs h=>J3 (bk.map gN) bk.length w (by rw[QX];exact h) (qV _)) (fun _ _=>y9 _)
theorem XP(l:List Int):aO Tryz.prog 86 [.rsl (.int .i64) l] (.bool (bY l)):=
 aO.NQ (by kernel_rfl) (fun w A c bs h=>BD l l.length w (by rw[←vV];exact h) rfl) (fun _ _=>y9 _)
end Go.Proofs.YtjijpkphkicoeaaGreat
