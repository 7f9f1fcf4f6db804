
/- The program's functions on agents: what makes them valid. Printed by gen_neti.py. -/
import Derived.Test.YtnamelcmcikeoaaShort
import Derived.Test.YtnamelcmcikeoaaProg
import Derived.Test.YtnamelcmcikeoaaAgents
import Derived.Test.YtnamelcmcikeoaaValid
import Derived.Test.YtnamelcmcikeoaaQDbg
import Derived.Test.YtnamelcmcikeoaaSc
import Derived.BigGuardPart
import Derived.Outline
import Derived.Deep.CutBlock
import Derived.Test.YtnamelcmcikeoaaVti
import Derived.Test.YtnamelcmcikeoaaVV
import Derived.Test.YtnamelcmcikeoaaNw
import Derived.Test.YtnamelcmcikeoaaIb
import Derived.StillTailTactics
import Derived.BigRegion
set_option maxHeartbeats 4000000
set_option maxRecDepth 100000
set_option linter.unusedSimpArgs false
set_option linter.unusedVariables false
namespace Go.Proofs.Ytnamelcmcikeoaa
open Go Go.RowKit Go.Proofs Go.Tr
theorem o8(n:Int)(w:World):Calls Try.prog 53 #[.int .i64 n] w fun e w'=>e=.returned (.bool (gU n))∧Ext w w':=by
 refine bA fun e=> ?_
 go_enter Try.func53,Try.ntmps53
 go_wp2
 all_goals go_ret
 all_goals refine⟨?_,_,rfl⟩
 all_goals first|(simp[gU,fK, *];done)|(simp[gU,fK, *];omega)|(simp_all [gU,fK];done)|(simp_all [gU,fK];omega)
theorem Ij(n:Int)(w:World):Calls Try.prog 54 #[.int .i64 n] w fun e w'=>e=.returned (.bool (kK n))∧Ext w w':=by
 refine bA fun e=> ?_
 go_enter Try.func54,Try.ntmps54
 go_wp2
 all_goals go_ret
 all_goals refine⟨?_,_,rfl⟩
 all_goals first|(simp[kK,fK, *];done)|(simp[kK,fK, *];omega)|(simp_all [kK,fK];done)|(simp_all [kK,fK];omega)
theorem xD(n:Int)(w:World):Calls Try.prog 55 #[.int .i64 n] w fun e w'=>e=.returned (.bool (iI n))∧Ext w w':=by
 refine bA fun e=> ?_
 go_enter Try.func55,Try.ntmps55
 go_wp2
 all_goals go_ret
 all_goals refine⟨?_,_,rfl⟩
 all_goals first|(simp[iI,fK, *];done)|(simp[iI,fK, *];omega)|(simp_all [iI,fK];done)|(simp_all [iI,fK];omega)
theorem vT(k f:Int)(w:World):Calls Try.prog 48 #[.int .i64 k,.int .i64 f] w fun e w'=>e=.returned (.int .i64 (aV k f))∧Ext w w':=by
 refine bA fun e=> ?_
 have C1:Hid (QC Try.prog w _ _ _):=fun W hW=>(Ew k W).q
 cases hk:dz k
 case false=>
  rw[hk]at C1;have hn:=NW hk;have h9:(k==9)=false:=by simp;omega
  go_enter Try.func48,Try.ntmps48
  go_wp2_with (first|(go_at_call 66;with_reducible refine(C1.out.at_ _).mono ?_;rintro _ _ ⟨rfl,e,rfl⟩))
  repeat (refine ay _ (by kernel_rfl) (by kernel_rfl) ?_;(repeat (go_big_quiet_step ((first|with_reducible exact C1.out.at_ _))));refine wpQuiet_nil ?_;intro e;go_wp2_with (first|(go_at_call 66;with_reducible refine(C1.out.at_ _).mono ?_;rintro _ _ ⟨rfl,e,rfl⟩)))
  all_goals go_ret
  all_goals refine⟨?_,_,rfl⟩
  all_goals simp[aV]
  all_goals (repeat rw[if_neg (by omega)])
  all_goals (try split)
  all_goals (try rfl)
  all_goals (try omega)
 rw[hk]at C1;have ix1:∀W:World,(Instr.index 97 (.agg #[.int .i64 0,.int .i64 1,.int .i64 3,.int .i64 3,.int .i64 3,.int .i64 1,.int .i64 1,.int .i64 3,.int .i64 2,.int .i64 0,.int .i64 2,.int .i64 2,.int .i64 1]) (.int .i64 1)).run Try.prog W=.ok (.int .i64 1) W:=fun _=>by kernel_rfl
 have ix2:∀W:World,(Instr.index 97 (.agg #[.int .i64 0,.int .i64 1,.int .i64 3,.int .i64 3,.int .i64 3,.int .i64 1,.int .i64 1,.int .i64 3,.int .i64 2,.int .i64 0,.int .i64 2,.int .i64 2,.int .i64 1]) (.int .i64 2)).run Try.prog W=.ok (.int .i64 3) W:=fun _=>by kernel_rfl
 have ix3:∀W:World,(Instr.index 97 (.agg #[.int .i64 0,.int .i64 1,.int .i64 3,.int .i64 3,.int .i64 3,.int .i64 1,.int .i64 1,.int .i64 3,.int .i64 2,.int .i64 0,.int .i64 2,.int .i64 2,.int .i64 1]) (.int .i64 3)).run Try.prog W=.ok (.int .i64 3) W:=fun _=>by kernel_rfl
 have ix4:∀W:World,(Instr.index 97 (.agg #[.int .i64 0,.int .i64 1,.int .i64 3,.int .i64 3,.int .i64 3,.int .i64 1,.int .i64 1,.int .i64 3,.int .i64 2,.int .i64 0,.int .i64 2,.int .i64 2,.int .i64 1]) (.int .i64 4)).run Try.prog W=.ok (.int .i64 3) W:=fun _=>by kernel_rfl
 have ix5:∀W:World,(Instr.index 97 (.agg #[.int .i64 0,.int .i64 1,.int .i64 3,.int .i64 3,.int .i64 3,.int .i64 1,.int .i64 1,.int .i64 3,.int .i64 2,.int .i64 0,.int .i64 2,.int .i64 2,.int .i64 1]) (.int .i64 5)).run Try.prog W=.ok (.int .i64 1) W:=fun _=>by kernel_rfl
 have ix6:∀W:World,(Instr.index 97 (.agg #[.int .i64 0,.int .i64 1,.int .i64 3,.int .i64 3,.int .i64 3,.int .i64 1,.int .i64 1,.int .i64 3,.int .i64 2,.int .i64 0,.int .i64 2,.int .i64 2,.int .i64 1]) (.int .i64 6)).run Try.prog W=.ok (.int .i64 1) W:=fun _=>by kernel_rfl
 have ix7:∀W:World,(Instr.index 97 (.agg #[.int .i64 0,.int .i64 1,.int .i64 3,.int .i64 3,.int .i64 3,.int .i64 1,.int .i64 1,.int .i64 3,.int .i64 2,.int .i64 0,.int .i64 2,.int .i64 2,.int .i64 1]) (.int .i64 7)).run Try.prog W=.ok (.int .i64 3) W:=fun _=>by kernel_rfl
 have ix8:∀W:World,(Instr.index 97 (.agg #[.int .i64 0,.int .i64 1,.int .i64 3,.int .i64 3,.int .i64 3,.int .i64 1,.int .i64 1,.int .i64 3,.int .i64 2,.int .i64 0,.int .i64 2,.int .i64 2,.int .i64 1]) (.int .i64 8)).run Try.prog W=.ok (.int .i64 2) W:=fun _=>by kernel_rfl
 have ix9:∀W:World,(Instr.index 97 (.agg #[.int .i64 0,.int .i64 1,.int .i64 3,.int .i64 3,.int .i64 3,.int .i64 1,.int .i64 1,.int .i64 3,.int .i64 2,.int .i64 0,.int .i64 2,.int .i64 2,.int .i64 1]) (.int .i64 9)).run Try.prog W=.ok (.int .i64 0) W:=fun _=>by kernel_rfl
 have ix10:∀W:World,(Instr.index 97 (.agg #[.int .i64 0,.int .i64 1,.int .i64 3,.int .i64 3,.int .i64 3,.int .i64 1,.int .i64 1,.int .i64 3,.int .i64 2,.int .i64 0,.int .i64 2,.int .i64 2,.int .i64 1]) (.int .i64 10)).run Try.prog W=.ok (.int .i64 2) W:=fun _=>by kernel_rfl
 have ix11:∀W:World,(Instr.index 97 (.agg #[.int .i64 0,.int .i64 1,.int .i64 3,.int .i64 3,.int .i64 3,.int .i64 1,.int .i64 1,.int .i64 3,.int .i64 2,.int .i64 0,.int .i64 2,.int .i64 2,.int .i64 1]) (.int .i64 11)).run Try.prog W=.ok (.int .i64 2) W:=fun _=>by kernel_rfl
 have ix12:∀W:World,(Instr.index 97 (.agg #[.int .i64 0,.int .i64 1,.int .i64 3,.int .i64 3,.int .i64 3,.int .i64 1,.int .i64 1,.int .i64 3,.int .i64 2,.int .i64 0,.int .i64 2,.int .i64 2,.int .i64 1]) (.int .i64 12)).run Try.prog W=.ok (.int .i64 1) W:=fun _=>by kernel_rfl
 rcases ru hk with rfl|rfl|rfl|rfl|rfl|rfl|rfl|rfl|rfl|rfl|rfl|rfl
 all_goals clear hk
 all_goals
  go_enter Try.func48,Try.ntmps48
  go_wp2_with (first|(go_at_call 66;with_reducible refine(C1.out.at_ _).mono ?_;rintro _ _ ⟨rfl,e,rfl⟩))
  repeat (refine ay _ (by kernel_rfl) (by kernel_rfl) ?_;(repeat (go_big_quiet_step ((first|with_reducible exact C1.out.at_ _))));refine wpQuiet_nil ?_;intro e;go_wp2_with (first|(go_at_call 66;with_reducible refine(C1.out.at_ _).mono ?_;rintro _ _ ⟨rfl,e,rfl⟩)))
  all_goals go_ret
  all_goals refine⟨?_,_,rfl⟩
  all_goals first|(simp[aV,fK, *];done)|(simp[aV,fK, *];omega)|(simp_all [aV,fK];done)|(simp_all [aV,fK];omega)
theorem Ai(k p:Int)(w:World)(h1:0≤p)(h2:p≤9223372036854775807):Calls Try.prog 49 #[.int .i64 k,.int .i64 p] w fun e w'=>e=.returned (.int .i64 (bG k p))∧Ext w w':=by
 refine bA fun e=> ?_
 go_enter Try.func49,Try.ntmps49
 cases d1:(k==9)
 case true=>
  have E:Hid (bG k p=p-1):=by show _=_;simp[bG,d1]
  go_wp2_with fail
  repeat (refine ay _ (by kernel_rfl) (by kernel_rfl) ?_;(repeat (go_big_quiet_step (fail)));refine wpQuiet_nil ?_;intro e;go_wp2_with fail)
  go_ret;exact⟨by rw[E.out];rfl,_,rfl⟩
 have E:Hid (bG k p=0):=by show _=_;simp[bG,d1]
 go_wp2_with fail
 repeat (refine ay _ (by kernel_rfl) (by kernel_rfl) ?_;(repeat (go_big_quiet_step (fail)));refine wpQuiet_nil ?_;intro e;go_wp2_with fail)
 go_ret;exact⟨by rw[E.out];rfl,_,rfl⟩
theorem vY(d:Int)(w:World):Calls Try.prog 52 #[.int .i64 d] w fun e w'=>e=.returned (.bool (!gU d))∧Ext w w':=by
 refine bA fun e=> ?_
 have C1:Hid (QC Try.prog w _ _ _):=fun W hW=>o8 d W
 go_enter Try.func52,Try.ntmps52
 go_wp2_with (first|(go_at_call 53;with_reducible refine(C1.out.at_ _).mono ?_;rintro _ _ ⟨rfl,e,rfl⟩))
 repeat (refine ay _ (by kernel_rfl) (by kernel_rfl) ?_;(repeat (go_big_quiet_step ((first|with_reducible exact C1.out.at_ _))));refine wpQuiet_nil ?_;intro e;go_wp2_with (first|(go_at_call 53;with_reducible refine(C1.out.at_ _).mono ?_;rintro _ _ ⟨rfl,e,rfl⟩)))
 go_ret;exact⟨rfl,_,rfl⟩
theorem yS(xs:List Int)(n:Nat){A:Option Addr}{c:Nat}{bs:List Nat}(w:World)(hx:T1 w (.sl n (xs.flatMap oZ)) bs (.slice A n c))(Hl:Hid (xs.length=n)):Calls Try.prog 69 #[.slice A n c,.func (.func 52) #[] #[]] w fun e w'=>e=.returned (.int .i64 (idxOf n (fun k=> !gU (eT xs k))))∧Ext w w':=by
 refine bA fun e=> ?_
 have hn:=hx.yY
 go_enter Try.func69,Try.ntmps69
 go_wp2_with fail
 repeat (refine ay _ (by kernel_rfl) (by kernel_rfl) ?_;(repeat (go_big_quiet_step (fail)));refine wpQuiet_nil ?_;intro e;go_wp2_with fail)
 go_loopw [5,8] (fun _ i w'=>∃k:Nat,k≤n∧i=.int .i64 k∧Hid (dK k (fun k=> !!gU (eT xs k))=true)∧∃e:bL w,w'=e.to) (fun _ i _=>n-(intOf i).toNat)
 case atStart=>exact⟨0,Nat.zero_le _,rfl,ql _,_,rfl⟩
 case round=>
  obtain⟨k,hk,rfl,hf,e,rfl⟩:=hrel
  by_cases hlt:k<n
  ·skip
   obtain⟨b,off,x,bs',rfl,hxk,hp⟩:=T1.elem (s:=1) (fun _=>rfl) hx Hl hlt;have kx:=Mx hp;rw[Nat.mul_one]at kx;have EP:Hid ((!gU (eT xs k))= !gU x):=by show _=_;rw[CF hxk]
   have C1:Hid (QC Try.prog w _ _ _):=fun W hW=>vY x W
   cases d1:(!gU x)
   case true=>
    (try rw[d1]at C1)
    have E:Hid (idxOf n (fun k=> !gU (eT xs k))=(k:Int)):=by show _=_;exact Cz hf hlt (by rw[EP.out];exact d1)
    go_wp2_with (first|(go_at_call 52;with_reducible refine(C1.out.at_ _).mono ?_;rintro _ _ ⟨rfl,e,rfl⟩))
    repeat (refine ay _ (by kernel_rfl) (by kernel_rfl) ?_;(repeat (go_big_quiet_step ((first|with_reducible exact C1.out.at_ _))));refine wpQuiet_nil ?_;intro e;go_wp2_with (first|(go_at_call 52;with_reducible refine(C1.out.at_ _).mono ?_;rintro _ _ ⟨rfl,e,rfl⟩)))
    go_ret;exact⟨by rw[E.out];rfl,_,rfl⟩
   (try rw[d1]at C1)
   have E:Hid ((!!gU (eT xs k))=true):=by show _=_;rw[EP.out,d1];rfl
   go_wp2_with (first|(go_at_call 52;with_reducible refine(C1.out.at_ _).mono ?_;rintro _ _ ⟨rfl,e,rfl⟩))
   repeat (refine ay _ (by kernel_rfl) (by kernel_rfl) ?_;(repeat (go_big_quiet_step ((first|with_reducible exact C1.out.at_ _))));refine wpQuiet_nil ?_;intro e;go_wp2_with (first|(go_at_call 52;with_reducible refine(C1.out.at_ _).mono ?_;rintro _ _ ⟨rfl,e,rfl⟩)))
   exact⟨⟨k+1,by omega,by go_num,iM hf E.out,_,rfl⟩,by simp[intOf];omega⟩
  ·have:n=k:=by omega
   subst this;have E:Hid (idxOf n (fun k=> !gU (eT xs k))= -1):=by show _=_;exact qZ hf
   go_wp2_with fail
   repeat (refine ay _ (by kernel_rfl) (by kernel_rfl) ?_;(repeat (go_big_quiet_step (fail)));refine wpQuiet_nil ?_;intro e;go_wp2_with fail)
   go_ret;exact⟨by rw[E.out];rfl,_,rfl⟩
theorem um(xs:List Int)(n:Nat){A:Option Addr}{c:Nat}{bs:List Nat}(w:World)(hx:T1 w (.sl n (xs.flatMap oZ)) bs (.slice A n c))(Hl:Hid (xs.length=n)):Calls Try.prog 51 #[.slice A n c,.func (.func 52) #[] #[]] w fun e w'=>e=.returned (.bool (vk n (fun k=> !gU (eT xs k))))∧Ext w w':=by
 refine bA fun e=> ?_
 have C1:Hid (QC Try.prog w _ _ _):=fun W hW=>yS xs n W (hx.below hW) Hl
 have hc:=CB n (fun k=> !gU (eT xs k))
 go_enter Try.func51,Try.ntmps51
 go_wp2_with (first|(go_at_call 69;with_reducible refine(C1.out.at_ _).mono ?_;rintro _ _ ⟨rfl,e,rfl⟩))
 repeat (refine ay _ (by kernel_rfl) (by kernel_rfl) ?_;(repeat (go_big_quiet_step ((first|with_reducible exact C1.out.at_ _))));refine wpQuiet_nil ?_;intro e;go_wp2_with (first|(go_at_call 69;with_reducible refine(C1.out.at_ _).mono ?_;rintro _ _ ⟨rfl,e,rfl⟩)))
 go_ret;exact⟨by rw[←hc];rfl,_,rfl⟩
end Go.Proofs.Ytnamelcmcikeoaa
namespace Go.Tr
open Go Go.RowKit
def nA(a:aF):ah:=(a.kind,a.level,a.value,a.data,a.aQ.map fun p=>(p.agent,p.slot))
theorem JY(a:aF):gA (nA a)=a:=by
 cases a with
 |mk k l v d ps=>
  unfold gA nA;simp only[List.map_map]
  congr 1
  exact(List.map_congr_left fun p _=>rfl).trans (List.map_id ps)
theorem Kq(x:aF):enc aL (nA x)=x.enc:=by rw[←JX,JY]
def kY(k v:Int)(d:List Int):Bool:=
 if k==6 then((d.length:Int)==0)&&kK v
 else if k==7 then((d.length:Int)==0)&&iI v
 else if k==8 then((d.length:Int)==1)&&iI v&&kK (eT d 0)
 else if k==9 then((d.length:Int)==0)&&fK v 0 3
 else if k==12 then((d.length:Int)==0)&&gU v
 else if k==10 then v==0&&fK d.length 1 4&&iG d
 else if k==11 then v==0&&((d.length:Int)==2)&&iG d
 else v==0&&((d.length:Int)==0)
theorem FP(a:ah):bg (gA a)=kY a.1 a.2.2.1 a.2.2.2.1:=rfl
end Go.Tr
namespace Go.Proofs.Ytnamelcmcikeoaa
open Go Go.RowKit Go.Proofs Go.Tr
theorem OQ(n:Int):aP Try.prog 72 [.int .i64 n] (.bool (gU n)):=by
 refine aP.intro (nt:=5) aS mixed (by kernel_rfl) Try.func72 rfl rfl rfl rfl rfl ?_;refine Or.inl (eI _ (aI (Mw n 0 23) ?_));exact rfl
theorem Jw(a:ah):aP Try.prog 65 [.rp aL a] (.bool (bg (gA a))):=by
 refine aP.intro (nt:=162) aS mixed (by kernel_rfl) Try.func65 rfl rfl rfl rfl rfl ?_;rw[FP];generalize hk:a.1=k at*;have ek:∀{c:Int} {b:Bool},(a.1==c)=b→(k==c)=b:=fun h=>by rw[←hk];exact h
 refine aI (fun q1=> ?_) (fun q1=> ?_)
 ·refine Or.inl (eI _ (aI (fun _=>Mw a.2.2.1 (-2147483648) 2147483647) ?_));refine Eq.trans (Eq.refl _) ?_;unfold kY;rw[ek q1];show(bif ((a.2.2.2.1.length:Int)==0)then fK a.2.2.1 (-2147483648) 2147483647 else false)=(((a.2.2.2.1.length:Int)==0)&&kK a.2.2.1);cases ((a.2.2.2.1.length:Int)==0)<;>rfl
 refine aI (fun q2=> ?_) (fun q2=> ?_)
 ·refine Or.inl (eI _ (aI (fun _=>Mw a.2.2.1 1 6) ?_));refine Eq.trans (Eq.refl _) ?_;unfold kY;rw[ek q1,ek q2];show(bif ((a.2.2.2.1.length:Int)==0)then fK a.2.2.1 1 6 else false)=(((a.2.2.2.1.length:Int)==0)&&iI a.2.2.1);cases ((a.2.2.2.1.length:Int)==0)<;>rfl
 refine aI (fun q3=> ?_) (fun q3=> ?_)
 ·refine Or.inl (eI _ (aI (fun _=>Mw a.2.2.1 1 6) ?_));refine aI (fun g=> ?_) ?_
  ·have g2:(bif ((a.2.2.2.1.length:Int)==1)then fK a.2.2.1 1 6 else false)=true:=g;cases hl:((a.2.2.2.1.length:Int)==1)with
   |false=>rw[hl]at g2;cases g2
   |true=>
    have hl2:(a.2.2.2.1.length:Int)=1:=by simpa using hl
    show(0:Int)≤0∧(0:Int)<(a.2.2.2.1.length:Nat);omega
  refine Or.inl (eI _ (aI (fun _=>Mw _ (-2147483648) 2147483647) ?_));refine Eq.trans (Eq.refl _) ?_;unfold kY;rw[ek q1,ek q2,ek q3];show(bif (bif ((a.2.2.2.1.length:Int)==1)then fK a.2.2.1 1 6 else false)then fK (eT a.2.2.2.1 0) (-2147483648) 2147483647 else false)=(((a.2.2.2.1.length:Int)==1)&&iI a.2.2.1&&kK (eT a.2.2.2.1 0));unfold iI kK;cases ((a.2.2.2.1.length:Int)==1)<;>cases fK a.2.2.1 1 6<;>rfl
 refine aI (fun q4=> ?_) (fun q4=> ?_)
 ·refine Or.inl (eI _ (aI (fun _=>Mw a.2.2.1 0 3) ?_));refine Eq.trans (Eq.refl _) ?_;unfold kY;rw[ek q1,ek q2,ek q3,ek q4];show(bif ((a.2.2.2.1.length:Int)==0)then fK a.2.2.1 0 3 else false)=(((a.2.2.2.1.length:Int)==0)&&fK a.2.2.1 0 3);cases ((a.2.2.2.1.length:Int)==0)<;>rfl
 refine aI (fun q5=> ?_) (fun q5=> ?_)
 ·refine Or.inl (eI _ (aI (fun _=>OQ a.2.2.1) ?_));refine Eq.trans (Eq.refl _) ?_;unfold kY;rw[ek q1,ek q2,ek q3,ek q4,ek q5];show(bif ((a.2.2.2.1.length:Int)==0)then gU a.2.2.1 else false)=(((a.2.2.2.1.length:Int)==0)&&gU a.2.2.1);cases ((a.2.2.2.1.length:Int)==0)<;>rfl
 refine aI (fun q6=> ?_) (fun q6=> ?_)
 ·refine aI (fun _=> ?_) (fun p=>absurd (q6.symm.trans p) (by decide));refine Or.inl (eI _ (aI (fun _=>Mw a.2.2.2.1.length 1 4) ?_))
  have q7:(k==11)=false:=by
   have:k=10:=by have:=ek q6;simpa using this
   rw[this];rfl
  have q7':(a.1==11)=false:=by rw[hk];exact q7
  have ec:kY k a.2.2.1 a.2.2.2.1=(a.2.2.1==0&&fK a.2.2.2.1.length 1 4&&iG a.2.2.2.1):=by
   unfold kY;rw[ek q1,ek q2,ek q3,ek q4,ek q5,ek q6];rfl
  have q6':(a.1==10)=true:=q6;refine aI (fun q8=> ?_) (fun q8=> ?_)
  ·refine Eq.trans (Eq.refl _) ?_;rw[ec];have q9:(bif (bif (a.2.2.1 !=0)then true else bif (a.1==11)then((a.2.2.2.1.length:Int) !=2)else false)then true else bif (a.1==10)then !(fK a.2.2.2.1.length 1 4)else false)=true:=q8;rw[q7',q6',show(a.2.2.1 !=0)= !(a.2.2.1==0) from rfl]at q9;revert q9;cases (a.2.2.1==0)<;>cases fK a.2.2.2.1.length 1 4<;>simp
  have et:(true:Bool)=(a.2.2.1==0&&fK a.2.2.2.1.length 1 4):=by
   have q9:(bif (bif (a.2.2.1 !=0)then true else bif (a.1==11)then((a.2.2.2.1.length:Int) !=2)else false)then true else bif (a.1==10)then !(fK a.2.2.2.1.length 1 4)else false)=false:=q8;rw[q7',q6',show(a.2.2.1 !=0)= !(a.2.2.1==0) from rfl]at q9;revert q9;cases (a.2.2.1==0)<;>cases fK a.2.2.2.1.length 1 4<;>simp
  have hlen:a.2.2.2.1.length≤4:=by
   have h1:fK a.2.2.2.1.length 1 4=true:=by
    revert et;cases (a.2.2.1==0)<;>cases fK a.2.2.2.1.length 1 4<;>simp
   have:=lg h1;omega
  refine lp Nat (fun i=>[(3,.int .i64 (i:Nat))]) (fun _=>[]) (fun i=>a.2.2.2.1.length-i) (fun i=>i≤a.2.2.2.1.length∧dK i (fun k=>gU (eT a.2.2.2.1 k))=true) 0 ⟨Nat.zero_le _,rfl⟩ ?_ ?_
  ·exact hd [] rfl (aI (aI rfl rfl) trivial) trivial
  rintro i ⟨hi,ha⟩;refine aI (fun p1=> ?_) (fun p1=> ?_)
  ·have hlt:i<a.2.2.2.1.length:=by
    have p2:decide (((i:Nat):Int)<(a.2.2.2.1.length:Nat))=true:=p1;simp only[decide_eq_true_eq]at p2;omega
   refine aI (show 0≤((i:Nat):Int)∧((i:Nat):Int)<(a.2.2.2.1.length:Nat) by omega) ?_;refine Or.inl (eI _ (aI (OQ _) ?_));refine aI (fun p2=> ?_) (fun p2=> ?_)
   ·have p3:gU (eT a.2.2.2.1 i)=false:=by
     have p4:(!gU (eT a.2.2.2.1 i))=true:=p2;simpa using p4
    refine Eq.trans (Eq.refl _) ?_;rw[ec,show iG a.2.2.2.1=false from iF hlt p3,Bool.and_false]
   ·have p3:gU (eT a.2.2.2.1 i)=true:=by
     have p4:(!gU (eT a.2.2.2.1 i))=false:=p2;simpa using p4
    refine aJ (i+1) ⟨hlt,by rw[vg];simp only[ha,p3,Bool.and_true]⟩ ?_ ?_
    ·exact hd [] rfl (aI (aI (eu (by omega)) rfl) trivial) trivial
    ·show a.2.2.2.1.length-(i+1)<a.2.2.2.1.length-i;omega
  ·have hge:a.2.2.2.1.length≤i:=by
    have p2:decide (((i:Nat):Int)<(a.2.2.2.1.length:Nat))=false:=p1;simp only[decide_eq_false_iff_not]at p2;omega
   have hie:i=a.2.2.2.1.length:=by omega
   subst hie;refine Eq.trans (Eq.refl _) ?_;rw[ec,show iG a.2.2.2.1=true from ha,Bool.and_true];exact et
 refine aI (fun q7=> ?_) (fun q7=> ?_)
 ·refine Or.inl (eI _ (aI (fun _=>Mw a.2.2.2.1.length 1 4) ?_))
  have ec:kY k a.2.2.1 a.2.2.2.1=(a.2.2.1==0&&((a.2.2.2.1.length:Int)==2)&&iG a.2.2.2.1):=by
   unfold kY;rw[ek q1,ek q2,ek q3,ek q4,ek q5,ek q6,ek q7];rfl
  have q6':(a.1==10)=false:=q6;have q7':(a.1==11)=true:=q7;refine aI (fun q8=> ?_) (fun q8=> ?_)
  ·refine Eq.trans (Eq.refl _) ?_;rw[ec];have q9:(bif (bif (a.2.2.1 !=0)then true else bif (a.1==11)then((a.2.2.2.1.length:Int) !=2)else false)then true else bif (a.1==10)then !(fK a.2.2.2.1.length 1 4)else false)=true:=q8;rw[q7',q6',show(a.2.2.1 !=0)= !(a.2.2.1==0) from rfl,show((a.2.2.2.1.length:Int) !=2)= !((a.2.2.2.1.length:Int)==2) from rfl]at q9;revert q9;cases (a.2.2.1==0)<;>cases ((a.2.2.2.1.length:Int)==2)<;>simp
  have et:(true:Bool)=(a.2.2.1==0&&((a.2.2.2.1.length:Int)==2)):=by
   have q9:(bif (bif (a.2.2.1 !=0)then true else bif (a.1==11)then((a.2.2.2.1.length:Int) !=2)else false)then true else bif (a.1==10)then !(fK a.2.2.2.1.length 1 4)else false)=false:=q8;rw[q7',q6',show(a.2.2.1 !=0)= !(a.2.2.1==0) from rfl,show((a.2.2.2.1.length:Int) !=2)= !((a.2.2.2.1.length:Int)==2) from rfl]at q9;revert q9;cases (a.2.2.1==0)<;>cases ((a.2.2.2.1.length:Int)==2)<;>simp
  have hlen:a.2.2.2.1.length≤4:=by
   have h1:((a.2.2.2.1.length:Int)==2)=true:=by
    revert et;cases (a.2.2.1==0)<;>cases ((a.2.2.2.1.length:Int)==2)<;>simp
   have h2:(a.2.2.2.1.length:Int)=2:=by simpa using h1
   omega
  refine lp Nat (fun i=>[(3,.int .i64 (i:Nat))]) (fun _=>[]) (fun i=>a.2.2.2.1.length-i) (fun i=>i≤a.2.2.2.1.length∧dK i (fun k=>gU (eT a.2.2.2.1 k))=true) 0 ⟨Nat.zero_le _,rfl⟩ ?_ ?_
  ·exact hd [] rfl (aI (aI rfl rfl) trivial) trivial
  rintro i ⟨hi,ha⟩;refine aI (fun p1=> ?_) (fun p1=> ?_)
  ·have hlt:i<a.2.2.2.1.length:=by
    have p2:decide (((i:Nat):Int)<(a.2.2.2.1.length:Nat))=true:=p1;simp only[decide_eq_true_eq]at p2;omega
   refine aI (show 0≤((i:Nat):Int)∧((i:Nat):Int)<(a.2.2.2.1.length:Nat) by omega) ?_;refine Or.inl (eI _ (aI (OQ _) ?_));refine aI (fun p2=> ?_) (fun p2=> ?_)
   ·have p3:gU (eT a.2.2.2.1 i)=false:=by
     have p4:(!gU (eT a.2.2.2.1 i))=true:=p2;simpa using p4
    refine Eq.trans (Eq.refl _) ?_;rw[ec,show iG a.2.2.2.1=false from iF hlt p3,Bool.and_false]
   ·have p3:gU (eT a.2.2.2.1 i)=true:=by
     have p4:(!gU (eT a.2.2.2.1 i))=false:=p2;simpa using p4
    refine aJ (i+1) ⟨hlt,by rw[vg];simp only[ha,p3,Bool.and_true]⟩ ?_ ?_
    ·exact hd [] rfl (aI (aI (eu (by omega)) rfl) trivial) trivial
    ·show a.2.2.2.1.length-(i+1)<a.2.2.2.1.length-i;omega
  ·have hge:a.2.2.2.1.length≤i:=by
    have p2:decide (((i:Nat):Int)<(a.2.2.2.1.length:Nat))=false:=p1;simp only[decide_eq_false_iff_not]at p2;omega
   have hie:i=a.2.2.2.1.length:=by omega
   subst hie;refine Eq.trans (Eq.refl _) ?_;rw[ec,show iG a.2.2.2.1=true from ha,Bool.and_true];exact et
 ·refine Eq.trans (Eq.refl _) ?_;unfold kY;rw[ek q1,ek q2,ek q3,ek q4,ek q5,ek q6,ek q7];show(bif (a.2.2.1==0)then((a.2.2.2.1.length:Int)==0)else false)=(a.2.2.1==0&&((a.2.2.2.1.length:Int)==0));cases (a.2.2.1==0)<;>rfl
theorem xH(x:aF)(b o:Nat)(bs:List Nat)(w:World)(h:dR w b o x.enc bs):Calls Try.prog 65 #[.pointer (some ⟨b,o,none⟩)] w fun e w'=>e=.returned (.bool (bg x))∧Ext w w':=by
 have q:=aP.LX (u:=aL) (x:=nA x) (Jw (nA x)) (fun _ _ _ h=>Ea h) (w:=w) (b:=b) (o:=o) (bs:=bs) (by rw[Kq];exact h);rw[JY]at q;exact q
theorem Sq(k f:Int):aP Try.prog 48 [.int .i64 k,.int .i64 f] (.int .i64 (aV k f)):=aP.CG (l:=[k,f]) (by kernel_rfl) (vT k f) fun _ _=>NQ _
theorem NY(n:Int):aP Try.prog 54 [.int .i64 n] (.bool (kK n)):=aP.CG (l:=[n]) (by kernel_rfl) (Ij n) fun _ _=>zi _
theorem Q8(n:Int):aP Try.prog 55 [.int .i64 n] (.bool (iI n)):=aP.CG (l:=[n]) (by kernel_rfl) (xD n) fun _ _=>zi _
theorem QE(n:Int):aP Try.prog 53 [.int .i64 n] (.bool (gU n)):=aP.CG (l:=[n]) (by kernel_rfl) (o8 n) fun _ _=>zi _
theorem Sg(k:Int)(n:Nat)(h:n≤9223372036854775807):aP Try.prog 49 [.int .i64 k,.int .i64 (n:Int)] (.int .i64 (bG k n)):=aP.CG (l:=[k,(n:Int)]) (by kernel_rfl) (fun w=>Ai k n w (by omega) (by omega)) fun _ _=>NQ _
theorem R8(xs:List Int):aP Try.prog 51 [.rsl (.int .i64) xs,.fn 52 []] (.bool (!iG xs)):=by
 refine⟨(by kernel_rfl),fun cx β w fr vs hI hd=> ?_⟩;unfold aA at hd;obtain⟨v1,vs1,rfl,hd1,hd⟩:=hd;unfold aA at hd;obtain⟨v2,vs2,rfl,hd2,hd⟩:=hd;unfold aA at hd;subst hd;unfold Den at hd1 hd2;obtain⟨us,rfl,hd2⟩:=hd2;unfold aA at hd2;subst hd2;obtain⟨A,c,rfl⟩:=hd1.slice;obtain⟨bs,ht⟩:=hd1.now hI;refine Calls.mono (um xs xs.length w (by rw[←Ci];exact ht) rfl) ?_;rintro e w' ⟨rfl,hx⟩;refine⟨_,rfl,?_,hI.ext hx⟩;unfold Den;unfold vk iG;simp only[Bool.not_not]
theorem RH(a:ah)(hp:a.2.2.2.2.length≤9223372036854775807):aP Try.prog 36 [.agg [.int .i64 a.1,.int .i64 a.2.1,.int .i64 a.2.2.1,.rsl (.int .i64) a.2.2.2.1,.rsl aO a.2.2.2.2]] (.bool (bJ (gA a))):=by
 refine aP.intro (nt:=117) aS mixed (by kernel_rfl) Try.func36 rfl rfl rfl rfl rfl ?_
 have hag:bJ (gA a)=(decide (0<aV a.1 (bG a.1 a.2.2.2.2.length))&&(a.2.2.2.2.length:Int)==aV a.1 (bG a.1 a.2.2.2.2.length)&&dH a.1 a.2.1&&kY a.1 a.2.2.1 a.2.2.2.1):=by
  rw[←FP];unfold bJ fieldsOf;have e:(gA a).aQ.length=a.2.2.2.2.length:=List.length_map _;rw[e];rfl
 rw[hag];refine Or.inl (eI _ (aI (fun _=>Sg a.1 a.2.2.2.2.length hp) ?_));refine Or.inl (eI _ (aI (fun _=>Sq a.1 (bG a.1 a.2.2.2.2.length)) ?_));refine Or.inl (eI _ (aI (fun _=>OD a.1 a.2.1) ?_));refine aI (by kernel_rfl) ?_
 have qc:∀{b:Bool},(bif (bif ((a.2.2.2.2.length:Int)==0)then true else(aV a.1 (bG a.1 a.2.2.2.2.length) !=(a.2.2.2.2.length:Int)))then true else !(dH a.1 a.2.1))=b→(decide (0<aV a.1 (bG a.1 a.2.2.2.2.length))&&(a.2.2.2.2.length:Int)==aV a.1 (bG a.1 a.2.2.2.2.length)&&dH a.1 a.2.1)= !b:=fun {b} h=>by
  generalize aV a.1 (bG a.1 a.2.2.2.2.length)=p at*;subst h;cases dH a.1 a.2.1
  ·simp
  ·by_cases h0:(a.2.2.2.2.length:Int)=0
   ·rw[h0]
    by_cases hp0:p=0
    ·subst hp0;rfl
    ·simp;omega
   ·rw[show((a.2.2.2.2.length:Int)==0)=false by simpa using h0]
    by_cases hpe:p=(a.2.2.2.2.length:Int)
    ·subst hpe;simp;omega
    ·simp only[cond_false];rw[show(p !=(a.2.2.2.2.length:Int))=true by simpa using hpe,show((a.2.2.2.2.length:Int)==p)=false by simp;omega];simp
 refine aI (fun q1=> ?_) (fun q1=> ?_)
 ·refine Eq.trans (Eq.refl _) ?_;rw[qc q1];rfl
 have hq:=qc q1;rw[hq];refine aI (by kernel_rfl) ?_;refine Or.inl (eI _ (aI (R8 _) ?_));have cfin:∀{t u:Bool},(t&&u)=kY a.1 a.2.2.1 a.2.2.2.1→(bif t then u else false)=(!false&&kY a.1 a.2.2.1 a.2.2.2.1):=fun {t u} h=>by rw[←h];cases t<;>rfl
 unfold kY at cfin;refine aI (fun k1=> ?_) (fun k1=> ?_)
 ·refine Or.inl (eI _ (aI (NY _) ?_));refine Eq.trans (Eq.refl _) ?_;refine cfin ?_;rw[show(a.1==6)=true from k1,Bool.and_comm];rfl
 refine aI (fun k2=> ?_) (fun k2=> ?_)
 ·refine Or.inl (eI _ (aI (Q8 _) ?_));refine Eq.trans (Eq.refl _) ?_;refine cfin ?_;rw[show(a.1==6)=false from k1,show(a.1==7)=true from k2,Bool.and_comm];rfl
 refine aI (fun k3=> ?_) (fun k3=> ?_)
 ·refine Or.inl (eI _ (aI (Q8 _) ?_));refine aI (fun g=> ?_) ?_
  ·have g2:(bif iI a.2.2.1 then((a.2.2.2.1.length:Int)==1)else false)=true:=g;cases ho:iI a.2.2.1 with
   |false=>rw[ho]at g2;cases g2
   |true=>
    rw[ho]at g2;have hl2:(a.2.2.2.1.length:Int)=1:=by simpa using g2
    show(0:Int)≤0∧(0:Int)<(a.2.2.2.1.length:Nat);omega
  refine Or.inl (eI _ (aI (fun _=>NY _) ?_));refine Eq.trans (Eq.refl _) ?_;unfold kY;rw[show(a.1==6)=false from k1,show(a.1==7)=false from k2,show(a.1==8)=true from k3];show(bif (bif iI a.2.2.1 then((a.2.2.2.1.length:Int)==1)else false)then kK (eT a.2.2.2.1 0)else false)=(!false&&(((a.2.2.2.1.length:Int)==1)&&iI a.2.2.1&&kK (eT a.2.2.2.1 0)));cases ((a.2.2.2.1.length:Int)==1)<;>cases iI a.2.2.1<;>rfl
 refine aI (fun k4=> ?_) (fun k4=> ?_)
 ·refine Eq.trans (Eq.refl _) ?_;refine cfin ?_;rw[show(a.1==6)=false from k1,show(a.1==7)=false from k2,show(a.1==8)=false from k3,show(a.1==9)=true from k4,Bool.and_comm];show _=(((a.2.2.2.1.length:Int)==0)&&fK a.2.2.1 0 3)
  congr 1
  unfold fK;show(bif decide (0≤a.2.2.1)then decide (a.2.2.1<4)else false)=(decide (0≤a.2.2.1)&&decide (a.2.2.1≤3));rw[show decide (a.2.2.1<4)=decide (a.2.2.1≤3) by rw[decide_eq_decide];omega];cases decide (0≤a.2.2.1)<;>rfl
 refine aI (fun k5=> ?_) (fun k5=> ?_)
 ·have k12:(a.1==12)=false:=by
   have:a.1=10:=by simpa using(show(a.1==10)=true from k5)
   rw[this];rfl
  refine Eq.trans (Eq.refl _) ?_;refine cfin ?_;rw[show(a.1==6)=false from k1,show(a.1==7)=false from k2,show(a.1==8)=false from k3,show(a.1==9)=false from k4,k12,show(a.1==10)=true from k5];show((a.2.2.1==0)&&(bif (bif decide (1≤(a.2.2.2.1.length:Int))then decide ((a.2.2.2.1.length:Int)≤4)else false)then !(!iG a.2.2.2.1)else false))=(a.2.2.1==0&&fK a.2.2.2.1.length 1 4&&iG a.2.2.2.1);unfold fK;cases (a.2.2.1==0)<;>cases decide (1≤(a.2.2.2.1.length:Int))<;>cases decide ((a.2.2.2.1.length:Int)≤4)<;>cases iG a.2.2.2.1<;>rfl
 refine aI (fun k6=> ?_) (fun k6=> ?_)
 ·have k12:(a.1==12)=false:=by
   have:a.1=11:=by simpa using(show(a.1==11)=true from k6)
   rw[this];rfl
  refine Eq.trans (Eq.refl _) ?_;refine cfin ?_;rw[show(a.1==6)=false from k1,show(a.1==7)=false from k2,show(a.1==8)=false from k3,show(a.1==9)=false from k4,k12,show(a.1==10)=false from k5,show(a.1==11)=true from k6];show((a.2.2.1==0)&&(bif ((a.2.2.2.1.length:Int)==2)then !(!iG a.2.2.2.1)else false))=(a.2.2.1==0&&((a.2.2.2.1.length:Int)==2)&&iG a.2.2.2.1);cases (a.2.2.1==0)<;>cases ((a.2.2.2.1.length:Int)==2)<;>cases iG a.2.2.2.1<;>rfl
 refine aI (fun k7=> ?_) (fun k7=> ?_)
 ·refine Or.inl (eI _ (aI (QE _) ?_));refine Eq.trans (Eq.refl _) ?_;refine cfin ?_;rw[show(a.1==6)=false from k1,show(a.1==7)=false from k2,show(a.1==8)=false from k3,show(a.1==9)=false from k4,show(a.1==12)=true from k7,Bool.and_comm];rfl
 ·refine Eq.trans (Eq.refl _) ?_;refine cfin ?_;rw[show(a.1==6)=false from k1,show(a.1==7)=false from k2,show(a.1==8)=false from k3,show(a.1==9)=false from k4,show(a.1==12)=false from k7,show(a.1==10)=false from k5,show(a.1==11)=false from k6];rfl
theorem yG(x:aF){bs us}(w:World)(h:TN w x.enc bs us):Calls Try.prog 36 #[.agg us.toArray] w fun e w'=>e=.returned (.bool (bJ x))∧Ext w w':=by
 have hp:(nA x).2.2.2.2.length≤9223372036854775807:=by
  obtain⟨_,_,_,A4,c4,b4,rfl,_,_,_,_,t4,n1,n2⟩:=aF.us (x:=x) h;have e:(nA x).2.2.2.2.length=x.aQ.length:=List.length_map _;unfold maxLen at n2;omega
 have q:=aP.LW (u:=aL) (x:=nA x) (RH (nA x) hp) (fun _ _ _ h=>Ea h) (w:=w) (bs:=bs) (us:=us) (by rw[Kq];exact h);rw[JY]at q;exact q
theorem Df(x:fU)(b o:Nat)(bs:List Nat)(p:aR)(w:World)(h:dR w b o x.enc bs)(hp:fH x.agents p=true):Calls Try.prog 16 #[.pointer (some ⟨b,o,none⟩),.agg #[.int .i64 p.agent,.int .i64 p.slot]] w fun e w'=>e=.returned (.agg #[.int .i64 (kV x.agents p).agent,.int .i64 (kV x.agents p).slot])∧Ext w w':=by
 refine bA fun e=> ?_
 obtain⟨A0,c0,b0,h0,t0⟩:=fU.pt h;have hltn:=h.lt;obtain⟨i,s,a,r,rfl,hi,ha,hs,hr,hpeer⟩:=Di hp;rw[hpeer];clear hpeer hp;obtain⟨bz,oz,z,bs3,rfl,hzi,hz⟩:=T1.elem aF.aY t0 jm hi;obtain⟨_,rfl⟩:True∧z=a:=⟨trivial,Option.some.inj (hzi.out.symm.trans ha.out)⟩;obtain⟨A3,c3,b3,A5,c5,b5,u0,u1,u2,u3,u4,t3,t5⟩:=aF.pt hz;have hn5:=t5.yY;have hn0:=t0.yY;clear u0 u1 u2 u3 t3;obtain⟨bt,ot,r',bs4,rfl,hrs,hrr⟩:=T1.elem aR.aY t5 jm hs;obtain⟨_,rfl⟩:True∧r'=r:=⟨trivial,Option.some.inj (hrs.out.symm.trans hr.out)⟩
 obtain⟨r0,r1⟩:=aR.pt hrr;clear h hz hrr hltn;have i0:(0:Int)≤(i:Int):=by omega
 have i1:(i:Int)<(x.agents.length:Int):=by omega
 have s0:(0:Int)≤(s:Int):=by omega
 have s1:(s:Int)<(z.aQ.length:Int):=by omega
 go_enter Try.func16,Try.ntmps16
 go_upto_region 1 with(fail)
 generalize hg2:e.to.heap.size+1=g2;generalize hg1:e.to.heap.size=g1;refine IK e hg1 hg2 (fun w1 hx1 hge1 hne hge2 r1_ r2_=> ?_);clear hg1 hg2;have q0:=h0.RS hx1;have q4:=u4.RS hx1;have q5:=r0.RS hx1;have q6:=r1.RS hx1;clear h0 u4 r0 r1;have k0:=jk (i:=0) r1_ rfl;have k1:=jk (i:=1) r1_ rfl;have m0:=jk (i:=0) r2_ rfl;have m1:=jk (i:=1) r2_ rfl;have f2:∀o,w1.frozen? ⟨g2,o,none⟩=false:=qw r2_;clear r1_ r2_
 go_still_tail 13,(by kernel_rfl)
 go_wp2_with fail
 refine bodyPost_ret (v:=.agg #[.int .i64 r'.agent,.int .i64 r'.slot]) (by simp[results,Try.results16,go_sem, *]) rfl ⟨rfl,⟨_,?_⟩,rfl⟩;exact(((hx1.drewN _).setCell (by simpa using hge2) _).setCell (by simpa using hge2) _)
end Go.Proofs.Ytnamelcmcikeoaa
namespace Go.Tr
open Go Go.RowKit
def bY(l:List aF)(k:Nat):List aR:=(List.range k).flatMap fun(i:Nat)=>(List.range (fq l i).aQ.length).map fun(s:Nat)=>(⟨(i:Int),(s:Int)⟩:aR)
def lC(i j:Nat):List aR:=(List.range j).map fun(s:Nat)=>(⟨(i:Int),(s:Int)⟩:aR)
theorem Bh(i j:Nat):lC i (j+1)=lC i j++[⟨(i:Int),(j:Int)⟩]:=by simp[lC,List.range_succ]
theorem sZ(l:List aF)(k:Nat):bY l (k+1)=bY l k++lC k (fq l k).aQ.length:=by simp[bY,lC,List.range_succ]
theorem ER(k f:Int):aV k f≤4:=by
 unfold aV;split
 ·split
  ·rename_i h;have:=lg h;omega
  ·omega
 ·repeat' split
  all_goals omega
theorem rX{a:aF}(h:bJ a=true):1≤a.aQ.length∧a.aQ.length≤4:=by
 simp only[bJ,Bool.and_eq_true,decide_eq_true_eq,beq_iff_eq]at h;have:=ER a.kind (fieldsOf a);omega
theorem uZ{l:List aF}(h:cO l=true):1≤l.length∧l.length≤600∧∀k,k<l.length→fu l k=true:=by
 simp only[cO,Bool.and_eq_true]at h;have h1:=lg h.1;exact⟨by omega,by omega,fun k hk=>mW h.2 hk⟩
theorem qI{l:List aF}{k:Nat}(h:fu l k=true):(fq l k).aQ.length≤4:=by
 simp only[fu,Bool.and_eq_true]at h;exact(rX h.1).2
theorem ET{l:List aF}{k:Nat}(h:∀j,j<k→fu l j=true):(bY l k).length≤4*k:=by
 induction k with
 |zero=>simp[bY]
 |succ k ih=>
  rw[sZ,List.length_append];have h1:=ih (fun j hj=>h j (by omega));have h2:=qI (h k (by omega));simp only[lC,List.length_map,List.length_range];omega
theorem vF{l:List aF}{k:Nat}{p:aR}(h:p∈bY l k):∃i s:Nat,p=⟨(i:Int),(s:Int)⟩∧i<k∧s<(fq l i).aQ.length:=by
 simp only[bY,List.mem_flatMap,List.mem_range,List.mem_map]at h;obtain⟨i,hi,s,hs,rfl⟩:=h;exact⟨i,s,rfl,hi,hs⟩
theorem Dj{l:List aF}{k i s:Nat}(hi:i<k)(hs:s<(fq l i).aQ.length):(⟨(i:Int),(s:Int)⟩:aR)∈bY l k:=by
 simp only[bY,List.mem_flatMap,List.mem_range,List.mem_map];exact⟨i,hi,s,hs,rfl⟩
theorem ES{l:List aF}{k:Nat}{y:aR}(h:(bY l l.length)[k]? =some y):fH l y=true:=by
 obtain⟨i,s,rfl,hi,hs⟩:=vF (List.mem_of_getElem? h);unfold fH;rw[Bool.and_eq_true];exact⟨oW (by simp) (by simp only;omega),oW (by simp) (by simp only[Int.toNat_natCast];omega)⟩
noncomputable def mX(l:List aF)(p:aR):Bool:= !kR l p (kV l p)
theorem ED(n:fU)(h:cO n.agents=true):mo n= !vk (bY n.agents n.agents.length).length (fun k=>mX n.agents (gK (bY n.agents n.agents.length) k)):=by
 have h0:=uZ h;unfold mo;rw[h,Bool.true_and,vk,Bool.not_not,Bool.eq_iff_iff];constructor
 ·intro ha;unfold dK;rw[List.all_eq_true];intro q hq;have hq:q<(bY n.agents n.agents.length).length:=by simpa using hq
  have he:Hid ((bY n.agents n.agents.length)[q]? =some (bY n.agents n.agents.length)[q]):=List.getElem?_eq_getElem hq;obtain⟨i,s,hp,hi,hs⟩:=vF (List.getElem_mem hq);rw[nG he,hp];have h1:=mW (mW ha hi) hs;simp only[mX,Bool.not_not];unfold kV;simpa using h1
 ·intro ha;unfold dK;rw[List.all_eq_true];intro i hi;unfold lD dK;rw[List.all_eq_true];intro s hs;obtain⟨q,hq,he⟩:=List.getElem_of_mem (Dj (l:=n.agents) (k:=n.agents.length) (by simpa using hi) (by simpa using hs));have h1:=mW ha hq;have he':Hid ((bY n.agents n.agents.length)[q]? =some (bY n.agents n.agents.length)[q]):=List.getElem?_eq_getElem hq;rw[nG he',he]at h1;simp only[mX,Bool.not_not]at h1;unfold kV at h1;simpa using h1
end Go.Tr
namespace Go.Proofs.Ytnamelcmcikeoaa
open Go Go.RowKit Go.Proofs Go.Tr
theorem qJ(xs:List aF)(n:Nat){A:Option Addr}{c:Nat}{bs:List Nat}(w:World)(hx:T1 w (.sl n (xs.flatMap aF.enc)) bs (.slice A n c))(Hl:Hid (xs.length=n)):Calls Try.prog 22 #[.slice A n c] w fun e w'=>e=.returned (.bool (cO xs))∧Ext w w':=by
 refine bA fun e=> ?_
 have hn:=hx.yY;have EV:Hid (cO xs=(fK n 1 600&&dK n (fu xs))):=by show _=_;rw[←Hl.out];rfl
 go_enter Try.func22,Try.ntmps22
 cases d1:decide ((n:Int)<1)
 case true=>
  have E:Hid (cO xs=false):=by show _=_;rw[EV.out,xB (by simp at d1;omega)];rfl
  go_wp2_with fail
  repeat (refine ay _ (by kernel_rfl) (by kernel_rfl) ?_;(repeat (go_big_quiet_step (fail)));refine wpQuiet_nil ?_;intro e;go_wp2_with fail)
  go_ret;exact⟨by rw[E.out];rfl,_,rfl⟩
 cases d2:decide ((600:Int)<n)
 case true=>
  have E:Hid (cO xs=false):=by show _=_;rw[EV.out,xB (by simp at d2;omega)];rfl
  go_wp2_with fail
  repeat (refine ay _ (by kernel_rfl) (by kernel_rfl) ?_;(repeat (go_big_quiet_step (fail)));refine wpQuiet_nil ?_;intro e;go_wp2_with fail)
  go_ret;exact⟨by rw[E.out];rfl,_,rfl⟩
 have hin:fK n 1 600=true:=oW (by simp at d1;omega) (by simp at d2;omega);have Hin:=Lib.hid hin;clear hin
 go_wp2_with fail
 repeat (refine ay _ (by kernel_rfl) (by kernel_rfl) ?_;(repeat (go_big_quiet_step (fail)));refine wpQuiet_nil ?_;intro e;go_wp2_with fail)
 go_loopw [3,15] (fun _ i w'=>∃k:Nat,k≤n∧i=.int .i64 k∧Hid (dK k (fu xs)=true)∧∃e:bL w,w'=e.to) (fun _ i _=>n-(intOf i).toNat)
 case atStart=>exact⟨0,Nat.zero_le _,rfl,ql _,_,rfl⟩
 case round=>
  obtain⟨k,hk,rfl,hfk,e,rfl⟩:=hrel
  by_cases hltk:k<n
  ·skip
   obtain⟨b,off,x,bs',rfl,hxk,hp⟩:=T1.elem aF.aY hx Hl hltk;obtain⟨A3,c3,b3,A4,c4,b4,h0,h1,h2,h3,h4,t3,t4⟩:=aF.pt hp;clear hp
   go_upto_region 6 with(fail)
   generalize hgg:e.to.heap.size=g;refine iT e hgg (fun w1 e hx1 hgeg hltg cg=> ?_);clear hgg
   replace t3:=t3.below hx1
   replace t4:=t4.below hx1
   have u0:=cg.always hltg 0 _ rfl;have u1:=cg.always hltg 1 _ rfl;have u2:=cg.always hltg 2 _ rfl;have u3:=cg.always hltg 3 _ rfl;have u4:=cg.always hltg 4 _ rfl;simp only[Nat.zero_add]at u0 u1 u2 u3 u4;clear cg;clear h0 h1 h2 h3 h4;have C1:Hid (QC Try.prog w1 _ _ _):=fun W hW=>yG x W (aF.Iy (t3.below hW) (t4.below hW))
   have EK:Hid (fu xs k=(bJ x&&((x.kind==1)==((k:Int)==0)))):=by show _=_;rw[fu,iL hxk]
   cases d3:bJ x
   case false=>
    (try rw[d3]at C1)
    have E:Hid (cO xs=false):=by show _=_;rw[EV.out,iF hltk (by rw[EK.out,d3];rfl)];simp
    go_wp2_with (first|(go_at_call 36;with_reducible refine(C1.out.at_ _).mono ?_;rintro _ _ ⟨rfl,e,rfl⟩))
    repeat (refine ay _ (by kernel_rfl) (by kernel_rfl) ?_;(repeat (go_big_quiet_step ((first|with_reducible exact C1.out.at_ _))));refine wpQuiet_nil ?_;intro e;go_wp2_with (first|(go_at_call 36;with_reducible refine(C1.out.at_ _).mono ?_;rintro _ _ ⟨rfl,e,rfl⟩)))
    go_ret;exact⟨by rw[E.out];rfl,bL.old hx1 e⟩
   (try rw[d3]at C1)
   cases d4:(x.kind==1)
   case false=>
    (try rw[d4]at C1)
    cases d5:((k:Int)==0)
    case true=>
     (try rw[d5]at C1)
     have E:Hid (cO xs=false):=by show _=_;rw[EV.out,iF hltk (by rw[EK.out,d3,d4,d5];rfl)];simp
     go_wp2_with (first|(go_at_call 36;with_reducible refine(C1.out.at_ _).mono ?_;rintro _ _ ⟨rfl,e,rfl⟩))
     repeat (refine ay _ (by kernel_rfl) (by kernel_rfl) ?_;(repeat (go_big_quiet_step ((first|with_reducible exact C1.out.at_ _))));refine wpQuiet_nil ?_;intro e;go_wp2_with (first|(go_at_call 36;with_reducible refine(C1.out.at_ _).mono ?_;rintro _ _ ⟨rfl,e,rfl⟩)))
     go_ret;exact⟨by rw[E.out];rfl,bL.old hx1 e⟩
    (try rw[d5]at C1)
    have E:Hid (fu xs k=true):=by show _=_;rw[EK.out,d3,d4,d5];rfl
    go_wp2_with (first|(go_at_call 36;with_reducible refine(C1.out.at_ _).mono ?_;rintro _ _ ⟨rfl,e,rfl⟩))
    repeat (refine ay _ (by kernel_rfl) (by kernel_rfl) ?_;(repeat (go_big_quiet_step ((first|with_reducible exact C1.out.at_ _))));refine wpQuiet_nil ?_;intro e;go_wp2_with (first|(go_at_call 36;with_reducible refine(C1.out.at_ _).mono ?_;rintro _ _ ⟨rfl,e,rfl⟩)))
    exact⟨⟨k+1,by omega,by go_num,iM hfk E.out,⟨e.to,hx1.trans e.h⟩,rfl⟩,by simp[intOf];omega⟩
   (try rw[d4]at C1)
   cases d6:((k:Int)==0)
   case false=>
    (try rw[d6]at C1)
    have E:Hid (cO xs=false):=by show _=_;rw[EV.out,iF hltk (by rw[EK.out,d3,d4,d6];rfl)];simp
    go_wp2_with (first|(go_at_call 36;with_reducible refine(C1.out.at_ _).mono ?_;rintro _ _ ⟨rfl,e,rfl⟩))
    repeat (refine ay _ (by kernel_rfl) (by kernel_rfl) ?_;(repeat (go_big_quiet_step ((first|with_reducible exact C1.out.at_ _))));refine wpQuiet_nil ?_;intro e;go_wp2_with (first|(go_at_call 36;with_reducible refine(C1.out.at_ _).mono ?_;rintro _ _ ⟨rfl,e,rfl⟩)))
    go_ret;exact⟨by rw[E.out];rfl,bL.old hx1 e⟩
   (try rw[d6]at C1)
   have E:Hid (fu xs k=true):=by show _=_;rw[EK.out,d3,d4,d6];rfl
   go_wp2_with (first|(go_at_call 36;with_reducible refine(C1.out.at_ _).mono ?_;rintro _ _ ⟨rfl,e,rfl⟩))
   repeat (refine ay _ (by kernel_rfl) (by kernel_rfl) ?_;(repeat (go_big_quiet_step ((first|with_reducible exact C1.out.at_ _))));refine wpQuiet_nil ?_;intro e;go_wp2_with (first|(go_at_call 36;with_reducible refine(C1.out.at_ _).mono ?_;rintro _ _ ⟨rfl,e,rfl⟩)))
   exact⟨⟨k+1,by omega,by go_num,iM hfk E.out,⟨e.to,hx1.trans e.h⟩,rfl⟩,by simp[intOf];omega⟩
  ·have:n=k:=by omega
   subst this;have E:Hid (cO xs=true):=by show _=_;rw[EV.out,Hin.out,hfk.out];rfl
   go_wp2_with fail
   repeat (refine ay _ (by kernel_rfl) (by kernel_rfl) ?_;(repeat (go_big_quiet_step (fail)));refine wpQuiet_nil ?_;intro e;go_wp2_with fail)
   go_ret;exact⟨by rw[E.out];rfl,_,rfl⟩
theorem Cy(xs:List aF)(n:Nat){A:Option Addr}{c:Nat}{bs:List Nat}(p:aR)(w:World)(hx:T1 w (.sl n (xs.flatMap aF.enc)) bs (.slice A n c))(Hl:Hid (xs.length=n)):Calls Try.prog 20 #[.slice A n c,.agg #[.int .i64 p.agent,.int .i64 p.slot]] w fun e w'=>e=.returned (.bool (fH xs p))∧Ext w w':=by
 refine bA fun e=> ?_
 have hn:=hx.yY;have EV:Hid (fH xs p=(fK p.agent 0 ((n:Int)-1)&&fK p.slot 0 (((fq xs p.agent.toNat).aQ.length:Int)-1))):=by show _=_;rw[←Hl.out];rfl
 go_enter Try.func20,Try.ntmps20
 go_upto_region 1 with(fail)
 generalize hgg:e.to.heap.size=g;refine iT e hgg (fun w1 e hx1 hgeg hltg cg=> ?_);clear hgg
 replace hx:=hx.below hx1
 obtain⟨k0,k1⟩:=aR.IW (dR.box hltg cg aR.Iy);cases d1:decide (0≤p.agent)
 case false=>
  have E:Hid (fH xs p=false):=by show _=_;rw[EV.out,xB (by simp at d1;omega)];rfl
  go_wp2_with fail
  repeat (refine ay _ (by kernel_rfl) (by kernel_rfl) ?_;(repeat (go_big_quiet_step (fail)));refine wpQuiet_nil ?_;intro e;go_wp2_with fail)
  go_ret;exact⟨by rw[E.out];rfl,bL.old hx1 e⟩
 cases d2:decide (p.agent<(n:Int))
 case false=>
  have E:Hid (fH xs p=false):=by show _=_;rw[EV.out,xB (by simp at d2;omega)];rfl
  go_wp2_with fail
  repeat (refine ay _ (by kernel_rfl) (by kernel_rfl) ?_;(repeat (go_big_quiet_step (fail)));refine wpQuiet_nil ?_;intro e;go_wp2_with fail)
  go_ret;exact⟨by rw[E.out];rfl,bL.old hx1 e⟩
 cases d3:decide (0≤p.slot)
 case false=>
  have E:Hid (fH xs p=false):=by show _=_;rw[EV.out,xB (n:=p.slot) (by simp at d3;omega),Bool.and_false]
  go_wp2_with fail
  repeat (refine ay _ (by kernel_rfl) (by kernel_rfl) ?_;(repeat (go_big_quiet_step (fail)));refine wpQuiet_nil ?_;intro e;go_wp2_with fail)
  go_ret;exact⟨by rw[E.out];rfl,bL.old hx1 e⟩
 have ha0:0≤p.agent:=by simpa using d1
 have ha1:p.agent<(n:Int):=by simpa using d2
 obtain⟨i,hi⟩:=Int.eq_ofNat_of_zero_le ha0;have hlt:i<n:=by omega
 obtain⟨b,off,x,bs',rfl,hxk,hp⟩:=T1.elem aF.aY hx Hl hlt;obtain⟨A3,c3,b3,A4,c4,b4,h0,h1,h2,h3,h4,t3,t4⟩:=aF.pt hp;have hn4:=t4.yY;clear h0 h1 h2 h3 t3;have EA:Hid (fq xs p.agent.toNat=x):=by show _=_;rw[hi,Int.toNat_natCast];exact iL hxk
 have EI:Hid (fK p.agent 0 ((n:Int)-1)=true):=oW ha0 (by omega);rw[hi]at k0 d1 d2;have i0:(0:Int)≤(i:Int):=by omega
 have i1:(i:Int)<(n:Int):=by omega
 clear hi ha0 ha1;have E:Hid (fH xs p=decide (p.slot<(x.aQ.length:Int))):=by show _=_;rw[EV.out,EA.out,EI.out,Bool.true_and];unfold fK;rw[show decide ((0:Int)≤p.slot)=true from d3,Bool.true_and];rw[Bool.eq_iff_iff];simp;omega
 go_wp2_with fail
 repeat (refine ay _ (by kernel_rfl) (by kernel_rfl) ?_;(repeat (go_big_quiet_step (fail)));refine wpQuiet_nil ?_;intro e;go_wp2_with fail)
 go_ret;exact⟨by rw[E.out];rfl,bL.old hx1 e⟩
theorem KJ:kS Try.prog 32 36 2:=kS.of Try.underlying32 (by kernel_rfl) (by omega)
theorem IV(x:fU)(b o:Nat)(bs:List Nat)(w:World)(h:dR w b o x.enc bs)(hok:cO x.agents=true):Calls Try.prog 15 #[.pointer (some ⟨b,o,none⟩)] w fun e w'=>
  Ext w w'∧∃A c bs',e=.returned (.slice A (bY x.agents x.agents.length).length c)∧T1 w' (.sl (bY x.agents x.agents.length).length ((bY x.agents x.agents.length).flatMap aR.enc)) bs' (.slice A (bY x.agents x.agents.length).length c):=by
 obtain⟨A0,c0,b0,h0,t0⟩:=fU.pt h;have hn0:=t0.yY;obtain⟨hk1,hk2,hall⟩:=uZ hok;have Hall:=Lib.hid hall;clear hall hok;refine Ic fun e=> ?_
 go_enter Try.func15,Try.ntmps15
 go_wp2_with fail
 go_loopw [3,12] (fun v i wr=>∃k:Nat,k≤x.agents.length∧i=.int .i64 k∧∃e:bL w,wr=e.to∧e.to.ownsRow w.heap.size 36 2 v (bY x.agents k).length ((bY x.agents k).flatMap aR.cells)) (fun _ i _=>x.agents.length-(intOf i).toNat)
 case atStart=>exact⟨0,Nat.zero_le _,rfl,_,rfl,World.ownsRow_nil _ _ _ _⟩
 case round=>
  obtain⟨k,hk,rfl,e,rfl,ho⟩:=hrel
  by_cases hlt:k<x.agents.length
  ·obtain⟨b',off,y,bs',rfl,hyk,hp⟩:=T1.elem aF.aY t0 jm hlt;obtain⟨A3,c3,b3,A4,c4,b4,g0,g1,g2,g3,g4,t3,t4⟩:=aF.pt hp;have hn4:=t4.yY;have HA:Hid (fq x.agents k=y):=iL hyk;have hy4:y.aQ.length≤4:=by have:=qI (Hall.out k hlt);rw[HA.out]at this;exact this
   have hle:(bY x.agents k).length≤4*k:=ET fun j hj=>Hall.out j (by omega)
   clear t3 t4 hp
   go_wp2_with fail
   go_loopw [3,20] (fun v i wr=>∃j:Nat,j≤y.aQ.length∧i=.int .i64 j∧∃e:bL w,wr=e.to∧e.to.ownsRow w.heap.size 36 2 v ((bY x.agents k).length+j) ((bY x.agents k).flatMap aR.cells++(lC k j).flatMap aR.cells)) (fun _ i _=>y.aQ.length-(intOf i).toNat)
   case atStart=>exact⟨0,Nat.zero_le _,rfl,⟨_,e.h.alloc e.h.size _⟩,rfl,by simpa[lC]using ho.alloc _⟩
   case round=>
    obtain⟨j,hj,rfl,e,rfl,ho⟩:=hrel
    by_cases hltj:j<y.aQ.length
    ·have hge:=e.h.size
     go_wp2_with (at_builtin;refine Fp rfl (.tmp 23) (.tmp 27) 32 rfl KJ w.heap.size _ _ _ rfl (ho.alloc _) e.to.heap.size 1 1 #[.int .i64 (k:Int),.int .i64 (j:Int)] rfl (heap_alloc_new e.to _) rfl rfl (by omega) (by simp;omega) ?_;intro v' w2 ho2 hg2)
     have hx2:Ext w w2:=Ext.grown (e.h.alloc e.h.size _) hg2 (EL ho)
     go_roundw
     case rel=>exact⟨j+1,by omega,by go_num,⟨w2,hx2⟩,rfl,by rw[Bh,List.flatMap_append,←List.append_assoc];exact ho2⟩
     case measure=>simp[intOf];omega
    ·have:y.aQ.length=j:=by omega
     subst this
     go_wp2_with fail
     go_roundw
     case rel=>exact⟨k+1,by omega,by go_num,e,rfl,by rw[sZ,HA.out,List.flatMap_append,List.length_append];simpa[lC]using ho⟩
     case measure=>simp[intOf];omega
  ·have:x.agents.length=k:=by omega
   subst this
   go_wp2_with fail
   go_ret;obtain⟨A,c,bs',rfl,ht⟩:=EM ho (TN.NS aR.cells (fun _=>rfl) _);exact⟨e,rfl,A,c,bs',rfl,ht⟩
theorem BR(N:fU)(nb no:Nat)(nbs:List Nat)(p:aR)(w:World)(hN:dR w nb no N.enc nbs)(hp:fH N.agents p=true):Calls Try.prog 31 #[.agg #[.int .i64 p.agent,.int .i64 p.slot],.pointer (some ⟨nb,no,none⟩)] w fun e w'=>e=.returned (.bool (mX N.agents p))∧Ext w w':=by
 refine bA fun e=> ?_
 obtain⟨A0,c0,b0,h0,t0⟩:=fU.pt hN;obtain⟨q,hq⟩:∃q,kV N.agents p=q:=⟨_,rfl⟩;have EV:Hid (mX N.agents p= !kR N.agents p q):=by show _=_;rw[mX,hq]
 have Hq:=Lib.hid hq;clear hq
 go_enter Try.func31,Try.ntmps31
 go_upto_region 1 with(fail)
 generalize hgg:e.to.heap.size=g;refine iT e hgg (fun w1 e hx1 hgeg hltg cg=> ?_);clear hgg
 replace hN:=hN.ext hx1
 replace h0:=h0.ext hx1
 replace t0:=t0.below hx1
 obtain⟨k0,k1⟩:=aR.IW (x:=p) (dR.box hltg cg aR.Iy);clear cg;have C1:Hid (QC Try.prog w1 _ _ _):=fun W hW=>Df N nb no _ p W (hN.ext hW) hp
 rw[Hq.out]at C1
 go_upto_region 2 with(first|(go_at_call 16;with_reducible refine(C1.out.at_ _).mono ?_;rintro _ _ ⟨rfl,e,rfl⟩))
 repeat (refine ay _ (by kernel_rfl) (by kernel_rfl) ?_;(repeat (go_big_quiet_step ((first|with_reducible exact C1.out.at_ _))));refine wpQuiet_nil ?_;intro e;go_upto_region 2 with(first|(go_at_call 16;with_reducible refine(C1.out.at_ _).mono ?_;rintro _ _ ⟨rfl,e,rfl⟩)))
 generalize hggq:e.to.heap.size=gq;refine iT e hggq (fun w2 e hx2 hgegq hltgq cgq=> ?_);clear hggq
 replace hN:=hN.ext hx2
 replace h0:=h0.ext hx2
 replace k0:=k0.ext hx2
 replace k1:=k1.ext hx2
 replace t0:=t0.below hx2
 replace C1:Hid (QC Try.prog w2 _ _ _):=C1.out.ext hx2
 have hy2:=Ext.trans hx1 hx2;obtain⟨q0,q1⟩:=aR.IW (x:=q) (dR.box hltgq cgq aR.Iy);clear cgq;clear C1;have hg:=Og;have heq:=fun W=>GI W q p
 have C2:Hid (QC Try.prog w2 _ _ _):=fun W hW=>Cy N.agents _ q W (t0.below hW) jm
 cases d1:FX q p
 case true=>
  (try rw[d1]at C2)
  have E:Hid (mX N.agents p=true):=by show _=_;rw[EV.out];simp[kR,d1]
  go_wp2_with (first|(go_at_call 20;with_reducible refine(C2.out.at_ _).mono ?_;rintro _ _ ⟨rfl,e,rfl⟩))
  repeat (refine ay _ (by kernel_rfl) (by kernel_rfl) ?_;(repeat (go_big_quiet_step ((first|with_reducible exact C2.out.at_ _))));refine wpQuiet_nil ?_;intro e;go_wp2_with (first|(go_at_call 20;with_reducible refine(C2.out.at_ _).mono ?_;rintro _ _ ⟨rfl,e,rfl⟩)))
  go_ret;exact⟨by rw[E.out];rfl,bL.old hy2 e⟩
 (try rw[d1]at C2)
 cases d2:fH N.agents q
 case false=>
  (try rw[d2]at C2)
  have E:Hid (mX N.agents p=true):=by show _=_;rw[EV.out];simp[kR,d2]
  go_wp2_with (first|(go_at_call 20;with_reducible refine(C2.out.at_ _).mono ?_;rintro _ _ ⟨rfl,e,rfl⟩))
  repeat (refine ay _ (by kernel_rfl) (by kernel_rfl) ?_;(repeat (go_big_quiet_step ((first|with_reducible exact C2.out.at_ _))));refine wpQuiet_nil ?_;intro e;go_wp2_with (first|(go_at_call 20;with_reducible refine(C2.out.at_ _).mono ?_;rintro _ _ ⟨rfl,e,rfl⟩)))
  go_ret;exact⟨by rw[E.out];rfl,bL.old hy2 e⟩
 (try rw[d2]at C2)
 obtain⟨r,hr⟩:∃r,kV N.agents q=r:=⟨_,rfl⟩;have Hr:=Lib.hid hr;clear hr;have C3:Hid (QC Try.prog w2 _ _ _):=fun W hW=>Df N nb no _ q W (hN.ext hW) d2
 rw[Hr.out]at C3;have hne:=fun W=>GJ W r p
 have E:Hid (mX N.agents p= !FX r p):=by show _=_;rw[EV.out];simp[kR,Hr.out,d1,d2]
 go_wp2_with (first|(go_at_call 20;with_reducible refine(C2.out.at_ _).mono ?_;rintro _ _ ⟨rfl,e,rfl⟩)|(go_at_call 16;with_reducible refine(C3.out.at_ _).mono ?_;rintro _ _ ⟨rfl,e,rfl⟩))
 repeat (refine ay _ (by kernel_rfl) (by kernel_rfl) ?_;(repeat (go_big_quiet_step ((first|with_reducible exact C2.out.at_ _|with_reducible exact C3.out.at_ _))));refine wpQuiet_nil ?_;intro e;go_wp2_with (first|(go_at_call 20;with_reducible refine(C2.out.at_ _).mono ?_;rintro _ _ ⟨rfl,e,rfl⟩)|(go_at_call 16;with_reducible refine(C3.out.at_ _).mono ?_;rintro _ _ ⟨rfl,e,rfl⟩)))
 go_ret;exact⟨by rw[E.out];rfl,bL.old hy2 e⟩
theorem uF(xs:List aR)(n:Nat){A:Option Addr}{c:Nat}{bs:List Nat}(N:fU)(nb no:Nat)(nbs:List Nat)(w:World)(hx:T1 w (.sl n (xs.flatMap aR.enc)) bs (.slice A n c))(Hl:Hid (xs.length=n))(hN:dR w nb no N.enc nbs)(hin:∀(k:Nat) (y:aR),xs[k]? =some y→fH N.agents y=true):Calls Try.prog 45 #[.slice A n c,.func (.func 31) #[] #[.pointer (some ⟨nb,no,none⟩)]] w fun e w'=>e=.returned (.int .i64 (idxOf n (fun k=>mX N.agents (gK xs k))))∧Ext w w':=by
 refine bA fun e=> ?_
 have hn:=hx.yY
 go_enter Try.func45,Try.ntmps45
 go_wp2_with fail
 repeat (refine ay _ (by kernel_rfl) (by kernel_rfl) ?_;(repeat (go_big_quiet_step (fail)));refine wpQuiet_nil ?_;intro e;go_wp2_with fail)
 go_loopw [5,8] (fun _ i w'=>∃k:Nat,k≤n∧i=.int .i64 k∧Hid (dK k (fun k=> !mX N.agents (gK xs k))=true)∧∃e:bL w,w'=e.to) (fun _ i _=>n-(intOf i).toNat)
 case atStart=>exact⟨0,Nat.zero_le _,rfl,ql _,_,rfl⟩
 case round=>
  obtain⟨k,hk,rfl,hf,e,rfl⟩:=hrel
  by_cases hlt:k<n
  ·skip
   obtain⟨b,off,x,bs',rfl,hxk,hp⟩:=T1.elem aR.aY hx Hl hlt;obtain⟨kx0,kx1⟩:=aR.pt hp;have hpi:=hin k x hxk.out;have EP:Hid (mX N.agents (gK xs k)=mX N.agents x):=by show _=_;rw[nG hxk]
   have C1:Hid (QC Try.prog w _ _ _):=fun W hW=>BR N nb no nbs x W (hN.ext hW) hpi
   cases d1:mX N.agents x
   case true=>
    (try rw[d1]at C1)
    have E:Hid (idxOf n (fun k=>mX N.agents (gK xs k))=(k:Int)):=by show _=_;exact Cz hf hlt (by rw[EP.out];exact d1)
    go_wp2_with (first|(go_at_call 31;with_reducible refine(C1.out.at_ _).mono ?_;rintro _ _ ⟨rfl,e,rfl⟩))
    repeat (refine ay _ (by kernel_rfl) (by kernel_rfl) ?_;(repeat (go_big_quiet_step ((first|with_reducible exact C1.out.at_ _))));refine wpQuiet_nil ?_;intro e;go_wp2_with (first|(go_at_call 31;with_reducible refine(C1.out.at_ _).mono ?_;rintro _ _ ⟨rfl,e,rfl⟩)))
    go_ret;exact⟨by rw[E.out];rfl,_,rfl⟩
   (try rw[d1]at C1)
   have E:Hid ((!mX N.agents (gK xs k))=true):=by show _=_;rw[EP.out,d1];rfl
   go_wp2_with (first|(go_at_call 31;with_reducible refine(C1.out.at_ _).mono ?_;rintro _ _ ⟨rfl,e,rfl⟩))
   repeat (refine ay _ (by kernel_rfl) (by kernel_rfl) ?_;(repeat (go_big_quiet_step ((first|with_reducible exact C1.out.at_ _))));refine wpQuiet_nil ?_;intro e;go_wp2_with (first|(go_at_call 31;with_reducible refine(C1.out.at_ _).mono ?_;rintro _ _ ⟨rfl,e,rfl⟩)))
   exact⟨⟨k+1,by omega,by go_num,iM hf E.out,_,rfl⟩,by simp[intOf];omega⟩
  ·have:n=k:=by omega
   subst this;have E:Hid (idxOf n (fun k=>mX N.agents (gK xs k))= -1):=by show _=_;exact qZ hf
   go_wp2_with fail
   repeat (refine ay _ (by kernel_rfl) (by kernel_rfl) ?_;(repeat (go_big_quiet_step (fail)));refine wpQuiet_nil ?_;intro e;go_wp2_with fail)
   go_ret;exact⟨by rw[E.out];rfl,_,rfl⟩
theorem qF(xs:List aR)(n:Nat){A:Option Addr}{c:Nat}{bs:List Nat}(N:fU)(nb no:Nat)(nbs:List Nat)(w:World)(hx:T1 w (.sl n (xs.flatMap aR.enc)) bs (.slice A n c))(Hl:Hid (xs.length=n))(hN:dR w nb no N.enc nbs)(hin:∀(k:Nat) (y:aR),xs[k]? =some y→fH N.agents y=true):Calls Try.prog 30 #[.slice A n c,.func (.func 31) #[] #[.pointer (some ⟨nb,no,none⟩)]] w fun e w'=>e=.returned (.bool (vk n (fun k=>mX N.agents (gK xs k))))∧Ext w w':=by
 refine bA fun e=> ?_
 have C1:Hid (QC Try.prog w _ _ _):=fun W hW=>uF xs n N nb no nbs W (hx.below hW) Hl (hN.ext hW) hin
 have hc:=CB n (fun k=>mX N.agents (gK xs k))
 go_enter Try.func30,Try.ntmps30
 go_wp2_with (first|(go_at_call 45;with_reducible refine(C1.out.at_ _).mono ?_;rintro _ _ ⟨rfl,e,rfl⟩))
 repeat (refine ay _ (by kernel_rfl) (by kernel_rfl) ?_;(repeat (go_big_quiet_step ((first|with_reducible exact C1.out.at_ _))));refine wpQuiet_nil ?_;intro e;go_wp2_with (first|(go_at_call 45;with_reducible refine(C1.out.at_ _).mono ?_;rintro _ _ ⟨rfl,e,rfl⟩)))
 go_ret;exact⟨by rw[←hc];rfl,_,rfl⟩
theorem uE(x:fU){bs us}(w:World)(h:TN w x.enc bs us):Calls Try.prog 14 #[.agg us.toArray] w fun e w'=>e=.returned (.bool (mo x))∧Ext w w':=by
 refine bA fun e=> ?_
 obtain⟨P0,p0,q0,rfl,_⟩:=fU.us (x:=x) h
 go_enter Try.func14,Try.ntmps14
 go_upto_region 1 with(fail)
 generalize hgg:e.to.heap.size=g;refine iT e hgg (fun w1 e hx1 hgeg hltg cg=> ?_);clear hgg
 replace h:=h.below hx1
 have p:=dR.box hltg cg h;clear cg h;obtain⟨A0,c0,b0,h0,t0⟩:=fU.IW p;have C1:Hid (QC Try.prog w1 _ _ _):=fun W hW=>qJ x.agents _ W (t0.below hW) jm
 cases d1:cO x.agents
 case false=>
  (try rw[d1]at C1)
  have E:Hid (mo x=false):=by show _=_;simp[mo,d1]
  go_wp2_with (first|(go_at_call 22;with_reducible refine(C1.out.at_ _).mono ?_;rintro _ _ ⟨rfl,e,rfl⟩))
  repeat (refine ay _ (by kernel_rfl) (by kernel_rfl) ?_;(repeat (go_big_quiet_step ((first|with_reducible exact C1.out.at_ _))));refine wpQuiet_nil ?_;intro e;go_wp2_with (first|(go_at_call 22;with_reducible refine(C1.out.at_ _).mono ?_;rintro _ _ ⟨rfl,e,rfl⟩)))
  go_ret;exact⟨by rw[E.out];rfl,bL.old hx1 e⟩
 (try rw[d1]at C1)
 have EV:Hid (mo x= !vk (bY x.agents x.agents.length).length (fun k=>mX x.agents (gK (bY x.agents x.agents.length) k))):=ED x d1
 go_wp2_with (first|(go_at_call 22;with_reducible refine(C1.out.at_ _).mono ?_;rintro _ _ ⟨rfl,e,rfl⟩))
 repeat (refine ay _ (by kernel_rfl) (by kernel_rfl) ?_;(repeat (go_big_quiet_step ((first|with_reducible exact C1.out.at_ _))));refine wpQuiet_nil ?_;intro e;go_wp2_with (first|(go_at_call 22;with_reducible refine(C1.out.at_ _).mono ?_;rintro _ _ ⟨rfl,e,rfl⟩)))
 refine(IV x g 0 _ _ (p.ext e.h) d1).mono ?_;rintro _ w2 ⟨hx2,A,c,bs',rfl,ht⟩;have hq:=Ext.trans e.h hx2;clear C1
 replace p:=p.ext hq
 have hy2:=Ext.trans hx1 hq;obtain⟨e,he⟩:∃e:bL w2,w2=e.to:=⟨⟨w2,Below.refl _ _⟩,rfl⟩;have C2:Hid (QC Try.prog w2 _ _ _):=fun W hW=>qF (bY x.agents x.agents.length) _ x g 0 _ W (ht.below hW) jm (p.ext hW) (fun k y hy=>ES hy)
 go_wp2_with (first|(go_at_call 30;with_reducible refine(C2.out.at_ _).mono ?_;rintro _ _ ⟨rfl,e,rfl⟩))
 repeat (refine ay _ (by kernel_rfl) (by kernel_rfl) ?_;(repeat (go_big_quiet_step ((first|with_reducible exact C2.out.at_ _))));refine wpQuiet_nil ?_;intro e;go_wp2_with (first|(go_at_call 30;with_reducible refine(C2.out.at_ _).mono ?_;rintro _ _ ⟨rfl,e,rfl⟩)))
 go_ret;refine⟨by rw[EV.out];rfl,?_⟩
 first|exact bL.old hy2 e|exact bL.old hy2 ⟨_,Below.refl _ _⟩
theorem yU(x:aF)(b o:Nat)(bs:List Nat)(w:World)(h:dR w b o x.enc bs):Calls Try.prog 63 #[.pointer (some ⟨b,o,none⟩)] w fun e w'=>e=.returned (.int .i64 (fieldsOf x))∧Ext w w':=by
 refine bA fun e=> ?_
 obtain⟨A3,c3,b3,A4,c4,b4,h0,h1,h2,h3,h4,t3,t4⟩:=aF.pt h
 go_enter Try.func63,Try.ntmps63
 have hn4:=t4.yY;cases d1:(x.kind==9)
 case false=>
  have E:Hid (fieldsOf x=0):=by show _=_;simp at d1;simp[fieldsOf,bG,d1]
  go_wp2_with fail
  repeat (refine ay _ (by kernel_rfl) (by kernel_rfl) ?_;(repeat (go_big_quiet_step (fail)));refine wpQuiet_nil ?_;intro e;go_wp2_with fail)
  go_ret;exact⟨by rw[E.out];rfl,_,rfl⟩
 have E:Hid (fieldsOf x=(x.aQ.length:Int)-1):=by show _=_;simp at d1;simp[fieldsOf,bG,d1]
 go_wp2_with fail
 repeat (refine ay _ (by kernel_rfl) (by kernel_rfl) ?_;(repeat (go_big_quiet_step (fail)));refine wpQuiet_nil ?_;intro e;go_wp2_with fail)
 go_ret;exact⟨by rw[E.out];rfl,_,rfl⟩
theorem vX(k f:Int)(w:World):Calls Try.prog 62 #[.int .i64 k,.int .i64 f] w fun e w'=>e=.returned (.int .i64 (aV k f))∧Ext w w':=by
 refine bA fun e=> ?_
 have C1:Hid (QC Try.prog w _ _ _):=fun W hW=>(lH f 0 3 W).q
 cases d1:fK f 0 3
 case true=>
  have hf:=lg d1
  go_enter Try.func62,Try.ntmps62
  go_wp2_with (first|(go_at_call 46;with_reducible refine(C1.out.at_ _).mono ?_;rintro _ _ ⟨rfl,e,rfl⟩))
  repeat (refine ay _ (by kernel_rfl) (by kernel_rfl) ?_;(repeat (go_big_quiet_step ((first|with_reducible exact C1.out.at_ _))));refine wpQuiet_nil ?_;intro e;go_wp2_with (first|(go_at_call 46;with_reducible refine(C1.out.at_ _).mono ?_;rintro _ _ ⟨rfl,e,rfl⟩)))
  all_goals go_ret
  all_goals refine⟨?_,_,rfl⟩
  all_goals first|(simp[aV, *];done)|(simp[aV, *];omega)|(simp_all [aV];done)|(simp_all [aV];omega)
 go_enter Try.func62,Try.ntmps62
 go_wp2_with (first|(go_at_call 46;with_reducible refine(C1.out.at_ _).mono ?_;rintro _ _ ⟨rfl,e,rfl⟩))
 repeat (refine ay _ (by kernel_rfl) (by kernel_rfl) ?_;(repeat (go_big_quiet_step ((first|with_reducible exact C1.out.at_ _))));refine wpQuiet_nil ?_;intro e;go_wp2_with (first|(go_at_call 46;with_reducible refine(C1.out.at_ _).mono ?_;rintro _ _ ⟨rfl,e,rfl⟩)))
 all_goals go_ret
 all_goals refine⟨?_,_,rfl⟩
 all_goals first|(simp[aV, *];done)|(simp[aV, *];omega)|(simp_all [aV];done)|(simp_all [aV];omega)
theorem AO(x:aF)(b o:Nat)(bs:List Nat)(w:World)(h:dR w b o x.enc bs):Calls Try.prog 47 #[.pointer (some ⟨b,o,none⟩)] w fun e w'=>e=.returned (.bool (bJ x))∧Ext w w':=by
 refine bA fun e=> ?_
 obtain⟨A3,c3,b3,A4,c4,b4,h0,h1,h2,h3,h4,t3,t4⟩:=aF.pt h;have hn4:=t4.yY;have C1:Hid (QC Try.prog w _ _ _):=fun W hW=>yU x b o _ W (h.ext hW)
 have C2:Hid (QC Try.prog w _ _ _):=fun W hW=>xH x b o _ W (h.ext hW)
 have C3:Hid (QC Try.prog w _ _ _):=fun W hW=>vX x.kind (fieldsOf x) W
 have C4:Hid (QC Try.prog w _ _ _):=fun W hW=>(AL x.kind x.level W).q
 go_enter Try.func47,Try.ntmps47
 cases d1:decide (0<aV x.kind (fieldsOf x))
 case false=>
  (try rw[d1]at C1);(try rw[d1]at C2);(try rw[d1]at C3);(try rw[d1]at C4)
  have E:Hid (bJ x=false):=by show _=_;first|(simp only[bJ,d1];done)|(simp only[bJ,d1];rfl)|(simp[bJ,d1];done)|((try simp at d1);simp[bJ,d1];done)
  go_wp2_with (first|(go_at_call 63;with_reducible refine(C1.out.at_ _).mono ?_;rintro _ _ ⟨rfl,e,rfl⟩)|(go_at_call 65;with_reducible refine(C2.out.at_ _).mono ?_;rintro _ _ ⟨rfl,e,rfl⟩)|(go_at_call 62;with_reducible refine(C3.out.at_ _).mono ?_;rintro _ _ ⟨rfl,e,rfl⟩)|(go_at_call 64;with_reducible refine(C4.out.at_ _).mono ?_;rintro _ _ ⟨rfl,e,rfl⟩))
  repeat (refine ay _ (by kernel_rfl) (by kernel_rfl) ?_;(repeat (go_big_quiet_step ((first|with_reducible exact C1.out.at_ _|with_reducible exact C2.out.at_ _|with_reducible exact C3.out.at_ _|with_reducible exact C4.out.at_ _))));refine wpQuiet_nil ?_;intro e;go_wp2_with (first|(go_at_call 63;with_reducible refine(C1.out.at_ _).mono ?_;rintro _ _ ⟨rfl,e,rfl⟩)|(go_at_call 65;with_reducible refine(C2.out.at_ _).mono ?_;rintro _ _ ⟨rfl,e,rfl⟩)|(go_at_call 62;with_reducible refine(C3.out.at_ _).mono ?_;rintro _ _ ⟨rfl,e,rfl⟩)|(go_at_call 64;with_reducible refine(C4.out.at_ _).mono ?_;rintro _ _ ⟨rfl,e,rfl⟩)))
  go_ret;exact⟨by rw[E.out];rfl,_,rfl⟩
 (try rw[d1]at C1);(try rw[d1]at C2);(try rw[d1]at C3);(try rw[d1]at C4)
 cases d2:((x.aQ.length:Int)==aV x.kind (fieldsOf x))
 case false=>
  (try rw[d2]at C1);(try rw[d2]at C2);(try rw[d2]at C3);(try rw[d2]at C4)
  have E:Hid (bJ x=false):=by show _=_;first|(simp only[bJ,d1,d2];done)|(simp only[bJ,d1,d2];rfl)|(simp[bJ,d1,d2];done)|((try simp at d1);(try simp at d2);simp[bJ,d1,d2];done)
  go_wp2_with (first|(go_at_call 63;with_reducible refine(C1.out.at_ _).mono ?_;rintro _ _ ⟨rfl,e,rfl⟩)|(go_at_call 65;with_reducible refine(C2.out.at_ _).mono ?_;rintro _ _ ⟨rfl,e,rfl⟩)|(go_at_call 62;with_reducible refine(C3.out.at_ _).mono ?_;rintro _ _ ⟨rfl,e,rfl⟩)|(go_at_call 64;with_reducible refine(C4.out.at_ _).mono ?_;rintro _ _ ⟨rfl,e,rfl⟩))
  repeat (refine ay _ (by kernel_rfl) (by kernel_rfl) ?_;(repeat (go_big_quiet_step ((first|with_reducible exact C1.out.at_ _|with_reducible exact C2.out.at_ _|with_reducible exact C3.out.at_ _|with_reducible exact C4.out.at_ _))));refine wpQuiet_nil ?_;intro e;go_wp2_with (first|(go_at_call 63;with_reducible refine(C1.out.at_ _).mono ?_;rintro _ _ ⟨rfl,e,rfl⟩)|(go_at_call 65;with_reducible refine(C2.out.at_ _).mono ?_;rintro _ _ ⟨rfl,e,rfl⟩)|(go_at_call 62;with_reducible refine(C3.out.at_ _).mono ?_;rintro _ _ ⟨rfl,e,rfl⟩)|(go_at_call 64;with_reducible refine(C4.out.at_ _).mono ?_;rintro _ _ ⟨rfl,e,rfl⟩)))
  go_ret;exact⟨by rw[E.out];rfl,_,rfl⟩
 (try rw[d2]at C1);(try rw[d2]at C2);(try rw[d2]at C3);(try rw[d2]at C4)
 cases d3:dH x.kind x.level
 case false=>
  (try rw[d3]at C1);(try rw[d3]at C2);(try rw[d3]at C3);(try rw[d3]at C4)
  have E:Hid (bJ x=false):=by show _=_;first|(simp only[bJ,d1,d2,d3];done)|(simp only[bJ,d1,d2,d3];rfl)|(simp[bJ,d1,d2,d3];done)|((try simp at d1);(try simp at d2);(try simp at d3);simp[bJ,d1,d2,d3];done)
  go_wp2_with (first|(go_at_call 63;with_reducible refine(C1.out.at_ _).mono ?_;rintro _ _ ⟨rfl,e,rfl⟩)|(go_at_call 65;with_reducible refine(C2.out.at_ _).mono ?_;rintro _ _ ⟨rfl,e,rfl⟩)|(go_at_call 62;with_reducible refine(C3.out.at_ _).mono ?_;rintro _ _ ⟨rfl,e,rfl⟩)|(go_at_call 64;with_reducible refine(C4.out.at_ _).mono ?_;rintro _ _ ⟨rfl,e,rfl⟩))
  repeat (refine ay _ (by kernel_rfl) (by kernel_rfl) ?_;(repeat (go_big_quiet_step ((first|with_reducible exact C1.out.at_ _|with_reducible exact C2.out.at_ _|with_reducible exact C3.out.at_ _|with_reducible exact C4.out.at_ _))));refine wpQuiet_nil ?_;intro e;go_wp2_with (first|(go_at_call 63;with_reducible refine(C1.out.at_ _).mono ?_;rintro _ _ ⟨rfl,e,rfl⟩)|(go_at_call 65;with_reducible refine(C2.out.at_ _).mono ?_;rintro _ _ ⟨rfl,e,rfl⟩)|(go_at_call 62;with_reducible refine(C3.out.at_ _).mono ?_;rintro _ _ ⟨rfl,e,rfl⟩)|(go_at_call 64;with_reducible refine(C4.out.at_ _).mono ?_;rintro _ _ ⟨rfl,e,rfl⟩)))
  go_ret;exact⟨by rw[E.out];rfl,_,rfl⟩
 (try rw[d3]at C1);(try rw[d3]at C2);(try rw[d3]at C3);(try rw[d3]at C4)
 have E:Hid (bJ x=bg x):=by show _=_;first|(simp only[bJ,d1,d2,d3];done)|(simp only[bJ,d1,d2,d3];rfl)|(simp[bJ,d1,d2,d3];done)|((try simp at d1);(try simp at d2);(try simp at d3);simp[bJ,d1,d2,d3];done)
 go_wp2_with (first|(go_at_call 63;with_reducible refine(C1.out.at_ _).mono ?_;rintro _ _ ⟨rfl,e,rfl⟩)|(go_at_call 65;with_reducible refine(C2.out.at_ _).mono ?_;rintro _ _ ⟨rfl,e,rfl⟩)|(go_at_call 62;with_reducible refine(C3.out.at_ _).mono ?_;rintro _ _ ⟨rfl,e,rfl⟩)|(go_at_call 64;with_reducible refine(C4.out.at_ _).mono ?_;rintro _ _ ⟨rfl,e,rfl⟩))
 repeat (refine ay _ (by kernel_rfl) (by kernel_rfl) ?_;(repeat (go_big_quiet_step ((first|with_reducible exact C1.out.at_ _|with_reducible exact C2.out.at_ _|with_reducible exact C3.out.at_ _|with_reducible exact C4.out.at_ _))));refine wpQuiet_nil ?_;intro e;go_wp2_with (first|(go_at_call 63;with_reducible refine(C1.out.at_ _).mono ?_;rintro _ _ ⟨rfl,e,rfl⟩)|(go_at_call 65;with_reducible refine(C2.out.at_ _).mono ?_;rintro _ _ ⟨rfl,e,rfl⟩)|(go_at_call 62;with_reducible refine(C3.out.at_ _).mono ?_;rintro _ _ ⟨rfl,e,rfl⟩)|(go_at_call 64;with_reducible refine(C4.out.at_ _).mono ?_;rintro _ _ ⟨rfl,e,rfl⟩)))
 go_ret;exact⟨by rw[E.out];rfl,_,rfl⟩
theorem yT(xs:List aF)(n:Nat){A:Option Addr}{c:Nat}{bs:List Nat}(w:World)(hx:T1 w (.sl n (xs.flatMap aF.enc)) bs (.slice A n c))(Hl:Hid (xs.length=n)):Calls Try.prog 32 #[.slice A n c] w fun e w'=>e=.returned (.bool (cO xs))∧Ext w w':=by
 refine bA fun e=> ?_
 have hn:=hx.yY;have EV:Hid (cO xs=(fK n 1 600&&dK n (fu xs))):=by show _=_;rw[←Hl.out];rfl
 have C1:Hid (QC Try.prog w _ _ _):=fun W hW=>(lH n 1 600 W).q
 go_enter Try.func32,Try.ntmps32
 cases d1:fK n 1 600
 case false=>
  (try rw[d1]at C1)
  have E:Hid (cO xs=false):=by show _=_;rw[EV.out,d1];rfl
  go_wp2_with (first|(go_at_call 46;with_reducible refine(C1.out.at_ _).mono ?_;rintro _ _ ⟨rfl,e,rfl⟩))
  repeat (refine ay _ (by kernel_rfl) (by kernel_rfl) ?_;(repeat (go_big_quiet_step ((first|with_reducible exact C1.out.at_ _))));refine wpQuiet_nil ?_;intro e;go_wp2_with (first|(go_at_call 46;with_reducible refine(C1.out.at_ _).mono ?_;rintro _ _ ⟨rfl,e,rfl⟩)))
  go_ret;exact⟨by rw[E.out];rfl,_,rfl⟩
 (try rw[d1]at C1)
 go_wp2_with (first|(go_at_call 46;with_reducible refine(C1.out.at_ _).mono ?_;rintro _ _ ⟨rfl,e,rfl⟩))
 repeat (refine ay _ (by kernel_rfl) (by kernel_rfl) ?_;(repeat (go_big_quiet_step ((first|with_reducible exact C1.out.at_ _))));refine wpQuiet_nil ?_;intro e;go_wp2_with (first|(go_at_call 46;with_reducible refine(C1.out.at_ _).mono ?_;rintro _ _ ⟨rfl,e,rfl⟩)))
 go_loopw [3] (fun i w'=>∃k:Nat,k≤n∧i=.int .i64 k∧Hid (dK k (fu xs)=true)∧∃e:bL w,w'=e.to) (fun i _=>n-(intOf i).toNat)
 case atStart=>exact⟨0,Nat.zero_le _,rfl,ql _,_,rfl⟩
 case round=>
  obtain⟨k,hk,rfl,hfk,e,rfl⟩:=hrel
  by_cases hltk:k<n
  ·skip
   obtain⟨b,off,x,bs',rfl,hxk,hp⟩:=T1.elem aF.aY hx Hl hltk;obtain⟨A3,c3,b3,A4,c4,b4,h0,h1,h2,h3,h4,t3,t4⟩:=aF.pt hp;clear h1 h2 h3 h4 t3 t4;have C2:Hid (QC Try.prog w _ _ _):=fun W hW=>AO x b (off+k*5) _ W (hp.ext hW)
   have EK:Hid (fu xs k=(bJ x&&((x.kind==1)==((k:Int)==0)))):=by show _=_;rw[fu,iL hxk]
   cases d2:bJ x
   case false=>
    (try rw[d2]at C1);(try rw[d2]at C2)
    have E:Hid (cO xs=false):=by show _=_;rw[EV.out,iF hltk (by rw[EK.out,d2];rfl)];simp
    go_wp2_with (first|(go_at_call 46;with_reducible refine(C1.out.at_ _).mono ?_;rintro _ _ ⟨rfl,e,rfl⟩)|(go_at_call 47;with_reducible refine(C2.out.at_ _).mono ?_;rintro _ _ ⟨rfl,e,rfl⟩))
    repeat (refine ay _ (by kernel_rfl) (by kernel_rfl) ?_;(repeat (go_big_quiet_step ((first|with_reducible exact C1.out.at_ _|with_reducible exact C2.out.at_ _))));refine wpQuiet_nil ?_;intro e;go_wp2_with (first|(go_at_call 46;with_reducible refine(C1.out.at_ _).mono ?_;rintro _ _ ⟨rfl,e,rfl⟩)|(go_at_call 47;with_reducible refine(C2.out.at_ _).mono ?_;rintro _ _ ⟨rfl,e,rfl⟩)))
    go_ret;exact⟨by rw[E.out];rfl,_,rfl⟩
   (try rw[d2]at C1);(try rw[d2]at C2)
   cases d3:(x.kind==1)
   case false=>
    (try rw[d3]at C1);(try rw[d3]at C2)
    cases d4:((k:Int)==0)
    case true=>
     (try rw[d4]at C1);(try rw[d4]at C2)
     have E:Hid (cO xs=false):=by show _=_;rw[EV.out,iF hltk (by rw[EK.out,d2,d3,d4];rfl)];simp
     go_wp2_with (first|(go_at_call 46;with_reducible refine(C1.out.at_ _).mono ?_;rintro _ _ ⟨rfl,e,rfl⟩)|(go_at_call 47;with_reducible refine(C2.out.at_ _).mono ?_;rintro _ _ ⟨rfl,e,rfl⟩))
     repeat (refine ay _ (by kernel_rfl) (by kernel_rfl) ?_;(repeat (go_big_quiet_step ((first|with_reducible exact C1.out.at_ _|with_reducible exact C2.out.at_ _))));refine wpQuiet_nil ?_;intro e;go_wp2_with (first|(go_at_call 46;with_reducible refine(C1.out.at_ _).mono ?_;rintro _ _ ⟨rfl,e,rfl⟩)|(go_at_call 47;with_reducible refine(C2.out.at_ _).mono ?_;rintro _ _ ⟨rfl,e,rfl⟩)))
     go_ret;exact⟨by rw[E.out];rfl,_,rfl⟩
    (try rw[d4]at C1);(try rw[d4]at C2)
    have E:Hid (fu xs k=true):=by show _=_;rw[EK.out,d2,d3,d4];rfl
    go_wp2_with (first|(go_at_call 46;with_reducible refine(C1.out.at_ _).mono ?_;rintro _ _ ⟨rfl,e,rfl⟩)|(go_at_call 47;with_reducible refine(C2.out.at_ _).mono ?_;rintro _ _ ⟨rfl,e,rfl⟩))
    repeat (refine ay _ (by kernel_rfl) (by kernel_rfl) ?_;(repeat (go_big_quiet_step ((first|with_reducible exact C1.out.at_ _|with_reducible exact C2.out.at_ _))));refine wpQuiet_nil ?_;intro e;go_wp2_with (first|(go_at_call 46;with_reducible refine(C1.out.at_ _).mono ?_;rintro _ _ ⟨rfl,e,rfl⟩)|(go_at_call 47;with_reducible refine(C2.out.at_ _).mono ?_;rintro _ _ ⟨rfl,e,rfl⟩)))
    exact⟨⟨k+1,by omega,by go_num,iM hfk E.out,_,rfl⟩,by simp[intOf];omega⟩
   (try rw[d3]at C1);(try rw[d3]at C2)
   cases d5:((k:Int)==0)
   case false=>
    (try rw[d5]at C1);(try rw[d5]at C2)
    have E:Hid (cO xs=false):=by show _=_;rw[EV.out,iF hltk (by rw[EK.out,d2,d3,d5];rfl)];simp
    go_wp2_with (first|(go_at_call 46;with_reducible refine(C1.out.at_ _).mono ?_;rintro _ _ ⟨rfl,e,rfl⟩)|(go_at_call 47;with_reducible refine(C2.out.at_ _).mono ?_;rintro _ _ ⟨rfl,e,rfl⟩))
    repeat (refine ay _ (by kernel_rfl) (by kernel_rfl) ?_;(repeat (go_big_quiet_step ((first|with_reducible exact C1.out.at_ _|with_reducible exact C2.out.at_ _))));refine wpQuiet_nil ?_;intro e;go_wp2_with (first|(go_at_call 46;with_reducible refine(C1.out.at_ _).mono ?_;rintro _ _ ⟨rfl,e,rfl⟩)|(go_at_call 47;with_reducible refine(C2.out.at_ _).mono ?_;rintro _ _ ⟨rfl,e,rfl⟩)))
    go_ret;exact⟨by rw[E.out];rfl,_,rfl⟩
   (try rw[d5]at C1);(try rw[d5]at C2)
   have E:Hid (fu xs k=true):=by show _=_;rw[EK.out,d2,d3,d5];rfl
   go_wp2_with (first|(go_at_call 46;with_reducible refine(C1.out.at_ _).mono ?_;rintro _ _ ⟨rfl,e,rfl⟩)|(go_at_call 47;with_reducible refine(C2.out.at_ _).mono ?_;rintro _ _ ⟨rfl,e,rfl⟩))
   repeat (refine ay _ (by kernel_rfl) (by kernel_rfl) ?_;(repeat (go_big_quiet_step ((first|with_reducible exact C1.out.at_ _|with_reducible exact C2.out.at_ _))));refine wpQuiet_nil ?_;intro e;go_wp2_with (first|(go_at_call 46;with_reducible refine(C1.out.at_ _).mono ?_;rintro _ _ ⟨rfl,e,rfl⟩)|(go_at_call 47;with_reducible refine(C2.out.at_ _).mono ?_;rintro _ _ ⟨rfl,e,rfl⟩)))
   exact⟨⟨k+1,by omega,by go_num,iM hfk E.out,_,rfl⟩,by simp[intOf];omega⟩
  ·have:n=k:=by omega
   subst this;have E:Hid (cO xs=true):=by show _=_;rw[EV.out,d1,hfk.out];rfl
   go_wp2_with (first|(go_at_call 46;with_reducible refine(C1.out.at_ _).mono ?_;rintro _ _ ⟨rfl,e,rfl⟩))
   repeat (refine ay _ (by kernel_rfl) (by kernel_rfl) ?_;(repeat (go_big_quiet_step ((first|with_reducible exact C1.out.at_ _))));refine wpQuiet_nil ?_;intro e;go_wp2_with (first|(go_at_call 46;with_reducible refine(C1.out.at_ _).mono ?_;rintro _ _ ⟨rfl,e,rfl⟩)))
   go_ret;exact⟨by rw[E.out];rfl,_,rfl⟩
theorem CP(xs:List aF)(n:Nat){A:Option Addr}{c:Nat}{bs:List Nat}(p:aR)(w:World)(hx:T1 w (.sl n (xs.flatMap aF.enc)) bs (.slice A n c))(Hl:Hid (xs.length=n)):Calls Try.prog 33 #[.slice A n c,.agg #[.int .i64 p.agent,.int .i64 p.slot]] w fun e w'=>e=.returned (.bool (fH xs p))∧Ext w w':=by
 refine bA fun e=> ?_
 have hn:=hx.yY;have EV:Hid (fH xs p=(fK p.agent 0 ((n:Int)-1)&&fK p.slot 0 (((fq xs p.agent.toNat).aQ.length:Int)-1))):=by show _=_;rw[←Hl.out];rfl
 go_enter Try.func33,Try.ntmps33
 go_upto_region 1 with(fail)
 generalize hgg:e.to.heap.size=g;refine iT e hgg (fun w1 e hx1 hgeg hltg cg=> ?_);clear hgg
 replace hx:=hx.below hx1
 obtain⟨k0,k1⟩:=aR.IW (dR.box hltg cg aR.Iy);have C1:Hid (QC Try.prog w1 _ _ _):=fun W hW=>(lH p.agent 0 ((n:Int)-1) W).q
 cases d1:fK p.agent 0 ((n:Int)-1)
 case false=>
  (try rw[d1]at C1)
  have hw0:IntKind.i64.wrap ((n:Int)-1)=(n:Int)-1:=IntWalk.i64_in _ (by omega);have E:Hid (fH xs p=false):=by show _=_;rw[EV.out,d1];rfl
  go_wp2_with (first|(go_at_call 46;with_reducible refine(C1.out.at_ _).mono ?_;rintro _ _ ⟨rfl,e,rfl⟩))
  repeat (refine ay _ (by kernel_rfl) (by kernel_rfl) ?_;(repeat (go_big_quiet_step ((first|with_reducible exact C1.out.at_ _))));refine wpQuiet_nil ?_;intro e;go_wp2_with (first|(go_at_call 46;with_reducible refine(C1.out.at_ _).mono ?_;rintro _ _ ⟨rfl,e,rfl⟩)))
  go_ret;exact⟨by rw[E.out];rfl,bL.old hx1 e⟩
 (try rw[d1]at C1)
 have hr:=lg d1;obtain⟨i,hi⟩:=Int.eq_ofNat_of_zero_le hr.1;have hlt:i<n:=by omega
 obtain⟨b,off,x,bs',rfl,hxk,hp⟩:=T1.elem aF.aY hx Hl hlt;obtain⟨A3,c3,b3,A4,c4,b4,h0,h1,h2,h3,h4,t3,t4⟩:=aF.pt hp;have hn4:=t4.yY;clear h0 h1 h2 h3 t3;have EA:Hid (fq xs p.agent.toNat=x):=by show _=_;rw[hi,Int.toNat_natCast];exact iL hxk
 rw[hi]at k0 d1 C1;have Hi:=Lib.hid hi;clear hi;have C2:Hid (QC Try.prog w1 _ _ _):=fun W hW=>(lH p.slot 0 ((x.aQ.length:Int)-1) W).q
 have hw0:IntKind.i64.wrap ((n:Int)-1)=(n:Int)-1:=IntWalk.i64_in _ (by omega);have hw1:IntKind.i64.wrap ((x.aQ.length:Int)-1)=(x.aQ.length:Int)-1:=IntWalk.i64_in _ (by omega);have E:Hid (fH xs p=fK p.slot 0 ((x.aQ.length:Int)-1)):=by show _=_;rw[EV.out,EA.out,Hi.out,d1];rfl
 go_wp2_with (first|(go_at_call 46;with_reducible refine(C1.out.at_ _).mono ?_;rintro _ _ ⟨rfl,e,rfl⟩)|(go_at_call 46;with_reducible refine(C2.out.at_ _).mono ?_;rintro _ _ ⟨rfl,e,rfl⟩))
 repeat (refine ay _ (by kernel_rfl) (by kernel_rfl) ?_;(repeat (go_big_quiet_step ((first|with_reducible exact C1.out.at_ _|with_reducible exact C2.out.at_ _))));refine wpQuiet_nil ?_;intro e;go_wp2_with (first|(go_at_call 46;with_reducible refine(C1.out.at_ _).mono ?_;rintro _ _ ⟨rfl,e,rfl⟩)|(go_at_call 46;with_reducible refine(C2.out.at_ _).mono ?_;rintro _ _ ⟨rfl,e,rfl⟩)))
 go_ret;exact⟨by rw[E.out];rfl,bL.old hx1 e⟩
theorem Ik(x:fU)(b o:Nat)(bs:List Nat)(w:World)(h:dR w b o x.enc bs):Calls Try.prog 18 #[.pointer (some ⟨b,o,none⟩)] w fun e w'=>e=.returned (.bool (mo x))∧Ext w w':=by
 refine bA fun e=> ?_
 obtain⟨A0,c0,b0,h0,t0⟩:=fU.pt h;have hn0:=t0.yY;have EV:Hid (mo x=(cO x.agents&&dK x.agents.length (lD x.agents))):=rfl;have C1:Hid (QC Try.prog w _ _ _):=fun W hW=>yT x.agents _ W (t0.below hW) jm
 go_enter Try.func18,Try.ntmps18
 cases d1:cO x.agents
 case false=>
  (try rw[d1]at C1)
  have E:Hid (mo x=false):=by show _=_;rw[EV.out,d1];rfl
  go_wp2_with (first|(go_at_call 32;with_reducible refine(C1.out.at_ _).mono ?_;rintro _ _ ⟨rfl,e,rfl⟩))
  repeat (refine ay _ (by kernel_rfl) (by kernel_rfl) ?_;(repeat (go_big_quiet_step ((first|with_reducible exact C1.out.at_ _))));refine wpQuiet_nil ?_;intro e;go_wp2_with (first|(go_at_call 32;with_reducible refine(C1.out.at_ _).mono ?_;rintro _ _ ⟨rfl,e,rfl⟩)))
  go_ret;exact⟨by rw[E.out];rfl,_,rfl⟩
 (try rw[d1]at C1)
 go_wp2_with (first|(go_at_call 32;with_reducible refine(C1.out.at_ _).mono ?_;rintro _ _ ⟨rfl,e,rfl⟩))
 repeat (refine ay _ (by kernel_rfl) (by kernel_rfl) ?_;(repeat (go_big_quiet_step ((first|with_reducible exact C1.out.at_ _))));refine wpQuiet_nil ?_;intro e;go_wp2_with (first|(go_at_call 32;with_reducible refine(C1.out.at_ _).mono ?_;rintro _ _ ⟨rfl,e,rfl⟩)))
 go_loopw [3] (fun i w'=>∃k:Nat,k≤x.agents.length∧i=.int .i64 k∧Hid (dK k (lD x.agents)=true)∧∃e:bL w,w'=e.to) (fun i _=>x.agents.length-(intOf i).toNat)
 case atStart=>exact⟨0,Nat.zero_le _,rfl,ql _,_,rfl⟩
 case round=>
  obtain⟨k,hk,rfl,hfk,e,rfl⟩:=hrel
  by_cases hltk:k<x.agents.length
  ·skip
   obtain⟨b',off,y,bs',rfl,hyk,hp⟩:=T1.elem aF.aY t0 jm hltk;obtain⟨A3,c3,b3,A4,c4,b4,g0,g1,g2,g3,g4,t3,t4⟩:=aF.pt hp;have hn4:=t4.yY;clear g0 g1 g2 g3 t3;have EK:Hid (lD x.agents k=dK y.aQ.length fun j=>kR x.agents ⟨k,j⟩ (gK y.aQ j)):=by show _=_;rw[lD,iL hyk]
   go_wp2_with fail
   repeat (refine ay _ (by kernel_rfl) (by kernel_rfl) ?_;(repeat (go_big_quiet_step (fail)));refine wpQuiet_nil ?_;intro e;go_wp2_with fail)
   go_loopw [5] (fun i w'=>∃j:Nat,j≤y.aQ.length∧i=.int .i64 j∧Hid (dK j (fun j=>kR x.agents ⟨k,j⟩ (gK y.aQ j))=true)∧∃e:bL w,w'=e.to) (fun i _=>y.aQ.length-(intOf i).toNat)
   case atStart=>exact⟨0,Nat.zero_le _,rfl,ql _,_,rfl⟩
   case round=>
    obtain⟨j,hj,rfl,hfj,e,rfl⟩:=hrel
    by_cases hltj:j<y.aQ.length
    ·skip
     obtain⟨bq,oq,q,bs2,rfl,hqj,hq⟩:=T1.elem aR.aY t4 jm hltj;obtain⟨q0,q1⟩:=aR.pt hq;have EJ:Hid (kR x.agents ⟨k,j⟩ (gK y.aQ j)=kR x.agents ⟨k,j⟩ q):=by show _=_;rw[nG hqj]
     go_upto_region 11 with(fail)
     generalize hgga:e.to.heap.size=ga;refine iT e hgga (fun w1 e hx1 hgega hltga cga=> ?_);clear hgga
     replace h0:=h0.ext hx1
     replace g4:=g4.ext hx1
     replace q0:=q0.ext hx1
     replace q1:=q1.ext hx1
     replace t0:=t0.below hx1
     replace t4:=t4.below hx1
     obtain⟨k0,k1⟩:=aR.IW (x:=⟨k,j⟩) (dR.box hltga cga aR.Iy);simp only[]at k0 k1;clear cga
     go_upto_region 12 with(fail)
     generalize hggb:e.to.heap.size=gb;refine iT e hggb (fun w2 e hx2 hgegb hltgb cgb=> ?_);clear hggb
     replace h0:=h0.ext hx2
     replace g4:=g4.ext hx2
     replace k0:=k0.ext hx2
     replace k1:=k1.ext hx2
     replace t0:=t0.below hx2
     replace t4:=t4.below hx2
     have hy2:=Ext.trans hx1 hx2;obtain⟨p0,p1⟩:=aR.IW (x:=q) (dR.box hltgb cgb aR.Iy);clear cgb q0 q1;have hg:=Og;have heq:=fun W=>GI W q ⟨k,j⟩
     dsimp only at heq;have C2:Hid (QC Try.prog w2 _ _ _):=fun W hW=>CP x.agents _ q W (t0.below hW) jm
     cases d2:FX q ⟨k,j⟩
     case true=>
      (try rw[d2]at C2)
      have E:Hid (mo x=false):=by show _=_;rw[EV.out,iF hltk (by rw[EK.out];exact iF hltj (by rw[EJ.out];simp[kR,d2]))];simp
      go_wp2_with (first|(go_at_call 33;with_reducible refine(C2.out.at_ _).mono ?_;rintro _ _ ⟨rfl,e,rfl⟩))
      repeat (refine ay _ (by kernel_rfl) (by kernel_rfl) ?_;(repeat (go_big_quiet_step ((first|with_reducible exact C2.out.at_ _))));refine wpQuiet_nil ?_;intro e;go_wp2_with (first|(go_at_call 33;with_reducible refine(C2.out.at_ _).mono ?_;rintro _ _ ⟨rfl,e,rfl⟩)))
      go_ret;exact⟨by rw[E.out];rfl,bL.old hy2 e⟩
     (try rw[d2]at C2)
     cases d3:fH x.agents q
     case false=>
      (try rw[d3]at C2)
      have E:Hid (mo x=false):=by show _=_;rw[EV.out,iF hltk (by rw[EK.out];exact iF hltj (by rw[EJ.out];simp[kR,d2,d3]))];simp
      go_wp2_with (first|(go_at_call 33;with_reducible refine(C2.out.at_ _).mono ?_;rintro _ _ ⟨rfl,e,rfl⟩))
      repeat (refine ay _ (by kernel_rfl) (by kernel_rfl) ?_;(repeat (go_big_quiet_step ((first|with_reducible exact C2.out.at_ _))));refine wpQuiet_nil ?_;intro e;go_wp2_with (first|(go_at_call 33;with_reducible refine(C2.out.at_ _).mono ?_;rintro _ _ ⟨rfl,e,rfl⟩)))
      go_ret;exact⟨by rw[E.out];rfl,bL.old hy2 e⟩
     (try rw[d3]at C2)
     obtain⟨i,s,a,r,rfl,hi,ha,hs,hr,hpeer⟩:=Di d3;have Hpeer:=Lib.hid hpeer;clear hpeer;obtain⟨bz,oz,z,bs3,hA0,hzi,hz⟩:=T1.elem aF.aY t0 jm hi;obtain⟨_,rfl⟩:True∧z=a:=⟨trivial,Option.some.inj (hzi.out.symm.trans ha.out)⟩;obtain⟨rfl,rfl⟩:b'=bz∧off=oz:=by simpa using hA0
     clear hA0;obtain⟨A3,c3,b3,A5,c5,b5,u0,u1,u2,u3,u4,t3,t5⟩:=aF.pt hz;have hn5:=t5.yY;clear u0 u1 u2 u3 t3;obtain⟨bt,ot,r',bs4,rfl,hrs,hrr⟩:=T1.elem aR.aY t5 jm hs;obtain⟨_,rfl⟩:True∧r'=r:=⟨trivial,Option.some.inj (hrs.out.symm.trans hr.out)⟩;obtain⟨r0,r1⟩:=aR.pt hrr;have hne:=fun W=>GJ W r' ⟨k,j⟩
     dsimp only at hne;cases d4:FX r' ⟨k,j⟩
     case false=>
      (try rw[d4]at C2)
      have E:Hid (mo x=false):=by show _=_;rw[EV.out,iF hltk (by rw[EK.out];exact iF hltj (by rw[EJ.out];simp[kR,Hpeer.out,d2,d3,d4]))];simp
      go_wp2_with (first|(go_at_call 33;with_reducible refine(C2.out.at_ _).mono ?_;rintro _ _ ⟨rfl,e,rfl⟩))
      repeat (refine ay _ (by kernel_rfl) (by kernel_rfl) ?_;(repeat (go_big_quiet_step ((first|with_reducible exact C2.out.at_ _))));refine wpQuiet_nil ?_;intro e;go_wp2_with (first|(go_at_call 33;with_reducible refine(C2.out.at_ _).mono ?_;rintro _ _ ⟨rfl,e,rfl⟩)))
      go_ret;exact⟨by rw[E.out];rfl,bL.old hy2 e⟩
     (try rw[d4]at C2)
     have E:Hid (kR x.agents ⟨k,j⟩ (gK y.aQ j)=true):=by show _=_;rw[EJ.out];simp[kR,Hpeer.out,d2,d3,d4]
     go_wp2_with (first|(go_at_call 33;with_reducible refine(C2.out.at_ _).mono ?_;rintro _ _ ⟨rfl,e,rfl⟩))
     repeat (refine ay _ (by kernel_rfl) (by kernel_rfl) ?_;(repeat (go_big_quiet_step ((first|with_reducible exact C2.out.at_ _))));refine wpQuiet_nil ?_;intro e;go_wp2_with (first|(go_at_call 33;with_reducible refine(C2.out.at_ _).mono ?_;rintro _ _ ⟨rfl,e,rfl⟩)))
     exact⟨⟨j+1,by omega,by go_num,iM hfj E.out,⟨e.to,hy2.trans e.h⟩,rfl⟩,by simp[intOf];omega⟩
    ·have:y.aQ.length=j:=by omega
     subst this;have E:Hid (lD x.agents k=true):=by show _=_;rw[EK.out];exact hfj.out
     go_wp2_with fail
     repeat (refine ay _ (by kernel_rfl) (by kernel_rfl) ?_;(repeat (go_big_quiet_step (fail)));refine wpQuiet_nil ?_;intro e;go_wp2_with fail)
     exact⟨⟨k+1,by omega,by go_num,iM hfk E.out,_,rfl⟩,by simp[intOf];omega⟩
  ·have:x.agents.length=k:=by omega
   subst this;have E:Hid (mo x=true):=by show _=_;rw[EV.out,d1,hfk.out];rfl
   go_wp2_with fail
   repeat (refine ay _ (by kernel_rfl) (by kernel_rfl) ?_;(repeat (go_big_quiet_step (fail)));refine wpQuiet_nil ?_;intro e;go_wp2_with fail)
   go_ret;exact⟨by rw[E.out];rfl,_,rfl⟩
theorem Gt:bS Try.prog 18=true:=by kernel_rfl
theorem QX(xs:List ah):aP Try.prog 14 [.agg [.rsl aL xs]] (.bool (mo (gN xs))):=
 aP.Po (u:=BD) (x:=xs) (by kernel_rfl) (fun w bs us h=>uE (gN xs) w (by rw[JZ];exact h)) (fun _ _=>zi _) (fun _ _ _ _ _ hI hd=>PL hI hd)
theorem Sm(xs:List ah):aP Try.prog 18 [.rp BD xs] (.bool (mo (gN xs))):=
 aP.Pp Gt (fun w b o bs h=>Ik (gN xs) b o bs w (by rw[JZ];exact h)) fun _ _=>zi _
end Go.Proofs.Ytnamelcmcikeoaa
