
/- The program's functions on agents: what makes them valid. Printed by gen_neti.py. -/
import Derived.Test.YtcjhkgfmklgikaaGreatShort
import Derived.Test.YtcjhkgfmklgikaaGreatProg
import Derived.Test.YtcjhkgfmklgikaaGreatAgents
import Derived.Test.YtcjhkgfmklgikaaGreatValid
import Derived.Test.YtcjhkgfmklgikaaGreatQDbg
import Derived.Test.YtcjhkgfmklgikaaGreatSc
import Derived.BigGuardPart
import Derived.Outline
import Derived.Deep.CutBlock
import Derived.Test.YtcjhkgfmklgikaaGreatVti
import Derived.Test.YtcjhkgfmklgikaaGreatVV
import Derived.Test.YtcjhkgfmklgikaaGreatNy
import Derived.Test.YtcjhkgfmklgikaaGreatIo
import Derived.StillTailTactics
import Derived.BigRegion
set_option maxHeartbeats 4000000
set_option maxRecDepth 100000
set_option linter.unusedSimpArgs false
set_option linter.unusedVariables false
namespace Go.Proofs.YtcjhkgfmklgikaaGreat
open Go Go.RowKit Go.Proofs Go.Tr
theorem wB(n:Int)(w:World):Calls Tryz.prog 172 #[.int .i64 n] w fun e w'=>e=.returned (.bool (jY n))∧Ext w w':=by
 refine aS fun e=> ?_
 go_enter Tryz.func172,Tryz.ntmps172
 go_wp2
 all_goals go_ret
 all_goals refine⟨?_,_,rfl⟩
 all_goals first|(simp[jY,dS, *];done)|(simp[jY,dS, *];omega)|(simp_all [jY,dS];done)|(simp_all [jY,dS];omega)
theorem Ob(n:Int)(w:World):Calls Tryz.prog 173 #[.int .i64 n] w fun e w'=>e=.returned (.bool (qy n))∧Ext w w':=by
 refine aS fun e=> ?_
 go_enter Tryz.func173,Tryz.ntmps173
 go_wp2
 all_goals go_ret
 all_goals refine⟨?_,_,rfl⟩
 all_goals first|(simp[qy,dS, *];done)|(simp[qy,dS, *];omega)|(simp_all [qy,dS];done)|(simp_all [qy,dS];omega)
theorem CB(n:Int)(w:World):Calls Tryz.prog 174 #[.int .i64 n] w fun e w'=>e=.returned (.bool (jT n))∧Ext w w':=by
 refine aS fun e=> ?_
 go_enter Tryz.func174,Tryz.ntmps174
 go_wp2
 all_goals go_ret
 all_goals refine⟨?_,_,rfl⟩
 all_goals first|(simp[jT,dS, *];done)|(simp[jT,dS, *];omega)|(simp_all [jT,dS];done)|(simp_all [jT,dS];omega)
theorem Bq(k f:Int)(w:World):Calls Tryz.prog 169 #[.int .i64 k,.int .i64 f] w fun e w'=>e=.returned (.int .i64 (cZ k f))∧Ext w w':=by
 refine aS fun e=> ?_
 have C1:Hid (QC Tryz.prog w _ _ _):=fun W hW=>(KN k W).q
 cases hk:kr k
 case false=>
  rw[hk]at C1;have hn:=Qk hk;have h9:(k==9)=false:=by simp;omega
  go_enter Tryz.func169,Tryz.ntmps169
  go_wp2_with (first|(go_at_call 155;with_reducible refine(C1.out.at_ _).mono ?_;rintro _ _ ⟨rfl,e,rfl⟩))
  repeat (refine ay _ (by kernel_rfl) (by kernel_rfl) ?_;(repeat (go_big_quiet_step ((first|with_reducible exact C1.out.at_ _))));refine wpQuiet_nil ?_;intro e;go_wp2_with (first|(go_at_call 155;with_reducible refine(C1.out.at_ _).mono ?_;rintro _ _ ⟨rfl,e,rfl⟩)))
  all_goals go_ret
  all_goals refine⟨?_,_,rfl⟩
  all_goals simp[cZ]
  all_goals (repeat rw[if_neg (by omega)])
  all_goals (try split)
  all_goals (try rfl)
  all_goals (try omega)
 rw[hk]at C1;have ix1:∀W:World,(Instr.index 190 (.agg #[.int .i64 0,.int .i64 1,.int .i64 3,.int .i64 3,.int .i64 3,.int .i64 1,.int .i64 1,.int .i64 3,.int .i64 2,.int .i64 0,.int .i64 2,.int .i64 2,.int .i64 1]) (.int .i64 1)).run Tryz.prog W=.ok (.int .i64 1) W:=fun _=>by kernel_rfl
 have ix2:∀W:World,(Instr.index 190 (.agg #[.int .i64 0,.int .i64 1,.int .i64 3,.int .i64 3,.int .i64 3,.int .i64 1,.int .i64 1,.int .i64 3,.int .i64 2,.int .i64 0,.int .i64 2,.int .i64 2,.int .i64 1]) (.int .i64 2)).run Tryz.prog W=.ok (.int .i64 3) W:=fun _=>by kernel_rfl
 have ix3:∀W:World,(Instr.index 190 (.agg #[.int .i64 0,.int .i64 1,.int .i64 3,.int .i64 3,.int .i64 3,.int .i64 1,.int .i64 1,.int .i64 3,.int .i64 2,.int .i64 0,.int .i64 2,.int .i64 2,.int .i64 1]) (.int .i64 3)).run Tryz.prog W=.ok (.int .i64 3) W:=fun _=>by kernel_rfl
 have ix4:∀W:World,(Instr.index 190 (.agg #[.int .i64 0,.int .i64 1,.int .i64 3,.int .i64 3,.int .i64 3,.int .i64 1,.int .i64 1,.int .i64 3,.int .i64 2,.int .i64 0,.int .i64 2,.int .i64 2,.int .i64 1]) (.int .i64 4)).run Tryz.prog W=.ok (.int .i64 3) W:=fun _=>by kernel_rfl
 have ix5:∀W:World,(Instr.index 190 (.agg #[.int .i64 0,.int .i64 1,.int .i64 3,.int .i64 3,.int .i64 3,.int .i64 1,.int .i64 1,.int .i64 3,.int .i64 2,.int .i64 0,.int .i64 2,.int .i64 2,.int .i64 1]) (.int .i64 5)).run Tryz.prog W=.ok (.int .i64 1) W:=fun _=>by kernel_rfl
 have ix6:∀W:World,(Instr.index 190 (.agg #[.int .i64 0,.int .i64 1,.int .i64 3,.int .i64 3,.int .i64 3,.int .i64 1,.int .i64 1,.int .i64 3,.int .i64 2,.int .i64 0,.int .i64 2,.int .i64 2,.int .i64 1]) (.int .i64 6)).run Tryz.prog W=.ok (.int .i64 1) W:=fun _=>by kernel_rfl
 have ix7:∀W:World,(Instr.index 190 (.agg #[.int .i64 0,.int .i64 1,.int .i64 3,.int .i64 3,.int .i64 3,.int .i64 1,.int .i64 1,.int .i64 3,.int .i64 2,.int .i64 0,.int .i64 2,.int .i64 2,.int .i64 1]) (.int .i64 7)).run Tryz.prog W=.ok (.int .i64 3) W:=fun _=>by kernel_rfl
 have ix8:∀W:World,(Instr.index 190 (.agg #[.int .i64 0,.int .i64 1,.int .i64 3,.int .i64 3,.int .i64 3,.int .i64 1,.int .i64 1,.int .i64 3,.int .i64 2,.int .i64 0,.int .i64 2,.int .i64 2,.int .i64 1]) (.int .i64 8)).run Tryz.prog W=.ok (.int .i64 2) W:=fun _=>by kernel_rfl
 have ix9:∀W:World,(Instr.index 190 (.agg #[.int .i64 0,.int .i64 1,.int .i64 3,.int .i64 3,.int .i64 3,.int .i64 1,.int .i64 1,.int .i64 3,.int .i64 2,.int .i64 0,.int .i64 2,.int .i64 2,.int .i64 1]) (.int .i64 9)).run Tryz.prog W=.ok (.int .i64 0) W:=fun _=>by kernel_rfl
 have ix10:∀W:World,(Instr.index 190 (.agg #[.int .i64 0,.int .i64 1,.int .i64 3,.int .i64 3,.int .i64 3,.int .i64 1,.int .i64 1,.int .i64 3,.int .i64 2,.int .i64 0,.int .i64 2,.int .i64 2,.int .i64 1]) (.int .i64 10)).run Tryz.prog W=.ok (.int .i64 2) W:=fun _=>by kernel_rfl
 have ix11:∀W:World,(Instr.index 190 (.agg #[.int .i64 0,.int .i64 1,.int .i64 3,.int .i64 3,.int .i64 3,.int .i64 1,.int .i64 1,.int .i64 3,.int .i64 2,.int .i64 0,.int .i64 2,.int .i64 2,.int .i64 1]) (.int .i64 11)).run Tryz.prog W=.ok (.int .i64 2) W:=fun _=>by kernel_rfl
 have ix12:∀W:World,(Instr.index 190 (.agg #[.int .i64 0,.int .i64 1,.int .i64 3,.int .i64 3,.int .i64 3,.int .i64 1,.int .i64 1,.int .i64 3,.int .i64 2,.int .i64 0,.int .i64 2,.int .i64 2,.int .i64 1]) (.int .i64 12)).run Tryz.prog W=.ok (.int .i64 1) W:=fun _=>by kernel_rfl
 rcases CJ hk with rfl|rfl|rfl|rfl|rfl|rfl|rfl|rfl|rfl|rfl|rfl|rfl
 all_goals clear hk
 all_goals
  go_enter Tryz.func169,Tryz.ntmps169
  go_wp2_with (first|(go_at_call 155;with_reducible refine(C1.out.at_ _).mono ?_;rintro _ _ ⟨rfl,e,rfl⟩))
  repeat (refine ay _ (by kernel_rfl) (by kernel_rfl) ?_;(repeat (go_big_quiet_step ((first|with_reducible exact C1.out.at_ _))));refine wpQuiet_nil ?_;intro e;go_wp2_with (first|(go_at_call 155;with_reducible refine(C1.out.at_ _).mono ?_;rintro _ _ ⟨rfl,e,rfl⟩)))
  all_goals go_ret
  all_goals refine⟨?_,_,rfl⟩
  all_goals first|(simp[cZ,dS, *];done)|(simp[cZ,dS, *];omega)|(simp_all [cZ,dS];done)|(simp_all [cZ,dS];omega)
theorem Gu(k p:Int)(w:World)(h1:0≤p)(h2:p≤9223372036854775807):Calls Tryz.prog 170 #[.int .i64 k,.int .i64 p] w fun e w'=>e=.returned (.int .i64 (eZ k p))∧Ext w w':=by
 refine aS fun e=> ?_
 go_enter Tryz.func170,Tryz.ntmps170
 cases d1:(k==9)
 case true=>
  have E:Hid (eZ k p=p-1):=by show _=_;simp[eZ,d1]
  go_wp2_with fail
  repeat (refine ay _ (by kernel_rfl) (by kernel_rfl) ?_;(repeat (go_big_quiet_step (fail)));refine wpQuiet_nil ?_;intro e;go_wp2_with fail)
  go_ret;exact⟨by rw[E.out];rfl,_,rfl⟩
 have E:Hid (eZ k p=0):=by show _=_;simp[eZ,d1]
 go_wp2_with fail
 repeat (refine ay _ (by kernel_rfl) (by kernel_rfl) ?_;(repeat (go_big_quiet_step (fail)));refine wpQuiet_nil ?_;intro e;go_wp2_with fail)
 go_ret;exact⟨by rw[E.out];rfl,_,rfl⟩
theorem BA(d:Int)(w:World):Calls Tryz.prog 171 #[.int .i64 d] w fun e w'=>e=.returned (.bool (!jY d))∧Ext w w':=by
 refine aS fun e=> ?_
 have C1:Hid (QC Tryz.prog w _ _ _):=fun W hW=>wB d W
 go_enter Tryz.func171,Tryz.ntmps171
 go_wp2_with (first|(go_at_call 172;with_reducible refine(C1.out.at_ _).mono ?_;rintro _ _ ⟨rfl,e,rfl⟩))
 repeat (refine ay _ (by kernel_rfl) (by kernel_rfl) ?_;(repeat (go_big_quiet_step ((first|with_reducible exact C1.out.at_ _))));refine wpQuiet_nil ?_;intro e;go_wp2_with (first|(go_at_call 172;with_reducible refine(C1.out.at_ _).mono ?_;rintro _ _ ⟨rfl,e,rfl⟩)))
 go_ret;exact⟨rfl,_,rfl⟩
theorem Ep(xs:List Int)(n:Nat){A:Option Addr}{c:Nat}{bs:List Nat}(w:World)(hx:T1 w (.sl n (xs.flatMap bN)) bs (.slice A n c))(Hl:Hid (xs.length=n)):Calls Tryz.prog 153 #[.slice A n c,.func (.func 171) #[] #[]] w fun e w'=>e=.returned (.int .i64 (idxOf n (fun k=> !jY (dZ xs k))))∧Ext w w':=by
 refine aS fun e=> ?_
 have hn:=hx.sU
 go_enter Tryz.func153,Tryz.ntmps153
 go_wp2_with fail
 repeat (refine ay _ (by kernel_rfl) (by kernel_rfl) ?_;(repeat (go_big_quiet_step (fail)));refine wpQuiet_nil ?_;intro e;go_wp2_with fail)
 go_loopw [5,8] (fun _ i w'=>∃k:Nat,k≤n∧i=.int .i64 k∧Hid (dV k (fun k=> !!jY (dZ xs k))=true)∧∃e:aQ w,w'=e.to) (fun _ i _=>n-(intOf i).toNat)
 case atStart=>exact⟨0,Nat.zero_le _,rfl,nL _,_,rfl⟩
 case round=>
  obtain⟨k,hk,rfl,hf,e,rfl⟩:=hrel
  by_cases hlt:k<n
  ·skip
   obtain⟨b,off,x,bs',rfl,hxk,hp⟩:=T1.elem (s:=1) (fun _=>rfl) hx Hl hlt;have kx:=GU hp;rw[Nat.mul_one]at kx;have EP:Hid ((!jY (dZ xs k))= !jY x):=by show _=_;rw[Cz hxk]
   have C1:Hid (QC Tryz.prog w _ _ _):=fun W hW=>BA x W
   cases d1:(!jY x)
   case true=>
    (try rw[d1]at C1)
    have E:Hid (idxOf n (fun k=> !jY (dZ xs k))=(k:Int)):=by show _=_;exact zi hf hlt (by rw[EP.out];exact d1)
    go_wp2_with (first|(go_at_call 171;with_reducible refine(C1.out.at_ _).mono ?_;rintro _ _ ⟨rfl,e,rfl⟩))
    repeat (refine ay _ (by kernel_rfl) (by kernel_rfl) ?_;(repeat (go_big_quiet_step ((first|with_reducible exact C1.out.at_ _))));refine wpQuiet_nil ?_;intro e;go_wp2_with (first|(go_at_call 171;with_reducible refine(C1.out.at_ _).mono ?_;rintro _ _ ⟨rfl,e,rfl⟩)))
    go_ret;exact⟨by rw[E.out];rfl,_,rfl⟩
   (try rw[d1]at C1)
   have E:Hid ((!!jY (dZ xs k))=true):=by show _=_;rw[EP.out,d1];rfl
   go_wp2_with (first|(go_at_call 171;with_reducible refine(C1.out.at_ _).mono ?_;rintro _ _ ⟨rfl,e,rfl⟩))
   repeat (refine ay _ (by kernel_rfl) (by kernel_rfl) ?_;(repeat (go_big_quiet_step ((first|with_reducible exact C1.out.at_ _))));refine wpQuiet_nil ?_;intro e;go_wp2_with (first|(go_at_call 171;with_reducible refine(C1.out.at_ _).mono ?_;rintro _ _ ⟨rfl,e,rfl⟩)))
   exact⟨⟨k+1,by omega,by go_num,gV hf E.out,_,rfl⟩,by simp[intOf];omega⟩
  ·have:n=k:=by omega
   subst this;have E:Hid (idxOf n (fun k=> !jY (dZ xs k))= -1):=by show _=_;exact qw hf
   go_wp2_with fail
   repeat (refine ay _ (by kernel_rfl) (by kernel_rfl) ?_;(repeat (go_big_quiet_step (fail)));refine wpQuiet_nil ?_;intro e;go_wp2_with fail)
   go_ret;exact⟨by rw[E.out];rfl,_,rfl⟩
theorem zW(xs:List Int)(n:Nat){A:Option Addr}{c:Nat}{bs:List Nat}(w:World)(hx:T1 w (.sl n (xs.flatMap bN)) bs (.slice A n c))(Hl:Hid (xs.length=n)):Calls Tryz.prog 123 #[.slice A n c,.func (.func 171) #[] #[]] w fun e w'=>e=.returned (.bool (ow n (fun k=> !jY (dZ xs k))))∧Ext w w':=by
 refine aS fun e=> ?_
 have C1:Hid (QC Tryz.prog w _ _ _):=fun W hW=>Ep xs n W (hx.below hW) Hl
 have hc:=zk n (fun k=> !jY (dZ xs k))
 go_enter Tryz.func123,Tryz.ntmps123
 go_wp2_with (first|(go_at_call 153;with_reducible refine(C1.out.at_ _).mono ?_;rintro _ _ ⟨rfl,e,rfl⟩))
 repeat (refine ay _ (by kernel_rfl) (by kernel_rfl) ?_;(repeat (go_big_quiet_step ((first|with_reducible exact C1.out.at_ _))));refine wpQuiet_nil ?_;intro e;go_wp2_with (first|(go_at_call 153;with_reducible refine(C1.out.at_ _).mono ?_;rintro _ _ ⟨rfl,e,rfl⟩)))
 go_ret;exact⟨by rw[←hc];rfl,_,rfl⟩
end Go.Proofs.YtcjhkgfmklgikaaGreat
namespace Go.Tr
open Go Go.RowKit
def nA(a:aB):aj:=(a.kind,a.level,a.value,a.data,a.aH.map fun p=>(p.agent,p.slot))
theorem MF(a:aB):gA (nA a)=a:=by
 cases a with
 |mk k l v d ps=>
  unfold gA nA;simp only[List.map_map]
  congr 1
  exact(List.map_congr_left fun p _=>rfl).trans (List.map_id ps)
theorem QA(x:aB):enc aG (nA x)=x.enc:=by rw[←P7,MF]
def oG(k v:Int)(d:List Int):Bool:=
 if k==6 then((d.length:Int)==0)&&qy v
 else if k==7 then((d.length:Int)==0)&&jT v
 else if k==8 then((d.length:Int)==1)&&jT v&&qy (dZ d 0)
 else if k==9 then((d.length:Int)==0)&&dS v 0 3
 else if k==12 then((d.length:Int)==0)&&jY v
 else if k==10 then v==0&&dS d.length 1 4&&kL d
 else if k==11 then v==0&&((d.length:Int)==2)&&kL d
 else v==0&&((d.length:Int)==0)
theorem Mc(a:aj):gI (gA a)=oG a.1 a.2.2.1 a.2.2.2.1:=rfl
end Go.Tr
namespace Go.Proofs.YtcjhkgfmklgikaaGreat
open Go Go.RowKit Go.Proofs Go.Tr
theorem Vs(n:Int):aN Tryz.prog 176 [.int .i64 n] (.bool (jY n)):=by
 refine aN.intro (nt:=5) aJ mixed (by kernel_rfl) Tryz.func176 rfl rfl rfl rfl rfl ?_;refine Or.inl (eI _ (aI (Fg n 0 23) ?_));exact rfl
theorem PD(a:aj):aN Tryz.prog 164 [.rp aG a] (.bool (gI (gA a))):=by
 refine aN.intro (nt:=162) aJ mixed (by kernel_rfl) Tryz.func164 rfl rfl rfl rfl rfl ?_;rw[Mc];generalize hk:a.1=k at*;have ek:∀{c:Int} {b:Bool},(a.1==c)=b→(k==c)=b:=fun h=>by rw[←hk];exact h
 refine aI (fun q1=> ?_) (fun q1=> ?_)
 ·refine Or.inl (eI _ (aI (fun _=>Fg a.2.2.1 (-2147483648) 2147483647) ?_));refine Eq.trans (Eq.refl _) ?_;unfold oG;rw[ek q1];show(bif ((a.2.2.2.1.length:Int)==0)then dS a.2.2.1 (-2147483648) 2147483647 else false)=(((a.2.2.2.1.length:Int)==0)&&qy a.2.2.1);cases ((a.2.2.2.1.length:Int)==0)<;>rfl
 refine aI (fun q2=> ?_) (fun q2=> ?_)
 ·refine Or.inl (eI _ (aI (fun _=>Fg a.2.2.1 1 6) ?_));refine Eq.trans (Eq.refl _) ?_;unfold oG;rw[ek q1,ek q2];show(bif ((a.2.2.2.1.length:Int)==0)then dS a.2.2.1 1 6 else false)=(((a.2.2.2.1.length:Int)==0)&&jT a.2.2.1);cases ((a.2.2.2.1.length:Int)==0)<;>rfl
 refine aI (fun q3=> ?_) (fun q3=> ?_)
 ·refine Or.inl (eI _ (aI (fun _=>Fg a.2.2.1 1 6) ?_));refine aI (fun g=> ?_) ?_
  ·have g2:(bif ((a.2.2.2.1.length:Int)==1)then dS a.2.2.1 1 6 else false)=true:=g;cases hl:((a.2.2.2.1.length:Int)==1)with
   |false=>rw[hl]at g2;cases g2
   |true=>
    have hl2:(a.2.2.2.1.length:Int)=1:=by simpa using hl
    show(0:Int)≤0∧(0:Int)<(a.2.2.2.1.length:Nat);omega
  refine Or.inl (eI _ (aI (fun _=>Fg _ (-2147483648) 2147483647) ?_));refine Eq.trans (Eq.refl _) ?_;unfold oG;rw[ek q1,ek q2,ek q3];show(bif (bif ((a.2.2.2.1.length:Int)==1)then dS a.2.2.1 1 6 else false)then dS (dZ a.2.2.2.1 0) (-2147483648) 2147483647 else false)=(((a.2.2.2.1.length:Int)==1)&&jT a.2.2.1&&qy (dZ a.2.2.2.1 0));unfold jT qy;cases ((a.2.2.2.1.length:Int)==1)<;>cases dS a.2.2.1 1 6<;>rfl
 refine aI (fun q4=> ?_) (fun q4=> ?_)
 ·refine Or.inl (eI _ (aI (fun _=>Fg a.2.2.1 0 3) ?_));refine Eq.trans (Eq.refl _) ?_;unfold oG;rw[ek q1,ek q2,ek q3,ek q4];show(bif ((a.2.2.2.1.length:Int)==0)then dS a.2.2.1 0 3 else false)=(((a.2.2.2.1.length:Int)==0)&&dS a.2.2.1 0 3);cases ((a.2.2.2.1.length:Int)==0)<;>rfl
 refine aI (fun q5=> ?_) (fun q5=> ?_)
 ·refine Or.inl (eI _ (aI (fun _=>Vs a.2.2.1) ?_));refine Eq.trans (Eq.refl _) ?_;unfold oG;rw[ek q1,ek q2,ek q3,ek q4,ek q5];show(bif ((a.2.2.2.1.length:Int)==0)then jY a.2.2.1 else false)=(((a.2.2.2.1.length:Int)==0)&&jY a.2.2.1);cases ((a.2.2.2.1.length:Int)==0)<;>rfl
 refine aI (fun q6=> ?_) (fun q6=> ?_)
 ·refine aI (fun _=> ?_) (fun p=>absurd (q6.symm.trans p) (by decide));refine Or.inl (eI _ (aI (fun _=>Fg a.2.2.2.1.length 1 4) ?_))
  have q7:(k==11)=false:=by
   have:k=10:=by have:=ek q6;simpa using this
   rw[this];rfl
  have q7':(a.1==11)=false:=by rw[hk];exact q7
  have ec:oG k a.2.2.1 a.2.2.2.1=(a.2.2.1==0&&dS a.2.2.2.1.length 1 4&&kL a.2.2.2.1):=by
   unfold oG;rw[ek q1,ek q2,ek q3,ek q4,ek q5,ek q6];rfl
  have q6':(a.1==10)=true:=q6;refine aI (fun q8=> ?_) (fun q8=> ?_)
  ·refine Eq.trans (Eq.refl _) ?_;rw[ec];have q9:(bif (bif (a.2.2.1 !=0)then true else bif (a.1==11)then((a.2.2.2.1.length:Int) !=2)else false)then true else bif (a.1==10)then !(dS a.2.2.2.1.length 1 4)else false)=true:=q8;rw[q7',q6',show(a.2.2.1 !=0)= !(a.2.2.1==0) from rfl]at q9;revert q9;cases (a.2.2.1==0)<;>cases dS a.2.2.2.1.length 1 4<;>simp
  have et:(true:Bool)=(a.2.2.1==0&&dS a.2.2.2.1.length 1 4):=by
   have q9:(bif (bif (a.2.2.1 !=0)then true else bif (a.1==11)then((a.2.2.2.1.length:Int) !=2)else false)then true else bif (a.1==10)then !(dS a.2.2.2.1.length 1 4)else false)=false:=q8;rw[q7',q6',show(a.2.2.1 !=0)= !(a.2.2.1==0) from rfl]at q9;revert q9;cases (a.2.2.1==0)<;>cases dS a.2.2.2.1.length 1 4<;>simp
  have hlen:a.2.2.2.1.length≤4:=by
   have h1:dS a.2.2.2.1.length 1 4=true:=by
    revert et;cases (a.2.2.1==0)<;>cases dS a.2.2.2.1.length 1 4<;>simp
   have:=jS h1;omega
  refine lp Nat (fun i=>[(3,.int .i64 (i:Nat))]) (fun _=>[]) (fun i=>a.2.2.2.1.length-i) (fun i=>i≤a.2.2.2.1.length∧dV i (fun k=>jY (dZ a.2.2.2.1 k))=true) 0 ⟨Nat.zero_le _,rfl⟩ ?_ ?_
  ·exact hd [] rfl (aI (aI rfl rfl) trivial) trivial
  rintro i ⟨hi,ha⟩;refine aI (fun p1=> ?_) (fun p1=> ?_)
  ·have hlt:i<a.2.2.2.1.length:=by
    have p2:decide (((i:Nat):Int)<(a.2.2.2.1.length:Nat))=true:=p1;simp only[qQ]at p2;omega
   refine aI (show 0≤((i:Nat):Int)∧((i:Nat):Int)<(a.2.2.2.1.length:Nat) by omega) ?_;refine Or.inl (eI _ (aI (Vs _) ?_));refine aI (fun p2=> ?_) (fun p2=> ?_)
   ·have p3:jY (dZ a.2.2.2.1 i)=false:=by
     have p4:(!jY (dZ a.2.2.2.1 i))=true:=p2;simpa using p4
    refine Eq.trans (Eq.refl _) ?_;rw[ec,show kL a.2.2.2.1=false from iW hlt p3,Bool.and_false]
   ·have p3:jY (dZ a.2.2.2.1 i)=true:=by
     have p4:(!jY (dZ a.2.2.2.1 i))=false:=p2;simpa using p4
    refine bB (i+1) ⟨hlt,by rw[AU];simp only[ha,p3,Bool.and_true]⟩ ?_ ?_
    ·exact hd [] rfl (aI (aI (eB (by omega)) rfl) trivial) trivial
    ·show a.2.2.2.1.length-(i+1)<a.2.2.2.1.length-i;omega
  ·have hge:a.2.2.2.1.length≤i:=by
    have p2:decide (((i:Nat):Int)<(a.2.2.2.1.length:Nat))=false:=p1;simp only[qP]at p2;omega
   have hie:i=a.2.2.2.1.length:=by omega
   subst hie;refine Eq.trans (Eq.refl _) ?_;rw[ec,show kL a.2.2.2.1=true from ha,Bool.and_true];exact et
 refine aI (fun q7=> ?_) (fun q7=> ?_)
 ·refine Or.inl (eI _ (aI (fun _=>Fg a.2.2.2.1.length 1 4) ?_))
  have ec:oG k a.2.2.1 a.2.2.2.1=(a.2.2.1==0&&((a.2.2.2.1.length:Int)==2)&&kL a.2.2.2.1):=by
   unfold oG;rw[ek q1,ek q2,ek q3,ek q4,ek q5,ek q6,ek q7];rfl
  have q6':(a.1==10)=false:=q6;have q7':(a.1==11)=true:=q7;refine aI (fun q8=> ?_) (fun q8=> ?_)
  ·refine Eq.trans (Eq.refl _) ?_;rw[ec];have q9:(bif (bif (a.2.2.1 !=0)then true else bif (a.1==11)then((a.2.2.2.1.length:Int) !=2)else false)then true else bif (a.1==10)then !(dS a.2.2.2.1.length 1 4)else false)=true:=q8;rw[q7',q6',show(a.2.2.1 !=0)= !(a.2.2.1==0) from rfl,show((a.2.2.2.1.length:Int) !=2)= !((a.2.2.2.1.length:Int)==2) from rfl]at q9;revert q9;cases (a.2.2.1==0)<;>cases ((a.2.2.2.1.length:Int)==2)<;>simp
  have et:(true:Bool)=(a.2.2.1==0&&((a.2.2.2.1.length:Int)==2)):=by
   have q9:(bif (bif (a.2.2.1 !=0)then true else bif (a.1==11)then((a.2.2.2.1.length:Int) !=2)else false)then true else bif (a.1==10)then !(dS a.2.2.2.1.length 1 4)else false)=false:=q8;rw[q7',q6',show(a.2.2.1 !=0)= !(a.2.2.1==0) from rfl,show((a.2.2.2.1.length:Int) !=2)= !((a.2.2.2.1.length:Int)==2) from rfl]at q9;revert q9;cases (a.2.2.1==0)<;>cases ((a.2.2.2.1.length:Int)==2)<;>simp
  have hlen:a.2.2.2.1.length≤4:=by
   have h1:((a.2.2.2.1.length:Int)==2)=true:=by
    revert et;cases (a.2.2.1==0)<;>cases ((a.2.2.2.1.length:Int)==2)<;>simp
   have h2:(a.2.2.2.1.length:Int)=2:=by simpa using h1
   omega
  refine lp Nat (fun i=>[(3,.int .i64 (i:Nat))]) (fun _=>[]) (fun i=>a.2.2.2.1.length-i) (fun i=>i≤a.2.2.2.1.length∧dV i (fun k=>jY (dZ a.2.2.2.1 k))=true) 0 ⟨Nat.zero_le _,rfl⟩ ?_ ?_
  ·exact hd [] rfl (aI (aI rfl rfl) trivial) trivial
  rintro i ⟨hi,ha⟩;refine aI (fun p1=> ?_) (fun p1=> ?_)
  ·have hlt:i<a.2.2.2.1.length:=by
    have p2:decide (((i:Nat):Int)<(a.2.2.2.1.length:Nat))=true:=p1;simp only[qQ]at p2;omega
   refine aI (show 0≤((i:Nat):Int)∧((i:Nat):Int)<(a.2.2.2.1.length:Nat) by omega) ?_;refine Or.inl (eI _ (aI (Vs _) ?_));refine aI (fun p2=> ?_) (fun p2=> ?_)
   ·have p3:jY (dZ a.2.2.2.1 i)=false:=by
     have p4:(!jY (dZ a.2.2.2.1 i))=true:=p2;simpa using p4
    refine Eq.trans (Eq.refl _) ?_;rw[ec,show kL a.2.2.2.1=false from iW hlt p3,Bool.and_false]
   ·have p3:jY (dZ a.2.2.2.1 i)=true:=by
     have p4:(!jY (dZ a.2.2.2.1 i))=false:=p2;simpa using p4
    refine bB (i+1) ⟨hlt,by rw[AU];simp only[ha,p3,Bool.and_true]⟩ ?_ ?_
    ·exact hd [] rfl (aI (aI (eB (by omega)) rfl) trivial) trivial
    ·show a.2.2.2.1.length-(i+1)<a.2.2.2.1.length-i;omega
  ·have hge:a.2.2.2.1.length≤i:=by
    have p2:decide (((i:Nat):Int)<(a.2.2.2.1.length:Nat))=false:=p1;simp only[qP]at p2;omega
   have hie:i=a.2.2.2.1.length:=by omega
   subst hie;refine Eq.trans (Eq.refl _) ?_;rw[ec,show kL a.2.2.2.1=true from ha,Bool.and_true];exact et
 ·refine Eq.trans (Eq.refl _) ?_;unfold oG;rw[ek q1,ek q2,ek q3,ek q4,ek q5,ek q6,ek q7];show(bif (a.2.2.1==0)then((a.2.2.2.1.length:Int)==0)else false)=(a.2.2.1==0&&((a.2.2.2.1.length:Int)==0));cases (a.2.2.1==0)<;>rfl
theorem CO(x:aB)(b o:Nat)(bs:List Nat)(w:World)(h:gu w b o x.enc bs):Calls Tryz.prog 164 #[.pointer (some ⟨b,o,none⟩)] w fun e w'=>e=.returned (.bool (gI x))∧Ext w w':=by
 have q:=aN.SF (u:=aG) (x:=nA x) (PD (nA x)) (fun _ _ _ h=>PK h) (w:=w) (b:=b) (o:=o) (bs:=bs) (by rw[QA];exact h);rw[MF]at q;exact q
theorem Zw(k f:Int):aN Tryz.prog 169 [.int .i64 k,.int .i64 f] (.int .i64 (cZ k f)):=aN.Je (l:=[k,f]) (by kernel_rfl) (Bq k f) fun _ _=>Mg _
theorem UM(n:Int):aN Tryz.prog 173 [.int .i64 n] (.bool (qy n)):=aN.Je (l:=[n]) (by kernel_rfl) (Ob n) fun _ _=>yT _
theorem XI(n:Int):aN Tryz.prog 174 [.int .i64 n] (.bool (jT n)):=aN.Je (l:=[n]) (by kernel_rfl) (CB n) fun _ _=>yT _
theorem Xo(n:Int):aN Tryz.prog 172 [.int .i64 n] (.bool (jY n)):=aN.Je (l:=[n]) (by kernel_rfl) (wB n) fun _ _=>yT _
theorem Zn(k:Int)(n:Nat)(h:n≤9223372036854775807):aN Tryz.prog 170 [.int .i64 k,.int .i64 (n:Int)] (.int .i64 (eZ k n)):=aN.Je (l:=[k,(n:Int)]) (by kernel_rfl) (fun w=>Gu k n w (by omega) (by omega)) fun _ _=>Mg _
theorem Zc(xs:List Int):aN Tryz.prog 123 [.rsl (.int .i64) xs,.fn 171 []] (.bool (!kL xs)):=by
 refine⟨(by kernel_rfl),fun cx β w fr vs hI hd=> ?_⟩;unfold aM at hd;obtain⟨v1,vs1,rfl,hd1,hd⟩:=hd;unfold aM at hd;obtain⟨v2,vs2,rfl,hd2,hd⟩:=hd;unfold aM at hd;subst hd;unfold Den at hd1 hd2;obtain⟨us,rfl,hd2⟩:=hd2;unfold aM at hd2;subst hd2;obtain⟨A,c,rfl⟩:=hd1.slice;obtain⟨bs,ht⟩:=hd1.now hI;refine Calls.mono (zW xs xs.length w (by rw[←yY];exact ht) rfl) ?_;rintro e w' ⟨rfl,hx⟩;refine⟨_,rfl,?_,hI.ext hx⟩;unfold Den;unfold ow kL;simp only[Bool.not_not]
theorem Yi(a:aj)(hp:a.2.2.2.2.length≤9223372036854775807):aN Tryz.prog 151 [.agg [.int .i64 a.1,.int .i64 a.2.1,.int .i64 a.2.2.1,.rsl (.int .i64) a.2.2.2.1,.rsl aR a.2.2.2.2]] (.bool (dO (gA a))):=by
 refine aN.intro (nt:=117) aJ mixed (by kernel_rfl) Tryz.func151 rfl rfl rfl rfl rfl ?_
 have hag:dO (gA a)=(decide (0<cZ a.1 (eZ a.1 a.2.2.2.2.length))&&(a.2.2.2.2.length:Int)==cZ a.1 (eZ a.1 a.2.2.2.2.length)&&cB a.1 a.2.1&&oG a.1 a.2.2.1 a.2.2.2.1):=by
  rw[←Mc];unfold dO fieldsOf;have e:(gA a).aH.length=a.2.2.2.2.length:=qV _;rw[e];rfl
 rw[hag];refine Or.inl (eI _ (aI (fun _=>Zn a.1 a.2.2.2.2.length hp) ?_));refine Or.inl (eI _ (aI (fun _=>Zw a.1 (eZ a.1 a.2.2.2.2.length)) ?_));refine Or.inl (eI _ (aI (fun _=>Gf a.1 a.2.1) ?_));refine aI (by kernel_rfl) ?_
 have qc:∀{b:Bool},(bif (bif ((a.2.2.2.2.length:Int)==0)then true else(cZ a.1 (eZ a.1 a.2.2.2.2.length) !=(a.2.2.2.2.length:Int)))then true else !(cB a.1 a.2.1))=b→(decide (0<cZ a.1 (eZ a.1 a.2.2.2.2.length))&&(a.2.2.2.2.length:Int)==cZ a.1 (eZ a.1 a.2.2.2.2.length)&&cB a.1 a.2.1)= !b:=fun {b} h=>by
  generalize cZ a.1 (eZ a.1 a.2.2.2.2.length)=p at*;subst h;cases cB a.1 a.2.1
  ·simp
  ·by_cases h0:(a.2.2.2.2.length:Int)=0
   ·rw[h0]
    by_cases hp0:p=0
    ·subst hp0;rfl
    ·simp;omega
   ·rw[show((a.2.2.2.2.length:Int)==0)=false by simpa using h0]
    by_cases hpe:p=(a.2.2.2.2.length:Int)
    ·subst hpe;simp;omega
    ·simp only[qH];rw[show(p !=(a.2.2.2.2.length:Int))=true by simpa using hpe,show((a.2.2.2.2.length:Int)==p)=false by simp;omega];simp
 refine aI (fun q1=> ?_) (fun q1=> ?_)
 ·refine Eq.trans (Eq.refl _) ?_;rw[qc q1];rfl
 have hq:=qc q1;rw[hq];refine aI (by kernel_rfl) ?_;refine Or.inl (eI _ (aI (Zc _) ?_));have cfin:∀{t u:Bool},(t&&u)=oG a.1 a.2.2.1 a.2.2.2.1→(bif t then u else false)=(!false&&oG a.1 a.2.2.1 a.2.2.2.1):=fun {t u} h=>by rw[←h];cases t<;>rfl
 unfold oG at cfin;refine aI (fun k1=> ?_) (fun k1=> ?_)
 ·refine Or.inl (eI _ (aI (UM _) ?_));refine Eq.trans (Eq.refl _) ?_;refine cfin ?_;rw[show(a.1==6)=true from k1,Bool.and_comm];rfl
 refine aI (fun k2=> ?_) (fun k2=> ?_)
 ·refine Or.inl (eI _ (aI (XI _) ?_));refine Eq.trans (Eq.refl _) ?_;refine cfin ?_;rw[show(a.1==6)=false from k1,show(a.1==7)=true from k2,Bool.and_comm];rfl
 refine aI (fun k3=> ?_) (fun k3=> ?_)
 ·refine Or.inl (eI _ (aI (XI _) ?_));refine aI (fun g=> ?_) ?_
  ·have g2:(bif jT a.2.2.1 then((a.2.2.2.1.length:Int)==1)else false)=true:=g;cases ho:jT a.2.2.1 with
   |false=>rw[ho]at g2;cases g2
   |true=>
    rw[ho]at g2;have hl2:(a.2.2.2.1.length:Int)=1:=by simpa using g2
    show(0:Int)≤0∧(0:Int)<(a.2.2.2.1.length:Nat);omega
  refine Or.inl (eI _ (aI (fun _=>UM _) ?_));refine Eq.trans (Eq.refl _) ?_;unfold oG;rw[show(a.1==6)=false from k1,show(a.1==7)=false from k2,show(a.1==8)=true from k3];show(bif (bif jT a.2.2.1 then((a.2.2.2.1.length:Int)==1)else false)then qy (dZ a.2.2.2.1 0)else false)=(!false&&(((a.2.2.2.1.length:Int)==1)&&jT a.2.2.1&&qy (dZ a.2.2.2.1 0)));cases ((a.2.2.2.1.length:Int)==1)<;>cases jT a.2.2.1<;>rfl
 refine aI (fun k4=> ?_) (fun k4=> ?_)
 ·refine Eq.trans (Eq.refl _) ?_;refine cfin ?_;rw[show(a.1==6)=false from k1,show(a.1==7)=false from k2,show(a.1==8)=false from k3,show(a.1==9)=true from k4,Bool.and_comm];show _=(((a.2.2.2.1.length:Int)==0)&&dS a.2.2.1 0 3)
  congr 1
  unfold dS;show(bif decide (0≤a.2.2.1)then decide (a.2.2.1<4)else false)=(decide (0≤a.2.2.1)&&decide (a.2.2.1≤3));rw[show decide (a.2.2.1<4)=decide (a.2.2.1≤3) by rw[decide_eq_decide];omega];cases decide (0≤a.2.2.1)<;>rfl
 refine aI (fun k5=> ?_) (fun k5=> ?_)
 ·have k12:(a.1==12)=false:=by
   have:a.1=10:=by simpa using(show(a.1==10)=true from k5)
   rw[this];rfl
  refine Eq.trans (Eq.refl _) ?_;refine cfin ?_;rw[show(a.1==6)=false from k1,show(a.1==7)=false from k2,show(a.1==8)=false from k3,show(a.1==9)=false from k4,k12,show(a.1==10)=true from k5];show((a.2.2.1==0)&&(bif (bif decide (1≤(a.2.2.2.1.length:Int))then decide ((a.2.2.2.1.length:Int)≤4)else false)then !(!kL a.2.2.2.1)else false))=(a.2.2.1==0&&dS a.2.2.2.1.length 1 4&&kL a.2.2.2.1);unfold dS;cases (a.2.2.1==0)<;>cases decide (1≤(a.2.2.2.1.length:Int))<;>cases decide ((a.2.2.2.1.length:Int)≤4)<;>cases kL a.2.2.2.1<;>rfl
 refine aI (fun k6=> ?_) (fun k6=> ?_)
 ·have k12:(a.1==12)=false:=by
   have:a.1=11:=by simpa using(show(a.1==11)=true from k6)
   rw[this];rfl
  refine Eq.trans (Eq.refl _) ?_;refine cfin ?_;rw[show(a.1==6)=false from k1,show(a.1==7)=false from k2,show(a.1==8)=false from k3,show(a.1==9)=false from k4,k12,show(a.1==10)=false from k5,show(a.1==11)=true from k6];show((a.2.2.1==0)&&(bif ((a.2.2.2.1.length:Int)==2)then !(!kL a.2.2.2.1)else false))=(a.2.2.1==0&&((a.2.2.2.1.length:Int)==2)&&kL a.2.2.2.1);cases (a.2.2.1==0)<;>cases ((a.2.2.2.1.length:Int)==2)<;>cases kL a.2.2.2.1<;>rfl
 refine aI (fun k7=> ?_) (fun k7=> ?_)
 ·refine Or.inl (eI _ (aI (Xo _) ?_));refine Eq.trans (Eq.refl _) ?_;refine cfin ?_;rw[show(a.1==6)=false from k1,show(a.1==7)=false from k2,show(a.1==8)=false from k3,show(a.1==9)=false from k4,show(a.1==12)=true from k7,Bool.and_comm];rfl
 ·refine Eq.trans (Eq.refl _) ?_;refine cfin ?_;rw[show(a.1==6)=false from k1,show(a.1==7)=false from k2,show(a.1==8)=false from k3,show(a.1==9)=false from k4,show(a.1==12)=false from k7,show(a.1==10)=false from k5,show(a.1==11)=false from k6];rfl
theorem D5(x:aB){bs us}(w:World)(h:TN w x.enc bs us):Calls Tryz.prog 151 #[.agg us.toArray] w fun e w'=>e=.returned (.bool (dO x))∧Ext w w':=by
 have hp:(nA x).2.2.2.2.length≤9223372036854775807:=by
  obtain⟨_,_,_,A4,c4,b4,rfl,_,_,_,_,t4,n1,n2⟩:=aB.us (x:=x) h;have e:(nA x).2.2.2.2.length=x.aH.length:=qV _;unfold maxLen at n2;omega
 have q:=aN.SE (u:=aG) (x:=nA x) (Yi (nA x) hp) (fun _ _ _ h=>PK h) (w:=w) (bs:=bs) (us:=us) (by rw[QA];exact h);rw[MF]at q;exact q
theorem JG(x:aO)(b o:Nat)(bs:List Nat)(p:aF)(w:World)(h:gu w b o x.enc bs)(hp:iE x.agents p=true):Calls Tryz.prog 95 #[.pointer (some ⟨b,o,none⟩),.agg #[.int .i64 p.agent,.int .i64 p.slot]] w fun e w'=>e=.returned (.agg #[.int .i64 (rC x.agents p).agent,.int .i64 (rC x.agents p).slot])∧Ext w w':=by
 refine aS fun e=> ?_
 obtain⟨A0,c0,b0,h0,t0⟩:=aO.pt h;have hltn:=h.lt;obtain⟨i,s,a,r,rfl,hi,ha,hs,hr,hpeer⟩:=JI hp;rw[hpeer];clear hpeer hp;obtain⟨bz,oz,z,bs3,rfl,hzi,hz⟩:=T1.elem aB.bn t0 iL hi;obtain⟨_,rfl⟩:True∧z=a:=⟨trivial,Option.some.inj (hzi.out.symm.trans ha.out)⟩;obtain⟨A3,c3,b3,A5,c5,b5,u0,u1,u2,u3,u4,t3,t5⟩:=aB.pt hz;have hn5:=t5.sU;have hn0:=t0.sU;clear u0 u1 u2 u3 t3;obtain⟨bt,ot,r',bs4,rfl,hrs,hrr⟩:=T1.elem aF.bn t5 iL hs;obtain⟨_,rfl⟩:True∧r'=r:=⟨trivial,Option.some.inj (hrs.out.symm.trans hr.out)⟩
 obtain⟨r0,r1⟩:=aF.pt hrr;clear h hz hrr hltn;have i0:(0:Int)≤(i:Int):=by omega
 have i1:(i:Int)<(x.agents.length:Int):=by omega
 have s0:(0:Int)≤(s:Int):=by omega
 have s1:(s:Int)<(z.aH.length:Int):=by omega
 go_enter Tryz.func95,Tryz.ntmps95
 go_upto_region 1 with(fail)
 generalize hg2:e.to.heap.size+1=g2;generalize hg1:e.to.heap.size=g1;refine Ow e hg1 hg2 (fun w1 hx1 hge1 hne hge2 r1_ r2_=> ?_);clear hg1 hg2;have q0:=h0.OW hx1;have q4:=u4.OW hx1;have q5:=r0.OW hx1;have q6:=r1.OW hx1;clear h0 u4 r0 r1;have k0:=mJ (i:=0) r1_ rfl;have k1:=mJ (i:=1) r1_ rfl;have m0:=mJ (i:=0) r2_ rfl;have m1:=mJ (i:=1) r2_ rfl;have f2:∀o,w1.frozen? ⟨g2,o,none⟩=false:=gU r2_;clear r1_ r2_
 go_still_tail 13,(by kernel_rfl)
 go_wp2_with fail
 refine bodyPost_ret (v:=.agg #[.int .i64 r'.agent,.int .i64 r'.slot]) (by simp[results,Tryz.results95,go_sem, *]) rfl ⟨rfl,⟨_,?_⟩,rfl⟩;exact(((hx1.drewN _).setCell (by simpa using hge2) _).setCell (by simpa using hge2) _)
end Go.Proofs.YtcjhkgfmklgikaaGreat
namespace Go.Tr
open Go Go.RowKit
def dU(l:List aB)(k:Nat):List aF:=(List.range k).flatMap fun(i:Nat)=>(List.range (gY l i).aH.length).map fun(s:Nat)=>(⟨(i:Int),(s:Int)⟩:aF)
def pE(i j:Nat):List aF:=(List.range j).map fun(s:Nat)=>(⟨(i:Int),(s:Int)⟩:aF)
theorem Hu(i j:Nat):pE i (j+1)=pE i j++[⟨(i:Int),(j:Int)⟩]:=by simp[pE,List.range_succ]
theorem zB(l:List aB)(k:Nat):dU l (k+1)=dU l k++pE k (gY l k).aH.length:=by simp[dU,pE,List.range_succ]
theorem K9(k f:Int):cZ k f≤4:=by
 unfold cZ;split
 ·split
  ·rename_i h;have:=jS h;omega
  ·omega
 ·repeat' split
  all_goals omega
theorem Gd{a:aB}(h:dO a=true):1≤a.aH.length∧a.aH.length≤4:=by
 simp only[dO,qD,qQ,beq_iff_eq]at h;have:=K9 a.kind (fieldsOf a);omega
theorem AQ{l:List aB}(h:fJ l=true):1≤l.length∧l.length≤600∧∀k,k<l.length→gZ l k=true:=by
 simp only[fJ,qD]at h;have h1:=jS h.1;exact⟨by omega,by omega,fun k hk=>kR h.2 hk⟩
theorem xH{l:List aB}{k:Nat}(h:gZ l k=true):(gY l k).aH.length≤4:=by
 simp only[gZ,qD]at h;exact(Gd h.1).2
theorem Lb{l:List aB}{k:Nat}(h:∀j,j<k→gZ l j=true):(dU l k).length≤4*k:=by
 induction k with
 |zero=>simp[dU]
 |succ k ih=>
  rw[zB,qA];have h1:=ih (fun j hj=>h j (by omega));have h2:=xH (h k (by omega));simp only[pE,qV,List.length_range];omega
theorem Bc{l:List aB}{k:Nat}{p:aF}(h:p∈dU l k):∃i s:Nat,p=⟨(i:Int),(s:Int)⟩∧i<k∧s<(gY l i).aH.length:=by
 simp only[dU,List.mem_flatMap,List.mem_range,List.mem_map]at h;obtain⟨i,hi,s,hs,rfl⟩:=h;exact⟨i,s,rfl,hi,hs⟩
theorem JJ{l:List aB}{k i s:Nat}(hi:i<k)(hs:s<(gY l i).aH.length):(⟨(i:Int),(s:Int)⟩:aF)∈dU l k:=by
 simp only[dU,List.mem_flatMap,List.mem_range,List.mem_map];exact⟨i,hi,s,hs,rfl⟩
theorem La{l:List aB}{k:Nat}{y:aF}(h:(dU l l.length)[k]? =some y):iE l y=true:=by
 obtain⟨i,s,rfl,hi,hs⟩:=Bc (List.mem_of_getElem? h);unfold iE;rw[qD];exact⟨wz (by simp) (by simp only;omega),wz (by simp) (by simp only[qK];omega)⟩
noncomputable def tq(l:List aB)(p:aF):Bool:= !oM l p (rC l p)
theorem KS(n:aO)(h:fJ n.agents=true):iG n= !ow (dU n.agents n.agents.length).length (fun k=>tq n.agents (jD (dU n.agents n.agents.length) k)):=by
 have h0:=AQ h;unfold iG;rw[h,Bool.true_and,ow,Bool.not_not,Bool.eq_iff_iff];constructor
 ·intro ha;unfold dV;rw[List.all_eq_true];intro q hq;have hq:q<(dU n.agents n.agents.length).length:=by simpa using hq
  have he:Hid ((dU n.agents n.agents.length)[q]? =some (dU n.agents n.agents.length)[q]):=qB hq;obtain⟨i,s,hp,hi,hs⟩:=Bc (List.getElem_mem hq);rw[um he,hp];have h1:=kR (kR ha hi) hs;simp only[tq,Bool.not_not];unfold rC;simpa using h1
 ·intro ha;unfold dV;rw[List.all_eq_true];intro i hi;unfold pI dV;rw[List.all_eq_true];intro s hs;obtain⟨q,hq,he⟩:=List.getElem_of_mem (JJ (l:=n.agents) (k:=n.agents.length) (by simpa using hi) (by simpa using hs));have h1:=kR ha hq;have he':Hid ((dU n.agents n.agents.length)[q]? =some (dU n.agents n.agents.length)[q]):=qB hq;rw[um he',he]at h1;simp only[tq,Bool.not_not]at h1;unfold rC at h1;simpa using h1
end Go.Tr
namespace Go.Proofs.YtcjhkgfmklgikaaGreat
open Go Go.RowKit Go.Proofs Go.Tr
theorem Ei(xs:List aB)(n:Nat){A:Option Addr}{c:Nat}{bs:List Nat}(w:World)(hx:T1 w (.sl n (xs.flatMap aB.enc)) bs (.slice A n c))(Hl:Hid (xs.length=n)):Calls Tryz.prog 118 #[.slice A n c] w fun e w'=>e=.returned (.bool (fJ xs))∧Ext w w':=by
 refine aS fun e=> ?_
 have hn:=hx.sU;have EV:Hid (fJ xs=(dS n 1 600&&dV n (gZ xs))):=by show _=_;rw[←Hl.out];rfl
 go_enter Tryz.func118,Tryz.ntmps118
 cases d1:decide ((n:Int)<1)
 case true=>
  have E:Hid (fJ xs=false):=by show _=_;rw[EV.out,Ag (by simp at d1;omega)];rfl
  go_wp2_with fail
  repeat (refine ay _ (by kernel_rfl) (by kernel_rfl) ?_;(repeat (go_big_quiet_step (fail)));refine wpQuiet_nil ?_;intro e;go_wp2_with fail)
  go_ret;exact⟨by rw[E.out];rfl,_,rfl⟩
 cases d2:decide ((600:Int)<n)
 case true=>
  have E:Hid (fJ xs=false):=by show _=_;rw[EV.out,Ag (by simp at d2;omega)];rfl
  go_wp2_with fail
  repeat (refine ay _ (by kernel_rfl) (by kernel_rfl) ?_;(repeat (go_big_quiet_step (fail)));refine wpQuiet_nil ?_;intro e;go_wp2_with fail)
  go_ret;exact⟨by rw[E.out];rfl,_,rfl⟩
 have hin:dS n 1 600=true:=wz (by simp at d1;omega) (by simp at d2;omega);have Hin:=Lib.hid hin;clear hin
 go_wp2_with fail
 repeat (refine ay _ (by kernel_rfl) (by kernel_rfl) ?_;(repeat (go_big_quiet_step (fail)));refine wpQuiet_nil ?_;intro e;go_wp2_with fail)
 go_loopw [3,15] (fun _ i w'=>∃k:Nat,k≤n∧i=.int .i64 k∧Hid (dV k (gZ xs)=true)∧∃e:aQ w,w'=e.to) (fun _ i _=>n-(intOf i).toNat)
 case atStart=>exact⟨0,Nat.zero_le _,rfl,nL _,_,rfl⟩
 case round=>
  obtain⟨k,hk,rfl,hfk,e,rfl⟩:=hrel
  by_cases hltk:k<n
  ·skip
   obtain⟨b,off,x,bs',rfl,hxk,hp⟩:=T1.elem aB.bn hx Hl hltk;obtain⟨A3,c3,b3,A4,c4,b4,h0,h1,h2,h3,h4,t3,t4⟩:=aB.pt hp;clear hp
   go_upto_region 6 with(fail)
   generalize hgg:e.to.heap.size=g;refine gW e hgg (fun w1 e hx1 hgeg hltg cg=> ?_);clear hgg
   replace t3:=t3.below hx1
   replace t4:=t4.below hx1
   have u0:=cg.always hltg 0 _ rfl;have u1:=cg.always hltg 1 _ rfl;have u2:=cg.always hltg 2 _ rfl;have u3:=cg.always hltg 3 _ rfl;have u4:=cg.always hltg 4 _ rfl;simp only[Nat.zero_add]at u0 u1 u2 u3 u4;clear cg;clear h0 h1 h2 h3 h4;have C1:Hid (QC Tryz.prog w1 _ _ _):=fun W hW=>D5 x W (aB.yG (t3.below hW) (t4.below hW))
   have EK:Hid (gZ xs k=(dO x&&((x.kind==1)==((k:Int)==0)))):=by show _=_;rw[gZ,jZ hxk]
   cases d3:dO x
   case false=>
    (try rw[d3]at C1)
    have E:Hid (fJ xs=false):=by show _=_;rw[EV.out,iW hltk (by rw[EK.out,d3];rfl)];simp
    go_wp2_with (first|(go_at_call 151;with_reducible refine(C1.out.at_ _).mono ?_;rintro _ _ ⟨rfl,e,rfl⟩))
    repeat (refine ay _ (by kernel_rfl) (by kernel_rfl) ?_;(repeat (go_big_quiet_step ((first|with_reducible exact C1.out.at_ _))));refine wpQuiet_nil ?_;intro e;go_wp2_with (first|(go_at_call 151;with_reducible refine(C1.out.at_ _).mono ?_;rintro _ _ ⟨rfl,e,rfl⟩)))
    go_ret;exact⟨by rw[E.out];rfl,aQ.old hx1 e⟩
   (try rw[d3]at C1)
   cases d4:(x.kind==1)
   case false=>
    (try rw[d4]at C1)
    cases d5:((k:Int)==0)
    case true=>
     (try rw[d5]at C1)
     have E:Hid (fJ xs=false):=by show _=_;rw[EV.out,iW hltk (by rw[EK.out,d3,d4,d5];rfl)];simp
     go_wp2_with (first|(go_at_call 151;with_reducible refine(C1.out.at_ _).mono ?_;rintro _ _ ⟨rfl,e,rfl⟩))
     repeat (refine ay _ (by kernel_rfl) (by kernel_rfl) ?_;(repeat (go_big_quiet_step ((first|with_reducible exact C1.out.at_ _))));refine wpQuiet_nil ?_;intro e;go_wp2_with (first|(go_at_call 151;with_reducible refine(C1.out.at_ _).mono ?_;rintro _ _ ⟨rfl,e,rfl⟩)))
     go_ret;exact⟨by rw[E.out];rfl,aQ.old hx1 e⟩
    (try rw[d5]at C1)
    have E:Hid (gZ xs k=true):=by show _=_;rw[EK.out,d3,d4,d5];rfl
    go_wp2_with (first|(go_at_call 151;with_reducible refine(C1.out.at_ _).mono ?_;rintro _ _ ⟨rfl,e,rfl⟩))
    repeat (refine ay _ (by kernel_rfl) (by kernel_rfl) ?_;(repeat (go_big_quiet_step ((first|with_reducible exact C1.out.at_ _))));refine wpQuiet_nil ?_;intro e;go_wp2_with (first|(go_at_call 151;with_reducible refine(C1.out.at_ _).mono ?_;rintro _ _ ⟨rfl,e,rfl⟩)))
    exact⟨⟨k+1,by omega,by go_num,gV hfk E.out,⟨e.to,hx1.trans e.h⟩,rfl⟩,by simp[intOf];omega⟩
   (try rw[d4]at C1)
   cases d6:((k:Int)==0)
   case false=>
    (try rw[d6]at C1)
    have E:Hid (fJ xs=false):=by show _=_;rw[EV.out,iW hltk (by rw[EK.out,d3,d4,d6];rfl)];simp
    go_wp2_with (first|(go_at_call 151;with_reducible refine(C1.out.at_ _).mono ?_;rintro _ _ ⟨rfl,e,rfl⟩))
    repeat (refine ay _ (by kernel_rfl) (by kernel_rfl) ?_;(repeat (go_big_quiet_step ((first|with_reducible exact C1.out.at_ _))));refine wpQuiet_nil ?_;intro e;go_wp2_with (first|(go_at_call 151;with_reducible refine(C1.out.at_ _).mono ?_;rintro _ _ ⟨rfl,e,rfl⟩)))
    go_ret;exact⟨by rw[E.out];rfl,aQ.old hx1 e⟩
   (try rw[d6]at C1)
   have E:Hid (gZ xs k=true):=by show _=_;rw[EK.out,d3,d4,d6];rfl
   go_wp2_with (first|(go_at_call 151;with_reducible refine(C1.out.at_ _).mono ?_;rintro _ _ ⟨rfl,e,rfl⟩))
   repeat (refine ay _ (by kernel_rfl) (by kernel_rfl) ?_;(repeat (go_big_quiet_step ((first|with_reducible exact C1.out.at_ _))));refine wpQuiet_nil ?_;intro e;go_wp2_with (first|(go_at_call 151;with_reducible refine(C1.out.at_ _).mono ?_;rintro _ _ ⟨rfl,e,rfl⟩)))
   exact⟨⟨k+1,by omega,by go_num,gV hfk E.out,⟨e.to,hx1.trans e.h⟩,rfl⟩,by simp[intOf];omega⟩
  ·have:n=k:=by omega
   subst this;have E:Hid (fJ xs=true):=by show _=_;rw[EV.out,Hin.out,hfk.out];rfl
   go_wp2_with fail
   repeat (refine ay _ (by kernel_rfl) (by kernel_rfl) ?_;(repeat (go_big_quiet_step (fail)));refine wpQuiet_nil ?_;intro e;go_wp2_with fail)
   go_ret;exact⟨by rw[E.out];rfl,_,rfl⟩
theorem Jc(xs:List aB)(n:Nat){A:Option Addr}{c:Nat}{bs:List Nat}(p:aF)(w:World)(hx:T1 w (.sl n (xs.flatMap aB.enc)) bs (.slice A n c))(Hl:Hid (xs.length=n)):Calls Tryz.prog 122 #[.slice A n c,.agg #[.int .i64 p.agent,.int .i64 p.slot]] w fun e w'=>e=.returned (.bool (iE xs p))∧Ext w w':=by
 refine aS fun e=> ?_
 have hn:=hx.sU;have EV:Hid (iE xs p=(dS p.agent 0 ((n:Int)-1)&&dS p.slot 0 (((gY xs p.agent.toNat).aH.length:Int)-1))):=by show _=_;rw[←Hl.out];rfl
 go_enter Tryz.func122,Tryz.ntmps122
 go_upto_region 1 with(fail)
 generalize hgg:e.to.heap.size=g;refine gW e hgg (fun w1 e hx1 hgeg hltg cg=> ?_);clear hgg
 replace hx:=hx.below hx1
 obtain⟨k0,k1⟩:=aF.OD (gu.box hltg cg aF.yG);cases d1:decide (0≤p.agent)
 case false=>
  have E:Hid (iE xs p=false):=by show _=_;rw[EV.out,Ag (by simp at d1;omega)];rfl
  go_wp2_with fail
  repeat (refine ay _ (by kernel_rfl) (by kernel_rfl) ?_;(repeat (go_big_quiet_step (fail)));refine wpQuiet_nil ?_;intro e;go_wp2_with fail)
  go_ret;exact⟨by rw[E.out];rfl,aQ.old hx1 e⟩
 cases d2:decide (p.agent<(n:Int))
 case false=>
  have E:Hid (iE xs p=false):=by show _=_;rw[EV.out,Ag (by simp at d2;omega)];rfl
  go_wp2_with fail
  repeat (refine ay _ (by kernel_rfl) (by kernel_rfl) ?_;(repeat (go_big_quiet_step (fail)));refine wpQuiet_nil ?_;intro e;go_wp2_with fail)
  go_ret;exact⟨by rw[E.out];rfl,aQ.old hx1 e⟩
 cases d3:decide (0≤p.slot)
 case false=>
  have E:Hid (iE xs p=false):=by show _=_;rw[EV.out,Ag (n:=p.slot) (by simp at d3;omega),Bool.and_false]
  go_wp2_with fail
  repeat (refine ay _ (by kernel_rfl) (by kernel_rfl) ?_;(repeat (go_big_quiet_step (fail)));refine wpQuiet_nil ?_;intro e;go_wp2_with fail)
  go_ret;exact⟨by rw[E.out];rfl,aQ.old hx1 e⟩
 have ha0:0≤p.agent:=by simpa using d1
 have ha1:p.agent<(n:Int):=by simpa using d2
 obtain⟨i,hi⟩:=Int.eq_ofNat_of_zero_le ha0;have hlt:i<n:=by omega
 obtain⟨b,off,x,bs',rfl,hxk,hp⟩:=T1.elem aB.bn hx Hl hlt;obtain⟨A3,c3,b3,A4,c4,b4,h0,h1,h2,h3,h4,t3,t4⟩:=aB.pt hp;have hn4:=t4.sU;clear h0 h1 h2 h3 t3;have EA:Hid (gY xs p.agent.toNat=x):=by show _=_;rw[hi,qK];exact jZ hxk
 have EI:Hid (dS p.agent 0 ((n:Int)-1)=true):=wz ha0 (by omega);rw[hi]at k0 d1 d2;have i0:(0:Int)≤(i:Int):=by omega
 have i1:(i:Int)<(n:Int):=by omega
 clear hi ha0 ha1;have E:Hid (iE xs p=decide (p.slot<(x.aH.length:Int))):=by show _=_;rw[EV.out,EA.out,EI.out,Bool.true_and];unfold dS;rw[show decide ((0:Int)≤p.slot)=true from d3,Bool.true_and];rw[Bool.eq_iff_iff];simp;omega
 go_wp2_with fail
 repeat (refine ay _ (by kernel_rfl) (by kernel_rfl) ?_;(repeat (go_big_quiet_step (fail)));refine wpQuiet_nil ?_;intro e;go_wp2_with fail)
 go_ret;exact⟨by rw[E.out];rfl,aQ.old hx1 e⟩
theorem Rm:pY Tryz.prog 109 86 2:=pY.of Tryz.underlying109 (by kernel_rfl) (by omega)
theorem OC(x:aO)(b o:Nat)(bs:List Nat)(w:World)(h:gu w b o x.enc bs)(hok:fJ x.agents=true):Calls Tryz.prog 120 #[.pointer (some ⟨b,o,none⟩)] w fun e w'=>
  Ext w w'∧∃A c bs',e=.returned (.slice A (dU x.agents x.agents.length).length c)∧T1 w' (.sl (dU x.agents x.agents.length).length ((dU x.agents x.agents.length).flatMap aF.enc)) bs' (.slice A (dU x.agents x.agents.length).length c):=by
 obtain⟨A0,c0,b0,h0,t0⟩:=aO.pt h;have hn0:=t0.sU;obtain⟨hk1,hk2,hall⟩:=AQ hok;have Hall:=Lib.hid hall;clear hall hok;refine N7 fun e=> ?_
 go_enter Tryz.func120,Tryz.ntmps120
 go_wp2_with fail
 go_loopw [3,12] (fun v i wr=>∃k:Nat,k≤x.agents.length∧i=.int .i64 k∧∃e:aQ w,wr=e.to∧e.to.ownsRow w.heap.size 86 2 v (dU x.agents k).length ((dU x.agents k).flatMap aF.cells)) (fun _ i _=>x.agents.length-(intOf i).toNat)
 case atStart=>exact⟨0,Nat.zero_le _,rfl,_,rfl,World.ownsRow_nil _ _ _ _⟩
 case round=>
  obtain⟨k,hk,rfl,e,rfl,ho⟩:=hrel
  by_cases hlt:k<x.agents.length
  ·obtain⟨b',off,y,bs',rfl,hyk,hp⟩:=T1.elem aB.bn t0 iL hlt;obtain⟨A3,c3,b3,A4,c4,b4,g0,g1,g2,g3,g4,t3,t4⟩:=aB.pt hp;have hn4:=t4.sU;have HA:Hid (gY x.agents k=y):=jZ hyk;have hy4:y.aH.length≤4:=by have:=xH (Hall.out k hlt);rw[HA.out]at this;exact this
   have hle:(dU x.agents k).length≤4*k:=Lb fun j hj=>Hall.out j (by omega)
   clear t3 t4 hp
   go_wp2_with fail
   go_loopw [3,20] (fun v i wr=>∃j:Nat,j≤y.aH.length∧i=.int .i64 j∧∃e:aQ w,wr=e.to∧e.to.ownsRow w.heap.size 86 2 v ((dU x.agents k).length+j) ((dU x.agents k).flatMap aF.cells++(pE k j).flatMap aF.cells)) (fun _ i _=>y.aH.length-(intOf i).toNat)
   case atStart=>exact⟨0,Nat.zero_le _,rfl,⟨_,e.h.alloc e.h.size _⟩,rfl,by simpa[pE]using ho.alloc _⟩
   case round=>
    obtain⟨j,hj,rfl,e,rfl,ho⟩:=hrel
    by_cases hltj:j<y.aH.length
    ·have hge:=e.h.size
     go_wp2_with (at_builtin;refine LH rfl (.tmp 23) (.tmp 27) 109 rfl Rm w.heap.size _ _ _ rfl (ho.alloc _) e.to.heap.size 1 1 #[.int .i64 (k:Int),.int .i64 (j:Int)] rfl (heap_alloc_new e.to _) rfl rfl (by omega) (by simp;omega) ?_;intro v' w2 ho2 hg2)
     have hx2:Ext w w2:=Ext.grown (e.h.alloc e.h.size _) hg2 (KZ ho)
     go_roundw
     case rel=>exact⟨j+1,by omega,by go_num,⟨w2,hx2⟩,rfl,by rw[Hu,List.flatMap_append,←qF];exact ho2⟩
     case measure=>simp[intOf];omega
    ·have:y.aH.length=j:=by omega
     subst this
     go_wp2_with fail
     go_roundw
     case rel=>exact⟨k+1,by omega,by go_num,e,rfl,by rw[zB,HA.out,List.flatMap_append,qA];simpa[pE]using ho⟩
     case measure=>simp[intOf];omega
  ·have:x.agents.length=k:=by omega
   subst this
   go_wp2_with fail
   go_ret;obtain⟨A,c,bs',rfl,ht⟩:=K3 ho (TN.UH aF.cells (fun _=>rfl) _);exact⟨e,rfl,A,c,bs',rfl,ht⟩
theorem IC(N:aO)(nb no:Nat)(nbs:List Nat)(p:aF)(w:World)(hN:gu w nb no N.enc nbs)(hp:iE N.agents p=true):Calls Tryz.prog 121 #[.agg #[.int .i64 p.agent,.int .i64 p.slot],.pointer (some ⟨nb,no,none⟩)] w fun e w'=>e=.returned (.bool (tq N.agents p))∧Ext w w':=by
 refine aS fun e=> ?_
 obtain⟨A0,c0,b0,h0,t0⟩:=aO.pt hN;obtain⟨q,hq⟩:∃q,rC N.agents p=q:=⟨_,rfl⟩;have EV:Hid (tq N.agents p= !oM N.agents p q):=by show _=_;rw[tq,hq]
 have Hq:=Lib.hid hq;clear hq
 go_enter Tryz.func121,Tryz.ntmps121
 go_upto_region 1 with(fail)
 generalize hgg:e.to.heap.size=g;refine gW e hgg (fun w1 e hx1 hgeg hltg cg=> ?_);clear hgg
 replace hN:=hN.ext hx1
 replace h0:=h0.ext hx1
 replace t0:=t0.below hx1
 obtain⟨k0,k1⟩:=aF.OD (x:=p) (gu.box hltg cg aF.yG);clear cg;have C1:Hid (QC Tryz.prog w1 _ _ _):=fun W hW=>JG N nb no _ p W (hN.ext hW) hp
 rw[Hq.out]at C1
 go_upto_region 2 with(first|(go_at_call 95;with_reducible refine(C1.out.at_ _).mono ?_;rintro _ _ ⟨rfl,e,rfl⟩))
 repeat (refine ay _ (by kernel_rfl) (by kernel_rfl) ?_;(repeat (go_big_quiet_step ((first|with_reducible exact C1.out.at_ _))));refine wpQuiet_nil ?_;intro e;go_upto_region 2 with(first|(go_at_call 95;with_reducible refine(C1.out.at_ _).mono ?_;rintro _ _ ⟨rfl,e,rfl⟩)))
 generalize hggq:e.to.heap.size=gq;refine gW e hggq (fun w2 e hx2 hgegq hltgq cgq=> ?_);clear hggq
 replace hN:=hN.ext hx2
 replace h0:=h0.ext hx2
 replace k0:=k0.ext hx2
 replace k1:=k1.ext hx2
 replace t0:=t0.below hx2
 replace C1:Hid (QC Tryz.prog w2 _ _ _):=C1.out.ext hx2
 have hy2:=Ext.trans hx1 hx2;obtain⟨q0,q1⟩:=aF.OD (x:=q) (gu.box hltgq cgq aF.yG);clear cgq;clear C1;have hg:=UZ;have heq:=fun W=>Ni W q p
 have C2:Hid (QC Tryz.prog w2 _ _ _):=fun W hW=>Jc N.agents _ q W (t0.below hW) iL
 cases d1:vF q p
 case true=>
  (try rw[d1]at C2)
  have E:Hid (tq N.agents p=true):=by show _=_;rw[EV.out];simp[oM,d1]
  go_wp2_with (first|(go_at_call 122;with_reducible refine(C2.out.at_ _).mono ?_;rintro _ _ ⟨rfl,e,rfl⟩))
  repeat (refine ay _ (by kernel_rfl) (by kernel_rfl) ?_;(repeat (go_big_quiet_step ((first|with_reducible exact C2.out.at_ _))));refine wpQuiet_nil ?_;intro e;go_wp2_with (first|(go_at_call 122;with_reducible refine(C2.out.at_ _).mono ?_;rintro _ _ ⟨rfl,e,rfl⟩)))
  go_ret;exact⟨by rw[E.out];rfl,aQ.old hy2 e⟩
 (try rw[d1]at C2)
 cases d2:iE N.agents q
 case false=>
  (try rw[d2]at C2)
  have E:Hid (tq N.agents p=true):=by show _=_;rw[EV.out];simp[oM,d2]
  go_wp2_with (first|(go_at_call 122;with_reducible refine(C2.out.at_ _).mono ?_;rintro _ _ ⟨rfl,e,rfl⟩))
  repeat (refine ay _ (by kernel_rfl) (by kernel_rfl) ?_;(repeat (go_big_quiet_step ((first|with_reducible exact C2.out.at_ _))));refine wpQuiet_nil ?_;intro e;go_wp2_with (first|(go_at_call 122;with_reducible refine(C2.out.at_ _).mono ?_;rintro _ _ ⟨rfl,e,rfl⟩)))
  go_ret;exact⟨by rw[E.out];rfl,aQ.old hy2 e⟩
 (try rw[d2]at C2)
 obtain⟨r,hr⟩:∃r,rC N.agents q=r:=⟨_,rfl⟩;have Hr:=Lib.hid hr;clear hr;have C3:Hid (QC Tryz.prog w2 _ _ _):=fun W hW=>JG N nb no _ q W (hN.ext hW) d2
 rw[Hr.out]at C3;have hne:=fun W=>Nj W r p
 have E:Hid (tq N.agents p= !vF r p):=by show _=_;rw[EV.out];simp[oM,Hr.out,d1,d2]
 go_wp2_with (first|(go_at_call 122;with_reducible refine(C2.out.at_ _).mono ?_;rintro _ _ ⟨rfl,e,rfl⟩)|(go_at_call 95;with_reducible refine(C3.out.at_ _).mono ?_;rintro _ _ ⟨rfl,e,rfl⟩))
 repeat (refine ay _ (by kernel_rfl) (by kernel_rfl) ?_;(repeat (go_big_quiet_step ((first|with_reducible exact C2.out.at_ _|with_reducible exact C3.out.at_ _))));refine wpQuiet_nil ?_;intro e;go_wp2_with (first|(go_at_call 122;with_reducible refine(C2.out.at_ _).mono ?_;rintro _ _ ⟨rfl,e,rfl⟩)|(go_at_call 95;with_reducible refine(C3.out.at_ _).mono ?_;rintro _ _ ⟨rfl,e,rfl⟩)))
 go_ret;exact⟨by rw[E.out];rfl,aQ.old hy2 e⟩
theorem Ah(xs:List aF)(n:Nat){A:Option Addr}{c:Nat}{bs:List Nat}(N:aO)(nb no:Nat)(nbs:List Nat)(w:World)(hx:T1 w (.sl n (xs.flatMap aF.enc)) bs (.slice A n c))(Hl:Hid (xs.length=n))(hN:gu w nb no N.enc nbs)(hin:∀(k:Nat) (y:aF),xs[k]? =some y→iE N.agents y=true):Calls Tryz.prog 152 #[.slice A n c,.func (.func 121) #[] #[.pointer (some ⟨nb,no,none⟩)]] w fun e w'=>e=.returned (.int .i64 (idxOf n (fun k=>tq N.agents (jD xs k))))∧Ext w w':=by
 refine aS fun e=> ?_
 have hn:=hx.sU
 go_enter Tryz.func152,Tryz.ntmps152
 go_wp2_with fail
 repeat (refine ay _ (by kernel_rfl) (by kernel_rfl) ?_;(repeat (go_big_quiet_step (fail)));refine wpQuiet_nil ?_;intro e;go_wp2_with fail)
 go_loopw [5,8] (fun _ i w'=>∃k:Nat,k≤n∧i=.int .i64 k∧Hid (dV k (fun k=> !tq N.agents (jD xs k))=true)∧∃e:aQ w,w'=e.to) (fun _ i _=>n-(intOf i).toNat)
 case atStart=>exact⟨0,Nat.zero_le _,rfl,nL _,_,rfl⟩
 case round=>
  obtain⟨k,hk,rfl,hf,e,rfl⟩:=hrel
  by_cases hlt:k<n
  ·skip
   obtain⟨b,off,x,bs',rfl,hxk,hp⟩:=T1.elem aF.bn hx Hl hlt;obtain⟨kx0,kx1⟩:=aF.pt hp;have hpi:=hin k x hxk.out;have EP:Hid (tq N.agents (jD xs k)=tq N.agents x):=by show _=_;rw[um hxk]
   have C1:Hid (QC Tryz.prog w _ _ _):=fun W hW=>IC N nb no nbs x W (hN.ext hW) hpi
   cases d1:tq N.agents x
   case true=>
    (try rw[d1]at C1)
    have E:Hid (idxOf n (fun k=>tq N.agents (jD xs k))=(k:Int)):=by show _=_;exact zi hf hlt (by rw[EP.out];exact d1)
    go_wp2_with (first|(go_at_call 121;with_reducible refine(C1.out.at_ _).mono ?_;rintro _ _ ⟨rfl,e,rfl⟩))
    repeat (refine ay _ (by kernel_rfl) (by kernel_rfl) ?_;(repeat (go_big_quiet_step ((first|with_reducible exact C1.out.at_ _))));refine wpQuiet_nil ?_;intro e;go_wp2_with (first|(go_at_call 121;with_reducible refine(C1.out.at_ _).mono ?_;rintro _ _ ⟨rfl,e,rfl⟩)))
    go_ret;exact⟨by rw[E.out];rfl,_,rfl⟩
   (try rw[d1]at C1)
   have E:Hid ((!tq N.agents (jD xs k))=true):=by show _=_;rw[EP.out,d1];rfl
   go_wp2_with (first|(go_at_call 121;with_reducible refine(C1.out.at_ _).mono ?_;rintro _ _ ⟨rfl,e,rfl⟩))
   repeat (refine ay _ (by kernel_rfl) (by kernel_rfl) ?_;(repeat (go_big_quiet_step ((first|with_reducible exact C1.out.at_ _))));refine wpQuiet_nil ?_;intro e;go_wp2_with (first|(go_at_call 121;with_reducible refine(C1.out.at_ _).mono ?_;rintro _ _ ⟨rfl,e,rfl⟩)))
   exact⟨⟨k+1,by omega,by go_num,gV hf E.out,_,rfl⟩,by simp[intOf];omega⟩
  ·have:n=k:=by omega
   subst this;have E:Hid (idxOf n (fun k=>tq N.agents (jD xs k))= -1):=by show _=_;exact qw hf
   go_wp2_with fail
   repeat (refine ay _ (by kernel_rfl) (by kernel_rfl) ?_;(repeat (go_big_quiet_step (fail)));refine wpQuiet_nil ?_;intro e;go_wp2_with fail)
   go_ret;exact⟨by rw[E.out];rfl,_,rfl⟩
theorem xC(xs:List aF)(n:Nat){A:Option Addr}{c:Nat}{bs:List Nat}(N:aO)(nb no:Nat)(nbs:List Nat)(w:World)(hx:T1 w (.sl n (xs.flatMap aF.enc)) bs (.slice A n c))(Hl:Hid (xs.length=n))(hN:gu w nb no N.enc nbs)(hin:∀(k:Nat) (y:aF),xs[k]? =some y→iE N.agents y=true):Calls Tryz.prog 119 #[.slice A n c,.func (.func 121) #[] #[.pointer (some ⟨nb,no,none⟩)]] w fun e w'=>e=.returned (.bool (ow n (fun k=>tq N.agents (jD xs k))))∧Ext w w':=by
 refine aS fun e=> ?_
 have C1:Hid (QC Tryz.prog w _ _ _):=fun W hW=>Ah xs n N nb no nbs W (hx.below hW) Hl (hN.ext hW) hin
 have hc:=zk n (fun k=>tq N.agents (jD xs k))
 go_enter Tryz.func119,Tryz.ntmps119
 go_wp2_with (first|(go_at_call 152;with_reducible refine(C1.out.at_ _).mono ?_;rintro _ _ ⟨rfl,e,rfl⟩))
 repeat (refine ay _ (by kernel_rfl) (by kernel_rfl) ?_;(repeat (go_big_quiet_step ((first|with_reducible exact C1.out.at_ _))));refine wpQuiet_nil ?_;intro e;go_wp2_with (first|(go_at_call 152;with_reducible refine(C1.out.at_ _).mono ?_;rintro _ _ ⟨rfl,e,rfl⟩)))
 go_ret;exact⟨by rw[←hc];rfl,_,rfl⟩
theorem tK(x:aO){bs us}(w:World)(h:TN w x.enc bs us):Calls Tryz.prog 63 #[.agg us.toArray] w fun e w'=>e=.returned (.bool (iG x))∧Ext w w':=by
 refine aS fun e=> ?_
 obtain⟨P0,p0,q0,rfl,_⟩:=aO.us (x:=x) h
 go_enter Tryz.func63,Tryz.ntmps63
 go_upto_region 1 with(fail)
 generalize hgg:e.to.heap.size=g;refine gW e hgg (fun w1 e hx1 hgeg hltg cg=> ?_);clear hgg
 replace h:=h.below hx1
 have p:=gu.box hltg cg h;clear cg h;obtain⟨A0,c0,b0,h0,t0⟩:=aO.OD p;have C1:Hid (QC Tryz.prog w1 _ _ _):=fun W hW=>Ei x.agents _ W (t0.below hW) iL
 cases d1:fJ x.agents
 case false=>
  (try rw[d1]at C1)
  have E:Hid (iG x=false):=by show _=_;simp[iG,d1]
  go_wp2_with (first|(go_at_call 118;with_reducible refine(C1.out.at_ _).mono ?_;rintro _ _ ⟨rfl,e,rfl⟩))
  repeat (refine ay _ (by kernel_rfl) (by kernel_rfl) ?_;(repeat (go_big_quiet_step ((first|with_reducible exact C1.out.at_ _))));refine wpQuiet_nil ?_;intro e;go_wp2_with (first|(go_at_call 118;with_reducible refine(C1.out.at_ _).mono ?_;rintro _ _ ⟨rfl,e,rfl⟩)))
  go_ret;exact⟨by rw[E.out];rfl,aQ.old hx1 e⟩
 (try rw[d1]at C1)
 have EV:Hid (iG x= !ow (dU x.agents x.agents.length).length (fun k=>tq x.agents (jD (dU x.agents x.agents.length) k))):=KS x d1
 go_wp2_with (first|(go_at_call 118;with_reducible refine(C1.out.at_ _).mono ?_;rintro _ _ ⟨rfl,e,rfl⟩))
 repeat (refine ay _ (by kernel_rfl) (by kernel_rfl) ?_;(repeat (go_big_quiet_step ((first|with_reducible exact C1.out.at_ _))));refine wpQuiet_nil ?_;intro e;go_wp2_with (first|(go_at_call 118;with_reducible refine(C1.out.at_ _).mono ?_;rintro _ _ ⟨rfl,e,rfl⟩)))
 refine(OC x g 0 _ _ (p.ext e.h) d1).mono ?_;rintro _ w2 ⟨hx2,A,c,bs',rfl,ht⟩;have hq:=Ext.trans e.h hx2;clear C1
 replace p:=p.ext hq
 have hy2:=Ext.trans hx1 hq;obtain⟨e,he⟩:∃e:aQ w2,w2=e.to:=⟨⟨w2,Below.refl _ _⟩,rfl⟩;have C2:Hid (QC Tryz.prog w2 _ _ _):=fun W hW=>xC (dU x.agents x.agents.length) _ x g 0 _ W (ht.below hW) iL (p.ext hW) (fun k y hy=>La hy)
 go_wp2_with (first|(go_at_call 119;with_reducible refine(C2.out.at_ _).mono ?_;rintro _ _ ⟨rfl,e,rfl⟩))
 repeat (refine ay _ (by kernel_rfl) (by kernel_rfl) ?_;(repeat (go_big_quiet_step ((first|with_reducible exact C2.out.at_ _))));refine wpQuiet_nil ?_;intro e;go_wp2_with (first|(go_at_call 119;with_reducible refine(C2.out.at_ _).mono ?_;rintro _ _ ⟨rfl,e,rfl⟩)))
 go_ret;refine⟨by rw[EV.out];rfl,?_⟩
 first|exact aQ.old hy2 e|exact aQ.old hy2 ⟨_,Below.refl _ _⟩
theorem Es(x:aB)(b o:Nat)(bs:List Nat)(w:World)(h:gu w b o x.enc bs):Calls Tryz.prog 142 #[.pointer (some ⟨b,o,none⟩)] w fun e w'=>e=.returned (.int .i64 (fieldsOf x))∧Ext w w':=by
 refine aS fun e=> ?_
 obtain⟨A3,c3,b3,A4,c4,b4,h0,h1,h2,h3,h4,t3,t4⟩:=aB.pt h
 go_enter Tryz.func142,Tryz.ntmps142
 have hn4:=t4.sU;cases d1:(x.kind==9)
 case false=>
  have E:Hid (fieldsOf x=0):=by show _=_;simp at d1;simp[fieldsOf,eZ,d1]
  go_wp2_with fail
  repeat (refine ay _ (by kernel_rfl) (by kernel_rfl) ?_;(repeat (go_big_quiet_step (fail)));refine wpQuiet_nil ?_;intro e;go_wp2_with fail)
  go_ret;exact⟨by rw[E.out];rfl,_,rfl⟩
 have E:Hid (fieldsOf x=(x.aH.length:Int)-1):=by show _=_;simp at d1;simp[fieldsOf,eZ,d1]
 go_wp2_with fail
 repeat (refine ay _ (by kernel_rfl) (by kernel_rfl) ?_;(repeat (go_big_quiet_step (fail)));refine wpQuiet_nil ?_;intro e;go_wp2_with fail)
 go_ret;exact⟨by rw[E.out];rfl,_,rfl⟩
theorem Bw(k f:Int)(w:World):Calls Tryz.prog 162 #[.int .i64 k,.int .i64 f] w fun e w'=>e=.returned (.int .i64 (cZ k f))∧Ext w w':=by
 refine aS fun e=> ?_
 have C1:Hid (QC Tryz.prog w _ _ _):=fun W hW=>(nE f 0 3 W).q
 cases d1:dS f 0 3
 case true=>
  have hf:=jS d1
  go_enter Tryz.func162,Tryz.ntmps162
  go_wp2_with (first|(go_at_call 55;with_reducible refine(C1.out.at_ _).mono ?_;rintro _ _ ⟨rfl,e,rfl⟩))
  repeat (refine ay _ (by kernel_rfl) (by kernel_rfl) ?_;(repeat (go_big_quiet_step ((first|with_reducible exact C1.out.at_ _))));refine wpQuiet_nil ?_;intro e;go_wp2_with (first|(go_at_call 55;with_reducible refine(C1.out.at_ _).mono ?_;rintro _ _ ⟨rfl,e,rfl⟩)))
  all_goals go_ret
  all_goals refine⟨?_,_,rfl⟩
  all_goals first|(simp[cZ, *];done)|(simp[cZ, *];omega)|(simp_all [cZ];done)|(simp_all [cZ];omega)
 go_enter Tryz.func162,Tryz.ntmps162
 go_wp2_with (first|(go_at_call 55;with_reducible refine(C1.out.at_ _).mono ?_;rintro _ _ ⟨rfl,e,rfl⟩))
 repeat (refine ay _ (by kernel_rfl) (by kernel_rfl) ?_;(repeat (go_big_quiet_step ((first|with_reducible exact C1.out.at_ _))));refine wpQuiet_nil ?_;intro e;go_wp2_with (first|(go_at_call 55;with_reducible refine(C1.out.at_ _).mono ?_;rintro _ _ ⟨rfl,e,rfl⟩)))
 all_goals go_ret
 all_goals refine⟨?_,_,rfl⟩
 all_goals first|(simp[cZ, *];done)|(simp[cZ, *];omega)|(simp_all [cZ];done)|(simp_all [cZ];omega)
theorem GY(x:aB)(b o:Nat)(bs:List Nat)(w:World)(h:gu w b o x.enc bs):Calls Tryz.prog 139 #[.pointer (some ⟨b,o,none⟩)] w fun e w'=>e=.returned (.bool (dO x))∧Ext w w':=by
 refine aS fun e=> ?_
 obtain⟨A3,c3,b3,A4,c4,b4,h0,h1,h2,h3,h4,t3,t4⟩:=aB.pt h;have hn4:=t4.sU;have C1:Hid (QC Tryz.prog w _ _ _):=fun W hW=>Es x b o _ W (h.ext hW)
 have C2:Hid (QC Tryz.prog w _ _ _):=fun W hW=>CO x b o _ W (h.ext hW)
 have C3:Hid (QC Tryz.prog w _ _ _):=fun W hW=>Bw x.kind (fieldsOf x) W
 have C4:Hid (QC Tryz.prog w _ _ _):=fun W hW=>(GX x.kind x.level W).q
 go_enter Tryz.func139,Tryz.ntmps139
 cases d1:decide (0<cZ x.kind (fieldsOf x))
 case false=>
  (try rw[d1]at C1);(try rw[d1]at C2);(try rw[d1]at C3);(try rw[d1]at C4)
  have E:Hid (dO x=false):=by show _=_;first|(simp only[dO,d1];done)|(simp only[dO,d1];rfl)|(simp[dO,d1];done)|((try simp at d1);simp[dO,d1];done)
  go_wp2_with (first|(go_at_call 142;with_reducible refine(C1.out.at_ _).mono ?_;rintro _ _ ⟨rfl,e,rfl⟩)|(go_at_call 164;with_reducible refine(C2.out.at_ _).mono ?_;rintro _ _ ⟨rfl,e,rfl⟩)|(go_at_call 162;with_reducible refine(C3.out.at_ _).mono ?_;rintro _ _ ⟨rfl,e,rfl⟩)|(go_at_call 163;with_reducible refine(C4.out.at_ _).mono ?_;rintro _ _ ⟨rfl,e,rfl⟩))
  repeat (refine ay _ (by kernel_rfl) (by kernel_rfl) ?_;(repeat (go_big_quiet_step ((first|with_reducible exact C1.out.at_ _|with_reducible exact C2.out.at_ _|with_reducible exact C3.out.at_ _|with_reducible exact C4.out.at_ _))));refine wpQuiet_nil ?_;intro e;go_wp2_with (first|(go_at_call 142;with_reducible refine(C1.out.at_ _).mono ?_;rintro _ _ ⟨rfl,e,rfl⟩)|(go_at_call 164;with_reducible refine(C2.out.at_ _).mono ?_;rintro _ _ ⟨rfl,e,rfl⟩)|(go_at_call 162;with_reducible refine(C3.out.at_ _).mono ?_;rintro _ _ ⟨rfl,e,rfl⟩)|(go_at_call 163;with_reducible refine(C4.out.at_ _).mono ?_;rintro _ _ ⟨rfl,e,rfl⟩)))
  go_ret;exact⟨by rw[E.out];rfl,_,rfl⟩
 (try rw[d1]at C1);(try rw[d1]at C2);(try rw[d1]at C3);(try rw[d1]at C4)
 cases d2:((x.aH.length:Int)==cZ x.kind (fieldsOf x))
 case false=>
  (try rw[d2]at C1);(try rw[d2]at C2);(try rw[d2]at C3);(try rw[d2]at C4)
  have E:Hid (dO x=false):=by show _=_;first|(simp only[dO,d1,d2];done)|(simp only[dO,d1,d2];rfl)|(simp[dO,d1,d2];done)|((try simp at d1);(try simp at d2);simp[dO,d1,d2];done)
  go_wp2_with (first|(go_at_call 142;with_reducible refine(C1.out.at_ _).mono ?_;rintro _ _ ⟨rfl,e,rfl⟩)|(go_at_call 164;with_reducible refine(C2.out.at_ _).mono ?_;rintro _ _ ⟨rfl,e,rfl⟩)|(go_at_call 162;with_reducible refine(C3.out.at_ _).mono ?_;rintro _ _ ⟨rfl,e,rfl⟩)|(go_at_call 163;with_reducible refine(C4.out.at_ _).mono ?_;rintro _ _ ⟨rfl,e,rfl⟩))
  repeat (refine ay _ (by kernel_rfl) (by kernel_rfl) ?_;(repeat (go_big_quiet_step ((first|with_reducible exact C1.out.at_ _|with_reducible exact C2.out.at_ _|with_reducible exact C3.out.at_ _|with_reducible exact C4.out.at_ _))));refine wpQuiet_nil ?_;intro e;go_wp2_with (first|(go_at_call 142;with_reducible refine(C1.out.at_ _).mono ?_;rintro _ _ ⟨rfl,e,rfl⟩)|(go_at_call 164;with_reducible refine(C2.out.at_ _).mono ?_;rintro _ _ ⟨rfl,e,rfl⟩)|(go_at_call 162;with_reducible refine(C3.out.at_ _).mono ?_;rintro _ _ ⟨rfl,e,rfl⟩)|(go_at_call 163;with_reducible refine(C4.out.at_ _).mono ?_;rintro _ _ ⟨rfl,e,rfl⟩)))
  go_ret;exact⟨by rw[E.out];rfl,_,rfl⟩
 (try rw[d2]at C1);(try rw[d2]at C2);(try rw[d2]at C3);(try rw[d2]at C4)
 cases d3:cB x.kind x.level
 case false=>
  (try rw[d3]at C1);(try rw[d3]at C2);(try rw[d3]at C3);(try rw[d3]at C4)
  have E:Hid (dO x=false):=by show _=_;first|(simp only[dO,d1,d2,d3];done)|(simp only[dO,d1,d2,d3];rfl)|(simp[dO,d1,d2,d3];done)|((try simp at d1);(try simp at d2);(try simp at d3);simp[dO,d1,d2,d3];done)
  go_wp2_with (first|(go_at_call 142;with_reducible refine(C1.out.at_ _).mono ?_;rintro _ _ ⟨rfl,e,rfl⟩)|(go_at_call 164;with_reducible refine(C2.out.at_ _).mono ?_;rintro _ _ ⟨rfl,e,rfl⟩)|(go_at_call 162;with_reducible refine(C3.out.at_ _).mono ?_;rintro _ _ ⟨rfl,e,rfl⟩)|(go_at_call 163;with_reducible refine(C4.out.at_ _).mono ?_;rintro _ _ ⟨rfl,e,rfl⟩))
  repeat (refine ay _ (by kernel_rfl) (by kernel_rfl) ?_;(repeat (go_big_quiet_step ((first|with_reducible exact C1.out.at_ _|with_reducible exact C2.out.at_ _|with_reducible exact C3.out.at_ _|with_reducible exact C4.out.at_ _))));refine wpQuiet_nil ?_;intro e;go_wp2_with (first|(go_at_call 142;with_reducible refine(C1.out.at_ _).mono ?_;rintro _ _ ⟨rfl,e,rfl⟩)|(go_at_call 164;with_reducible refine(C2.out.at_ _).mono ?_;rintro _ _ ⟨rfl,e,rfl⟩)|(go_at_call 162;with_reducible refine(C3.out.at_ _).mono ?_;rintro _ _ ⟨rfl,e,rfl⟩)|(go_at_call 163;with_reducible refine(C4.out.at_ _).mono ?_;rintro _ _ ⟨rfl,e,rfl⟩)))
  go_ret;exact⟨by rw[E.out];rfl,_,rfl⟩
 (try rw[d3]at C1);(try rw[d3]at C2);(try rw[d3]at C3);(try rw[d3]at C4)
 have E:Hid (dO x=gI x):=by show _=_;first|(simp only[dO,d1,d2,d3];done)|(simp only[dO,d1,d2,d3];rfl)|(simp[dO,d1,d2,d3];done)|((try simp at d1);(try simp at d2);(try simp at d3);simp[dO,d1,d2,d3];done)
 go_wp2_with (first|(go_at_call 142;with_reducible refine(C1.out.at_ _).mono ?_;rintro _ _ ⟨rfl,e,rfl⟩)|(go_at_call 164;with_reducible refine(C2.out.at_ _).mono ?_;rintro _ _ ⟨rfl,e,rfl⟩)|(go_at_call 162;with_reducible refine(C3.out.at_ _).mono ?_;rintro _ _ ⟨rfl,e,rfl⟩)|(go_at_call 163;with_reducible refine(C4.out.at_ _).mono ?_;rintro _ _ ⟨rfl,e,rfl⟩))
 repeat (refine ay _ (by kernel_rfl) (by kernel_rfl) ?_;(repeat (go_big_quiet_step ((first|with_reducible exact C1.out.at_ _|with_reducible exact C2.out.at_ _|with_reducible exact C3.out.at_ _|with_reducible exact C4.out.at_ _))));refine wpQuiet_nil ?_;intro e;go_wp2_with (first|(go_at_call 142;with_reducible refine(C1.out.at_ _).mono ?_;rintro _ _ ⟨rfl,e,rfl⟩)|(go_at_call 164;with_reducible refine(C2.out.at_ _).mono ?_;rintro _ _ ⟨rfl,e,rfl⟩)|(go_at_call 162;with_reducible refine(C3.out.at_ _).mono ?_;rintro _ _ ⟨rfl,e,rfl⟩)|(go_at_call 163;with_reducible refine(C4.out.at_ _).mono ?_;rintro _ _ ⟨rfl,e,rfl⟩)))
 go_ret;exact⟨by rw[E.out];rfl,_,rfl⟩
theorem Er(xs:List aB)(n:Nat){A:Option Addr}{c:Nat}{bs:List Nat}(w:World)(hx:T1 w (.sl n (xs.flatMap aB.enc)) bs (.slice A n c))(Hl:Hid (xs.length=n)):Calls Tryz.prog 100 #[.slice A n c] w fun e w'=>e=.returned (.bool (fJ xs))∧Ext w w':=by
 refine aS fun e=> ?_
 have hn:=hx.sU;have EV:Hid (fJ xs=(dS n 1 600&&dV n (gZ xs))):=by show _=_;rw[←Hl.out];rfl
 have C1:Hid (QC Tryz.prog w _ _ _):=fun W hW=>(nE n 1 600 W).q
 go_enter Tryz.func100,Tryz.ntmps100
 cases d1:dS n 1 600
 case false=>
  (try rw[d1]at C1)
  have E:Hid (fJ xs=false):=by show _=_;rw[EV.out,d1];rfl
  go_wp2_with (first|(go_at_call 55;with_reducible refine(C1.out.at_ _).mono ?_;rintro _ _ ⟨rfl,e,rfl⟩))
  repeat (refine ay _ (by kernel_rfl) (by kernel_rfl) ?_;(repeat (go_big_quiet_step ((first|with_reducible exact C1.out.at_ _))));refine wpQuiet_nil ?_;intro e;go_wp2_with (first|(go_at_call 55;with_reducible refine(C1.out.at_ _).mono ?_;rintro _ _ ⟨rfl,e,rfl⟩)))
  go_ret;exact⟨by rw[E.out];rfl,_,rfl⟩
 (try rw[d1]at C1)
 go_wp2_with (first|(go_at_call 55;with_reducible refine(C1.out.at_ _).mono ?_;rintro _ _ ⟨rfl,e,rfl⟩))
 repeat (refine ay _ (by kernel_rfl) (by kernel_rfl) ?_;(repeat (go_big_quiet_step ((first|with_reducible exact C1.out.at_ _))));refine wpQuiet_nil ?_;intro e;go_wp2_with (first|(go_at_call 55;with_reducible refine(C1.out.at_ _).mono ?_;rintro _ _ ⟨rfl,e,rfl⟩)))
 go_loopw [3] (fun i w'=>∃k:Nat,k≤n∧i=.int .i64 k∧Hid (dV k (gZ xs)=true)∧∃e:aQ w,w'=e.to) (fun i _=>n-(intOf i).toNat)
 case atStart=>exact⟨0,Nat.zero_le _,rfl,nL _,_,rfl⟩
 case round=>
  obtain⟨k,hk,rfl,hfk,e,rfl⟩:=hrel
  by_cases hltk:k<n
  ·skip
   obtain⟨b,off,x,bs',rfl,hxk,hp⟩:=T1.elem aB.bn hx Hl hltk;obtain⟨A3,c3,b3,A4,c4,b4,h0,h1,h2,h3,h4,t3,t4⟩:=aB.pt hp;clear h1 h2 h3 h4 t3 t4;have C2:Hid (QC Tryz.prog w _ _ _):=fun W hW=>GY x b (off+k*5) _ W (hp.ext hW)
   have EK:Hid (gZ xs k=(dO x&&((x.kind==1)==((k:Int)==0)))):=by show _=_;rw[gZ,jZ hxk]
   cases d2:dO x
   case false=>
    (try rw[d2]at C1);(try rw[d2]at C2)
    have E:Hid (fJ xs=false):=by show _=_;rw[EV.out,iW hltk (by rw[EK.out,d2];rfl)];simp
    go_wp2_with (first|(go_at_call 55;with_reducible refine(C1.out.at_ _).mono ?_;rintro _ _ ⟨rfl,e,rfl⟩)|(go_at_call 139;with_reducible refine(C2.out.at_ _).mono ?_;rintro _ _ ⟨rfl,e,rfl⟩))
    repeat (refine ay _ (by kernel_rfl) (by kernel_rfl) ?_;(repeat (go_big_quiet_step ((first|with_reducible exact C1.out.at_ _|with_reducible exact C2.out.at_ _))));refine wpQuiet_nil ?_;intro e;go_wp2_with (first|(go_at_call 55;with_reducible refine(C1.out.at_ _).mono ?_;rintro _ _ ⟨rfl,e,rfl⟩)|(go_at_call 139;with_reducible refine(C2.out.at_ _).mono ?_;rintro _ _ ⟨rfl,e,rfl⟩)))
    go_ret;exact⟨by rw[E.out];rfl,_,rfl⟩
   (try rw[d2]at C1);(try rw[d2]at C2)
   cases d3:(x.kind==1)
   case false=>
    (try rw[d3]at C1);(try rw[d3]at C2)
    cases d4:((k:Int)==0)
    case true=>
     (try rw[d4]at C1);(try rw[d4]at C2)
     have E:Hid (fJ xs=false):=by show _=_;rw[EV.out,iW hltk (by rw[EK.out,d2,d3,d4];rfl)];simp
     go_wp2_with (first|(go_at_call 55;with_reducible refine(C1.out.at_ _).mono ?_;rintro _ _ ⟨rfl,e,rfl⟩)|(go_at_call 139;with_reducible refine(C2.out.at_ _).mono ?_;rintro _ _ ⟨rfl,e,rfl⟩))
     repeat (refine ay _ (by kernel_rfl) (by kernel_rfl) ?_;(repeat (go_big_quiet_step ((first|with_reducible exact C1.out.at_ _|with_reducible exact C2.out.at_ _))));refine wpQuiet_nil ?_;intro e;go_wp2_with (first|(go_at_call 55;with_reducible refine(C1.out.at_ _).mono ?_;rintro _ _ ⟨rfl,e,rfl⟩)|(go_at_call 139;with_reducible refine(C2.out.at_ _).mono ?_;rintro _ _ ⟨rfl,e,rfl⟩)))
     go_ret;exact⟨by rw[E.out];rfl,_,rfl⟩
    (try rw[d4]at C1);(try rw[d4]at C2)
    have E:Hid (gZ xs k=true):=by show _=_;rw[EK.out,d2,d3,d4];rfl
    go_wp2_with (first|(go_at_call 55;with_reducible refine(C1.out.at_ _).mono ?_;rintro _ _ ⟨rfl,e,rfl⟩)|(go_at_call 139;with_reducible refine(C2.out.at_ _).mono ?_;rintro _ _ ⟨rfl,e,rfl⟩))
    repeat (refine ay _ (by kernel_rfl) (by kernel_rfl) ?_;(repeat (go_big_quiet_step ((first|with_reducible exact C1.out.at_ _|with_reducible exact C2.out.at_ _))));refine wpQuiet_nil ?_;intro e;go_wp2_with (first|(go_at_call 55;with_reducible refine(C1.out.at_ _).mono ?_;rintro _ _ ⟨rfl,e,rfl⟩)|(go_at_call 139;with_reducible refine(C2.out.at_ _).mono ?_;rintro _ _ ⟨rfl,e,rfl⟩)))
    exact⟨⟨k+1,by omega,by go_num,gV hfk E.out,_,rfl⟩,by simp[intOf];omega⟩
   (try rw[d3]at C1);(try rw[d3]at C2)
   cases d5:((k:Int)==0)
   case false=>
    (try rw[d5]at C1);(try rw[d5]at C2)
    have E:Hid (fJ xs=false):=by show _=_;rw[EV.out,iW hltk (by rw[EK.out,d2,d3,d5];rfl)];simp
    go_wp2_with (first|(go_at_call 55;with_reducible refine(C1.out.at_ _).mono ?_;rintro _ _ ⟨rfl,e,rfl⟩)|(go_at_call 139;with_reducible refine(C2.out.at_ _).mono ?_;rintro _ _ ⟨rfl,e,rfl⟩))
    repeat (refine ay _ (by kernel_rfl) (by kernel_rfl) ?_;(repeat (go_big_quiet_step ((first|with_reducible exact C1.out.at_ _|with_reducible exact C2.out.at_ _))));refine wpQuiet_nil ?_;intro e;go_wp2_with (first|(go_at_call 55;with_reducible refine(C1.out.at_ _).mono ?_;rintro _ _ ⟨rfl,e,rfl⟩)|(go_at_call 139;with_reducible refine(C2.out.at_ _).mono ?_;rintro _ _ ⟨rfl,e,rfl⟩)))
    go_ret;exact⟨by rw[E.out];rfl,_,rfl⟩
   (try rw[d5]at C1);(try rw[d5]at C2)
   have E:Hid (gZ xs k=true):=by show _=_;rw[EK.out,d2,d3,d5];rfl
   go_wp2_with (first|(go_at_call 55;with_reducible refine(C1.out.at_ _).mono ?_;rintro _ _ ⟨rfl,e,rfl⟩)|(go_at_call 139;with_reducible refine(C2.out.at_ _).mono ?_;rintro _ _ ⟨rfl,e,rfl⟩))
   repeat (refine ay _ (by kernel_rfl) (by kernel_rfl) ?_;(repeat (go_big_quiet_step ((first|with_reducible exact C1.out.at_ _|with_reducible exact C2.out.at_ _))));refine wpQuiet_nil ?_;intro e;go_wp2_with (first|(go_at_call 55;with_reducible refine(C1.out.at_ _).mono ?_;rintro _ _ ⟨rfl,e,rfl⟩)|(go_at_call 139;with_reducible refine(C2.out.at_ _).mono ?_;rintro _ _ ⟨rfl,e,rfl⟩)))
   exact⟨⟨k+1,by omega,by go_num,gV hfk E.out,_,rfl⟩,by simp[intOf];omega⟩
  ·have:n=k:=by omega
   subst this;have E:Hid (fJ xs=true):=by show _=_;rw[EV.out,d1,hfk.out];rfl
   go_wp2_with (first|(go_at_call 55;with_reducible refine(C1.out.at_ _).mono ?_;rintro _ _ ⟨rfl,e,rfl⟩))
   repeat (refine ay _ (by kernel_rfl) (by kernel_rfl) ?_;(repeat (go_big_quiet_step ((first|with_reducible exact C1.out.at_ _))));refine wpQuiet_nil ?_;intro e;go_wp2_with (first|(go_at_call 55;with_reducible refine(C1.out.at_ _).mono ?_;rintro _ _ ⟨rfl,e,rfl⟩)))
   go_ret;exact⟨by rw[E.out];rfl,_,rfl⟩
theorem Jj(xs:List aB)(n:Nat){A:Option Addr}{c:Nat}{bs:List Nat}(p:aF)(w:World)(hx:T1 w (.sl n (xs.flatMap aB.enc)) bs (.slice A n c))(Hl:Hid (xs.length=n)):Calls Tryz.prog 101 #[.slice A n c,.agg #[.int .i64 p.agent,.int .i64 p.slot]] w fun e w'=>e=.returned (.bool (iE xs p))∧Ext w w':=by
 refine aS fun e=> ?_
 have hn:=hx.sU;have EV:Hid (iE xs p=(dS p.agent 0 ((n:Int)-1)&&dS p.slot 0 (((gY xs p.agent.toNat).aH.length:Int)-1))):=by show _=_;rw[←Hl.out];rfl
 go_enter Tryz.func101,Tryz.ntmps101
 go_upto_region 1 with(fail)
 generalize hgg:e.to.heap.size=g;refine gW e hgg (fun w1 e hx1 hgeg hltg cg=> ?_);clear hgg
 replace hx:=hx.below hx1
 obtain⟨k0,k1⟩:=aF.OD (gu.box hltg cg aF.yG);have C1:Hid (QC Tryz.prog w1 _ _ _):=fun W hW=>(nE p.agent 0 ((n:Int)-1) W).q
 cases d1:dS p.agent 0 ((n:Int)-1)
 case false=>
  (try rw[d1]at C1)
  have hw0:IntKind.i64.wrap ((n:Int)-1)=(n:Int)-1:=qO _ (by omega);have E:Hid (iE xs p=false):=by show _=_;rw[EV.out,d1];rfl
  go_wp2_with (first|(go_at_call 55;with_reducible refine(C1.out.at_ _).mono ?_;rintro _ _ ⟨rfl,e,rfl⟩))
  repeat (refine ay _ (by kernel_rfl) (by kernel_rfl) ?_;(repeat (go_big_quiet_step ((first|with_reducible exact C1.out.at_ _))));refine wpQuiet_nil ?_;intro e;go_wp2_with (first|(go_at_call 55;with_reducible refine(C1.out.at_ _).mono ?_;rintro _ _ ⟨rfl,e,rfl⟩)))
  go_ret;exact⟨by rw[E.out];rfl,aQ.old hx1 e⟩
 (try rw[d1]at C1)
 have hr:=jS d1;obtain⟨i,hi⟩:=Int.eq_ofNat_of_zero_le hr.1;have hlt:i<n:=by omega
 obtain⟨b,off,x,bs',rfl,hxk,hp⟩:=T1.elem aB.bn hx Hl hlt;obtain⟨A3,c3,b3,A4,c4,b4,h0,h1,h2,h3,h4,t3,t4⟩:=aB.pt hp;have hn4:=t4.sU;clear h0 h1 h2 h3 t3;have EA:Hid (gY xs p.agent.toNat=x):=by show _=_;rw[hi,qK];exact jZ hxk
 rw[hi]at k0 d1 C1;have Hi:=Lib.hid hi;clear hi;have C2:Hid (QC Tryz.prog w1 _ _ _):=fun W hW=>(nE p.slot 0 ((x.aH.length:Int)-1) W).q
 have hw0:IntKind.i64.wrap ((n:Int)-1)=(n:Int)-1:=qO _ (by omega);have hw1:IntKind.i64.wrap ((x.aH.length:Int)-1)=(x.aH.length:Int)-1:=qO _ (by omega);have E:Hid (iE xs p=dS p.slot 0 ((x.aH.length:Int)-1)):=by show _=_;rw[EV.out,EA.out,Hi.out,d1];rfl
 go_wp2_with (first|(go_at_call 55;with_reducible refine(C1.out.at_ _).mono ?_;rintro _ _ ⟨rfl,e,rfl⟩)|(go_at_call 55;with_reducible refine(C2.out.at_ _).mono ?_;rintro _ _ ⟨rfl,e,rfl⟩))
 repeat (refine ay _ (by kernel_rfl) (by kernel_rfl) ?_;(repeat (go_big_quiet_step ((first|with_reducible exact C1.out.at_ _|with_reducible exact C2.out.at_ _))));refine wpQuiet_nil ?_;intro e;go_wp2_with (first|(go_at_call 55;with_reducible refine(C1.out.at_ _).mono ?_;rintro _ _ ⟨rfl,e,rfl⟩)|(go_at_call 55;with_reducible refine(C2.out.at_ _).mono ?_;rintro _ _ ⟨rfl,e,rfl⟩)))
 go_ret;exact⟨by rw[E.out];rfl,aQ.old hx1 e⟩
theorem Fp(x:aO)(b o:Nat)(bs:List Nat)(w:World)(h:gu w b o x.enc bs):Calls Tryz.prog 53 #[.pointer (some ⟨b,o,none⟩)] w fun e w'=>e=.returned (.bool (iG x))∧Ext w w':=by
 refine aS fun e=> ?_
 obtain⟨A0,c0,b0,h0,t0⟩:=aO.pt h;have hn0:=t0.sU;have EV:Hid (iG x=(fJ x.agents&&dV x.agents.length (pI x.agents))):=rfl;have C1:Hid (QC Tryz.prog w _ _ _):=fun W hW=>Er x.agents _ W (t0.below hW) iL
 go_enter Tryz.func53,Tryz.ntmps53
 cases d1:fJ x.agents
 case false=>
  (try rw[d1]at C1)
  have E:Hid (iG x=false):=by show _=_;rw[EV.out,d1];rfl
  go_wp2_with (first|(go_at_call 100;with_reducible refine(C1.out.at_ _).mono ?_;rintro _ _ ⟨rfl,e,rfl⟩))
  repeat (refine ay _ (by kernel_rfl) (by kernel_rfl) ?_;(repeat (go_big_quiet_step ((first|with_reducible exact C1.out.at_ _))));refine wpQuiet_nil ?_;intro e;go_wp2_with (first|(go_at_call 100;with_reducible refine(C1.out.at_ _).mono ?_;rintro _ _ ⟨rfl,e,rfl⟩)))
  go_ret;exact⟨by rw[E.out];rfl,_,rfl⟩
 (try rw[d1]at C1)
 go_wp2_with (first|(go_at_call 100;with_reducible refine(C1.out.at_ _).mono ?_;rintro _ _ ⟨rfl,e,rfl⟩))
 repeat (refine ay _ (by kernel_rfl) (by kernel_rfl) ?_;(repeat (go_big_quiet_step ((first|with_reducible exact C1.out.at_ _))));refine wpQuiet_nil ?_;intro e;go_wp2_with (first|(go_at_call 100;with_reducible refine(C1.out.at_ _).mono ?_;rintro _ _ ⟨rfl,e,rfl⟩)))
 go_loopw [3] (fun i w'=>∃k:Nat,k≤x.agents.length∧i=.int .i64 k∧Hid (dV k (pI x.agents)=true)∧∃e:aQ w,w'=e.to) (fun i _=>x.agents.length-(intOf i).toNat)
 case atStart=>exact⟨0,Nat.zero_le _,rfl,nL _,_,rfl⟩
 case round=>
  obtain⟨k,hk,rfl,hfk,e,rfl⟩:=hrel
  by_cases hltk:k<x.agents.length
  ·skip
   obtain⟨b',off,y,bs',rfl,hyk,hp⟩:=T1.elem aB.bn t0 iL hltk;obtain⟨A3,c3,b3,A4,c4,b4,g0,g1,g2,g3,g4,t3,t4⟩:=aB.pt hp;have hn4:=t4.sU;clear g0 g1 g2 g3 t3;have EK:Hid (pI x.agents k=dV y.aH.length fun j=>oM x.agents ⟨k,j⟩ (jD y.aH j)):=by show _=_;rw[pI,jZ hyk]
   go_wp2_with fail
   repeat (refine ay _ (by kernel_rfl) (by kernel_rfl) ?_;(repeat (go_big_quiet_step (fail)));refine wpQuiet_nil ?_;intro e;go_wp2_with fail)
   go_loopw [5] (fun i w'=>∃j:Nat,j≤y.aH.length∧i=.int .i64 j∧Hid (dV j (fun j=>oM x.agents ⟨k,j⟩ (jD y.aH j))=true)∧∃e:aQ w,w'=e.to) (fun i _=>y.aH.length-(intOf i).toNat)
   case atStart=>exact⟨0,Nat.zero_le _,rfl,nL _,_,rfl⟩
   case round=>
    obtain⟨j,hj,rfl,hfj,e,rfl⟩:=hrel
    by_cases hltj:j<y.aH.length
    ·skip
     obtain⟨bq,oq,q,bs2,rfl,hqj,hq⟩:=T1.elem aF.bn t4 iL hltj;obtain⟨q0,q1⟩:=aF.pt hq;have EJ:Hid (oM x.agents ⟨k,j⟩ (jD y.aH j)=oM x.agents ⟨k,j⟩ q):=by show _=_;rw[um hqj]
     go_upto_region 11 with(fail)
     generalize hgga:e.to.heap.size=ga;refine gW e hgga (fun w1 e hx1 hgega hltga cga=> ?_);clear hgga
     replace h0:=h0.ext hx1
     replace g4:=g4.ext hx1
     replace q0:=q0.ext hx1
     replace q1:=q1.ext hx1
     replace t0:=t0.below hx1
     replace t4:=t4.below hx1
     obtain⟨k0,k1⟩:=aF.OD (x:=⟨k,j⟩) (gu.box hltga cga aF.yG);simp only[]at k0 k1;clear cga
     go_upto_region 12 with(fail)
     generalize hggb:e.to.heap.size=gb;refine gW e hggb (fun w2 e hx2 hgegb hltgb cgb=> ?_);clear hggb
     replace h0:=h0.ext hx2
     replace g4:=g4.ext hx2
     replace k0:=k0.ext hx2
     replace k1:=k1.ext hx2
     replace t0:=t0.below hx2
     replace t4:=t4.below hx2
     have hy2:=Ext.trans hx1 hx2;obtain⟨p0,p1⟩:=aF.OD (x:=q) (gu.box hltgb cgb aF.yG);clear cgb q0 q1;have hg:=UZ;have heq:=fun W=>Ni W q ⟨k,j⟩
     dsimp only at heq;have C2:Hid (QC Tryz.prog w2 _ _ _):=fun W hW=>Jj x.agents _ q W (t0.below hW) iL
     cases d2:vF q ⟨k,j⟩
     case true=>
      (try rw[d2]at C2)
      have E:Hid (iG x=false):=by show _=_;rw[EV.out,iW hltk (by rw[EK.out];exact iW hltj (by rw[EJ.out];simp[oM,d2]))];simp
      go_wp2_with (first|(go_at_call 101;with_reducible refine(C2.out.at_ _).mono ?_;rintro _ _ ⟨rfl,e,rfl⟩))
      repeat (refine ay _ (by kernel_rfl) (by kernel_rfl) ?_;(repeat (go_big_quiet_step ((first|with_reducible exact C2.out.at_ _))));refine wpQuiet_nil ?_;intro e;go_wp2_with (first|(go_at_call 101;with_reducible refine(C2.out.at_ _).mono ?_;rintro _ _ ⟨rfl,e,rfl⟩)))
      go_ret;exact⟨by rw[E.out];rfl,aQ.old hy2 e⟩
     (try rw[d2]at C2)
     cases d3:iE x.agents q
     case false=>
      (try rw[d3]at C2)
      have E:Hid (iG x=false):=by show _=_;rw[EV.out,iW hltk (by rw[EK.out];exact iW hltj (by rw[EJ.out];simp[oM,d2,d3]))];simp
      go_wp2_with (first|(go_at_call 101;with_reducible refine(C2.out.at_ _).mono ?_;rintro _ _ ⟨rfl,e,rfl⟩))
      repeat (refine ay _ (by kernel_rfl) (by kernel_rfl) ?_;(repeat (go_big_quiet_step ((first|with_reducible exact C2.out.at_ _))));refine wpQuiet_nil ?_;intro e;go_wp2_with (first|(go_at_call 101;with_reducible refine(C2.out.at_ _).mono ?_;rintro _ _ ⟨rfl,e,rfl⟩)))
      go_ret;exact⟨by rw[E.out];rfl,aQ.old hy2 e⟩
     (try rw[d3]at C2)
     obtain⟨i,s,a,r,rfl,hi,ha,hs,hr,hpeer⟩:=JI d3;have Hpeer:=Lib.hid hpeer;clear hpeer;obtain⟨bz,oz,z,bs3,hA0,hzi,hz⟩:=T1.elem aB.bn t0 iL hi;obtain⟨_,rfl⟩:True∧z=a:=⟨trivial,Option.some.inj (hzi.out.symm.trans ha.out)⟩;obtain⟨rfl,rfl⟩:b'=bz∧off=oz:=by simpa using hA0
     clear hA0;obtain⟨A3,c3,b3,A5,c5,b5,u0,u1,u2,u3,u4,t3,t5⟩:=aB.pt hz;have hn5:=t5.sU;clear u0 u1 u2 u3 t3;obtain⟨bt,ot,r',bs4,rfl,hrs,hrr⟩:=T1.elem aF.bn t5 iL hs;obtain⟨_,rfl⟩:True∧r'=r:=⟨trivial,Option.some.inj (hrs.out.symm.trans hr.out)⟩;obtain⟨r0,r1⟩:=aF.pt hrr;have hne:=fun W=>Nj W r' ⟨k,j⟩
     dsimp only at hne;cases d4:vF r' ⟨k,j⟩
     case false=>
      (try rw[d4]at C2)
      have E:Hid (iG x=false):=by show _=_;rw[EV.out,iW hltk (by rw[EK.out];exact iW hltj (by rw[EJ.out];simp[oM,Hpeer.out,d2,d3,d4]))];simp
      go_wp2_with (first|(go_at_call 101;with_reducible refine(C2.out.at_ _).mono ?_;rintro _ _ ⟨rfl,e,rfl⟩))
      repeat (refine ay _ (by kernel_rfl) (by kernel_rfl) ?_;(repeat (go_big_quiet_step ((first|with_reducible exact C2.out.at_ _))));refine wpQuiet_nil ?_;intro e;go_wp2_with (first|(go_at_call 101;with_reducible refine(C2.out.at_ _).mono ?_;rintro _ _ ⟨rfl,e,rfl⟩)))
      go_ret;exact⟨by rw[E.out];rfl,aQ.old hy2 e⟩
     (try rw[d4]at C2)
     have E:Hid (oM x.agents ⟨k,j⟩ (jD y.aH j)=true):=by show _=_;rw[EJ.out];simp[oM,Hpeer.out,d2,d3,d4]
     go_wp2_with (first|(go_at_call 101;with_reducible refine(C2.out.at_ _).mono ?_;rintro _ _ ⟨rfl,e,rfl⟩))
     repeat (refine ay _ (by kernel_rfl) (by kernel_rfl) ?_;(repeat (go_big_quiet_step ((first|with_reducible exact C2.out.at_ _))));refine wpQuiet_nil ?_;intro e;go_wp2_with (first|(go_at_call 101;with_reducible refine(C2.out.at_ _).mono ?_;rintro _ _ ⟨rfl,e,rfl⟩)))
     exact⟨⟨j+1,by omega,by go_num,gV hfj E.out,⟨e.to,hy2.trans e.h⟩,rfl⟩,by simp[intOf];omega⟩
    ·have:y.aH.length=j:=by omega
     subst this;have E:Hid (pI x.agents k=true):=by show _=_;rw[EK.out];exact hfj.out
     go_wp2_with fail
     repeat (refine ay _ (by kernel_rfl) (by kernel_rfl) ?_;(repeat (go_big_quiet_step (fail)));refine wpQuiet_nil ?_;intro e;go_wp2_with fail)
     exact⟨⟨k+1,by omega,by go_num,gV hfk E.out,_,rfl⟩,by simp[intOf];omega⟩
  ·have:x.agents.length=k:=by omega
   subst this;have E:Hid (iG x=true):=by show _=_;rw[EV.out,d1,hfk.out];rfl
   go_wp2_with fail
   repeat (refine ay _ (by kernel_rfl) (by kernel_rfl) ?_;(repeat (go_big_quiet_step (fail)));refine wpQuiet_nil ?_;intro e;go_wp2_with fail)
   go_ret;exact⟨by rw[E.out];rfl,_,rfl⟩
theorem xG(x:aO){A:Option Addr}{c:Nat}{bs:List Nat}(w:World)(hx:T1 w (.sl x.agents.length (x.agents.flatMap aB.enc)) bs (.slice A x.agents.length c)):Calls Tryz.prog 117 #[.agg #[.slice A x.agents.length c]] w fun e w'=>e=.returned (.bool ((!iG x)))∧Ext w w':=by
 refine aS fun e=> ?_
 go_enter Tryz.func117,Tryz.ntmps117
 go_upto_region 1 with(fail)
 generalize hgg:e.to.heap.size=g;refine gW e hgg (fun w1 e hx1 hgeg hltg cg=> ?_);clear hgg
 replace hx:=hx.below hx1
 have k0:=cg.always hltg 0 _ rfl;simp only[Nat.zero_add]at k0;clear cg;have C1:Hid (QC Tryz.prog w1 _ _ _):=fun W hW=>tK x W (aO.yG (hx.below hW))
 go_wp2_with (first|(go_at_call 63;with_reducible refine(C1.out.at_ _).mono ?_;rintro _ _ ⟨rfl,e,rfl⟩))
 repeat (refine ay _ (by kernel_rfl) (by kernel_rfl) ?_;(repeat (go_big_quiet_step ((first|with_reducible exact C1.out.at_ _))));refine wpQuiet_nil ?_;intro e;go_wp2_with (first|(go_at_call 63;with_reducible refine(C1.out.at_ _).mono ?_;rintro _ _ ⟨rfl,e,rfl⟩)))
 go_ret;exact⟨rfl,aQ.old hx1 e⟩
theorem yc(xs:List aO)(n:Nat){A:Option Addr}{c:Nat}{bs:List Nat}(w:World)(hx:T1 w (.sl n (xs.flatMap aO.enc)) bs (.slice A n c))(Hl:Hid (xs.length=n)):Calls Tryz.prog 150 #[.slice A n c,.func (.func 117) #[] #[]] w fun e w'=>e=.returned (.int .i64 (idxOf n (fun k=> !iG (lW xs k))))∧Ext w w':=by
 refine aS fun e=> ?_
 have hn:=hx.sU
 go_enter Tryz.func150,Tryz.ntmps150
 go_wp2_with fail
 repeat (refine ay _ (by kernel_rfl) (by kernel_rfl) ?_;(repeat (go_big_quiet_step (fail)));refine wpQuiet_nil ?_;intro e;go_wp2_with fail)
 go_loopw [5,8] (fun _ i w'=>∃k:Nat,k≤n∧i=.int .i64 k∧Hid (dV k (fun k=> !!iG (lW xs k))=true)∧∃e:aQ w,w'=e.to) (fun _ i _=>n-(intOf i).toNat)
 case atStart=>exact⟨0,Nat.zero_le _,rfl,nL _,_,rfl⟩
 case round=>
  obtain⟨k,hk,rfl,hf,e,rfl⟩:=hrel
  by_cases hlt:k<n
  ·skip
   obtain⟨b,off,x,bs',rfl,hxk,hp⟩:=T1.elem aO.bn hx Hl hlt;obtain⟨A0,c0,b0,kx0,tx0⟩:=aO.pt hp;rw[Nat.mul_one]at kx0;have EP:Hid ((!iG (lW xs k))= !iG x):=by show _=_;rw[Js hxk]
   have C1:Hid (QC Tryz.prog w _ _ _):=fun W hW=>xG x W (tx0.below hW)
   cases d1:(!iG x)
   case true=>
    (try rw[d1]at C1)
    have E:Hid (idxOf n (fun k=> !iG (lW xs k))=(k:Int)):=by show _=_;exact zi hf hlt (by rw[EP.out];exact d1)
    go_wp2_with (first|(go_at_call 117;with_reducible refine(C1.out.at_ _).mono ?_;rintro _ _ ⟨rfl,e,rfl⟩))
    repeat (refine ay _ (by kernel_rfl) (by kernel_rfl) ?_;(repeat (go_big_quiet_step ((first|with_reducible exact C1.out.at_ _))));refine wpQuiet_nil ?_;intro e;go_wp2_with (first|(go_at_call 117;with_reducible refine(C1.out.at_ _).mono ?_;rintro _ _ ⟨rfl,e,rfl⟩)))
    go_ret;exact⟨by rw[E.out];rfl,_,rfl⟩
   (try rw[d1]at C1)
   have E:Hid ((!!iG (lW xs k))=true):=by show _=_;rw[EP.out,d1];rfl
   go_wp2_with (first|(go_at_call 117;with_reducible refine(C1.out.at_ _).mono ?_;rintro _ _ ⟨rfl,e,rfl⟩))
   repeat (refine ay _ (by kernel_rfl) (by kernel_rfl) ?_;(repeat (go_big_quiet_step ((first|with_reducible exact C1.out.at_ _))));refine wpQuiet_nil ?_;intro e;go_wp2_with (first|(go_at_call 117;with_reducible refine(C1.out.at_ _).mono ?_;rintro _ _ ⟨rfl,e,rfl⟩)))
   exact⟨⟨k+1,by omega,by go_num,gV hf E.out,_,rfl⟩,by simp[intOf];omega⟩
  ·have:n=k:=by omega
   subst this;have E:Hid (idxOf n (fun k=> !iG (lW xs k))= -1):=by show _=_;exact qw hf
   go_wp2_with fail
   repeat (refine ay _ (by kernel_rfl) (by kernel_rfl) ?_;(repeat (go_big_quiet_step (fail)));refine wpQuiet_nil ?_;intro e;go_wp2_with fail)
   go_ret;exact⟨by rw[E.out];rfl,_,rfl⟩
theorem vK(xs:List aO)(n:Nat){A:Option Addr}{c:Nat}{bs:List Nat}(w:World)(hx:T1 w (.sl n (xs.flatMap aO.enc)) bs (.slice A n c))(Hl:Hid (xs.length=n)):Calls Tryz.prog 116 #[.slice A n c,.func (.func 117) #[] #[]] w fun e w'=>e=.returned (.bool (ow n (fun k=> !iG (lW xs k))))∧Ext w w':=by
 refine aS fun e=> ?_
 have C1:Hid (QC Tryz.prog w _ _ _):=fun W hW=>yc xs n W (hx.below hW) Hl
 have hc:=zk n (fun k=> !iG (lW xs k))
 go_enter Tryz.func116,Tryz.ntmps116
 go_wp2_with (first|(go_at_call 150;with_reducible refine(C1.out.at_ _).mono ?_;rintro _ _ ⟨rfl,e,rfl⟩))
 repeat (refine ay _ (by kernel_rfl) (by kernel_rfl) ?_;(repeat (go_big_quiet_step ((first|with_reducible exact C1.out.at_ _))));refine wpQuiet_nil ?_;intro e;go_wp2_with (first|(go_at_call 150;with_reducible refine(C1.out.at_ _).mono ?_;rintro _ _ ⟨rfl,e,rfl⟩)))
 go_ret;exact⟨by rw[←hc];rfl,_,rfl⟩
theorem yD(xs:List aO)(n:Nat){A:Option Addr}{c:Nat}{bs:List Nat}(w:World)(hx:T1 w (.sl n (xs.flatMap aO.enc)) bs (.slice A n c))(Hl:Hid (xs.length=n)):Calls Tryz.prog 62 #[.slice A n c] w fun e w'=>e=.returned (.bool (lH xs))∧Ext w w':=by
 refine aS fun e=> ?_
 have hn:=hx.sU;have EV:Hid (lH xs=(decide ((n:Int)≤24)&&dV n fun k=>iG (lW xs k))):=by show _=_;rw[←Hl.out];rfl
 have hc:(!ow n (fun k=> !iG (lW xs k)))=dV n (fun k=>iG (lW xs k)):=by simp[ow]
 have HC:=Lib.hid hc;clear hc;have C1:Hid (QC Tryz.prog w _ _ _):=fun W hW=>vK xs n W (hx.below hW) Hl
 go_enter Tryz.func62,Tryz.ntmps62
 cases d1:decide ((n:Int)≤24)
 case false=>
  (try rw[d1]at C1)
  have E:Hid (lH xs=false):=by show _=_;rw[EV.out,d1];rfl
  go_wp2_with (first|(go_at_call 116;with_reducible refine(C1.out.at_ _).mono ?_;rintro _ _ ⟨rfl,e,rfl⟩))
  repeat (refine ay _ (by kernel_rfl) (by kernel_rfl) ?_;(repeat (go_big_quiet_step ((first|with_reducible exact C1.out.at_ _))));refine wpQuiet_nil ?_;intro e;go_wp2_with (first|(go_at_call 116;with_reducible refine(C1.out.at_ _).mono ?_;rintro _ _ ⟨rfl,e,rfl⟩)))
  go_ret;exact⟨by rw[E.out];rfl,_,rfl⟩
 (try rw[d1]at C1)
 have E:Hid (lH xs= !ow n (fun k=> !iG (lW xs k))):=by show _=_;rw[EV.out,d1,HC.out];rfl
 go_wp2_with (first|(go_at_call 116;with_reducible refine(C1.out.at_ _).mono ?_;rintro _ _ ⟨rfl,e,rfl⟩))
 repeat (refine ay _ (by kernel_rfl) (by kernel_rfl) ?_;(repeat (go_big_quiet_step ((first|with_reducible exact C1.out.at_ _))));refine wpQuiet_nil ?_;intro e;go_wp2_with (first|(go_at_call 116;with_reducible refine(C1.out.at_ _).mono ?_;rintro _ _ ⟨rfl,e,rfl⟩)))
 go_ret;exact⟨by rw[E.out];rfl,_,rfl⟩
theorem yC(s:Int)(w:World):Calls Tryz.prog 124 #[.int .i64 s] w fun e w'=>e=.returned (.bool ((!dS s 0 600)))∧Ext w w':=by
 refine aS fun e=> ?_
 go_enter Tryz.func124,Tryz.ntmps124
 cases d1:decide (s<0)
 case true=>
  have E:Hid ((!dS s 0 600)=true):=by show _=_;simp at d1;rw[Ag (Or.inl d1)];rfl
  go_wp2_with fail
  repeat (refine ay _ (by kernel_rfl) (by kernel_rfl) ?_;(repeat (go_big_quiet_step (fail)));refine wpQuiet_nil ?_;intro e;go_wp2_with fail)
  go_ret;exact⟨by rw[E.out];rfl,_,rfl⟩
 have E:Hid ((!dS s 0 600)=decide (600<s)):=by show _=_;simp at d1;unfold dS;rw[show decide ((0:Int)≤s)=true by simpa using d1,Bool.true_and];rw[Bool.eq_iff_iff];simp
 go_wp2_with fail
 repeat (refine ay _ (by kernel_rfl) (by kernel_rfl) ?_;(repeat (go_big_quiet_step (fail)));refine wpQuiet_nil ?_;intro e;go_wp2_with fail)
 go_ret;exact⟨by rw[E.out];rfl,_,rfl⟩
theorem Cy(xs:List Int)(n:Nat){A:Option Addr}{c:Nat}{bs:List Nat}(w:World)(hx:T1 w (.sl n (xs.flatMap bN)) bs (.slice A n c))(Hl:Hid (xs.length=n)):Calls Tryz.prog 153 #[.slice A n c,.func (.func 124) #[] #[]] w fun e w'=>e=.returned (.int .i64 (idxOf n (fun k=> !dS (dZ xs k) 0 600)))∧Ext w w':=by
 refine aS fun e=> ?_
 have hn:=hx.sU
 go_enter Tryz.func153,Tryz.ntmps153
 go_wp2_with fail
 repeat (refine ay _ (by kernel_rfl) (by kernel_rfl) ?_;(repeat (go_big_quiet_step (fail)));refine wpQuiet_nil ?_;intro e;go_wp2_with fail)
 go_loopw [5,8] (fun _ i w'=>∃k:Nat,k≤n∧i=.int .i64 k∧Hid (dV k (fun k=> !!dS (dZ xs k) 0 600)=true)∧∃e:aQ w,w'=e.to) (fun _ i _=>n-(intOf i).toNat)
 case atStart=>exact⟨0,Nat.zero_le _,rfl,nL _,_,rfl⟩
 case round=>
  obtain⟨k,hk,rfl,hf,e,rfl⟩:=hrel
  by_cases hlt:k<n
  ·skip
   obtain⟨b,off,x,bs',rfl,hxk,hp⟩:=T1.elem (s:=1) (fun _=>rfl) hx Hl hlt;have kx:=GU hp;rw[Nat.mul_one]at kx;have EP:Hid ((!dS (dZ xs k) 0 600)= !dS x 0 600):=by show _=_;rw[Cz hxk]
   have C1:Hid (QC Tryz.prog w _ _ _):=fun W hW=>yC x W
   cases d1:(!dS x 0 600)
   case true=>
    (try rw[d1]at C1)
    have E:Hid (idxOf n (fun k=> !dS (dZ xs k) 0 600)=(k:Int)):=by show _=_;exact zi hf hlt (by rw[EP.out];exact d1)
    go_wp2_with (first|(go_at_call 124;with_reducible refine(C1.out.at_ _).mono ?_;rintro _ _ ⟨rfl,e,rfl⟩))
    repeat (refine ay _ (by kernel_rfl) (by kernel_rfl) ?_;(repeat (go_big_quiet_step ((first|with_reducible exact C1.out.at_ _))));refine wpQuiet_nil ?_;intro e;go_wp2_with (first|(go_at_call 124;with_reducible refine(C1.out.at_ _).mono ?_;rintro _ _ ⟨rfl,e,rfl⟩)))
    go_ret;exact⟨by rw[E.out];rfl,_,rfl⟩
   (try rw[d1]at C1)
   have E:Hid ((!!dS (dZ xs k) 0 600)=true):=by show _=_;rw[EP.out,d1];rfl
   go_wp2_with (first|(go_at_call 124;with_reducible refine(C1.out.at_ _).mono ?_;rintro _ _ ⟨rfl,e,rfl⟩))
   repeat (refine ay _ (by kernel_rfl) (by kernel_rfl) ?_;(repeat (go_big_quiet_step ((first|with_reducible exact C1.out.at_ _))));refine wpQuiet_nil ?_;intro e;go_wp2_with (first|(go_at_call 124;with_reducible refine(C1.out.at_ _).mono ?_;rintro _ _ ⟨rfl,e,rfl⟩)))
   exact⟨⟨k+1,by omega,by go_num,gV hf E.out,_,rfl⟩,by simp[intOf];omega⟩
  ·have:n=k:=by omega
   subst this;have E:Hid (idxOf n (fun k=> !dS (dZ xs k) 0 600)= -1):=by show _=_;exact qw hf
   go_wp2_with fail
   repeat (refine ay _ (by kernel_rfl) (by kernel_rfl) ?_;(repeat (go_big_quiet_step (fail)));refine wpQuiet_nil ?_;intro e;go_wp2_with fail)
   go_ret;exact⟨by rw[E.out];rfl,_,rfl⟩
theorem yS(xs:List Int)(n:Nat){A:Option Addr}{c:Nat}{bs:List Nat}(w:World)(hx:T1 w (.sl n (xs.flatMap bN)) bs (.slice A n c))(Hl:Hid (xs.length=n)):Calls Tryz.prog 123 #[.slice A n c,.func (.func 124) #[] #[]] w fun e w'=>e=.returned (.bool (ow n (fun k=> !dS (dZ xs k) 0 600)))∧Ext w w':=by
 refine aS fun e=> ?_
 have C1:Hid (QC Tryz.prog w _ _ _):=fun W hW=>Cy xs n W (hx.below hW) Hl
 have hc:=zk n (fun k=> !dS (dZ xs k) 0 600)
 go_enter Tryz.func123,Tryz.ntmps123
 go_wp2_with (first|(go_at_call 153;with_reducible refine(C1.out.at_ _).mono ?_;rintro _ _ ⟨rfl,e,rfl⟩))
 repeat (refine ay _ (by kernel_rfl) (by kernel_rfl) ?_;(repeat (go_big_quiet_step ((first|with_reducible exact C1.out.at_ _))));refine wpQuiet_nil ?_;intro e;go_wp2_with (first|(go_at_call 153;with_reducible refine(C1.out.at_ _).mono ?_;rintro _ _ ⟨rfl,e,rfl⟩)))
 go_ret;exact⟨by rw[←hc];rfl,_,rfl⟩
theorem zL(xs:List Int)(n:Nat){A:Option Addr}{c:Nat}{bs:List Nat}(w:World)(hx:T1 w (.sl n (xs.flatMap bN)) bs (.slice A n c))(Hl:Hid (xs.length=n)):Calls Tryz.prog 64 #[.slice A n c] w fun e w'=>e=.returned (.bool (dM xs))∧Ext w w':=by
 refine aS fun e=> ?_
 have hn:=hx.sU;have EV:Hid (dM xs=(decide ((n:Int)≤200)&&dV n fun k=>dS (dZ xs k) 0 600)):=by show _=_;rw[←Hl.out];rfl
 have hc:(!ow n (fun k=> !dS (dZ xs k) 0 600))=dV n (fun k=>dS (dZ xs k) 0 600):=by simp[ow]
 have HC:=Lib.hid hc;clear hc;have C1:Hid (QC Tryz.prog w _ _ _):=fun W hW=>yS xs n W (hx.below hW) Hl
 go_enter Tryz.func64,Tryz.ntmps64
 cases d1:decide ((n:Int)≤200)
 case false=>
  (try rw[d1]at C1)
  have E:Hid (dM xs=false):=by show _=_;rw[EV.out,d1];rfl
  go_wp2_with (first|(go_at_call 123;with_reducible refine(C1.out.at_ _).mono ?_;rintro _ _ ⟨rfl,e,rfl⟩))
  repeat (refine ay _ (by kernel_rfl) (by kernel_rfl) ?_;(repeat (go_big_quiet_step ((first|with_reducible exact C1.out.at_ _))));refine wpQuiet_nil ?_;intro e;go_wp2_with (first|(go_at_call 123;with_reducible refine(C1.out.at_ _).mono ?_;rintro _ _ ⟨rfl,e,rfl⟩)))
  go_ret;exact⟨by rw[E.out];rfl,_,rfl⟩
 (try rw[d1]at C1)
 have E:Hid (dM xs= !ow n (fun k=> !dS (dZ xs k) 0 600)):=by show _=_;rw[EV.out,d1,HC.out];rfl
 go_wp2_with (first|(go_at_call 123;with_reducible refine(C1.out.at_ _).mono ?_;rintro _ _ ⟨rfl,e,rfl⟩))
 repeat (refine ay _ (by kernel_rfl) (by kernel_rfl) ?_;(repeat (go_big_quiet_step ((first|with_reducible exact C1.out.at_ _))));refine wpQuiet_nil ?_;intro e;go_wp2_with (first|(go_at_call 123;with_reducible refine(C1.out.at_ _).mono ?_;rintro _ _ ⟨rfl,e,rfl⟩)))
 go_ret;exact⟨by rw[E.out];rfl,_,rfl⟩
theorem Jk(xs:List aO)(n:Nat){A:Option Addr}{c:Nat}{bs:List Nat}(w:World)(hx:T1 w (.sl n (xs.flatMap aO.enc)) bs (.slice A n c))(Hl:Hid (xs.length=n)):Calls Tryz.prog 52 #[.slice A n c] w fun e w'=>e=.returned (.bool (lH xs))∧Ext w w':=by
 refine aS fun e=> ?_
 have hn:=hx.sU;have EV:Hid (lH xs=(decide ((n:Int)≤24)&&dV n fun k=>iG (lW xs k))):=by show _=_;rw[←Hl.out];rfl
 go_enter Tryz.func52,Tryz.ntmps52
 cases d1:decide ((24:Int)<n)
 case true=>
  have E:Hid (lH xs=false):=by show _=_;rw[EV.out,show decide ((n:Int)≤24)=false by simp at d1;simp;omega];rfl
  go_wp2_with fail
  repeat (refine ay _ (by kernel_rfl) (by kernel_rfl) ?_;(repeat (go_big_quiet_step (fail)));refine wpQuiet_nil ?_;intro e;go_wp2_with fail)
  go_ret;exact⟨by rw[E.out];rfl,_,rfl⟩
 have EN:Hid (decide ((n:Int)≤24)=true):=by show _=_;simp at d1;simp;omega
 go_wp2_with fail
 repeat (refine ay _ (by kernel_rfl) (by kernel_rfl) ?_;(repeat (go_big_quiet_step (fail)));refine wpQuiet_nil ?_;intro e;go_wp2_with fail)
 go_loopw [3] (fun i w'=>∃k:Nat,k≤n∧i=.int .i64 k∧Hid (dV k (fun k=>iG (lW xs k))=true)∧∃e:aQ w,w'=e.to) (fun i _=>n-(intOf i).toNat)
 case atStart=>exact⟨0,Nat.zero_le _,rfl,nL _,_,rfl⟩
 case round=>
  obtain⟨k,hk,rfl,hfk,e,rfl⟩:=hrel
  by_cases hltk:k<n
  ·skip
   obtain⟨b,off,x,bs',rfl,hxk,hp⟩:=T1.elem aO.bn hx Hl hltk;have EK:Hid (iG (lW xs k)=iG x):=by show _=_;rw[Js hxk]
   have C1:Hid (QC Tryz.prog w _ _ _):=fun W hW=>Fp x b (off+k*1) _ W (hp.ext hW)
   rw[Nat.mul_one]at C1;cases d2:iG x
   case false=>
    (try rw[d2]at C1)
    have E:Hid (lH xs=false):=by show _=_;rw[EV.out,iW hltk (by rw[EK.out];exact d2)];simp
    go_wp2_with (first|(go_at_call 53;with_reducible refine(C1.out.at_ _).mono ?_;rintro _ _ ⟨rfl,e,rfl⟩))
    repeat (refine ay _ (by kernel_rfl) (by kernel_rfl) ?_;(repeat (go_big_quiet_step ((first|with_reducible exact C1.out.at_ _))));refine wpQuiet_nil ?_;intro e;go_wp2_with (first|(go_at_call 53;with_reducible refine(C1.out.at_ _).mono ?_;rintro _ _ ⟨rfl,e,rfl⟩)))
    go_ret;exact⟨by rw[E.out];rfl,_,rfl⟩
   (try rw[d2]at C1)
   have E:Hid (iG (lW xs k)=true):=by show _=_;rw[EK.out];exact d2
   go_wp2_with (first|(go_at_call 53;with_reducible refine(C1.out.at_ _).mono ?_;rintro _ _ ⟨rfl,e,rfl⟩))
   repeat (refine ay _ (by kernel_rfl) (by kernel_rfl) ?_;(repeat (go_big_quiet_step ((first|with_reducible exact C1.out.at_ _))));refine wpQuiet_nil ?_;intro e;go_wp2_with (first|(go_at_call 53;with_reducible refine(C1.out.at_ _).mono ?_;rintro _ _ ⟨rfl,e,rfl⟩)))
   exact⟨⟨k+1,by omega,by go_num,gV hfk E.out,_,rfl⟩,by simp[intOf];omega⟩
  ·have:n=k:=by omega
   subst this;have E:Hid (lH xs=true):=by show _=_;rw[EV.out,EN.out,hfk.out];rfl
   go_wp2_with fail
   repeat (refine ay _ (by kernel_rfl) (by kernel_rfl) ?_;(repeat (go_big_quiet_step (fail)));refine wpQuiet_nil ?_;intro e;go_wp2_with fail)
   go_ret;exact⟨by rw[E.out];rfl,_,rfl⟩
theorem Br(xs:List Int)(n:Nat){A:Option Addr}{c:Nat}{bs:List Nat}(w:World)(hx:T1 w (.sl n (xs.flatMap bN)) bs (.slice A n c))(Hl:Hid (xs.length=n)):Calls Tryz.prog 54 #[.slice A n c] w fun e w'=>e=.returned (.bool (dM xs))∧Ext w w':=by
 refine aS fun e=> ?_
 have hn:=hx.sU;have EV:Hid (dM xs=(decide ((n:Int)≤200)&&dV n fun k=>dS (dZ xs k) 0 600)):=by show _=_;rw[←Hl.out];rfl
 go_enter Tryz.func54,Tryz.ntmps54
 cases d1:decide ((200:Int)<n)
 case true=>
  have E:Hid (dM xs=false):=by show _=_;rw[EV.out,show decide ((n:Int)≤200)=false by simp at d1;simp;omega];rfl
  go_wp2_with fail
  repeat (refine ay _ (by kernel_rfl) (by kernel_rfl) ?_;(repeat (go_big_quiet_step (fail)));refine wpQuiet_nil ?_;intro e;go_wp2_with fail)
  go_ret;exact⟨by rw[E.out];rfl,_,rfl⟩
 have EN:Hid (decide ((n:Int)≤200)=true):=by show _=_;simp at d1;simp;omega
 go_wp2_with fail
 repeat (refine ay _ (by kernel_rfl) (by kernel_rfl) ?_;(repeat (go_big_quiet_step (fail)));refine wpQuiet_nil ?_;intro e;go_wp2_with fail)
 go_loopw [3] (fun i w'=>∃k:Nat,k≤n∧i=.int .i64 k∧Hid (dV k (fun k=>dS (dZ xs k) 0 600)=true)∧∃e:aQ w,w'=e.to) (fun i _=>n-(intOf i).toNat)
 case atStart=>exact⟨0,Nat.zero_le _,rfl,nL _,_,rfl⟩
 case round=>
  obtain⟨k,hk,rfl,hfk,e,rfl⟩:=hrel
  by_cases hltk:k<n
  ·skip
   obtain⟨b,off,x,bs',rfl,hxk,hp⟩:=T1.elem (s:=1) (fun _=>rfl) hx Hl hltk;have kx:=GU hp;rw[Nat.mul_one]at kx;have EK:Hid (dS (dZ xs k) 0 600=dS x 0 600):=by show _=_;rw[Cz hxk]
   have C1:Hid (QC Tryz.prog w _ _ _):=fun W hW=>(nE x 0 600 W).q
   cases d2:dS x 0 600
   case false=>
    (try rw[d2]at C1)
    have E:Hid (dM xs=false):=by show _=_;rw[EV.out,iW hltk (by rw[EK.out];exact d2)];simp
    go_wp2_with (first|(go_at_call 55;with_reducible refine(C1.out.at_ _).mono ?_;rintro _ _ ⟨rfl,e,rfl⟩))
    repeat (refine ay _ (by kernel_rfl) (by kernel_rfl) ?_;(repeat (go_big_quiet_step ((first|with_reducible exact C1.out.at_ _))));refine wpQuiet_nil ?_;intro e;go_wp2_with (first|(go_at_call 55;with_reducible refine(C1.out.at_ _).mono ?_;rintro _ _ ⟨rfl,e,rfl⟩)))
    go_ret;exact⟨by rw[E.out];rfl,_,rfl⟩
   (try rw[d2]at C1)
   have E:Hid (dS (dZ xs k) 0 600=true):=by show _=_;rw[EK.out];exact d2
   go_wp2_with (first|(go_at_call 55;with_reducible refine(C1.out.at_ _).mono ?_;rintro _ _ ⟨rfl,e,rfl⟩))
   repeat (refine ay _ (by kernel_rfl) (by kernel_rfl) ?_;(repeat (go_big_quiet_step ((first|with_reducible exact C1.out.at_ _))));refine wpQuiet_nil ?_;intro e;go_wp2_with (first|(go_at_call 55;with_reducible refine(C1.out.at_ _).mono ?_;rintro _ _ ⟨rfl,e,rfl⟩)))
   exact⟨⟨k+1,by omega,by go_num,gV hfk E.out,_,rfl⟩,by simp[intOf];omega⟩
  ·have:n=k:=by omega
   subst this;have E:Hid (dM xs=true):=by show _=_;rw[EV.out,EN.out,hfk.out];rfl
   go_wp2_with fail
   repeat (refine ay _ (by kernel_rfl) (by kernel_rfl) ?_;(repeat (go_big_quiet_step (fail)));refine wpQuiet_nil ?_;intro e;go_wp2_with fail)
   go_ret;exact⟨by rw[E.out];rfl,_,rfl⟩
theorem XC(xs:List aj):aN Tryz.prog 63 [.agg [.rsl aG xs]] (.bool (iG (gN xs))):=
 aN.VQ (u:=bO) (x:=xs) (by kernel_rfl) (fun w bs us h=>tK (gN xs) w (by rw[GD];exact h)) (fun _ _=>yT _) (fun _ _ _ _ _ hI hd=>Wv hI hd)
theorem U6(bk:List (List aj)):aN Tryz.prog 62 [.rsl bO bk] (.bool (lH (bk.map gN))):=
 aN.M4 (by kernel_rfl) (fun w A c bs h=>yD (bk.map gN) bk.length w (by rw[P8];exact h) (qV _)) (fun _ _=>yT _)
theorem RL(l:List Int):aN Tryz.prog 64 [.rsl (.int .i64) l] (.bool (dM l)):=
 aN.M4 (by kernel_rfl) (fun w A c bs h=>zL l l.length w (by rw[←yY];exact h) rfl) (fun _ _=>yT _)
theorem Zv(xs:List aj):aN Tryz.prog 53 [.rp bO xs] (.bool (iG (gN xs))):=
 aN.VR (by kernel_rfl) (fun w b o bs h=>Fp (gN xs) b o bs w (by rw[GD];exact h)) fun _ _=>yT _
theorem Xi(bk:List (List aj)):aN Tryz.prog 52 [.rsl bO bk] (.bool (lH (bk.map gN))):=
 aN.M4 (by kernel_rfl) (fun w A c bs h=>Jk (bk.map gN) bk.length w (by rw[P8];exact h) (qV _)) (fun _ _=>yT _)
theorem Wo(l:List Int):aN Tryz.prog 54 [.rsl (.int .i64) l] (.bool (dM l)):=
 aN.M4 (by kernel_rfl) (fun w A c bs h=>Br l l.length w (by rw[←yY];exact h) rfl) (fun _ _=>yT _)
end Go.Proofs.YtcjhkgfmklgikaaGreat
