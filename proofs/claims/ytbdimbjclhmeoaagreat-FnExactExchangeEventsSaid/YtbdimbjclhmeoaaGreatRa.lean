
/- The program's functions on agents: what makes them valid. Printed by gen_neti.py. -/
import Derived.Test.YtbdimbjclhmeoaaGreatShort
import Derived.Test.YtbdimbjclhmeoaaGreatProg
import Derived.Test.YtbdimbjclhmeoaaGreatAgents
import Derived.Test.YtbdimbjclhmeoaaGreatValid
import Derived.Test.YtbdimbjclhmeoaaGreatQDbg
import Derived.Test.YtbdimbjclhmeoaaGreatSc
import Derived.BigGuardPart
import Derived.Outline
import Derived.Deep.CutBlock
import Derived.Test.YtbdimbjclhmeoaaGreatVti
import Derived.Test.YtbdimbjclhmeoaaGreatVV
import Derived.Test.YtbdimbjclhmeoaaGreatNy
import Derived.Test.YtbdimbjclhmeoaaGreatIo
import Derived.StillTailTactics
import Derived.BigRegion
set_option maxHeartbeats 4000000
set_option maxRecDepth 100000
set_option linter.unusedSimpArgs false
set_option linter.unusedVariables false
namespace Go.Proofs.YtbdimbjclhmeoaaGreat
open Go Go.RowKit Go.Proofs Go.Tr
theorem wo(n:Int)(w:World):Calls Tryz.prog 176 #[.int .i64 n] w fun e w'=>e=.returned (.bool (jM n))∧Ext w w':=by
 refine fP fun e=> ?_
 go_enter Tryz.func176,Tryz.ntmps176
 go_wp2
 all_goals go_ret
 all_goals refine⟨?_,_,rfl⟩
 all_goals first|(simp[jM,fA, *];done)|(simp[jM,fA, *];omega)|(simp_all [jM,fA];done)|(simp_all [jM,fA];omega)
theorem PY(n:Int)(w:World):Calls Tryz.prog 177 #[.int .i64 n] w fun e w'=>e=.returned (.bool (rC n))∧Ext w w':=by
 refine fP fun e=> ?_
 go_enter Tryz.func177,Tryz.ntmps177
 go_wp2
 all_goals go_ret
 all_goals refine⟨?_,_,rfl⟩
 all_goals first|(simp[rC,fA, *];done)|(simp[rC,fA, *];omega)|(simp_all [rC,fA];done)|(simp_all [rC,fA];omega)
theorem Db(n:Int)(w:World):Calls Tryz.prog 178 #[.int .i64 n] w fun e w'=>e=.returned (.bool (kr n))∧Ext w w':=by
 refine fP fun e=> ?_
 go_enter Tryz.func178,Tryz.ntmps178
 go_wp2
 all_goals go_ret
 all_goals refine⟨?_,_,rfl⟩
 all_goals first|(simp[kr,fA, *];done)|(simp[kr,fA, *];omega)|(simp_all [kr,fA];done)|(simp_all [kr,fA];omega)
theorem Bu(k f:Int)(w:World):Calls Tryz.prog 172 #[.int .i64 k,.int .i64 f] w fun e w'=>e=.returned (.int .i64 (bS k f))∧Ext w w':=by
 refine fP fun e=> ?_
 have C1:Hid (QC Tryz.prog w _ _ _):=fun W hW=>(L9 k W).q
 cases hk:oC k
 case false=>
  rw[hk]at C1;have hn:=Xd hk;have h9:(k==9)=false:=by simp;omega
  go_enter Tryz.func172,Tryz.ntmps172
  go_wp2_with (first|(go_at_call 213;with_reducible refine(C1.out.at_ _).mono ?_;rintro _ _ ⟨rfl,e,rfl⟩))
  repeat (refine cK _ (by kernel_rfl) (by kernel_rfl) ?_;(repeat (go_big_quiet_step ((first|with_reducible exact C1.out.at_ _))));refine wpQuiet_nil ?_;intro e;go_wp2_with (first|(go_at_call 213;with_reducible refine(C1.out.at_ _).mono ?_;rintro _ _ ⟨rfl,e,rfl⟩)))
  all_goals go_ret
  all_goals refine⟨?_,_,rfl⟩
  all_goals simp[bS]
  all_goals (repeat rw[if_neg (by omega)])
  all_goals (try split)
  all_goals (try rfl)
  all_goals (try omega)
 rw[hk]at C1;have ix1:∀W:World,(Instr.index 245 (.agg #[.int .i64 0,.int .i64 1,.int .i64 3,.int .i64 3,.int .i64 3,.int .i64 1,.int .i64 1,.int .i64 3,.int .i64 2,.int .i64 0,.int .i64 2,.int .i64 2,.int .i64 1]) (.int .i64 1)).run Tryz.prog W=.ok (.int .i64 1) W:=fun _=>by kernel_rfl
 have ix2:∀W:World,(Instr.index 245 (.agg #[.int .i64 0,.int .i64 1,.int .i64 3,.int .i64 3,.int .i64 3,.int .i64 1,.int .i64 1,.int .i64 3,.int .i64 2,.int .i64 0,.int .i64 2,.int .i64 2,.int .i64 1]) (.int .i64 2)).run Tryz.prog W=.ok (.int .i64 3) W:=fun _=>by kernel_rfl
 have ix3:∀W:World,(Instr.index 245 (.agg #[.int .i64 0,.int .i64 1,.int .i64 3,.int .i64 3,.int .i64 3,.int .i64 1,.int .i64 1,.int .i64 3,.int .i64 2,.int .i64 0,.int .i64 2,.int .i64 2,.int .i64 1]) (.int .i64 3)).run Tryz.prog W=.ok (.int .i64 3) W:=fun _=>by kernel_rfl
 have ix4:∀W:World,(Instr.index 245 (.agg #[.int .i64 0,.int .i64 1,.int .i64 3,.int .i64 3,.int .i64 3,.int .i64 1,.int .i64 1,.int .i64 3,.int .i64 2,.int .i64 0,.int .i64 2,.int .i64 2,.int .i64 1]) (.int .i64 4)).run Tryz.prog W=.ok (.int .i64 3) W:=fun _=>by kernel_rfl
 have ix5:∀W:World,(Instr.index 245 (.agg #[.int .i64 0,.int .i64 1,.int .i64 3,.int .i64 3,.int .i64 3,.int .i64 1,.int .i64 1,.int .i64 3,.int .i64 2,.int .i64 0,.int .i64 2,.int .i64 2,.int .i64 1]) (.int .i64 5)).run Tryz.prog W=.ok (.int .i64 1) W:=fun _=>by kernel_rfl
 have ix6:∀W:World,(Instr.index 245 (.agg #[.int .i64 0,.int .i64 1,.int .i64 3,.int .i64 3,.int .i64 3,.int .i64 1,.int .i64 1,.int .i64 3,.int .i64 2,.int .i64 0,.int .i64 2,.int .i64 2,.int .i64 1]) (.int .i64 6)).run Tryz.prog W=.ok (.int .i64 1) W:=fun _=>by kernel_rfl
 have ix7:∀W:World,(Instr.index 245 (.agg #[.int .i64 0,.int .i64 1,.int .i64 3,.int .i64 3,.int .i64 3,.int .i64 1,.int .i64 1,.int .i64 3,.int .i64 2,.int .i64 0,.int .i64 2,.int .i64 2,.int .i64 1]) (.int .i64 7)).run Tryz.prog W=.ok (.int .i64 3) W:=fun _=>by kernel_rfl
 have ix8:∀W:World,(Instr.index 245 (.agg #[.int .i64 0,.int .i64 1,.int .i64 3,.int .i64 3,.int .i64 3,.int .i64 1,.int .i64 1,.int .i64 3,.int .i64 2,.int .i64 0,.int .i64 2,.int .i64 2,.int .i64 1]) (.int .i64 8)).run Tryz.prog W=.ok (.int .i64 2) W:=fun _=>by kernel_rfl
 have ix9:∀W:World,(Instr.index 245 (.agg #[.int .i64 0,.int .i64 1,.int .i64 3,.int .i64 3,.int .i64 3,.int .i64 1,.int .i64 1,.int .i64 3,.int .i64 2,.int .i64 0,.int .i64 2,.int .i64 2,.int .i64 1]) (.int .i64 9)).run Tryz.prog W=.ok (.int .i64 0) W:=fun _=>by kernel_rfl
 have ix10:∀W:World,(Instr.index 245 (.agg #[.int .i64 0,.int .i64 1,.int .i64 3,.int .i64 3,.int .i64 3,.int .i64 1,.int .i64 1,.int .i64 3,.int .i64 2,.int .i64 0,.int .i64 2,.int .i64 2,.int .i64 1]) (.int .i64 10)).run Tryz.prog W=.ok (.int .i64 2) W:=fun _=>by kernel_rfl
 have ix11:∀W:World,(Instr.index 245 (.agg #[.int .i64 0,.int .i64 1,.int .i64 3,.int .i64 3,.int .i64 3,.int .i64 1,.int .i64 1,.int .i64 3,.int .i64 2,.int .i64 0,.int .i64 2,.int .i64 2,.int .i64 1]) (.int .i64 11)).run Tryz.prog W=.ok (.int .i64 2) W:=fun _=>by kernel_rfl
 have ix12:∀W:World,(Instr.index 245 (.agg #[.int .i64 0,.int .i64 1,.int .i64 3,.int .i64 3,.int .i64 3,.int .i64 1,.int .i64 1,.int .i64 3,.int .i64 2,.int .i64 0,.int .i64 2,.int .i64 2,.int .i64 1]) (.int .i64 12)).run Tryz.prog W=.ok (.int .i64 1) W:=fun _=>by kernel_rfl
 rcases Ma hk with rfl|rfl|rfl|rfl|rfl|rfl|rfl|rfl|rfl|rfl|rfl|rfl
 all_goals clear hk
 all_goals
  go_enter Tryz.func172,Tryz.ntmps172
  go_wp2_with (first|(go_at_call 213;with_reducible refine(C1.out.at_ _).mono ?_;rintro _ _ ⟨rfl,e,rfl⟩))
  repeat (refine cK _ (by kernel_rfl) (by kernel_rfl) ?_;(repeat (go_big_quiet_step ((first|with_reducible exact C1.out.at_ _))));refine wpQuiet_nil ?_;intro e;go_wp2_with (first|(go_at_call 213;with_reducible refine(C1.out.at_ _).mono ?_;rintro _ _ ⟨rfl,e,rfl⟩)))
  all_goals go_ret
  all_goals refine⟨?_,_,rfl⟩
  all_goals first|(simp[bS,fA, *];done)|(simp[bS,fA, *];omega)|(simp_all [bS,fA];done)|(simp_all [bS,fA];omega)
theorem Hu(k p:Int)(w:World)(h1:0≤p)(h2:p≤9223372036854775807):Calls Tryz.prog 173 #[.int .i64 k,.int .i64 p] w fun e w'=>e=.returned (.int .i64 (dL k p))∧Ext w w':=by
 refine fP fun e=> ?_
 go_enter Tryz.func173,Tryz.ntmps173
 cases d1:(k==9)
 case true=>
  have E:Hid (dL k p=p-1):=by show _=_;simp[dL,d1]
  go_wp2_with fail
  repeat (refine cK _ (by kernel_rfl) (by kernel_rfl) ?_;(repeat (go_big_quiet_step (fail)));refine wpQuiet_nil ?_;intro e;go_wp2_with fail)
  go_ret;exact⟨by rw[E.out];rfl,_,rfl⟩
 have E:Hid (dL k p=0):=by show _=_;simp[dL,d1]
 go_wp2_with fail
 repeat (refine cK _ (by kernel_rfl) (by kernel_rfl) ?_;(repeat (go_big_quiet_step (fail)));refine wpQuiet_nil ?_;intro e;go_wp2_with fail)
 go_ret;exact⟨by rw[E.out];rfl,_,rfl⟩
theorem BD(d:Int)(w:World):Calls Tryz.prog 175 #[.int .i64 d] w fun e w'=>e=.returned (.bool (!jM d))∧Ext w w':=by
 refine fP fun e=> ?_
 have C1:Hid (QC Tryz.prog w _ _ _):=fun W hW=>wo d W
 go_enter Tryz.func175,Tryz.ntmps175
 go_wp2_with (first|(go_at_call 176;with_reducible refine(C1.out.at_ _).mono ?_;rintro _ _ ⟨rfl,e,rfl⟩))
 repeat (refine cK _ (by kernel_rfl) (by kernel_rfl) ?_;(repeat (go_big_quiet_step ((first|with_reducible exact C1.out.at_ _))));refine wpQuiet_nil ?_;intro e;go_wp2_with (first|(go_at_call 176;with_reducible refine(C1.out.at_ _).mono ?_;rintro _ _ ⟨rfl,e,rfl⟩)))
 go_ret;exact⟨rfl,_,rfl⟩
theorem ET(xs:List Int)(n:Nat){A:Option Addr}{c:Nat}{bs:List Nat}(w:World)(hx:T1 w (.sl n (xs.flatMap dI)) bs (.slice A n c))(Hl:Hid (xs.length=n)):Calls Tryz.prog 114 #[.slice A n c,.func (.func 175) #[] #[]] w fun e w'=>e=.returned (.int .i64 (idxOf n (fun k=> !jM (iy xs k))))∧Ext w w':=by
 refine fP fun e=> ?_
 have hn:=hx.EX
 go_enter Tryz.func114,Tryz.ntmps114
 go_wp2_with fail
 repeat (refine cK _ (by kernel_rfl) (by kernel_rfl) ?_;(repeat (go_big_quiet_step (fail)));refine wpQuiet_nil ?_;intro e;go_wp2_with fail)
 go_loopw [5,8] (fun _ i w'=>∃k:Nat,k≤n∧i=.int .i64 k∧Hid (dZ k (fun k=> !!jM (iy xs k))=true)∧∃e:bK w,w'=e.to) (fun _ i _=>n-(intOf i).toNat)
 case atStart=>exact⟨0,Nat.zero_le _,rfl,Va _,_,rfl⟩
 case round=>
  obtain⟨k,hk,rfl,hf,e,rfl⟩:=hrel
  by_cases hlt:k<n
  ·skip
   obtain⟨b,off,x,bs',rfl,hxk,hp⟩:=T1.elem (s:=1) (fun _=>rfl) hx Hl hlt;have kx:=VJ hp;rw[Nat.mul_one]at kx;have EP:Hid ((!jM (iy xs k))= !jM x):=by show _=_;rw[Sg hxk]
   have C1:Hid (QC Tryz.prog w _ _ _):=fun W hW=>BD x W
   cases d1:(!jM x)
   case true=>
    (try rw[d1]at C1)
    have E:Hid (idxOf n (fun k=> !jM (iy xs k))=(k:Int)):=by show _=_;exact Sc hf hlt (by rw[EP.out];exact d1)
    go_wp2_with (first|(go_at_call 175;with_reducible refine(C1.out.at_ _).mono ?_;rintro _ _ ⟨rfl,e,rfl⟩))
    repeat (refine cK _ (by kernel_rfl) (by kernel_rfl) ?_;(repeat (go_big_quiet_step ((first|with_reducible exact C1.out.at_ _))));refine wpQuiet_nil ?_;intro e;go_wp2_with (first|(go_at_call 175;with_reducible refine(C1.out.at_ _).mono ?_;rintro _ _ ⟨rfl,e,rfl⟩)))
    go_ret;exact⟨by rw[E.out];rfl,_,rfl⟩
   (try rw[d1]at C1)
   have E:Hid ((!!jM (iy xs k))=true):=by show _=_;rw[EP.out,d1];rfl
   go_wp2_with (first|(go_at_call 175;with_reducible refine(C1.out.at_ _).mono ?_;rintro _ _ ⟨rfl,e,rfl⟩))
   repeat (refine cK _ (by kernel_rfl) (by kernel_rfl) ?_;(repeat (go_big_quiet_step ((first|with_reducible exact C1.out.at_ _))));refine wpQuiet_nil ?_;intro e;go_wp2_with (first|(go_at_call 175;with_reducible refine(C1.out.at_ _).mono ?_;rintro _ _ ⟨rfl,e,rfl⟩)))
   exact⟨⟨k+1,by omega,by go_num,Lf hf E.out,_,rfl⟩,by simp[intOf];omega⟩
  ·have:n=k:=by omega
   subst this;have E:Hid (idxOf n (fun k=> !jM (iy xs k))= -1):=by show _=_;exact Da hf
   go_wp2_with fail
   repeat (refine cK _ (by kernel_rfl) (by kernel_rfl) ?_;(repeat (go_big_quiet_step (fail)));refine wpQuiet_nil ?_;intro e;go_wp2_with fail)
   go_ret;exact⟨by rw[E.out];rfl,_,rfl⟩
theorem zW(xs:List Int)(n:Nat){A:Option Addr}{c:Nat}{bs:List Nat}(w:World)(hx:T1 w (.sl n (xs.flatMap dI)) bs (.slice A n c))(Hl:Hid (xs.length=n)):Calls Tryz.prog 77 #[.slice A n c,.func (.func 175) #[] #[]] w fun e w'=>e=.returned (.bool (Nl n (fun k=> !jM (iy xs k))))∧Ext w w':=by
 refine fP fun e=> ?_
 have C1:Hid (QC Tryz.prog w _ _ _):=fun W hW=>ET xs n W (hx.below hW) Hl
 have hc:=Sd n (fun k=> !jM (iy xs k))
 go_enter Tryz.func77,Tryz.ntmps77
 go_wp2_with (first|(go_at_call 114;with_reducible refine(C1.out.at_ _).mono ?_;rintro _ _ ⟨rfl,e,rfl⟩))
 repeat (refine cK _ (by kernel_rfl) (by kernel_rfl) ?_;(repeat (go_big_quiet_step ((first|with_reducible exact C1.out.at_ _))));refine wpQuiet_nil ?_;intro e;go_wp2_with (first|(go_at_call 114;with_reducible refine(C1.out.at_ _).mono ?_;rintro _ _ ⟨rfl,e,rfl⟩)))
 go_ret;exact⟨by rw[←hc];rfl,_,rfl⟩
end Go.Proofs.YtbdimbjclhmeoaaGreat
namespace Go.Tr
open Go Go.RowKit
def nA(a:aD):aj:=(a.kind,a.level,a.value,a.data,a.aN.map fun p=>(p.agent,p.slot))
theorem ZG(a:aD):gA (nA a)=a:=by
 cases a with
 |mk k l v d ps=>
  unfold gA nA;simp only[List.map_map]
  congr 1
  exact(List.map_congr_left fun p _=>rfl).trans (List.map_id ps)
def oO(k v:Int)(d:List Int):Bool:=
 if k==6 then((d.length:Int)==0)&&rC v
 else if k==7 then((d.length:Int)==0)&&kr v
 else if k==8 then((d.length:Int)==1)&&kr v&&rC (iy d 0)
 else if k==9 then((d.length:Int)==0)&&fA v 0 3
 else if k==12 then((d.length:Int)==0)&&jM v
 else if k==10 then v==0&&fA d.length 1 4&&kQ d
 else if k==11 then v==0&&((d.length:Int)==2)&&kQ d
 else v==0&&((d.length:Int)==0)
theorem NC(a:aj):fK (gA a)=oO a.1 a.2.2.1 a.2.2.2.1:=rfl
end Go.Tr
namespace Go.Proofs.YtbdimbjclhmeoaaGreat
open Go Go.RowKit Go.Proofs Go.Tr
theorem X4(n:Int):aJ Tryz.prog 212 [.int .i64 n] (.bool (jM n)):=by
 refine aJ.intro (nt:=5) aG mixed (by kernel_rfl) Tryz.func212 rfl rfl rfl rfl rfl ?_;refine Or.inl (eI _ (aI (Bg n 0 23) ?_));exact rfl
theorem Ri(a:aj):aJ Tryz.prog 171 [.rp aF a] (.bool (fK (gA a))):=by
 refine aJ.intro (nt:=162) aG mixed (by kernel_rfl) Tryz.func171 rfl rfl rfl rfl rfl ?_;rw[NC];generalize hk:a.1=k at*;have ek:∀{c:Int} {b:Bool},(a.1==c)=b→(k==c)=b:=fun h=>by rw[←hk];exact h
 refine aI (fun q1=> ?_) (fun q1=> ?_)
 ·refine Or.inl (eI _ (aI (fun _=>Bg a.2.2.1 (-2147483648) 2147483647) ?_));refine Eq.trans (Eq.refl _) ?_;unfold oO;rw[ek q1];show(bif ((a.2.2.2.1.length:Int)==0)then fA a.2.2.1 (-2147483648) 2147483647 else false)=(((a.2.2.2.1.length:Int)==0)&&rC a.2.2.1);cases ((a.2.2.2.1.length:Int)==0)<;>rfl
 refine aI (fun q2=> ?_) (fun q2=> ?_)
 ·refine Or.inl (eI _ (aI (fun _=>Bg a.2.2.1 1 6) ?_));refine Eq.trans (Eq.refl _) ?_;unfold oO;rw[ek q1,ek q2];show(bif ((a.2.2.2.1.length:Int)==0)then fA a.2.2.1 1 6 else false)=(((a.2.2.2.1.length:Int)==0)&&kr a.2.2.1);cases ((a.2.2.2.1.length:Int)==0)<;>rfl
 refine aI (fun q3=> ?_) (fun q3=> ?_)
 ·refine Or.inl (eI _ (aI (fun _=>Bg a.2.2.1 1 6) ?_));refine aI (fun g=> ?_) ?_
  ·have g2:(bif ((a.2.2.2.1.length:Int)==1)then fA a.2.2.1 1 6 else false)=true:=g;cases hl:((a.2.2.2.1.length:Int)==1)with
   |false=>rw[hl]at g2;cases g2
   |true=>
    have hl2:(a.2.2.2.1.length:Int)=1:=by simpa using hl
    show(0:Int)≤0∧(0:Int)<(a.2.2.2.1.length:Nat);omega
  refine Or.inl (eI _ (aI (fun _=>Bg _ (-2147483648) 2147483647) ?_));refine Eq.trans (Eq.refl _) ?_;unfold oO;rw[ek q1,ek q2,ek q3];show(bif (bif ((a.2.2.2.1.length:Int)==1)then fA a.2.2.1 1 6 else false)then fA (iy a.2.2.2.1 0) (-2147483648) 2147483647 else false)=(((a.2.2.2.1.length:Int)==1)&&kr a.2.2.1&&rC (iy a.2.2.2.1 0));unfold kr rC;cases ((a.2.2.2.1.length:Int)==1)<;>cases fA a.2.2.1 1 6<;>rfl
 refine aI (fun q4=> ?_) (fun q4=> ?_)
 ·refine Or.inl (eI _ (aI (fun _=>Bg a.2.2.1 0 3) ?_));refine Eq.trans (Eq.refl _) ?_;unfold oO;rw[ek q1,ek q2,ek q3,ek q4];show(bif ((a.2.2.2.1.length:Int)==0)then fA a.2.2.1 0 3 else false)=(((a.2.2.2.1.length:Int)==0)&&fA a.2.2.1 0 3);cases ((a.2.2.2.1.length:Int)==0)<;>rfl
 refine aI (fun q5=> ?_) (fun q5=> ?_)
 ·refine Or.inl (eI _ (aI (fun _=>X4 a.2.2.1) ?_));refine Eq.trans (Eq.refl _) ?_;unfold oO;rw[ek q1,ek q2,ek q3,ek q4,ek q5];show(bif ((a.2.2.2.1.length:Int)==0)then jM a.2.2.1 else false)=(((a.2.2.2.1.length:Int)==0)&&jM a.2.2.1);cases ((a.2.2.2.1.length:Int)==0)<;>rfl
 refine aI (fun q6=> ?_) (fun q6=> ?_)
 ·refine aI (fun _=> ?_) (fun p=>absurd (q6.symm.trans p) (by decide));refine Or.inl (eI _ (aI (fun _=>Bg a.2.2.2.1.length 1 4) ?_))
  have q7:(k==11)=false:=by
   have:k=10:=by have:=ek q6;simpa using this
   rw[this];rfl
  have q7':(a.1==11)=false:=by rw[hk];exact q7
  have ec:oO k a.2.2.1 a.2.2.2.1=(a.2.2.1==0&&fA a.2.2.2.1.length 1 4&&kQ a.2.2.2.1):=by
   unfold oO;rw[ek q1,ek q2,ek q3,ek q4,ek q5,ek q6];rfl
  have q6':(a.1==10)=true:=q6;refine aI (fun q8=> ?_) (fun q8=> ?_)
  ·refine Eq.trans (Eq.refl _) ?_;rw[ec];have q9:(bif (bif (a.2.2.1 !=0)then true else bif (a.1==11)then((a.2.2.2.1.length:Int) !=2)else false)then true else bif (a.1==10)then !(fA a.2.2.2.1.length 1 4)else false)=true:=q8;rw[q7',q6',show(a.2.2.1 !=0)= !(a.2.2.1==0) from rfl]at q9;revert q9;cases (a.2.2.1==0)<;>cases fA a.2.2.2.1.length 1 4<;>simp
  have et:(true:Bool)=(a.2.2.1==0&&fA a.2.2.2.1.length 1 4):=by
   have q9:(bif (bif (a.2.2.1 !=0)then true else bif (a.1==11)then((a.2.2.2.1.length:Int) !=2)else false)then true else bif (a.1==10)then !(fA a.2.2.2.1.length 1 4)else false)=false:=q8;rw[q7',q6',show(a.2.2.1 !=0)= !(a.2.2.1==0) from rfl]at q9;revert q9;cases (a.2.2.1==0)<;>cases fA a.2.2.2.1.length 1 4<;>simp
  have hlen:a.2.2.2.1.length≤4:=by
   have h1:fA a.2.2.2.1.length 1 4=true:=by
    revert et;cases (a.2.2.1==0)<;>cases fA a.2.2.2.1.length 1 4<;>simp
   have:=iw h1;omega
  refine lp Nat (fun i=>[(3,.int .i64 (i:Nat))]) (fun _=>[]) (fun i=>a.2.2.2.1.length-i) (fun i=>i≤a.2.2.2.1.length∧dZ i (fun k=>jM (iy a.2.2.2.1 k))=true) 0 ⟨Nat.zero_le _,rfl⟩ ?_ ?_
  ·exact hd [] rfl (aI (aI rfl rfl) trivial) trivial
  rintro i ⟨hi,ha⟩;refine aI (fun p1=> ?_) (fun p1=> ?_)
  ·have hlt:i<a.2.2.2.1.length:=by
    have p2:decide (((i:Nat):Int)<(a.2.2.2.1.length:Nat))=true:=p1;simp only[qQ]at p2;omega
   refine aI (show 0≤((i:Nat):Int)∧((i:Nat):Int)<(a.2.2.2.1.length:Nat) by omega) ?_;refine Or.inl (eI _ (aI (X4 _) ?_));refine aI (fun p2=> ?_) (fun p2=> ?_)
   ·have p3:jM (iy a.2.2.2.1 i)=false:=by
     have p4:(!jM (iy a.2.2.2.1 i))=true:=p2;simpa using p4
    refine Eq.trans (Eq.refl _) ?_;rw[ec,show kQ a.2.2.2.1=false from Nk hlt p3,Bool.and_false]
   ·have p3:jM (iy a.2.2.2.1 i)=true:=by
     have p4:(!jM (iy a.2.2.2.1 i))=false:=p2;simpa using p4
    refine bF (i+1) ⟨hlt,by rw[AZ];simp only[ha,p3,Bool.and_true]⟩ ?_ ?_
    ·exact hd [] rfl (aI (aI (dH (by omega)) rfl) trivial) trivial
    ·show a.2.2.2.1.length-(i+1)<a.2.2.2.1.length-i;omega
  ·have hge:a.2.2.2.1.length≤i:=by
    have p2:decide (((i:Nat):Int)<(a.2.2.2.1.length:Nat))=false:=p1;simp only[qP]at p2;omega
   have hie:i=a.2.2.2.1.length:=by omega
   subst hie;refine Eq.trans (Eq.refl _) ?_;rw[ec,show kQ a.2.2.2.1=true from ha,Bool.and_true];exact et
 refine aI (fun q7=> ?_) (fun q7=> ?_)
 ·refine Or.inl (eI _ (aI (fun _=>Bg a.2.2.2.1.length 1 4) ?_))
  have ec:oO k a.2.2.1 a.2.2.2.1=(a.2.2.1==0&&((a.2.2.2.1.length:Int)==2)&&kQ a.2.2.2.1):=by
   unfold oO;rw[ek q1,ek q2,ek q3,ek q4,ek q5,ek q6,ek q7];rfl
  have q6':(a.1==10)=false:=q6;have q7':(a.1==11)=true:=q7;refine aI (fun q8=> ?_) (fun q8=> ?_)
  ·refine Eq.trans (Eq.refl _) ?_;rw[ec];have q9:(bif (bif (a.2.2.1 !=0)then true else bif (a.1==11)then((a.2.2.2.1.length:Int) !=2)else false)then true else bif (a.1==10)then !(fA a.2.2.2.1.length 1 4)else false)=true:=q8;rw[q7',q6',show(a.2.2.1 !=0)= !(a.2.2.1==0) from rfl,show((a.2.2.2.1.length:Int) !=2)= !((a.2.2.2.1.length:Int)==2) from rfl]at q9;revert q9;cases (a.2.2.1==0)<;>cases ((a.2.2.2.1.length:Int)==2)<;>simp
  have et:(true:Bool)=(a.2.2.1==0&&((a.2.2.2.1.length:Int)==2)):=by
   have q9:(bif (bif (a.2.2.1 !=0)then true else bif (a.1==11)then((a.2.2.2.1.length:Int) !=2)else false)then true else bif (a.1==10)then !(fA a.2.2.2.1.length 1 4)else false)=false:=q8;rw[q7',q6',show(a.2.2.1 !=0)= !(a.2.2.1==0) from rfl,show((a.2.2.2.1.length:Int) !=2)= !((a.2.2.2.1.length:Int)==2) from rfl]at q9;revert q9;cases (a.2.2.1==0)<;>cases ((a.2.2.2.1.length:Int)==2)<;>simp
  have hlen:a.2.2.2.1.length≤4:=by
   have h1:((a.2.2.2.1.length:Int)==2)=true:=by
    revert et;cases (a.2.2.1==0)<;>cases ((a.2.2.2.1.length:Int)==2)<;>simp
   have h2:(a.2.2.2.1.length:Int)=2:=by simpa using h1
   omega
  refine lp Nat (fun i=>[(3,.int .i64 (i:Nat))]) (fun _=>[]) (fun i=>a.2.2.2.1.length-i) (fun i=>i≤a.2.2.2.1.length∧dZ i (fun k=>jM (iy a.2.2.2.1 k))=true) 0 ⟨Nat.zero_le _,rfl⟩ ?_ ?_
  ·exact hd [] rfl (aI (aI rfl rfl) trivial) trivial
  rintro i ⟨hi,ha⟩;refine aI (fun p1=> ?_) (fun p1=> ?_)
  ·have hlt:i<a.2.2.2.1.length:=by
    have p2:decide (((i:Nat):Int)<(a.2.2.2.1.length:Nat))=true:=p1;simp only[qQ]at p2;omega
   refine aI (show 0≤((i:Nat):Int)∧((i:Nat):Int)<(a.2.2.2.1.length:Nat) by omega) ?_;refine Or.inl (eI _ (aI (X4 _) ?_));refine aI (fun p2=> ?_) (fun p2=> ?_)
   ·have p3:jM (iy a.2.2.2.1 i)=false:=by
     have p4:(!jM (iy a.2.2.2.1 i))=true:=p2;simpa using p4
    refine Eq.trans (Eq.refl _) ?_;rw[ec,show kQ a.2.2.2.1=false from Nk hlt p3,Bool.and_false]
   ·have p3:jM (iy a.2.2.2.1 i)=true:=by
     have p4:(!jM (iy a.2.2.2.1 i))=false:=p2;simpa using p4
    refine bF (i+1) ⟨hlt,by rw[AZ];simp only[ha,p3,Bool.and_true]⟩ ?_ ?_
    ·exact hd [] rfl (aI (aI (dH (by omega)) rfl) trivial) trivial
    ·show a.2.2.2.1.length-(i+1)<a.2.2.2.1.length-i;omega
  ·have hge:a.2.2.2.1.length≤i:=by
    have p2:decide (((i:Nat):Int)<(a.2.2.2.1.length:Nat))=false:=p1;simp only[qP]at p2;omega
   have hie:i=a.2.2.2.1.length:=by omega
   subst hie;refine Eq.trans (Eq.refl _) ?_;rw[ec,show kQ a.2.2.2.1=true from ha,Bool.and_true];exact et
 ·refine Eq.trans (Eq.refl _) ?_;unfold oO;rw[ek q1,ek q2,ek q3,ek q4,ek q5,ek q6,ek q7];show(bif (a.2.2.1==0)then((a.2.2.2.1.length:Int)==0)else false)=(a.2.2.1==0&&((a.2.2.2.1.length:Int)==0));cases (a.2.2.1==0)<;>rfl
theorem prtI(k f:Int):aJ Tryz.prog 172 [.int .i64 k,.int .i64 f] (.int .i64 (bS k f)):=aJ.FT (l:=[k,f]) (by kernel_rfl) (Bu k f) fun _ _=>Ju _
theorem Xe(n:Int):aJ Tryz.prog 177 [.int .i64 n] (.bool (rC n)):=aJ.FT (l:=[n]) (by kernel_rfl) (PY n) fun _ _=>Ro _
theorem ZX(n:Int):aJ Tryz.prog 178 [.int .i64 n] (.bool (kr n)):=aJ.FT (l:=[n]) (by kernel_rfl) (Db n) fun _ _=>Ro _
theorem Zz(n:Int):aJ Tryz.prog 176 [.int .i64 n] (.bool (jM n)):=aJ.FT (l:=[n]) (by kernel_rfl) (wo n) fun _ _=>Ro _
theorem fldI(k:Int)(n:Nat)(h:n≤9223372036854775807):aJ Tryz.prog 173 [.int .i64 k,.int .i64 (n:Int)] (.int .i64 (dL k n)):=aJ.FT (l:=[k,(n:Int)]) (by kernel_rfl) (fun w=>Hu k n w (by omega) (by omega)) fun _ _=>Ju _
theorem ctnI(xs:List Int):aJ Tryz.prog 77 [.rsl (.int .i64) xs,.fn 175 []] (.bool (!kQ xs)):=by
 refine⟨(by kernel_rfl),fun cx β w fr vs hI hd=> ?_⟩;unfold aH at hd;obtain⟨v1,vs1,rfl,hd1,hd⟩:=hd;unfold aH at hd;obtain⟨v2,vs2,rfl,hd2,hd⟩:=hd;unfold aH at hd;subst hd;unfold Den at hd1 hd2;obtain⟨us,rfl,hd2⟩:=hd2;unfold aH at hd2;subst hd2;obtain⟨A,c,rfl⟩:=hd1.slice;obtain⟨bs,ht⟩:=hd1.now hI;refine Calls.mono (zW xs xs.length w (by rw[←JD];exact ht) rfl) ?_;rintro e w' ⟨rfl,hx⟩;refine⟨_,rfl,?_,hI.ext hx⟩;unfold Den;unfold Nl kQ;simp only[Bool.not_not]
theorem Zaz(a:aj)(hp:a.2.2.2.2.length≤9223372036854775807):aJ Tryz.prog 136 [.agg [.int .i64 a.1,.int .i64 a.2.1,.int .i64 a.2.2.1,.rsl (.int .i64) a.2.2.2.1,.rsl bf a.2.2.2.2]] (.bool (fZ (gA a))):=by
 refine aJ.intro (nt:=117) aG mixed (by kernel_rfl) Tryz.func136 rfl rfl rfl rfl rfl ?_
 have hag:fZ (gA a)=(decide (0<bS a.1 (dL a.1 a.2.2.2.2.length))&&(a.2.2.2.2.length:Int)==bS a.1 (dL a.1 a.2.2.2.2.length)&&dh a.1 a.2.1&&oO a.1 a.2.2.1 a.2.2.2.1):=by
  rw[←NC];unfold fZ fieldsOf;have e:(gA a).aN.length=a.2.2.2.2.length:=qV _;rw[e];rfl
 rw[hag];refine Or.inl (eI _ (aI (fun _=>fldI a.1 a.2.2.2.2.length hp) ?_));refine Or.inl (eI _ (aI (fun _=>prtI a.1 (dL a.1 a.2.2.2.2.length)) ?_));refine Or.inl (eI _ (aI (fun _=>GJ a.1 a.2.1) ?_));refine aI (by kernel_rfl) ?_
 have qc:∀{b:Bool},(bif (bif ((a.2.2.2.2.length:Int)==0)then true else(bS a.1 (dL a.1 a.2.2.2.2.length) !=(a.2.2.2.2.length:Int)))then true else !(dh a.1 a.2.1))=b→(decide (0<bS a.1 (dL a.1 a.2.2.2.2.length))&&(a.2.2.2.2.length:Int)==bS a.1 (dL a.1 a.2.2.2.2.length)&&dh a.1 a.2.1)= !b:=fun {b} h=>by
  generalize bS a.1 (dL a.1 a.2.2.2.2.length)=p at*;subst h;cases dh a.1 a.2.1
  ·simp
  ·by_cases h0:(a.2.2.2.2.length:Int)=0
   ·rw[h0]
    by_cases hp0:p=0
    ·subst hp0;rfl
    ·simp;omega
   ·rw[show((a.2.2.2.2.length:Int)==0)=false by simpa using h0]
    by_cases hpe:p=(a.2.2.2.2.length:Int)
    ·subst hpe;simp;omega
    ·simp only[qH];rw[show(p !=(a.2.2.2.2.length:Int))=true by simpa using hpe,show((a.2.2.2.2.length:Int)==p)=false by simp;omega];simp
 refine aI (fun q1=> ?_) (fun q1=> ?_)
 ·refine Eq.trans (Eq.refl _) ?_;rw[qc q1];rfl
 have hq:=qc q1;rw[hq];refine aI (by kernel_rfl) ?_;refine Or.inl (eI _ (aI (ctnI _) ?_));have cfin:∀{t u:Bool},(t&&u)=oO a.1 a.2.2.1 a.2.2.2.1→(bif t then u else false)=(!false&&oO a.1 a.2.2.1 a.2.2.2.1):=fun {t u} h=>by rw[←h];cases t<;>rfl
 unfold oO at cfin;refine aI (fun k1=> ?_) (fun k1=> ?_)
 ·refine Or.inl (eI _ (aI (Xe _) ?_));refine Eq.trans (Eq.refl _) ?_;refine cfin ?_;rw[show(a.1==6)=true from k1,Bool.and_comm];rfl
 refine aI (fun k2=> ?_) (fun k2=> ?_)
 ·refine Or.inl (eI _ (aI (ZX _) ?_));refine Eq.trans (Eq.refl _) ?_;refine cfin ?_;rw[show(a.1==6)=false from k1,show(a.1==7)=true from k2,Bool.and_comm];rfl
 refine aI (fun k3=> ?_) (fun k3=> ?_)
 ·refine Or.inl (eI _ (aI (ZX _) ?_));refine aI (fun g=> ?_) ?_
  ·have g2:(bif kr a.2.2.1 then((a.2.2.2.1.length:Int)==1)else false)=true:=g;cases ho:kr a.2.2.1 with
   |false=>rw[ho]at g2;cases g2
   |true=>
    rw[ho]at g2;have hl2:(a.2.2.2.1.length:Int)=1:=by simpa using g2
    show(0:Int)≤0∧(0:Int)<(a.2.2.2.1.length:Nat);omega
  refine Or.inl (eI _ (aI (fun _=>Xe _) ?_));refine Eq.trans (Eq.refl _) ?_;unfold oO;rw[show(a.1==6)=false from k1,show(a.1==7)=false from k2,show(a.1==8)=true from k3];show(bif (bif kr a.2.2.1 then((a.2.2.2.1.length:Int)==1)else false)then rC (iy a.2.2.2.1 0)else false)=(!false&&(((a.2.2.2.1.length:Int)==1)&&kr a.2.2.1&&rC (iy a.2.2.2.1 0)));cases ((a.2.2.2.1.length:Int)==1)<;>cases kr a.2.2.1<;>rfl
 refine aI (fun k4=> ?_) (fun k4=> ?_)
 ·refine Eq.trans (Eq.refl _) ?_;refine cfin ?_;rw[show(a.1==6)=false from k1,show(a.1==7)=false from k2,show(a.1==8)=false from k3,show(a.1==9)=true from k4,Bool.and_comm];show _=(((a.2.2.2.1.length:Int)==0)&&fA a.2.2.1 0 3)
  congr 1
  unfold fA;show(bif decide (0≤a.2.2.1)then decide (a.2.2.1<4)else false)=(decide (0≤a.2.2.1)&&decide (a.2.2.1≤3));rw[show decide (a.2.2.1<4)=decide (a.2.2.1≤3) by rw[decide_eq_decide];omega];cases decide (0≤a.2.2.1)<;>rfl
 refine aI (fun k5=> ?_) (fun k5=> ?_)
 ·have k12:(a.1==12)=false:=by
   have:a.1=10:=by simpa using(show(a.1==10)=true from k5)
   rw[this];rfl
  refine Eq.trans (Eq.refl _) ?_;refine cfin ?_;rw[show(a.1==6)=false from k1,show(a.1==7)=false from k2,show(a.1==8)=false from k3,show(a.1==9)=false from k4,k12,show(a.1==10)=true from k5];show((a.2.2.1==0)&&(bif (bif decide (1≤(a.2.2.2.1.length:Int))then decide ((a.2.2.2.1.length:Int)≤4)else false)then !(!kQ a.2.2.2.1)else false))=(a.2.2.1==0&&fA a.2.2.2.1.length 1 4&&kQ a.2.2.2.1);unfold fA;cases (a.2.2.1==0)<;>cases decide (1≤(a.2.2.2.1.length:Int))<;>cases decide ((a.2.2.2.1.length:Int)≤4)<;>cases kQ a.2.2.2.1<;>rfl
 refine aI (fun k6=> ?_) (fun k6=> ?_)
 ·have k12:(a.1==12)=false:=by
   have:a.1=11:=by simpa using(show(a.1==11)=true from k6)
   rw[this];rfl
  refine Eq.trans (Eq.refl _) ?_;refine cfin ?_;rw[show(a.1==6)=false from k1,show(a.1==7)=false from k2,show(a.1==8)=false from k3,show(a.1==9)=false from k4,k12,show(a.1==10)=false from k5,show(a.1==11)=true from k6];show((a.2.2.1==0)&&(bif ((a.2.2.2.1.length:Int)==2)then !(!kQ a.2.2.2.1)else false))=(a.2.2.1==0&&((a.2.2.2.1.length:Int)==2)&&kQ a.2.2.2.1);cases (a.2.2.1==0)<;>cases ((a.2.2.2.1.length:Int)==2)<;>cases kQ a.2.2.2.1<;>rfl
 refine aI (fun k7=> ?_) (fun k7=> ?_)
 ·refine Or.inl (eI _ (aI (Zz _) ?_));refine Eq.trans (Eq.refl _) ?_;refine cfin ?_;rw[show(a.1==6)=false from k1,show(a.1==7)=false from k2,show(a.1==8)=false from k3,show(a.1==9)=false from k4,show(a.1==12)=true from k7,Bool.and_comm];rfl
 ·refine Eq.trans (Eq.refl _) ?_;refine cfin ?_;rw[show(a.1==6)=false from k1,show(a.1==7)=false from k2,show(a.1==8)=false from k3,show(a.1==9)=false from k4,show(a.1==12)=false from k7,show(a.1==10)=false from k5,show(a.1==11)=false from k6];rfl
theorem BA(k f:Int)(w:World):Calls Tryz.prog 168 #[.int .i64 k,.int .i64 f] w fun e w'=>e=.returned (.int .i64 (bS k f))∧Ext w w':=by
 refine fP fun e=> ?_
 have C1:Hid (QC Tryz.prog w _ _ _):=fun W hW=>(P5 f 0 3 W).q
 cases d1:fA f 0 3
 case true=>
  have hf:=iw d1
  go_enter Tryz.func168,Tryz.ntmps168
  go_wp2_with (first|(go_at_call 38;with_reducible refine(C1.out.at_ _).mono ?_;rintro _ _ ⟨rfl,e,rfl⟩))
  repeat (refine cK _ (by kernel_rfl) (by kernel_rfl) ?_;(repeat (go_big_quiet_step ((first|with_reducible exact C1.out.at_ _))));refine wpQuiet_nil ?_;intro e;go_wp2_with (first|(go_at_call 38;with_reducible refine(C1.out.at_ _).mono ?_;rintro _ _ ⟨rfl,e,rfl⟩)))
  all_goals go_ret
  all_goals refine⟨?_,_,rfl⟩
  all_goals first|(simp[bS, *];done)|(simp[bS, *];omega)|(simp_all [bS];done)|(simp_all [bS];omega)
 go_enter Tryz.func168,Tryz.ntmps168
 go_wp2_with (first|(go_at_call 38;with_reducible refine(C1.out.at_ _).mono ?_;rintro _ _ ⟨rfl,e,rfl⟩))
 repeat (refine cK _ (by kernel_rfl) (by kernel_rfl) ?_;(repeat (go_big_quiet_step ((first|with_reducible exact C1.out.at_ _))));refine wpQuiet_nil ?_;intro e;go_wp2_with (first|(go_at_call 38;with_reducible refine(C1.out.at_ _).mono ?_;rintro _ _ ⟨rfl,e,rfl⟩)))
 all_goals go_ret
 all_goals refine⟨?_,_,rfl⟩
 all_goals first|(simp[bS, *];done)|(simp[bS, *];omega)|(simp_all [bS];done)|(simp_all [bS];omega)
end Go.Proofs.YtbdimbjclhmeoaaGreat
namespace Go.Tr
open Go Go.RowKit
theorem vR{n i:Nat}{f:Nat→Bool}(h:i<n)(hf:f i=false):dZ n f=false:=by
 unfold dZ;rw[List.all_eq_false];exact⟨i,List.mem_range.2 h,by rw[hf];decide⟩
theorem vS{i:Nat}{f:Nat→Bool}(h:dZ i f=true)(hf:f i=true):dZ (i+1) f=true:=by
 unfold dZ at*;rw[List.range_succ,List.all_append,h];simp[hf]
def J5:Nat:=9223372036854775807
def UN(xs:List aj):Prop:=xs.length≤J5∧∀i:Nat,i<xs.length→(ah xs (i:Nat)).2.2.2.2.length≤J5
theorem Tm(xs:List aj)(i:Nat):mJ (xs.map gA) i=(fZ (gA (ah xs (i:Nat)))&&((ah xs (i:Nat)).1==1)==((i:Int)==0)):=by unfold mJ;rw[vY];rfl
theorem Cn(xs:List aj):fU (xs.map gA)=(fA xs.length 1 600&&dZ xs.length (mJ (xs.map gA))):=by unfold fU;rw[qV]
end Go.Tr
namespace Go.Proofs.YtbdimbjclhmeoaaGreat
open Go Go.RowKit Go.Proofs Go.Tr
theorem Xl:bI Tryz.prog 65=true:=by kernel_rfl
theorem Oj:bI Tryz.prog 64=true:=by kernel_rfl
theorem prtS(k f:Int):aJ Tryz.prog 168 [.int .i64 k,.int .i64 f] (.int .i64 (bS k f)):=aJ.FT (l:=[k,f]) (by kernel_rfl) (BA k f) fun _ _=>Ju _
theorem HY(a:aj)(hp:a.2.2.2.2.length≤J5):aJ Tryz.prog 169 [.rp aF a] (.int .i64 (dL a.1 a.2.2.2.2.length)):=by
 unfold J5 at hp;refine aJ.intro (nt:=14) aG mixed (by kernel_rfl) Tryz.func169 rfl rfl rfl rfl rfl ?_;unfold dL;refine aI (fun q=> ?_) (fun q=> ?_)
 ·have q2:(a.1==9)=true:=q;rw[if_pos q2];exact⟨qO _ (by omega),rfl⟩
 ·have q2:(a.1==9)=false:=q;rw[if_neg (by rw[q2];decide)];exact⟨rfl,rfl⟩
theorem XI(a:aj)(hp:a.2.2.2.2.length≤J5):aJ Tryz.prog 132 [.rp aF a] (.bool (fZ (gA a))):=by
 have hag:fZ (gA a)=(decide (0<bS a.1 (dL a.1 a.2.2.2.2.length))&&(a.2.2.2.2.length:Int)==bS a.1 (dL a.1 a.2.2.2.2.length)&&dh a.1 a.2.1&&fK (gA a)):=by
  unfold fZ fieldsOf;have e:(gA a).aN.length=a.2.2.2.2.length:=qV _;rw[e];rfl
 rw[hag];refine aJ.intro (nt:=37) aG mixed (by kernel_rfl) Tryz.func132 rfl rfl rfl rfl rfl ?_;refine Or.inl (eI _ (aI (HY a hp) ?_));refine Or.inl (eI _ (aI (prtS _ _) ?_));refine aI (by kernel_rfl) ?_;refine Or.inl (eI _ (aI (fun _=>GK a.1 a.2.1) ?_));refine Or.inl (eI _ (aI (fun _=>Ri a) ?_));refine aI (by kernel_rfl) ?_;refine Eq.trans (Eq.refl _) ?_;show(bif bif bif decide (0<bS a.1 (dL a.1 a.2.2.2.2.length))then(a.2.2.2.2.length:Int)==bS a.1 (dL a.1 a.2.2.2.2.length)else false then dh a.1 a.2.1 else false then fK (gA a)else false)=_
 rw[iO,iO,iO]
theorem U9(xs:List aj)(hx:UN xs):aJ Tryz.prog 100 [.rsl aF xs] (.bool (fU (xs.map gA))):=by
 obtain⟨hl,hp⟩:=hx;rw[Cn];refine aJ.intro (nt:=30) aG mixed (by kernel_rfl) Tryz.func100 rfl rfl rfl rfl rfl ?_;refine Or.inl (eI _ (aI (Bg _ _ _) ?_));refine aI (fun q=> ?_) (fun q=> ?_)
 ·have q2:(!fA ((xs.length:Nat):Int) 1 600)=true:=q;rw[show fA ((xs.length:Nat):Int) 1 600=false by simpa using q2];exact rfl
 have q2:(!fA ((xs.length:Nat):Int) 1 600)=false:=q;have hin:fA ((xs.length:Nat):Int) 1 600=true:=by simpa using q2
 rw[hin,Bool.true_and];have h6:=iw hin;refine lp Nat (fun i=>[(3,.int .i64 (i:Nat))]) (fun _=>[]) (fun i=>xs.length-i) (fun i=>i≤xs.length∧dZ i (mJ (xs.map gA))=true) 0 ⟨Nat.zero_le _,rfl⟩ ?_ ?_
 ·exact hd [] rfl (aI (aI rfl rfl) trivial) trivial
 rintro i ⟨hi,hall⟩;refine aI (fun q1=> ?_) (fun q1=> ?_)
 ·have hlt:i<xs.length:=by
   have q2:decide (((i:Nat):Int)<(xs.length:Nat))=true:=q1;simp only[qQ]at q2;omega
  have hbd:0≤((i:Nat):Int)∧((i:Nat):Int)<(xs.length:Nat):=by omega
  have ho:=Tm xs i;refine aI hbd ?_;refine Or.inl (eI _ (aI (XI (ah xs (i:Nat)) (hp i hlt)) ?_));refine aI (fun _=>hbd) ?_;refine aI (fun q2=> ?_) (fun q2=> ?_)
  ·have q3:(bif !fZ (gA (ah xs (i:Nat)))then true else(((ah xs (i:Nat)).1==1) !=(((i:Nat):Int)==0)))=true:=q2;rw[vR hlt (by rw[ho];revert q3;cases fZ (gA (ah xs (i:Nat)))<;>cases ((ah xs (i:Nat)).1==1)<;>cases (((i:Nat):Int)==0)<;>simp)];exact rfl
  ·have q3:(bif !fZ (gA (ah xs (i:Nat)))then true else(((ah xs (i:Nat)).1==1) !=(((i:Nat):Int)==0)))=false:=q2;refine bF (i+1) ⟨hlt,vS hall (by rw[ho];revert q3;cases fZ (gA (ah xs (i:Nat)))<;>cases ((ah xs (i:Nat)).1==1)<;>cases (((i:Nat):Int)==0)<;>simp)⟩ ?_ ?_
   ·exact hd [] rfl (aI (aI (dH (by omega)) rfl) trivial) trivial
   ·show xs.length-(i+1)<xs.length-i;omega
 ·have hge:i=xs.length:=by
   have q2:decide (((i:Nat):Int)<(xs.length:Nat))=false:=q1;simp only[qP]at q2;omega
  subst hge;rw[hall];exact rfl
end Go.Proofs.YtbdimbjclhmeoaaGreat
namespace Go.Tr
open Go Go.RowKit
theorem MI(k f:Int):bS k f≤4:=by
 unfold bS;split
 ·split
  ·rename_i h;have:=iw h;omega
  ·omega
 ·repeat' split
  all_goals omega
theorem GI{a:aD}(h:fZ a=true):1≤a.aN.length∧a.aN.length≤4:=by
 simp only[fZ,qD,qQ,beq_iff_eq]at h;have:=MI a.kind (fieldsOf a);omega
theorem vO{l:List aD}(h:fU l=true):1≤l.length∧l.length≤600∧∀k,k<l.length→mJ l k=true:=by
 simp only[fU,qD]at h;have h1:=iw h.1;exact⟨by omega,by omega,fun k hk=>qh h.2 hk⟩
theorem sJ{l:List aD}{k:Nat}(h:mJ l k=true):(jG l k).aN.length≤4:=by
 simp only[mJ,qD]at h;exact(GI h.1).2
def PrL(bk:List (List aj)):Prop:=∀i:Nat,i<bk.length→UN (bJ bk (i:Nat))
theorem DK(xs:List aj)(p:aC):iX (xs.map gA) (gP p)=(fA p.1 0 ((xs.length:Int)-1)&&fA p.2 0 (((ah xs (p.1.toNat:Nat)).2.2.2.2.length:Int)-1)):=by
 unfold iX;rw[qV];show(_&&fA p.2 0 (((jG (xs.map gA) p.1.toNat).aN.length:Int)-1))=_;rw[vY,mV,qV];rfl
theorem Rz(p q:aC):xK (gP p) (gP q)=Hf p q:=by
 rw[Bool.eq_iff_iff,Vt];unfold xK;simp only[qQ];exact⟨RV,fun e=>by rw[e]⟩
def nG(xs:List aj)(me:aC):Bool:=bif (bif Hf (ay xs me) me then true else !iX (xs.map gA) (gP (ay xs me)))then false else Hf (ay xs (ay xs me)) me
theorem OB(xs:List aj)(i:Nat)(k:Nat):Ay (jG (xs.map gA) i).aN k=gP (ay xs (((i:Nat):Int),((k:Nat):Int))):=by
 rw[vY,mV,RU];rfl
theorem K7(xs:List aj)(i k:Nat):Pf (xs.map gA) ⟨(i:Nat),(k:Nat)⟩ (Ay (jG (xs.map gA) i).aN k)=nG xs (((i:Nat):Int),((k:Nat):Int)):=by
 rw[OB];unfold Pf nG;have e1:(⟨((i:Nat):Int),((k:Nat):Int)⟩:aR)=gP (((i:Nat):Int),((k:Nat):Int)):=rfl;rw[e1,Rz];generalize ((((i:Nat):Int),((k:Nat):Int)):aC)=me;cases he:Hf (ay xs me) me with
 |true=>rfl
 |false=>
  cases hp:iX (xs.map gA) (gP (ay xs me))with
  |false=>rfl
  |true=>
   have hin:=uW hp
   have e2:Mv (xs.map gA) (gP (ay xs me))=gP (ay xs (ay xs me)):=by
    have h0:=hin.1;have h2:=hin.2.2.1;generalize ay xs me=p at*;have e3:p=(((p.1.toNat:Nat):Int),((p.2.toNat:Nat):Int)):=Prod.ext (by simp only;omega) (by simp only;omega)
    conv=>rhs;rw[e3]
    rw[←OB];rfl
   rw[e2,Rz];rfl
end Go.Tr
namespace Go.Proofs.YtbdimbjclhmeoaaGreat
open Go Go.RowKit Go.Proofs Go.Tr
theorem YC(xs:List aj)(hx:UN xs)(p:aC):aJ Tryz.prog 101 [.rsl aF xs,vP p] (.bool (iX (xs.map gA) (gP p))):=by
 obtain⟨hl,hp⟩:=hx;unfold J5 at hl hp;rw[DK];have w1:IntKind.i64.wrap (((xs.length:Nat):Int)-1)=((xs.length:Nat):Int)-1:=qO _ (by omega);refine aJ.intro (nt:=24) aG mixed (by kernel_rfl) Tryz.func101 rfl rfl rfl rfl rfl ?_;refine Or.inl (eI _ (aI (Bg _ _ _) ?_));refine aI (fun q=> ?_) ?_
 ·have q':fA p.1 0 (IntKind.i64.wrap (((xs.length:Nat):Int)-1))=true:=q;rw[w1]at q';have:=iw q';exact⟨this.1,by omega⟩
 refine Or.inl (eI _ (aI (fun gg=>Bg _ _ _) ?_));refine aI (by kernel_rfl) ?_;show(bif fA p.1 0 (IntKind.i64.wrap (((xs.length:Nat):Int)-1))then fA p.2 0 (IntKind.i64.wrap ((((ah xs p.1).2.2.2.2.length:Nat):Int)-1))else false)=_;rw[iO,w1];cases hi:fA p.1 0 (((xs.length:Nat):Int)-1)with
 |false=>rfl
 |true=>
  have hb:=iw hi;have h4:=hp p.1.toNat (by omega);rw[show((p.1.toNat:Nat):Int)=p.1 by omega]at h4 ⊢;rw[qO _ (by omega)]
theorem ZU(xs:List aj)(hx:UN xs):aJ Tryz.prog 65 [.rp aZ xs] (.bool (gZ (gN xs))):=by
 have e0:gZ (gN xs)=(fU (xs.map gA)&&dZ xs.length (pO (xs.map gA))):=by unfold gZ gN;rw[qV]
 rw[e0];refine aJ.intro (nt:=77) aG mixed Xl Tryz.func65 rfl rfl rfl rfl rfl ?_;refine Or.inl (eI _ (aI (U9 xs hx) ?_));refine aI (fun q=> ?_) (fun q=> ?_)
 ·have q2:(!fU (xs.map gA))=true:=q;rw[show fU (xs.map gA)=false by simpa using q2];exact rfl
 have q2:(!fU (xs.map gA))=false:=q;have hag:fU (xs.map gA)=true:=by simpa using q2
 rw[hag,Bool.true_and];obtain⟨g1,g2,g3⟩:=vO hag;rw[qV]at g2 g3;refine lp Nat (fun i=>[(3,.int .i64 (i:Nat))]) (fun _=>[]) (fun i=>xs.length-i) (fun i=>i≤xs.length∧dZ i (pO (xs.map gA))=true) 0 ⟨Nat.zero_le _,rfl⟩ ?_ ?_
 ·exact hd [] rfl (aI (aI rfl rfl) trivial) trivial
 rintro i ⟨hi,hall⟩;refine aI (fun q1=> ?_) (fun q1=> ?_)
 ·have hlt:i<xs.length:=by
   have q2:decide (((i:Nat):Int)<(xs.length:Nat))=true:=q1;simp only[qQ]at q2;omega
  have hbd:0≤((i:Nat):Int)∧((i:Nat):Int)<(xs.length:Nat):=by omega
  have h4:=sJ (g3 i hlt);have el:(jG (xs.map gA) i).aN.length=(ah xs (i:Nat)).2.2.2.2.length:=by rw[vY,mV,qV]
  rw[el]at h4
  have hw:pO (xs.map gA) i=dZ (ah xs (i:Nat)).2.2.2.2.length fun k=>nG xs (((i:Nat):Int),((k:Nat):Int)):=by
   unfold pO;rw[el]
   congr 1
   exact funext fun k=>K7 xs i k
  refine aI hbd ?_;refine lp Nat (fun k=>[(5,.int .i64 (k:Nat))]) (fun _=>[]) (fun k=>(ah xs (i:Nat)).2.2.2.2.length-k) (fun k=>k≤(ah xs (i:Nat)).2.2.2.2.length∧dZ k (fun k=>nG xs (((i:Nat):Int),((k:Nat):Int)))=true) 0 ⟨Nat.zero_le _,rfl⟩ ?_ ?_
  ·exact hd [] rfl (aI (aI rfl rfl) trivial) trivial
  rintro k ⟨hk,hkl⟩;refine aI (fun q2=> ?_) (fun q2=> ?_)
  ·have hlk:k<(ah xs (i:Nat)).2.2.2.2.length:=by
    have q3:decide (((k:Nat):Int)<((ah xs (i:Nat)).2.2.2.2.length:Nat))=true:=q2;simp only[qQ]at q3;omega
   refine aI (show 0≤((k:Nat):Int)∧((k:Nat):Int)<((ah xs (i:Nat)).2.2.2.2.length:Nat) by omega) ?_
   have hgi:(!(bif Hf (ay xs (((i:Nat):Int),((k:Nat):Int))) (((i:Nat):Int),((k:Nat):Int))then true else !iX (xs.map gA) (gP (ay xs (((i:Nat):Int),((k:Nat):Int))))))=true→ak xs (ay xs (((i:Nat):Int),((k:Nat):Int))):=fun h=>by
    refine uW ?_;revert h;cases Hf (ay xs (((i:Nat):Int),((k:Nat):Int))) (((i:Nat):Int),((k:Nat):Int))<;>cases iX (xs.map gA) (gP (ay xs (((i:Nat):Int),((k:Nat):Int))))<;>simp
   refine aI ⟨by kernel_rfl,rfl⟩ ?_;refine Or.inl (eI _ (aI (fun _=>YC xs hx (ay xs (((i:Nat):Int),((k:Nat):Int)))) ?_));refine aI (fun gg=> ?_) ?_
   ·have h:=hgi gg;exact⟨h.1,h.2.1⟩
   refine aI (fun gg=> ?_) ?_
   ·have h:=hgi gg;exact⟨h.2.2.1,h.2.2.2⟩
   refine aI (fun _=>⟨by kernel_rfl,rfl⟩) ?_;refine aI (by kernel_rfl) ?_;refine aI (fun q3=> ?_) (fun q3=> ?_)
   ·have q4:(bif (bif Hf (ay xs (((i:Nat):Int),((k:Nat):Int))) (((i:Nat):Int),((k:Nat):Int))then true else !iX (xs.map gA) (gP (ay xs (((i:Nat):Int),((k:Nat):Int)))))then true else !Hf (ay xs (ay xs (((i:Nat):Int),((k:Nat):Int)))) (((i:Nat):Int),((k:Nat):Int)))=true:=q3
    have hf:nG xs (((i:Nat):Int),((k:Nat):Int))=false:=by
     unfold nG;revert q4;cases (bif Hf (ay xs (((i:Nat):Int),((k:Nat):Int))) (((i:Nat):Int),((k:Nat):Int))then true else !iX (xs.map gA) (gP (ay xs (((i:Nat):Int),((k:Nat):Int)))))<;>simp
    rw[vR hlt (by rw[hw];exact vR hlk hf)];exact rfl
   ·have q4:(bif (bif Hf (ay xs (((i:Nat):Int),((k:Nat):Int))) (((i:Nat):Int),((k:Nat):Int))then true else !iX (xs.map gA) (gP (ay xs (((i:Nat):Int),((k:Nat):Int)))))then true else !Hf (ay xs (ay xs (((i:Nat):Int),((k:Nat):Int)))) (((i:Nat):Int),((k:Nat):Int)))=false:=q3
    have hf:nG xs (((i:Nat):Int),((k:Nat):Int))=true:=by
     unfold nG;revert q4;cases (bif Hf (ay xs (((i:Nat):Int),((k:Nat):Int))) (((i:Nat):Int),((k:Nat):Int))then true else !iX (xs.map gA) (gP (ay xs (((i:Nat):Int),((k:Nat):Int)))))<;>simp
    refine bF (k+1) ⟨hlk,vS hkl hf⟩ ?_ ?_
    ·exact hd [] rfl (aI (aI (dH (by omega)) rfl) trivial) trivial
    ·show(ah xs (i:Nat)).2.2.2.2.length-(k+1)<(ah xs (i:Nat)).2.2.2.2.length-k;omega
  ·have hge:k=(ah xs (i:Nat)).2.2.2.2.length:=by
    have q3:decide (((k:Nat):Int)<((ah xs (i:Nat)).2.2.2.2.length:Nat))=false:=q2;simp only[qP]at q3;omega
   subst hge;refine bF (i+1) ⟨hlt,vS hall (by rw[hw];exact hkl)⟩ ?_ ?_
   ·exact hd [] rfl (aI (aI (dH (by omega)) rfl) trivial) trivial
   ·show xs.length-(i+1)<xs.length-i;omega
 ·have hge:i=xs.length:=by
   have q2:decide (((i:Nat):Int)<(xs.length:Nat))=false:=q1;simp only[qP]at q2;omega
  subst hge;rw[hall];exact rfl
theorem XR(bk:List (List aj))(hx:PrL bk):aJ Tryz.prog 64 [.rsl aZ bk] (.bool (jq (bk.map gN))):=by
 have e0:jq (bk.map gN)=(decide ((bk.length:Int)≤24)&&dZ bk.length fun k=>gZ (gN (bJ bk (k:Nat)))):=by
  unfold jq;rw[qV]
  congr 2
  exact funext fun k=>by rw[Cr]
 rw[e0];refine aJ.intro (nt:=18) aG mixed Oj Tryz.func64 rfl rfl rfl rfl rfl ?_;refine aI (fun q=> ?_) (fun q=> ?_)
 ·have q2:decide ((24:Int)<(bk.length:Nat))=true:=q;simp only[qQ]at q2;have h24:decide ((bk.length:Int)≤24)=false:=by simp only[qP];omega
  rw[h24];exact rfl
 have q2:decide ((24:Int)<(bk.length:Nat))=false:=q;simp only[qP]at q2;have h24:decide ((bk.length:Int)≤24)=true:=by simp only[qQ];omega
 rw[h24,Bool.true_and];refine lp Nat (fun i=>[(3,.int .i64 (i:Nat))]) (fun _=>[]) (fun i=>bk.length-i) (fun i=>i≤bk.length∧dZ i (fun k=>gZ (gN (bJ bk (k:Nat))))=true) 0 ⟨Nat.zero_le _,rfl⟩ ?_ ?_
 ·exact hd [] rfl (aI (aI rfl rfl) trivial) trivial
 rintro i ⟨hi,hall⟩;refine aI (fun q1=> ?_) (fun q1=> ?_)
 ·have hlt:i<bk.length:=by
   have q3:decide (((i:Nat):Int)<(bk.length:Nat))=true:=q1;simp only[qQ]at q3;omega
  refine aI (show 0≤((i:Nat):Int)∧((i:Nat):Int)<(bk.length:Nat) by omega) ?_;refine Or.inl (eI _ (aI (ZU (bJ bk (i:Nat)) (hx i hlt)) ?_));refine aI (fun q3=> ?_) (fun q3=> ?_)
  ·have q4:(!gZ (gN (bJ bk (i:Nat))))=true:=q3;rw[vR hlt (by simpa using q4)];exact rfl
  ·have q4:(!gZ (gN (bJ bk (i:Nat))))=false:=q3;refine bF (i+1) ⟨hlt,vS hall (by simpa using q4)⟩ ?_ ?_
   ·exact hd [] rfl (aI (aI (dH (by omega)) rfl) trivial) trivial
   ·show bk.length-(i+1)<bk.length-i;omega
 ·have hge:i=bk.length:=by
   have q3:decide (((i:Nat):Int)<(bk.length:Nat))=false:=q1;simp only[qP]at q3;omega
  subst hge;rw[hall];exact rfl
end Go.Proofs.YtbdimbjclhmeoaaGreat
namespace Go.Tr
open Go Go.RowKit
theorem aJ.pre{P:Program}{f:Nat}{args:List SV}{r:SV}{Φ:Prop}(hok:bI P f=true)(hd:∀(cx:Cx) (β:Nat→Value) (vs:List Value),aH cx β args vs→Φ)(h:Φ→aJ P f args r):aJ P f args r:=
 ⟨hok,fun cx β w fr vs hI hD=>(h (hd cx β vs hD)).2 cx β w fr vs hI hD⟩
theorem MK{w:World}{xs:List aj}{bs:List Nat}{v:Value}(h:T1 w (.sl xs.length (xs.flatMap (enc aF))) bs v):UN xs:=by
 obtain⟨A,c,rfl,h1,h2⟩:=h.slice;refine⟨by unfold maxLen at h2;unfold J5;omega,fun i hi=> ?_⟩;obtain⟨_,b,off,b1,b2,b3,us,_,_,_,_,ht⟩:=T1.at_ (s:=5) (fun x=>bD aF x) h rfl hi;have e:ah xs (i:Nat)=xs[i]:=tJ hi;rw[e];generalize xs[i]=a at*;have ht':TN w ([.v (.int .i64 a.1)]++([.v (.int .i64 a.2.1)]++([.v (.int .i64 a.2.2.1)]++([.sl a.2.2.2.1.length (a.2.2.2.1.flatMap (enc (.int .i64)))]++[.sl a.2.2.2.2.length (a.2.2.2.2.flatMap (enc bf))])))) b2 us:=ht;obtain⟨_,rfl,t1⟩:=TN.iD ht';obtain⟨_,rfl,t2⟩:=TN.iD t1
 obtain⟨_,rfl,t3⟩:=TN.iD t2;obtain⟨_,_,_,_,_,_,_,t4⟩:=TN.cons.1 t3;obtain⟨_,_,_,_,_,_,t7,_⟩:=TN.cons.1 t4;obtain⟨_,_,_,k1,k2⟩:=t7.slice;unfold maxLen at k2;unfold J5;omega
theorem YE{w:World}{bk:List (List aj)}{bs:List Nat}{v:Value}(h:T1 w (.sl bk.length (bk.flatMap (enc aZ))) bs v):PrL bk:=fun i hi=>by
 obtain⟨A,c,rfl,_,_⟩:=h.slice;obtain⟨_,b,off,b1,b2,b3,us,_,_,_,_,ht⟩:=T1.at_ (s:=1) (fun x=>bD aZ x) h rfl hi
 have e:bJ bk (i:Nat)=bk[i]:=by
  unfold bJ elt;rw[qK,qC,qB hi];rfl
 rw[e];generalize bk[i]=xs at*;have ht':TN w [.sl xs.length (xs.flatMap (enc aF))] b2 us:=ht;obtain⟨_,_,_,_,_,_,t1,_⟩:=TN.cons.1 ht';exact MK t1
theorem wV{cx:Cx}{β:Nat→Value}{s:SV}{l:List SV}{vs:List Value}(h:aH cx β (s::l) vs):∃v,Den cx β s v:=by
 unfold aH at h;obtain⟨v,_,_,h1,_⟩:=h;exact⟨v,h1⟩
theorem YD{cx:Cx}{β:Nat→Value}{xs:List aj}{l:List SV}{vs:List Value}(h:aH cx β (.rsl aF xs::l) vs):UN xs:=by
 obtain⟨v,h1⟩:=wV h;unfold Den at h1;obtain⟨bs,ht,_⟩:=h1;exact MK ht
theorem YF{cx:Cx}{β:Nat→Value}{bk:List (List aj)}{l:List SV}{vs:List Value}(h:aH cx β (.rsl aZ bk::l) vs):PrL bk:=by
 obtain⟨v,h1⟩:=wV h;unfold Den at h1;obtain⟨bs,ht,_⟩:=h1;exact YE ht
theorem V8{cx:Cx}{β:Nat→Value}{xs:List aj}{l:List SV}{vs:List Value}(h:aH cx β (.agg [.rsl aF xs]::l) vs):UN xs:=by
 obtain⟨v,h1⟩:=wV h;unfold Den at h1;obtain⟨us,_,h2⟩:=h1;exact YD h2
theorem V9{cx:Cx}{β:Nat→Value}{xs:List aj}{l:List SV}{vs:List Value}(h:aH cx β (.rp aZ xs::l) vs):UN xs:=by
 obtain⟨v,h1⟩:=wV h;unfold Den at h1;obtain⟨b,o,_,_,_,us,_,bs,ht,_⟩:=h1;have ht':TN cx.w0 [.sl xs.length (xs.flatMap (enc aF))] bs us:=ht;obtain⟨_,_,_,_,_,_,t1,_⟩:=TN.cons.1 ht';exact MK t1
end Go.Tr
namespace Go.Proofs.YtbdimbjclhmeoaaGreat
open Go Go.RowKit Go.Proofs Go.Tr
theorem VX(xs:List aj):aJ Tryz.prog 65 [.rp aZ xs] (.bool (gZ (gN xs))):=aJ.pre Xl (fun _ _ _ h=>V9 h) (ZU xs)
theorem Nr(bk:List (List aj)):aJ Tryz.prog 64 [.rsl aZ bk] (.bool (jq (bk.map gN))):=aJ.pre Oj (fun _ _ _ h=>YF h) (XR bk)
end Go.Proofs.YtbdimbjclhmeoaaGreat
namespace Go.Tr
open Go Go.RowKit
def DL(i k:Nat):List aC:=(List.range k).map fun j:Nat=>(((i:Nat):Int),((j:Nat):Int))
def yw(xs:List aj)(n:Nat):List aC:=(List.range n).flatMap fun i:Nat=>DL i (ah xs (i:Nat)).2.2.2.2.length
theorem Qp(i k:Nat):DL i (k+1)=DL i k++[(((i:Nat):Int),((k:Nat):Int))]:=by unfold DL;rw[List.range_succ,qZ];rfl
theorem Gh(xs:List aj)(i:Nat):yw xs (i+1)=yw xs i++DL i (ah xs (i:Nat)).2.2.2.2.length:=by unfold yw;rw[List.range_succ,List.flatMap_append];simp
theorem KC(i k:Nat):(DL i k).length=k:=by unfold DL;simp
theorem DN{xs:List aj}(h:∀i:Nat,i<xs.length→(ah xs (i:Nat)).2.2.2.2.length≤4):∀i:Nat,i≤xs.length→(yw xs i).length≤4*i
 |0,_=>Nat.le_refl 0
 |i+1,hi=>by
  rw[Gh,qA,KC];have:=DN h i (by omega);have:=h i (by omega);omega
theorem Wd{xs:List aj}{p:aC}(h:p∈yw xs xs.length):ak xs p:=by
 unfold yw at h;obtain⟨i,hi,hp⟩:=List.mem_flatMap.1 h;rw[List.mem_range]at hi;unfold DL at hp;obtain⟨k,hk,rfl⟩:=List.mem_map.1 hp;rw[List.mem_range]at hk;exact⟨by simp only;omega,by simp only;omega,by simp only;omega,by simp only;show((k:Nat):Int)<((ah xs (i:Nat)).2.2.2.2.length:Nat);omega⟩
theorem TP(xs:List aj)(h:fU (xs.map gA)=true):(!(yw xs xs.length).any fun p=> !nG xs p)=gZ (gN xs):=by
 have e0:gZ (gN xs)=(fU (xs.map gA)&&dZ xs.length (pO (xs.map gA))):=by unfold gZ gN;rw[qV]
 rw[e0,h,Bool.true_and];unfold yw dZ;rw[List.any_flatMap,List.not_any_eq_all_not]
 congr 1
 refine funext fun i=> ?_
 have el:(jG (xs.map gA) i).aN.length=(ah xs (i:Nat)).2.2.2.2.length:=by rw[vY,mV,qV]
 unfold DL pO dZ;rw[List.any_map,List.not_any_eq_all_not,el]
 congr 1
 refine funext fun k=> ?_
 rw[K7];simp
theorem MG(xs:List aj)(p:aC):(bif (bif (bif decide (0≤p.1)then decide (p.1<(xs.length:Nat))else false)then decide (0≤p.2)else false)then decide (p.2<((ah xs p.1).2.2.2.2.length:Nat))else false)=iX (xs.map gA) (gP p):=by
 rw[DK,Bool.eq_iff_iff];unfold fA
 by_cases h0:0≤p.1
 ·rw[show((p.1.toNat:Nat):Int)=p.1 by omega]
  by_cases h1:p.1<(xs.length:Nat)<;>by_cases h2:0≤p.2<;>by_cases h3:p.2<((ah xs p.1).2.2.2.2.length:Nat)<;>simp[h0,h1,h2,h3]<;>omega
 ·simp[h0]
theorem Ig{α:Type}{g:α→Bool}:∀{l:List α} {k:Int},0≤k→decide (0≤rA g l k)=l.any g
 |[],k,_=>rfl
 |x::l,k,h=>by
  conv=>lhs;unfold rA
  rw[List.any_cons];cases hx:g x with
  |true=>simp[h]
  |false=>
   simp only[qH,Bool.false_or];exact Ig (by omega)
end Go.Tr
namespace Go.Proofs.YtbdimbjclhmeoaaGreat
open Go Go.RowKit Go.Proofs Go.Tr
theorem Km:bI Tryz.prog 108=true:=by kernel_rfl
theorem TA:bI Tryz.prog 74=true:=by kernel_rfl
theorem Xj:bI Tryz.prog 107=true:=by kernel_rfl
theorem XL(xs:List aj)(hx:UN xs):aJ Tryz.prog 106 [.rsl aF xs] (.bool (fU (xs.map gA))):=by
 obtain⟨hl,hp⟩:=hx;rw[Cn];refine aJ.intro (nt:=32) aG mixed (by kernel_rfl) Tryz.func106 rfl rfl rfl rfl rfl ?_;refine aI (fun q=> ?_) (fun q=> ?_)
 ·have q2:(bif decide (((xs.length:Nat):Int)<1)then true else decide ((600:Int)<(xs.length:Nat)))=true:=q
  have hin:fA ((xs.length:Nat):Int) 1 600=false:=by
   cases hh:fA ((xs.length:Nat):Int) 1 600 with
   |false=>rfl
   |true=>
    have:=iw hh;rw[decide_eq_false (by omega),decide_eq_false (by omega)]at q2;cases q2
  rw[hin];exact rfl
 have q2:(bif decide (((xs.length:Nat):Int)<1)then true else decide ((600:Int)<(xs.length:Nat)))=false:=q
 have hin:fA ((xs.length:Nat):Int) 1 600=true:=by
  unfold fA
  by_cases h1:((xs.length:Nat):Int)<1
  ·rw[decide_eq_true h1]at q2;cases q2
  ·rw[decide_eq_false h1]at q2;simp only[qH,qP]at q2;simp only[qD,qQ];omega
 have h6:=iw hin;rw[hin,Bool.true_and];refine lp Nat (fun i=>[(15,.int .i64 (i:Nat))]) (fun _=>[]) (fun i=>xs.length-i) (fun i=>i≤xs.length∧dZ i (mJ (xs.map gA))=true) 0 ⟨Nat.zero_le _,rfl⟩ ?_ ?_
 ·exact hd [] rfl (aI (aI rfl rfl) trivial) trivial
 rintro i ⟨hi,hall⟩;refine aI (fun q1=> ?_) (fun q1=> ?_)
 ·have hlt:i<xs.length:=by
   have q2:decide (((i:Nat):Int)<(xs.length:Nat))=true:=q1;simp only[qQ]at q2;omega
  have hbd:0≤((i:Nat):Int)∧((i:Nat):Int)<(xs.length:Nat):=by omega
  have ho:=Tm xs i;refine aI hbd ?_;refine Or.inl (eI _ (aI (Zaz (ah xs (i:Nat)) (hp i hlt)) ?_));refine aI (fun q2=> ?_) (fun q2=> ?_)
  ·have q3:(bif !fZ (gA (ah xs (i:Nat)))then true else(((ah xs (i:Nat)).1==1) !=(((i:Nat):Int)==0)))=true:=q2;rw[vR hlt (by rw[ho];revert q3;cases fZ (gA (ah xs (i:Nat)))<;>cases ((ah xs (i:Nat)).1==1)<;>cases (((i:Nat):Int)==0)<;>simp)];exact rfl
  ·have q3:(bif !fZ (gA (ah xs (i:Nat)))then true else(((ah xs (i:Nat)).1==1) !=(((i:Nat):Int)==0)))=false:=q2;refine bF (i+1) ⟨hlt,vS hall (by rw[ho];revert q3;cases fZ (gA (ah xs (i:Nat)))<;>cases ((ah xs (i:Nat)).1==1)<;>cases (((i:Nat):Int)==0)<;>simp)⟩ ?_ ?_
   ·exact hd [] rfl (aI (aI (dH (by omega)) rfl) trivial) trivial
   ·show xs.length-(i+1)<xs.length-i;omega
 ·have hge:i=xs.length:=by
   have q2:decide (((i:Nat):Int)<(xs.length:Nat))=false:=q1;simp only[qP]at q2;omega
  subst hge;rw[hall];exact rfl
theorem ZJ(xs:List aj)(p:aC):aJ Tryz.prog 111 [.rsl aF xs,vP p] (.bool (iX (xs.map gA) (gP p))):=by
 refine aJ.intro (nt:=32) aG mixed (by kernel_rfl) Tryz.func111 rfl rfl rfl rfl rfl ?_;refine aI (fun q=> ?_) ?_
 ·have q':(bif bif decide (0≤p.1)then decide (p.1<(xs.length:Nat))else false then decide (0≤p.2)else false)=true:=q;rw[iO,iO,qD,qD,qQ,qQ]at q';exact q'.1
 refine aI (by kernel_rfl) ?_;exact MG xs p
theorem Z6(xs:List aj)(h:fU (xs.map gA)=true):aA Tryz.prog 108 [.rp aZ xs] [] (.sl 10000) [.row 10000 119 2 bf (yw xs xs.length) []]:=by
 obtain⟨g1,g2,g3⟩:=vO h;rw[qV]at g2 g3
 have hp:∀i:Nat,i<xs.length→(ah xs (i:Nat)).2.2.2.2.length≤4:=fun i hi=>by
  have:=sJ (g3 i hi);rw[vY,mV,qV]at this;exact this
 have hlen:=DN hp;refine aA.intro (nt:=32) aG mixed Km Tryz.func108 rfl rfl rfl rfl rfl rfl ?_;refine lp Nat (fun i=>[(3,.sl 20000),(12,.int .i64 (i:Nat))]) (fun i=>[.row 20000 119 2 bf (yw xs i) []]) (fun i=>xs.length-i) (fun i=>i≤xs.length) 0 (Nat.zero_le _) ?_ ?_
 ·exact Zb [⟨3,30000,119,2,bf⟩] [(20000,30000)] rfl (aI ⟨rfl,⟨rfl,rfl⟩,trivial⟩ ⟨⟨rfl,nP⟩,trivial⟩)
 intro i hi;refine aI (fun q1=> ?_) (fun q1=> ?_)
 ·have hlt:i<xs.length:=by
   have q2:decide (((i:Nat):Int)<(xs.length:Nat))=true:=q1;simp only[qQ]at q2;omega
  have hpi:=hp i hlt;have hli:=hlen i hi;refine aI ⟨by omega,by omega⟩ ?_;refine lp Nat (fun k=>[(3,.sl 21000),(20,.int .i64 (k:Nat))]) (fun k=>[.dF 5 117 [.int .i64 (ah xs (i:Nat)).1,.int .i64 (ah xs (i:Nat)).2.1,.int .i64 (ah xs (i:Nat)).2.2.1,.rsl (.int .i64) (ah xs (i:Nat)).2.2.2.1,.rsl bf (ah xs (i:Nat)).2.2.2.2],.row 21000 119 2 bf (yw xs i++DL i k) []]) (fun k=>(ah xs (i:Nat)).2.2.2.2.length-k) (fun k=>k≤(ah xs (i:Nat)).2.2.2.2.length) 0 (Nat.zero_le _) ?_ ?_
  ·refine hd [(21000,20000)] rfl (aI rfl ⟨⟨rfl,rfl⟩,trivial⟩) ?_;exact⟨trivial,⟨⟨rfl,rfl⟩,⟨rfl,rfl⟩,⟨rfl,rfl⟩,rfl,rfl,trivial⟩,⟨(qS _).symm,nP⟩,trivial⟩
  intro k hk;refine aI (fun q2=> ?_) (fun q2=> ?_)
  ·have hk2:k<(ah xs (i:Nat)).2.2.2.2.length:=by
    have q3:decide (((k:Nat):Int)<((ah xs (i:Nat)).2.2.2.2.length:Nat))=true:=q2;simp only[qQ]at q3;omega
   refine aI (by show(yw xs i++DL i k).length+1≤_;rw[qA,KC];omega) ?_;refine bF (k+1) hk2 ?_ (by show(ah xs (i:Nat)).2.2.2.2.length-(k+1)<(ah xs (i:Nat)).2.2.2.2.length-k;omega);refine hd [(21000,28)] rfl (aI rfl ⟨⟨dH (by omega),rfl⟩,trivial⟩) ?_;exact⟨trivial,⟨⟨rfl,rfl⟩,⟨rfl,rfl⟩,⟨rfl,rfl⟩,rfl,rfl,trivial⟩,⟨by rw[Qp,←qF];rfl,nP⟩,trivial⟩
  have hke:k=(ah xs (i:Nat)).2.2.2.2.length:=by
   have q3:decide (((k:Nat):Int)<((ah xs (i:Nat)).2.2.2.2.length:Nat))=false:=q2;simp only[qP]at q3;have hk':k≤(ah xs (i:Nat)).2.2.2.2.length:=hk;omega
  subst hke;refine bF (i+1) hlt ?_ (by show xs.length-(i+1)<xs.length-i;omega);exact hd [(20000,21000)] rfl (aI rfl ⟨⟨dH (by omega),rfl⟩,trivial⟩) ⟨⟨(Gh xs i).symm,nP⟩,trivial⟩
 have hge:i=xs.length:=by
  have q2:decide (((i:Nat):Int)<(xs.length:Nat))=false:=q1;simp only[qP]at q2;have hi':i≤xs.length:=hi;omega
 subst hge;exact fin [(10000,20000)] (aI rfl ⟨⟨rfl,nP⟩,trivial⟩)
theorem vn1Q(xs:List aj)(p:aC)(hp:ak xs p):aJ Tryz.prog 109 [vP p,.rp aZ xs] (.bool (!nG xs p)):=by
 have hgi:(!(bif Hf (ay xs p) p then true else !iX (xs.map gA) (gP (ay xs p))))=true→ak xs (ay xs p):=fun h=>by
  refine uW ?_;revert h;cases Hf (ay xs p) p<;>cases iX (xs.map gA) (gP (ay xs p))<;>simp
 refine aJ.intro (nt:=23) aG mixed (by kernel_rfl) Tryz.func109 rfl rfl rfl rfl rfl ?_;refine Or.inl (eI _ (aI (OA xs p hp) ?_));refine aI ⟨by kernel_rfl,rfl⟩ ?_;refine Or.inl (eI _ (aI (fun _=>ZJ xs (ay xs p)) ?_));refine Or.inl (eI _ (aI (fun gg=>OA xs (ay xs p) (hgi gg)) ?_));refine aI (fun _=>⟨by kernel_rfl,rfl⟩) ?_;refine aI (by kernel_rfl) ?_;refine Eq.trans (Eq.refl _) ?_;show(bif (bif Hf (ay xs p) p then true else !iX (xs.map gA) (gP (ay xs p)))then true else !Hf (ay xs (ay xs p)) p)=_;unfold nG;cases (bif Hf (ay xs p) p then true else !iX (xs.map gA) (gP (ay xs p)))<;>rfl
theorem ZC{ps:List aC}{i:Nat}(h:i<ps.length):ps.drop i=elt (dflt bf) ps (i:Nat)::ps.drop (i+1):=by
 rw[List.drop_eq_getElem_cons h]
 congr 1
 unfold elt;rw[qK,qC,qB h];rfl
theorem eltP{ps:List aC}{i:Nat}(h:i<ps.length):elt (dflt bf) ps (i:Nat)∈ps:=by
 unfold elt;rw[qK,qC,qB h];exact List.getElem_mem h
theorem ixPQ(xs:List aj)(ps:List aC)(hl:ps.length≤1048576)(hp:∀p∈ps,ak xs p):aJ Tryz.prog 137 [.rsl bf ps,.fn 109 [.rp aZ xs]] (.int .i64 (rA (fun p=> !nG xs p) ps 0)):=by
 refine aJ.intro (nt:=19) aG mixed (by kernel_rfl) Tryz.func137 rfl rfl rfl rfl rfl ?_;refine lp Nat (fun i=>[(8,.int .i64 (i:Nat))]) (fun _=>[]) (fun i=>ps.length-i) (fun i=>i≤ps.length∧rA (fun p=> !nG xs p) ps 0=rA (fun p=> !nG xs p) (ps.drop i) i) 0 ⟨Nat.zero_le _,rfl⟩ ?_ ?_
 ·exact hd [] rfl (aI (aI rfl rfl) trivial) trivial
 rintro i ⟨hi,he⟩;refine aI (fun q1=> ?_) (fun q1=> ?_)
 ·have hlt:i<ps.length:=by
   have q2:decide (((i:Nat):Int)<(ps.length:Nat))=true:=q1;simp only[qQ]at q2;omega
  refine aI (show 0≤((i:Nat):Int)∧((i:Nat):Int)<(ps.length:Nat) by omega) ?_;refine Or.inl (eI _ (aI (vn1Q xs (elt (dflt bf) ps (i:Nat)) (hp _ (eltP hlt))) ?_));rw[ZC hlt]at he;refine aI (fun q2=> ?_) (fun q2=> ?_)
  ·rw[he,show rA (fun p=> !nG xs p) (elt (dflt bf) ps (i:Nat)::ps.drop (i+1)) i=i by unfold rA;rw[show(!nG xs (elt (dflt bf) ps (i:Nat)))=true from q2];rfl];exact⟨rfl,rfl⟩
  ·refine bF (i+1) ⟨hlt,?_⟩ ?_ ?_
   ·rw[he]
    conv=>lhs;unfold rA
    rw[show(!nG xs (elt (dflt bf) ps (i:Nat)))=false from q2];rfl
   ·exact hd [] rfl (aI (aI (dH (by omega)) rfl) trivial) trivial
   ·show ps.length-(i+1)<ps.length-i;omega
 ·have hge:i=ps.length:=by
   have q2:decide (((i:Nat):Int)<(ps.length:Nat))=false:=q1;simp only[qP]at q2;omega
  subst hge;rw[he,List.drop_length];exact⟨rfl,rfl⟩
theorem cnPQ(xs:List aj)(ps:List aC)(hl:ps.length≤1048576)(hp:∀p∈ps,ak xs p):aJ Tryz.prog 107 [.rsl bf ps,.fn 109 [.rp aZ xs]] (.bool (ps.any fun p=> !nG xs p)):=by
 refine aJ.intro (nt:=9) aG mixed Xj Tryz.func107 rfl rfl rfl rfl rfl ?_;refine Or.inl (eI _ (aI (ixPQ xs ps hl hp) ?_));rw[←Ig (l:=ps) (k:=0) (by omega)];exact rfl
theorem ZR(xs:List aj)(hx:UN xs):aJ Tryz.prog 74 [.agg [.rsl aF xs]] (.bool (gZ (gN xs))):=by
 refine aJ.intro (nt:=11) aG mixed TA Tryz.func74 rfl rfl rfl rfl rfl ?_;refine Or.inl (eI _ (aI (XL xs hx) ?_));refine aI (fun q=> ?_) (fun q=> ?_)
 ·have q2:(!fU (xs.map gA))=true:=q
  have e:gZ (gN xs)=false:=by
   unfold gZ gN;rw[show fU (xs.map gA)=false by simpa using q2];rfl
  rw[e];exact rfl
 have q2:(!fU (xs.map gA))=false:=q;have hag:fU (xs.map gA)=true:=by simpa using q2
 obtain⟨g1,g2,g3⟩:=vO hag;rw[qV]at g2 g3
 have hlen:=DN (xs:=xs) (fun i hi=>by
  have:=sJ (g3 i hi);rw[vY,mV,qV]at this;exact this) xs.length (Nat.le_refl _)
 refine Or.inr (eI _ (eI _ (aI (aA.Du (ts:=[.dF 10000 37 [.rsl aF xs]]) (ts2:=[.row 10001 119 2 bf (yw xs xs.length) []]) (args:=[.ptr 10000 0]) (r2:=.sl 10001) aG [64] Km (Z6 xs hag) rfl rfl rfl) ?_)));refine Or.inr (eI _ (eI _ (aI (aA.sU (ts:=[.row 10000 119 2 bf (yw xs xs.length) [],.dF 10001 37 [.rsl aF xs]]) (args:=[.sl 10000,.fn 109 [.ptr 10001 0]]) aG [115,0] Xj (cnPQ xs (yw xs xs.length) (by omega) fun p h=>Wd h) rfl) ?_)));refine Eq.trans (Eq.refl _) ?_;exact TP xs hag
theorem Td(xs:List aj):aJ Tryz.prog 74 [.agg [.rsl aF xs]] (.bool (gZ (gN xs))):=aJ.pre TA (fun _ _ _ h=>V8 h) (ZR xs)
theorem vt1Q(xs:List aj):aJ Tryz.prog 105 [.agg [.rsl aF xs]] (.bool (!gZ (gN xs))):=by
 refine aJ.intro (nt:=6) aG mixed (by kernel_rfl) Tryz.func105 rfl rfl rfl rfl rfl ?_;refine Or.inl (eI _ (aI (Td xs) ?_));exact rfl
theorem ZB{bk:List (List aj)}{i:Nat}(h:i<bk.length):bk.drop i=elt (dflt aZ) bk (i:Nat)::bk.drop (i+1):=by
 rw[List.drop_eq_getElem_cons h]
 congr 1
 unfold elt;rw[qK,qC,qB h];rfl
theorem ixNQ(bk:List (List aj))(hl:bk.length≤1048576):aJ Tryz.prog 135 [.rsl aZ bk,.fn 105 []] (.int .i64 (rA (fun xs=> !gZ (gN xs)) bk 0)):=by
 refine aJ.intro (nt:=19) aG mixed (by kernel_rfl) Tryz.func135 rfl rfl rfl rfl rfl ?_;refine lp Nat (fun i=>[(8,.int .i64 (i:Nat))]) (fun _=>[]) (fun i=>bk.length-i) (fun i=>i≤bk.length∧rA (fun xs=> !gZ (gN xs)) bk 0=rA (fun xs=> !gZ (gN xs)) (bk.drop i) i) 0 ⟨Nat.zero_le _,rfl⟩ ?_ ?_
 ·exact hd [] rfl (aI (aI rfl rfl) trivial) trivial
 rintro i ⟨hi,he⟩;refine aI (fun q1=> ?_) (fun q1=> ?_)
 ·have hlt:i<bk.length:=by
   have q2:decide (((i:Nat):Int)<(bk.length:Nat))=true:=q1;simp only[qQ]at q2;omega
  refine aI (show 0≤((i:Nat):Int)∧((i:Nat):Int)<(bk.length:Nat) by omega) ?_;refine Or.inl (eI _ (aI (vt1Q (elt (dflt aZ) bk (i:Nat))) ?_));rw[ZB hlt]at he;refine aI (fun q2=> ?_) (fun q2=> ?_)
  ·rw[he,show rA (fun xs=> !gZ (gN xs)) (elt (dflt aZ) bk (i:Nat)::bk.drop (i+1)) i=i by unfold rA;rw[show(!gZ (gN (elt (dflt aZ) bk (i:Nat))))=true from q2];rfl];exact⟨rfl,rfl⟩
  ·refine bF (i+1) ⟨hlt,?_⟩ ?_ ?_
   ·rw[he]
    conv=>lhs;unfold rA
    rw[show(!gZ (gN (elt (dflt aZ) bk (i:Nat))))=false from q2];rfl
   ·exact hd [] rfl (aI (aI (dH (by omega)) rfl) trivial) trivial
   ·show bk.length-(i+1)<bk.length-i;omega
 ·have hge:i=bk.length:=by
   have q2:decide (((i:Nat):Int)<(bk.length:Nat))=false:=q1;simp only[qP]at q2;omega
  subst hge;rw[he,List.drop_length];exact⟨rfl,rfl⟩
theorem cnNQ(bk:List (List aj))(hl:bk.length≤1048576):aJ Tryz.prog 104 [.rsl aZ bk,.fn 105 []] (.bool (bk.any fun xs=> !gZ (gN xs))):=by
 refine aJ.intro (nt:=9) aG mixed (by kernel_rfl) Tryz.func104 rfl rfl rfl rfl rfl ?_;refine Or.inl (eI _ (aI (ixNQ bk hl) ?_));rw[←Ig (l:=bk) (k:=0) (by omega)];exact rfl
theorem OZ(bk:List (List aj)):aJ Tryz.prog 73 [.rsl aZ bk] (.bool (jq (bk.map gN))):=by
 have e0:jq (bk.map gN)=(decide ((bk.length:Int)≤24)&&dZ bk.length fun k=>gZ (gN (bJ bk (k:Nat)))):=by
  unfold jq;rw[qV]
  congr 2
  exact funext fun k=>by rw[Cr]
 have e1:(dZ bk.length fun k=>gZ (gN (bJ bk (k:Nat))))= !(bk.any fun xs=> !gZ (gN xs)):=by
  unfold dZ;rw[List.not_any_eq_all_not,Bool.eq_iff_iff,List.all_eq_true,List.all_eq_true];constructor
  ·intro h x hx;obtain⟨i,hi,rfl⟩:=List.mem_iff_getElem.1 hx;have:=h i (List.mem_range.2 hi)
   have e:bJ bk (i:Nat)=bk[i]:=by
    unfold bJ elt;rw[qK,qC,qB hi];rfl
   rw[e]at this;simpa using this
  ·intro h i hi;rw[List.mem_range]at hi
   have e:bJ bk (i:Nat)=bk[i]:=by
    unfold bJ elt;rw[qK,qC,qB hi];rfl
   rw[e];have:=h bk[i] (List.getElem_mem hi);simpa using this
 rw[e0,e1];refine aJ.intro (nt:=11) aG mixed (by kernel_rfl) Tryz.func73 rfl rfl rfl rfl rfl ?_
 refine Or.inl (eI _ (aI (fun gg=>cnNQ bk (by
  have q:decide (((bk.length:Nat):Int)≤24)=true:=gg;simp only[qQ]at q;omega)) ?_))
 refine Eq.trans (Eq.refl _) ?_;show(bif decide (((bk.length:Nat):Int)≤24)then !(bk.any fun xs=> !gZ (gN xs))else false)=_;rw[iO]
end Go.Proofs.YtbdimbjclhmeoaaGreat
