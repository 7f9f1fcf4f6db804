
/- The program's functions on agents: what makes them valid. Printed by gen_neti.py. -/
import Derived.Test.YtbdimbjclhmeoaaGreatAgents
import Derived.Test.YtbdimbjclhmeoaaGreatQDbg
import Derived.BigGuardPart
import Derived.Outline
import Derived.Deep.CutBlock
import Derived.Test.YtbdimbjclhmeoaaGreatIo
import Derived.StillTailTactics
import Derived.BigRegion
set_option maxHeartbeats 4000000
set_option maxRecDepth 100000
set_option linter.unusedSimpArgs false
set_option linter.unusedVariables false
namespace Go.Proofs.YtbdimbjclhmeoaaGreat
open Go Go.RowKit Go.Proofs Go.Tr
theorem wQ(n:Int)(w:World):Calls Tryz.prog 176 #[.int .i64 n] w fun e w'=>e=.returned (.bool (jU n))/\Ext w w':=by
 refine fD fun e=> ?_
 go_enter Tryz.func176,Tryz.ntmps176
 go_wp2
 all_goals go_ret
 all_goals refine⟨?_,_,rfl⟩
 all_goals first|(simp[jU,gG, *];done)|(simp[jU,gG, *];omega)|(simp_all [jU,gG];done)|(simp_all [jU,gG];omega)
theorem QV(n:Int)(w:World):Calls Tryz.prog 177 #[.int .i64 n] w fun e w'=>e=.returned (.bool (rD n))/\Ext w w':=by
 refine fD fun e=> ?_
 go_enter Tryz.func177,Tryz.ntmps177
 go_wp2
 all_goals go_ret
 all_goals refine⟨?_,_,rfl⟩
 all_goals first|(simp[rD,gG, *];done)|(simp[rD,gG, *];omega)|(simp_all [rD,gG];done)|(simp_all [rD,gG];omega)
theorem Ed(n:Int)(w:World):Calls Tryz.prog 178 #[.int .i64 n] w fun e w'=>e=.returned (.bool (kW n))/\Ext w w':=by
 refine fD fun e=> ?_
 go_enter Tryz.func178,Tryz.ntmps178
 go_wp2
 all_goals go_ret
 all_goals refine⟨?_,_,rfl⟩
 all_goals first|(simp[kW,gG, *];done)|(simp[kW,gG, *];omega)|(simp_all [kW,gG];done)|(simp_all [kW,gG];omega)
theorem CF(k f:Int)(w:World):Calls Tryz.prog 172 #[.int .i64 k,.int .i64 f] w fun e w'=>e=.returned (.int .i64 (bS k f))/\Ext w w':=by
 refine fD fun e=> ?_
 have C1:Hid (QC Tryz.prog w _ _ _):=fun W hW=>(Na k W).q
 cases hk:oG k
 case false=>
  rw[hk]at C1;have hn:=YA hk;have h9:(k==9)=false:=by simp;omega
  go_enter Tryz.func172,Tryz.ntmps172
  go_wp2_with (first|(go_at_call 213;with_reducible refine(C1.out.at_ _).mono ?_;rintro _ _ ⟨rfl,e,rfl⟩))
  repeat (refine bM _ (by kernel_rfl) (by kernel_rfl) ?_;(repeat (go_big_quiet_step ((first|with_reducible exact C1.out.at_ _))));refine wpQuiet_nil ?_;intro e;go_wp2_with (first|(go_at_call 213;with_reducible refine(C1.out.at_ _).mono ?_;rintro _ _ ⟨rfl,e,rfl⟩)))
  all_goals go_ret
  all_goals refine⟨?_,_,rfl⟩
  all_goals simp[bS]
  all_goals (repeat rw[if_neg (by omega)])
  all_goals (try split)
  all_goals (try rfl)
  all_goals (try omega)
 rw[hk]at C1;have ix1:∀W:World,(Instr.index 245 (.agg #[.int .i64 0,.int .i64 1,.int .i64 3,.int .i64 3,.int .i64 3,.int .i64 1,.int .i64 1,.int .i64 3,.int .i64 2,.int .i64 0,.int .i64 2,.int .i64 2,.int .i64 1]) (.int .i64 1)).run Tryz.prog W=.ok (.int .i64 1) W:=fun _=>by kernel_rfl
 have ix2:∀W:World,(Instr.index 245 (.agg #[.int .i64 0,.int .i64 1,.int .i64 3,.int .i64 3,.int .i64 3,.int .i64 1,.int .i64 1,.int .i64 3,.int .i64 2,.int .i64 0,.int .i64 2,.int .i64 2,.int .i64 1]) (.int .i64 2)).run Tryz.prog W=.ok (.int .i64 3) W:=fun _=>by kernel_rfl
 have ix3:∀W:World,(Instr.index 245 (.agg #[.int .i64 0,.int .i64 1,.int .i64 3,.int .i64 3,.int .i64 3,.int .i64 1,.int .i64 1,.int .i64 3,.int .i64 2,.int .i64 0,.int .i64 2,.int .i64 2,.int .i64 1]) (.int .i64 3)).run Tryz.prog W=.ok (.int .i64 3) W:=fun _=>by kernel_rfl
 have ix4:∀W:World,(Instr.index 245 (.agg #[.int .i64 0,.int .i64 1,.int .i64 3,.int .i64 3,.int .i64 3,.int .i64 1,.int .i64 1,.int .i64 3,.int .i64 2,.int .i64 0,.int .i64 2,.int .i64 2,.int .i64 1]) (.int .i64 4)).run Tryz.prog W=.ok (.int .i64 3) W:=fun _=>by kernel_rfl
 have ix5:∀W:World,(Instr.index 245 (.agg #[.int .i64 0,.int .i64 1,.int .i64 3,.int .i64 3,.int .i64 3,.int .i64 1,.int .i64 1,.int .i64 3,.int .i64 2,.int .i64 0,.int .i64 2,.int .i64 2,.int .i64 1]) (.int .i64 5)).run Tryz.prog W=.ok (.int .i64 1) W:=fun _=>by kernel_rfl
 have ix6:∀W:World,(Instr.index 245 (.agg #[.int .i64 0,.int .i64 1,.int .i64 3,.int .i64 3,.int .i64 3,.int .i64 1,.int .i64 1,.int .i64 3,.int .i64 2,.int .i64 0,.int .i64 2,.int .i64 2,.int .i64 1]) (.int .i64 6)).run Tryz.prog W=.ok (.int .i64 1) W:=fun _=>by kernel_rfl
 have ix7:∀W:World,(Instr.index 245 (.agg #[.int .i64 0,.int .i64 1,.int .i64 3,.int .i64 3,.int .i64 3,.int .i64 1,.int .i64 1,.int .i64 3,.int .i64 2,.int .i64 0,.int .i64 2,.int .i64 2,.int .i64 1]) (.int .i64 7)).run Tryz.prog W=.ok (.int .i64 3) W:=fun _=>by kernel_rfl
 have ix8:∀W:World,(Instr.index 245 (.agg #[.int .i64 0,.int .i64 1,.int .i64 3,.int .i64 3,.int .i64 3,.int .i64 1,.int .i64 1,.int .i64 3,.int .i64 2,.int .i64 0,.int .i64 2,.int .i64 2,.int .i64 1]) (.int .i64 8)).run Tryz.prog W=.ok (.int .i64 2) W:=fun _=>by kernel_rfl
 have ix9:∀W:World,(Instr.index 245 (.agg #[.int .i64 0,.int .i64 1,.int .i64 3,.int .i64 3,.int .i64 3,.int .i64 1,.int .i64 1,.int .i64 3,.int .i64 2,.int .i64 0,.int .i64 2,.int .i64 2,.int .i64 1]) (.int .i64 9)).run Tryz.prog W=.ok (.int .i64 0) W:=fun _=>by kernel_rfl
 have ix10:∀W:World,(Instr.index 245 (.agg #[.int .i64 0,.int .i64 1,.int .i64 3,.int .i64 3,.int .i64 3,.int .i64 1,.int .i64 1,.int .i64 3,.int .i64 2,.int .i64 0,.int .i64 2,.int .i64 2,.int .i64 1]) (.int .i64 10)).run Tryz.prog W=.ok (.int .i64 2) W:=fun _=>by kernel_rfl
 have ix11:∀W:World,(Instr.index 245 (.agg #[.int .i64 0,.int .i64 1,.int .i64 3,.int .i64 3,.int .i64 3,.int .i64 1,.int .i64 1,.int .i64 3,.int .i64 2,.int .i64 0,.int .i64 2,.int .i64 2,.int .i64 1]) (.int .i64 11)).run Tryz.prog W=.ok (.int .i64 2) W:=fun _=>by kernel_rfl
 have ix12:∀W:World,(Instr.index 245 (.agg #[.int .i64 0,.int .i64 1,.int .i64 3,.int .i64 3,.int .i64 3,.int .i64 1,.int .i64 1,.int .i64 3,.int .i64 2,.int .i64 0,.int .i64 2,.int .i64 2,.int .i64 1]) (.int .i64 12)).run Tryz.prog W=.ok (.int .i64 1) W:=fun _=>by kernel_rfl
 rcases Nb hk with rfl|rfl|rfl|rfl|rfl|rfl|rfl|rfl|rfl|rfl|rfl|rfl
 all_goals clear hk
 all_goals
  go_enter Tryz.func172,Tryz.ntmps172
  go_wp2_with (first|(go_at_call 213;with_reducible refine(C1.out.at_ _).mono ?_;rintro _ _ ⟨rfl,e,rfl⟩))
  repeat (refine bM _ (by kernel_rfl) (by kernel_rfl) ?_;(repeat (go_big_quiet_step ((first|with_reducible exact C1.out.at_ _))));refine wpQuiet_nil ?_;intro e;go_wp2_with (first|(go_at_call 213;with_reducible refine(C1.out.at_ _).mono ?_;rintro _ _ ⟨rfl,e,rfl⟩)))
  all_goals go_ret
  all_goals refine⟨?_,_,rfl⟩
  all_goals first|(simp[bS,gG, *];done)|(simp[bS,gG, *];omega)|(simp_all [bS,gG];done)|(simp_all [bS,gG];omega)
theorem Jb(k p:Int)(w:World)(h1:0<=p)(h2:p<=9223372036854775807):Calls Tryz.prog 173 #[.int .i64 k,.int .i64 p] w fun e w'=>e=.returned (.int .i64 (dP k p))/\Ext w w':=by
 refine fD fun e=> ?_
 go_enter Tryz.func173,Tryz.ntmps173
 cases d1:(k==9)
 case true=>
  have E:Hid (dP k p=p-1):=by show _=_;simp[dP,d1]
  go_wp2_with fail
  repeat (refine bM _ (by kernel_rfl) (by kernel_rfl) ?_;(repeat (go_big_quiet_step (fail)));refine wpQuiet_nil ?_;intro e;go_wp2_with fail)
  go_ret;exact⟨by rw[E.out];rfl,_,rfl⟩
 have E:Hid (dP k p=0):=by show _=_;simp[dP,d1]
 go_wp2_with fail
 repeat (refine bM _ (by kernel_rfl) (by kernel_rfl) ?_;(repeat (go_big_quiet_step (fail)));refine wpQuiet_nil ?_;intro e;go_wp2_with fail)
 go_ret;exact⟨by rw[E.out];rfl,_,rfl⟩
theorem CK(d:Int)(w:World):Calls Tryz.prog 175 #[.int .i64 d] w fun e w'=>e=.returned (.bool (!jU d))/\Ext w w':=by
 refine fD fun e=> ?_
 have C1:Hid (QC Tryz.prog w _ _ _):=fun W hW=>wQ d W
 go_enter Tryz.func175,Tryz.ntmps175
 go_wp2_with (first|(go_at_call 176;with_reducible refine(C1.out.at_ _).mono ?_;rintro _ _ ⟨rfl,e,rfl⟩))
 repeat (refine bM _ (by kernel_rfl) (by kernel_rfl) ?_;(repeat (go_big_quiet_step ((first|with_reducible exact C1.out.at_ _))));refine wpQuiet_nil ?_;intro e;go_wp2_with (first|(go_at_call 176;with_reducible refine(C1.out.at_ _).mono ?_;rintro _ _ ⟨rfl,e,rfl⟩)))
 go_ret;exact⟨rfl,_,rfl⟩
theorem Gd(xs:List Int)(n:Nat){A:Option Addr}{c:Nat}{bs:dF}(w:World)(hx:T1 w (.sl n (xs.flatMap dJ)) bs (.slice A n c))(Hl:Hid (xs.length=n)):Calls Tryz.prog 114 #[.slice A n c,.func (.func 175) #[] #[]] w fun e w'=>e=.returned (.int .i64 (idxOf n (fun k=> !jU (iy xs k))))/\Ext w w':=by
 refine fD fun e=> ?_
 have hn:=hx.JE
 go_enter Tryz.func114,Tryz.ntmps114
 go_wp2_with fail
 repeat (refine bM _ (by kernel_rfl) (by kernel_rfl) ?_;(repeat (go_big_quiet_step (fail)));refine wpQuiet_nil ?_;intro e;go_wp2_with fail)
 go_loopw [5,8] (fun _ i w'=>∃k:Nat,k<=n/\i=.int .i64 k/\Hid (eD k (fun k=> !!jU (iy xs k))=true)/\∃e:bL w,w'=e.to) (fun _ i _=>n-(intOf i).toNat)
 case atStart=>exact⟨0,Nat.zero_le _,rfl,Wx _,_,rfl⟩
 case round=>
  obtain⟨k,hk,rfl,hf,e,rfl⟩:=hrel
  by_cases hlt:k<n
  .skip
   obtain⟨b,off,x,bs',rfl,hxk,hp⟩:=T1.elem (s:=1) (fun _=>rfl) hx Hl hlt;have kx:=Xk hp;rw[Nat.mul_one]at kx;have EP:Hid ((!jU (iy xs k))= !jU x):=by show _=_;rw[TW hxk]
   have C1:Hid (QC Tryz.prog w _ _ _):=fun W hW=>CK x W
   cases d1:(!jU x)
   case true=>
    (try rw[d1]at C1)
    have E:Hid (idxOf n (fun k=> !jU (iy xs k))=(k:Int)):=by show _=_;exact TU hf hlt (by rw[EP.out];exact d1)
    go_wp2_with (first|(go_at_call 175;with_reducible refine(C1.out.at_ _).mono ?_;rintro _ _ ⟨rfl,e,rfl⟩))
    repeat (refine bM _ (by kernel_rfl) (by kernel_rfl) ?_;(repeat (go_big_quiet_step ((first|with_reducible exact C1.out.at_ _))));refine wpQuiet_nil ?_;intro e;go_wp2_with (first|(go_at_call 175;with_reducible refine(C1.out.at_ _).mono ?_;rintro _ _ ⟨rfl,e,rfl⟩)))
    go_ret;exact⟨by rw[E.out];rfl,_,rfl⟩
   (try rw[d1]at C1)
   have E:Hid ((!!jU (iy xs k))=true):=by show _=_;rw[EP.out,d1];rfl
   go_wp2_with (first|(go_at_call 175;with_reducible refine(C1.out.at_ _).mono ?_;rintro _ _ ⟨rfl,e,rfl⟩))
   repeat (refine bM _ (by kernel_rfl) (by kernel_rfl) ?_;(repeat (go_big_quiet_step ((first|with_reducible exact C1.out.at_ _))));refine wpQuiet_nil ?_;intro e;go_wp2_with (first|(go_at_call 175;with_reducible refine(C1.out.at_ _).mono ?_;rintro _ _ ⟨rfl,e,rfl⟩)))
   exact⟨⟨k+1,by omega,by go_num,MC hf E.out,_,rfl⟩,by simp[intOf];omega⟩
  .have:n=k:=by omega
   subst this;have E:Hid (idxOf n (fun k=> !jU (iy xs k))= -1):=by show _=_;exact D9 hf
   go_wp2_with fail
   repeat (refine bM _ (by kernel_rfl) (by kernel_rfl) ?_;(repeat (go_big_quiet_step (fail)));refine wpQuiet_nil ?_;intro e;go_wp2_with fail)
   go_ret;exact⟨by rw[E.out];rfl,_,rfl⟩
theorem Bb(xs:List Int)(n:Nat){A:Option Addr}{c:Nat}{bs:dF}(w:World)(hx:T1 w (.sl n (xs.flatMap dJ)) bs (.slice A n c))(Hl:Hid (xs.length=n)):Calls Tryz.prog 77 #[.slice A n c,.func (.func 175) #[] #[]] w fun e w'=>e=.returned (.bool (Oz n (fun k=> !jU (iy xs k))))/\Ext w w':=by
 refine fD fun e=> ?_
 have C1:Hid (QC Tryz.prog w _ _ _):=fun W hW=>Gd xs n W (hx.below hW) Hl
 have hc:=TV n (fun k=> !jU (iy xs k))
 go_enter Tryz.func77,Tryz.ntmps77
 go_wp2_with (first|(go_at_call 114;with_reducible refine(C1.out.at_ _).mono ?_;rintro _ _ ⟨rfl,e,rfl⟩))
 repeat (refine bM _ (by kernel_rfl) (by kernel_rfl) ?_;(repeat (go_big_quiet_step ((first|with_reducible exact C1.out.at_ _))));refine wpQuiet_nil ?_;intro e;go_wp2_with (first|(go_at_call 114;with_reducible refine(C1.out.at_ _).mono ?_;rintro _ _ ⟨rfl,e,rfl⟩)))
 go_ret;exact⟨by rw[<-hc];rfl,_,rfl⟩
end Go.Proofs.YtbdimbjclhmeoaaGreat
namespace Go.Tr
open Go Go.RowKit
def nA(a:aH):ak:=(a.kind,a.level,a.value,a.data,a.aO.map fun p=>(p.agent,p.slot))
theorem Zba(a:aH):gA (nA a)=a:=by
 cases a with
 |mk k l v d ps=>
  unfold gA nA;simp only[List.map_map]
  congr 1
  exact(List.map_congr_left fun p _=>rfl).trans (List.map_id ps)
def o7(k v:Int)(d:List Int):Bool:=
 if k==6 then((d.length:Int)==0)&&rD v
 else if k==7 then((d.length:Int)==0)&&kW v
 else if k==8 then((d.length:Int)==1)&&kW v&&rD (iy d 0)
 else if k==9 then((d.length:Int)==0)&&gG v 0 3
 else if k==12 then((d.length:Int)==0)&&jU v
 else if k==10 then v==0&&gG d.length 1 4&&kV d
 else if k==11 then v==0&&((d.length:Int)==2)&&kV d
 else v==0&&((d.length:Int)==0)
theorem OP(a:ak):fQ (gA a)=o7 a.1 a.2.2.1 a.2.2.2.1:=rfl
end Go.Tr
namespace Go.Proofs.YtbdimbjclhmeoaaGreat
open Go Go.RowKit Go.Proofs Go.Tr
theorem Zi(n:Int):aJ Tryz.prog 212 [.int .i64 n] (.bool (jU n)):=by
 refine aJ.intro (nt:=5) aG mixed (by kernel_rfl) Tryz.func212 rfl rfl rfl rfl rfl ?_;refine oZ (F5 n 0 23) ?_;exact rfl
theorem Sz(a:ak):aJ Tryz.prog 171 [.rp aD a] (.bool (fQ (gA a))):=by
 refine aJ.intro (nt:=162) aG mixed (by kernel_rfl) Tryz.func171 rfl rfl rfl rfl rfl ?_;rw[OP];generalize hk:a.1=k at*;have ek:∀{c:Int} {b:Bool},(a.1==c)=b->(k==c)=b:=fun h=>by rw[<-hk];exact h
 refine aI (fun q1=> ?_) (fun q1=> ?_)
 .refine oZ (fun _=>F5 a.2.2.1 (-2147483648) 2147483647) ?_;refine Eq.trans (Eq.refl _) ?_;unfold o7;rw[ek q1];show(bif ((a.2.2.2.1.length:Int)==0)then gG a.2.2.1 (-2147483648) 2147483647 else false)=(((a.2.2.2.1.length:Int)==0)&&rD a.2.2.1);cases ((a.2.2.2.1.length:Int)==0)<;>rfl
 refine aI (fun q2=> ?_) (fun q2=> ?_)
 .refine oZ (fun _=>F5 a.2.2.1 1 6) ?_;refine Eq.trans (Eq.refl _) ?_;unfold o7;rw[ek q1,ek q2];show(bif ((a.2.2.2.1.length:Int)==0)then gG a.2.2.1 1 6 else false)=(((a.2.2.2.1.length:Int)==0)&&kW a.2.2.1);cases ((a.2.2.2.1.length:Int)==0)<;>rfl
 refine aI (fun q3=> ?_) (fun q3=> ?_)
 .refine oZ (fun _=>F5 a.2.2.1 1 6) ?_;refine aI (fun g=> ?_) ?_
  .have g2:(bif ((a.2.2.2.1.length:Int)==1)then gG a.2.2.1 1 6 else false)=true:=g;cases hl:((a.2.2.2.1.length:Int)==1)with
   |false=>rw[hl]at g2;cases g2
   |true=>
    have hl2:(a.2.2.2.1.length:Int)=1:=by simpa using hl
    show(0:Int)<=0/\(0:Int)<(a.2.2.2.1.length:Nat);omega
  refine oZ (fun _=>F5 _ (-2147483648) 2147483647) ?_;refine Eq.trans (Eq.refl _) ?_;unfold o7;rw[ek q1,ek q2,ek q3];show(bif (bif ((a.2.2.2.1.length:Int)==1)then gG a.2.2.1 1 6 else false)then gG (iy a.2.2.2.1 0) (-2147483648) 2147483647 else false)=(((a.2.2.2.1.length:Int)==1)&&kW a.2.2.1&&rD (iy a.2.2.2.1 0));unfold kW rD;cases ((a.2.2.2.1.length:Int)==1)<;>cases gG a.2.2.1 1 6<;>rfl
 refine aI (fun q4=> ?_) (fun q4=> ?_)
 .refine oZ (fun _=>F5 a.2.2.1 0 3) ?_;refine Eq.trans (Eq.refl _) ?_;unfold o7;rw[ek q1,ek q2,ek q3,ek q4];show(bif ((a.2.2.2.1.length:Int)==0)then gG a.2.2.1 0 3 else false)=(((a.2.2.2.1.length:Int)==0)&&gG a.2.2.1 0 3);cases ((a.2.2.2.1.length:Int)==0)<;>rfl
 refine aI (fun q5=> ?_) (fun q5=> ?_)
 .refine oZ (fun _=>Zi a.2.2.1) ?_;refine Eq.trans (Eq.refl _) ?_;unfold o7;rw[ek q1,ek q2,ek q3,ek q4,ek q5];show(bif ((a.2.2.2.1.length:Int)==0)then jU a.2.2.1 else false)=(((a.2.2.2.1.length:Int)==0)&&jU a.2.2.1);cases ((a.2.2.2.1.length:Int)==0)<;>rfl
 refine aI (fun q6=> ?_) (fun q6=> ?_)
 .refine aI (fun _=> ?_) (fun p=>absurd (q6.symm.trans p) (by decide));refine oZ (fun _=>F5 a.2.2.2.1.length 1 4) ?_
  have q7:(k==11)=false:=by
   have:k=10:=by have:=ek q6;simpa using this
   rw[this];rfl
  have q7':(a.1==11)=false:=by rw[hk];exact q7
  have ec:o7 k a.2.2.1 a.2.2.2.1=(a.2.2.1==0&&gG a.2.2.2.1.length 1 4&&kV a.2.2.2.1):=by
   unfold o7;rw[ek q1,ek q2,ek q3,ek q4,ek q5,ek q6];rfl
  have q6':(a.1==10)=true:=q6;refine aI (fun q8=> ?_) (fun q8=> ?_)
  .refine Eq.trans (Eq.refl _) ?_;rw[ec];have q9:(bif (bif (a.2.2.1 !=0)then true else bif (a.1==11)then((a.2.2.2.1.length:Int) !=2)else false)then true else bif (a.1==10)then !(gG a.2.2.2.1.length 1 4)else false)=true:=q8;rw[q7',q6',show(a.2.2.1 !=0)= !(a.2.2.1==0) from rfl]at q9;revert q9;cases (a.2.2.1==0)<;>cases gG a.2.2.2.1.length 1 4<;>simp
  have et:(true:Bool)=(a.2.2.1==0&&gG a.2.2.2.1.length 1 4):=by
   have q9:(bif (bif (a.2.2.1 !=0)then true else bif (a.1==11)then((a.2.2.2.1.length:Int) !=2)else false)then true else bif (a.1==10)then !(gG a.2.2.2.1.length 1 4)else false)=false:=q8;rw[q7',q6',show(a.2.2.1 !=0)= !(a.2.2.1==0) from rfl]at q9;revert q9;cases (a.2.2.1==0)<;>cases gG a.2.2.2.1.length 1 4<;>simp
  have hlen:a.2.2.2.1.length<=4:=by
   have h1:gG a.2.2.2.1.length 1 4=true:=by
    revert et;cases (a.2.2.1==0)<;>cases gG a.2.2.2.1.length 1 4<;>simp
   have:=iU h1;omega
  refine lp Nat (fun i=>[(3,.int .i64 (i:Nat))]) (fun _=>[]) (fun i=>a.2.2.2.1.length-i) (fun i=>i<=a.2.2.2.1.length/\eD i (fun k=>jU (iy a.2.2.2.1 k))=true) 0 ⟨Nat.zero_le _,rfl⟩ ?_ ?_
  .exact hd [] rfl (aI (aI rfl rfl) trivial) trivial
  rintro i ⟨hi,ha⟩;refine aI (fun p1=> ?_) (fun p1=> ?_)
  .have hlt:i<a.2.2.2.1.length:=by
    have p2:decide (((i:Nat):Int)<(a.2.2.2.1.length:Nat))=true:=p1;simp only[qQ]at p2;omega
   refine aI (show 0<=((i:Nat):Int)/\((i:Nat):Int)<(a.2.2.2.1.length:Nat) by omega) ?_;refine oZ (Zi _) ?_;refine aI (fun p2=> ?_) (fun p2=> ?_)
   .have p3:jU (iy a.2.2.2.1 i)=false:=by
     have p4:(!jU (iy a.2.2.2.1 i))=true:=p2;simpa using p4
    refine Eq.trans (Eq.refl _) ?_;rw[ec,show kV a.2.2.2.1=false from Oy hlt p3,Bool.and_false]
   .have p3:jU (iy a.2.2.2.1 i)=true:=by
     have p4:(!jU (iy a.2.2.2.1 i))=false:=p2;simpa using p4
    refine aY (i+1) ⟨hlt,by rw[Ce];simp only[ha,p3,Bool.and_true]⟩ ?_ ?_
    .exact hd [] rfl (aI (aI (dG (by omega)) rfl) trivial) trivial
    .show a.2.2.2.1.length-(i+1)<a.2.2.2.1.length-i;omega
  .have hge:a.2.2.2.1.length<=i:=by
    have p2:decide (((i:Nat):Int)<(a.2.2.2.1.length:Nat))=false:=p1;simp only[qP]at p2;omega
   have hie:i=a.2.2.2.1.length:=by omega
   subst hie;refine Eq.trans (Eq.refl _) ?_;rw[ec,show kV a.2.2.2.1=true from ha,Bool.and_true];exact et
 refine aI (fun q7=> ?_) (fun q7=> ?_)
 .refine oZ (fun _=>F5 a.2.2.2.1.length 1 4) ?_
  have ec:o7 k a.2.2.1 a.2.2.2.1=(a.2.2.1==0&&((a.2.2.2.1.length:Int)==2)&&kV a.2.2.2.1):=by
   unfold o7;rw[ek q1,ek q2,ek q3,ek q4,ek q5,ek q6,ek q7];rfl
  have q6':(a.1==10)=false:=q6;have q7':(a.1==11)=true:=q7;refine aI (fun q8=> ?_) (fun q8=> ?_)
  .refine Eq.trans (Eq.refl _) ?_;rw[ec];have q9:(bif (bif (a.2.2.1 !=0)then true else bif (a.1==11)then((a.2.2.2.1.length:Int) !=2)else false)then true else bif (a.1==10)then !(gG a.2.2.2.1.length 1 4)else false)=true:=q8;rw[q7',q6',show(a.2.2.1 !=0)= !(a.2.2.1==0) from rfl,show((a.2.2.2.1.length:Int) !=2)= !((a.2.2.2.1.length:Int)==2) from rfl]at q9;revert q9;cases (a.2.2.1==0)<;>cases ((a.2.2.2.1.length:Int)==2)<;>simp
  have et:(true:Bool)=(a.2.2.1==0&&((a.2.2.2.1.length:Int)==2)):=by
   have q9:(bif (bif (a.2.2.1 !=0)then true else bif (a.1==11)then((a.2.2.2.1.length:Int) !=2)else false)then true else bif (a.1==10)then !(gG a.2.2.2.1.length 1 4)else false)=false:=q8;rw[q7',q6',show(a.2.2.1 !=0)= !(a.2.2.1==0) from rfl,show((a.2.2.2.1.length:Int) !=2)= !((a.2.2.2.1.length:Int)==2) from rfl]at q9;revert q9;cases (a.2.2.1==0)<;>cases ((a.2.2.2.1.length:Int)==2)<;>simp
  have hlen:a.2.2.2.1.length<=4:=by
   have h1:((a.2.2.2.1.length:Int)==2)=true:=by
    revert et;cases (a.2.2.1==0)<;>cases ((a.2.2.2.1.length:Int)==2)<;>simp
   have h2:(a.2.2.2.1.length:Int)=2:=by simpa using h1
   omega
  refine lp Nat (fun i=>[(3,.int .i64 (i:Nat))]) (fun _=>[]) (fun i=>a.2.2.2.1.length-i) (fun i=>i<=a.2.2.2.1.length/\eD i (fun k=>jU (iy a.2.2.2.1 k))=true) 0 ⟨Nat.zero_le _,rfl⟩ ?_ ?_
  .exact hd [] rfl (aI (aI rfl rfl) trivial) trivial
  rintro i ⟨hi,ha⟩;refine aI (fun p1=> ?_) (fun p1=> ?_)
  .have hlt:i<a.2.2.2.1.length:=by
    have p2:decide (((i:Nat):Int)<(a.2.2.2.1.length:Nat))=true:=p1;simp only[qQ]at p2;omega
   refine aI (show 0<=((i:Nat):Int)/\((i:Nat):Int)<(a.2.2.2.1.length:Nat) by omega) ?_;refine oZ (Zi _) ?_;refine aI (fun p2=> ?_) (fun p2=> ?_)
   .have p3:jU (iy a.2.2.2.1 i)=false:=by
     have p4:(!jU (iy a.2.2.2.1 i))=true:=p2;simpa using p4
    refine Eq.trans (Eq.refl _) ?_;rw[ec,show kV a.2.2.2.1=false from Oy hlt p3,Bool.and_false]
   .have p3:jU (iy a.2.2.2.1 i)=true:=by
     have p4:(!jU (iy a.2.2.2.1 i))=false:=p2;simpa using p4
    refine aY (i+1) ⟨hlt,by rw[Ce];simp only[ha,p3,Bool.and_true]⟩ ?_ ?_
    .exact hd [] rfl (aI (aI (dG (by omega)) rfl) trivial) trivial
    .show a.2.2.2.1.length-(i+1)<a.2.2.2.1.length-i;omega
  .have hge:a.2.2.2.1.length<=i:=by
    have p2:decide (((i:Nat):Int)<(a.2.2.2.1.length:Nat))=false:=p1;simp only[qP]at p2;omega
   have hie:i=a.2.2.2.1.length:=by omega
   subst hie;refine Eq.trans (Eq.refl _) ?_;rw[ec,show kV a.2.2.2.1=true from ha,Bool.and_true];exact et
 .refine Eq.trans (Eq.refl _) ?_;unfold o7;rw[ek q1,ek q2,ek q3,ek q4,ek q5,ek q6,ek q7];show(bif (a.2.2.1==0)then((a.2.2.2.1.length:Int)==0)else false)=(a.2.2.1==0&&((a.2.2.2.1.length:Int)==0));cases (a.2.2.1==0)<;>rfl
theorem prtI(k f:Int):aJ Tryz.prog 172 [.int .i64 k,.int .i64 f] (.int .i64 (bS k f)):=aJ.G7 (l:=[k,f]) (by kernel_rfl) (CF k f) fun _ _=>SK _
theorem YB(n:Int):aJ Tryz.prog 177 [.int .i64 n] (.bool (rD n)):=aJ.G7 (l:=[n]) (by kernel_rfl) (QV n) fun _ _=>SI _
theorem Zbs(n:Int):aJ Tryz.prog 178 [.int .i64 n] (.bool (kW n)):=aJ.G7 (l:=[n]) (by kernel_rfl) (Ed n) fun _ _=>SI _
theorem Za1(n:Int):aJ Tryz.prog 176 [.int .i64 n] (.bool (jU n)):=aJ.G7 (l:=[n]) (by kernel_rfl) (wQ n) fun _ _=>SI _
theorem fldI(k:Int)(n:Nat)(h:n<=9223372036854775807):aJ Tryz.prog 173 [.int .i64 k,.int .i64 (n:Int)] (.int .i64 (dP k n)):=aJ.G7 (l:=[k,(n:Int)]) (by kernel_rfl) (fun w=>Jb k n w (by omega) (by omega)) fun _ _=>SK _
theorem ctnI(xs:List Int):aJ Tryz.prog 77 [.rsl (.int .i64) xs,.fn 175 []] (.bool (!kV xs)):=by
 refine⟨(by kernel_rfl),fun cx β w fr vs hI hd=> ?_⟩;unfold aF at hd;obtain⟨v1,vs1,rfl,hd1,hd⟩:=hd;unfold aF at hd;obtain⟨v2,vs2,rfl,hd2,hd⟩:=hd;unfold aF at hd;subst hd;unfold Den at hd1 hd2;obtain⟨us,rfl,hd2⟩:=hd2;unfold aF at hd2;subst hd2;obtain⟨A,c,rfl⟩:=hd1.slice;obtain⟨bs,ht⟩:=hd1.now hI;refine Calls.mono (Bb xs xs.length w (by rw[<-KG];exact ht) rfl) ?_;rintro e w' ⟨rfl,hx⟩;refine⟨_,rfl,?_,hI.ext hx⟩;unfold Den;unfold Oz kV;simp only[Bool.not_not]
theorem Zb2(a:ak)(hp:a.2.2.2.2.length<=9223372036854775807):aJ Tryz.prog 136 [.agg [.int .i64 a.1,.int .i64 a.2.1,.int .i64 a.2.2.1,.rsl (.int .i64) a.2.2.2.1,.rsl aK a.2.2.2.2]] (.bool (gD (gA a))):=by
 refine aJ.intro (nt:=117) aG mixed (by kernel_rfl) Tryz.func136 rfl rfl rfl rfl rfl ?_
 have hag:gD (gA a)=(decide (0<bS a.1 (dP a.1 a.2.2.2.2.length))&&(a.2.2.2.2.length:Int)==bS a.1 (dP a.1 a.2.2.2.2.length)&&dz a.1 a.2.1&&o7 a.1 a.2.2.1 a.2.2.2.1):=by
  rw[<-OP];unfold gD fieldsOf;have e:(gA a).aO.length=a.2.2.2.2.length:=qV _;rw[e];rfl
 rw[hag];refine oZ (fun _=>fldI a.1 a.2.2.2.2.length hp) ?_;refine oZ (fun _=>prtI a.1 (dP a.1 a.2.2.2.2.length)) ?_;refine oZ (fun _=>IG a.1 a.2.1) ?_;refine aI (by kernel_rfl) ?_
 have qc:∀{b:Bool},(bif (bif ((a.2.2.2.2.length:Int)==0)then true else(bS a.1 (dP a.1 a.2.2.2.2.length) !=(a.2.2.2.2.length:Int)))then true else !(dz a.1 a.2.1))=b->(decide (0<bS a.1 (dP a.1 a.2.2.2.2.length))&&(a.2.2.2.2.length:Int)==bS a.1 (dP a.1 a.2.2.2.2.length)&&dz a.1 a.2.1)= !b:=fun {b} h=>by
  generalize bS a.1 (dP a.1 a.2.2.2.2.length)=p at*;subst h;cases dz a.1 a.2.1
  .simp
  .by_cases h0:(a.2.2.2.2.length:Int)=0
   .rw[h0]
    by_cases hp0:p=0
    .subst hp0;rfl
    .simp;omega
   .rw[show((a.2.2.2.2.length:Int)==0)=false by simpa using h0]
    by_cases hpe:p=(a.2.2.2.2.length:Int)
    .subst hpe;simp;omega
    .simp only[qH];rw[show(p !=(a.2.2.2.2.length:Int))=true by simpa using hpe,show((a.2.2.2.2.length:Int)==p)=false by simp;omega];simp
 refine aI (fun q1=> ?_) (fun q1=> ?_)
 .refine Eq.trans (Eq.refl _) ?_;rw[qc q1];rfl
 have hq:=qc q1;rw[hq];refine aI (by kernel_rfl) ?_;refine oZ (ctnI _) ?_;have cfin:∀{t u:Bool},(t&&u)=o7 a.1 a.2.2.1 a.2.2.2.1->(bif t then u else false)=(!false&&o7 a.1 a.2.2.1 a.2.2.2.1):=fun {t u} h=>by rw[<-h];cases t<;>rfl
 unfold o7 at cfin;refine aI (fun k1=> ?_) (fun k1=> ?_)
 .refine oZ (YB _) ?_;refine Eq.trans (Eq.refl _) ?_;refine cfin ?_;rw[show(a.1==6)=true from k1,Bool.and_comm];rfl
 refine aI (fun k2=> ?_) (fun k2=> ?_)
 .refine oZ (Zbs _) ?_;refine Eq.trans (Eq.refl _) ?_;refine cfin ?_;rw[show(a.1==6)=false from k1,show(a.1==7)=true from k2,Bool.and_comm];rfl
 refine aI (fun k3=> ?_) (fun k3=> ?_)
 .refine oZ (Zbs _) ?_;refine aI (fun g=> ?_) ?_
  .have g2:(bif kW a.2.2.1 then((a.2.2.2.1.length:Int)==1)else false)=true:=g;cases ho:kW a.2.2.1 with
   |false=>rw[ho]at g2;cases g2
   |true=>
    rw[ho]at g2;have hl2:(a.2.2.2.1.length:Int)=1:=by simpa using g2
    show(0:Int)<=0/\(0:Int)<(a.2.2.2.1.length:Nat);omega
  refine oZ (fun _=>YB _) ?_;refine Eq.trans (Eq.refl _) ?_;unfold o7;rw[show(a.1==6)=false from k1,show(a.1==7)=false from k2,show(a.1==8)=true from k3];show(bif (bif kW a.2.2.1 then((a.2.2.2.1.length:Int)==1)else false)then rD (iy a.2.2.2.1 0)else false)=(!false&&(((a.2.2.2.1.length:Int)==1)&&kW a.2.2.1&&rD (iy a.2.2.2.1 0)));cases ((a.2.2.2.1.length:Int)==1)<;>cases kW a.2.2.1<;>rfl
 refine aI (fun k4=> ?_) (fun k4=> ?_)
 .refine Eq.trans (Eq.refl _) ?_;refine cfin ?_;rw[show(a.1==6)=false from k1,show(a.1==7)=false from k2,show(a.1==8)=false from k3,show(a.1==9)=true from k4,Bool.and_comm];show _=(((a.2.2.2.1.length:Int)==0)&&gG a.2.2.1 0 3)
  congr 1
  unfold gG;show(bif decide (0<=a.2.2.1)then decide (a.2.2.1<4)else false)=(decide (0<=a.2.2.1)&&decide (a.2.2.1<=3));rw[show decide (a.2.2.1<4)=decide (a.2.2.1<=3) by rw[decide_eq_decide];omega];cases decide (0<=a.2.2.1)<;>rfl
 refine aI (fun k5=> ?_) (fun k5=> ?_)
 .have k12:(a.1==12)=false:=by
   have:a.1=10:=by simpa using(show(a.1==10)=true from k5)
   rw[this];rfl
  refine Eq.trans (Eq.refl _) ?_;refine cfin ?_;rw[show(a.1==6)=false from k1,show(a.1==7)=false from k2,show(a.1==8)=false from k3,show(a.1==9)=false from k4,k12,show(a.1==10)=true from k5];show((a.2.2.1==0)&&(bif (bif decide (1<=(a.2.2.2.1.length:Int))then decide ((a.2.2.2.1.length:Int)<=4)else false)then !(!kV a.2.2.2.1)else false))=(a.2.2.1==0&&gG a.2.2.2.1.length 1 4&&kV a.2.2.2.1);unfold gG;cases (a.2.2.1==0)<;>cases decide (1<=(a.2.2.2.1.length:Int))<;>cases decide ((a.2.2.2.1.length:Int)<=4)<;>cases kV a.2.2.2.1<;>rfl
 refine aI (fun k6=> ?_) (fun k6=> ?_)
 .have k12:(a.1==12)=false:=by
   have:a.1=11:=by simpa using(show(a.1==11)=true from k6)
   rw[this];rfl
  refine Eq.trans (Eq.refl _) ?_;refine cfin ?_;rw[show(a.1==6)=false from k1,show(a.1==7)=false from k2,show(a.1==8)=false from k3,show(a.1==9)=false from k4,k12,show(a.1==10)=false from k5,show(a.1==11)=true from k6];show((a.2.2.1==0)&&(bif ((a.2.2.2.1.length:Int)==2)then !(!kV a.2.2.2.1)else false))=(a.2.2.1==0&&((a.2.2.2.1.length:Int)==2)&&kV a.2.2.2.1);cases (a.2.2.1==0)<;>cases ((a.2.2.2.1.length:Int)==2)<;>cases kV a.2.2.2.1<;>rfl
 refine aI (fun k7=> ?_) (fun k7=> ?_)
 .refine oZ (Za1 _) ?_;refine Eq.trans (Eq.refl _) ?_;refine cfin ?_;rw[show(a.1==6)=false from k1,show(a.1==7)=false from k2,show(a.1==8)=false from k3,show(a.1==9)=false from k4,show(a.1==12)=true from k7,Bool.and_comm];rfl
 .refine Eq.trans (Eq.refl _) ?_;refine cfin ?_;rw[show(a.1==6)=false from k1,show(a.1==7)=false from k2,show(a.1==8)=false from k3,show(a.1==9)=false from k4,show(a.1==12)=false from k7,show(a.1==10)=false from k5,show(a.1==11)=false from k6];rfl
theorem CJ(k f:Int)(w:World):Calls Tryz.prog 168 #[.int .i64 k,.int .i64 f] w fun e w'=>e=.returned (.int .i64 (bS k f))/\Ext w w':=by
 refine fD fun e=> ?_
 have C1:Hid (QC Tryz.prog w _ _ _):=fun W hW=>(QW f 0 3 W).q
 cases d1:gG f 0 3
 case true=>
  have hf:=iU d1
  go_enter Tryz.func168,Tryz.ntmps168
  go_wp2_with (first|(go_at_call 38;with_reducible refine(C1.out.at_ _).mono ?_;rintro _ _ ⟨rfl,e,rfl⟩))
  repeat (refine bM _ (by kernel_rfl) (by kernel_rfl) ?_;(repeat (go_big_quiet_step ((first|with_reducible exact C1.out.at_ _))));refine wpQuiet_nil ?_;intro e;go_wp2_with (first|(go_at_call 38;with_reducible refine(C1.out.at_ _).mono ?_;rintro _ _ ⟨rfl,e,rfl⟩)))
  all_goals go_ret
  all_goals refine⟨?_,_,rfl⟩
  all_goals first|(simp[bS, *];done)|(simp[bS, *];omega)|(simp_all [bS];done)|(simp_all [bS];omega)
 go_enter Tryz.func168,Tryz.ntmps168
 go_wp2_with (first|(go_at_call 38;with_reducible refine(C1.out.at_ _).mono ?_;rintro _ _ ⟨rfl,e,rfl⟩))
 repeat (refine bM _ (by kernel_rfl) (by kernel_rfl) ?_;(repeat (go_big_quiet_step ((first|with_reducible exact C1.out.at_ _))));refine wpQuiet_nil ?_;intro e;go_wp2_with (first|(go_at_call 38;with_reducible refine(C1.out.at_ _).mono ?_;rintro _ _ ⟨rfl,e,rfl⟩)))
 all_goals go_ret
 all_goals refine⟨?_,_,rfl⟩
 all_goals first|(simp[bS, *];done)|(simp[bS, *];omega)|(simp_all [bS];done)|(simp_all [bS];omega)
end Go.Proofs.YtbdimbjclhmeoaaGreat
namespace Go.Tr
open Go Go.RowKit
theorem wC{n i:Nat}{f:Nat->Bool}(h:i<n)(hf:f i=false):eD n f=false:=by
 unfold eD;rw[List.all_eq_false];exact⟨i,List.mem_range.2 h,by rw[hf];decide⟩
theorem wD{i:Nat}{f:Nat->Bool}(h:eD i f=true)(hf:f i=true):eD (i+1) f=true:=by
 unfold eD at*;rw[List.range_succ,List.all_append,h];simp[hf]
def K7:Nat:=9223372036854775807
def V9(xs:List ak):Prop:=xs.length<=K7/\∀i:Nat,i<xs.length->(ah xs (i:Nat)).2.2.2.2.length<=K7
theorem UJ(xs:aS)(i:Nat):mO (xs.map gA) i=(gD (gA (ah xs (i:Nat)))&&((ah xs (i:Nat)).1==1)==((i:Int)==0)):=by unfold mO;rw[wK];rfl
theorem Du(xs:aS):fV (xs.map gA)=(gG xs.length 1 600&&eD xs.length (mO (xs.map gA))):=by unfold fV;rw[qV]
end Go.Tr
namespace Go.Proofs.YtbdimbjclhmeoaaGreat
open Go Go.RowKit Go.Proofs Go.Tr
theorem YH:bH Tryz.prog 65=true:=by kernel_rfl
theorem PG:bH Tryz.prog 64=true:=by kernel_rfl
theorem prtS(k f:Int):aJ Tryz.prog 168 [.int .i64 k,.int .i64 f] (.int .i64 (bS k f)):=aJ.G7 (l:=[k,f]) (by kernel_rfl) (CJ k f) fun _ _=>SK _
theorem Jh(a:ak)(hp:a.2.2.2.2.length<=K7):aJ Tryz.prog 169 [.rp aD a] (.int .i64 (dP a.1 a.2.2.2.2.length)):=by
 unfold K7 at hp;refine aJ.intro (nt:=14) aG mixed (by kernel_rfl) Tryz.func169 rfl rfl rfl rfl rfl ?_;unfold dP;refine aI (fun q=> ?_) (fun q=> ?_)
 .have q2:(a.1==9)=true:=q;rw[if_pos q2];exact⟨qO _ (by omega),rfl⟩
 .have q2:(a.1==9)=false:=q;rw[if_neg (by rw[q2];decide)];exact⟨rfl,rfl⟩
theorem Y2(a:ak)(hp:a.2.2.2.2.length<=K7):aJ Tryz.prog 132 [.rp aD a] (.bool (gD (gA a))):=by
 have hag:gD (gA a)=(decide (0<bS a.1 (dP a.1 a.2.2.2.2.length))&&(a.2.2.2.2.length:Int)==bS a.1 (dP a.1 a.2.2.2.2.length)&&dz a.1 a.2.1&&fQ (gA a)):=by
  unfold gD fieldsOf;have e:(gA a).aO.length=a.2.2.2.2.length:=qV _;rw[e];rfl
 rw[hag];refine aJ.intro (nt:=37) aG mixed (by kernel_rfl) Tryz.func132 rfl rfl rfl rfl rfl ?_;refine oZ (Jh a hp) ?_;refine oZ (prtS _ _) ?_;refine aI (by kernel_rfl) ?_;refine oZ (fun _=>II a.1 a.2.1) ?_;refine oZ (fun _=>Sz a) ?_;refine aI (by kernel_rfl) ?_;refine Eq.trans (Eq.refl _) ?_;show(bif bif bif decide (0<bS a.1 (dP a.1 a.2.2.2.2.length))then(a.2.2.2.2.length:Int)==bS a.1 (dP a.1 a.2.2.2.2.length)else false then dz a.1 a.2.1 else false then fQ (gA a)else false)=_;rw[iX,iX,iX]
theorem Ww(xs:aS)(hx:V9 xs):aJ Tryz.prog 100 [.rsl aD xs] (.bool (fV (xs.map gA))):=by
 obtain⟨hl,hp⟩:=hx;rw[Du];refine aJ.intro (nt:=30) aG mixed (by kernel_rfl) Tryz.func100 rfl rfl rfl rfl rfl ?_;refine oZ (F5 _ _ _) ?_;refine aI (fun q=> ?_) (fun q=> ?_)
 .have q2:(!gG ((xs.length:Nat):Int) 1 600)=true:=q;rw[show gG ((xs.length:Nat):Int) 1 600=false by simpa using q2];exact rfl
 have q2:(!gG ((xs.length:Nat):Int) 1 600)=false:=q;have hin:gG ((xs.length:Nat):Int) 1 600=true:=by simpa using q2
 rw[hin,Bool.true_and];have h6:=iU hin;refine lp Nat (fun i=>[(3,.int .i64 (i:Nat))]) (fun _=>[]) (fun i=>xs.length-i) (fun i=>i<=xs.length/\eD i (mO (xs.map gA))=true) 0 ⟨Nat.zero_le _,rfl⟩ ?_ ?_
 .exact hd [] rfl (aI (aI rfl rfl) trivial) trivial
 rintro i ⟨hi,hall⟩;refine aI (fun q1=> ?_) (fun q1=> ?_)
 .have hlt:i<xs.length:=by
   have q2:decide (((i:Nat):Int)<(xs.length:Nat))=true:=q1;simp only[qQ]at q2;omega
  have hbd:0<=((i:Nat):Int)/\((i:Nat):Int)<(xs.length:Nat):=by omega
  have ho:=UJ xs i;refine aI hbd ?_;refine oZ (Y2 (ah xs (i:Nat)) (hp i hlt)) ?_;refine aI (fun _=>hbd) ?_;refine aI (fun q2=> ?_) (fun q2=> ?_)
  .have q3:(bif !gD (gA (ah xs (i:Nat)))then true else(((ah xs (i:Nat)).1==1) !=(((i:Nat):Int)==0)))=true:=q2;rw[wC hlt (by rw[ho];revert q3;cases gD (gA (ah xs (i:Nat)))<;>cases ((ah xs (i:Nat)).1==1)<;>cases (((i:Nat):Int)==0)<;>simp)];exact rfl
  .have q3:(bif !gD (gA (ah xs (i:Nat)))then true else(((ah xs (i:Nat)).1==1) !=(((i:Nat):Int)==0)))=false:=q2;refine aY (i+1) ⟨hlt,wD hall (by rw[ho];revert q3;cases gD (gA (ah xs (i:Nat)))<;>cases ((ah xs (i:Nat)).1==1)<;>cases (((i:Nat):Int)==0)<;>simp)⟩ ?_ ?_
   .exact hd [] rfl (aI (aI (dG (by omega)) rfl) trivial) trivial
   .show xs.length-(i+1)<xs.length-i;omega
 .have hge:i=xs.length:=by
   have q2:decide (((i:Nat):Int)<(xs.length:Nat))=false:=q1;simp only[qP]at q2;omega
  subst hge;rw[hall];exact rfl
end Go.Proofs.YtbdimbjclhmeoaaGreat
namespace Go.Tr
open Go Go.RowKit
theorem NI(k f:Int):bS k f<=4:=by
 unfold bS;split
 .split
  .rename_i h;have:=iU h;omega
  .omega
 .repeat' split
  all_goals omega
theorem IE{a:aH}(h:gD a=true):1<=a.aO.length/\a.aO.length<=4:=by
 simp only[gD,qD,qQ,beq_iff_eq]at h;have:=NI a.kind (fieldsOf a);omega
theorem wz{l:List aH}(h:fV l=true):1<=l.length/\l.length<=600/\∀k,k<l.length->mO l k=true:=by
 simp only[fV,qD]at h;have h1:=iU h.1;exact⟨by omega,by omega,fun k hk=>qo h.2 hk⟩
theorem sQ{l:List aH}{k:Nat}(h:mO l k=true):(jL l k).aO.length<=4:=by
 simp only[mO,qD]at h;exact(IE h.1).2
def PrL(bk:List (List ak)):Prop:=∀i:Nat,i<bk.length->V9 (bG bk (i:Nat))
theorem EX(xs:aS)(p:aC):jh (xs.map gA) (gP p)=(gG p.1 0 ((xs.length:Int)-1)&&gG p.2 0 (((ah xs (p.1.toNat:Nat)).2.2.2.2.length:Int)-1)):=by
 unfold jh;rw[qV];show(_&&gG p.2 0 (((jL (xs.map gA) p.1.toNat).aO.length:Int)-1))=_;rw[wK,mY,qV];rfl
theorem Td(p q:aC):yE (gP p) (gP q)=I8 p q:=by
 rw[Bool.eq_iff_iff,WT];unfold yE;simp only[qQ];exact⟨Tz,fun e=>by rw[e]⟩
def nK(xs:List ak)(me:aC):Bool:=bif (bif I8 (ay xs me) me then true else !jh (xs.map gA) (gP (ay xs me)))then false else I8 (ay xs (ay xs me)) me
theorem PW(xs:aS)(i:Nat)(k:Nat):BL (jL (xs.map gA) i).aO k=gP (ay xs (((i:Nat):Int),((k:Nat):Int))):=by
 rw[wK,mY,Tx];rfl
theorem Mq(xs:aS)(i k:Nat):Qr (xs.map gA) ⟨(i:Nat),(k:Nat)⟩ (BL (jL (xs.map gA) i).aO k)=nK xs (((i:Nat):Int),((k:Nat):Int)):=by
 rw[PW];unfold Qr nK;have e1:(⟨((i:Nat):Int),((k:Nat):Int)⟩:aU)=gP (((i:Nat):Int),((k:Nat):Int)):=rfl;rw[e1,Td];generalize ((((i:Nat):Int),((k:Nat):Int)):aC)=me;cases he:I8 (ay xs me) me with
 |true=>rfl
 |false=>
  cases hp:jh (xs.map gA) (gP (ay xs me))with
  |false=>rfl
  |true=>
   have hin:=vH hp
   have e2:Nv (xs.map gA) (gP (ay xs me))=gP (ay xs (ay xs me)):=by
    have h0:=hin.1;have h2:=hin.2.2.1;generalize ay xs me=p at*;have e3:p=(((p.1.toNat:Nat):Int),((p.2.toNat:Nat):Int)):=Prod.ext (by simp only;omega) (by simp only;omega)
    conv=>rhs;rw[e3]
    rw[<-PW];rfl
   rw[e2,Td];rfl
end Go.Tr
namespace Go.Proofs.YtbdimbjclhmeoaaGreat
open Go Go.RowKit Go.Proofs Go.Tr
theorem ZQ(xs:aS)(hx:V9 xs)(p:aC):aJ Tryz.prog 101 [.rsl aD xs,vP p] (.bool (jh (xs.map gA) (gP p))):=by
 obtain⟨hl,hp⟩:=hx;unfold K7 at hl hp;rw[EX];have w1:IntKind.i64.wrap (((xs.length:Nat):Int)-1)=((xs.length:Nat):Int)-1:=qO _ (by omega);refine aJ.intro (nt:=24) aG mixed (by kernel_rfl) Tryz.func101 rfl rfl rfl rfl rfl ?_;refine oZ (F5 _ _ _) ?_;refine aI (fun q=> ?_) ?_
 .have q':gG p.1 0 (IntKind.i64.wrap (((xs.length:Nat):Int)-1))=true:=q;rw[w1]at q';have:=iU q';exact⟨this.1,by omega⟩
 refine oZ (fun gg=>F5 _ _ _) ?_;refine aI (by kernel_rfl) ?_;show(bif gG p.1 0 (IntKind.i64.wrap (((xs.length:Nat):Int)-1))then gG p.2 0 (IntKind.i64.wrap ((((ah xs p.1).2.2.2.2.length:Nat):Int)-1))else false)=_;rw[iX,w1];cases hi:gG p.1 0 (((xs.length:Nat):Int)-1)with
 |false=>rfl
 |true=>
  have hb:=iU hi;have h4:=hp p.1.toNat (by omega);rw[show((p.1.toNat:Nat):Int)=p.1 by omega]at h4 |-;rw[qO _ (by omega)]
theorem Zbo(xs:aS)(hx:V9 xs):aJ Tryz.prog 65 [.rp aZ xs] (.bool (iB (gN xs))):=by
 have e0:iB (gN xs)=(fV (xs.map gA)&&eD xs.length (pX (xs.map gA))):=by unfold iB gN;rw[qV]
 rw[e0];refine aJ.intro (nt:=77) aG mixed YH Tryz.func65 rfl rfl rfl rfl rfl ?_;refine oZ (Ww xs hx) ?_;refine aI (fun q=> ?_) (fun q=> ?_)
 .have q2:(!fV (xs.map gA))=true:=q;rw[show fV (xs.map gA)=false by simpa using q2];exact rfl
 have q2:(!fV (xs.map gA))=false:=q;have hag:fV (xs.map gA)=true:=by simpa using q2
 rw[hag,Bool.true_and];obtain⟨g1,g2,g3⟩:=wz hag;rw[qV]at g2 g3;refine lp Nat (fun i=>[(3,.int .i64 (i:Nat))]) (fun _=>[]) (fun i=>xs.length-i) (fun i=>i<=xs.length/\eD i (pX (xs.map gA))=true) 0 ⟨Nat.zero_le _,rfl⟩ ?_ ?_
 .exact hd [] rfl (aI (aI rfl rfl) trivial) trivial
 rintro i ⟨hi,hall⟩;refine aI (fun q1=> ?_) (fun q1=> ?_)
 .have hlt:i<xs.length:=by
   have q2:decide (((i:Nat):Int)<(xs.length:Nat))=true:=q1;simp only[qQ]at q2;omega
  have hbd:0<=((i:Nat):Int)/\((i:Nat):Int)<(xs.length:Nat):=by omega
  have h4:=sQ (g3 i hlt);have el:(jL (xs.map gA) i).aO.length=(ah xs (i:Nat)).2.2.2.2.length:=by rw[wK,mY,qV]
  rw[el]at h4
  have hw:pX (xs.map gA) i=eD (ah xs (i:Nat)).2.2.2.2.length fun k=>nK xs (((i:Nat):Int),((k:Nat):Int)):=by
   unfold pX;rw[el]
   congr 1
   exact funext fun k=>Mq xs i k
  refine aI hbd ?_;refine lp Nat (fun k=>[(5,.int .i64 (k:Nat))]) (fun _=>[]) (fun k=>(ah xs (i:Nat)).2.2.2.2.length-k) (fun k=>k<=(ah xs (i:Nat)).2.2.2.2.length/\eD k (fun k=>nK xs (((i:Nat):Int),((k:Nat):Int)))=true) 0 ⟨Nat.zero_le _,rfl⟩ ?_ ?_
  .exact hd [] rfl (aI (aI rfl rfl) trivial) trivial
  rintro k ⟨hk,hkl⟩;refine aI (fun q2=> ?_) (fun q2=> ?_)
  .have hlk:k<(ah xs (i:Nat)).2.2.2.2.length:=by
    have q3:decide (((k:Nat):Int)<((ah xs (i:Nat)).2.2.2.2.length:Nat))=true:=q2;simp only[qQ]at q3;omega
   refine aI (show 0<=((k:Nat):Int)/\((k:Nat):Int)<((ah xs (i:Nat)).2.2.2.2.length:Nat) by omega) ?_
   have hgi:(!(bif I8 (ay xs (((i:Nat):Int),((k:Nat):Int))) (((i:Nat):Int),((k:Nat):Int))then true else !jh (xs.map gA) (gP (ay xs (((i:Nat):Int),((k:Nat):Int))))))=true->aj xs (ay xs (((i:Nat):Int),((k:Nat):Int))):=fun h=>by
    refine vH ?_;revert h;cases I8 (ay xs (((i:Nat):Int),((k:Nat):Int))) (((i:Nat):Int),((k:Nat):Int))<;>cases jh (xs.map gA) (gP (ay xs (((i:Nat):Int),((k:Nat):Int))))<;>simp
   refine aI ⟨by kernel_rfl,rfl⟩ ?_;refine oZ (fun _=>ZQ xs hx (ay xs (((i:Nat):Int),((k:Nat):Int)))) ?_;refine aI (fun gg=> ?_) ?_
   .have h:=hgi gg;exact⟨h.1,h.2.1⟩
   refine aI (fun gg=> ?_) ?_
   .have h:=hgi gg;exact⟨h.2.2.1,h.2.2.2⟩
   refine aI (fun _=>⟨by kernel_rfl,rfl⟩) ?_;refine aI (by kernel_rfl) ?_;refine aI (fun q3=> ?_) (fun q3=> ?_)
   .have q4:(bif (bif I8 (ay xs (((i:Nat):Int),((k:Nat):Int))) (((i:Nat):Int),((k:Nat):Int))then true else !jh (xs.map gA) (gP (ay xs (((i:Nat):Int),((k:Nat):Int)))))then true else !I8 (ay xs (ay xs (((i:Nat):Int),((k:Nat):Int)))) (((i:Nat):Int),((k:Nat):Int)))=true:=q3
    have hf:nK xs (((i:Nat):Int),((k:Nat):Int))=false:=by
     unfold nK;revert q4;cases (bif I8 (ay xs (((i:Nat):Int),((k:Nat):Int))) (((i:Nat):Int),((k:Nat):Int))then true else !jh (xs.map gA) (gP (ay xs (((i:Nat):Int),((k:Nat):Int)))))<;>simp
    rw[wC hlt (by rw[hw];exact wC hlk hf)];exact rfl
   .have q4:(bif (bif I8 (ay xs (((i:Nat):Int),((k:Nat):Int))) (((i:Nat):Int),((k:Nat):Int))then true else !jh (xs.map gA) (gP (ay xs (((i:Nat):Int),((k:Nat):Int)))))then true else !I8 (ay xs (ay xs (((i:Nat):Int),((k:Nat):Int)))) (((i:Nat):Int),((k:Nat):Int)))=false:=q3
    have hf:nK xs (((i:Nat):Int),((k:Nat):Int))=true:=by
     unfold nK;revert q4;cases (bif I8 (ay xs (((i:Nat):Int),((k:Nat):Int))) (((i:Nat):Int),((k:Nat):Int))then true else !jh (xs.map gA) (gP (ay xs (((i:Nat):Int),((k:Nat):Int)))))<;>simp
    refine aY (k+1) ⟨hlk,wD hkl hf⟩ ?_ ?_
    .exact hd [] rfl (aI (aI (dG (by omega)) rfl) trivial) trivial
    .show(ah xs (i:Nat)).2.2.2.2.length-(k+1)<(ah xs (i:Nat)).2.2.2.2.length-k;omega
  .have hge:k=(ah xs (i:Nat)).2.2.2.2.length:=by
    have q3:decide (((k:Nat):Int)<((ah xs (i:Nat)).2.2.2.2.length:Nat))=false:=q2;simp only[qP]at q3;omega
   subst hge;refine aY (i+1) ⟨hlt,wD hall (by rw[hw];exact hkl)⟩ ?_ ?_
   .exact hd [] rfl (aI (aI (dG (by omega)) rfl) trivial) trivial
   .show xs.length-(i+1)<xs.length-i;omega
 .have hge:i=xs.length:=by
   have q2:decide (((i:Nat):Int)<(xs.length:Nat))=false:=q1;simp only[qP]at q2;omega
  subst hge;rw[hall];exact rfl
theorem Zc(bk:iQ)(hx:PrL bk):aJ Tryz.prog 64 [.rsl aZ bk] (.bool (jM (bk.map gN))):=by
 have e0:jM (bk.map gN)=(decide ((bk.length:Int)<=24)&&eD bk.length fun k=>iB (gN (bG bk (k:Nat)))):=by
  unfold jM;rw[qV]
  congr 2
  exact funext fun k=>by rw[Dx]
 rw[e0];refine aJ.intro (nt:=18) aG mixed PG Tryz.func64 rfl rfl rfl rfl rfl ?_;refine aI (fun q=> ?_) (fun q=> ?_)
 .have q2:decide ((24:Int)<(bk.length:Nat))=true:=q;simp only[qQ]at q2;have h24:decide ((bk.length:Int)<=24)=false:=by simp only[qP];omega
  rw[h24];exact rfl
 have q2:decide ((24:Int)<(bk.length:Nat))=false:=q;simp only[qP]at q2;have h24:decide ((bk.length:Int)<=24)=true:=by simp only[qQ];omega
 rw[h24,Bool.true_and];refine lp Nat (fun i=>[(3,.int .i64 (i:Nat))]) (fun _=>[]) (fun i=>bk.length-i) (fun i=>i<=bk.length/\eD i (fun k=>iB (gN (bG bk (k:Nat))))=true) 0 ⟨Nat.zero_le _,rfl⟩ ?_ ?_
 .exact hd [] rfl (aI (aI rfl rfl) trivial) trivial
 rintro i ⟨hi,hall⟩;refine aI (fun q1=> ?_) (fun q1=> ?_)
 .have hlt:i<bk.length:=by
   have q3:decide (((i:Nat):Int)<(bk.length:Nat))=true:=q1;simp only[qQ]at q3;omega
  refine aI (show 0<=((i:Nat):Int)/\((i:Nat):Int)<(bk.length:Nat) by omega) ?_;refine oZ (Zbo (bG bk (i:Nat)) (hx i hlt)) ?_;refine aI (fun q3=> ?_) (fun q3=> ?_)
  .have q4:(!iB (gN (bG bk (i:Nat))))=true:=q3;rw[wC hlt (by simpa using q4)];exact rfl
  .have q4:(!iB (gN (bG bk (i:Nat))))=false:=q3;refine aY (i+1) ⟨hlt,wD hall (by simpa using q4)⟩ ?_ ?_
   .exact hd [] rfl (aI (aI (dG (by omega)) rfl) trivial) trivial
   .show bk.length-(i+1)<bk.length-i;omega
 .have hge:i=bk.length:=by
   have q3:decide (((i:Nat):Int)<(bk.length:Nat))=false:=q1;simp only[qP]at q3;omega
  subst hge;rw[hall];exact rfl
end Go.Proofs.YtbdimbjclhmeoaaGreat
namespace Go.Tr
open Go Go.RowKit
theorem aJ.pre{P:Program}{f:Nat}{args:List SV}{r:SV}{Φ:Prop}(hok:bH P f=true)(hd:∀(cx:Cx) (β:Nat->Value) (vs:bW),aF cx β args vs->Φ)(h:Φ->aJ P f args r):aJ P f args r:=
 ⟨hok,fun cx β w fr vs hI hD=>(h (hd cx β vs hD)).2 cx β w fr vs hI hD⟩
theorem NK{w:World}{xs:aS}{bs:dF}{v:Value}(h:T1 w (.sl xs.length (xs.flatMap (enc aD))) bs v):V9 xs:=by
 obtain⟨A,c,rfl,h1,h2⟩:=h.slice;refine⟨by unfold maxLen at h2;unfold K7;omega,fun i hi=> ?_⟩;obtain⟨_,b,off,b1,b2,b3,us,_,_,_,_,ht⟩:=T1.at_ (s:=5) (fun x=>bQ aD x) h rfl hi;have e:ah xs (i:Nat)=xs[i]:=tL hi;rw[e];generalize xs[i]=a at*;have ht':TN w ([.v (.int .i64 a.1)]++([.v (.int .i64 a.2.1)]++([.v (.int .i64 a.2.2.1)]++([.sl a.2.2.2.1.length (a.2.2.2.1.flatMap (enc (.int .i64)))]++[.sl a.2.2.2.2.length (a.2.2.2.2.flatMap (enc aK))])))) b2 us:=ht;obtain⟨_,rfl,t1⟩:=TN.nu ht';obtain⟨_,rfl,t2⟩:=TN.nu t1
 obtain⟨_,rfl,t3⟩:=TN.nu t2;obtain⟨_,_,_,_,_,_,_,t4⟩:=TN.cons.1 t3;obtain⟨_,_,_,_,_,_,t7,_⟩:=TN.cons.1 t4;obtain⟨_,_,_,k1,k2⟩:=t7.slice;unfold maxLen at k2;unfold K7;omega
theorem ZU{w:World}{bk:iQ}{bs:dF}{v:Value}(h:T1 w (.sl bk.length (bk.flatMap (enc aZ))) bs v):PrL bk:=fun i hi=>by
 obtain⟨A,c,rfl,_,_⟩:=h.slice;obtain⟨_,b,off,b1,b2,b3,us,_,_,_,_,ht⟩:=T1.at_ (s:=1) (fun x=>bQ aZ x) h rfl hi
 have e:bG bk (i:Nat)=bk[i]:=by
  unfold bG elt;rw[qK,qC,qB hi];rfl
 rw[e];generalize bk[i]=xs at*;have ht':TN w [.sl xs.length (xs.flatMap (enc aD))] b2 us:=ht;obtain⟨_,_,_,_,_,_,t1,_⟩:=TN.cons.1 ht';exact NK t1
theorem xK{cx:Cx}{β:Nat->Value}{s:SV}{l:List SV}{vs:bW}(h:aF cx β (s::l) vs):∃v,Den cx β s v:=by
 unfold aF at h;obtain⟨v,_,_,h1,_⟩:=h;exact⟨v,h1⟩
theorem ZT{cx:Cx}{β:Nat->Value}{xs:aS}{l:List SV}{vs:bW}(h:aF cx β (.rsl aD xs::l) vs):V9 xs:=by
 obtain⟨v,h1⟩:=xK h;unfold Den at h1;obtain⟨bs,ht,_⟩:=h1;exact NK ht
theorem ZV{cx:Cx}{β:Nat->Value}{bk:iQ}{l:List SV}{vs:bW}(h:aF cx β (.rsl aZ bk::l) vs):PrL bk:=by
 obtain⟨v,h1⟩:=xK h;unfold Den at h1;obtain⟨bs,ht,_⟩:=h1;exact ZU ht
theorem XG{cx:Cx}{β:Nat->Value}{xs:aS}{l:List SV}{vs:bW}(h:aF cx β (.agg [.rsl aD xs]::l) vs):V9 xs:=by
 obtain⟨v,h1⟩:=xK h;unfold Den at h1;obtain⟨us,_,h2⟩:=h1;exact ZT h2
theorem XH{cx:Cx}{β:Nat->Value}{xs:aS}{l:List SV}{vs:bW}(h:aF cx β (.rp aZ xs::l) vs):V9 xs:=by
 obtain⟨v,h1⟩:=xK h;unfold Den at h1;obtain⟨b,o,_,_,_,us,_,bs,ht,_⟩:=h1;have ht':TN cx.w0 [.sl xs.length (xs.flatMap (enc aD))] bs us:=ht;obtain⟨_,_,_,_,_,_,t1,_⟩:=TN.cons.1 ht';exact NK t1
end Go.Tr
namespace Go.Proofs.YtbdimbjclhmeoaaGreat
open Go Go.RowKit Go.Proofs Go.Tr
theorem Xv(xs:aS):aJ Tryz.prog 65 [.rp aZ xs] (.bool (iB (gN xs))):=aJ.pre YH (fun _ _ _ h=>XH h) (Zbo xs)
theorem OD(bk:iQ):aJ Tryz.prog 64 [.rsl aZ bk] (.bool (jM (bk.map gN))):=aJ.pre PG (fun _ _ _ h=>ZV h) (Zc bk)
end Go.Proofs.YtbdimbjclhmeoaaGreat
namespace Go.Tr
open Go Go.RowKit
def EZ(i k:Nat):List aC:=(List.range k).map fun j:Nat=>(((i:Nat):Int),((j:Nat):Int))
def zi(xs:List ak)(n:Nat):List aC:=(List.range n).flatMap fun i:Nat=>EZ i (ah xs (i:Nat)).2.2.2.2.length
theorem Rt(i k:Nat):EZ i (k+1)=EZ i k++[(((i:Nat):Int),((k:Nat):Int))]:=by unfold EZ;rw[List.range_succ,qZ];rfl
theorem Ia(xs:aS)(i:Nat):zi xs (i+1)=zi xs i++EZ i (ah xs (i:Nat)).2.2.2.2.length:=by unfold zi;rw[List.range_succ,List.flatMap_append];simp
theorem LC(i k:Nat):(EZ i k).length=k:=by unfold EZ;simp
theorem E5{xs:aS}(h:∀i:Nat,i<xs.length->(ah xs (i:Nat)).2.2.2.2.length<=4):∀i:Nat,i<=xs.length->(zi xs i).length<=4*i
 |0,_=>Nat.le_refl 0
 |i+1,hi=>by
  rw[Ia,qA,LC];have:=E5 h i (by omega);have:=h i (by omega);omega
theorem XK{xs:aS}{p:aC}(h:p∈zi xs xs.length):aj xs p:=by
 unfold zi at h;obtain⟨i,hi,hp⟩:=List.mem_flatMap.1 h;rw[List.mem_range]at hi;unfold EZ at hp;obtain⟨k,hk,rfl⟩:=List.mem_map.1 hp;rw[List.mem_range]at hk;exact⟨by simp only;omega,by simp only;omega,by simp only;omega,by simp only;show((k:Nat):Int)<((ah xs (i:Nat)).2.2.2.2.length:Nat);omega⟩
theorem Vh(xs:aS)(h:fV (xs.map gA)=true):(!(zi xs xs.length).any fun p=> !nK xs p)=iB (gN xs):=by
 have e0:iB (gN xs)=(fV (xs.map gA)&&eD xs.length (pX (xs.map gA))):=by unfold iB gN;rw[qV]
 rw[e0,h,Bool.true_and];unfold zi eD;rw[List.any_flatMap,List.not_any_eq_all_not]
 congr 1
 refine funext fun i=> ?_
 have el:(jL (xs.map gA) i).aO.length=(ah xs (i:Nat)).2.2.2.2.length:=by rw[wK,mY,qV]
 unfold EZ pX eD;rw[List.any_map,List.not_any_eq_all_not,el]
 congr 1
 refine funext fun k=> ?_
 rw[Mq];simp
theorem ND(xs:aS)(p:aC):(bif (bif (bif decide (0<=p.1)then decide (p.1<(xs.length:Nat))else false)then decide (0<=p.2)else false)then decide (p.2<((ah xs p.1).2.2.2.2.length:Nat))else false)=jh (xs.map gA) (gP p):=by
 rw[EX,Bool.eq_iff_iff];unfold gG
 by_cases h0:0<=p.1
 .rw[show((p.1.toNat:Nat):Int)=p.1 by omega]
  by_cases h1:p.1<(xs.length:Nat)<;>by_cases h2:0<=p.2<;>by_cases h3:p.2<((ah xs p.1).2.2.2.2.length:Nat)<;>simp[h0,h1,h2,h3]<;>omega
 .simp[h0]
theorem Js{α:Type}{g:α->Bool}:∀{l:List α} {k:Int},0<=k->decide (0<=j6 g l k)=l.any g
 |[],k,_=>rfl
 |x::l,k,h=>by
  conv=>lhs;unfold j6
  rw[List.any_cons];cases hx:g x with
  |true=>simp[h]
  |false=>
   simp only[qH,Bool.false_or];exact Js (by omega)
end Go.Tr
namespace Go.Proofs.YtbdimbjclhmeoaaGreat
open Go Go.RowKit Go.Proofs Go.Tr
theorem Lj:bH Tryz.prog 108=true:=by kernel_rfl
theorem U0:bH Tryz.prog 74=true:=by kernel_rfl
theorem YF:bH Tryz.prog 107=true:=by kernel_rfl
theorem Y5(xs:aS)(hx:V9 xs):aJ Tryz.prog 106 [.rsl aD xs] (.bool (fV (xs.map gA))):=by
 obtain⟨hl,hp⟩:=hx;rw[Du];refine aJ.intro (nt:=32) aG mixed (by kernel_rfl) Tryz.func106 rfl rfl rfl rfl rfl ?_;refine aI (fun q=> ?_) (fun q=> ?_)
 .have q2:(bif decide (((xs.length:Nat):Int)<1)then true else decide ((600:Int)<(xs.length:Nat)))=true:=q
  have hin:gG ((xs.length:Nat):Int) 1 600=false:=by
   cases hh:gG ((xs.length:Nat):Int) 1 600 with
   |false=>rfl
   |true=>
    have:=iU hh;rw[decide_eq_false (by omega),decide_eq_false (by omega)]at q2;cases q2
  rw[hin];exact rfl
 have q2:(bif decide (((xs.length:Nat):Int)<1)then true else decide ((600:Int)<(xs.length:Nat)))=false:=q
 have hin:gG ((xs.length:Nat):Int) 1 600=true:=by
  unfold gG
  by_cases h1:((xs.length:Nat):Int)<1
  .rw[decide_eq_true h1]at q2;cases q2
  .rw[decide_eq_false h1]at q2;simp only[qH,qP]at q2;simp only[qD,qQ];omega
 have h6:=iU hin;rw[hin,Bool.true_and];refine lp Nat (fun i=>[(15,.int .i64 (i:Nat))]) (fun _=>[]) (fun i=>xs.length-i) (fun i=>i<=xs.length/\eD i (mO (xs.map gA))=true) 0 ⟨Nat.zero_le _,rfl⟩ ?_ ?_
 .exact hd [] rfl (aI (aI rfl rfl) trivial) trivial
 rintro i ⟨hi,hall⟩;refine aI (fun q1=> ?_) (fun q1=> ?_)
 .have hlt:i<xs.length:=by
   have q2:decide (((i:Nat):Int)<(xs.length:Nat))=true:=q1;simp only[qQ]at q2;omega
  have hbd:0<=((i:Nat):Int)/\((i:Nat):Int)<(xs.length:Nat):=by omega
  have ho:=UJ xs i;refine aI hbd ?_;refine oZ (Zb2 (ah xs (i:Nat)) (hp i hlt)) ?_;refine aI (fun q2=> ?_) (fun q2=> ?_)
  .have q3:(bif !gD (gA (ah xs (i:Nat)))then true else(((ah xs (i:Nat)).1==1) !=(((i:Nat):Int)==0)))=true:=q2;rw[wC hlt (by rw[ho];revert q3;cases gD (gA (ah xs (i:Nat)))<;>cases ((ah xs (i:Nat)).1==1)<;>cases (((i:Nat):Int)==0)<;>simp)];exact rfl
  .have q3:(bif !gD (gA (ah xs (i:Nat)))then true else(((ah xs (i:Nat)).1==1) !=(((i:Nat):Int)==0)))=false:=q2;refine aY (i+1) ⟨hlt,wD hall (by rw[ho];revert q3;cases gD (gA (ah xs (i:Nat)))<;>cases ((ah xs (i:Nat)).1==1)<;>cases (((i:Nat):Int)==0)<;>simp)⟩ ?_ ?_
   .exact hd [] rfl (aI (aI (dG (by omega)) rfl) trivial) trivial
   .show xs.length-(i+1)<xs.length-i;omega
 .have hge:i=xs.length:=by
   have q2:decide (((i:Nat):Int)<(xs.length:Nat))=false:=q1;simp only[qP]at q2;omega
  subst hge;rw[hall];exact rfl
theorem Zbd(xs:aS)(p:aC):aJ Tryz.prog 111 [.rsl aD xs,vP p] (.bool (jh (xs.map gA) (gP p))):=by
 refine aJ.intro (nt:=32) aG mixed (by kernel_rfl) Tryz.func111 rfl rfl rfl rfl rfl ?_;refine aI (fun q=> ?_) ?_
 .have q':(bif bif decide (0<=p.1)then decide (p.1<(xs.length:Nat))else false then decide (0<=p.2)else false)=true:=q;rw[iX,iX,qD,qD,qQ,qQ]at q';exact q'.1
 refine aI (by kernel_rfl) ?_;exact ND xs p
theorem Zby(xs:aS)(h:fV (xs.map gA)=true):aA Tryz.prog 108 [.rp aZ xs] [] (.sl 10000) [.row 10000 119 2 aK (zi xs xs.length) []]:=by
 obtain⟨g1,g2,g3⟩:=wz h;rw[qV]at g2 g3
 have hp:∀i:Nat,i<xs.length->(ah xs (i:Nat)).2.2.2.2.length<=4:=fun i hi=>by
  have:=sQ (g3 i hi);rw[wK,mY,qV]at this;exact this
 have hlen:=E5 hp;refine aA.intro (nt:=32) aG mixed Lj Tryz.func108 rfl rfl rfl rfl rfl rfl ?_;refine lp Nat (fun i=>[(3,.sl 20000),(12,.int .i64 (i:Nat))]) (fun i=>[.row 20000 119 2 aK (zi xs i) []]) (fun i=>xs.length-i) (fun i=>i<=xs.length) 0 (Nat.zero_le _) ?_ ?_
 .exact Yz [⟨3,30000,119,2,aK⟩] [(20000,30000)] rfl (aI ⟨rfl,⟨rfl,rfl⟩,trivial⟩ ⟨⟨rfl,nP⟩,trivial⟩)
 intro i hi;refine aI (fun q1=> ?_) (fun q1=> ?_)
 .have hlt:i<xs.length:=by
   have q2:decide (((i:Nat):Int)<(xs.length:Nat))=true:=q1;simp only[qQ]at q2;omega
  have hpi:=hp i hlt;have hli:=hlen i hi;refine aI ⟨by omega,by omega⟩ ?_;refine lp Nat (fun k=>[(3,.sl 21000),(20,.int .i64 (k:Nat))]) (fun k=>[.dL 5 117 [.int .i64 (ah xs (i:Nat)).1,.int .i64 (ah xs (i:Nat)).2.1,.int .i64 (ah xs (i:Nat)).2.2.1,.rsl (.int .i64) (ah xs (i:Nat)).2.2.2.1,.rsl aK (ah xs (i:Nat)).2.2.2.2],.row 21000 119 2 aK (zi xs i++EZ i k) []]) (fun k=>(ah xs (i:Nat)).2.2.2.2.length-k) (fun k=>k<=(ah xs (i:Nat)).2.2.2.2.length) 0 (Nat.zero_le _) ?_ ?_
  .refine hd [(21000,20000)] rfl (aI rfl ⟨⟨rfl,rfl⟩,trivial⟩) ?_;exact⟨trivial,⟨⟨rfl,rfl⟩,⟨rfl,rfl⟩,⟨rfl,rfl⟩,rfl,rfl,trivial⟩,⟨(qS _).symm,nP⟩,trivial⟩
  intro k hk;refine aI (fun q2=> ?_) (fun q2=> ?_)
  .have hk2:k<(ah xs (i:Nat)).2.2.2.2.length:=by
    have q3:decide (((k:Nat):Int)<((ah xs (i:Nat)).2.2.2.2.length:Nat))=true:=q2;simp only[qQ]at q3;omega
   refine aI (by show(zi xs i++EZ i k).length+1<=_;rw[qA,LC];omega) ?_;refine aY (k+1) hk2 ?_ (by show(ah xs (i:Nat)).2.2.2.2.length-(k+1)<(ah xs (i:Nat)).2.2.2.2.length-k;omega);refine hd [(21000,28)] rfl (aI rfl ⟨⟨dG (by omega),rfl⟩,trivial⟩) ?_;exact⟨trivial,⟨⟨rfl,rfl⟩,⟨rfl,rfl⟩,⟨rfl,rfl⟩,rfl,rfl,trivial⟩,⟨by rw[Rt,<-qF];rfl,nP⟩,trivial⟩
  have hke:k=(ah xs (i:Nat)).2.2.2.2.length:=by
   have q3:decide (((k:Nat):Int)<((ah xs (i:Nat)).2.2.2.2.length:Nat))=false:=q2;simp only[qP]at q3;have hk':k<=(ah xs (i:Nat)).2.2.2.2.length:=hk;omega
  subst hke;refine aY (i+1) hlt ?_ (by show xs.length-(i+1)<xs.length-i;omega);exact hd [(20000,21000)] rfl (aI rfl ⟨⟨dG (by omega),rfl⟩,trivial⟩) ⟨⟨(Ia xs i).symm,nP⟩,trivial⟩
 have hge:i=xs.length:=by
  have q2:decide (((i:Nat):Int)<(xs.length:Nat))=false:=q1;simp only[qP]at q2;have hi':i<=xs.length:=hi;omega
 subst hge;exact fin [(10000,20000)] (aI rfl ⟨⟨rfl,nP⟩,trivial⟩)
theorem vn1Q(xs:aS)(p:aC)(hp:aj xs p):aJ Tryz.prog 109 [vP p,.rp aZ xs] (.bool (!nK xs p)):=by
 have hgi:(!(bif I8 (ay xs p) p then true else !jh (xs.map gA) (gP (ay xs p))))=true->aj xs (ay xs p):=fun h=>by
  refine vH ?_;revert h;cases I8 (ay xs p) p<;>cases jh (xs.map gA) (gP (ay xs p))<;>simp
 refine aJ.intro (nt:=23) aG mixed (by kernel_rfl) Tryz.func109 rfl rfl rfl rfl rfl ?_;refine oZ (PV xs p hp) ?_;refine aI ⟨by kernel_rfl,rfl⟩ ?_;refine oZ (fun _=>Zbd xs (ay xs p)) ?_;refine oZ (fun gg=>PV xs (ay xs p) (hgi gg)) ?_;refine aI (fun _=>⟨by kernel_rfl,rfl⟩) ?_;refine aI (by kernel_rfl) ?_;refine Eq.trans (Eq.refl _) ?_;show(bif (bif I8 (ay xs p) p then true else !jh (xs.map gA) (gP (ay xs p)))then true else !I8 (ay xs (ay xs p)) p)=_;unfold nK;cases (bif I8 (ay xs p) p then true else !jh (xs.map gA) (gP (ay xs p)))<;>rfl
theorem Za5{ps:List aC}{i:Nat}(h:i<ps.length):ps.drop i=elt (dflt aK) ps (i:Nat)::ps.drop (i+1):=by
 rw[List.drop_eq_getElem_cons h]
 congr 1
 unfold elt;rw[qK,qC,qB h];rfl
theorem eltP{ps:List aC}{i:Nat}(h:i<ps.length):elt (dflt aK) ps (i:Nat)∈ps:=by
 unfold elt;rw[qK,qC,qB h];exact List.getElem_mem h
theorem ixPQ(xs:aS)(ps:List aC)(hl:ps.length<=1048576)(hp:∀p∈ps,aj xs p):aJ Tryz.prog 137 [.rsl aK ps,.fn 109 [.rp aZ xs]] (.int .i64 (j6 (fun p=> !nK xs p) ps 0)):=by
 refine aJ.intro (nt:=19) aG mixed (by kernel_rfl) Tryz.func137 rfl rfl rfl rfl rfl ?_;refine lp Nat (fun i=>[(8,.int .i64 (i:Nat))]) (fun _=>[]) (fun i=>ps.length-i) (fun i=>i<=ps.length/\j6 (fun p=> !nK xs p) ps 0=j6 (fun p=> !nK xs p) (ps.drop i) i) 0 ⟨Nat.zero_le _,rfl⟩ ?_ ?_
 .exact hd [] rfl (aI (aI rfl rfl) trivial) trivial
 rintro i ⟨hi,he⟩;refine aI (fun q1=> ?_) (fun q1=> ?_)
 .have hlt:i<ps.length:=by
   have q2:decide (((i:Nat):Int)<(ps.length:Nat))=true:=q1;simp only[qQ]at q2;omega
  refine aI (show 0<=((i:Nat):Int)/\((i:Nat):Int)<(ps.length:Nat) by omega) ?_;refine oZ (vn1Q xs (elt (dflt aK) ps (i:Nat)) (hp _ (eltP hlt))) ?_;rw[Za5 hlt]at he;refine aI (fun q2=> ?_) (fun q2=> ?_)
  .rw[he,show j6 (fun p=> !nK xs p) (elt (dflt aK) ps (i:Nat)::ps.drop (i+1)) i=i by unfold j6;rw[show(!nK xs (elt (dflt aK) ps (i:Nat)))=true from q2];rfl];exact⟨rfl,rfl⟩
  .refine aY (i+1) ⟨hlt,?_⟩ ?_ ?_
   .rw[he]
    conv=>lhs;unfold j6
    rw[show(!nK xs (elt (dflt aK) ps (i:Nat)))=false from q2];rfl
   .exact hd [] rfl (aI (aI (dG (by omega)) rfl) trivial) trivial
   .show ps.length-(i+1)<ps.length-i;omega
 .have hge:i=ps.length:=by
   have q2:decide (((i:Nat):Int)<(ps.length:Nat))=false:=q1;simp only[qP]at q2;omega
  subst hge;rw[he,List.drop_length];exact⟨rfl,rfl⟩
theorem cnPQ(xs:aS)(ps:List aC)(hl:ps.length<=1048576)(hp:∀p∈ps,aj xs p):aJ Tryz.prog 107 [.rsl aK ps,.fn 109 [.rp aZ xs]] (.bool (ps.any fun p=> !nK xs p)):=by
 refine aJ.intro (nt:=9) aG mixed YF Tryz.func107 rfl rfl rfl rfl rfl ?_;refine oZ (ixPQ xs ps hl hp) ?_;rw[<-Js (l:=ps) (k:=0) (by omega)];exact rfl
theorem Zbl(xs:aS)(hx:V9 xs):aJ Tryz.prog 74 [.agg [.rsl aD xs]] (.bool (iB (gN xs))):=by
 refine aJ.intro (nt:=11) aG mixed U0 Tryz.func74 rfl rfl rfl rfl rfl ?_;refine oZ (Y5 xs hx) ?_;refine aI (fun q=> ?_) (fun q=> ?_)
 .have q2:(!fV (xs.map gA))=true:=q
  have e:iB (gN xs)=false:=by
   unfold iB gN;rw[show fV (xs.map gA)=false by simpa using q2];rfl
  rw[e];exact rfl
 have q2:(!fV (xs.map gA))=false:=q;have hag:fV (xs.map gA)=true:=by simpa using q2
 obtain⟨g1,g2,g3⟩:=wz hag;rw[qV]at g2 g3
 have hlen:=E5 (xs:=xs) (fun i hi=>by
  have:=sQ (g3 i hi);rw[wK,mY,qV]at this;exact this) xs.length (Nat.le_refl _)
 refine oY (aA.Ey (ts:=[.dL 10000 37 [.rsl aD xs]]) (ts2:=[.row 10001 119 2 aK (zi xs xs.length) []]) (args:=[.ptr 10000 0]) (r2:=.sl 10001) aG [64] Lj (Zby xs hag) rfl rfl rfl) ?_;refine oY (aA.vC (ts:=[.row 10000 119 2 aK (zi xs xs.length) [],.dL 10001 37 [.rsl aD xs]]) (args:=[.sl 10000,.fn 109 [.ptr 10001 0]]) aG [115,0] YF (cnPQ xs (zi xs xs.length) (by omega) fun p h=>XK h) rfl) ?_;refine Eq.trans (Eq.refl _) ?_;exact Vh xs hag
theorem UA(xs:aS):aJ Tryz.prog 74 [.agg [.rsl aD xs]] (.bool (iB (gN xs))):=aJ.pre U0 (fun _ _ _ h=>XG h) (Zbl xs)
theorem vt1Q(xs:aS):aJ Tryz.prog 105 [.agg [.rsl aD xs]] (.bool (!iB (gN xs))):=by
 refine aJ.intro (nt:=6) aG mixed (by kernel_rfl) Tryz.func105 rfl rfl rfl rfl rfl ?_;refine oZ (UA xs) ?_;exact rfl
theorem Za4{bk:iQ}{i:Nat}(h:i<bk.length):bk.drop i=elt (dflt aZ) bk (i:Nat)::bk.drop (i+1):=by
 rw[List.drop_eq_getElem_cons h]
 congr 1
 unfold elt;rw[qK,qC,qB h];rfl
theorem ixNQ(bk:iQ)(hl:bk.length<=1048576):aJ Tryz.prog 135 [.rsl aZ bk,.fn 105 []] (.int .i64 (j6 (fun xs=> !iB (gN xs)) bk 0)):=by
 refine aJ.intro (nt:=19) aG mixed (by kernel_rfl) Tryz.func135 rfl rfl rfl rfl rfl ?_;refine lp Nat (fun i=>[(8,.int .i64 (i:Nat))]) (fun _=>[]) (fun i=>bk.length-i) (fun i=>i<=bk.length/\j6 (fun xs=> !iB (gN xs)) bk 0=j6 (fun xs=> !iB (gN xs)) (bk.drop i) i) 0 ⟨Nat.zero_le _,rfl⟩ ?_ ?_
 .exact hd [] rfl (aI (aI rfl rfl) trivial) trivial
 rintro i ⟨hi,he⟩;refine aI (fun q1=> ?_) (fun q1=> ?_)
 .have hlt:i<bk.length:=by
   have q2:decide (((i:Nat):Int)<(bk.length:Nat))=true:=q1;simp only[qQ]at q2;omega
  refine aI (show 0<=((i:Nat):Int)/\((i:Nat):Int)<(bk.length:Nat) by omega) ?_;refine oZ (vt1Q (elt (dflt aZ) bk (i:Nat))) ?_;rw[Za4 hlt]at he;refine aI (fun q2=> ?_) (fun q2=> ?_)
  .rw[he,show j6 (fun xs=> !iB (gN xs)) (elt (dflt aZ) bk (i:Nat)::bk.drop (i+1)) i=i by unfold j6;rw[show(!iB (gN (elt (dflt aZ) bk (i:Nat))))=true from q2];rfl];exact⟨rfl,rfl⟩
  .refine aY (i+1) ⟨hlt,?_⟩ ?_ ?_
   .rw[he]
    conv=>lhs;unfold j6
    rw[show(!iB (gN (elt (dflt aZ) bk (i:Nat))))=false from q2];rfl
   .exact hd [] rfl (aI (aI (dG (by omega)) rfl) trivial) trivial
   .show bk.length-(i+1)<bk.length-i;omega
 .have hge:i=bk.length:=by
   have q2:decide (((i:Nat):Int)<(bk.length:Nat))=false:=q1;simp only[qP]at q2;omega
  subst hge;rw[he,List.drop_length];exact⟨rfl,rfl⟩
theorem cnNQ(bk:iQ)(hl:bk.length<=1048576):aJ Tryz.prog 104 [.rsl aZ bk,.fn 105 []] (.bool (bk.any fun xs=> !iB (gN xs))):=by
 refine aJ.intro (nt:=9) aG mixed (by kernel_rfl) Tryz.func104 rfl rfl rfl rfl rfl ?_;refine oZ (ixNQ bk hl) ?_;rw[<-Js (l:=bk) (k:=0) (by omega)];exact rfl
theorem Qn(bk:iQ):aJ Tryz.prog 73 [.rsl aZ bk] (.bool (jM (bk.map gN))):=by
 have e0:jM (bk.map gN)=(decide ((bk.length:Int)<=24)&&eD bk.length fun k=>iB (gN (bG bk (k:Nat)))):=by
  unfold jM;rw[qV]
  congr 2
  exact funext fun k=>by rw[Dx]
 have e1:(eD bk.length fun k=>iB (gN (bG bk (k:Nat))))= !(bk.any fun xs=> !iB (gN xs)):=by
  unfold eD;rw[List.not_any_eq_all_not,Bool.eq_iff_iff,List.all_eq_true,List.all_eq_true];constructor
  .intro h x hx;obtain⟨i,hi,rfl⟩:=List.mem_iff_getElem.1 hx;have:=h i (List.mem_range.2 hi)
   have e:bG bk (i:Nat)=bk[i]:=by
    unfold bG elt;rw[qK,qC,qB hi];rfl
   rw[e]at this;simpa using this
  .intro h i hi;rw[List.mem_range]at hi
   have e:bG bk (i:Nat)=bk[i]:=by
    unfold bG elt;rw[qK,qC,qB hi];rfl
   rw[e];have:=h bk[i] (List.getElem_mem hi);simpa using this
 rw[e0,e1];refine aJ.intro (nt:=11) aG mixed (by kernel_rfl) Tryz.func73 rfl rfl rfl rfl rfl ?_
 refine oZ (fun gg=>cnNQ bk (by
  have q:decide (((bk.length:Nat):Int)<=24)=true:=gg;simp only[qQ]at q;omega)) ?_
 refine Eq.trans (Eq.refl _) ?_;show(bif decide (((bk.length:Nat):Int)<=24)then !(bk.any fun xs=> !iB (gN xs))else false)=_;rw[iX]
end Go.Proofs.YtbdimbjclhmeoaaGreat
