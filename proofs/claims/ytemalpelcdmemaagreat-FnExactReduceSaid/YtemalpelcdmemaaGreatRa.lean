
/- The program's functions on agents: what makes them valid. Printed by gen_neti.py. -/
import Derived.Test.YtemalpelcdmemaaGreatShort
import Derived.Test.YtemalpelcdmemaaGreatProg
import Derived.Test.YtemalpelcdmemaaGreatAgents
import Derived.Test.YtemalpelcdmemaaGreatValid
import Derived.Test.YtemalpelcdmemaaGreatQDbg
import Derived.Test.YtemalpelcdmemaaGreatSc
import Derived.BigGuardPart
import Derived.Outline
import Derived.Deep.CutBlock
import Derived.Test.YtemalpelcdmemaaGreatVti
import Derived.Test.YtemalpelcdmemaaGreatVV
import Derived.Test.YtemalpelcdmemaaGreatNz
import Derived.Test.YtemalpelcdmemaaGreatIo
import Derived.StillTailTactics
import Derived.BigRegion
set_option maxHeartbeats 4000000
set_option maxRecDepth 100000
set_option linter.unusedSimpArgs false
set_option linter.unusedVariables false
namespace Go.Proofs.YtemalpelcdmemaaGreat
open Go Go.RowKit Go.Proofs Go.Tr
theorem wY(n:Int)(w:World):Calls Tryz.prog 232 #[.int .i64 n] w fun e w'=>e=.returned (.bool (kJ n))∧Ext w w':=by
 refine quiet_start fun e=> ?_
 go_enter Tryz.func232,Tryz.ntmps232
 go_wp2
 all_goals go_ret
 all_goals refine⟨?_,_,rfl⟩
 all_goals first|(simp[kJ,inB, *];done)|(simp[kJ,inB, *];omega)|(simp_all [kJ,inB];done)|(simp_all [kJ,inB];omega)
theorem Qf(n:Int)(w:World):Calls Tryz.prog 233 #[.int .i64 n] w fun e w'=>e=.returned (.bool (r9 n))∧Ext w w':=by
 refine quiet_start fun e=> ?_
 go_enter Tryz.func233,Tryz.ntmps233
 go_wp2
 all_goals go_ret
 all_goals refine⟨?_,_,rfl⟩
 all_goals first|(simp[r9,inB, *];done)|(simp[r9,inB, *];omega)|(simp_all [r9,inB];done)|(simp_all [r9,inB];omega)
theorem Eu(n:Int)(w:World):Calls Tryz.prog 234 #[.int .i64 n] w fun e w'=>e=.returned (.bool (kE n))∧Ext w w':=by
 refine quiet_start fun e=> ?_
 go_enter Tryz.func234,Tryz.ntmps234
 go_wp2
 all_goals go_ret
 all_goals refine⟨?_,_,rfl⟩
 all_goals first|(simp[kE,inB, *];done)|(simp[kE,inB, *];omega)|(simp_all [kE,inB];done)|(simp_all [kE,inB];omega)
theorem C8(k f:Int)(w:World):Calls Tryz.prog 229 #[.int .i64 k,.int .i64 f] w fun e w'=>e=.returned (.int .i64 (dH k f))∧Ext w w':=by
 refine quiet_start fun e=> ?_
 have C1:Hid (QC Tryz.prog w _ _ _):=fun W hW=>(MW k W).q
 cases hk:kW k
 case false=>
  rw[hk]at C1;have hn:=Sl hk;have h9:(k==9)=false:=by simp;omega
  go_enter Tryz.func229,Tryz.ntmps229
  go_wp2_with (first|(go_at_call 220;with_reducible refine(C1.out.at_ _).mono ?_;rintro _ _ ⟨rfl,e,rfl⟩))
  repeat (refine ay _ (by kernel_rfl) (by kernel_rfl) ?_;(repeat (go_big_quiet_step ((first|with_reducible exact C1.out.at_ _))));refine wpQuiet_nil ?_;intro e;go_wp2_with (first|(go_at_call 220;with_reducible refine(C1.out.at_ _).mono ?_;rintro _ _ ⟨rfl,e,rfl⟩)))
  all_goals go_ret
  all_goals refine⟨?_,_,rfl⟩
  all_goals simp[dH]
  all_goals (repeat rw[if_neg (by omega)])
  all_goals (try split)
  all_goals (try rfl)
  all_goals (try omega)
 rw[hk]at C1;have ix1:∀W:World,(Instr.index 233 (.agg #[.int .i64 0,.int .i64 1,.int .i64 3,.int .i64 3,.int .i64 3,.int .i64 1,.int .i64 1,.int .i64 3,.int .i64 2,.int .i64 0,.int .i64 2,.int .i64 2,.int .i64 1]) (.int .i64 1)).run Tryz.prog W=.ok (.int .i64 1) W:=fun _=>by kernel_rfl
 have ix2:∀W:World,(Instr.index 233 (.agg #[.int .i64 0,.int .i64 1,.int .i64 3,.int .i64 3,.int .i64 3,.int .i64 1,.int .i64 1,.int .i64 3,.int .i64 2,.int .i64 0,.int .i64 2,.int .i64 2,.int .i64 1]) (.int .i64 2)).run Tryz.prog W=.ok (.int .i64 3) W:=fun _=>by kernel_rfl
 have ix3:∀W:World,(Instr.index 233 (.agg #[.int .i64 0,.int .i64 1,.int .i64 3,.int .i64 3,.int .i64 3,.int .i64 1,.int .i64 1,.int .i64 3,.int .i64 2,.int .i64 0,.int .i64 2,.int .i64 2,.int .i64 1]) (.int .i64 3)).run Tryz.prog W=.ok (.int .i64 3) W:=fun _=>by kernel_rfl
 have ix4:∀W:World,(Instr.index 233 (.agg #[.int .i64 0,.int .i64 1,.int .i64 3,.int .i64 3,.int .i64 3,.int .i64 1,.int .i64 1,.int .i64 3,.int .i64 2,.int .i64 0,.int .i64 2,.int .i64 2,.int .i64 1]) (.int .i64 4)).run Tryz.prog W=.ok (.int .i64 3) W:=fun _=>by kernel_rfl
 have ix5:∀W:World,(Instr.index 233 (.agg #[.int .i64 0,.int .i64 1,.int .i64 3,.int .i64 3,.int .i64 3,.int .i64 1,.int .i64 1,.int .i64 3,.int .i64 2,.int .i64 0,.int .i64 2,.int .i64 2,.int .i64 1]) (.int .i64 5)).run Tryz.prog W=.ok (.int .i64 1) W:=fun _=>by kernel_rfl
 have ix6:∀W:World,(Instr.index 233 (.agg #[.int .i64 0,.int .i64 1,.int .i64 3,.int .i64 3,.int .i64 3,.int .i64 1,.int .i64 1,.int .i64 3,.int .i64 2,.int .i64 0,.int .i64 2,.int .i64 2,.int .i64 1]) (.int .i64 6)).run Tryz.prog W=.ok (.int .i64 1) W:=fun _=>by kernel_rfl
 have ix7:∀W:World,(Instr.index 233 (.agg #[.int .i64 0,.int .i64 1,.int .i64 3,.int .i64 3,.int .i64 3,.int .i64 1,.int .i64 1,.int .i64 3,.int .i64 2,.int .i64 0,.int .i64 2,.int .i64 2,.int .i64 1]) (.int .i64 7)).run Tryz.prog W=.ok (.int .i64 3) W:=fun _=>by kernel_rfl
 have ix8:∀W:World,(Instr.index 233 (.agg #[.int .i64 0,.int .i64 1,.int .i64 3,.int .i64 3,.int .i64 3,.int .i64 1,.int .i64 1,.int .i64 3,.int .i64 2,.int .i64 0,.int .i64 2,.int .i64 2,.int .i64 1]) (.int .i64 8)).run Tryz.prog W=.ok (.int .i64 2) W:=fun _=>by kernel_rfl
 have ix9:∀W:World,(Instr.index 233 (.agg #[.int .i64 0,.int .i64 1,.int .i64 3,.int .i64 3,.int .i64 3,.int .i64 1,.int .i64 1,.int .i64 3,.int .i64 2,.int .i64 0,.int .i64 2,.int .i64 2,.int .i64 1]) (.int .i64 9)).run Tryz.prog W=.ok (.int .i64 0) W:=fun _=>by kernel_rfl
 have ix10:∀W:World,(Instr.index 233 (.agg #[.int .i64 0,.int .i64 1,.int .i64 3,.int .i64 3,.int .i64 3,.int .i64 1,.int .i64 1,.int .i64 3,.int .i64 2,.int .i64 0,.int .i64 2,.int .i64 2,.int .i64 1]) (.int .i64 10)).run Tryz.prog W=.ok (.int .i64 2) W:=fun _=>by kernel_rfl
 have ix11:∀W:World,(Instr.index 233 (.agg #[.int .i64 0,.int .i64 1,.int .i64 3,.int .i64 3,.int .i64 3,.int .i64 1,.int .i64 1,.int .i64 3,.int .i64 2,.int .i64 0,.int .i64 2,.int .i64 2,.int .i64 1]) (.int .i64 11)).run Tryz.prog W=.ok (.int .i64 2) W:=fun _=>by kernel_rfl
 have ix12:∀W:World,(Instr.index 233 (.agg #[.int .i64 0,.int .i64 1,.int .i64 3,.int .i64 3,.int .i64 3,.int .i64 1,.int .i64 1,.int .i64 3,.int .i64 2,.int .i64 0,.int .i64 2,.int .i64 2,.int .i64 1]) (.int .i64 12)).run Tryz.prog W=.ok (.int .i64 1) W:=fun _=>by kernel_rfl
 rcases EC hk with rfl|rfl|rfl|rfl|rfl|rfl|rfl|rfl|rfl|rfl|rfl|rfl
 all_goals clear hk
 all_goals
  go_enter Tryz.func229,Tryz.ntmps229
  go_wp2_with (first|(go_at_call 220;with_reducible refine(C1.out.at_ _).mono ?_;rintro _ _ ⟨rfl,e,rfl⟩))
  repeat (refine ay _ (by kernel_rfl) (by kernel_rfl) ?_;(repeat (go_big_quiet_step ((first|with_reducible exact C1.out.at_ _))));refine wpQuiet_nil ?_;intro e;go_wp2_with (first|(go_at_call 220;with_reducible refine(C1.out.at_ _).mono ?_;rintro _ _ ⟨rfl,e,rfl⟩)))
  all_goals go_ret
  all_goals refine⟨?_,_,rfl⟩
  all_goals first|(simp[dH,inB, *];done)|(simp[dH,inB, *];omega)|(simp_all [dH,inB];done)|(simp_all [dH,inB];omega)
theorem Jh(k p:Int)(w:World)(h1:0≤p)(h2:p≤9223372036854775807):Calls Tryz.prog 230 #[.int .i64 k,.int .i64 p] w fun e w'=>e=.returned (.int .i64 (fF k p))∧Ext w w':=by
 refine quiet_start fun e=> ?_
 go_enter Tryz.func230,Tryz.ntmps230
 cases d1:(k==9)
 case true=>
  have E:Hid (fF k p=p-1):=by show _=_;simp[fF,d1]
  go_wp2_with fail
  repeat (refine ay _ (by kernel_rfl) (by kernel_rfl) ?_;(repeat (go_big_quiet_step (fail)));refine wpQuiet_nil ?_;intro e;go_wp2_with fail)
  go_ret;exact⟨by rw[E.out];rfl,_,rfl⟩
 have E:Hid (fF k p=0):=by show _=_;simp[fF,d1]
 go_wp2_with fail
 repeat (refine ay _ (by kernel_rfl) (by kernel_rfl) ?_;(repeat (go_big_quiet_step (fail)));refine wpQuiet_nil ?_;intro e;go_wp2_with fail)
 go_ret;exact⟨by rw[E.out];rfl,_,rfl⟩
theorem Df(d:Int)(w:World):Calls Tryz.prog 231 #[.int .i64 d] w fun e w'=>e=.returned (.bool (!kJ d))∧Ext w w':=by
 refine quiet_start fun e=> ?_
 have C1:Hid (QC Tryz.prog w _ _ _):=fun W hW=>wY d W
 go_enter Tryz.func231,Tryz.ntmps231
 go_wp2_with (first|(go_at_call 232;with_reducible refine(C1.out.at_ _).mono ?_;rintro _ _ ⟨rfl,e,rfl⟩))
 repeat (refine ay _ (by kernel_rfl) (by kernel_rfl) ?_;(repeat (go_big_quiet_step ((first|with_reducible exact C1.out.at_ _))));refine wpQuiet_nil ?_;intro e;go_wp2_with (first|(go_at_call 232;with_reducible refine(C1.out.at_ _).mono ?_;rintro _ _ ⟨rfl,e,rfl⟩)))
 go_ret;exact⟨rfl,_,rfl⟩
theorem Gm(xs:List Int)(n:Nat){A:Option Addr}{c:Nat}{bs:List Nat}(w:World)(hx:T1 w (.sl n (xs.flatMap intE)) bs (.slice A n c))(Hl:Hid (xs.length=n)):Calls Tryz.prog 194 #[.slice A n c,.func (.func 231) #[] #[]] w fun e w'=>e=.returned (.int .i64 (idxOf n (fun k=> !kJ (eD xs k))))∧Ext w w':=by
 refine quiet_start fun e=> ?_
 have hn:=hx.nle
 go_enter Tryz.func194,Tryz.ntmps194
 go_wp2_with fail
 repeat (refine ay _ (by kernel_rfl) (by kernel_rfl) ?_;(repeat (go_big_quiet_step (fail)));refine wpQuiet_nil ?_;intro e;go_wp2_with fail)
 go_loopw [5,8] (fun _ i w'=>∃k:Nat,k≤n∧i=.int .i64 k∧Hid (eH k (fun k=> !!kJ (eD xs k))=true)∧∃e:ExtOf w,w'=e.to) (fun _ i _=>n-(intOf i).toNat)
 case atStart=>exact⟨0,Nat.zero_le _,rfl,oU _,_,rfl⟩
 case round=>
  obtain⟨k,hk,rfl,hf,e,rfl⟩:=hrel
  by_cases hlt:k<n
  ·skip
   obtain⟨b,off,x,bs',rfl,hxk,hp⟩:=T1.elem (s:=1) (fun _=>rfl) hx Hl hlt;have kx:=Jy hp;rw[Nat.mul_one]at kx;have EP:Hid ((!kJ (eD xs k))= !kJ x):=by show _=_;rw[Et hxk]
   have C1:Hid (QC Tryz.prog w _ _ _):=fun W hW=>Df x W
   cases d1:(!kJ x)
   case true=>
    (try rw[d1]at C1)
    have E:Hid (idxOf n (fun k=> !kJ (eD xs k))=(k:Int)):=by show _=_;exact Ap hf hlt (by rw[EP.out];exact d1)
    go_wp2_with (first|(go_at_call 231;with_reducible refine(C1.out.at_ _).mono ?_;rintro _ _ ⟨rfl,e,rfl⟩))
    repeat (refine ay _ (by kernel_rfl) (by kernel_rfl) ?_;(repeat (go_big_quiet_step ((first|with_reducible exact C1.out.at_ _))));refine wpQuiet_nil ?_;intro e;go_wp2_with (first|(go_at_call 231;with_reducible refine(C1.out.at_ _).mono ?_;rintro _ _ ⟨rfl,e,rfl⟩)))
    go_ret;exact⟨by rw[E.out];rfl,_,rfl⟩
   (try rw[d1]at C1)
   have E:Hid ((!!kJ (eD xs k))=true):=by show _=_;rw[EP.out,d1];rfl
   go_wp2_with (first|(go_at_call 231;with_reducible refine(C1.out.at_ _).mono ?_;rintro _ _ ⟨rfl,e,rfl⟩))
   repeat (refine ay _ (by kernel_rfl) (by kernel_rfl) ?_;(repeat (go_big_quiet_step ((first|with_reducible exact C1.out.at_ _))));refine wpQuiet_nil ?_;intro e;go_wp2_with (first|(go_at_call 231;with_reducible refine(C1.out.at_ _).mono ?_;rintro _ _ ⟨rfl,e,rfl⟩)))
   exact⟨⟨k+1,by omega,by go_num,iy hf E.out,_,rfl⟩,by simp[intOf];omega⟩
  ·have:n=k:=by omega
   subst this;have E:Hid (idxOf n (fun k=> !kJ (eD xs k))= -1):=by show _=_;exact rX hf
   go_wp2_with fail
   repeat (refine ay _ (by kernel_rfl) (by kernel_rfl) ?_;(repeat (go_big_quiet_step (fail)));refine wpQuiet_nil ?_;intro e;go_wp2_with fail)
   go_ret;exact⟨by rw[E.out];rfl,_,rfl⟩
theorem Bo(xs:List Int)(n:Nat){A:Option Addr}{c:Nat}{bs:List Nat}(w:World)(hx:T1 w (.sl n (xs.flatMap intE)) bs (.slice A n c))(Hl:Hid (xs.length=n)):Calls Tryz.prog 142 #[.slice A n c,.func (.func 231) #[] #[]] w fun e w'=>e=.returned (.bool (pY n (fun k=> !kJ (eD xs k))))∧Ext w w':=by
 refine quiet_start fun e=> ?_
 have C1:Hid (QC Tryz.prog w _ _ _):=fun W hW=>Gm xs n W (hx.below hW) Hl
 have hc:=Aq n (fun k=> !kJ (eD xs k))
 go_enter Tryz.func142,Tryz.ntmps142
 go_wp2_with (first|(go_at_call 194;with_reducible refine(C1.out.at_ _).mono ?_;rintro _ _ ⟨rfl,e,rfl⟩))
 repeat (refine ay _ (by kernel_rfl) (by kernel_rfl) ?_;(repeat (go_big_quiet_step ((first|with_reducible exact C1.out.at_ _))));refine wpQuiet_nil ?_;intro e;go_wp2_with (first|(go_at_call 194;with_reducible refine(C1.out.at_ _).mono ?_;rintro _ _ ⟨rfl,e,rfl⟩)))
 go_ret;exact⟨by rw[←hc];rfl,_,rfl⟩
end Go.Proofs.YtemalpelcdmemaaGreat
namespace Go.Tr
open Go Go.RowKit
def nA(a:aA):NAgent:=(a.kind,a.level,a.value,a.data,a.ports.map fun p=>(p.agent,p.slot))
theorem OC(a:aA):gA (nA a)=a:=by
 cases a with
 |mk k l v d ps=>
  unfold gA nA;simp only[List.map_map]
  congr 1
  exact(List.map_congr_left fun p _=>rfl).trans (List.map_id ps)
theorem SH(x:aA):enc uAgent (nA x)=x.enc:=by rw[←RY,OC]
def qg(k v:Int)(d:List Int):Bool:=
 if k==6 then((d.length:Int)==0)&&r9 v
 else if k==7 then((d.length:Int)==0)&&kE v
 else if k==8 then((d.length:Int)==1)&&kE v&&r9 (eD d 0)
 else if k==9 then((d.length:Int)==0)&&inB v 0 3
 else if k==12 then((d.length:Int)==0)&&kJ v
 else if k==10 then v==0&&inB d.length 1 4&&lT d
 else if k==11 then v==0&&((d.length:Int)==2)&&lT d
 else v==0&&((d.length:Int)==0)
theorem Og(a:NAgent):gV (gA a)=qg a.1 a.2.2.1 a.2.2.2.1:=rfl
end Go.Tr
namespace Go.Proofs.YtemalpelcdmemaaGreat
open Go Go.RowKit Go.Proofs Go.Tr
theorem XQ(n:Int):aR Tryz.prog 240 [.int .i64 n] (.bool (kJ n)):=by
 refine aR.intro (nt:=5) ti_ok mixed (by kernel_rfl) Tryz.func240 rfl rfl rfl rfl rfl ?_;refine Or.inl (eI _ (aI (Ju n 0 23) ?_));exact rfl
theorem Rw(a:NAgent):aR Tryz.prog 228 [.rp uAgent a] (.bool (gV (gA a))):=by
 refine aR.intro (nt:=162) ti_ok mixed (by kernel_rfl) Tryz.func228 rfl rfl rfl rfl rfl ?_;rw[Og];generalize hk:a.1=k at*;have ek:∀{c:Int} {b:Bool},(a.1==c)=b→(k==c)=b:=fun h=>by rw[←hk];exact h
 refine aI (fun q1=> ?_) (fun q1=> ?_)
 ·refine Or.inl (eI _ (aI (fun _=>Ju a.2.2.1 (-2147483648) 2147483647) ?_));refine Eq.trans (Eq.refl _) ?_;unfold qg;rw[ek q1];show(bif ((a.2.2.2.1.length:Int)==0)then inB a.2.2.1 (-2147483648) 2147483647 else false)=(((a.2.2.2.1.length:Int)==0)&&r9 a.2.2.1);cases ((a.2.2.2.1.length:Int)==0)<;>rfl
 refine aI (fun q2=> ?_) (fun q2=> ?_)
 ·refine Or.inl (eI _ (aI (fun _=>Ju a.2.2.1 1 6) ?_));refine Eq.trans (Eq.refl _) ?_;unfold qg;rw[ek q1,ek q2];show(bif ((a.2.2.2.1.length:Int)==0)then inB a.2.2.1 1 6 else false)=(((a.2.2.2.1.length:Int)==0)&&kE a.2.2.1);cases ((a.2.2.2.1.length:Int)==0)<;>rfl
 refine aI (fun q3=> ?_) (fun q3=> ?_)
 ·refine Or.inl (eI _ (aI (fun _=>Ju a.2.2.1 1 6) ?_));refine aI (fun g=> ?_) ?_
  ·have g2:(bif ((a.2.2.2.1.length:Int)==1)then inB a.2.2.1 1 6 else false)=true:=g;cases hl:((a.2.2.2.1.length:Int)==1)with
   |false=>rw[hl]at g2;cases g2
   |true=>
    have hl2:(a.2.2.2.1.length:Int)=1:=by simpa using hl
    show(0:Int)≤0∧(0:Int)<(a.2.2.2.1.length:Nat);omega
  refine Or.inl (eI _ (aI (fun _=>Ju _ (-2147483648) 2147483647) ?_));refine Eq.trans (Eq.refl _) ?_;unfold qg;rw[ek q1,ek q2,ek q3];show(bif (bif ((a.2.2.2.1.length:Int)==1)then inB a.2.2.1 1 6 else false)then inB (eD a.2.2.2.1 0) (-2147483648) 2147483647 else false)=(((a.2.2.2.1.length:Int)==1)&&kE a.2.2.1&&r9 (eD a.2.2.2.1 0));unfold kE r9;cases ((a.2.2.2.1.length:Int)==1)<;>cases inB a.2.2.1 1 6<;>rfl
 refine aI (fun q4=> ?_) (fun q4=> ?_)
 ·refine Or.inl (eI _ (aI (fun _=>Ju a.2.2.1 0 3) ?_));refine Eq.trans (Eq.refl _) ?_;unfold qg;rw[ek q1,ek q2,ek q3,ek q4];show(bif ((a.2.2.2.1.length:Int)==0)then inB a.2.2.1 0 3 else false)=(((a.2.2.2.1.length:Int)==0)&&inB a.2.2.1 0 3);cases ((a.2.2.2.1.length:Int)==0)<;>rfl
 refine aI (fun q5=> ?_) (fun q5=> ?_)
 ·refine Or.inl (eI _ (aI (fun _=>XQ a.2.2.1) ?_));refine Eq.trans (Eq.refl _) ?_;unfold qg;rw[ek q1,ek q2,ek q3,ek q4,ek q5];show(bif ((a.2.2.2.1.length:Int)==0)then kJ a.2.2.1 else false)=(((a.2.2.2.1.length:Int)==0)&&kJ a.2.2.1);cases ((a.2.2.2.1.length:Int)==0)<;>rfl
 refine aI (fun q6=> ?_) (fun q6=> ?_)
 ·refine aI (fun _=> ?_) (fun p=>absurd (q6.symm.trans p) (by decide));refine Or.inl (eI _ (aI (fun _=>Ju a.2.2.2.1.length 1 4) ?_))
  have q7:(k==11)=false:=by
   have:k=10:=by have:=ek q6;simpa using this
   rw[this];rfl
  have q7':(a.1==11)=false:=by rw[hk];exact q7
  have ec:qg k a.2.2.1 a.2.2.2.1=(a.2.2.1==0&&inB a.2.2.2.1.length 1 4&&lT a.2.2.2.1):=by
   unfold qg;rw[ek q1,ek q2,ek q3,ek q4,ek q5,ek q6];rfl
  have q6':(a.1==10)=true:=q6;refine aI (fun q8=> ?_) (fun q8=> ?_)
  ·refine Eq.trans (Eq.refl _) ?_;rw[ec];have q9:(bif (bif (a.2.2.1 !=0)then true else bif (a.1==11)then((a.2.2.2.1.length:Int) !=2)else false)then true else bif (a.1==10)then !(inB a.2.2.2.1.length 1 4)else false)=true:=q8;rw[q7',q6',show(a.2.2.1 !=0)= !(a.2.2.1==0) from rfl]at q9;revert q9;cases (a.2.2.1==0)<;>cases inB a.2.2.2.1.length 1 4<;>simp
  have et:(true:Bool)=(a.2.2.1==0&&inB a.2.2.2.1.length 1 4):=by
   have q9:(bif (bif (a.2.2.1 !=0)then true else bif (a.1==11)then((a.2.2.2.1.length:Int) !=2)else false)then true else bif (a.1==10)then !(inB a.2.2.2.1.length 1 4)else false)=false:=q8;rw[q7',q6',show(a.2.2.1 !=0)= !(a.2.2.1==0) from rfl]at q9;revert q9;cases (a.2.2.1==0)<;>cases inB a.2.2.2.1.length 1 4<;>simp
  have hlen:a.2.2.2.1.length≤4:=by
   have h1:inB a.2.2.2.1.length 1 4=true:=by
    revert et;cases (a.2.2.1==0)<;>cases inB a.2.2.2.1.length 1 4<;>simp
   have:=jY h1;omega
  refine lp Nat (fun i=>[(3,.int .i64 (i:Nat))]) (fun _=>[]) (fun i=>a.2.2.2.1.length-i) (fun i=>i≤a.2.2.2.1.length∧eH i (fun k=>kJ (eD a.2.2.2.1 k))=true) 0 ⟨Nat.zero_le _,rfl⟩ ?_ ?_
  ·exact hd [] rfl (aI (aI rfl rfl) trivial) trivial
  rintro i ⟨hi,ha⟩;refine aI (fun p1=> ?_) (fun p1=> ?_)
  ·have hlt:i<a.2.2.2.1.length:=by
    have p2:decide (((i:Nat):Int)<(a.2.2.2.1.length:Nat))=true:=p1;simp only[decide_eq_true_eq]at p2;omega
   refine aI (show 0≤((i:Nat):Int)∧((i:Nat):Int)<(a.2.2.2.1.length:Nat) by omega) ?_;refine Or.inl (eI _ (aI (XQ _) ?_));refine aI (fun p2=> ?_) (fun p2=> ?_)
   ·have p3:kJ (eD a.2.2.2.1 i)=false:=by
     have p4:(!kJ (eD a.2.2.2.1 i))=true:=p2;simpa using p4
    refine Eq.trans (Eq.refl _) ?_;rw[ec,show lT a.2.2.2.1=false from jy hlt p3,Bool.and_false]
   ·have p3:kJ (eD a.2.2.2.1 i)=true:=by
     have p4:(!kJ (eD a.2.2.2.1 i))=false:=p2;simpa using p4
    refine lp_next (i+1) ⟨hlt,by rw[CB];simp only[ha,p3,Bool.and_true]⟩ ?_ ?_
    ·exact hd [] rfl (aI (aI (wrapS (by omega)) rfl) trivial) trivial
    ·show a.2.2.2.1.length-(i+1)<a.2.2.2.1.length-i;omega
  ·have hge:a.2.2.2.1.length≤i:=by
    have p2:decide (((i:Nat):Int)<(a.2.2.2.1.length:Nat))=false:=p1;simp only[decide_eq_false_iff_not]at p2;omega
   have hie:i=a.2.2.2.1.length:=by omega
   subst hie;refine Eq.trans (Eq.refl _) ?_;rw[ec,show lT a.2.2.2.1=true from ha,Bool.and_true];exact et
 refine aI (fun q7=> ?_) (fun q7=> ?_)
 ·refine Or.inl (eI _ (aI (fun _=>Ju a.2.2.2.1.length 1 4) ?_))
  have ec:qg k a.2.2.1 a.2.2.2.1=(a.2.2.1==0&&((a.2.2.2.1.length:Int)==2)&&lT a.2.2.2.1):=by
   unfold qg;rw[ek q1,ek q2,ek q3,ek q4,ek q5,ek q6,ek q7];rfl
  have q6':(a.1==10)=false:=q6;have q7':(a.1==11)=true:=q7;refine aI (fun q8=> ?_) (fun q8=> ?_)
  ·refine Eq.trans (Eq.refl _) ?_;rw[ec];have q9:(bif (bif (a.2.2.1 !=0)then true else bif (a.1==11)then((a.2.2.2.1.length:Int) !=2)else false)then true else bif (a.1==10)then !(inB a.2.2.2.1.length 1 4)else false)=true:=q8;rw[q7',q6',show(a.2.2.1 !=0)= !(a.2.2.1==0) from rfl,show((a.2.2.2.1.length:Int) !=2)= !((a.2.2.2.1.length:Int)==2) from rfl]at q9;revert q9;cases (a.2.2.1==0)<;>cases ((a.2.2.2.1.length:Int)==2)<;>simp
  have et:(true:Bool)=(a.2.2.1==0&&((a.2.2.2.1.length:Int)==2)):=by
   have q9:(bif (bif (a.2.2.1 !=0)then true else bif (a.1==11)then((a.2.2.2.1.length:Int) !=2)else false)then true else bif (a.1==10)then !(inB a.2.2.2.1.length 1 4)else false)=false:=q8;rw[q7',q6',show(a.2.2.1 !=0)= !(a.2.2.1==0) from rfl,show((a.2.2.2.1.length:Int) !=2)= !((a.2.2.2.1.length:Int)==2) from rfl]at q9;revert q9;cases (a.2.2.1==0)<;>cases ((a.2.2.2.1.length:Int)==2)<;>simp
  have hlen:a.2.2.2.1.length≤4:=by
   have h1:((a.2.2.2.1.length:Int)==2)=true:=by
    revert et;cases (a.2.2.1==0)<;>cases ((a.2.2.2.1.length:Int)==2)<;>simp
   have h2:(a.2.2.2.1.length:Int)=2:=by simpa using h1
   omega
  refine lp Nat (fun i=>[(3,.int .i64 (i:Nat))]) (fun _=>[]) (fun i=>a.2.2.2.1.length-i) (fun i=>i≤a.2.2.2.1.length∧eH i (fun k=>kJ (eD a.2.2.2.1 k))=true) 0 ⟨Nat.zero_le _,rfl⟩ ?_ ?_
  ·exact hd [] rfl (aI (aI rfl rfl) trivial) trivial
  rintro i ⟨hi,ha⟩;refine aI (fun p1=> ?_) (fun p1=> ?_)
  ·have hlt:i<a.2.2.2.1.length:=by
    have p2:decide (((i:Nat):Int)<(a.2.2.2.1.length:Nat))=true:=p1;simp only[decide_eq_true_eq]at p2;omega
   refine aI (show 0≤((i:Nat):Int)∧((i:Nat):Int)<(a.2.2.2.1.length:Nat) by omega) ?_;refine Or.inl (eI _ (aI (XQ _) ?_));refine aI (fun p2=> ?_) (fun p2=> ?_)
   ·have p3:kJ (eD a.2.2.2.1 i)=false:=by
     have p4:(!kJ (eD a.2.2.2.1 i))=true:=p2;simpa using p4
    refine Eq.trans (Eq.refl _) ?_;rw[ec,show lT a.2.2.2.1=false from jy hlt p3,Bool.and_false]
   ·have p3:kJ (eD a.2.2.2.1 i)=true:=by
     have p4:(!kJ (eD a.2.2.2.1 i))=false:=p2;simpa using p4
    refine lp_next (i+1) ⟨hlt,by rw[CB];simp only[ha,p3,Bool.and_true]⟩ ?_ ?_
    ·exact hd [] rfl (aI (aI (wrapS (by omega)) rfl) trivial) trivial
    ·show a.2.2.2.1.length-(i+1)<a.2.2.2.1.length-i;omega
  ·have hge:a.2.2.2.1.length≤i:=by
    have p2:decide (((i:Nat):Int)<(a.2.2.2.1.length:Nat))=false:=p1;simp only[decide_eq_false_iff_not]at p2;omega
   have hie:i=a.2.2.2.1.length:=by omega
   subst hie;refine Eq.trans (Eq.refl _) ?_;rw[ec,show lT a.2.2.2.1=true from ha,Bool.and_true];exact et
 ·refine Eq.trans (Eq.refl _) ?_;unfold qg;rw[ek q1,ek q2,ek q3,ek q4,ek q5,ek q6,ek q7];show(bif (a.2.2.1==0)then((a.2.2.2.1.length:Int)==0)else false)=(a.2.2.1==0&&((a.2.2.2.1.length:Int)==0));cases (a.2.2.1==0)<;>rfl
theorem EF(x:aA)(b o:Nat)(bs:List Nat)(w:World)(h:gK w b o x.enc bs):Calls Tryz.prog 228 #[.pointer (some ⟨b,o,none⟩)] w fun e w'=>e=.returned (.bool (gV x))∧Ext w w':=by
 have q:=aR.Vh (u:=uAgent) (x:=nA x) (Rw (nA x)) (fun _ _ _ h=>RA h) (w:=w) (b:=b) (o:=o) (bs:=bs) (by rw[SH];exact h);rw[OC]at q;exact q
theorem prtI(k f:Int):aR Tryz.prog 229 [.int .i64 k,.int .i64 f] (.int .i64 (dH k f)):=aR.K5 (l:=[k,f]) (by kernel_rfl) (C8 k f) fun _ _=>den_i _
theorem WX(n:Int):aR Tryz.prog 233 [.int .i64 n] (.bool (r9 n)):=aR.K5 (l:=[n]) (by kernel_rfl) (Qf n) fun _ _=>Ab _
theorem ZF(n:Int):aR Tryz.prog 234 [.int .i64 n] (.bool (kE n)):=aR.K5 (l:=[n]) (by kernel_rfl) (Eu n) fun _ _=>Ab _
theorem Zm(n:Int):aR Tryz.prog 232 [.int .i64 n] (.bool (kJ n)):=aR.K5 (l:=[n]) (by kernel_rfl) (wY n) fun _ _=>Ab _
theorem fldI(k:Int)(n:Nat)(h:n≤9223372036854775807):aR Tryz.prog 230 [.int .i64 k,.int .i64 (n:Int)] (.int .i64 (fF k n)):=aR.K5 (l:=[k,(n:Int)]) (by kernel_rfl) (fun w=>Jh k n w (by omega) (by omega)) fun _ _=>den_i _
theorem ctnI(xs:List Int):aR Tryz.prog 142 [.rsl (.int .i64) xs,.fn 231 []] (.bool (!lT xs)):=by
 refine⟨(by kernel_rfl),fun cx β w fr vs hI hd=> ?_⟩;unfold aO at hd;obtain⟨v1,vs1,rfl,hd1,hd⟩:=hd;unfold aO at hd;obtain⟨v2,vs2,rfl,hd2,hd⟩:=hd;unfold aO at hd;subst hd;unfold Den at hd1 hd2;obtain⟨us,rfl,hd2⟩:=hd2;unfold aO at hd2;subst hd2;obtain⟨A,c,rfl⟩:=hd1.slice;obtain⟨bs,ht⟩:=hd1.now hI;refine Calls.mono (Bo xs xs.length w (by rw[←uy];exact ht) rfl) ?_;rintro e w' ⟨rfl,hx⟩;refine⟨_,rfl,?_,hI.ext hx⟩;unfold Den;unfold pY lT;simp only[Bool.not_not]
theorem Zae(a:NAgent)(hp:a.2.2.2.2.length≤9223372036854775807):aR Tryz.prog 208 [.agg [.int .i64 a.1,.int .i64 a.2.1,.int .i64 a.2.2.1,.rsl (.int .i64) a.2.2.2.1,.rsl uPort a.2.2.2.2]] (.bool (dY (gA a))):=by
 refine aR.intro (nt:=117) ti_ok mixed (by kernel_rfl) Tryz.func208 rfl rfl rfl rfl rfl ?_
 have hag:dY (gA a)=(decide (0<dH a.1 (fF a.1 a.2.2.2.2.length))&&(a.2.2.2.2.length:Int)==dH a.1 (fF a.1 a.2.2.2.2.length)&&dz a.1 a.2.1&&qg a.1 a.2.2.1 a.2.2.2.1):=by
  rw[←Og];unfold dY fieldsOf;have e:(gA a).ports.length=a.2.2.2.2.length:=List.length_map _;rw[e];rfl
 rw[hag];refine Or.inl (eI _ (aI (fun _=>fldI a.1 a.2.2.2.2.length hp) ?_));refine Or.inl (eI _ (aI (fun _=>prtI a.1 (fF a.1 a.2.2.2.2.length)) ?_));refine Or.inl (eI _ (aI (fun _=>I4 a.1 a.2.1) ?_));refine aI (by kernel_rfl) ?_
 have qc:∀{b:Bool},(bif (bif ((a.2.2.2.2.length:Int)==0)then true else(dH a.1 (fF a.1 a.2.2.2.2.length) !=(a.2.2.2.2.length:Int)))then true else !(dz a.1 a.2.1))=b→(decide (0<dH a.1 (fF a.1 a.2.2.2.2.length))&&(a.2.2.2.2.length:Int)==dH a.1 (fF a.1 a.2.2.2.2.length)&&dz a.1 a.2.1)= !b:=fun {b} h=>by
  generalize dH a.1 (fF a.1 a.2.2.2.2.length)=p at*;subst h;cases dz a.1 a.2.1
  ·simp
  ·by_cases h0:(a.2.2.2.2.length:Int)=0
   ·rw[h0]
    by_cases hp0:p=0
    ·subst hp0;rfl
    ·simp;omega
   ·rw[show((a.2.2.2.2.length:Int)==0)=false by simpa using h0]
    by_cases hpe:p=(a.2.2.2.2.length:Int)
    ·subst hpe;simp;omega
    ·simp only[cond_false];rw[show(p !=(a.2.2.2.2.length:Int))=true by simpa using hpe,show((a.2.2.2.2.length:Int)==p)=false by simp;omega];simp
 refine aI (fun q1=> ?_) (fun q1=> ?_)
 ·refine Eq.trans (Eq.refl _) ?_;rw[qc q1];rfl
 have hq:=qc q1;rw[hq];refine aI (by kernel_rfl) ?_;refine Or.inl (eI _ (aI (ctnI _) ?_));have cfin:∀{t u:Bool},(t&&u)=qg a.1 a.2.2.1 a.2.2.2.1→(bif t then u else false)=(!false&&qg a.1 a.2.2.1 a.2.2.2.1):=fun {t u} h=>by rw[←h];cases t<;>rfl
 unfold qg at cfin;refine aI (fun k1=> ?_) (fun k1=> ?_)
 ·refine Or.inl (eI _ (aI (WX _) ?_));refine Eq.trans (Eq.refl _) ?_;refine cfin ?_;rw[show(a.1==6)=true from k1,Bool.and_comm];rfl
 refine aI (fun k2=> ?_) (fun k2=> ?_)
 ·refine Or.inl (eI _ (aI (ZF _) ?_));refine Eq.trans (Eq.refl _) ?_;refine cfin ?_;rw[show(a.1==6)=false from k1,show(a.1==7)=true from k2,Bool.and_comm];rfl
 refine aI (fun k3=> ?_) (fun k3=> ?_)
 ·refine Or.inl (eI _ (aI (ZF _) ?_));refine aI (fun g=> ?_) ?_
  ·have g2:(bif kE a.2.2.1 then((a.2.2.2.1.length:Int)==1)else false)=true:=g;cases ho:kE a.2.2.1 with
   |false=>rw[ho]at g2;cases g2
   |true=>
    rw[ho]at g2;have hl2:(a.2.2.2.1.length:Int)=1:=by simpa using g2
    show(0:Int)≤0∧(0:Int)<(a.2.2.2.1.length:Nat);omega
  refine Or.inl (eI _ (aI (fun _=>WX _) ?_));refine Eq.trans (Eq.refl _) ?_;unfold qg;rw[show(a.1==6)=false from k1,show(a.1==7)=false from k2,show(a.1==8)=true from k3];show(bif (bif kE a.2.2.1 then((a.2.2.2.1.length:Int)==1)else false)then r9 (eD a.2.2.2.1 0)else false)=(!false&&(((a.2.2.2.1.length:Int)==1)&&kE a.2.2.1&&r9 (eD a.2.2.2.1 0)));cases ((a.2.2.2.1.length:Int)==1)<;>cases kE a.2.2.1<;>rfl
 refine aI (fun k4=> ?_) (fun k4=> ?_)
 ·refine Eq.trans (Eq.refl _) ?_;refine cfin ?_;rw[show(a.1==6)=false from k1,show(a.1==7)=false from k2,show(a.1==8)=false from k3,show(a.1==9)=true from k4,Bool.and_comm];show _=(((a.2.2.2.1.length:Int)==0)&&inB a.2.2.1 0 3)
  congr 1
  unfold inB;show(bif decide (0≤a.2.2.1)then decide (a.2.2.1<4)else false)=(decide (0≤a.2.2.1)&&decide (a.2.2.1≤3));rw[show decide (a.2.2.1<4)=decide (a.2.2.1≤3) by rw[decide_eq_decide];omega];cases decide (0≤a.2.2.1)<;>rfl
 refine aI (fun k5=> ?_) (fun k5=> ?_)
 ·have k12:(a.1==12)=false:=by
   have:a.1=10:=by simpa using(show(a.1==10)=true from k5)
   rw[this];rfl
  refine Eq.trans (Eq.refl _) ?_;refine cfin ?_;rw[show(a.1==6)=false from k1,show(a.1==7)=false from k2,show(a.1==8)=false from k3,show(a.1==9)=false from k4,k12,show(a.1==10)=true from k5];show((a.2.2.1==0)&&(bif (bif decide (1≤(a.2.2.2.1.length:Int))then decide ((a.2.2.2.1.length:Int)≤4)else false)then !(!lT a.2.2.2.1)else false))=(a.2.2.1==0&&inB a.2.2.2.1.length 1 4&&lT a.2.2.2.1);unfold inB;cases (a.2.2.1==0)<;>cases decide (1≤(a.2.2.2.1.length:Int))<;>cases decide ((a.2.2.2.1.length:Int)≤4)<;>cases lT a.2.2.2.1<;>rfl
 refine aI (fun k6=> ?_) (fun k6=> ?_)
 ·have k12:(a.1==12)=false:=by
   have:a.1=11:=by simpa using(show(a.1==11)=true from k6)
   rw[this];rfl
  refine Eq.trans (Eq.refl _) ?_;refine cfin ?_;rw[show(a.1==6)=false from k1,show(a.1==7)=false from k2,show(a.1==8)=false from k3,show(a.1==9)=false from k4,k12,show(a.1==10)=false from k5,show(a.1==11)=true from k6];show((a.2.2.1==0)&&(bif ((a.2.2.2.1.length:Int)==2)then !(!lT a.2.2.2.1)else false))=(a.2.2.1==0&&((a.2.2.2.1.length:Int)==2)&&lT a.2.2.2.1);cases (a.2.2.1==0)<;>cases ((a.2.2.2.1.length:Int)==2)<;>cases lT a.2.2.2.1<;>rfl
 refine aI (fun k7=> ?_) (fun k7=> ?_)
 ·refine Or.inl (eI _ (aI (Zm _) ?_));refine Eq.trans (Eq.refl _) ?_;refine cfin ?_;rw[show(a.1==6)=false from k1,show(a.1==7)=false from k2,show(a.1==8)=false from k3,show(a.1==9)=false from k4,show(a.1==12)=true from k7,Bool.and_comm];rfl
 ·refine Eq.trans (Eq.refl _) ?_;refine cfin ?_;rw[show(a.1==6)=false from k1,show(a.1==7)=false from k2,show(a.1==8)=false from k3,show(a.1==9)=false from k4,show(a.1==12)=false from k7,show(a.1==10)=false from k5,show(a.1==11)=false from k6];rfl
theorem F6(x:aA){bs us}(w:World)(h:TN w x.enc bs us):Calls Tryz.prog 208 #[.agg us.toArray] w fun e w'=>e=.returned (.bool (dY x))∧Ext w w':=by
 have hp:(nA x).2.2.2.2.length≤9223372036854775807:=by
  obtain⟨_,_,_,A4,c4,b4,rfl,_,_,_,_,t4,n1,n2⟩:=aA.us (x:=x) h;have e:(nA x).2.2.2.2.length=x.ports.length:=List.length_map _;unfold maxLen at n2;omega
 have q:=aR.Vg (u:=uAgent) (x:=nA x) (Zae (nA x) hp) (fun _ _ _ h=>RA h) (w:=w) (bs:=bs) (us:=us) (by rw[SH];exact h);rw[OC]at q;exact q
theorem LB(x:GNet)(b o:Nat)(bs:List Nat)(p:aG)(w:World)(h:gK w b o x.enc bs)(hp:iM x.agents p=true):Calls Tryz.prog 140 #[.pointer (some ⟨b,o,none⟩),.agg #[.int .i64 p.agent,.int .i64 p.slot]] w fun e w'=>e=.returned (.agg #[.int .i64 (sD x.agents p).agent,.int .i64 (sD x.agents p).slot])∧Ext w w':=by
 refine quiet_start fun e=> ?_
 obtain⟨A0,c0,b0,h0,t0⟩:=GNet.pt h;have hltn:=h.lt;obtain⟨i,s,a,r,rfl,hi,ha,hs,hr,hpeer⟩:=LH hp;rw[hpeer];clear hpeer hp;obtain⟨bz,oz,z,bs3,rfl,hzi,hz⟩:=T1.elem aA.bI t0 Hid_rfl hi;obtain⟨_,rfl⟩:True∧z=a:=⟨trivial,Option.some.inj (hzi.out.symm.trans ha.out)⟩;obtain⟨A3,c3,b3,A5,c5,b5,u0,u1,u2,u3,u4,t3,t5⟩:=aA.pt hz;have hn5:=t5.nle;have hn0:=t0.nle;clear u0 u1 u2 u3 t3;obtain⟨bt,ot,r',bs4,rfl,hrs,hrr⟩:=T1.elem aG.bI t5 Hid_rfl hs;obtain⟨_,rfl⟩:True∧r'=r:=⟨trivial,Option.some.inj (hrs.out.symm.trans hr.out)⟩
 obtain⟨r0,r1⟩:=aG.pt hrr;clear h hz hrr hltn;have i0:(0:Int)≤(i:Int):=by omega
 have i1:(i:Int)<(x.agents.length:Int):=by omega
 have s0:(0:Int)≤(s:Int):=by omega
 have s1:(s:Int)<(z.ports.length:Int):=by omega
 go_enter Tryz.func140,Tryz.ntmps140
 go_upto_region 1 with(fail)
 generalize hg2:e.to.heap.size+1=g2;generalize hg1:e.to.heap.size=g1;refine Qw e hg1 hg2 (fun w1 hx1 hge1 hne hge2 r1_ r2_=> ?_);clear hg1 hg2;have q0:=h0.WW hx1;have q4:=u4.WW hx1;have q5:=r0.WW hx1;have q6:=r1.WW hx1;clear h0 u4 r0 r1;have k0:=nV (i:=0) r1_ rfl;have k1:=nV (i:=1) r1_ rfl;have m0:=nV (i:=0) r2_ rfl;have m1:=nV (i:=1) r2_ rfl;have f2:∀o,w1.frozen? ⟨g2,o,none⟩=false:=iq r2_;clear r1_ r2_
 go_still_tail 13,(by kernel_rfl)
 go_wp2_with fail
 refine bodyPost_ret (v:=.agg #[.int .i64 r'.agent,.int .i64 r'.slot]) (by simp[results,Tryz.results140,go_sem, *]) rfl ⟨rfl,⟨_,?_⟩,rfl⟩;exact(((hx1.drewN _).setCell (by simpa using hge2) _).setCell (by simpa using hge2) _)
end Go.Proofs.YtemalpelcdmemaaGreat
namespace Go.Tr
open Go Go.RowKit
def eG(l:List aA)(k:Nat):List aG:=(List.range k).flatMap fun(i:Nat)=>(List.range (iB l i).ports.length).map fun(s:Nat)=>(⟨(i:Int),(s:Int)⟩:aG)
def qK(i j:Nat):List aG:=(List.range j).map fun(s:Nat)=>(⟨(i:Int),(s:Int)⟩:aG)
theorem JV(i j:Nat):qK i (j+1)=qK i j++[⟨(i:Int),(j:Int)⟩]:=by simp[qK,List.range_succ]
theorem AJ(l:List aA)(k:Nat):eG l (k+1)=eG l k++qK k (iB l k).ports.length:=by simp[eG,qK,List.range_succ]
theorem Nj(k f:Int):dH k f≤4:=by
 unfold dH;split
 ·split
  ·rename_i h;have:=jY h;omega
  ·omega
 ·repeat' split
  all_goals omega
theorem IZ{a:aA}(h:dY a=true):1≤a.ports.length∧a.ports.length≤4:=by
 simp only[dY,Bool.and_eq_true,decide_eq_true_eq,beq_iff_eq]at h;have:=Nj a.kind (fieldsOf a);omega
theorem Cz{l:List aA}(h:fP l=true):1≤l.length∧l.length≤600∧∀k,k<l.length→iC l k=true:=by
 simp only[fP,Bool.and_eq_true]at h;have h1:=jY h.1;exact⟨by omega,by omega,fun k hk=>kL h.2 hk⟩
theorem yO{l:List aA}{k:Nat}(h:iC l k=true):(iB l k).ports.length≤4:=by
 simp only[iC,Bool.and_eq_true]at h;exact(IZ h.1).2
theorem Nl{l:List aA}{k:Nat}(h:∀j,j<k→iC l j=true):(eG l k).length≤4*k:=by
 induction k with
 |zero=>simp[eG]
 |succ k ih=>
  rw[AJ,List.length_append];have h1:=ih (fun j hj=>h j (by omega));have h2:=yO (h k (by omega));simp only[qK,List.length_map,List.length_range];omega
theorem CS{l:List aA}{k:Nat}{p:aG}(h:p∈eG l k):∃i s:Nat,p=⟨(i:Int),(s:Int)⟩∧i<k∧s<(iB l i).ports.length:=by
 simp only[eG,List.mem_flatMap,List.mem_range,List.mem_map]at h;obtain⟨i,hi,s,hs,rfl⟩:=h;exact⟨i,s,rfl,hi,hs⟩
theorem LJ{l:List aA}{k i s:Nat}(hi:i<k)(hs:s<(iB l i).ports.length):(⟨(i:Int),(s:Int)⟩:aG)∈eG l k:=by
 simp only[eG,List.mem_flatMap,List.mem_range,List.mem_map];exact⟨i,hi,s,hs,rfl⟩
theorem Nk{l:List aA}{k:Nat}{y:aG}(h:(eG l l.length)[k]? =some y):iM l y=true:=by
 obtain⟨i,s,rfl,hi,hs⟩:=CS (List.mem_of_getElem? h);unfold iM;rw[Bool.and_eq_true];exact⟨wX (by simp) (by simp only;omega),wX (by simp) (by simp only[Int.toNat_natCast];omega)⟩
noncomputable def uj(l:List aA)(p:aG):Bool:= !qy l p (sD l p)
theorem M5(n:GNet)(h:fP n.agents=true):iT n= !pY (eG n.agents n.agents.length).length (fun k=>uj n.agents (jT (eG n.agents n.agents.length) k)):=by
 have h0:=Cz h;unfold iT;rw[h,Bool.true_and,pY,Bool.not_not,Bool.eq_iff_iff];constructor
 ·intro ha;unfold eH;rw[List.all_eq_true];intro q hq;have hq:q<(eG n.agents n.agents.length).length:=by simpa using hq
  have he:Hid ((eG n.agents n.agents.length)[q]? =some (eG n.agents n.agents.length)[q]):=List.getElem?_eq_getElem hq;obtain⟨i,s,hp,hi,hs⟩:=CS (List.getElem_mem hq);rw[uQ he,hp];have h1:=kL (kL ha hi) hs;simp only[uj,Bool.not_not];unfold sD;simpa using h1
 ·intro ha;unfold eH;rw[List.all_eq_true];intro i hi;unfold qO eH;rw[List.all_eq_true];intro s hs;obtain⟨q,hq,he⟩:=List.getElem_of_mem (LJ (l:=n.agents) (k:=n.agents.length) (by simpa using hi) (by simpa using hs));have h1:=kL ha hq;have he':Hid ((eG n.agents n.agents.length)[q]? =some (eG n.agents n.agents.length)[q]):=List.getElem?_eq_getElem hq;rw[uQ he',he]at h1;simp only[uj,Bool.not_not]at h1;unfold sD at h1;simpa using h1
end Go.Tr
namespace Go.Proofs.YtemalpelcdmemaaGreat
open Go Go.RowKit Go.Proofs Go.Tr
theorem Gh(xs:List aA)(n:Nat){A:Option Addr}{c:Nat}{bs:List Nat}(w:World)(hx:T1 w (.sl n (xs.flatMap aA.enc)) bs (.slice A n c))(Hl:Hid (xs.length=n)):Calls Tryz.prog 173 #[.slice A n c] w fun e w'=>e=.returned (.bool (fP xs))∧Ext w w':=by
 refine quiet_start fun e=> ?_
 have hn:=hx.nle;have EV:Hid (fP xs=(inB n 1 600&&eH n (iC xs))):=by show _=_;rw[←Hl.out];rfl
 go_enter Tryz.func173,Tryz.ntmps173
 cases d1:decide ((n:Int)<1)
 case true=>
  have E:Hid (fP xs=false):=by show _=_;rw[EV.out,BF (by simp at d1;omega)];rfl
  go_wp2_with fail
  repeat (refine ay _ (by kernel_rfl) (by kernel_rfl) ?_;(repeat (go_big_quiet_step (fail)));refine wpQuiet_nil ?_;intro e;go_wp2_with fail)
  go_ret;exact⟨by rw[E.out];rfl,_,rfl⟩
 cases d2:decide ((600:Int)<n)
 case true=>
  have E:Hid (fP xs=false):=by show _=_;rw[EV.out,BF (by simp at d2;omega)];rfl
  go_wp2_with fail
  repeat (refine ay _ (by kernel_rfl) (by kernel_rfl) ?_;(repeat (go_big_quiet_step (fail)));refine wpQuiet_nil ?_;intro e;go_wp2_with fail)
  go_ret;exact⟨by rw[E.out];rfl,_,rfl⟩
 have hin:inB n 1 600=true:=wX (by simp at d1;omega) (by simp at d2;omega);have Hin:=Lib.hid hin;clear hin
 go_wp2_with fail
 repeat (refine ay _ (by kernel_rfl) (by kernel_rfl) ?_;(repeat (go_big_quiet_step (fail)));refine wpQuiet_nil ?_;intro e;go_wp2_with fail)
 go_loopw [3,15] (fun _ i w'=>∃k:Nat,k≤n∧i=.int .i64 k∧Hid (eH k (iC xs)=true)∧∃e:ExtOf w,w'=e.to) (fun _ i _=>n-(intOf i).toNat)
 case atStart=>exact⟨0,Nat.zero_le _,rfl,oU _,_,rfl⟩
 case round=>
  obtain⟨k,hk,rfl,hfk,e,rfl⟩:=hrel
  by_cases hltk:k<n
  ·skip
   obtain⟨b,off,x,bs',rfl,hxk,hp⟩:=T1.elem aA.bI hx Hl hltk;obtain⟨A3,c3,b3,A4,c4,b4,h0,h1,h2,h3,h4,t3,t4⟩:=aA.pt hp;clear hp
   go_upto_region 6 with(fail)
   generalize hgg:e.to.heap.size=g;refine rebase_box e hgg (fun w1 e hx1 hgeg hltg cg=> ?_);clear hgg
   replace t3:=t3.below hx1
   replace t4:=t4.below hx1
   have u0:=cg.always hltg 0 _ rfl;have u1:=cg.always hltg 1 _ rfl;have u2:=cg.always hltg 2 _ rfl;have u3:=cg.always hltg 3 _ rfl;have u4:=cg.always hltg 4 _ rfl;simp only[Nat.zero_add]at u0 u1 u2 u3 u4;clear cg;clear h0 h1 h2 h3 h4;have C1:Hid (QC Tryz.prog w1 _ _ _):=fun W hW=>F6 x W (aA.mk_ (t3.below hW) (t4.below hW))
   have EK:Hid (iC xs k=(dY x&&((x.kind==1)==((k:Int)==0)))):=by show _=_;rw[iC,kK hxk]
   cases d3:dY x
   case false=>
    (try rw[d3]at C1)
    have E:Hid (fP xs=false):=by show _=_;rw[EV.out,jy hltk (by rw[EK.out,d3];rfl)];simp
    go_wp2_with (first|(go_at_call 208;with_reducible refine(C1.out.at_ _).mono ?_;rintro _ _ ⟨rfl,e,rfl⟩))
    repeat (refine ay _ (by kernel_rfl) (by kernel_rfl) ?_;(repeat (go_big_quiet_step ((first|with_reducible exact C1.out.at_ _))));refine wpQuiet_nil ?_;intro e;go_wp2_with (first|(go_at_call 208;with_reducible refine(C1.out.at_ _).mono ?_;rintro _ _ ⟨rfl,e,rfl⟩)))
    go_ret;exact⟨by rw[E.out];rfl,ExtOf.old hx1 e⟩
   (try rw[d3]at C1)
   cases d4:(x.kind==1)
   case false=>
    (try rw[d4]at C1)
    cases d5:((k:Int)==0)
    case true=>
     (try rw[d5]at C1)
     have E:Hid (fP xs=false):=by show _=_;rw[EV.out,jy hltk (by rw[EK.out,d3,d4,d5];rfl)];simp
     go_wp2_with (first|(go_at_call 208;with_reducible refine(C1.out.at_ _).mono ?_;rintro _ _ ⟨rfl,e,rfl⟩))
     repeat (refine ay _ (by kernel_rfl) (by kernel_rfl) ?_;(repeat (go_big_quiet_step ((first|with_reducible exact C1.out.at_ _))));refine wpQuiet_nil ?_;intro e;go_wp2_with (first|(go_at_call 208;with_reducible refine(C1.out.at_ _).mono ?_;rintro _ _ ⟨rfl,e,rfl⟩)))
     go_ret;exact⟨by rw[E.out];rfl,ExtOf.old hx1 e⟩
    (try rw[d5]at C1)
    have E:Hid (iC xs k=true):=by show _=_;rw[EK.out,d3,d4,d5];rfl
    go_wp2_with (first|(go_at_call 208;with_reducible refine(C1.out.at_ _).mono ?_;rintro _ _ ⟨rfl,e,rfl⟩))
    repeat (refine ay _ (by kernel_rfl) (by kernel_rfl) ?_;(repeat (go_big_quiet_step ((first|with_reducible exact C1.out.at_ _))));refine wpQuiet_nil ?_;intro e;go_wp2_with (first|(go_at_call 208;with_reducible refine(C1.out.at_ _).mono ?_;rintro _ _ ⟨rfl,e,rfl⟩)))
    exact⟨⟨k+1,by omega,by go_num,iy hfk E.out,⟨e.to,hx1.trans e.h⟩,rfl⟩,by simp[intOf];omega⟩
   (try rw[d4]at C1)
   cases d6:((k:Int)==0)
   case false=>
    (try rw[d6]at C1)
    have E:Hid (fP xs=false):=by show _=_;rw[EV.out,jy hltk (by rw[EK.out,d3,d4,d6];rfl)];simp
    go_wp2_with (first|(go_at_call 208;with_reducible refine(C1.out.at_ _).mono ?_;rintro _ _ ⟨rfl,e,rfl⟩))
    repeat (refine ay _ (by kernel_rfl) (by kernel_rfl) ?_;(repeat (go_big_quiet_step ((first|with_reducible exact C1.out.at_ _))));refine wpQuiet_nil ?_;intro e;go_wp2_with (first|(go_at_call 208;with_reducible refine(C1.out.at_ _).mono ?_;rintro _ _ ⟨rfl,e,rfl⟩)))
    go_ret;exact⟨by rw[E.out];rfl,ExtOf.old hx1 e⟩
   (try rw[d6]at C1)
   have E:Hid (iC xs k=true):=by show _=_;rw[EK.out,d3,d4,d6];rfl
   go_wp2_with (first|(go_at_call 208;with_reducible refine(C1.out.at_ _).mono ?_;rintro _ _ ⟨rfl,e,rfl⟩))
   repeat (refine ay _ (by kernel_rfl) (by kernel_rfl) ?_;(repeat (go_big_quiet_step ((first|with_reducible exact C1.out.at_ _))));refine wpQuiet_nil ?_;intro e;go_wp2_with (first|(go_at_call 208;with_reducible refine(C1.out.at_ _).mono ?_;rintro _ _ ⟨rfl,e,rfl⟩)))
   exact⟨⟨k+1,by omega,by go_num,iy hfk E.out,⟨e.to,hx1.trans e.h⟩,rfl⟩,by simp[intOf];omega⟩
  ·have:n=k:=by omega
   subst this;have E:Hid (fP xs=true):=by show _=_;rw[EV.out,Hin.out,hfk.out];rfl
   go_wp2_with fail
   repeat (refine ay _ (by kernel_rfl) (by kernel_rfl) ?_;(repeat (go_big_quiet_step (fail)));refine wpQuiet_nil ?_;intro e;go_wp2_with fail)
   go_ret;exact⟨by rw[E.out];rfl,_,rfl⟩
theorem KZ(xs:List aA)(n:Nat){A:Option Addr}{c:Nat}{bs:List Nat}(p:aG)(w:World)(hx:T1 w (.sl n (xs.flatMap aA.enc)) bs (.slice A n c))(Hl:Hid (xs.length=n)):Calls Tryz.prog 177 #[.slice A n c,.agg #[.int .i64 p.agent,.int .i64 p.slot]] w fun e w'=>e=.returned (.bool (iM xs p))∧Ext w w':=by
 refine quiet_start fun e=> ?_
 have hn:=hx.nle;have EV:Hid (iM xs p=(inB p.agent 0 ((n:Int)-1)&&inB p.slot 0 (((iB xs p.agent.toNat).ports.length:Int)-1))):=by show _=_;rw[←Hl.out];rfl
 go_enter Tryz.func177,Tryz.ntmps177
 go_upto_region 1 with(fail)
 generalize hgg:e.to.heap.size=g;refine rebase_box e hgg (fun w1 e hx1 hgeg hltg cg=> ?_);clear hgg
 replace hx:=hx.below hx1
 obtain⟨k0,k1⟩:=aG.QE (gK.box hltg cg aG.mk_);cases d1:decide (0≤p.agent)
 case false=>
  have E:Hid (iM xs p=false):=by show _=_;rw[EV.out,BF (by simp at d1;omega)];rfl
  go_wp2_with fail
  repeat (refine ay _ (by kernel_rfl) (by kernel_rfl) ?_;(repeat (go_big_quiet_step (fail)));refine wpQuiet_nil ?_;intro e;go_wp2_with fail)
  go_ret;exact⟨by rw[E.out];rfl,ExtOf.old hx1 e⟩
 cases d2:decide (p.agent<(n:Int))
 case false=>
  have E:Hid (iM xs p=false):=by show _=_;rw[EV.out,BF (by simp at d2;omega)];rfl
  go_wp2_with fail
  repeat (refine ay _ (by kernel_rfl) (by kernel_rfl) ?_;(repeat (go_big_quiet_step (fail)));refine wpQuiet_nil ?_;intro e;go_wp2_with fail)
  go_ret;exact⟨by rw[E.out];rfl,ExtOf.old hx1 e⟩
 cases d3:decide (0≤p.slot)
 case false=>
  have E:Hid (iM xs p=false):=by show _=_;rw[EV.out,BF (n:=p.slot) (by simp at d3;omega),Bool.and_false]
  go_wp2_with fail
  repeat (refine ay _ (by kernel_rfl) (by kernel_rfl) ?_;(repeat (go_big_quiet_step (fail)));refine wpQuiet_nil ?_;intro e;go_wp2_with fail)
  go_ret;exact⟨by rw[E.out];rfl,ExtOf.old hx1 e⟩
 have ha0:0≤p.agent:=by simpa using d1
 have ha1:p.agent<(n:Int):=by simpa using d2
 obtain⟨i,hi⟩:=Int.eq_ofNat_of_zero_le ha0;have hlt:i<n:=by omega
 obtain⟨b,off,x,bs',rfl,hxk,hp⟩:=T1.elem aA.bI hx Hl hlt;obtain⟨A3,c3,b3,A4,c4,b4,h0,h1,h2,h3,h4,t3,t4⟩:=aA.pt hp;have hn4:=t4.nle;clear h0 h1 h2 h3 t3;have EA:Hid (iB xs p.agent.toNat=x):=by show _=_;rw[hi,Int.toNat_natCast];exact kK hxk
 have EI:Hid (inB p.agent 0 ((n:Int)-1)=true):=wX ha0 (by omega);rw[hi]at k0 d1 d2;have i0:(0:Int)≤(i:Int):=by omega
 have i1:(i:Int)<(n:Int):=by omega
 clear hi ha0 ha1;have E:Hid (iM xs p=decide (p.slot<(x.ports.length:Int))):=by show _=_;rw[EV.out,EA.out,EI.out,Bool.true_and];unfold inB;rw[show decide ((0:Int)≤p.slot)=true from d3,Bool.true_and];rw[Bool.eq_iff_iff];simp;omega
 go_wp2_with fail
 repeat (refine ay _ (by kernel_rfl) (by kernel_rfl) ?_;(repeat (go_big_quiet_step (fail)));refine wpQuiet_nil ?_;intro e;go_wp2_with fail)
 go_ret;exact⟨by rw[E.out];rfl,ExtOf.old hx1 e⟩
theorem Uh:rA Tryz.prog 148 104 2:=rA.of Tryz.underlying148 (by kernel_rfl) (by omega)
theorem QD(x:GNet)(b o:Nat)(bs:List Nat)(w:World)(h:gK w b o x.enc bs)(hok:fP x.agents=true):Calls Tryz.prog 175 #[.pointer (some ⟨b,o,none⟩)] w fun e w'=>
  Ext w w'∧∃A c bs',e=.returned (.slice A (eG x.agents x.agents.length).length c)∧T1 w' (.sl (eG x.agents x.agents.length).length ((eG x.agents x.agents.length).flatMap aG.enc)) bs' (.slice A (eG x.agents x.agents.length).length c):=by
 obtain⟨A0,c0,b0,h0,t0⟩:=GNet.pt h;have hn0:=t0.nle;obtain⟨hk1,hk2,hall⟩:=Cz hok;have Hall:=Lib.hid hall;clear hall hok;refine Qc fun e=> ?_
 go_enter Tryz.func175,Tryz.ntmps175
 go_wp2_with fail
 go_loopw [3,12] (fun v i wr=>∃k:Nat,k≤x.agents.length∧i=.int .i64 k∧∃e:ExtOf w,wr=e.to∧e.to.ownsRow w.heap.size 104 2 v (eG x.agents k).length ((eG x.agents k).flatMap aG.cells)) (fun _ i _=>x.agents.length-(intOf i).toNat)
 case atStart=>exact⟨0,Nat.zero_le _,rfl,_,rfl,World.ownsRow_nil _ _ _ _⟩
 case round=>
  obtain⟨k,hk,rfl,e,rfl,ho⟩:=hrel
  by_cases hlt:k<x.agents.length
  ·obtain⟨b',off,y,bs',rfl,hyk,hp⟩:=T1.elem aA.bI t0 Hid_rfl hlt;obtain⟨A3,c3,b3,A4,c4,b4,g0,g1,g2,g3,g4,t3,t4⟩:=aA.pt hp;have hn4:=t4.nle;have HA:Hid (iB x.agents k=y):=kK hyk;have hy4:y.ports.length≤4:=by have:=yO (Hall.out k hlt);rw[HA.out]at this;exact this
   have hle:(eG x.agents k).length≤4*k:=Nl fun j hj=>Hall.out j (by omega)
   clear t3 t4 hp
   go_wp2_with fail
   go_loopw [3,20] (fun v i wr=>∃j:Nat,j≤y.ports.length∧i=.int .i64 j∧∃e:ExtOf w,wr=e.to∧e.to.ownsRow w.heap.size 104 2 v ((eG x.agents k).length+j) ((eG x.agents k).flatMap aG.cells++(qK k j).flatMap aG.cells)) (fun _ i _=>y.ports.length-(intOf i).toNat)
   case atStart=>exact⟨0,Nat.zero_le _,rfl,⟨_,e.h.alloc e.h.size _⟩,rfl,by simpa[qK]using ho.alloc _⟩
   case round=>
    obtain⟨j,hj,rfl,e,rfl,ho⟩:=hrel
    by_cases hltj:j<y.ports.length
    ·have hge:=e.h.size
     go_wp2_with (at_builtin;refine NR rfl (.tmp 23) (.tmp 27) 148 rfl Uh w.heap.size _ _ _ rfl (ho.alloc _) e.to.heap.size 1 1 #[.int .i64 (k:Int),.int .i64 (j:Int)] rfl (heap_alloc_new e.to _) rfl rfl (by omega) (by simp;omega) ?_;intro v' w2 ho2 hg2)
     have hx2:Ext w w2:=Ext.grown (e.h.alloc e.h.size _) hg2 (Nc ho)
     go_roundw
     case rel=>exact⟨j+1,by omega,by go_num,⟨w2,hx2⟩,rfl,by rw[JV,List.flatMap_append,←List.append_assoc];exact ho2⟩
     case measure=>simp[intOf];omega
    ·have:y.ports.length=j:=by omega
     subst this
     go_wp2_with fail
     go_roundw
     case rel=>exact⟨k+1,by omega,by go_num,e,rfl,by rw[AJ,HA.out,List.flatMap_append,List.length_append];simpa[qK]using ho⟩
     case measure=>simp[intOf];omega
  ·have:x.agents.length=k:=by omega
   subst this
   go_wp2_with fail
   go_ret;obtain⟨A,c,bs',rfl,ht⟩:=Nf ho (TN.WS aG.cells (fun _=>rfl) _);exact⟨e,rfl,A,c,bs',rfl,ht⟩
theorem Kv(N:GNet)(nb no:Nat)(nbs:List Nat)(p:aG)(w:World)(hN:gK w nb no N.enc nbs)(hp:iM N.agents p=true):Calls Tryz.prog 176 #[.agg #[.int .i64 p.agent,.int .i64 p.slot],.pointer (some ⟨nb,no,none⟩)] w fun e w'=>e=.returned (.bool (uj N.agents p))∧Ext w w':=by
 refine quiet_start fun e=> ?_
 obtain⟨A0,c0,b0,h0,t0⟩:=GNet.pt hN;obtain⟨q,hq⟩:∃q,sD N.agents p=q:=⟨_,rfl⟩;have EV:Hid (uj N.agents p= !qy N.agents p q):=by show _=_;rw[uj,hq]
 have Hq:=Lib.hid hq;clear hq
 go_enter Tryz.func176,Tryz.ntmps176
 go_upto_region 1 with(fail)
 generalize hgg:e.to.heap.size=g;refine rebase_box e hgg (fun w1 e hx1 hgeg hltg cg=> ?_);clear hgg
 replace hN:=hN.ext hx1
 replace h0:=h0.ext hx1
 replace t0:=t0.below hx1
 obtain⟨k0,k1⟩:=aG.QE (x:=p) (gK.box hltg cg aG.mk_);clear cg;have C1:Hid (QC Tryz.prog w1 _ _ _):=fun W hW=>LB N nb no _ p W (hN.ext hW) hp
 rw[Hq.out]at C1
 go_upto_region 2 with(first|(go_at_call 140;with_reducible refine(C1.out.at_ _).mono ?_;rintro _ _ ⟨rfl,e,rfl⟩))
 repeat (refine ay _ (by kernel_rfl) (by kernel_rfl) ?_;(repeat (go_big_quiet_step ((first|with_reducible exact C1.out.at_ _))));refine wpQuiet_nil ?_;intro e;go_upto_region 2 with(first|(go_at_call 140;with_reducible refine(C1.out.at_ _).mono ?_;rintro _ _ ⟨rfl,e,rfl⟩)))
 generalize hggq:e.to.heap.size=gq;refine rebase_box e hggq (fun w2 e hx2 hgegq hltgq cgq=> ?_);clear hggq
 replace hN:=hN.ext hx2
 replace h0:=h0.ext hx2
 replace k0:=k0.ext hx2
 replace k1:=k1.ext hx2
 replace t0:=t0.below hx2
 replace C1:Hid (QC Tryz.prog w2 _ _ _):=C1.out.ext hx2
 have hy2:=Ext.trans hx1 hx2;obtain⟨q0,q1⟩:=aG.QE (x:=q) (gK.box hltgq cgq aG.mk_);clear cgq;clear C1;have hg:=Xj;have heq:=fun W=>Pn W q p
 have C2:Hid (QC Tryz.prog w2 _ _ _):=fun W hW=>KZ N.agents _ q W (t0.below hW) Hid_rfl
 cases d1:eqb q p
 case true=>
  (try rw[d1]at C2)
  have E:Hid (uj N.agents p=true):=by show _=_;rw[EV.out];simp[qy,d1]
  go_wp2_with (first|(go_at_call 177;with_reducible refine(C2.out.at_ _).mono ?_;rintro _ _ ⟨rfl,e,rfl⟩))
  repeat (refine ay _ (by kernel_rfl) (by kernel_rfl) ?_;(repeat (go_big_quiet_step ((first|with_reducible exact C2.out.at_ _))));refine wpQuiet_nil ?_;intro e;go_wp2_with (first|(go_at_call 177;with_reducible refine(C2.out.at_ _).mono ?_;rintro _ _ ⟨rfl,e,rfl⟩)))
  go_ret;exact⟨by rw[E.out];rfl,ExtOf.old hy2 e⟩
 (try rw[d1]at C2)
 cases d2:iM N.agents q
 case false=>
  (try rw[d2]at C2)
  have E:Hid (uj N.agents p=true):=by show _=_;rw[EV.out];simp[qy,d2]
  go_wp2_with (first|(go_at_call 177;with_reducible refine(C2.out.at_ _).mono ?_;rintro _ _ ⟨rfl,e,rfl⟩))
  repeat (refine ay _ (by kernel_rfl) (by kernel_rfl) ?_;(repeat (go_big_quiet_step ((first|with_reducible exact C2.out.at_ _))));refine wpQuiet_nil ?_;intro e;go_wp2_with (first|(go_at_call 177;with_reducible refine(C2.out.at_ _).mono ?_;rintro _ _ ⟨rfl,e,rfl⟩)))
  go_ret;exact⟨by rw[E.out];rfl,ExtOf.old hy2 e⟩
 (try rw[d2]at C2)
 obtain⟨r,hr⟩:∃r,sD N.agents q=r:=⟨_,rfl⟩;have Hr:=Lib.hid hr;clear hr;have C3:Hid (QC Tryz.prog w2 _ _ _):=fun W hW=>LB N nb no _ q W (hN.ext hW) d2
 rw[Hr.out]at C3;have hne:=fun W=>Po W r p
 have E:Hid (uj N.agents p= !eqb r p):=by show _=_;rw[EV.out];simp[qy,Hr.out,d1,d2]
 go_wp2_with (first|(go_at_call 177;with_reducible refine(C2.out.at_ _).mono ?_;rintro _ _ ⟨rfl,e,rfl⟩)|(go_at_call 140;with_reducible refine(C3.out.at_ _).mono ?_;rintro _ _ ⟨rfl,e,rfl⟩))
 repeat (refine ay _ (by kernel_rfl) (by kernel_rfl) ?_;(repeat (go_big_quiet_step ((first|with_reducible exact C2.out.at_ _|with_reducible exact C3.out.at_ _))));refine wpQuiet_nil ?_;intro e;go_wp2_with (first|(go_at_call 177;with_reducible refine(C2.out.at_ _).mono ?_;rintro _ _ ⟨rfl,e,rfl⟩)|(go_at_call 140;with_reducible refine(C3.out.at_ _).mono ?_;rintro _ _ ⟨rfl,e,rfl⟩)))
 go_ret;exact⟨by rw[E.out];rfl,ExtOf.old hy2 e⟩
theorem BG(xs:List aG)(n:Nat){A:Option Addr}{c:Nat}{bs:List Nat}(N:GNet)(nb no:Nat)(nbs:List Nat)(w:World)(hx:T1 w (.sl n (xs.flatMap aG.enc)) bs (.slice A n c))(Hl:Hid (xs.length=n))(hN:gK w nb no N.enc nbs)(hin:∀(k:Nat) (y:aG),xs[k]? =some y→iM N.agents y=true):Calls Tryz.prog 209 #[.slice A n c,.func (.func 176) #[] #[.pointer (some ⟨nb,no,none⟩)]] w fun e w'=>e=.returned (.int .i64 (idxOf n (fun k=>uj N.agents (jT xs k))))∧Ext w w':=by
 refine quiet_start fun e=> ?_
 have hn:=hx.nle
 go_enter Tryz.func209,Tryz.ntmps209
 go_wp2_with fail
 repeat (refine ay _ (by kernel_rfl) (by kernel_rfl) ?_;(repeat (go_big_quiet_step (fail)));refine wpQuiet_nil ?_;intro e;go_wp2_with fail)
 go_loopw [5,8] (fun _ i w'=>∃k:Nat,k≤n∧i=.int .i64 k∧Hid (eH k (fun k=> !uj N.agents (jT xs k))=true)∧∃e:ExtOf w,w'=e.to) (fun _ i _=>n-(intOf i).toNat)
 case atStart=>exact⟨0,Nat.zero_le _,rfl,oU _,_,rfl⟩
 case round=>
  obtain⟨k,hk,rfl,hf,e,rfl⟩:=hrel
  by_cases hlt:k<n
  ·skip
   obtain⟨b,off,x,bs',rfl,hxk,hp⟩:=T1.elem aG.bI hx Hl hlt;obtain⟨kx0,kx1⟩:=aG.pt hp;have hpi:=hin k x hxk.out;have EP:Hid (uj N.agents (jT xs k)=uj N.agents x):=by show _=_;rw[uQ hxk]
   have C1:Hid (QC Tryz.prog w _ _ _):=fun W hW=>Kv N nb no nbs x W (hN.ext hW) hpi
   cases d1:uj N.agents x
   case true=>
    (try rw[d1]at C1)
    have E:Hid (idxOf n (fun k=>uj N.agents (jT xs k))=(k:Int)):=by show _=_;exact Ap hf hlt (by rw[EP.out];exact d1)
    go_wp2_with (first|(go_at_call 176;with_reducible refine(C1.out.at_ _).mono ?_;rintro _ _ ⟨rfl,e,rfl⟩))
    repeat (refine ay _ (by kernel_rfl) (by kernel_rfl) ?_;(repeat (go_big_quiet_step ((first|with_reducible exact C1.out.at_ _))));refine wpQuiet_nil ?_;intro e;go_wp2_with (first|(go_at_call 176;with_reducible refine(C1.out.at_ _).mono ?_;rintro _ _ ⟨rfl,e,rfl⟩)))
    go_ret;exact⟨by rw[E.out];rfl,_,rfl⟩
   (try rw[d1]at C1)
   have E:Hid ((!uj N.agents (jT xs k))=true):=by show _=_;rw[EP.out,d1];rfl
   go_wp2_with (first|(go_at_call 176;with_reducible refine(C1.out.at_ _).mono ?_;rintro _ _ ⟨rfl,e,rfl⟩))
   repeat (refine ay _ (by kernel_rfl) (by kernel_rfl) ?_;(repeat (go_big_quiet_step ((first|with_reducible exact C1.out.at_ _))));refine wpQuiet_nil ?_;intro e;go_wp2_with (first|(go_at_call 176;with_reducible refine(C1.out.at_ _).mono ?_;rintro _ _ ⟨rfl,e,rfl⟩)))
   exact⟨⟨k+1,by omega,by go_num,iy hf E.out,_,rfl⟩,by simp[intOf];omega⟩
  ·have:n=k:=by omega
   subst this;have E:Hid (idxOf n (fun k=>uj N.agents (jT xs k))= -1):=by show _=_;exact rX hf
   go_wp2_with fail
   repeat (refine ay _ (by kernel_rfl) (by kernel_rfl) ?_;(repeat (go_big_quiet_step (fail)));refine wpQuiet_nil ?_;intro e;go_wp2_with fail)
   go_ret;exact⟨by rw[E.out];rfl,_,rfl⟩
theorem yI(xs:List aG)(n:Nat){A:Option Addr}{c:Nat}{bs:List Nat}(N:GNet)(nb no:Nat)(nbs:List Nat)(w:World)(hx:T1 w (.sl n (xs.flatMap aG.enc)) bs (.slice A n c))(Hl:Hid (xs.length=n))(hN:gK w nb no N.enc nbs)(hin:∀(k:Nat) (y:aG),xs[k]? =some y→iM N.agents y=true):Calls Tryz.prog 174 #[.slice A n c,.func (.func 176) #[] #[.pointer (some ⟨nb,no,none⟩)]] w fun e w'=>e=.returned (.bool (pY n (fun k=>uj N.agents (jT xs k))))∧Ext w w':=by
 refine quiet_start fun e=> ?_
 have C1:Hid (QC Tryz.prog w _ _ _):=fun W hW=>BG xs n N nb no nbs W (hx.below hW) Hl (hN.ext hW) hin
 have hc:=Aq n (fun k=>uj N.agents (jT xs k))
 go_enter Tryz.func174,Tryz.ntmps174
 go_wp2_with (first|(go_at_call 209;with_reducible refine(C1.out.at_ _).mono ?_;rintro _ _ ⟨rfl,e,rfl⟩))
 repeat (refine ay _ (by kernel_rfl) (by kernel_rfl) ?_;(repeat (go_big_quiet_step ((first|with_reducible exact C1.out.at_ _))));refine wpQuiet_nil ?_;intro e;go_wp2_with (first|(go_at_call 209;with_reducible refine(C1.out.at_ _).mono ?_;rintro _ _ ⟨rfl,e,rfl⟩)))
 go_ret;exact⟨by rw[←hc];rfl,_,rfl⟩
theorem uE(x:GNet){bs us}(w:World)(h:TN w x.enc bs us):Calls Tryz.prog 113 #[.agg us.toArray] w fun e w'=>e=.returned (.bool (iT x))∧Ext w w':=by
 refine quiet_start fun e=> ?_
 obtain⟨P0,p0,q0,rfl,_⟩:=GNet.us (x:=x) h
 go_enter Tryz.func113,Tryz.ntmps113
 go_upto_region 1 with(fail)
 generalize hgg:e.to.heap.size=g;refine rebase_box e hgg (fun w1 e hx1 hgeg hltg cg=> ?_);clear hgg
 replace h:=h.below hx1
 have p:=gK.box hltg cg h;clear cg h;obtain⟨A0,c0,b0,h0,t0⟩:=GNet.QE p;have C1:Hid (QC Tryz.prog w1 _ _ _):=fun W hW=>Gh x.agents _ W (t0.below hW) Hid_rfl
 cases d1:fP x.agents
 case false=>
  (try rw[d1]at C1)
  have E:Hid (iT x=false):=by show _=_;simp[iT,d1]
  go_wp2_with (first|(go_at_call 173;with_reducible refine(C1.out.at_ _).mono ?_;rintro _ _ ⟨rfl,e,rfl⟩))
  repeat (refine ay _ (by kernel_rfl) (by kernel_rfl) ?_;(repeat (go_big_quiet_step ((first|with_reducible exact C1.out.at_ _))));refine wpQuiet_nil ?_;intro e;go_wp2_with (first|(go_at_call 173;with_reducible refine(C1.out.at_ _).mono ?_;rintro _ _ ⟨rfl,e,rfl⟩)))
  go_ret;exact⟨by rw[E.out];rfl,ExtOf.old hx1 e⟩
 (try rw[d1]at C1)
 have EV:Hid (iT x= !pY (eG x.agents x.agents.length).length (fun k=>uj x.agents (jT (eG x.agents x.agents.length) k))):=M5 x d1
 go_wp2_with (first|(go_at_call 173;with_reducible refine(C1.out.at_ _).mono ?_;rintro _ _ ⟨rfl,e,rfl⟩))
 repeat (refine ay _ (by kernel_rfl) (by kernel_rfl) ?_;(repeat (go_big_quiet_step ((first|with_reducible exact C1.out.at_ _))));refine wpQuiet_nil ?_;intro e;go_wp2_with (first|(go_at_call 173;with_reducible refine(C1.out.at_ _).mono ?_;rintro _ _ ⟨rfl,e,rfl⟩)))
 refine(QD x g 0 _ _ (p.ext e.h) d1).mono ?_;rintro _ w2 ⟨hx2,A,c,bs',rfl,ht⟩;have hq:=Ext.trans e.h hx2;clear C1
 replace p:=p.ext hq
 have hy2:=Ext.trans hx1 hq;obtain⟨e,he⟩:∃e:ExtOf w2,w2=e.to:=⟨⟨w2,Below.refl _ _⟩,rfl⟩;have C2:Hid (QC Tryz.prog w2 _ _ _):=fun W hW=>yI (eG x.agents x.agents.length) _ x g 0 _ W (ht.below hW) Hid_rfl (p.ext hW) (fun k y hy=>Nk hy)
 go_wp2_with (first|(go_at_call 174;with_reducible refine(C2.out.at_ _).mono ?_;rintro _ _ ⟨rfl,e,rfl⟩))
 repeat (refine ay _ (by kernel_rfl) (by kernel_rfl) ?_;(repeat (go_big_quiet_step ((first|with_reducible exact C2.out.at_ _))));refine wpQuiet_nil ?_;intro e;go_wp2_with (first|(go_at_call 174;with_reducible refine(C2.out.at_ _).mono ?_;rintro _ _ ⟨rfl,e,rfl⟩)))
 go_ret;refine⟨by rw[EV.out];rfl,?_⟩
 first|exact ExtOf.old hy2 e|exact ExtOf.old hy2 ⟨_,Below.refl _ _⟩
theorem Gp(x:aA)(b o:Nat)(bs:List Nat)(w:World)(h:gK w b o x.enc bs):Calls Tryz.prog 214 #[.pointer (some ⟨b,o,none⟩)] w fun e w'=>e=.returned (.int .i64 (fieldsOf x))∧Ext w w':=by
 refine quiet_start fun e=> ?_
 obtain⟨A3,c3,b3,A4,c4,b4,h0,h1,h2,h3,h4,t3,t4⟩:=aA.pt h
 go_enter Tryz.func214,Tryz.ntmps214
 have hn4:=t4.nle;cases d1:(x.kind==9)
 case false=>
  have E:Hid (fieldsOf x=0):=by show _=_;simp at d1;simp[fieldsOf,fF,d1]
  go_wp2_with fail
  repeat (refine ay _ (by kernel_rfl) (by kernel_rfl) ?_;(repeat (go_big_quiet_step (fail)));refine wpQuiet_nil ?_;intro e;go_wp2_with fail)
  go_ret;exact⟨by rw[E.out];rfl,_,rfl⟩
 have E:Hid (fieldsOf x=(x.ports.length:Int)-1):=by show _=_;simp at d1;simp[fieldsOf,fF,d1]
 go_wp2_with fail
 repeat (refine ay _ (by kernel_rfl) (by kernel_rfl) ?_;(repeat (go_big_quiet_step (fail)));refine wpQuiet_nil ?_;intro e;go_wp2_with fail)
 go_ret;exact⟨by rw[E.out];rfl,_,rfl⟩
theorem Db(k f:Int)(w:World):Calls Tryz.prog 226 #[.int .i64 k,.int .i64 f] w fun e w'=>e=.returned (.int .i64 (dH k f))∧Ext w w':=by
 refine quiet_start fun e=> ?_
 have C1:Hid (QC Tryz.prog w _ _ _):=fun W hW=>(oJ f 0 3 W).q
 cases d1:inB f 0 3
 case true=>
  have hf:=jY d1
  go_enter Tryz.func226,Tryz.ntmps226
  go_wp2_with (first|(go_at_call 81;with_reducible refine(C1.out.at_ _).mono ?_;rintro _ _ ⟨rfl,e,rfl⟩))
  repeat (refine ay _ (by kernel_rfl) (by kernel_rfl) ?_;(repeat (go_big_quiet_step ((first|with_reducible exact C1.out.at_ _))));refine wpQuiet_nil ?_;intro e;go_wp2_with (first|(go_at_call 81;with_reducible refine(C1.out.at_ _).mono ?_;rintro _ _ ⟨rfl,e,rfl⟩)))
  all_goals go_ret
  all_goals refine⟨?_,_,rfl⟩
  all_goals first|(simp[dH, *];done)|(simp[dH, *];omega)|(simp_all [dH];done)|(simp_all [dH];omega)
 go_enter Tryz.func226,Tryz.ntmps226
 go_wp2_with (first|(go_at_call 81;with_reducible refine(C1.out.at_ _).mono ?_;rintro _ _ ⟨rfl,e,rfl⟩))
 repeat (refine ay _ (by kernel_rfl) (by kernel_rfl) ?_;(repeat (go_big_quiet_step ((first|with_reducible exact C1.out.at_ _))));refine wpQuiet_nil ?_;intro e;go_wp2_with (first|(go_at_call 81;with_reducible refine(C1.out.at_ _).mono ?_;rintro _ _ ⟨rfl,e,rfl⟩)))
 all_goals go_ret
 all_goals refine⟨?_,_,rfl⟩
 all_goals first|(simp[dH, *];done)|(simp[dH, *];omega)|(simp_all [dH];done)|(simp_all [dH];omega)
theorem JC(x:aA)(b o:Nat)(bs:List Nat)(w:World)(h:gK w b o x.enc bs):Calls Tryz.prog 205 #[.pointer (some ⟨b,o,none⟩)] w fun e w'=>e=.returned (.bool (dY x))∧Ext w w':=by
 refine quiet_start fun e=> ?_
 obtain⟨A3,c3,b3,A4,c4,b4,h0,h1,h2,h3,h4,t3,t4⟩:=aA.pt h;have hn4:=t4.nle;have C1:Hid (QC Tryz.prog w _ _ _):=fun W hW=>Gp x b o _ W (h.ext hW)
 have C2:Hid (QC Tryz.prog w _ _ _):=fun W hW=>EF x b o _ W (h.ext hW)
 have C3:Hid (QC Tryz.prog w _ _ _):=fun W hW=>Db x.kind (fieldsOf x) W
 have C4:Hid (QC Tryz.prog w _ _ _):=fun W hW=>(JA x.kind x.level W).q
 go_enter Tryz.func205,Tryz.ntmps205
 cases d1:decide (0<dH x.kind (fieldsOf x))
 case false=>
  (try rw[d1]at C1);(try rw[d1]at C2);(try rw[d1]at C3);(try rw[d1]at C4)
  have E:Hid (dY x=false):=by show _=_;first|(simp only[dY,d1];done)|(simp only[dY,d1];rfl)|(simp[dY,d1];done)|((try simp at d1);simp[dY,d1];done)
  go_wp2_with (first|(go_at_call 214;with_reducible refine(C1.out.at_ _).mono ?_;rintro _ _ ⟨rfl,e,rfl⟩)|(go_at_call 228;with_reducible refine(C2.out.at_ _).mono ?_;rintro _ _ ⟨rfl,e,rfl⟩)|(go_at_call 226;with_reducible refine(C3.out.at_ _).mono ?_;rintro _ _ ⟨rfl,e,rfl⟩)|(go_at_call 227;with_reducible refine(C4.out.at_ _).mono ?_;rintro _ _ ⟨rfl,e,rfl⟩))
  repeat (refine ay _ (by kernel_rfl) (by kernel_rfl) ?_;(repeat (go_big_quiet_step ((first|with_reducible exact C1.out.at_ _|with_reducible exact C2.out.at_ _|with_reducible exact C3.out.at_ _|with_reducible exact C4.out.at_ _))));refine wpQuiet_nil ?_;intro e;go_wp2_with (first|(go_at_call 214;with_reducible refine(C1.out.at_ _).mono ?_;rintro _ _ ⟨rfl,e,rfl⟩)|(go_at_call 228;with_reducible refine(C2.out.at_ _).mono ?_;rintro _ _ ⟨rfl,e,rfl⟩)|(go_at_call 226;with_reducible refine(C3.out.at_ _).mono ?_;rintro _ _ ⟨rfl,e,rfl⟩)|(go_at_call 227;with_reducible refine(C4.out.at_ _).mono ?_;rintro _ _ ⟨rfl,e,rfl⟩)))
  go_ret;exact⟨by rw[E.out];rfl,_,rfl⟩
 (try rw[d1]at C1);(try rw[d1]at C2);(try rw[d1]at C3);(try rw[d1]at C4)
 cases d2:((x.ports.length:Int)==dH x.kind (fieldsOf x))
 case false=>
  (try rw[d2]at C1);(try rw[d2]at C2);(try rw[d2]at C3);(try rw[d2]at C4)
  have E:Hid (dY x=false):=by show _=_;first|(simp only[dY,d1,d2];done)|(simp only[dY,d1,d2];rfl)|(simp[dY,d1,d2];done)|((try simp at d1);(try simp at d2);simp[dY,d1,d2];done)
  go_wp2_with (first|(go_at_call 214;with_reducible refine(C1.out.at_ _).mono ?_;rintro _ _ ⟨rfl,e,rfl⟩)|(go_at_call 228;with_reducible refine(C2.out.at_ _).mono ?_;rintro _ _ ⟨rfl,e,rfl⟩)|(go_at_call 226;with_reducible refine(C3.out.at_ _).mono ?_;rintro _ _ ⟨rfl,e,rfl⟩)|(go_at_call 227;with_reducible refine(C4.out.at_ _).mono ?_;rintro _ _ ⟨rfl,e,rfl⟩))
  repeat (refine ay _ (by kernel_rfl) (by kernel_rfl) ?_;(repeat (go_big_quiet_step ((first|with_reducible exact C1.out.at_ _|with_reducible exact C2.out.at_ _|with_reducible exact C3.out.at_ _|with_reducible exact C4.out.at_ _))));refine wpQuiet_nil ?_;intro e;go_wp2_with (first|(go_at_call 214;with_reducible refine(C1.out.at_ _).mono ?_;rintro _ _ ⟨rfl,e,rfl⟩)|(go_at_call 228;with_reducible refine(C2.out.at_ _).mono ?_;rintro _ _ ⟨rfl,e,rfl⟩)|(go_at_call 226;with_reducible refine(C3.out.at_ _).mono ?_;rintro _ _ ⟨rfl,e,rfl⟩)|(go_at_call 227;with_reducible refine(C4.out.at_ _).mono ?_;rintro _ _ ⟨rfl,e,rfl⟩)))
  go_ret;exact⟨by rw[E.out];rfl,_,rfl⟩
 (try rw[d2]at C1);(try rw[d2]at C2);(try rw[d2]at C3);(try rw[d2]at C4)
 cases d3:dz x.kind x.level
 case false=>
  (try rw[d3]at C1);(try rw[d3]at C2);(try rw[d3]at C3);(try rw[d3]at C4)
  have E:Hid (dY x=false):=by show _=_;first|(simp only[dY,d1,d2,d3];done)|(simp only[dY,d1,d2,d3];rfl)|(simp[dY,d1,d2,d3];done)|((try simp at d1);(try simp at d2);(try simp at d3);simp[dY,d1,d2,d3];done)
  go_wp2_with (first|(go_at_call 214;with_reducible refine(C1.out.at_ _).mono ?_;rintro _ _ ⟨rfl,e,rfl⟩)|(go_at_call 228;with_reducible refine(C2.out.at_ _).mono ?_;rintro _ _ ⟨rfl,e,rfl⟩)|(go_at_call 226;with_reducible refine(C3.out.at_ _).mono ?_;rintro _ _ ⟨rfl,e,rfl⟩)|(go_at_call 227;with_reducible refine(C4.out.at_ _).mono ?_;rintro _ _ ⟨rfl,e,rfl⟩))
  repeat (refine ay _ (by kernel_rfl) (by kernel_rfl) ?_;(repeat (go_big_quiet_step ((first|with_reducible exact C1.out.at_ _|with_reducible exact C2.out.at_ _|with_reducible exact C3.out.at_ _|with_reducible exact C4.out.at_ _))));refine wpQuiet_nil ?_;intro e;go_wp2_with (first|(go_at_call 214;with_reducible refine(C1.out.at_ _).mono ?_;rintro _ _ ⟨rfl,e,rfl⟩)|(go_at_call 228;with_reducible refine(C2.out.at_ _).mono ?_;rintro _ _ ⟨rfl,e,rfl⟩)|(go_at_call 226;with_reducible refine(C3.out.at_ _).mono ?_;rintro _ _ ⟨rfl,e,rfl⟩)|(go_at_call 227;with_reducible refine(C4.out.at_ _).mono ?_;rintro _ _ ⟨rfl,e,rfl⟩)))
  go_ret;exact⟨by rw[E.out];rfl,_,rfl⟩
 (try rw[d3]at C1);(try rw[d3]at C2);(try rw[d3]at C3);(try rw[d3]at C4)
 have E:Hid (dY x=gV x):=by show _=_;first|(simp only[dY,d1,d2,d3];done)|(simp only[dY,d1,d2,d3];rfl)|(simp[dY,d1,d2,d3];done)|((try simp at d1);(try simp at d2);(try simp at d3);simp[dY,d1,d2,d3];done)
 go_wp2_with (first|(go_at_call 214;with_reducible refine(C1.out.at_ _).mono ?_;rintro _ _ ⟨rfl,e,rfl⟩)|(go_at_call 228;with_reducible refine(C2.out.at_ _).mono ?_;rintro _ _ ⟨rfl,e,rfl⟩)|(go_at_call 226;with_reducible refine(C3.out.at_ _).mono ?_;rintro _ _ ⟨rfl,e,rfl⟩)|(go_at_call 227;with_reducible refine(C4.out.at_ _).mono ?_;rintro _ _ ⟨rfl,e,rfl⟩))
 repeat (refine ay _ (by kernel_rfl) (by kernel_rfl) ?_;(repeat (go_big_quiet_step ((first|with_reducible exact C1.out.at_ _|with_reducible exact C2.out.at_ _|with_reducible exact C3.out.at_ _|with_reducible exact C4.out.at_ _))));refine wpQuiet_nil ?_;intro e;go_wp2_with (first|(go_at_call 214;with_reducible refine(C1.out.at_ _).mono ?_;rintro _ _ ⟨rfl,e,rfl⟩)|(go_at_call 228;with_reducible refine(C2.out.at_ _).mono ?_;rintro _ _ ⟨rfl,e,rfl⟩)|(go_at_call 226;with_reducible refine(C3.out.at_ _).mono ?_;rintro _ _ ⟨rfl,e,rfl⟩)|(go_at_call 227;with_reducible refine(C4.out.at_ _).mono ?_;rintro _ _ ⟨rfl,e,rfl⟩)))
 go_ret;exact⟨by rw[E.out];rfl,_,rfl⟩
theorem Gn(xs:List aA)(n:Nat){A:Option Addr}{c:Nat}{bs:List Nat}(w:World)(hx:T1 w (.sl n (xs.flatMap aA.enc)) bs (.slice A n c))(Hl:Hid (xs.length=n)):Calls Tryz.prog 168 #[.slice A n c] w fun e w'=>e=.returned (.bool (fP xs))∧Ext w w':=by
 refine quiet_start fun e=> ?_
 have hn:=hx.nle;have EV:Hid (fP xs=(inB n 1 600&&eH n (iC xs))):=by show _=_;rw[←Hl.out];rfl
 have C1:Hid (QC Tryz.prog w _ _ _):=fun W hW=>(oJ n 1 600 W).q
 go_enter Tryz.func168,Tryz.ntmps168
 cases d1:inB n 1 600
 case false=>
  (try rw[d1]at C1)
  have E:Hid (fP xs=false):=by show _=_;rw[EV.out,d1];rfl
  go_wp2_with (first|(go_at_call 81;with_reducible refine(C1.out.at_ _).mono ?_;rintro _ _ ⟨rfl,e,rfl⟩))
  repeat (refine ay _ (by kernel_rfl) (by kernel_rfl) ?_;(repeat (go_big_quiet_step ((first|with_reducible exact C1.out.at_ _))));refine wpQuiet_nil ?_;intro e;go_wp2_with (first|(go_at_call 81;with_reducible refine(C1.out.at_ _).mono ?_;rintro _ _ ⟨rfl,e,rfl⟩)))
  go_ret;exact⟨by rw[E.out];rfl,_,rfl⟩
 (try rw[d1]at C1)
 go_wp2_with (first|(go_at_call 81;with_reducible refine(C1.out.at_ _).mono ?_;rintro _ _ ⟨rfl,e,rfl⟩))
 repeat (refine ay _ (by kernel_rfl) (by kernel_rfl) ?_;(repeat (go_big_quiet_step ((first|with_reducible exact C1.out.at_ _))));refine wpQuiet_nil ?_;intro e;go_wp2_with (first|(go_at_call 81;with_reducible refine(C1.out.at_ _).mono ?_;rintro _ _ ⟨rfl,e,rfl⟩)))
 go_loopw [3] (fun i w'=>∃k:Nat,k≤n∧i=.int .i64 k∧Hid (eH k (iC xs)=true)∧∃e:ExtOf w,w'=e.to) (fun i _=>n-(intOf i).toNat)
 case atStart=>exact⟨0,Nat.zero_le _,rfl,oU _,_,rfl⟩
 case round=>
  obtain⟨k,hk,rfl,hfk,e,rfl⟩:=hrel
  by_cases hltk:k<n
  ·skip
   obtain⟨b,off,x,bs',rfl,hxk,hp⟩:=T1.elem aA.bI hx Hl hltk;obtain⟨A3,c3,b3,A4,c4,b4,h0,h1,h2,h3,h4,t3,t4⟩:=aA.pt hp;clear h1 h2 h3 h4 t3 t4;have C2:Hid (QC Tryz.prog w _ _ _):=fun W hW=>JC x b (off+k*5) _ W (hp.ext hW)
   have EK:Hid (iC xs k=(dY x&&((x.kind==1)==((k:Int)==0)))):=by show _=_;rw[iC,kK hxk]
   cases d2:dY x
   case false=>
    (try rw[d2]at C1);(try rw[d2]at C2)
    have E:Hid (fP xs=false):=by show _=_;rw[EV.out,jy hltk (by rw[EK.out,d2];rfl)];simp
    go_wp2_with (first|(go_at_call 81;with_reducible refine(C1.out.at_ _).mono ?_;rintro _ _ ⟨rfl,e,rfl⟩)|(go_at_call 205;with_reducible refine(C2.out.at_ _).mono ?_;rintro _ _ ⟨rfl,e,rfl⟩))
    repeat (refine ay _ (by kernel_rfl) (by kernel_rfl) ?_;(repeat (go_big_quiet_step ((first|with_reducible exact C1.out.at_ _|with_reducible exact C2.out.at_ _))));refine wpQuiet_nil ?_;intro e;go_wp2_with (first|(go_at_call 81;with_reducible refine(C1.out.at_ _).mono ?_;rintro _ _ ⟨rfl,e,rfl⟩)|(go_at_call 205;with_reducible refine(C2.out.at_ _).mono ?_;rintro _ _ ⟨rfl,e,rfl⟩)))
    go_ret;exact⟨by rw[E.out];rfl,_,rfl⟩
   (try rw[d2]at C1);(try rw[d2]at C2)
   cases d3:(x.kind==1)
   case false=>
    (try rw[d3]at C1);(try rw[d3]at C2)
    cases d4:((k:Int)==0)
    case true=>
     (try rw[d4]at C1);(try rw[d4]at C2)
     have E:Hid (fP xs=false):=by show _=_;rw[EV.out,jy hltk (by rw[EK.out,d2,d3,d4];rfl)];simp
     go_wp2_with (first|(go_at_call 81;with_reducible refine(C1.out.at_ _).mono ?_;rintro _ _ ⟨rfl,e,rfl⟩)|(go_at_call 205;with_reducible refine(C2.out.at_ _).mono ?_;rintro _ _ ⟨rfl,e,rfl⟩))
     repeat (refine ay _ (by kernel_rfl) (by kernel_rfl) ?_;(repeat (go_big_quiet_step ((first|with_reducible exact C1.out.at_ _|with_reducible exact C2.out.at_ _))));refine wpQuiet_nil ?_;intro e;go_wp2_with (first|(go_at_call 81;with_reducible refine(C1.out.at_ _).mono ?_;rintro _ _ ⟨rfl,e,rfl⟩)|(go_at_call 205;with_reducible refine(C2.out.at_ _).mono ?_;rintro _ _ ⟨rfl,e,rfl⟩)))
     go_ret;exact⟨by rw[E.out];rfl,_,rfl⟩
    (try rw[d4]at C1);(try rw[d4]at C2)
    have E:Hid (iC xs k=true):=by show _=_;rw[EK.out,d2,d3,d4];rfl
    go_wp2_with (first|(go_at_call 81;with_reducible refine(C1.out.at_ _).mono ?_;rintro _ _ ⟨rfl,e,rfl⟩)|(go_at_call 205;with_reducible refine(C2.out.at_ _).mono ?_;rintro _ _ ⟨rfl,e,rfl⟩))
    repeat (refine ay _ (by kernel_rfl) (by kernel_rfl) ?_;(repeat (go_big_quiet_step ((first|with_reducible exact C1.out.at_ _|with_reducible exact C2.out.at_ _))));refine wpQuiet_nil ?_;intro e;go_wp2_with (first|(go_at_call 81;with_reducible refine(C1.out.at_ _).mono ?_;rintro _ _ ⟨rfl,e,rfl⟩)|(go_at_call 205;with_reducible refine(C2.out.at_ _).mono ?_;rintro _ _ ⟨rfl,e,rfl⟩)))
    exact⟨⟨k+1,by omega,by go_num,iy hfk E.out,_,rfl⟩,by simp[intOf];omega⟩
   (try rw[d3]at C1);(try rw[d3]at C2)
   cases d5:((k:Int)==0)
   case false=>
    (try rw[d5]at C1);(try rw[d5]at C2)
    have E:Hid (fP xs=false):=by show _=_;rw[EV.out,jy hltk (by rw[EK.out,d2,d3,d5];rfl)];simp
    go_wp2_with (first|(go_at_call 81;with_reducible refine(C1.out.at_ _).mono ?_;rintro _ _ ⟨rfl,e,rfl⟩)|(go_at_call 205;with_reducible refine(C2.out.at_ _).mono ?_;rintro _ _ ⟨rfl,e,rfl⟩))
    repeat (refine ay _ (by kernel_rfl) (by kernel_rfl) ?_;(repeat (go_big_quiet_step ((first|with_reducible exact C1.out.at_ _|with_reducible exact C2.out.at_ _))));refine wpQuiet_nil ?_;intro e;go_wp2_with (first|(go_at_call 81;with_reducible refine(C1.out.at_ _).mono ?_;rintro _ _ ⟨rfl,e,rfl⟩)|(go_at_call 205;with_reducible refine(C2.out.at_ _).mono ?_;rintro _ _ ⟨rfl,e,rfl⟩)))
    go_ret;exact⟨by rw[E.out];rfl,_,rfl⟩
   (try rw[d5]at C1);(try rw[d5]at C2)
   have E:Hid (iC xs k=true):=by show _=_;rw[EK.out,d2,d3,d5];rfl
   go_wp2_with (first|(go_at_call 81;with_reducible refine(C1.out.at_ _).mono ?_;rintro _ _ ⟨rfl,e,rfl⟩)|(go_at_call 205;with_reducible refine(C2.out.at_ _).mono ?_;rintro _ _ ⟨rfl,e,rfl⟩))
   repeat (refine ay _ (by kernel_rfl) (by kernel_rfl) ?_;(repeat (go_big_quiet_step ((first|with_reducible exact C1.out.at_ _|with_reducible exact C2.out.at_ _))));refine wpQuiet_nil ?_;intro e;go_wp2_with (first|(go_at_call 81;with_reducible refine(C1.out.at_ _).mono ?_;rintro _ _ ⟨rfl,e,rfl⟩)|(go_at_call 205;with_reducible refine(C2.out.at_ _).mono ?_;rintro _ _ ⟨rfl,e,rfl⟩)))
   exact⟨⟨k+1,by omega,by go_num,iy hfk E.out,_,rfl⟩,by simp[intOf];omega⟩
  ·have:n=k:=by omega
   subst this;have E:Hid (fP xs=true):=by show _=_;rw[EV.out,d1,hfk.out];rfl
   go_wp2_with (first|(go_at_call 81;with_reducible refine(C1.out.at_ _).mono ?_;rintro _ _ ⟨rfl,e,rfl⟩))
   repeat (refine ay _ (by kernel_rfl) (by kernel_rfl) ?_;(repeat (go_big_quiet_step ((first|with_reducible exact C1.out.at_ _))));refine wpQuiet_nil ?_;intro e;go_wp2_with (first|(go_at_call 81;with_reducible refine(C1.out.at_ _).mono ?_;rintro _ _ ⟨rfl,e,rfl⟩)))
   go_ret;exact⟨by rw[E.out];rfl,_,rfl⟩
theorem La(xs:List aA)(n:Nat){A:Option Addr}{c:Nat}{bs:List Nat}(p:aG)(w:World)(hx:T1 w (.sl n (xs.flatMap aA.enc)) bs (.slice A n c))(Hl:Hid (xs.length=n)):Calls Tryz.prog 169 #[.slice A n c,.agg #[.int .i64 p.agent,.int .i64 p.slot]] w fun e w'=>e=.returned (.bool (iM xs p))∧Ext w w':=by
 refine quiet_start fun e=> ?_
 have hn:=hx.nle;have EV:Hid (iM xs p=(inB p.agent 0 ((n:Int)-1)&&inB p.slot 0 (((iB xs p.agent.toNat).ports.length:Int)-1))):=by show _=_;rw[←Hl.out];rfl
 go_enter Tryz.func169,Tryz.ntmps169
 go_upto_region 1 with(fail)
 generalize hgg:e.to.heap.size=g;refine rebase_box e hgg (fun w1 e hx1 hgeg hltg cg=> ?_);clear hgg
 replace hx:=hx.below hx1
 obtain⟨k0,k1⟩:=aG.QE (gK.box hltg cg aG.mk_);have C1:Hid (QC Tryz.prog w1 _ _ _):=fun W hW=>(oJ p.agent 0 ((n:Int)-1) W).q
 cases d1:inB p.agent 0 ((n:Int)-1)
 case false=>
  (try rw[d1]at C1)
  have hw0:IntKind.i64.wrap ((n:Int)-1)=(n:Int)-1:=IntWalk.i64_in _ (by omega);have E:Hid (iM xs p=false):=by show _=_;rw[EV.out,d1];rfl
  go_wp2_with (first|(go_at_call 81;with_reducible refine(C1.out.at_ _).mono ?_;rintro _ _ ⟨rfl,e,rfl⟩))
  repeat (refine ay _ (by kernel_rfl) (by kernel_rfl) ?_;(repeat (go_big_quiet_step ((first|with_reducible exact C1.out.at_ _))));refine wpQuiet_nil ?_;intro e;go_wp2_with (first|(go_at_call 81;with_reducible refine(C1.out.at_ _).mono ?_;rintro _ _ ⟨rfl,e,rfl⟩)))
  go_ret;exact⟨by rw[E.out];rfl,ExtOf.old hx1 e⟩
 (try rw[d1]at C1)
 have hr:=jY d1;obtain⟨i,hi⟩:=Int.eq_ofNat_of_zero_le hr.1;have hlt:i<n:=by omega
 obtain⟨b,off,x,bs',rfl,hxk,hp⟩:=T1.elem aA.bI hx Hl hlt;obtain⟨A3,c3,b3,A4,c4,b4,h0,h1,h2,h3,h4,t3,t4⟩:=aA.pt hp;have hn4:=t4.nle;clear h0 h1 h2 h3 t3;have EA:Hid (iB xs p.agent.toNat=x):=by show _=_;rw[hi,Int.toNat_natCast];exact kK hxk
 rw[hi]at k0 d1 C1;have Hi:=Lib.hid hi;clear hi;have C2:Hid (QC Tryz.prog w1 _ _ _):=fun W hW=>(oJ p.slot 0 ((x.ports.length:Int)-1) W).q
 have hw0:IntKind.i64.wrap ((n:Int)-1)=(n:Int)-1:=IntWalk.i64_in _ (by omega);have hw1:IntKind.i64.wrap ((x.ports.length:Int)-1)=(x.ports.length:Int)-1:=IntWalk.i64_in _ (by omega);have E:Hid (iM xs p=inB p.slot 0 ((x.ports.length:Int)-1)):=by show _=_;rw[EV.out,EA.out,Hi.out,d1];rfl
 go_wp2_with (first|(go_at_call 81;with_reducible refine(C1.out.at_ _).mono ?_;rintro _ _ ⟨rfl,e,rfl⟩)|(go_at_call 81;with_reducible refine(C2.out.at_ _).mono ?_;rintro _ _ ⟨rfl,e,rfl⟩))
 repeat (refine ay _ (by kernel_rfl) (by kernel_rfl) ?_;(repeat (go_big_quiet_step ((first|with_reducible exact C1.out.at_ _|with_reducible exact C2.out.at_ _))));refine wpQuiet_nil ?_;intro e;go_wp2_with (first|(go_at_call 81;with_reducible refine(C1.out.at_ _).mono ?_;rintro _ _ ⟨rfl,e,rfl⟩)|(go_at_call 81;with_reducible refine(C2.out.at_ _).mono ?_;rintro _ _ ⟨rfl,e,rfl⟩)))
 go_ret;exact⟨by rw[E.out];rfl,ExtOf.old hx1 e⟩
theorem Ho(x:GNet)(b o:Nat)(bs:List Nat)(w:World)(h:gK w b o x.enc bs):Calls Tryz.prog 107 #[.pointer (some ⟨b,o,none⟩)] w fun e w'=>e=.returned (.bool (iT x))∧Ext w w':=by
 refine quiet_start fun e=> ?_
 obtain⟨A0,c0,b0,h0,t0⟩:=GNet.pt h;have hn0:=t0.nle;have EV:Hid (iT x=(fP x.agents&&eH x.agents.length (qO x.agents))):=rfl;have C1:Hid (QC Tryz.prog w _ _ _):=fun W hW=>Gn x.agents _ W (t0.below hW) Hid_rfl
 go_enter Tryz.func107,Tryz.ntmps107
 cases d1:fP x.agents
 case false=>
  (try rw[d1]at C1)
  have E:Hid (iT x=false):=by show _=_;rw[EV.out,d1];rfl
  go_wp2_with (first|(go_at_call 168;with_reducible refine(C1.out.at_ _).mono ?_;rintro _ _ ⟨rfl,e,rfl⟩))
  repeat (refine ay _ (by kernel_rfl) (by kernel_rfl) ?_;(repeat (go_big_quiet_step ((first|with_reducible exact C1.out.at_ _))));refine wpQuiet_nil ?_;intro e;go_wp2_with (first|(go_at_call 168;with_reducible refine(C1.out.at_ _).mono ?_;rintro _ _ ⟨rfl,e,rfl⟩)))
  go_ret;exact⟨by rw[E.out];rfl,_,rfl⟩
 (try rw[d1]at C1)
 go_wp2_with (first|(go_at_call 168;with_reducible refine(C1.out.at_ _).mono ?_;rintro _ _ ⟨rfl,e,rfl⟩))
 repeat (refine ay _ (by kernel_rfl) (by kernel_rfl) ?_;(repeat (go_big_quiet_step ((first|with_reducible exact C1.out.at_ _))));refine wpQuiet_nil ?_;intro e;go_wp2_with (first|(go_at_call 168;with_reducible refine(C1.out.at_ _).mono ?_;rintro _ _ ⟨rfl,e,rfl⟩)))
 go_loopw [3] (fun i w'=>∃k:Nat,k≤x.agents.length∧i=.int .i64 k∧Hid (eH k (qO x.agents)=true)∧∃e:ExtOf w,w'=e.to) (fun i _=>x.agents.length-(intOf i).toNat)
 case atStart=>exact⟨0,Nat.zero_le _,rfl,oU _,_,rfl⟩
 case round=>
  obtain⟨k,hk,rfl,hfk,e,rfl⟩:=hrel
  by_cases hltk:k<x.agents.length
  ·skip
   obtain⟨b',off,y,bs',rfl,hyk,hp⟩:=T1.elem aA.bI t0 Hid_rfl hltk;obtain⟨A3,c3,b3,A4,c4,b4,g0,g1,g2,g3,g4,t3,t4⟩:=aA.pt hp;have hn4:=t4.nle;clear g0 g1 g2 g3 t3;have EK:Hid (qO x.agents k=eH y.ports.length fun j=>qy x.agents ⟨k,j⟩ (jT y.ports j)):=by show _=_;rw[qO,kK hyk]
   go_wp2_with fail
   repeat (refine ay _ (by kernel_rfl) (by kernel_rfl) ?_;(repeat (go_big_quiet_step (fail)));refine wpQuiet_nil ?_;intro e;go_wp2_with fail)
   go_loopw [5] (fun i w'=>∃j:Nat,j≤y.ports.length∧i=.int .i64 j∧Hid (eH j (fun j=>qy x.agents ⟨k,j⟩ (jT y.ports j))=true)∧∃e:ExtOf w,w'=e.to) (fun i _=>y.ports.length-(intOf i).toNat)
   case atStart=>exact⟨0,Nat.zero_le _,rfl,oU _,_,rfl⟩
   case round=>
    obtain⟨j,hj,rfl,hfj,e,rfl⟩:=hrel
    by_cases hltj:j<y.ports.length
    ·skip
     obtain⟨bq,oq,q,bs2,rfl,hqj,hq⟩:=T1.elem aG.bI t4 Hid_rfl hltj;obtain⟨q0,q1⟩:=aG.pt hq;have EJ:Hid (qy x.agents ⟨k,j⟩ (jT y.ports j)=qy x.agents ⟨k,j⟩ q):=by show _=_;rw[uQ hqj]
     go_upto_region 11 with(fail)
     generalize hgga:e.to.heap.size=ga;refine rebase_box e hgga (fun w1 e hx1 hgega hltga cga=> ?_);clear hgga
     replace h0:=h0.ext hx1
     replace g4:=g4.ext hx1
     replace q0:=q0.ext hx1
     replace q1:=q1.ext hx1
     replace t0:=t0.below hx1
     replace t4:=t4.below hx1
     obtain⟨k0,k1⟩:=aG.QE (x:=⟨k,j⟩) (gK.box hltga cga aG.mk_);simp only[]at k0 k1;clear cga
     go_upto_region 12 with(fail)
     generalize hggb:e.to.heap.size=gb;refine rebase_box e hggb (fun w2 e hx2 hgegb hltgb cgb=> ?_);clear hggb
     replace h0:=h0.ext hx2
     replace g4:=g4.ext hx2
     replace k0:=k0.ext hx2
     replace k1:=k1.ext hx2
     replace t0:=t0.below hx2
     replace t4:=t4.below hx2
     have hy2:=Ext.trans hx1 hx2;obtain⟨p0,p1⟩:=aG.QE (x:=q) (gK.box hltgb cgb aG.mk_);clear cgb q0 q1;have hg:=Xj;have heq:=fun W=>Pn W q ⟨k,j⟩
     dsimp only at heq;have C2:Hid (QC Tryz.prog w2 _ _ _):=fun W hW=>La x.agents _ q W (t0.below hW) Hid_rfl
     cases d2:eqb q ⟨k,j⟩
     case true=>
      (try rw[d2]at C2)
      have E:Hid (iT x=false):=by show _=_;rw[EV.out,jy hltk (by rw[EK.out];exact jy hltj (by rw[EJ.out];simp[qy,d2]))];simp
      go_wp2_with (first|(go_at_call 169;with_reducible refine(C2.out.at_ _).mono ?_;rintro _ _ ⟨rfl,e,rfl⟩))
      repeat (refine ay _ (by kernel_rfl) (by kernel_rfl) ?_;(repeat (go_big_quiet_step ((first|with_reducible exact C2.out.at_ _))));refine wpQuiet_nil ?_;intro e;go_wp2_with (first|(go_at_call 169;with_reducible refine(C2.out.at_ _).mono ?_;rintro _ _ ⟨rfl,e,rfl⟩)))
      go_ret;exact⟨by rw[E.out];rfl,ExtOf.old hy2 e⟩
     (try rw[d2]at C2)
     cases d3:iM x.agents q
     case false=>
      (try rw[d3]at C2)
      have E:Hid (iT x=false):=by show _=_;rw[EV.out,jy hltk (by rw[EK.out];exact jy hltj (by rw[EJ.out];simp[qy,d2,d3]))];simp
      go_wp2_with (first|(go_at_call 169;with_reducible refine(C2.out.at_ _).mono ?_;rintro _ _ ⟨rfl,e,rfl⟩))
      repeat (refine ay _ (by kernel_rfl) (by kernel_rfl) ?_;(repeat (go_big_quiet_step ((first|with_reducible exact C2.out.at_ _))));refine wpQuiet_nil ?_;intro e;go_wp2_with (first|(go_at_call 169;with_reducible refine(C2.out.at_ _).mono ?_;rintro _ _ ⟨rfl,e,rfl⟩)))
      go_ret;exact⟨by rw[E.out];rfl,ExtOf.old hy2 e⟩
     (try rw[d3]at C2)
     obtain⟨i,s,a,r,rfl,hi,ha,hs,hr,hpeer⟩:=LH d3;have Hpeer:=Lib.hid hpeer;clear hpeer;obtain⟨bz,oz,z,bs3,hA0,hzi,hz⟩:=T1.elem aA.bI t0 Hid_rfl hi;obtain⟨_,rfl⟩:True∧z=a:=⟨trivial,Option.some.inj (hzi.out.symm.trans ha.out)⟩;obtain⟨rfl,rfl⟩:b'=bz∧off=oz:=by simpa using hA0
     clear hA0;obtain⟨A3,c3,b3,A5,c5,b5,u0,u1,u2,u3,u4,t3,t5⟩:=aA.pt hz;have hn5:=t5.nle;clear u0 u1 u2 u3 t3;obtain⟨bt,ot,r',bs4,rfl,hrs,hrr⟩:=T1.elem aG.bI t5 Hid_rfl hs;obtain⟨_,rfl⟩:True∧r'=r:=⟨trivial,Option.some.inj (hrs.out.symm.trans hr.out)⟩;obtain⟨r0,r1⟩:=aG.pt hrr;have hne:=fun W=>Po W r' ⟨k,j⟩
     dsimp only at hne;cases d4:eqb r' ⟨k,j⟩
     case false=>
      (try rw[d4]at C2)
      have E:Hid (iT x=false):=by show _=_;rw[EV.out,jy hltk (by rw[EK.out];exact jy hltj (by rw[EJ.out];simp[qy,Hpeer.out,d2,d3,d4]))];simp
      go_wp2_with (first|(go_at_call 169;with_reducible refine(C2.out.at_ _).mono ?_;rintro _ _ ⟨rfl,e,rfl⟩))
      repeat (refine ay _ (by kernel_rfl) (by kernel_rfl) ?_;(repeat (go_big_quiet_step ((first|with_reducible exact C2.out.at_ _))));refine wpQuiet_nil ?_;intro e;go_wp2_with (first|(go_at_call 169;with_reducible refine(C2.out.at_ _).mono ?_;rintro _ _ ⟨rfl,e,rfl⟩)))
      go_ret;exact⟨by rw[E.out];rfl,ExtOf.old hy2 e⟩
     (try rw[d4]at C2)
     have E:Hid (qy x.agents ⟨k,j⟩ (jT y.ports j)=true):=by show _=_;rw[EJ.out];simp[qy,Hpeer.out,d2,d3,d4]
     go_wp2_with (first|(go_at_call 169;with_reducible refine(C2.out.at_ _).mono ?_;rintro _ _ ⟨rfl,e,rfl⟩))
     repeat (refine ay _ (by kernel_rfl) (by kernel_rfl) ?_;(repeat (go_big_quiet_step ((first|with_reducible exact C2.out.at_ _))));refine wpQuiet_nil ?_;intro e;go_wp2_with (first|(go_at_call 169;with_reducible refine(C2.out.at_ _).mono ?_;rintro _ _ ⟨rfl,e,rfl⟩)))
     exact⟨⟨j+1,by omega,by go_num,iy hfj E.out,⟨e.to,hy2.trans e.h⟩,rfl⟩,by simp[intOf];omega⟩
    ·have:y.ports.length=j:=by omega
     subst this;have E:Hid (qO x.agents k=true):=by show _=_;rw[EK.out];exact hfj.out
     go_wp2_with fail
     repeat (refine ay _ (by kernel_rfl) (by kernel_rfl) ?_;(repeat (go_big_quiet_step (fail)));refine wpQuiet_nil ?_;intro e;go_wp2_with fail)
     exact⟨⟨k+1,by omega,by go_num,iy hfk E.out,_,rfl⟩,by simp[intOf];omega⟩
  ·have:x.agents.length=k:=by omega
   subst this;have E:Hid (iT x=true):=by show _=_;rw[EV.out,d1,hfk.out];rfl
   go_wp2_with fail
   repeat (refine ay _ (by kernel_rfl) (by kernel_rfl) ?_;(repeat (go_big_quiet_step (fail)));refine wpQuiet_nil ?_;intro e;go_wp2_with fail)
   go_ret;exact⟨by rw[E.out];rfl,_,rfl⟩
theorem yN(x:GNet){A:Option Addr}{c:Nat}{bs:List Nat}(w:World)(hx:T1 w (.sl x.agents.length (x.agents.flatMap aA.enc)) bs (.slice A x.agents.length c)):Calls Tryz.prog 172 #[.agg #[.slice A x.agents.length c]] w fun e w'=>e=.returned (.bool ((!iT x)))∧Ext w w':=by
 refine quiet_start fun e=> ?_
 go_enter Tryz.func172,Tryz.ntmps172
 go_upto_region 1 with(fail)
 generalize hgg:e.to.heap.size=g;refine rebase_box e hgg (fun w1 e hx1 hgeg hltg cg=> ?_);clear hgg
 replace hx:=hx.below hx1
 have k0:=cg.always hltg 0 _ rfl;simp only[Nat.zero_add]at k0;clear cg;have C1:Hid (QC Tryz.prog w1 _ _ _):=fun W hW=>uE x W (GNet.mk_ (hx.below hW))
 go_wp2_with (first|(go_at_call 113;with_reducible refine(C1.out.at_ _).mono ?_;rintro _ _ ⟨rfl,e,rfl⟩))
 repeat (refine ay _ (by kernel_rfl) (by kernel_rfl) ?_;(repeat (go_big_quiet_step ((first|with_reducible exact C1.out.at_ _))));refine wpQuiet_nil ?_;intro e;go_wp2_with (first|(go_at_call 113;with_reducible refine(C1.out.at_ _).mono ?_;rintro _ _ ⟨rfl,e,rfl⟩)))
 go_ret;exact⟨rfl,ExtOf.old hx1 e⟩
theorem zh(xs:List GNet)(n:Nat){A:Option Addr}{c:Nat}{bs:List Nat}(w:World)(hx:T1 w (.sl n (xs.flatMap GNet.enc)) bs (.slice A n c))(Hl:Hid (xs.length=n)):Calls Tryz.prog 207 #[.slice A n c,.func (.func 172) #[] #[]] w fun e w'=>e=.returned (.int .i64 (idxOf n (fun k=> !iT (ng xs k))))∧Ext w w':=by
 refine quiet_start fun e=> ?_
 have hn:=hx.nle
 go_enter Tryz.func207,Tryz.ntmps207
 go_wp2_with fail
 repeat (refine ay _ (by kernel_rfl) (by kernel_rfl) ?_;(repeat (go_big_quiet_step (fail)));refine wpQuiet_nil ?_;intro e;go_wp2_with fail)
 go_loopw [5,8] (fun _ i w'=>∃k:Nat,k≤n∧i=.int .i64 k∧Hid (eH k (fun k=> !!iT (ng xs k))=true)∧∃e:ExtOf w,w'=e.to) (fun _ i _=>n-(intOf i).toNat)
 case atStart=>exact⟨0,Nat.zero_le _,rfl,oU _,_,rfl⟩
 case round=>
  obtain⟨k,hk,rfl,hf,e,rfl⟩:=hrel
  by_cases hlt:k<n
  ·skip
   obtain⟨b,off,x,bs',rfl,hxk,hp⟩:=T1.elem GNet.bI hx Hl hlt;obtain⟨A0,c0,b0,kx0,tx0⟩:=GNet.pt hp;rw[Nat.mul_one]at kx0;have EP:Hid ((!iT (ng xs k))= !iT x):=by show _=_;rw[Lg hxk]
   have C1:Hid (QC Tryz.prog w _ _ _):=fun W hW=>yN x W (tx0.below hW)
   cases d1:(!iT x)
   case true=>
    (try rw[d1]at C1)
    have E:Hid (idxOf n (fun k=> !iT (ng xs k))=(k:Int)):=by show _=_;exact Ap hf hlt (by rw[EP.out];exact d1)
    go_wp2_with (first|(go_at_call 172;with_reducible refine(C1.out.at_ _).mono ?_;rintro _ _ ⟨rfl,e,rfl⟩))
    repeat (refine ay _ (by kernel_rfl) (by kernel_rfl) ?_;(repeat (go_big_quiet_step ((first|with_reducible exact C1.out.at_ _))));refine wpQuiet_nil ?_;intro e;go_wp2_with (first|(go_at_call 172;with_reducible refine(C1.out.at_ _).mono ?_;rintro _ _ ⟨rfl,e,rfl⟩)))
    go_ret;exact⟨by rw[E.out];rfl,_,rfl⟩
   (try rw[d1]at C1)
   have E:Hid ((!!iT (ng xs k))=true):=by show _=_;rw[EP.out,d1];rfl
   go_wp2_with (first|(go_at_call 172;with_reducible refine(C1.out.at_ _).mono ?_;rintro _ _ ⟨rfl,e,rfl⟩))
   repeat (refine ay _ (by kernel_rfl) (by kernel_rfl) ?_;(repeat (go_big_quiet_step ((first|with_reducible exact C1.out.at_ _))));refine wpQuiet_nil ?_;intro e;go_wp2_with (first|(go_at_call 172;with_reducible refine(C1.out.at_ _).mono ?_;rintro _ _ ⟨rfl,e,rfl⟩)))
   exact⟨⟨k+1,by omega,by go_num,iy hf E.out,_,rfl⟩,by simp[intOf];omega⟩
  ·have:n=k:=by omega
   subst this;have E:Hid (idxOf n (fun k=> !iT (ng xs k))= -1):=by show _=_;exact rX hf
   go_wp2_with fail
   repeat (refine ay _ (by kernel_rfl) (by kernel_rfl) ?_;(repeat (go_big_quiet_step (fail)));refine wpQuiet_nil ?_;intro e;go_wp2_with fail)
   go_ret;exact⟨by rw[E.out];rfl,_,rfl⟩
theorem wK(xs:List GNet)(n:Nat){A:Option Addr}{c:Nat}{bs:List Nat}(w:World)(hx:T1 w (.sl n (xs.flatMap GNet.enc)) bs (.slice A n c))(Hl:Hid (xs.length=n)):Calls Tryz.prog 171 #[.slice A n c,.func (.func 172) #[] #[]] w fun e w'=>e=.returned (.bool (pY n (fun k=> !iT (ng xs k))))∧Ext w w':=by
 refine quiet_start fun e=> ?_
 have C1:Hid (QC Tryz.prog w _ _ _):=fun W hW=>zh xs n W (hx.below hW) Hl
 have hc:=Aq n (fun k=> !iT (ng xs k))
 go_enter Tryz.func171,Tryz.ntmps171
 go_wp2_with (first|(go_at_call 207;with_reducible refine(C1.out.at_ _).mono ?_;rintro _ _ ⟨rfl,e,rfl⟩))
 repeat (refine ay _ (by kernel_rfl) (by kernel_rfl) ?_;(repeat (go_big_quiet_step ((first|with_reducible exact C1.out.at_ _))));refine wpQuiet_nil ?_;intro e;go_wp2_with (first|(go_at_call 207;with_reducible refine(C1.out.at_ _).mono ?_;rintro _ _ ⟨rfl,e,rfl⟩)))
 go_ret;exact⟨by rw[←hc];rfl,_,rfl⟩
theorem zI(xs:List GNet)(n:Nat){A:Option Addr}{c:Nat}{bs:List Nat}(w:World)(hx:T1 w (.sl n (xs.flatMap GNet.enc)) bs (.slice A n c))(Hl:Hid (xs.length=n)):Calls Tryz.prog 112 #[.slice A n c] w fun e w'=>e=.returned (.bool (mK xs))∧Ext w w':=by
 refine quiet_start fun e=> ?_
 have hn:=hx.nle;have EV:Hid (mK xs=(decide ((n:Int)≤24)&&eH n fun k=>iT (ng xs k))):=by show _=_;rw[←Hl.out];rfl
 have hc:(!pY n (fun k=> !iT (ng xs k)))=eH n (fun k=>iT (ng xs k)):=by simp[pY]
 have HC:=Lib.hid hc;clear hc;have C1:Hid (QC Tryz.prog w _ _ _):=fun W hW=>wK xs n W (hx.below hW) Hl
 go_enter Tryz.func112,Tryz.ntmps112
 cases d1:decide ((n:Int)≤24)
 case false=>
  (try rw[d1]at C1)
  have E:Hid (mK xs=false):=by show _=_;rw[EV.out,d1];rfl
  go_wp2_with (first|(go_at_call 171;with_reducible refine(C1.out.at_ _).mono ?_;rintro _ _ ⟨rfl,e,rfl⟩))
  repeat (refine ay _ (by kernel_rfl) (by kernel_rfl) ?_;(repeat (go_big_quiet_step ((first|with_reducible exact C1.out.at_ _))));refine wpQuiet_nil ?_;intro e;go_wp2_with (first|(go_at_call 171;with_reducible refine(C1.out.at_ _).mono ?_;rintro _ _ ⟨rfl,e,rfl⟩)))
  go_ret;exact⟨by rw[E.out];rfl,_,rfl⟩
 (try rw[d1]at C1)
 have E:Hid (mK xs= !pY n (fun k=> !iT (ng xs k))):=by show _=_;rw[EV.out,d1,HC.out];rfl
 go_wp2_with (first|(go_at_call 171;with_reducible refine(C1.out.at_ _).mono ?_;rintro _ _ ⟨rfl,e,rfl⟩))
 repeat (refine ay _ (by kernel_rfl) (by kernel_rfl) ?_;(repeat (go_big_quiet_step ((first|with_reducible exact C1.out.at_ _))));refine wpQuiet_nil ?_;intro e;go_wp2_with (first|(go_at_call 171;with_reducible refine(C1.out.at_ _).mono ?_;rintro _ _ ⟨rfl,e,rfl⟩)))
 go_ret;exact⟨by rw[E.out];rfl,_,rfl⟩
theorem zG(s:Int)(w:World):Calls Tryz.prog 191 #[.int .i64 s] w fun e w'=>e=.returned (.bool ((!inB s 0 600)))∧Ext w w':=by
 refine quiet_start fun e=> ?_
 go_enter Tryz.func191,Tryz.ntmps191
 cases d1:decide (s<0)
 case true=>
  have E:Hid ((!inB s 0 600)=true):=by show _=_;simp at d1;rw[BF (Or.inl d1)];rfl
  go_wp2_with fail
  repeat (refine ay _ (by kernel_rfl) (by kernel_rfl) ?_;(repeat (go_big_quiet_step (fail)));refine wpQuiet_nil ?_;intro e;go_wp2_with fail)
  go_ret;exact⟨by rw[E.out];rfl,_,rfl⟩
 have E:Hid ((!inB s 0 600)=decide (600<s)):=by show _=_;simp at d1;unfold inB;rw[show decide ((0:Int)≤s)=true by simpa using d1,Bool.true_and];rw[Bool.eq_iff_iff];simp
 go_wp2_with fail
 repeat (refine ay _ (by kernel_rfl) (by kernel_rfl) ?_;(repeat (go_big_quiet_step (fail)));refine wpQuiet_nil ?_;intro e;go_wp2_with fail)
 go_ret;exact⟨by rw[E.out];rfl,_,rfl⟩
theorem Es(xs:List Int)(n:Nat){A:Option Addr}{c:Nat}{bs:List Nat}(w:World)(hx:T1 w (.sl n (xs.flatMap intE)) bs (.slice A n c))(Hl:Hid (xs.length=n)):Calls Tryz.prog 194 #[.slice A n c,.func (.func 191) #[] #[]] w fun e w'=>e=.returned (.int .i64 (idxOf n (fun k=> !inB (eD xs k) 0 600)))∧Ext w w':=by
 refine quiet_start fun e=> ?_
 have hn:=hx.nle
 go_enter Tryz.func194,Tryz.ntmps194
 go_wp2_with fail
 repeat (refine ay _ (by kernel_rfl) (by kernel_rfl) ?_;(repeat (go_big_quiet_step (fail)));refine wpQuiet_nil ?_;intro e;go_wp2_with fail)
 go_loopw [5,8] (fun _ i w'=>∃k:Nat,k≤n∧i=.int .i64 k∧Hid (eH k (fun k=> !!inB (eD xs k) 0 600)=true)∧∃e:ExtOf w,w'=e.to) (fun _ i _=>n-(intOf i).toNat)
 case atStart=>exact⟨0,Nat.zero_le _,rfl,oU _,_,rfl⟩
 case round=>
  obtain⟨k,hk,rfl,hf,e,rfl⟩:=hrel
  by_cases hlt:k<n
  ·skip
   obtain⟨b,off,x,bs',rfl,hxk,hp⟩:=T1.elem (s:=1) (fun _=>rfl) hx Hl hlt;have kx:=Jy hp;rw[Nat.mul_one]at kx;have EP:Hid ((!inB (eD xs k) 0 600)= !inB x 0 600):=by show _=_;rw[Et hxk]
   have C1:Hid (QC Tryz.prog w _ _ _):=fun W hW=>zG x W
   cases d1:(!inB x 0 600)
   case true=>
    (try rw[d1]at C1)
    have E:Hid (idxOf n (fun k=> !inB (eD xs k) 0 600)=(k:Int)):=by show _=_;exact Ap hf hlt (by rw[EP.out];exact d1)
    go_wp2_with (first|(go_at_call 191;with_reducible refine(C1.out.at_ _).mono ?_;rintro _ _ ⟨rfl,e,rfl⟩))
    repeat (refine ay _ (by kernel_rfl) (by kernel_rfl) ?_;(repeat (go_big_quiet_step ((first|with_reducible exact C1.out.at_ _))));refine wpQuiet_nil ?_;intro e;go_wp2_with (first|(go_at_call 191;with_reducible refine(C1.out.at_ _).mono ?_;rintro _ _ ⟨rfl,e,rfl⟩)))
    go_ret;exact⟨by rw[E.out];rfl,_,rfl⟩
   (try rw[d1]at C1)
   have E:Hid ((!!inB (eD xs k) 0 600)=true):=by show _=_;rw[EP.out,d1];rfl
   go_wp2_with (first|(go_at_call 191;with_reducible refine(C1.out.at_ _).mono ?_;rintro _ _ ⟨rfl,e,rfl⟩))
   repeat (refine ay _ (by kernel_rfl) (by kernel_rfl) ?_;(repeat (go_big_quiet_step ((first|with_reducible exact C1.out.at_ _))));refine wpQuiet_nil ?_;intro e;go_wp2_with (first|(go_at_call 191;with_reducible refine(C1.out.at_ _).mono ?_;rintro _ _ ⟨rfl,e,rfl⟩)))
   exact⟨⟨k+1,by omega,by go_num,iy hf E.out,_,rfl⟩,by simp[intOf];omega⟩
  ·have:n=k:=by omega
   subst this;have E:Hid (idxOf n (fun k=> !inB (eD xs k) 0 600)= -1):=by show _=_;exact rX hf
   go_wp2_with fail
   repeat (refine ay _ (by kernel_rfl) (by kernel_rfl) ?_;(repeat (go_big_quiet_step (fail)));refine wpQuiet_nil ?_;intro e;go_wp2_with fail)
   go_ret;exact⟨by rw[E.out];rfl,_,rfl⟩
theorem zY(xs:List Int)(n:Nat){A:Option Addr}{c:Nat}{bs:List Nat}(w:World)(hx:T1 w (.sl n (xs.flatMap intE)) bs (.slice A n c))(Hl:Hid (xs.length=n)):Calls Tryz.prog 142 #[.slice A n c,.func (.func 191) #[] #[]] w fun e w'=>e=.returned (.bool (pY n (fun k=> !inB (eD xs k) 0 600)))∧Ext w w':=by
 refine quiet_start fun e=> ?_
 have C1:Hid (QC Tryz.prog w _ _ _):=fun W hW=>Es xs n W (hx.below hW) Hl
 have hc:=Aq n (fun k=> !inB (eD xs k) 0 600)
 go_enter Tryz.func142,Tryz.ntmps142
 go_wp2_with (first|(go_at_call 194;with_reducible refine(C1.out.at_ _).mono ?_;rintro _ _ ⟨rfl,e,rfl⟩))
 repeat (refine ay _ (by kernel_rfl) (by kernel_rfl) ?_;(repeat (go_big_quiet_step ((first|with_reducible exact C1.out.at_ _))));refine wpQuiet_nil ?_;intro e;go_wp2_with (first|(go_at_call 194;with_reducible refine(C1.out.at_ _).mono ?_;rintro _ _ ⟨rfl,e,rfl⟩)))
 go_ret;exact⟨by rw[←hc];rfl,_,rfl⟩
theorem A8(xs:List Int)(n:Nat){A:Option Addr}{c:Nat}{bs:List Nat}(w:World)(hx:T1 w (.sl n (xs.flatMap intE)) bs (.slice A n c))(Hl:Hid (xs.length=n)):Calls Tryz.prog 127 #[.slice A n c] w fun e w'=>e=.returned (.bool (schedB xs))∧Ext w w':=by
 refine quiet_start fun e=> ?_
 have hn:=hx.nle;have EV:Hid (schedB xs=(decide ((n:Int)≤200)&&eH n fun k=>inB (eD xs k) 0 600)):=by show _=_;rw[←Hl.out];rfl
 have hc:(!pY n (fun k=> !inB (eD xs k) 0 600))=eH n (fun k=>inB (eD xs k) 0 600):=by simp[pY]
 have HC:=Lib.hid hc;clear hc;have C1:Hid (QC Tryz.prog w _ _ _):=fun W hW=>zY xs n W (hx.below hW) Hl
 go_enter Tryz.func127,Tryz.ntmps127
 cases d1:decide ((n:Int)≤200)
 case false=>
  (try rw[d1]at C1)
  have E:Hid (schedB xs=false):=by show _=_;rw[EV.out,d1];rfl
  go_wp2_with (first|(go_at_call 142;with_reducible refine(C1.out.at_ _).mono ?_;rintro _ _ ⟨rfl,e,rfl⟩))
  repeat (refine ay _ (by kernel_rfl) (by kernel_rfl) ?_;(repeat (go_big_quiet_step ((first|with_reducible exact C1.out.at_ _))));refine wpQuiet_nil ?_;intro e;go_wp2_with (first|(go_at_call 142;with_reducible refine(C1.out.at_ _).mono ?_;rintro _ _ ⟨rfl,e,rfl⟩)))
  go_ret;exact⟨by rw[E.out];rfl,_,rfl⟩
 (try rw[d1]at C1)
 have E:Hid (schedB xs= !pY n (fun k=> !inB (eD xs k) 0 600)):=by show _=_;rw[EV.out,d1,HC.out];rfl
 go_wp2_with (first|(go_at_call 142;with_reducible refine(C1.out.at_ _).mono ?_;rintro _ _ ⟨rfl,e,rfl⟩))
 repeat (refine ay _ (by kernel_rfl) (by kernel_rfl) ?_;(repeat (go_big_quiet_step ((first|with_reducible exact C1.out.at_ _))));refine wpQuiet_nil ?_;intro e;go_wp2_with (first|(go_at_call 142;with_reducible refine(C1.out.at_ _).mono ?_;rintro _ _ ⟨rfl,e,rfl⟩)))
 go_ret;exact⟨by rw[E.out];rfl,_,rfl⟩
theorem Lb(xs:List GNet)(n:Nat){A:Option Addr}{c:Nat}{bs:List Nat}(w:World)(hx:T1 w (.sl n (xs.flatMap GNet.enc)) bs (.slice A n c))(Hl:Hid (xs.length=n)):Calls Tryz.prog 106 #[.slice A n c] w fun e w'=>e=.returned (.bool (mK xs))∧Ext w w':=by
 refine quiet_start fun e=> ?_
 have hn:=hx.nle;have EV:Hid (mK xs=(decide ((n:Int)≤24)&&eH n fun k=>iT (ng xs k))):=by show _=_;rw[←Hl.out];rfl
 go_enter Tryz.func106,Tryz.ntmps106
 cases d1:decide ((24:Int)<n)
 case true=>
  have E:Hid (mK xs=false):=by show _=_;rw[EV.out,show decide ((n:Int)≤24)=false by simp at d1;simp;omega];rfl
  go_wp2_with fail
  repeat (refine ay _ (by kernel_rfl) (by kernel_rfl) ?_;(repeat (go_big_quiet_step (fail)));refine wpQuiet_nil ?_;intro e;go_wp2_with fail)
  go_ret;exact⟨by rw[E.out];rfl,_,rfl⟩
 have EN:Hid (decide ((n:Int)≤24)=true):=by show _=_;simp at d1;simp;omega
 go_wp2_with fail
 repeat (refine ay _ (by kernel_rfl) (by kernel_rfl) ?_;(repeat (go_big_quiet_step (fail)));refine wpQuiet_nil ?_;intro e;go_wp2_with fail)
 go_loopw [3] (fun i w'=>∃k:Nat,k≤n∧i=.int .i64 k∧Hid (eH k (fun k=>iT (ng xs k))=true)∧∃e:ExtOf w,w'=e.to) (fun i _=>n-(intOf i).toNat)
 case atStart=>exact⟨0,Nat.zero_le _,rfl,oU _,_,rfl⟩
 case round=>
  obtain⟨k,hk,rfl,hfk,e,rfl⟩:=hrel
  by_cases hltk:k<n
  ·skip
   obtain⟨b,off,x,bs',rfl,hxk,hp⟩:=T1.elem GNet.bI hx Hl hltk;have EK:Hid (iT (ng xs k)=iT x):=by show _=_;rw[Lg hxk]
   have C1:Hid (QC Tryz.prog w _ _ _):=fun W hW=>Ho x b (off+k*1) _ W (hp.ext hW)
   rw[Nat.mul_one]at C1;cases d2:iT x
   case false=>
    (try rw[d2]at C1)
    have E:Hid (mK xs=false):=by show _=_;rw[EV.out,jy hltk (by rw[EK.out];exact d2)];simp
    go_wp2_with (first|(go_at_call 107;with_reducible refine(C1.out.at_ _).mono ?_;rintro _ _ ⟨rfl,e,rfl⟩))
    repeat (refine ay _ (by kernel_rfl) (by kernel_rfl) ?_;(repeat (go_big_quiet_step ((first|with_reducible exact C1.out.at_ _))));refine wpQuiet_nil ?_;intro e;go_wp2_with (first|(go_at_call 107;with_reducible refine(C1.out.at_ _).mono ?_;rintro _ _ ⟨rfl,e,rfl⟩)))
    go_ret;exact⟨by rw[E.out];rfl,_,rfl⟩
   (try rw[d2]at C1)
   have E:Hid (iT (ng xs k)=true):=by show _=_;rw[EK.out];exact d2
   go_wp2_with (first|(go_at_call 107;with_reducible refine(C1.out.at_ _).mono ?_;rintro _ _ ⟨rfl,e,rfl⟩))
   repeat (refine ay _ (by kernel_rfl) (by kernel_rfl) ?_;(repeat (go_big_quiet_step ((first|with_reducible exact C1.out.at_ _))));refine wpQuiet_nil ?_;intro e;go_wp2_with (first|(go_at_call 107;with_reducible refine(C1.out.at_ _).mono ?_;rintro _ _ ⟨rfl,e,rfl⟩)))
   exact⟨⟨k+1,by omega,by go_num,iy hfk E.out,_,rfl⟩,by simp[intOf];omega⟩
  ·have:n=k:=by omega
   subst this;have E:Hid (mK xs=true):=by show _=_;rw[EV.out,EN.out,hfk.out];rfl
   go_wp2_with fail
   repeat (refine ay _ (by kernel_rfl) (by kernel_rfl) ?_;(repeat (go_big_quiet_step (fail)));refine wpQuiet_nil ?_;intro e;go_wp2_with fail)
   go_ret;exact⟨by rw[E.out];rfl,_,rfl⟩
theorem C9(xs:List Int)(n:Nat){A:Option Addr}{c:Nat}{bs:List Nat}(w:World)(hx:T1 w (.sl n (xs.flatMap intE)) bs (.slice A n c))(Hl:Hid (xs.length=n)):Calls Tryz.prog 147 #[.slice A n c] w fun e w'=>e=.returned (.bool (schedB xs))∧Ext w w':=by
 refine quiet_start fun e=> ?_
 have hn:=hx.nle;have EV:Hid (schedB xs=(decide ((n:Int)≤200)&&eH n fun k=>inB (eD xs k) 0 600)):=by show _=_;rw[←Hl.out];rfl
 go_enter Tryz.func147,Tryz.ntmps147
 cases d1:decide ((200:Int)<n)
 case true=>
  have E:Hid (schedB xs=false):=by show _=_;rw[EV.out,show decide ((n:Int)≤200)=false by simp at d1;simp;omega];rfl
  go_wp2_with fail
  repeat (refine ay _ (by kernel_rfl) (by kernel_rfl) ?_;(repeat (go_big_quiet_step (fail)));refine wpQuiet_nil ?_;intro e;go_wp2_with fail)
  go_ret;exact⟨by rw[E.out];rfl,_,rfl⟩
 have EN:Hid (decide ((n:Int)≤200)=true):=by show _=_;simp at d1;simp;omega
 go_wp2_with fail
 repeat (refine ay _ (by kernel_rfl) (by kernel_rfl) ?_;(repeat (go_big_quiet_step (fail)));refine wpQuiet_nil ?_;intro e;go_wp2_with fail)
 go_loopw [3] (fun i w'=>∃k:Nat,k≤n∧i=.int .i64 k∧Hid (eH k (fun k=>inB (eD xs k) 0 600)=true)∧∃e:ExtOf w,w'=e.to) (fun i _=>n-(intOf i).toNat)
 case atStart=>exact⟨0,Nat.zero_le _,rfl,oU _,_,rfl⟩
 case round=>
  obtain⟨k,hk,rfl,hfk,e,rfl⟩:=hrel
  by_cases hltk:k<n
  ·skip
   obtain⟨b,off,x,bs',rfl,hxk,hp⟩:=T1.elem (s:=1) (fun _=>rfl) hx Hl hltk;have kx:=Jy hp;rw[Nat.mul_one]at kx;have EK:Hid (inB (eD xs k) 0 600=inB x 0 600):=by show _=_;rw[Et hxk]
   have C1:Hid (QC Tryz.prog w _ _ _):=fun W hW=>(oJ x 0 600 W).q
   cases d2:inB x 0 600
   case false=>
    (try rw[d2]at C1)
    have E:Hid (schedB xs=false):=by show _=_;rw[EV.out,jy hltk (by rw[EK.out];exact d2)];simp
    go_wp2_with (first|(go_at_call 81;with_reducible refine(C1.out.at_ _).mono ?_;rintro _ _ ⟨rfl,e,rfl⟩))
    repeat (refine ay _ (by kernel_rfl) (by kernel_rfl) ?_;(repeat (go_big_quiet_step ((first|with_reducible exact C1.out.at_ _))));refine wpQuiet_nil ?_;intro e;go_wp2_with (first|(go_at_call 81;with_reducible refine(C1.out.at_ _).mono ?_;rintro _ _ ⟨rfl,e,rfl⟩)))
    go_ret;exact⟨by rw[E.out];rfl,_,rfl⟩
   (try rw[d2]at C1)
   have E:Hid (inB (eD xs k) 0 600=true):=by show _=_;rw[EK.out];exact d2
   go_wp2_with (first|(go_at_call 81;with_reducible refine(C1.out.at_ _).mono ?_;rintro _ _ ⟨rfl,e,rfl⟩))
   repeat (refine ay _ (by kernel_rfl) (by kernel_rfl) ?_;(repeat (go_big_quiet_step ((first|with_reducible exact C1.out.at_ _))));refine wpQuiet_nil ?_;intro e;go_wp2_with (first|(go_at_call 81;with_reducible refine(C1.out.at_ _).mono ?_;rintro _ _ ⟨rfl,e,rfl⟩)))
   exact⟨⟨k+1,by omega,by go_num,iy hfk E.out,_,rfl⟩,by simp[intOf];omega⟩
  ·have:n=k:=by omega
   subst this;have E:Hid (schedB xs=true):=by show _=_;rw[EV.out,EN.out,hfk.out];rfl
   go_wp2_with fail
   repeat (refine ay _ (by kernel_rfl) (by kernel_rfl) ?_;(repeat (go_big_quiet_step (fail)));refine wpQuiet_nil ?_;intro e;go_wp2_with fail)
   go_ret;exact⟨by rw[E.out];rfl,_,rfl⟩
theorem Zz(xs:List NAgent):aR Tryz.prog 113 [.agg [.rsl uAgent xs]] (.bool (iT (gN xs))):=
 aR.Yc (u:=uNet) (x:=xs) (by kernel_rfl) (fun w bs us h=>uE (gN xs) w (by rw[Ep];exact h)) (fun _ _=>Ab _) (fun _ _ _ _ _ hI hd=>YK hI hd)
theorem Xp(bk:List (List NAgent)):aR Tryz.prog 112 [.rsl uNet bk] (.bool (mK (bk.map gN))):=
 aR.OW (by kernel_rfl) (fun w A c bs h=>zI (bk.map gN) bk.length w (by rw[R3];exact h) (List.length_map _)) (fun _ _=>Ab _)
theorem Ux(l:List Int):aR Tryz.prog 127 [.rsl (.int .i64) l] (.bool (schedB l)):=
 aR.OW (by kernel_rfl) (fun w A c bs h=>A8 l l.length w (by rw[←uy];exact h) rfl) (fun _ _=>Ab _)
theorem netQ(xs:List NAgent):aR Tryz.prog 107 [.rp uNet xs] (.bool (iT (gN xs))):=
 aR.Yd (by kernel_rfl) (fun w b o bs h=>Ho (gN xs) b o bs w (by rw[Ep];exact h)) fun _ _=>Ab _
theorem Zh(bk:List (List NAgent)):aR Tryz.prog 106 [.rsl uNet bk] (.bool (mK (bk.map gN))):=
 aR.OW (by kernel_rfl) (fun w A c bs h=>Lb (bk.map gN) bk.length w (by rw[R3];exact h) (List.length_map _)) (fun _ _=>Ab _)
theorem YF(l:List Int):aR Tryz.prog 147 [.rsl (.int .i64) l] (.bool (schedB l)):=
 aR.OW (by kernel_rfl) (fun w A c bs h=>C9 l l.length w (by rw[←uy];exact h) rfl) (fun _ _=>Ab _)
end Go.Proofs.YtemalpelcdmemaaGreat
