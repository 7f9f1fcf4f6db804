
/- The program's functions on agents: what makes them valid. Printed by gen_neti.py. -/
import Derived.Test.YtgiceoidjipgmaaGreatShort
import Derived.Test.YtgiceoidjipgmaaGreatProg
import Derived.Test.YtgiceoidjipgmaaGreatAgents
import Derived.Test.YtgiceoidjipgmaaGreatNet
import Derived.Test.YtgiceoidjipgmaaGreatQDbg
import Derived.Test.YtgiceoidjipgmaaGreatSc
import Derived.BigGuardPart
import Derived.Outline
import Derived.Deep.CutBlock
import Derived.Test.YtgiceoidjipgmaaGreatVti
import Derived.Test.YtgiceoidjipgmaaGreatVV
import Derived.Test.YtgiceoidjipgmaaGreatNb
import Derived.Test.YtgiceoidjipgmaaGreatAg
set_option maxHeartbeats 4000000
set_option maxRecDepth 100000
set_option linter.unusedSimpArgs false
set_option linter.unusedVariables false
namespace Go.Proofs.YtgiceoidjipgmaaGreat
open Go Go.RowKit Go.Proofs Go.Tr
theorem oM(n:Int)(w:World):Calls Tryz.prog 145 #[.int .i64 n] w fun e w'=>e=.returned (.bool (jc n))∧Ext w w':=by
 refine cO fun e=> ?_
 go_enter Tryz.func145,Tryz.ntmps145
 go_wp2
 all_goals go_ret
 all_goals refine⟨?_,_,rfl⟩
 all_goals first|(simp[jc,bJ, *];done)|(simp[jc,bJ, *];omega)|(simp_all [jc,bJ];done)|(simp_all [jc,bJ];omega)
theorem F9(n:Int)(w:World):Calls Tryz.prog 146 #[.int .i64 n] w fun e w'=>e=.returned (.bool (qD n))∧Ext w w':=by
 refine cO fun e=> ?_
 go_enter Tryz.func146,Tryz.ntmps146
 go_wp2
 all_goals go_ret
 all_goals refine⟨?_,_,rfl⟩
 all_goals first|(simp[qD,bJ, *];done)|(simp[qD,bJ, *];omega)|(simp_all [qD,bJ];done)|(simp_all [qD,bJ];omega)
theorem wG(n:Int)(w:World):Calls Tryz.prog 147 #[.int .i64 n] w fun e w'=>e=.returned (.bool (jK n))∧Ext w w':=by
 refine cO fun e=> ?_
 go_enter Tryz.func147,Tryz.ntmps147
 go_wp2
 all_goals go_ret
 all_goals refine⟨?_,_,rfl⟩
 all_goals first|(simp[jK,bJ, *];done)|(simp[jK,bJ, *];omega)|(simp_all [jK,bJ];done)|(simp_all [jK,bJ];omega)
theorem uR(k f:Int)(w:World):Calls Tryz.prog 141 #[.int .i64 k,.int .i64 f] w fun e w'=>e=.returned (.int .i64 (dw k f))∧Ext w w':=by
 refine cO fun e=> ?_
 have C1:Hid (QC Tryz.prog w _ _ _):=fun W hW=>(DC k W).q
 cases hk:kg k
 case false=>
  rw[hk]at C1;have hn:=K6 hk;have h9:(k==9)=false:=by simp;omega
  go_enter Tryz.func141,Tryz.ntmps141
  go_wp2_with (first|(go_at_call 151;with_reducible refine(C1.out.at_ _).mono ?_;rintro _ _ ⟨rfl,e,rfl⟩))
  repeat (refine aO _ (by kernel_rfl) (by kernel_rfl) ?_;(repeat (go_big_quiet_step ((first|with_reducible exact C1.out.at_ _))));refine wpQuiet_nil ?_;intro e;go_wp2_with (first|(go_at_call 151;with_reducible refine(C1.out.at_ _).mono ?_;rintro _ _ ⟨rfl,e,rfl⟩)))
  all_goals go_ret
  all_goals refine⟨?_,_,rfl⟩
  all_goals simp[dw]
  all_goals (repeat rw[if_neg (by omega)])
  all_goals (try split)
  all_goals (try rfl)
  all_goals (try omega)
 rw[hk]at C1;have ix1:∀W:World,(Instr.index 196 (.agg #[.int .i64 0,.int .i64 1,.int .i64 3,.int .i64 3,.int .i64 3,.int .i64 1,.int .i64 1,.int .i64 3,.int .i64 2,.int .i64 0,.int .i64 2,.int .i64 2,.int .i64 1]) (.int .i64 1)).run Tryz.prog W=.ok (.int .i64 1) W:=fun _=>by kernel_rfl
 have ix2:∀W:World,(Instr.index 196 (.agg #[.int .i64 0,.int .i64 1,.int .i64 3,.int .i64 3,.int .i64 3,.int .i64 1,.int .i64 1,.int .i64 3,.int .i64 2,.int .i64 0,.int .i64 2,.int .i64 2,.int .i64 1]) (.int .i64 2)).run Tryz.prog W=.ok (.int .i64 3) W:=fun _=>by kernel_rfl
 have ix3:∀W:World,(Instr.index 196 (.agg #[.int .i64 0,.int .i64 1,.int .i64 3,.int .i64 3,.int .i64 3,.int .i64 1,.int .i64 1,.int .i64 3,.int .i64 2,.int .i64 0,.int .i64 2,.int .i64 2,.int .i64 1]) (.int .i64 3)).run Tryz.prog W=.ok (.int .i64 3) W:=fun _=>by kernel_rfl
 have ix4:∀W:World,(Instr.index 196 (.agg #[.int .i64 0,.int .i64 1,.int .i64 3,.int .i64 3,.int .i64 3,.int .i64 1,.int .i64 1,.int .i64 3,.int .i64 2,.int .i64 0,.int .i64 2,.int .i64 2,.int .i64 1]) (.int .i64 4)).run Tryz.prog W=.ok (.int .i64 3) W:=fun _=>by kernel_rfl
 have ix5:∀W:World,(Instr.index 196 (.agg #[.int .i64 0,.int .i64 1,.int .i64 3,.int .i64 3,.int .i64 3,.int .i64 1,.int .i64 1,.int .i64 3,.int .i64 2,.int .i64 0,.int .i64 2,.int .i64 2,.int .i64 1]) (.int .i64 5)).run Tryz.prog W=.ok (.int .i64 1) W:=fun _=>by kernel_rfl
 have ix6:∀W:World,(Instr.index 196 (.agg #[.int .i64 0,.int .i64 1,.int .i64 3,.int .i64 3,.int .i64 3,.int .i64 1,.int .i64 1,.int .i64 3,.int .i64 2,.int .i64 0,.int .i64 2,.int .i64 2,.int .i64 1]) (.int .i64 6)).run Tryz.prog W=.ok (.int .i64 1) W:=fun _=>by kernel_rfl
 have ix7:∀W:World,(Instr.index 196 (.agg #[.int .i64 0,.int .i64 1,.int .i64 3,.int .i64 3,.int .i64 3,.int .i64 1,.int .i64 1,.int .i64 3,.int .i64 2,.int .i64 0,.int .i64 2,.int .i64 2,.int .i64 1]) (.int .i64 7)).run Tryz.prog W=.ok (.int .i64 3) W:=fun _=>by kernel_rfl
 have ix8:∀W:World,(Instr.index 196 (.agg #[.int .i64 0,.int .i64 1,.int .i64 3,.int .i64 3,.int .i64 3,.int .i64 1,.int .i64 1,.int .i64 3,.int .i64 2,.int .i64 0,.int .i64 2,.int .i64 2,.int .i64 1]) (.int .i64 8)).run Tryz.prog W=.ok (.int .i64 2) W:=fun _=>by kernel_rfl
 have ix9:∀W:World,(Instr.index 196 (.agg #[.int .i64 0,.int .i64 1,.int .i64 3,.int .i64 3,.int .i64 3,.int .i64 1,.int .i64 1,.int .i64 3,.int .i64 2,.int .i64 0,.int .i64 2,.int .i64 2,.int .i64 1]) (.int .i64 9)).run Tryz.prog W=.ok (.int .i64 0) W:=fun _=>by kernel_rfl
 have ix10:∀W:World,(Instr.index 196 (.agg #[.int .i64 0,.int .i64 1,.int .i64 3,.int .i64 3,.int .i64 3,.int .i64 1,.int .i64 1,.int .i64 3,.int .i64 2,.int .i64 0,.int .i64 2,.int .i64 2,.int .i64 1]) (.int .i64 10)).run Tryz.prog W=.ok (.int .i64 2) W:=fun _=>by kernel_rfl
 have ix11:∀W:World,(Instr.index 196 (.agg #[.int .i64 0,.int .i64 1,.int .i64 3,.int .i64 3,.int .i64 3,.int .i64 1,.int .i64 1,.int .i64 3,.int .i64 2,.int .i64 0,.int .i64 2,.int .i64 2,.int .i64 1]) (.int .i64 11)).run Tryz.prog W=.ok (.int .i64 2) W:=fun _=>by kernel_rfl
 have ix12:∀W:World,(Instr.index 196 (.agg #[.int .i64 0,.int .i64 1,.int .i64 3,.int .i64 3,.int .i64 3,.int .i64 1,.int .i64 1,.int .i64 3,.int .i64 2,.int .i64 0,.int .i64 2,.int .i64 2,.int .i64 1]) (.int .i64 12)).run Tryz.prog W=.ok (.int .i64 1) W:=fun _=>by kernel_rfl
 rcases wI hk with rfl|rfl|rfl|rfl|rfl|rfl|rfl|rfl|rfl|rfl|rfl|rfl
 all_goals clear hk
 all_goals
  go_enter Tryz.func141,Tryz.ntmps141
  go_wp2_with (first|(go_at_call 151;with_reducible refine(C1.out.at_ _).mono ?_;rintro _ _ ⟨rfl,e,rfl⟩))
  repeat (refine aO _ (by kernel_rfl) (by kernel_rfl) ?_;(repeat (go_big_quiet_step ((first|with_reducible exact C1.out.at_ _))));refine wpQuiet_nil ?_;intro e;go_wp2_with (first|(go_at_call 151;with_reducible refine(C1.out.at_ _).mono ?_;rintro _ _ ⟨rfl,e,rfl⟩)))
  all_goals go_ret
  all_goals refine⟨?_,_,rfl⟩
  all_goals first|(simp[dw,bJ, *];done)|(simp[dw,bJ, *];omega)|(simp_all [dw,bJ];done)|(simp_all [dw,bJ];omega)
theorem Ab(k p:Int)(w:World)(h1:0≤p)(h2:p≤9223372036854775807):Calls Tryz.prog 142 #[.int .i64 k,.int .i64 p] w fun e w'=>e=.returned (.int .i64 (gy k p))∧Ext w w':=by
 refine cO fun e=> ?_
 go_enter Tryz.func142,Tryz.ntmps142
 cases d1:(k==9)
 case true=>
  have E:Hid (gy k p=p-1):=by show _=_;simp[gy,d1]
  go_wp2_with fail
  repeat (refine aO _ (by kernel_rfl) (by kernel_rfl) ?_;(repeat (go_big_quiet_step (fail)));refine wpQuiet_nil ?_;intro e;go_wp2_with fail)
  go_ret;exact⟨by rw[E.out];rfl,_,rfl⟩
 have E:Hid (gy k p=0):=by show _=_;simp[gy,d1]
 go_wp2_with fail
 repeat (refine aO _ (by kernel_rfl) (by kernel_rfl) ?_;(repeat (go_big_quiet_step (fail)));refine wpQuiet_nil ?_;intro e;go_wp2_with fail)
 go_ret;exact⟨by rw[E.out];rfl,_,rfl⟩
theorem uW(d:Int)(w:World):Calls Tryz.prog 144 #[.int .i64 d] w fun e w'=>e=.returned (.bool (!jc d))∧Ext w w':=by
 refine cO fun e=> ?_
 have C1:Hid (QC Tryz.prog w _ _ _):=fun W hW=>oM d W
 go_enter Tryz.func144,Tryz.ntmps144
 go_wp2_with (first|(go_at_call 145;with_reducible refine(C1.out.at_ _).mono ?_;rintro _ _ ⟨rfl,e,rfl⟩))
 repeat (refine aO _ (by kernel_rfl) (by kernel_rfl) ?_;(repeat (go_big_quiet_step ((first|with_reducible exact C1.out.at_ _))));refine wpQuiet_nil ?_;intro e;go_wp2_with (first|(go_at_call 145;with_reducible refine(C1.out.at_ _).mono ?_;rintro _ _ ⟨rfl,e,rfl⟩)))
 go_ret;exact⟨rfl,_,rfl⟩
theorem yw(xs:List Int)(n:Nat){A:Option Addr}{c:Nat}{bs:List Nat}(w:World)(hx:T1 w (.sl n (xs.flatMap aP)) bs (.slice A n c))(Hl:Hid (xs.length=n)):Calls Tryz.prog 140 #[.slice A n c,.func (.func 144) #[] #[]] w fun e w'=>e=.returned (.int .i64 (idxOf n (fun k=> !jc (gD xs k))))∧Ext w w':=by
 refine cO fun e=> ?_
 have hn:=hx.Jy
 go_enter Tryz.func140,Tryz.ntmps140
 go_wp2_with fail
 repeat (refine aO _ (by kernel_rfl) (by kernel_rfl) ?_;(repeat (go_big_quiet_step (fail)));refine wpQuiet_nil ?_;intro e;go_wp2_with fail)
 go_loopw [5,8] (fun _ i w'=>∃k:Nat,k≤n∧i=.int .i64 k∧Hid (dM k (fun k=> !!jc (gD xs k))=true)∧∃e:bn w,w'=e.to) (fun _ i _=>n-(intOf i).toNat)
 case atStart=>exact⟨0,Nat.zero_le _,rfl,JJ _,_,rfl⟩
 case round=>
  obtain⟨k,hk,rfl,hf,e,rfl⟩:=hrel
  by_cases hlt:k<n
  ·skip
   obtain⟨b,off,x,bs',rfl,hxk,hp⟩:=T1.elem (s:=1) (fun _=>rfl) hx Hl hlt;have kx:=Ku hp;rw[Nat.mul_one]at kx;have EP:Hid ((!jc (gD xs k))= !jc x):=by show _=_;rw[Ii hxk]
   have C1:Hid (QC Tryz.prog w _ _ _):=fun W hW=>uW x W
   cases d1:(!jc x)
   case true=>
    (try rw[d1]at C1)
    have E:Hid (idxOf n (fun k=> !jc (gD xs k))=(k:Int)):=by show _=_;exact Ie hf hlt (by rw[EP.out];exact d1)
    go_wp2_with (first|(go_at_call 144;with_reducible refine(C1.out.at_ _).mono ?_;rintro _ _ ⟨rfl,e,rfl⟩))
    repeat (refine aO _ (by kernel_rfl) (by kernel_rfl) ?_;(repeat (go_big_quiet_step ((first|with_reducible exact C1.out.at_ _))));refine wpQuiet_nil ?_;intro e;go_wp2_with (first|(go_at_call 144;with_reducible refine(C1.out.at_ _).mono ?_;rintro _ _ ⟨rfl,e,rfl⟩)))
    go_ret;exact⟨by rw[E.out];rfl,_,rfl⟩
   (try rw[d1]at C1)
   have E:Hid ((!!jc (gD xs k))=true):=by show _=_;rw[EP.out,d1];rfl
   go_wp2_with (first|(go_at_call 144;with_reducible refine(C1.out.at_ _).mono ?_;rintro _ _ ⟨rfl,e,rfl⟩))
   repeat (refine aO _ (by kernel_rfl) (by kernel_rfl) ?_;(repeat (go_big_quiet_step ((first|with_reducible exact C1.out.at_ _))));refine wpQuiet_nil ?_;intro e;go_wp2_with (first|(go_at_call 144;with_reducible refine(C1.out.at_ _).mono ?_;rintro _ _ ⟨rfl,e,rfl⟩)))
   exact⟨⟨k+1,by omega,by go_num,Dp hf E.out,_,rfl⟩,by simp[intOf];omega⟩
  ·have:n=k:=by omega
   subst this;have E:Hid (idxOf n (fun k=> !jc (gD xs k))= -1):=by show _=_;exact wF hf
   go_wp2_with fail
   repeat (refine aO _ (by kernel_rfl) (by kernel_rfl) ?_;(repeat (go_big_quiet_step (fail)));refine wpQuiet_nil ?_;intro e;go_wp2_with fail)
   go_ret;exact⟨by rw[E.out];rfl,_,rfl⟩
theorem sQ(xs:List Int)(n:Nat){A:Option Addr}{c:Nat}{bs:List Nat}(w:World)(hx:T1 w (.sl n (xs.flatMap aP)) bs (.slice A n c))(Hl:Hid (xs.length=n)):Calls Tryz.prog 123 #[.slice A n c,.func (.func 144) #[] #[]] w fun e w'=>e=.returned (.bool (Ez n (fun k=> !jc (gD xs k))))∧Ext w w':=by
 refine cO fun e=> ?_
 have C1:Hid (QC Tryz.prog w _ _ _):=fun W hW=>yw xs n W (hx.below hW) Hl
 have hc:=Ig n (fun k=> !jc (gD xs k))
 go_enter Tryz.func123,Tryz.ntmps123
 go_wp2_with (first|(go_at_call 140;with_reducible refine(C1.out.at_ _).mono ?_;rintro _ _ ⟨rfl,e,rfl⟩))
 repeat (refine aO _ (by kernel_rfl) (by kernel_rfl) ?_;(repeat (go_big_quiet_step ((first|with_reducible exact C1.out.at_ _))));refine wpQuiet_nil ?_;intro e;go_wp2_with (first|(go_at_call 140;with_reducible refine(C1.out.at_ _).mono ?_;rintro _ _ ⟨rfl,e,rfl⟩)))
 go_ret;exact⟨by rw[←hc];rfl,_,rfl⟩
end Go.Proofs.YtgiceoidjipgmaaGreat
namespace Go.Tr
open Go Go.RowKit
def nA(a:ak):ah:=(a.kind,a.level,a.value,a.data,a.aH.map fun p=>(p.agent,p.slot))
theorem H7(a:ak):gA (nA a)=a:=by
 cases a with
 |mk k l v d ps=>
  unfold gA nA;simp only[List.map_map]
  congr 1
  exact(List.map_congr_left fun p _=>rfl).trans (List.map_id ps)
theorem Ip(x:ak):enc aL (nA x)=x.enc:=by rw[←Ak,H7]
def kF(k v:Int)(d:List Int):Bool:=
 if k==6 then((d.length:Int)==0)&&qD v
 else if k==7 then((d.length:Int)==0)&&jK v
 else if k==8 then((d.length:Int)==1)&&jK v&&qD (gD d 0)
 else if k==9 then((d.length:Int)==0)&&bJ v 0 3
 else if k==12 then((d.length:Int)==0)&&jc v
 else if k==10 then v==0&&bJ d.length 1 4&&jH d
 else if k==11 then v==0&&((d.length:Int)==2)&&jH d
 else v==0&&((d.length:Int)==0)
theorem EG(a:ah):mo (gA a)=kF a.1 a.2.2.1 a.2.2.2.1:=rfl
end Go.Tr
namespace Go.Proofs.YtgiceoidjipgmaaGreat
open Go Go.RowKit Go.Proofs Go.Tr
theorem LY(n:Int):aF Tryz.prog 150 [.int .i64 n] (.bool (jc n)):=by
 refine aF.intro (nt:=5) aQ mixed (by kernel_rfl) Tryz.func150 rfl rfl rfl rfl rfl ?_;refine Or.inl (eI _ (aI (K7 n 0 23) ?_));exact rfl
theorem G8(a:ah):aF Tryz.prog 137 [.rp aL a] (.bool (mo (gA a))):=by
 refine aF.intro (nt:=162) aQ mixed (by kernel_rfl) Tryz.func137 rfl rfl rfl rfl rfl ?_;rw[EG];generalize hk:a.1=k at*;have ek:∀{c:Int} {b:Bool},(a.1==c)=b→(k==c)=b:=fun h=>by rw[←hk];exact h
 refine aI (fun q1=> ?_) (fun q1=> ?_)
 ·refine Or.inl (eI _ (aI (fun _=>K7 a.2.2.1 (-2147483648) 2147483647) ?_));refine Eq.trans (Eq.refl _) ?_;unfold kF;rw[ek q1];show(bif ((a.2.2.2.1.length:Int)==0)then bJ a.2.2.1 (-2147483648) 2147483647 else false)=(((a.2.2.2.1.length:Int)==0)&&qD a.2.2.1);cases ((a.2.2.2.1.length:Int)==0)<;>rfl
 refine aI (fun q2=> ?_) (fun q2=> ?_)
 ·refine Or.inl (eI _ (aI (fun _=>K7 a.2.2.1 1 6) ?_));refine Eq.trans (Eq.refl _) ?_;unfold kF;rw[ek q1,ek q2];show(bif ((a.2.2.2.1.length:Int)==0)then bJ a.2.2.1 1 6 else false)=(((a.2.2.2.1.length:Int)==0)&&jK a.2.2.1);cases ((a.2.2.2.1.length:Int)==0)<;>rfl
 refine aI (fun q3=> ?_) (fun q3=> ?_)
 ·refine Or.inl (eI _ (aI (fun _=>K7 a.2.2.1 1 6) ?_));refine aI (fun g=> ?_) ?_
  ·have g2:(bif ((a.2.2.2.1.length:Int)==1)then bJ a.2.2.1 1 6 else false)=true:=g;cases hl:((a.2.2.2.1.length:Int)==1)with
   |false=>rw[hl]at g2;cases g2
   |true=>
    have hl2:(a.2.2.2.1.length:Int)=1:=by simpa using hl
    show(0:Int)≤0∧(0:Int)<(a.2.2.2.1.length:Nat);omega
  refine Or.inl (eI _ (aI (fun _=>K7 _ (-2147483648) 2147483647) ?_));refine Eq.trans (Eq.refl _) ?_;unfold kF;rw[ek q1,ek q2,ek q3];show(bif (bif ((a.2.2.2.1.length:Int)==1)then bJ a.2.2.1 1 6 else false)then bJ (gD a.2.2.2.1 0) (-2147483648) 2147483647 else false)=(((a.2.2.2.1.length:Int)==1)&&jK a.2.2.1&&qD (gD a.2.2.2.1 0));unfold jK qD;cases ((a.2.2.2.1.length:Int)==1)<;>cases bJ a.2.2.1 1 6<;>rfl
 refine aI (fun q4=> ?_) (fun q4=> ?_)
 ·refine Or.inl (eI _ (aI (fun _=>K7 a.2.2.1 0 3) ?_));refine Eq.trans (Eq.refl _) ?_;unfold kF;rw[ek q1,ek q2,ek q3,ek q4];show(bif ((a.2.2.2.1.length:Int)==0)then bJ a.2.2.1 0 3 else false)=(((a.2.2.2.1.length:Int)==0)&&bJ a.2.2.1 0 3);cases ((a.2.2.2.1.length:Int)==0)<;>rfl
 refine aI (fun q5=> ?_) (fun q5=> ?_)
 ·refine Or.inl (eI _ (aI (fun _=>LY a.2.2.1) ?_));refine Eq.trans (Eq.refl _) ?_;unfold kF;rw[ek q1,ek q2,ek q3,ek q4,ek q5];show(bif ((a.2.2.2.1.length:Int)==0)then jc a.2.2.1 else false)=(((a.2.2.2.1.length:Int)==0)&&jc a.2.2.1);cases ((a.2.2.2.1.length:Int)==0)<;>rfl
 refine aI (fun q6=> ?_) (fun q6=> ?_)
 ·refine aI (fun _=> ?_) (fun p=>absurd (q6.symm.trans p) (by decide));refine Or.inl (eI _ (aI (fun _=>K7 a.2.2.2.1.length 1 4) ?_))
  have q7:(k==11)=false:=by
   have:k=10:=by have:=ek q6;simpa using this
   rw[this];rfl
  have q7':(a.1==11)=false:=by rw[hk];exact q7
  have ec:kF k a.2.2.1 a.2.2.2.1=(a.2.2.1==0&&bJ a.2.2.2.1.length 1 4&&jH a.2.2.2.1):=by
   unfold kF;rw[ek q1,ek q2,ek q3,ek q4,ek q5,ek q6];rfl
  have q6':(a.1==10)=true:=q6;refine aI (fun q8=> ?_) (fun q8=> ?_)
  ·refine Eq.trans (Eq.refl _) ?_;rw[ec];have q9:(bif (bif (a.2.2.1 !=0)then true else bif (a.1==11)then((a.2.2.2.1.length:Int) !=2)else false)then true else bif (a.1==10)then !(bJ a.2.2.2.1.length 1 4)else false)=true:=q8;rw[q7',q6',show(a.2.2.1 !=0)= !(a.2.2.1==0) from rfl]at q9;revert q9;cases (a.2.2.1==0)<;>cases bJ a.2.2.2.1.length 1 4<;>simp
  have et:(true:Bool)=(a.2.2.1==0&&bJ a.2.2.2.1.length 1 4):=by
   have q9:(bif (bif (a.2.2.1 !=0)then true else bif (a.1==11)then((a.2.2.2.1.length:Int) !=2)else false)then true else bif (a.1==10)then !(bJ a.2.2.2.1.length 1 4)else false)=false:=q8;rw[q7',q6',show(a.2.2.1 !=0)= !(a.2.2.1==0) from rfl]at q9;revert q9;cases (a.2.2.1==0)<;>cases bJ a.2.2.2.1.length 1 4<;>simp
  have hlen:a.2.2.2.1.length≤4:=by
   have h1:bJ a.2.2.2.1.length 1 4=true:=by
    revert et;cases (a.2.2.1==0)<;>cases bJ a.2.2.2.1.length 1 4<;>simp
   have:=EU h1;omega
  refine lp Nat (fun i=>[(3,.int .i64 (i:Nat))]) (fun _=>[]) (fun i=>a.2.2.2.1.length-i) (fun i=>i≤a.2.2.2.1.length∧dM i (fun k=>jc (gD a.2.2.2.1 k))=true) 0 ⟨Nat.zero_le _,rfl⟩ ?_ ?_
  ·exact hd [] rfl (aI (aI rfl rfl) trivial) trivial
  rintro i ⟨hi,ha⟩;refine aI (fun p1=> ?_) (fun p1=> ?_)
  ·have hlt:i<a.2.2.2.1.length:=by
    have p2:decide (((i:Nat):Int)<(a.2.2.2.1.length:Nat))=true:=p1;simp only[decide_eq_true_eq]at p2;omega
   refine aI (show 0≤((i:Nat):Int)∧((i:Nat):Int)<(a.2.2.2.1.length:Nat) by omega) ?_;refine Or.inl (eI _ (aI (LY _) ?_));refine aI (fun p2=> ?_) (fun p2=> ?_)
   ·have p3:jc (gD a.2.2.2.1 i)=false:=by
     have p4:(!jc (gD a.2.2.2.1 i))=true:=p2;simpa using p4
    refine Eq.trans (Eq.refl _) ?_;rw[ec,show jH a.2.2.2.1=false from lM hlt p3,Bool.and_false]
   ·have p3:jc (gD a.2.2.2.1 i)=true:=by
     have p4:(!jc (gD a.2.2.2.1 i))=false:=p2;simpa using p4
    refine aM (i+1) ⟨hlt,by rw[gN];simp only[ha,p3,Bool.and_true]⟩ ?_ ?_
    ·exact hd [] rfl (aI (aI (bD (by omega)) rfl) trivial) trivial
    ·show a.2.2.2.1.length-(i+1)<a.2.2.2.1.length-i;omega
  ·have hge:a.2.2.2.1.length≤i:=by
    have p2:decide (((i:Nat):Int)<(a.2.2.2.1.length:Nat))=false:=p1;simp only[decide_eq_false_iff_not]at p2;omega
   have hie:i=a.2.2.2.1.length:=by omega
   subst hie;refine Eq.trans (Eq.refl _) ?_;rw[ec,show jH a.2.2.2.1=true from ha,Bool.and_true];exact et
 refine aI (fun q7=> ?_) (fun q7=> ?_)
 ·refine Or.inl (eI _ (aI (fun _=>K7 a.2.2.2.1.length 1 4) ?_))
  have ec:kF k a.2.2.1 a.2.2.2.1=(a.2.2.1==0&&((a.2.2.2.1.length:Int)==2)&&jH a.2.2.2.1):=by
   unfold kF;rw[ek q1,ek q2,ek q3,ek q4,ek q5,ek q6,ek q7];rfl
  have q6':(a.1==10)=false:=q6;have q7':(a.1==11)=true:=q7;refine aI (fun q8=> ?_) (fun q8=> ?_)
  ·refine Eq.trans (Eq.refl _) ?_;rw[ec];have q9:(bif (bif (a.2.2.1 !=0)then true else bif (a.1==11)then((a.2.2.2.1.length:Int) !=2)else false)then true else bif (a.1==10)then !(bJ a.2.2.2.1.length 1 4)else false)=true:=q8;rw[q7',q6',show(a.2.2.1 !=0)= !(a.2.2.1==0) from rfl,show((a.2.2.2.1.length:Int) !=2)= !((a.2.2.2.1.length:Int)==2) from rfl]at q9;revert q9;cases (a.2.2.1==0)<;>cases ((a.2.2.2.1.length:Int)==2)<;>simp
  have et:(true:Bool)=(a.2.2.1==0&&((a.2.2.2.1.length:Int)==2)):=by
   have q9:(bif (bif (a.2.2.1 !=0)then true else bif (a.1==11)then((a.2.2.2.1.length:Int) !=2)else false)then true else bif (a.1==10)then !(bJ a.2.2.2.1.length 1 4)else false)=false:=q8;rw[q7',q6',show(a.2.2.1 !=0)= !(a.2.2.1==0) from rfl,show((a.2.2.2.1.length:Int) !=2)= !((a.2.2.2.1.length:Int)==2) from rfl]at q9;revert q9;cases (a.2.2.1==0)<;>cases ((a.2.2.2.1.length:Int)==2)<;>simp
  have hlen:a.2.2.2.1.length≤4:=by
   have h1:((a.2.2.2.1.length:Int)==2)=true:=by
    revert et;cases (a.2.2.1==0)<;>cases ((a.2.2.2.1.length:Int)==2)<;>simp
   have h2:(a.2.2.2.1.length:Int)=2:=by simpa using h1
   omega
  refine lp Nat (fun i=>[(3,.int .i64 (i:Nat))]) (fun _=>[]) (fun i=>a.2.2.2.1.length-i) (fun i=>i≤a.2.2.2.1.length∧dM i (fun k=>jc (gD a.2.2.2.1 k))=true) 0 ⟨Nat.zero_le _,rfl⟩ ?_ ?_
  ·exact hd [] rfl (aI (aI rfl rfl) trivial) trivial
  rintro i ⟨hi,ha⟩;refine aI (fun p1=> ?_) (fun p1=> ?_)
  ·have hlt:i<a.2.2.2.1.length:=by
    have p2:decide (((i:Nat):Int)<(a.2.2.2.1.length:Nat))=true:=p1;simp only[decide_eq_true_eq]at p2;omega
   refine aI (show 0≤((i:Nat):Int)∧((i:Nat):Int)<(a.2.2.2.1.length:Nat) by omega) ?_;refine Or.inl (eI _ (aI (LY _) ?_));refine aI (fun p2=> ?_) (fun p2=> ?_)
   ·have p3:jc (gD a.2.2.2.1 i)=false:=by
     have p4:(!jc (gD a.2.2.2.1 i))=true:=p2;simpa using p4
    refine Eq.trans (Eq.refl _) ?_;rw[ec,show jH a.2.2.2.1=false from lM hlt p3,Bool.and_false]
   ·have p3:jc (gD a.2.2.2.1 i)=true:=by
     have p4:(!jc (gD a.2.2.2.1 i))=false:=p2;simpa using p4
    refine aM (i+1) ⟨hlt,by rw[gN];simp only[ha,p3,Bool.and_true]⟩ ?_ ?_
    ·exact hd [] rfl (aI (aI (bD (by omega)) rfl) trivial) trivial
    ·show a.2.2.2.1.length-(i+1)<a.2.2.2.1.length-i;omega
  ·have hge:a.2.2.2.1.length≤i:=by
    have p2:decide (((i:Nat):Int)<(a.2.2.2.1.length:Nat))=false:=p1;simp only[decide_eq_false_iff_not]at p2;omega
   have hie:i=a.2.2.2.1.length:=by omega
   subst hie;refine Eq.trans (Eq.refl _) ?_;rw[ec,show jH a.2.2.2.1=true from ha,Bool.and_true];exact et
 ·refine Eq.trans (Eq.refl _) ?_;unfold kF;rw[ek q1,ek q2,ek q3,ek q4,ek q5,ek q6,ek q7];show(bif (a.2.2.1==0)then((a.2.2.2.1.length:Int)==0)else false)=(a.2.2.1==0&&((a.2.2.2.1.length:Int)==0));cases (a.2.2.1==0)<;>rfl
theorem wL(x:ak)(b o:Nat)(bs:List Nat)(w:World)(h:iD w b o x.enc bs):Calls Tryz.prog 137 #[.pointer (some ⟨b,o,none⟩)] w fun e w'=>e=.returned (.bool (mo x))∧Ext w w':=by
 have q:=aF.JL (u:=aL) (x:=nA x) (G8 (nA x)) (fun _ _ _ h=>Hf h) (w:=w) (b:=b) (o:=o) (bs:=bs) (by rw[Ip];exact h);rw[H7]at q;exact q
theorem PD(k f:Int):aF Tryz.prog 141 [.int .i64 k,.int .i64 f] (.int .i64 (dw k f)):=aF.Ci (l:=[k,f]) (by kernel_rfl) (uR k f) fun _ _=>K4 _
theorem K8(n:Int):aF Tryz.prog 146 [.int .i64 n] (.bool (qD n)):=aF.Ci (l:=[n]) (by kernel_rfl) (F9 n) fun _ _=>yV _
theorem NP(n:Int):aF Tryz.prog 147 [.int .i64 n] (.bool (jK n)):=aF.Ci (l:=[n]) (by kernel_rfl) (wG n) fun _ _=>yV _
theorem Nv(n:Int):aF Tryz.prog 145 [.int .i64 n] (.bool (jc n)):=aF.Ci (l:=[n]) (by kernel_rfl) (oM n) fun _ _=>yV _
theorem Pv(k:Int)(n:Nat)(h:n≤9223372036854775807):aF Tryz.prog 142 [.int .i64 k,.int .i64 (n:Int)] (.int .i64 (gy k n)):=aF.Ci (l:=[k,(n:Int)]) (by kernel_rfl) (fun w=>Ab k n w (by omega) (by omega)) fun _ _=>K4 _
theorem Pk(xs:List Int):aF Tryz.prog 123 [.rsl (.int .i64) xs,.fn 144 []] (.bool (!jH xs)):=by
 refine⟨(by kernel_rfl),fun cx β w fr vs hI hd=> ?_⟩;unfold au at hd;obtain⟨v1,vs1,rfl,hd1,hd⟩:=hd;unfold au at hd;obtain⟨v2,vs2,rfl,hd2,hd⟩:=hd;unfold au at hd;subst hd;unfold Den at hd1 hd2;obtain⟨us,rfl,hd2⟩:=hd2;unfold au at hd2;subst hd2;obtain⟨A,c,rfl⟩:=hd1.slice;obtain⟨bs,ht⟩:=hd1.now hI;refine Calls.mono (sQ xs xs.length w (by rw[←rD];exact ht) rfl) ?_;rintro e w' ⟨rfl,hx⟩;refine⟨_,rfl,?_,hI.ext hx⟩;unfold Den;unfold Ez jH;simp only[Bool.not_not]
theorem Ow(a:ah)(hp:a.2.2.2.2.length≤9223372036854775807):aF Tryz.prog 126 [.agg [.int .i64 a.1,.int .i64 a.2.1,.int .i64 a.2.2.1,.rsl (.int .i64) a.2.2.2.1,.rsl aR a.2.2.2.2]] (.bool (dz (gA a))):=by
 refine aF.intro (nt:=117) aQ mixed (by kernel_rfl) Tryz.func126 rfl rfl rfl rfl rfl ?_
 have hag:dz (gA a)=(decide (0<dw a.1 (gy a.1 a.2.2.2.2.length))&&(a.2.2.2.2.length:Int)==dw a.1 (gy a.1 a.2.2.2.2.length)&&iZ a.1 a.2.1&&kF a.1 a.2.2.1 a.2.2.2.1):=by
  rw[←EG];unfold dz fieldsOf;have e:(gA a).aH.length=a.2.2.2.2.length:=List.length_map _;rw[e];rfl
 rw[hag];refine Or.inl (eI _ (aI (fun _=>Pv a.1 a.2.2.2.2.length hp) ?_));refine Or.inl (eI _ (aI (fun _=>PD a.1 (gy a.1 a.2.2.2.2.length)) ?_));refine Or.inl (eI _ (aI (fun _=>LD a.1 a.2.1) ?_));refine aI (by kernel_rfl) ?_
 have qc:∀{b:Bool},(bif (bif ((a.2.2.2.2.length:Int)==0)then true else(dw a.1 (gy a.1 a.2.2.2.2.length) !=(a.2.2.2.2.length:Int)))then true else !(iZ a.1 a.2.1))=b→(decide (0<dw a.1 (gy a.1 a.2.2.2.2.length))&&(a.2.2.2.2.length:Int)==dw a.1 (gy a.1 a.2.2.2.2.length)&&iZ a.1 a.2.1)= !b:=fun {b} h=>by
  generalize dw a.1 (gy a.1 a.2.2.2.2.length)=p at*;subst h;cases iZ a.1 a.2.1
  ·simp
  ·by_cases h0:(a.2.2.2.2.length:Int)=0
   ·rw[h0]
    by_cases hp0:p=0
    ·subst hp0;rfl
    ·simp;omega
   ·rw[show((a.2.2.2.2.length:Int)==0)=false by simpa using h0]
    by_cases hpe:p=(a.2.2.2.2.length:Int)
    ·subst hpe;simp;omega
    ·simp only[cond_false];rw[show(p !=(a.2.2.2.2.length:Int))=true by simpa using hpe,show((a.2.2.2.2.length:Int)==p)=false by simp;omega];simp
 refine aI (fun q1=> ?_) (fun q1=> ?_)
 ·refine Eq.trans (Eq.refl _) ?_;rw[qc q1];rfl
 have hq:=qc q1;rw[hq];refine aI (by kernel_rfl) ?_;refine Or.inl (eI _ (aI (Pk _) ?_));have cfin:∀{t u:Bool},(t&&u)=kF a.1 a.2.2.1 a.2.2.2.1→(bif t then u else false)=(!false&&kF a.1 a.2.2.1 a.2.2.2.1):=fun {t u} h=>by rw[←h];cases t<;>rfl
 unfold kF at cfin;refine aI (fun k1=> ?_) (fun k1=> ?_)
 ·refine Or.inl (eI _ (aI (K8 _) ?_));refine Eq.trans (Eq.refl _) ?_;refine cfin ?_;rw[show(a.1==6)=true from k1,Bool.and_comm];rfl
 refine aI (fun k2=> ?_) (fun k2=> ?_)
 ·refine Or.inl (eI _ (aI (NP _) ?_));refine Eq.trans (Eq.refl _) ?_;refine cfin ?_;rw[show(a.1==6)=false from k1,show(a.1==7)=true from k2,Bool.and_comm];rfl
 refine aI (fun k3=> ?_) (fun k3=> ?_)
 ·refine Or.inl (eI _ (aI (NP _) ?_));refine aI (fun g=> ?_) ?_
  ·have g2:(bif jK a.2.2.1 then((a.2.2.2.1.length:Int)==1)else false)=true:=g;cases ho:jK a.2.2.1 with
   |false=>rw[ho]at g2;cases g2
   |true=>
    rw[ho]at g2;have hl2:(a.2.2.2.1.length:Int)=1:=by simpa using g2
    show(0:Int)≤0∧(0:Int)<(a.2.2.2.1.length:Nat);omega
  refine Or.inl (eI _ (aI (fun _=>K8 _) ?_));refine Eq.trans (Eq.refl _) ?_;unfold kF;rw[show(a.1==6)=false from k1,show(a.1==7)=false from k2,show(a.1==8)=true from k3];show(bif (bif jK a.2.2.1 then((a.2.2.2.1.length:Int)==1)else false)then qD (gD a.2.2.2.1 0)else false)=(!false&&(((a.2.2.2.1.length:Int)==1)&&jK a.2.2.1&&qD (gD a.2.2.2.1 0)));cases ((a.2.2.2.1.length:Int)==1)<;>cases jK a.2.2.1<;>rfl
 refine aI (fun k4=> ?_) (fun k4=> ?_)
 ·refine Eq.trans (Eq.refl _) ?_;refine cfin ?_;rw[show(a.1==6)=false from k1,show(a.1==7)=false from k2,show(a.1==8)=false from k3,show(a.1==9)=true from k4,Bool.and_comm];show _=(((a.2.2.2.1.length:Int)==0)&&bJ a.2.2.1 0 3)
  congr 1
  unfold bJ;show(bif decide (0≤a.2.2.1)then decide (a.2.2.1<4)else false)=(decide (0≤a.2.2.1)&&decide (a.2.2.1≤3));rw[show decide (a.2.2.1<4)=decide (a.2.2.1≤3) by rw[decide_eq_decide];omega];cases decide (0≤a.2.2.1)<;>rfl
 refine aI (fun k5=> ?_) (fun k5=> ?_)
 ·have k12:(a.1==12)=false:=by
   have:a.1=10:=by simpa using(show(a.1==10)=true from k5)
   rw[this];rfl
  refine Eq.trans (Eq.refl _) ?_;refine cfin ?_;rw[show(a.1==6)=false from k1,show(a.1==7)=false from k2,show(a.1==8)=false from k3,show(a.1==9)=false from k4,k12,show(a.1==10)=true from k5];show((a.2.2.1==0)&&(bif (bif decide (1≤(a.2.2.2.1.length:Int))then decide ((a.2.2.2.1.length:Int)≤4)else false)then !(!jH a.2.2.2.1)else false))=(a.2.2.1==0&&bJ a.2.2.2.1.length 1 4&&jH a.2.2.2.1);unfold bJ;cases (a.2.2.1==0)<;>cases decide (1≤(a.2.2.2.1.length:Int))<;>cases decide ((a.2.2.2.1.length:Int)≤4)<;>cases jH a.2.2.2.1<;>rfl
 refine aI (fun k6=> ?_) (fun k6=> ?_)
 ·have k12:(a.1==12)=false:=by
   have:a.1=11:=by simpa using(show(a.1==11)=true from k6)
   rw[this];rfl
  refine Eq.trans (Eq.refl _) ?_;refine cfin ?_;rw[show(a.1==6)=false from k1,show(a.1==7)=false from k2,show(a.1==8)=false from k3,show(a.1==9)=false from k4,k12,show(a.1==10)=false from k5,show(a.1==11)=true from k6];show((a.2.2.1==0)&&(bif ((a.2.2.2.1.length:Int)==2)then !(!jH a.2.2.2.1)else false))=(a.2.2.1==0&&((a.2.2.2.1.length:Int)==2)&&jH a.2.2.2.1);cases (a.2.2.1==0)<;>cases ((a.2.2.2.1.length:Int)==2)<;>cases jH a.2.2.2.1<;>rfl
 refine aI (fun k7=> ?_) (fun k7=> ?_)
 ·refine Or.inl (eI _ (aI (Nv _) ?_));refine Eq.trans (Eq.refl _) ?_;refine cfin ?_;rw[show(a.1==6)=false from k1,show(a.1==7)=false from k2,show(a.1==8)=false from k3,show(a.1==9)=false from k4,show(a.1==12)=true from k7,Bool.and_comm];rfl
 ·refine Eq.trans (Eq.refl _) ?_;refine cfin ?_;rw[show(a.1==6)=false from k1,show(a.1==7)=false from k2,show(a.1==8)=false from k3,show(a.1==9)=false from k4,show(a.1==12)=false from k7,show(a.1==10)=false from k5,show(a.1==11)=false from k6];rfl
theorem xS(x:ak){bs us}(w:World)(h:TN w x.enc bs us):Calls Tryz.prog 126 #[.agg us.toArray] w fun e w'=>e=.returned (.bool (dz x))∧Ext w w':=by
 have hp:(nA x).2.2.2.2.length≤9223372036854775807:=by
  obtain⟨_,_,_,A4,c4,b4,rfl,_,_,_,_,t4,n1,n2⟩:=ak.us (x:=x) h;have e:(nA x).2.2.2.2.length=x.aH.length:=List.length_map _;unfold maxLen at n2;omega
 have q:=aF.JK (u:=aL) (x:=nA x) (Ow (nA x) hp) (fun _ _ _ h=>Hf h) (w:=w) (bs:=bs) (us:=us) (by rw[Ip];exact h);rw[H7]at q;exact q
theorem yx(x:ak)(b o:Nat)(bs:List Nat)(w:World)(h:iD w b o x.enc bs):Calls Tryz.prog 135 #[.pointer (some ⟨b,o,none⟩)] w fun e w'=>e=.returned (.int .i64 (fieldsOf x))∧Ext w w':=by
 refine cO fun e=> ?_
 obtain⟨A3,c3,b3,A4,c4,b4,h0,h1,h2,h3,h4,t3,t4⟩:=ak.pt h
 go_enter Tryz.func135,Tryz.ntmps135
 have hn4:=t4.Jy;cases d1:(x.kind==9)
 case false=>
  have E:Hid (fieldsOf x=0):=by show _=_;simp at d1;simp[fieldsOf,gy,d1]
  go_wp2_with fail
  repeat (refine aO _ (by kernel_rfl) (by kernel_rfl) ?_;(repeat (go_big_quiet_step (fail)));refine wpQuiet_nil ?_;intro e;go_wp2_with fail)
  go_ret;exact⟨by rw[E.out];rfl,_,rfl⟩
 have E:Hid (fieldsOf x=(x.aH.length:Int)-1):=by show _=_;simp at d1;simp[fieldsOf,gy,d1]
 go_wp2_with fail
 repeat (refine aO _ (by kernel_rfl) (by kernel_rfl) ?_;(repeat (go_big_quiet_step (fail)));refine wpQuiet_nil ?_;intro e;go_wp2_with fail)
 go_ret;exact⟨by rw[E.out];rfl,_,rfl⟩
theorem uU(k f:Int)(w:World):Calls Tryz.prog 134 #[.int .i64 k,.int .i64 f] w fun e w'=>e=.returned (.int .i64 (dw k f))∧Ext w w':=by
 refine cO fun e=> ?_
 have C1:Hid (QC Tryz.prog w _ _ _):=fun W hW=>(pO f 0 3 W).q
 cases d1:bJ f 0 3
 case true=>
  have hf:=EU d1
  go_enter Tryz.func134,Tryz.ntmps134
  go_wp2_with (first|(go_at_call 31;with_reducible refine(C1.out.at_ _).mono ?_;rintro _ _ ⟨rfl,e,rfl⟩))
  repeat (refine aO _ (by kernel_rfl) (by kernel_rfl) ?_;(repeat (go_big_quiet_step ((first|with_reducible exact C1.out.at_ _))));refine wpQuiet_nil ?_;intro e;go_wp2_with (first|(go_at_call 31;with_reducible refine(C1.out.at_ _).mono ?_;rintro _ _ ⟨rfl,e,rfl⟩)))
  all_goals go_ret
  all_goals refine⟨?_,_,rfl⟩
  all_goals first|(simp[dw, *];done)|(simp[dw, *];omega)|(simp_all [dw];done)|(simp_all [dw];omega)
 go_enter Tryz.func134,Tryz.ntmps134
 go_wp2_with (first|(go_at_call 31;with_reducible refine(C1.out.at_ _).mono ?_;rintro _ _ ⟨rfl,e,rfl⟩))
 repeat (refine aO _ (by kernel_rfl) (by kernel_rfl) ?_;(repeat (go_big_quiet_step ((first|with_reducible exact C1.out.at_ _))));refine wpQuiet_nil ?_;intro e;go_wp2_with (first|(go_at_call 31;with_reducible refine(C1.out.at_ _).mono ?_;rintro _ _ ⟨rfl,e,rfl⟩)))
 all_goals go_ret
 all_goals refine⟨?_,_,rfl⟩
 all_goals first|(simp[dw, *];done)|(simp[dw, *];omega)|(simp_all [dw];done)|(simp_all [dw];omega)
theorem Av(x:ak)(b o:Nat)(bs:List Nat)(w:World)(h:iD w b o x.enc bs):Calls Tryz.prog 115 #[.pointer (some ⟨b,o,none⟩)] w fun e w'=>e=.returned (.bool (dz x))∧Ext w w':=by
 refine cO fun e=> ?_
 obtain⟨A3,c3,b3,A4,c4,b4,h0,h1,h2,h3,h4,t3,t4⟩:=ak.pt h;have hn4:=t4.Jy;have C1:Hid (QC Tryz.prog w _ _ _):=fun W hW=>yx x b o _ W (h.ext hW)
 have C2:Hid (QC Tryz.prog w _ _ _):=fun W hW=>wL x b o _ W (h.ext hW)
 have C3:Hid (QC Tryz.prog w _ _ _):=fun W hW=>uU x.kind (fieldsOf x) W
 have C4:Hid (QC Tryz.prog w _ _ _):=fun W hW=>(Au x.kind x.level W).q
 go_enter Tryz.func115,Tryz.ntmps115
 cases d1:decide (0<dw x.kind (fieldsOf x))
 case false=>
  (try rw[d1]at C1);(try rw[d1]at C2);(try rw[d1]at C3);(try rw[d1]at C4)
  have E:Hid (dz x=false):=by show _=_;first|(simp only[dz,d1];done)|(simp only[dz,d1];rfl)|(simp[dz,d1];done)|((try simp at d1);simp[dz,d1];done)
  go_wp2_with (first|(go_at_call 135;with_reducible refine(C1.out.at_ _).mono ?_;rintro _ _ ⟨rfl,e,rfl⟩)|(go_at_call 137;with_reducible refine(C2.out.at_ _).mono ?_;rintro _ _ ⟨rfl,e,rfl⟩)|(go_at_call 134;with_reducible refine(C3.out.at_ _).mono ?_;rintro _ _ ⟨rfl,e,rfl⟩)|(go_at_call 136;with_reducible refine(C4.out.at_ _).mono ?_;rintro _ _ ⟨rfl,e,rfl⟩))
  repeat (refine aO _ (by kernel_rfl) (by kernel_rfl) ?_;(repeat (go_big_quiet_step ((first|with_reducible exact C1.out.at_ _|with_reducible exact C2.out.at_ _|with_reducible exact C3.out.at_ _|with_reducible exact C4.out.at_ _))));refine wpQuiet_nil ?_;intro e;go_wp2_with (first|(go_at_call 135;with_reducible refine(C1.out.at_ _).mono ?_;rintro _ _ ⟨rfl,e,rfl⟩)|(go_at_call 137;with_reducible refine(C2.out.at_ _).mono ?_;rintro _ _ ⟨rfl,e,rfl⟩)|(go_at_call 134;with_reducible refine(C3.out.at_ _).mono ?_;rintro _ _ ⟨rfl,e,rfl⟩)|(go_at_call 136;with_reducible refine(C4.out.at_ _).mono ?_;rintro _ _ ⟨rfl,e,rfl⟩)))
  go_ret;exact⟨by rw[E.out];rfl,_,rfl⟩
 (try rw[d1]at C1);(try rw[d1]at C2);(try rw[d1]at C3);(try rw[d1]at C4)
 cases d2:((x.aH.length:Int)==dw x.kind (fieldsOf x))
 case false=>
  (try rw[d2]at C1);(try rw[d2]at C2);(try rw[d2]at C3);(try rw[d2]at C4)
  have E:Hid (dz x=false):=by show _=_;first|(simp only[dz,d1,d2];done)|(simp only[dz,d1,d2];rfl)|(simp[dz,d1,d2];done)|((try simp at d1);(try simp at d2);simp[dz,d1,d2];done)
  go_wp2_with (first|(go_at_call 135;with_reducible refine(C1.out.at_ _).mono ?_;rintro _ _ ⟨rfl,e,rfl⟩)|(go_at_call 137;with_reducible refine(C2.out.at_ _).mono ?_;rintro _ _ ⟨rfl,e,rfl⟩)|(go_at_call 134;with_reducible refine(C3.out.at_ _).mono ?_;rintro _ _ ⟨rfl,e,rfl⟩)|(go_at_call 136;with_reducible refine(C4.out.at_ _).mono ?_;rintro _ _ ⟨rfl,e,rfl⟩))
  repeat (refine aO _ (by kernel_rfl) (by kernel_rfl) ?_;(repeat (go_big_quiet_step ((first|with_reducible exact C1.out.at_ _|with_reducible exact C2.out.at_ _|with_reducible exact C3.out.at_ _|with_reducible exact C4.out.at_ _))));refine wpQuiet_nil ?_;intro e;go_wp2_with (first|(go_at_call 135;with_reducible refine(C1.out.at_ _).mono ?_;rintro _ _ ⟨rfl,e,rfl⟩)|(go_at_call 137;with_reducible refine(C2.out.at_ _).mono ?_;rintro _ _ ⟨rfl,e,rfl⟩)|(go_at_call 134;with_reducible refine(C3.out.at_ _).mono ?_;rintro _ _ ⟨rfl,e,rfl⟩)|(go_at_call 136;with_reducible refine(C4.out.at_ _).mono ?_;rintro _ _ ⟨rfl,e,rfl⟩)))
  go_ret;exact⟨by rw[E.out];rfl,_,rfl⟩
 (try rw[d2]at C1);(try rw[d2]at C2);(try rw[d2]at C3);(try rw[d2]at C4)
 cases d3:iZ x.kind x.level
 case false=>
  (try rw[d3]at C1);(try rw[d3]at C2);(try rw[d3]at C3);(try rw[d3]at C4)
  have E:Hid (dz x=false):=by show _=_;first|(simp only[dz,d1,d2,d3];done)|(simp only[dz,d1,d2,d3];rfl)|(simp[dz,d1,d2,d3];done)|((try simp at d1);(try simp at d2);(try simp at d3);simp[dz,d1,d2,d3];done)
  go_wp2_with (first|(go_at_call 135;with_reducible refine(C1.out.at_ _).mono ?_;rintro _ _ ⟨rfl,e,rfl⟩)|(go_at_call 137;with_reducible refine(C2.out.at_ _).mono ?_;rintro _ _ ⟨rfl,e,rfl⟩)|(go_at_call 134;with_reducible refine(C3.out.at_ _).mono ?_;rintro _ _ ⟨rfl,e,rfl⟩)|(go_at_call 136;with_reducible refine(C4.out.at_ _).mono ?_;rintro _ _ ⟨rfl,e,rfl⟩))
  repeat (refine aO _ (by kernel_rfl) (by kernel_rfl) ?_;(repeat (go_big_quiet_step ((first|with_reducible exact C1.out.at_ _|with_reducible exact C2.out.at_ _|with_reducible exact C3.out.at_ _|with_reducible exact C4.out.at_ _))));refine wpQuiet_nil ?_;intro e;go_wp2_with (first|(go_at_call 135;with_reducible refine(C1.out.at_ _).mono ?_;rintro _ _ ⟨rfl,e,rfl⟩)|(go_at_call 137;with_reducible refine(C2.out.at_ _).mono ?_;rintro _ _ ⟨rfl,e,rfl⟩)|(go_at_call 134;with_reducible refine(C3.out.at_ _).mono ?_;rintro _ _ ⟨rfl,e,rfl⟩)|(go_at_call 136;with_reducible refine(C4.out.at_ _).mono ?_;rintro _ _ ⟨rfl,e,rfl⟩)))
  go_ret;exact⟨by rw[E.out];rfl,_,rfl⟩
 (try rw[d3]at C1);(try rw[d3]at C2);(try rw[d3]at C3);(try rw[d3]at C4)
 have E:Hid (dz x=mo x):=by show _=_;first|(simp only[dz,d1,d2,d3];done)|(simp only[dz,d1,d2,d3];rfl)|(simp[dz,d1,d2,d3];done)|((try simp at d1);(try simp at d2);(try simp at d3);simp[dz,d1,d2,d3];done)
 go_wp2_with (first|(go_at_call 135;with_reducible refine(C1.out.at_ _).mono ?_;rintro _ _ ⟨rfl,e,rfl⟩)|(go_at_call 137;with_reducible refine(C2.out.at_ _).mono ?_;rintro _ _ ⟨rfl,e,rfl⟩)|(go_at_call 134;with_reducible refine(C3.out.at_ _).mono ?_;rintro _ _ ⟨rfl,e,rfl⟩)|(go_at_call 136;with_reducible refine(C4.out.at_ _).mono ?_;rintro _ _ ⟨rfl,e,rfl⟩))
 repeat (refine aO _ (by kernel_rfl) (by kernel_rfl) ?_;(repeat (go_big_quiet_step ((first|with_reducible exact C1.out.at_ _|with_reducible exact C2.out.at_ _|with_reducible exact C3.out.at_ _|with_reducible exact C4.out.at_ _))));refine wpQuiet_nil ?_;intro e;go_wp2_with (first|(go_at_call 135;with_reducible refine(C1.out.at_ _).mono ?_;rintro _ _ ⟨rfl,e,rfl⟩)|(go_at_call 137;with_reducible refine(C2.out.at_ _).mono ?_;rintro _ _ ⟨rfl,e,rfl⟩)|(go_at_call 134;with_reducible refine(C3.out.at_ _).mono ?_;rintro _ _ ⟨rfl,e,rfl⟩)|(go_at_call 136;with_reducible refine(C4.out.at_ _).mono ?_;rintro _ _ ⟨rfl,e,rfl⟩)))
 go_ret;exact⟨by rw[E.out];rfl,_,rfl⟩
end Go.Proofs.YtgiceoidjipgmaaGreat
