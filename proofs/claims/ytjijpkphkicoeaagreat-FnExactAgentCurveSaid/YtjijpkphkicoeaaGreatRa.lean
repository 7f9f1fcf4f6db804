
/- The program's functions on agents: what makes them valid. Printed by gen_neti.py. -/
import Derived.Test.YtjijpkphkicoeaaGreatShort
import Derived.Test.YtjijpkphkicoeaaGreatProg
import Derived.Test.YtjijpkphkicoeaaGreatAgents
import Derived.Test.YtjijpkphkicoeaaGreatValid
import Derived.Test.YtjijpkphkicoeaaGreatQDbg
import Derived.Test.YtjijpkphkicoeaaGreatSc
import Derived.BigGuardPart
import Derived.Outline
import Derived.Deep.CutBlock
import Derived.Test.YtjijpkphkicoeaaGreatVti
import Derived.Test.YtjijpkphkicoeaaGreatVV
import Derived.Test.YtjijpkphkicoeaaGreatNz
import Derived.Test.YtjijpkphkicoeaaGreatIo
import Derived.StillTailTactics
import Derived.BigRegion
set_option maxHeartbeats 4000000
set_option maxRecDepth 100000
set_option linter.unusedSimpArgs false
set_option linter.unusedVariables false
namespace Go.Proofs.YtjijpkphkicoeaaGreat
open Go Go.RowKit Go.Proofs Go.Tr
theorem rF(n:Int)(w:World):Calls Tryz.prog 204 #[.int .i64 n] w fun e w'=>e=.returned (.bool (iF n))∧Ext w w':=by
 refine quiet_start fun e=> ?_
 go_enter Tryz.func204,Tryz.ntmps204
 go_wp2
 all_goals go_ret
 all_goals refine⟨?_,_,rfl⟩
 all_goals first|(simp[iF,inB, *];done)|(simp[iF,inB, *];omega)|(simp_all [iF,inB];done)|(simp_all [iF,inB];omega)
theorem Kr(n:Int)(w:World):Calls Tryz.prog 205 #[.int .i64 n] w fun e w'=>e=.returned (.bool (nJ n))∧Ext w w':=by
 refine quiet_start fun e=> ?_
 go_enter Tryz.func205,Tryz.ntmps205
 go_wp2
 all_goals go_ret
 all_goals refine⟨?_,_,rfl⟩
 all_goals first|(simp[nJ,inB, *];done)|(simp[nJ,inB, *];omega)|(simp_all [nJ,inB];done)|(simp_all [nJ,inB];omega)
theorem zi(n:Int)(w:World):Calls Tryz.prog 206 #[.int .i64 n] w fun e w'=>e=.returned (.bool (iB n))∧Ext w w':=by
 refine quiet_start fun e=> ?_
 go_enter Tryz.func206,Tryz.ntmps206
 go_wp2
 all_goals go_ret
 all_goals refine⟨?_,_,rfl⟩
 all_goals first|(simp[iB,inB, *];done)|(simp[iB,inB, *];omega)|(simp_all [iB,inB];done)|(simp_all [iB,inB];omega)
theorem yh(k f:Int)(w:World):Calls Tryz.prog 201 #[.int .i64 k,.int .i64 f] w fun e w'=>e=.returned (.int .i64 (bC k f))∧Ext w w':=by
 refine quiet_start fun e=> ?_
 have C1:Hid (QC Tryz.prog w _ _ _):=fun W hW=>(GL k W).q
 cases hk:iM k
 case false=>
  rw[hk]at C1;have hn:=Mh hk;have h9:(k==9)=false:=by simp;omega
  go_enter Tryz.func201,Tryz.ntmps201
  go_wp2_with (first|(go_at_call 187;with_reducible refine(C1.out.at_ _).mono ?_;rintro _ _ ⟨rfl,e,rfl⟩))
  repeat (refine ah _ (by kernel_rfl) (by kernel_rfl) ?_;(repeat (go_big_quiet_step ((first|with_reducible exact C1.out.at_ _))));refine wpQuiet_nil ?_;intro e;go_wp2_with (first|(go_at_call 187;with_reducible refine(C1.out.at_ _).mono ?_;rintro _ _ ⟨rfl,e,rfl⟩)))
  all_goals go_ret
  all_goals refine⟨?_,_,rfl⟩
  all_goals simp[bC]
  all_goals (repeat rw[if_neg (by omega)])
  all_goals (try split)
  all_goals (try rfl)
  all_goals (try omega)
 rw[hk]at C1;have ix1:∀W:World,(Instr.index 209 (.agg #[.int .i64 0,.int .i64 1,.int .i64 3,.int .i64 3,.int .i64 3,.int .i64 1,.int .i64 1,.int .i64 3,.int .i64 2,.int .i64 0,.int .i64 2,.int .i64 2,.int .i64 1]) (.int .i64 1)).run Tryz.prog W=.ok (.int .i64 1) W:=fun _=>by kernel_rfl
 have ix2:∀W:World,(Instr.index 209 (.agg #[.int .i64 0,.int .i64 1,.int .i64 3,.int .i64 3,.int .i64 3,.int .i64 1,.int .i64 1,.int .i64 3,.int .i64 2,.int .i64 0,.int .i64 2,.int .i64 2,.int .i64 1]) (.int .i64 2)).run Tryz.prog W=.ok (.int .i64 3) W:=fun _=>by kernel_rfl
 have ix3:∀W:World,(Instr.index 209 (.agg #[.int .i64 0,.int .i64 1,.int .i64 3,.int .i64 3,.int .i64 3,.int .i64 1,.int .i64 1,.int .i64 3,.int .i64 2,.int .i64 0,.int .i64 2,.int .i64 2,.int .i64 1]) (.int .i64 3)).run Tryz.prog W=.ok (.int .i64 3) W:=fun _=>by kernel_rfl
 have ix4:∀W:World,(Instr.index 209 (.agg #[.int .i64 0,.int .i64 1,.int .i64 3,.int .i64 3,.int .i64 3,.int .i64 1,.int .i64 1,.int .i64 3,.int .i64 2,.int .i64 0,.int .i64 2,.int .i64 2,.int .i64 1]) (.int .i64 4)).run Tryz.prog W=.ok (.int .i64 3) W:=fun _=>by kernel_rfl
 have ix5:∀W:World,(Instr.index 209 (.agg #[.int .i64 0,.int .i64 1,.int .i64 3,.int .i64 3,.int .i64 3,.int .i64 1,.int .i64 1,.int .i64 3,.int .i64 2,.int .i64 0,.int .i64 2,.int .i64 2,.int .i64 1]) (.int .i64 5)).run Tryz.prog W=.ok (.int .i64 1) W:=fun _=>by kernel_rfl
 have ix6:∀W:World,(Instr.index 209 (.agg #[.int .i64 0,.int .i64 1,.int .i64 3,.int .i64 3,.int .i64 3,.int .i64 1,.int .i64 1,.int .i64 3,.int .i64 2,.int .i64 0,.int .i64 2,.int .i64 2,.int .i64 1]) (.int .i64 6)).run Tryz.prog W=.ok (.int .i64 1) W:=fun _=>by kernel_rfl
 have ix7:∀W:World,(Instr.index 209 (.agg #[.int .i64 0,.int .i64 1,.int .i64 3,.int .i64 3,.int .i64 3,.int .i64 1,.int .i64 1,.int .i64 3,.int .i64 2,.int .i64 0,.int .i64 2,.int .i64 2,.int .i64 1]) (.int .i64 7)).run Tryz.prog W=.ok (.int .i64 3) W:=fun _=>by kernel_rfl
 have ix8:∀W:World,(Instr.index 209 (.agg #[.int .i64 0,.int .i64 1,.int .i64 3,.int .i64 3,.int .i64 3,.int .i64 1,.int .i64 1,.int .i64 3,.int .i64 2,.int .i64 0,.int .i64 2,.int .i64 2,.int .i64 1]) (.int .i64 8)).run Tryz.prog W=.ok (.int .i64 2) W:=fun _=>by kernel_rfl
 have ix9:∀W:World,(Instr.index 209 (.agg #[.int .i64 0,.int .i64 1,.int .i64 3,.int .i64 3,.int .i64 3,.int .i64 1,.int .i64 1,.int .i64 3,.int .i64 2,.int .i64 0,.int .i64 2,.int .i64 2,.int .i64 1]) (.int .i64 9)).run Tryz.prog W=.ok (.int .i64 0) W:=fun _=>by kernel_rfl
 have ix10:∀W:World,(Instr.index 209 (.agg #[.int .i64 0,.int .i64 1,.int .i64 3,.int .i64 3,.int .i64 3,.int .i64 1,.int .i64 1,.int .i64 3,.int .i64 2,.int .i64 0,.int .i64 2,.int .i64 2,.int .i64 1]) (.int .i64 10)).run Tryz.prog W=.ok (.int .i64 2) W:=fun _=>by kernel_rfl
 have ix11:∀W:World,(Instr.index 209 (.agg #[.int .i64 0,.int .i64 1,.int .i64 3,.int .i64 3,.int .i64 3,.int .i64 1,.int .i64 1,.int .i64 3,.int .i64 2,.int .i64 0,.int .i64 2,.int .i64 2,.int .i64 1]) (.int .i64 11)).run Tryz.prog W=.ok (.int .i64 2) W:=fun _=>by kernel_rfl
 have ix12:∀W:World,(Instr.index 209 (.agg #[.int .i64 0,.int .i64 1,.int .i64 3,.int .i64 3,.int .i64 3,.int .i64 1,.int .i64 1,.int .i64 3,.int .i64 2,.int .i64 0,.int .i64 2,.int .i64 2,.int .i64 1]) (.int .i64 12)).run Tryz.prog W=.ok (.int .i64 1) W:=fun _=>by kernel_rfl
 rcases zm hk with rfl|rfl|rfl|rfl|rfl|rfl|rfl|rfl|rfl|rfl|rfl|rfl
 all_goals clear hk
 all_goals
  go_enter Tryz.func201,Tryz.ntmps201
  go_wp2_with (first|(go_at_call 187;with_reducible refine(C1.out.at_ _).mono ?_;rintro _ _ ⟨rfl,e,rfl⟩))
  repeat (refine ah _ (by kernel_rfl) (by kernel_rfl) ?_;(repeat (go_big_quiet_step ((first|with_reducible exact C1.out.at_ _))));refine wpQuiet_nil ?_;intro e;go_wp2_with (first|(go_at_call 187;with_reducible refine(C1.out.at_ _).mono ?_;rintro _ _ ⟨rfl,e,rfl⟩)))
  all_goals go_ret
  all_goals refine⟨?_,_,rfl⟩
  all_goals first|(simp[bC,inB, *];done)|(simp[bC,inB, *];omega)|(simp_all [bC,inB];done)|(simp_all [bC,inB];omega)
theorem C8(k p:Int)(w:World)(h1:0≤p)(h2:p≤9223372036854775807):Calls Tryz.prog 202 #[.int .i64 k,.int .i64 p] w fun e w'=>e=.returned (.int .i64 (cB k p))∧Ext w w':=by
 refine quiet_start fun e=> ?_
 go_enter Tryz.func202,Tryz.ntmps202
 cases d1:(k==9)
 case true=>
  have E:Hid (cB k p=p-1):=by show _=_;simp[cB,d1]
  go_wp2_with fail
  repeat (refine ah _ (by kernel_rfl) (by kernel_rfl) ?_;(repeat (go_big_quiet_step (fail)));refine wpQuiet_nil ?_;intro e;go_wp2_with fail)
  go_ret;exact⟨by rw[E.out];rfl,_,rfl⟩
 have E:Hid (cB k p=0):=by show _=_;simp[cB,d1]
 go_wp2_with fail
 repeat (refine ah _ (by kernel_rfl) (by kernel_rfl) ?_;(repeat (go_big_quiet_step (fail)));refine wpQuiet_nil ?_;intro e;go_wp2_with fail)
 go_ret;exact⟨by rw[E.out];rfl,_,rfl⟩
theorem yx(d:Int)(w:World):Calls Tryz.prog 203 #[.int .i64 d] w fun e w'=>e=.returned (.bool (!iF d))∧Ext w w':=by
 refine quiet_start fun e=> ?_
 have C1:Hid (QC Tryz.prog w _ _ _):=fun W hW=>rF d W
 go_enter Tryz.func203,Tryz.ntmps203
 go_wp2_with (first|(go_at_call 204;with_reducible refine(C1.out.at_ _).mono ?_;rintro _ _ ⟨rfl,e,rfl⟩))
 repeat (refine ah _ (by kernel_rfl) (by kernel_rfl) ?_;(repeat (go_big_quiet_step ((first|with_reducible exact C1.out.at_ _))));refine wpQuiet_nil ?_;intro e;go_wp2_with (first|(go_at_call 204;with_reducible refine(C1.out.at_ _).mono ?_;rintro _ _ ⟨rfl,e,rfl⟩)))
 go_ret;exact⟨rfl,_,rfl⟩
theorem AP(xs:List Int)(n:Nat){A:Option Addr}{c:Nat}{bs:List Nat}(w:World)(hx:T1 w (.sl n (xs.flatMap intE)) bs (.slice A n c))(Hl:Hid (xs.length=n)):Calls Tryz.prog 185 #[.slice A n c,.func (.func 203) #[] #[]] w fun e w'=>e=.returned (.int .i64 (idxOf n (fun k=> !iF (bO xs k))))∧Ext w w':=by
 refine quiet_start fun e=> ?_
 have hn:=hx.nle
 go_enter Tryz.func185,Tryz.ntmps185
 go_wp2_with fail
 repeat (refine ah _ (by kernel_rfl) (by kernel_rfl) ?_;(repeat (go_big_quiet_step (fail)));refine wpQuiet_nil ?_;intro e;go_wp2_with fail)
 go_loopw [5,8] (fun _ i w'=>∃k:Nat,k≤n∧i=.int .i64 k∧Hid (bR k (fun k=> !!iF (bO xs k))=true)∧∃e:ExtOf w,w'=e.to) (fun _ i _=>n-(intOf i).toNat)
 case atStart=>exact⟨0,Nat.zero_le _,rfl,kP _,_,rfl⟩
 case round=>
  obtain⟨k,hk,rfl,hf,e,rfl⟩:=hrel
  by_cases hlt:k<n
  ·skip
   obtain⟨b,off,x,bs',rfl,hxk,hp⟩:=T1.elem (s:=1) (fun _=>rfl) hx Hl hlt;have kx:=Dr hp;rw[Nat.mul_one]at kx;have EP:Hid ((!iF (bO xs k))= !iF x):=by show _=_;rw[zh hxk]
   have C1:Hid (QC Tryz.prog w _ _ _):=fun W hW=>yx x W
   cases d1:(!iF x)
   case true=>
    (try rw[d1]at C1)
    have E:Hid (idxOf n (fun k=> !iF (bO xs k))=(k:Int)):=by show _=_;exact vL hf hlt (by rw[EP.out];exact d1)
    go_wp2_with (first|(go_at_call 203;with_reducible refine(C1.out.at_ _).mono ?_;rintro _ _ ⟨rfl,e,rfl⟩))
    repeat (refine ah _ (by kernel_rfl) (by kernel_rfl) ?_;(repeat (go_big_quiet_step ((first|with_reducible exact C1.out.at_ _))));refine wpQuiet_nil ?_;intro e;go_wp2_with (first|(go_at_call 203;with_reducible refine(C1.out.at_ _).mono ?_;rintro _ _ ⟨rfl,e,rfl⟩)))
    go_ret;exact⟨by rw[E.out];rfl,_,rfl⟩
   (try rw[d1]at C1)
   have E:Hid ((!!iF (bO xs k))=true):=by show _=_;rw[EP.out,d1];rfl
   go_wp2_with (first|(go_at_call 203;with_reducible refine(C1.out.at_ _).mono ?_;rintro _ _ ⟨rfl,e,rfl⟩))
   repeat (refine ah _ (by kernel_rfl) (by kernel_rfl) ?_;(repeat (go_big_quiet_step ((first|with_reducible exact C1.out.at_ _))));refine wpQuiet_nil ?_;intro e;go_wp2_with (first|(go_at_call 203;with_reducible refine(C1.out.at_ _).mono ?_;rintro _ _ ⟨rfl,e,rfl⟩)))
   exact⟨⟨k+1,by omega,by go_num,dU hf E.out,_,rfl⟩,by simp[intOf];omega⟩
  ·have:n=k:=by omega
   subst this;have E:Hid (idxOf n (fun k=> !iF (bO xs k))= -1):=by show _=_;exact nI hf
   go_wp2_with fail
   repeat (refine ah _ (by kernel_rfl) (by kernel_rfl) ?_;(repeat (go_big_quiet_step (fail)));refine wpQuiet_nil ?_;intro e;go_wp2_with fail)
   go_ret;exact⟨by rw[E.out];rfl,_,rfl⟩
theorem wQ(xs:List Int)(n:Nat){A:Option Addr}{c:Nat}{bs:List Nat}(w:World)(hx:T1 w (.sl n (xs.flatMap intE)) bs (.slice A n c))(Hl:Hid (xs.length=n)):Calls Tryz.prog 154 #[.slice A n c,.func (.func 203) #[] #[]] w fun e w'=>e=.returned (.bool (lD n (fun k=> !iF (bO xs k))))∧Ext w w':=by
 refine quiet_start fun e=> ?_
 have C1:Hid (QC Tryz.prog w _ _ _):=fun W hW=>AP xs n W (hx.below hW) Hl
 have hc:=vM n (fun k=> !iF (bO xs k))
 go_enter Tryz.func154,Tryz.ntmps154
 go_wp2_with (first|(go_at_call 185;with_reducible refine(C1.out.at_ _).mono ?_;rintro _ _ ⟨rfl,e,rfl⟩))
 repeat (refine ah _ (by kernel_rfl) (by kernel_rfl) ?_;(repeat (go_big_quiet_step ((first|with_reducible exact C1.out.at_ _))));refine wpQuiet_nil ?_;intro e;go_wp2_with (first|(go_at_call 185;with_reducible refine(C1.out.at_ _).mono ?_;rintro _ _ ⟨rfl,e,rfl⟩)))
 go_ret;exact⟨by rw[←hc];rfl,_,rfl⟩
end Go.Proofs.YtjijpkphkicoeaaGreat
namespace Go.Tr
open Go Go.RowKit
def nA(a:GAgent):NAgent:=(a.kind,a.level,a.value,a.data,a.ports.map fun p=>(p.agent,p.slot))
theorem Je(a:GAgent):gA (nA a)=a:=by
 cases a with
 |mk k l v d ps=>
  unfold gA nA;simp only[List.map_map]
  congr 1
  exact(List.map_congr_left fun p _=>rfl).trans (List.map_id ps)
theorem ME(x:GAgent):enc uAgent (nA x)=x.enc:=by rw[←LY,Je]
def lI(k v:Int)(d:List Int):Bool:=
 if k==6 then((d.length:Int)==0)&&nJ v
 else if k==7 then((d.length:Int)==0)&&iB v
 else if k==8 then((d.length:Int)==1)&&iB v&&nJ (bO d 0)
 else if k==9 then((d.length:Int)==0)&&inB v 0 3
 else if k==12 then((d.length:Int)==0)&&iF v
 else if k==10 then v==0&&inB d.length 1 4&&jd d
 else if k==11 then v==0&&((d.length:Int)==2)&&jd d
 else v==0&&((d.length:Int)==0)
theorem IQ(a:NAgent):dL (gA a)=lI a.1 a.2.2.1 a.2.2.2.1:=rfl
end Go.Tr
namespace Go.Proofs.YtjijpkphkicoeaaGreat
open Go Go.RowKit Go.Proofs Go.Tr
theorem QU(n:Int):QCall Tryz.prog 208 [.int .i64 n] (.bool (iF n)):=by
 refine QCall.intro (nt:=5) ti_ok mixed (by kernel_rfl) Tryz.func208 rfl rfl rfl rfl rfl ?_;refine Or.inl (eI _ (aI (Dn n 0 23) ?_));exact rfl
theorem Lx(a:NAgent):QCall Tryz.prog 196 [.rp uAgent a] (.bool (dL (gA a))):=by
 refine QCall.intro (nt:=162) ti_ok mixed (by kernel_rfl) Tryz.func196 rfl rfl rfl rfl rfl ?_;rw[IQ];generalize hk:a.1=k at*;have ek:∀{c:Int} {b:Bool},(a.1==c)=b→(k==c)=b:=fun h=>by rw[←hk];exact h
 refine aI (fun q1=> ?_) (fun q1=> ?_)
 ·refine Or.inl (eI _ (aI (fun _=>Dn a.2.2.1 (-2147483648) 2147483647) ?_));refine Eq.trans (Eq.refl _) ?_;unfold lI;rw[ek q1];show(bif ((a.2.2.2.1.length:Int)==0)then inB a.2.2.1 (-2147483648) 2147483647 else false)=(((a.2.2.2.1.length:Int)==0)&&nJ a.2.2.1);cases ((a.2.2.2.1.length:Int)==0)<;>rfl
 refine aI (fun q2=> ?_) (fun q2=> ?_)
 ·refine Or.inl (eI _ (aI (fun _=>Dn a.2.2.1 1 6) ?_));refine Eq.trans (Eq.refl _) ?_;unfold lI;rw[ek q1,ek q2];show(bif ((a.2.2.2.1.length:Int)==0)then inB a.2.2.1 1 6 else false)=(((a.2.2.2.1.length:Int)==0)&&iB a.2.2.1);cases ((a.2.2.2.1.length:Int)==0)<;>rfl
 refine aI (fun q3=> ?_) (fun q3=> ?_)
 ·refine Or.inl (eI _ (aI (fun _=>Dn a.2.2.1 1 6) ?_));refine aI (fun g=> ?_) ?_
  ·have g2:(bif ((a.2.2.2.1.length:Int)==1)then inB a.2.2.1 1 6 else false)=true:=g;cases hl:((a.2.2.2.1.length:Int)==1)with
   |false=>rw[hl]at g2;cases g2
   |true=>
    have hl2:(a.2.2.2.1.length:Int)=1:=by simpa using hl
    show(0:Int)≤0∧(0:Int)<(a.2.2.2.1.length:Nat);omega
  refine Or.inl (eI _ (aI (fun _=>Dn _ (-2147483648) 2147483647) ?_));refine Eq.trans (Eq.refl _) ?_;unfold lI;rw[ek q1,ek q2,ek q3];show(bif (bif ((a.2.2.2.1.length:Int)==1)then inB a.2.2.1 1 6 else false)then inB (bO a.2.2.2.1 0) (-2147483648) 2147483647 else false)=(((a.2.2.2.1.length:Int)==1)&&iB a.2.2.1&&nJ (bO a.2.2.2.1 0));unfold iB nJ;cases ((a.2.2.2.1.length:Int)==1)<;>cases inB a.2.2.1 1 6<;>rfl
 refine aI (fun q4=> ?_) (fun q4=> ?_)
 ·refine Or.inl (eI _ (aI (fun _=>Dn a.2.2.1 0 3) ?_));refine Eq.trans (Eq.refl _) ?_;unfold lI;rw[ek q1,ek q2,ek q3,ek q4];show(bif ((a.2.2.2.1.length:Int)==0)then inB a.2.2.1 0 3 else false)=(((a.2.2.2.1.length:Int)==0)&&inB a.2.2.1 0 3);cases ((a.2.2.2.1.length:Int)==0)<;>rfl
 refine aI (fun q5=> ?_) (fun q5=> ?_)
 ·refine Or.inl (eI _ (aI (fun _=>QU a.2.2.1) ?_));refine Eq.trans (Eq.refl _) ?_;unfold lI;rw[ek q1,ek q2,ek q3,ek q4,ek q5];show(bif ((a.2.2.2.1.length:Int)==0)then iF a.2.2.1 else false)=(((a.2.2.2.1.length:Int)==0)&&iF a.2.2.1);cases ((a.2.2.2.1.length:Int)==0)<;>rfl
 refine aI (fun q6=> ?_) (fun q6=> ?_)
 ·refine aI (fun _=> ?_) (fun p=>absurd (q6.symm.trans p) (by decide));refine Or.inl (eI _ (aI (fun _=>Dn a.2.2.2.1.length 1 4) ?_))
  have q7:(k==11)=false:=by
   have:k=10:=by have:=ek q6;simpa using this
   rw[this];rfl
  have q7':(a.1==11)=false:=by rw[hk];exact q7
  have ec:lI k a.2.2.1 a.2.2.2.1=(a.2.2.1==0&&inB a.2.2.2.1.length 1 4&&jd a.2.2.2.1):=by
   unfold lI;rw[ek q1,ek q2,ek q3,ek q4,ek q5,ek q6];rfl
  have q6':(a.1==10)=true:=q6;refine aI (fun q8=> ?_) (fun q8=> ?_)
  ·refine Eq.trans (Eq.refl _) ?_;rw[ec];have q9:(bif (bif (a.2.2.1 !=0)then true else bif (a.1==11)then((a.2.2.2.1.length:Int) !=2)else false)then true else bif (a.1==10)then !(inB a.2.2.2.1.length 1 4)else false)=true:=q8;rw[q7',q6',show(a.2.2.1 !=0)= !(a.2.2.1==0) from rfl]at q9;revert q9;cases (a.2.2.1==0)<;>cases inB a.2.2.2.1.length 1 4<;>simp
  have et:(true:Bool)=(a.2.2.1==0&&inB a.2.2.2.1.length 1 4):=by
   have q9:(bif (bif (a.2.2.1 !=0)then true else bif (a.1==11)then((a.2.2.2.1.length:Int) !=2)else false)then true else bif (a.1==10)then !(inB a.2.2.2.1.length 1 4)else false)=false:=q8;rw[q7',q6',show(a.2.2.1 !=0)= !(a.2.2.1==0) from rfl]at q9;revert q9;cases (a.2.2.1==0)<;>cases inB a.2.2.2.1.length 1 4<;>simp
  have hlen:a.2.2.2.1.length≤4:=by
   have h1:inB a.2.2.2.1.length 1 4=true:=by
    revert et;cases (a.2.2.1==0)<;>cases inB a.2.2.2.1.length 1 4<;>simp
   have:=inB_t h1;omega
  refine lp Nat (fun i=>[(3,.int .i64 (i:Nat))]) (fun _=>[]) (fun i=>a.2.2.2.1.length-i) (fun i=>i≤a.2.2.2.1.length∧bR i (fun k=>iF (bO a.2.2.2.1 k))=true) 0 ⟨Nat.zero_le _,rfl⟩ ?_ ?_
  ·exact hd [] rfl (aI (aI rfl rfl) trivial) trivial
  rintro i ⟨hi,ha⟩;refine aI (fun p1=> ?_) (fun p1=> ?_)
  ·have hlt:i<a.2.2.2.1.length:=by
    have p2:decide (((i:Nat):Int)<(a.2.2.2.1.length:Nat))=true:=p1;simp only[decide_eq_true_eq]at p2;omega
   refine aI (show 0≤((i:Nat):Int)∧((i:Nat):Int)<(a.2.2.2.1.length:Nat) by omega) ?_;refine Or.inl (eI _ (aI (QU _) ?_));refine aI (fun p2=> ?_) (fun p2=> ?_)
   ·have p3:iF (bO a.2.2.2.1 i)=false:=by
     have p4:(!iF (bO a.2.2.2.1 i))=true:=p2;simpa using p4
    refine Eq.trans (Eq.refl _) ?_;rw[ec,show jd a.2.2.2.1=false from fM hlt p3,Bool.and_false]
   ·have p3:iF (bO a.2.2.2.1 i)=true:=by
     have p4:(!iF (bO a.2.2.2.1 i))=false:=p2;simpa using p4
    refine lp_next (i+1) ⟨hlt,by rw[xO];simp only[ha,p3,Bool.and_true]⟩ ?_ ?_
    ·exact hd [] rfl (aI (aI (wrapS (by omega)) rfl) trivial) trivial
    ·show a.2.2.2.1.length-(i+1)<a.2.2.2.1.length-i;omega
  ·have hge:a.2.2.2.1.length≤i:=by
    have p2:decide (((i:Nat):Int)<(a.2.2.2.1.length:Nat))=false:=p1;simp only[decide_eq_false_iff_not]at p2;omega
   have hie:i=a.2.2.2.1.length:=by omega
   subst hie;refine Eq.trans (Eq.refl _) ?_;rw[ec,show jd a.2.2.2.1=true from ha,Bool.and_true];exact et
 refine aI (fun q7=> ?_) (fun q7=> ?_)
 ·refine Or.inl (eI _ (aI (fun _=>Dn a.2.2.2.1.length 1 4) ?_))
  have ec:lI k a.2.2.1 a.2.2.2.1=(a.2.2.1==0&&((a.2.2.2.1.length:Int)==2)&&jd a.2.2.2.1):=by
   unfold lI;rw[ek q1,ek q2,ek q3,ek q4,ek q5,ek q6,ek q7];rfl
  have q6':(a.1==10)=false:=q6;have q7':(a.1==11)=true:=q7;refine aI (fun q8=> ?_) (fun q8=> ?_)
  ·refine Eq.trans (Eq.refl _) ?_;rw[ec];have q9:(bif (bif (a.2.2.1 !=0)then true else bif (a.1==11)then((a.2.2.2.1.length:Int) !=2)else false)then true else bif (a.1==10)then !(inB a.2.2.2.1.length 1 4)else false)=true:=q8;rw[q7',q6',show(a.2.2.1 !=0)= !(a.2.2.1==0) from rfl,show((a.2.2.2.1.length:Int) !=2)= !((a.2.2.2.1.length:Int)==2) from rfl]at q9;revert q9;cases (a.2.2.1==0)<;>cases ((a.2.2.2.1.length:Int)==2)<;>simp
  have et:(true:Bool)=(a.2.2.1==0&&((a.2.2.2.1.length:Int)==2)):=by
   have q9:(bif (bif (a.2.2.1 !=0)then true else bif (a.1==11)then((a.2.2.2.1.length:Int) !=2)else false)then true else bif (a.1==10)then !(inB a.2.2.2.1.length 1 4)else false)=false:=q8;rw[q7',q6',show(a.2.2.1 !=0)= !(a.2.2.1==0) from rfl,show((a.2.2.2.1.length:Int) !=2)= !((a.2.2.2.1.length:Int)==2) from rfl]at q9;revert q9;cases (a.2.2.1==0)<;>cases ((a.2.2.2.1.length:Int)==2)<;>simp
  have hlen:a.2.2.2.1.length≤4:=by
   have h1:((a.2.2.2.1.length:Int)==2)=true:=by
    revert et;cases (a.2.2.1==0)<;>cases ((a.2.2.2.1.length:Int)==2)<;>simp
   have h2:(a.2.2.2.1.length:Int)=2:=by simpa using h1
   omega
  refine lp Nat (fun i=>[(3,.int .i64 (i:Nat))]) (fun _=>[]) (fun i=>a.2.2.2.1.length-i) (fun i=>i≤a.2.2.2.1.length∧bR i (fun k=>iF (bO a.2.2.2.1 k))=true) 0 ⟨Nat.zero_le _,rfl⟩ ?_ ?_
  ·exact hd [] rfl (aI (aI rfl rfl) trivial) trivial
  rintro i ⟨hi,ha⟩;refine aI (fun p1=> ?_) (fun p1=> ?_)
  ·have hlt:i<a.2.2.2.1.length:=by
    have p2:decide (((i:Nat):Int)<(a.2.2.2.1.length:Nat))=true:=p1;simp only[decide_eq_true_eq]at p2;omega
   refine aI (show 0≤((i:Nat):Int)∧((i:Nat):Int)<(a.2.2.2.1.length:Nat) by omega) ?_;refine Or.inl (eI _ (aI (QU _) ?_));refine aI (fun p2=> ?_) (fun p2=> ?_)
   ·have p3:iF (bO a.2.2.2.1 i)=false:=by
     have p4:(!iF (bO a.2.2.2.1 i))=true:=p2;simpa using p4
    refine Eq.trans (Eq.refl _) ?_;rw[ec,show jd a.2.2.2.1=false from fM hlt p3,Bool.and_false]
   ·have p3:iF (bO a.2.2.2.1 i)=true:=by
     have p4:(!iF (bO a.2.2.2.1 i))=false:=p2;simpa using p4
    refine lp_next (i+1) ⟨hlt,by rw[xO];simp only[ha,p3,Bool.and_true]⟩ ?_ ?_
    ·exact hd [] rfl (aI (aI (wrapS (by omega)) rfl) trivial) trivial
    ·show a.2.2.2.1.length-(i+1)<a.2.2.2.1.length-i;omega
  ·have hge:a.2.2.2.1.length≤i:=by
    have p2:decide (((i:Nat):Int)<(a.2.2.2.1.length:Nat))=false:=p1;simp only[decide_eq_false_iff_not]at p2;omega
   have hie:i=a.2.2.2.1.length:=by omega
   subst hie;refine Eq.trans (Eq.refl _) ?_;rw[ec,show jd a.2.2.2.1=true from ha,Bool.and_true];exact et
 ·refine Eq.trans (Eq.refl _) ?_;unfold lI;rw[ek q1,ek q2,ek q3,ek q4,ek q5,ek q6,ek q7];show(bif (a.2.2.1==0)then((a.2.2.2.1.length:Int)==0)else false)=(a.2.2.1==0&&((a.2.2.2.1.length:Int)==0));cases (a.2.2.1==0)<;>rfl
theorem zq(x:GAgent)(b o:Nat)(bs:List Nat)(w:World)(h:dI w b o x.enc bs):Calls Tryz.prog 196 #[.pointer (some ⟨b,o,none⟩)] w fun e w'=>e=.returned (.bool (dL x))∧Ext w w':=by
 have q:=QCall.Oj (u:=uAgent) (x:=nA x) (Lx (nA x)) (fun _ _ _ h=>LB h) (w:=w) (b:=b) (o:=o) (bs:=bs) (by rw[ME];exact h);rw[Je]at q;exact q
theorem Ux(k f:Int):QCall Tryz.prog 201 [.int .i64 k,.int .i64 f] (.int .i64 (bC k f)):=QCall.Fb (l:=[k,f]) (by kernel_rfl) (yh k f) fun _ _=>den_i _
theorem Qi(n:Int):QCall Tryz.prog 205 [.int .i64 n] (.bool (nJ n)):=QCall.Fb (l:=[n]) (by kernel_rfl) (Kr n) fun _ _=>vv _
theorem Tf(n:Int):QCall Tryz.prog 206 [.int .i64 n] (.bool (iB n)):=QCall.Fb (l:=[n]) (by kernel_rfl) (zi n) fun _ _=>vv _
theorem SF(n:Int):QCall Tryz.prog 204 [.int .i64 n] (.bool (iF n)):=QCall.Fb (l:=[n]) (by kernel_rfl) (rF n) fun _ _=>vv _
theorem Ut(k:Int)(n:Nat)(h:n≤9223372036854775807):QCall Tryz.prog 202 [.int .i64 k,.int .i64 (n:Int)] (.int .i64 (cB k n)):=QCall.Fb (l:=[k,(n:Int)]) (by kernel_rfl) (fun w=>C8 k n w (by omega) (by omega)) fun _ _=>den_i _
theorem Ui(xs:List Int):QCall Tryz.prog 154 [.rsl (.int .i64) xs,.fn 203 []] (.bool (!jd xs)):=by
 refine⟨(by kernel_rfl),fun cx β w fr vs hI hd=> ?_⟩;unfold Dens at hd;obtain⟨v1,vs1,rfl,hd1,hd⟩:=hd;unfold Dens at hd;obtain⟨v2,vs2,rfl,hd2,hd⟩:=hd;unfold Dens at hd;subst hd;unfold Den at hd1 hd2;obtain⟨us,rfl,hd2⟩:=hd2;unfold Dens at hd2;subst hd2;obtain⟨A,c,rfl⟩:=hd1.slice;obtain⟨bs,ht⟩:=hd1.now hI;refine Calls.mono (wQ xs xs.length w (by rw[←enc_ints];exact ht) rfl) ?_;rintro e w' ⟨rfl,hx⟩;refine⟨_,rfl,?_,hI.ext hx⟩;unfold Den;unfold lD jd;simp only[Bool.not_not]
theorem TR(a:NAgent)(hp:a.2.2.2.2.length≤9223372036854775807):QCall Tryz.prog 183 [.agg [.int .i64 a.1,.int .i64 a.2.1,.int .i64 a.2.2.1,.rsl (.int .i64) a.2.2.2.1,.rsl uPort a.2.2.2.2]] (.bool (bL (gA a))):=by
 refine QCall.intro (nt:=117) ti_ok mixed (by kernel_rfl) Tryz.func183 rfl rfl rfl rfl rfl ?_
 have hag:bL (gA a)=(decide (0<bC a.1 (cB a.1 a.2.2.2.2.length))&&(a.2.2.2.2.length:Int)==bC a.1 (cB a.1 a.2.2.2.2.length)&&bf a.1 a.2.1&&lI a.1 a.2.2.1 a.2.2.2.1):=by
  rw[←IQ];unfold bL fieldsOf;have e:(gA a).ports.length=a.2.2.2.2.length:=List.length_map _;rw[e];rfl
 rw[hag];refine Or.inl (eI _ (aI (fun _=>Ut a.1 a.2.2.2.2.length hp) ?_));refine Or.inl (eI _ (aI (fun _=>Ux a.1 (cB a.1 a.2.2.2.2.length)) ?_));refine Or.inl (eI _ (aI (fun _=>CK a.1 a.2.1) ?_));refine aI (by kernel_rfl) ?_
 have qc:∀{b:Bool},(bif (bif ((a.2.2.2.2.length:Int)==0)then true else(bC a.1 (cB a.1 a.2.2.2.2.length) !=(a.2.2.2.2.length:Int)))then true else !(bf a.1 a.2.1))=b→(decide (0<bC a.1 (cB a.1 a.2.2.2.2.length))&&(a.2.2.2.2.length:Int)==bC a.1 (cB a.1 a.2.2.2.2.length)&&bf a.1 a.2.1)= !b:=fun {b} h=>by
  generalize bC a.1 (cB a.1 a.2.2.2.2.length)=p at*;subst h;cases bf a.1 a.2.1
  ·simp
  ·by_cases h0:(a.2.2.2.2.length:Int)=0
   ·rw[h0]
    by_cases hp0:p=0
    ·subst hp0;rfl
    ·simp;omega
   ·rw[show((a.2.2.2.2.length:Int)==0)=false by simpa using h0]
    by_cases hpe:p=(a.2.2.2.2.length:Int)
    ·subst hpe;simp;omega
    ·simp only[cond_false];rw[show(p !=(a.2.2.2.2.length:Int))=true by simpa using hpe,show((a.2.2.2.2.length:Int)==p)=false by simp;omega];simp
 refine aI (fun q1=> ?_) (fun q1=> ?_)
 ·refine Eq.trans (Eq.refl _) ?_;rw[qc q1];rfl
 have hq:=qc q1;rw[hq];refine aI (by kernel_rfl) ?_;refine Or.inl (eI _ (aI (Ui _) ?_));have cfin:∀{t u:Bool},(t&&u)=lI a.1 a.2.2.1 a.2.2.2.1→(bif t then u else false)=(!false&&lI a.1 a.2.2.1 a.2.2.2.1):=fun {t u} h=>by rw[←h];cases t<;>rfl
 unfold lI at cfin;refine aI (fun k1=> ?_) (fun k1=> ?_)
 ·refine Or.inl (eI _ (aI (Qi _) ?_));refine Eq.trans (Eq.refl _) ?_;refine cfin ?_;rw[show(a.1==6)=true from k1,Bool.and_comm];rfl
 refine aI (fun k2=> ?_) (fun k2=> ?_)
 ·refine Or.inl (eI _ (aI (Tf _) ?_));refine Eq.trans (Eq.refl _) ?_;refine cfin ?_;rw[show(a.1==6)=false from k1,show(a.1==7)=true from k2,Bool.and_comm];rfl
 refine aI (fun k3=> ?_) (fun k3=> ?_)
 ·refine Or.inl (eI _ (aI (Tf _) ?_));refine aI (fun g=> ?_) ?_
  ·have g2:(bif iB a.2.2.1 then((a.2.2.2.1.length:Int)==1)else false)=true:=g;cases ho:iB a.2.2.1 with
   |false=>rw[ho]at g2;cases g2
   |true=>
    rw[ho]at g2;have hl2:(a.2.2.2.1.length:Int)=1:=by simpa using g2
    show(0:Int)≤0∧(0:Int)<(a.2.2.2.1.length:Nat);omega
  refine Or.inl (eI _ (aI (fun _=>Qi _) ?_));refine Eq.trans (Eq.refl _) ?_;unfold lI;rw[show(a.1==6)=false from k1,show(a.1==7)=false from k2,show(a.1==8)=true from k3];show(bif (bif iB a.2.2.1 then((a.2.2.2.1.length:Int)==1)else false)then nJ (bO a.2.2.2.1 0)else false)=(!false&&(((a.2.2.2.1.length:Int)==1)&&iB a.2.2.1&&nJ (bO a.2.2.2.1 0)));cases ((a.2.2.2.1.length:Int)==1)<;>cases iB a.2.2.1<;>rfl
 refine aI (fun k4=> ?_) (fun k4=> ?_)
 ·refine Eq.trans (Eq.refl _) ?_;refine cfin ?_;rw[show(a.1==6)=false from k1,show(a.1==7)=false from k2,show(a.1==8)=false from k3,show(a.1==9)=true from k4,Bool.and_comm];show _=(((a.2.2.2.1.length:Int)==0)&&inB a.2.2.1 0 3)
  congr 1
  unfold inB;show(bif decide (0≤a.2.2.1)then decide (a.2.2.1<4)else false)=(decide (0≤a.2.2.1)&&decide (a.2.2.1≤3));rw[show decide (a.2.2.1<4)=decide (a.2.2.1≤3) by rw[decide_eq_decide];omega];cases decide (0≤a.2.2.1)<;>rfl
 refine aI (fun k5=> ?_) (fun k5=> ?_)
 ·have k12:(a.1==12)=false:=by
   have:a.1=10:=by simpa using(show(a.1==10)=true from k5)
   rw[this];rfl
  refine Eq.trans (Eq.refl _) ?_;refine cfin ?_;rw[show(a.1==6)=false from k1,show(a.1==7)=false from k2,show(a.1==8)=false from k3,show(a.1==9)=false from k4,k12,show(a.1==10)=true from k5];show((a.2.2.1==0)&&(bif (bif decide (1≤(a.2.2.2.1.length:Int))then decide ((a.2.2.2.1.length:Int)≤4)else false)then !(!jd a.2.2.2.1)else false))=(a.2.2.1==0&&inB a.2.2.2.1.length 1 4&&jd a.2.2.2.1);unfold inB;cases (a.2.2.1==0)<;>cases decide (1≤(a.2.2.2.1.length:Int))<;>cases decide ((a.2.2.2.1.length:Int)≤4)<;>cases jd a.2.2.2.1<;>rfl
 refine aI (fun k6=> ?_) (fun k6=> ?_)
 ·have k12:(a.1==12)=false:=by
   have:a.1=11:=by simpa using(show(a.1==11)=true from k6)
   rw[this];rfl
  refine Eq.trans (Eq.refl _) ?_;refine cfin ?_;rw[show(a.1==6)=false from k1,show(a.1==7)=false from k2,show(a.1==8)=false from k3,show(a.1==9)=false from k4,k12,show(a.1==10)=false from k5,show(a.1==11)=true from k6];show((a.2.2.1==0)&&(bif ((a.2.2.2.1.length:Int)==2)then !(!jd a.2.2.2.1)else false))=(a.2.2.1==0&&((a.2.2.2.1.length:Int)==2)&&jd a.2.2.2.1);cases (a.2.2.1==0)<;>cases ((a.2.2.2.1.length:Int)==2)<;>cases jd a.2.2.2.1<;>rfl
 refine aI (fun k7=> ?_) (fun k7=> ?_)
 ·refine Or.inl (eI _ (aI (SF _) ?_));refine Eq.trans (Eq.refl _) ?_;refine cfin ?_;rw[show(a.1==6)=false from k1,show(a.1==7)=false from k2,show(a.1==8)=false from k3,show(a.1==9)=false from k4,show(a.1==12)=true from k7,Bool.and_comm];rfl
 ·refine Eq.trans (Eq.refl _) ?_;refine cfin ?_;rw[show(a.1==6)=false from k1,show(a.1==7)=false from k2,show(a.1==8)=false from k3,show(a.1==9)=false from k4,show(a.1==12)=false from k7,show(a.1==10)=false from k5,show(a.1==11)=false from k6];rfl
theorem Ap(x:GAgent){bs us}(w:World)(h:TN w x.enc bs us):Calls Tryz.prog 183 #[.agg us.toArray] w fun e w'=>e=.returned (.bool (bL x))∧Ext w w':=by
 have hp:(nA x).2.2.2.2.length≤9223372036854775807:=by
  obtain⟨_,_,_,A4,c4,b4,rfl,_,_,_,_,t4,n1,n2⟩:=GAgent.us (x:=x) h;have e:(nA x).2.2.2.2.length=x.ports.length:=List.length_map _;unfold maxLen at n2;omega
 have q:=QCall.Oi (u:=uAgent) (x:=nA x) (TR (nA x) hp) (fun _ _ _ h=>LB h) (w:=w) (bs:=bs) (us:=us) (by rw[ME];exact h);rw[Je]at q;exact q
theorem FN(x:GNet)(b o:Nat)(bs:List Nat)(p:ak)(w:World)(h:dI w b o x.enc bs)(hp:eG x.agents p=true):Calls Tryz.prog 128 #[.pointer (some ⟨b,o,none⟩),.agg #[.int .i64 p.agent,.int .i64 p.slot]] w fun e w'=>e=.returned (.agg #[.int .i64 (nM x.agents p).agent,.int .i64 (nM x.agents p).slot])∧Ext w w':=by
 refine quiet_start fun e=> ?_
 obtain⟨A0,c0,b0,h0,t0⟩:=GNet.pt h;have hltn:=h.lt;obtain⟨i,s,a,r,rfl,hi,ha,hs,hr,hpeer⟩:=FR hp;rw[hpeer];clear hpeer hp;obtain⟨bz,oz,z,bs3,rfl,hzi,hz⟩:=T1.elem GAgent.aN t0 Hid_rfl hi;obtain⟨_,rfl⟩:True∧z=a:=⟨trivial,Option.some.inj (hzi.out.symm.trans ha.out)⟩;obtain⟨A3,c3,b3,A5,c5,b5,u0,u1,u2,u3,u4,t3,t5⟩:=GAgent.pt hz;have hn5:=t5.nle;have hn0:=t0.nle;clear u0 u1 u2 u3 t3;obtain⟨bt,ot,r',bs4,rfl,hrs,hrr⟩:=T1.elem ak.aN t5 Hid_rfl hs;obtain⟨_,rfl⟩:True∧r'=r:=⟨trivial,Option.some.inj (hrs.out.symm.trans hr.out)⟩
 obtain⟨r0,r1⟩:=ak.pt hrr;clear h hz hrr hltn;have i0:(0:Int)≤(i:Int):=by omega
 have i1:(i:Int)<(x.agents.length:Int):=by omega
 have s0:(0:Int)≤(s:Int):=by omega
 have s1:(s:Int)<(z.ports.length:Int):=by omega
 go_enter Tryz.func128,Tryz.ntmps128
 go_upto_region 1 with(fail)
 generalize hg2:e.to.heap.size+1=g2;generalize hg1:e.to.heap.size=g1;refine KG e hg1 hg2 (fun w1 hx1 hge1 hne hge2 r1_ r2_=> ?_);clear hg1 hg2;have q0:=h0.in_ hx1;have q4:=u4.in_ hx1;have q5:=r0.in_ hx1;have q6:=r1.in_ hx1;clear h0 u4 r0 r1;have k0:=jZ (i:=0) r1_ rfl;have k1:=jZ (i:=1) r1_ rfl;have m0:=jZ (i:=0) r2_ rfl;have m1:=jZ (i:=1) r2_ rfl;have f2:∀o,w1.frozen? ⟨g2,o,none⟩=false:=eu r2_;clear r1_ r2_
 go_still_tail 13,(by kernel_rfl)
 go_wp2_with fail
 refine bodyPost_ret (v:=.agg #[.int .i64 r'.agent,.int .i64 r'.slot]) (by simp[results,Tryz.results128,go_sem, *]) rfl ⟨rfl,⟨_,?_⟩,rfl⟩;exact(((hx1.drewN _).setCell (by simpa using hge2) _).setCell (by simpa using hge2) _)
end Go.Proofs.YtjijpkphkicoeaaGreat
namespace Go.Tr
open Go Go.RowKit
def bP(l:List GAgent)(k:Nat):List ak:=(List.range k).flatMap fun(i:Nat)=>(List.range (dV l i).ports.length).map fun(s:Nat)=>(⟨(i:Int),(s:Int)⟩:ak)
def mo(i j:Nat):List ak:=(List.range j).map fun(s:Nat)=>(⟨(i:Int),(s:Int)⟩:ak)
theorem DU(i j:Nat):mo i (j+1)=mo i j++[⟨(i:Int),(j:Int)⟩]:=by simp[mo,List.range_succ]
theorem vY(l:List GAgent)(k:Nat):bP l (k+1)=bP l k++mo k (dV l k).ports.length:=by simp[bP,mo,List.range_succ]
theorem Hu(k f:Int):bC k f≤4:=by
 unfold bC;split
 ·split
  ·rename_i h;have:=inB_t h;omega
  ·omega
 ·repeat' split
  all_goals omega
theorem CJ{a:GAgent}(h:bL a=true):1≤a.ports.length∧a.ports.length≤4:=by
 simp only[bL,Bool.and_eq_true,decide_eq_true_eq,beq_iff_eq]at h;have:=Hu a.kind (fieldsOf a);omega
theorem xM{l:List GAgent}(h:dw l=true):1≤l.length∧l.length≤600∧∀k,k<l.length→dW l k=true:=by
 simp only[dw,Bool.and_eq_true]at h;have h1:=inB_t h.1;exact⟨by omega,by omega,fun k hk=>iH h.2 hk⟩
theorem tJ{l:List GAgent}{k:Nat}(h:dW l k=true):(dV l k).ports.length≤4:=by
 simp only[dW,Bool.and_eq_true]at h;exact(CJ h.1).2
theorem Hz{l:List GAgent}{k:Nat}(h:∀j,j<k→dW l j=true):(bP l k).length≤4*k:=by
 induction k with
 |zero=>simp[bP]
 |succ k ih=>
  rw[vY,List.length_append];have h1:=ih (fun j hj=>h j (by omega));have h2:=tJ (h k (by omega));simp only[mo,List.length_map,List.length_range];omega
theorem xW{l:List GAgent}{k:Nat}{p:ak}(h:p∈bP l k):∃i s:Nat,p=⟨(i:Int),(s:Int)⟩∧i<k∧s<(dV l i).ports.length:=by
 simp only[bP,List.mem_flatMap,List.mem_range,List.mem_map]at h;obtain⟨i,hi,s,hs,rfl⟩:=h;exact⟨i,s,rfl,hi,hs⟩
theorem FT{l:List GAgent}{k i s:Nat}(hi:i<k)(hs:s<(dV l i).ports.length):(⟨(i:Int),(s:Int)⟩:ak)∈bP l k:=by
 simp only[bP,List.mem_flatMap,List.mem_range,List.mem_map];exact⟨i,hi,s,hs,rfl⟩
theorem Hy{l:List GAgent}{k:Nat}{y:ak}(h:(bP l l.length)[k]? =some y):eG l y=true:=by
 obtain⟨i,s,rfl,hi,hs⟩:=xW (List.mem_of_getElem? h);unfold eG;rw[Bool.and_eq_true];exact⟨rE (by simp) (by simp only;omega),rE (by simp) (by simp only[Int.toNat_natCast];omega)⟩
noncomputable def oQ(l:List GAgent)(p:ak):Bool:= !lT l p (nM l p)
theorem GX(n:GNet)(h:dw n.agents=true):eT n= !lD (bP n.agents n.agents.length).length (fun k=>oQ n.agents (gK (bP n.agents n.agents.length) k)):=by
 have h0:=xM h;unfold eT;rw[h,Bool.true_and,lD,Bool.not_not,Bool.eq_iff_iff];constructor
 ·intro ha;unfold bR;rw[List.all_eq_true];intro q hq;have hq:q<(bP n.agents n.agents.length).length:=by simpa using hq
  have he:Hid ((bP n.agents n.agents.length)[q]? =some (bP n.agents n.agents.length)[q]):=List.getElem?_eq_getElem hq;obtain⟨i,s,hp,hi,hs⟩:=xW (List.getElem_mem hq);rw[pW he,hp];have h1:=iH (iH ha hi) hs;simp only[oQ,Bool.not_not];unfold nM;simpa using h1
 ·intro ha;unfold bR;rw[List.all_eq_true];intro i hi;unfold mE bR;rw[List.all_eq_true];intro s hs;obtain⟨q,hq,he⟩:=List.getElem_of_mem (FT (l:=n.agents) (k:=n.agents.length) (by simpa using hi) (by simpa using hs));have h1:=iH ha hq;have he':Hid ((bP n.agents n.agents.length)[q]? =some (bP n.agents n.agents.length)[q]):=List.getElem?_eq_getElem hq;rw[pW he',he]at h1;simp only[oQ,Bool.not_not]at h1;unfold nM at h1;simpa using h1
end Go.Tr
namespace Go.Proofs.YtjijpkphkicoeaaGreat
open Go Go.RowKit Go.Proofs Go.Tr
theorem AB(xs:List GAgent)(n:Nat){A:Option Addr}{c:Nat}{bs:List Nat}(w:World)(hx:T1 w (.sl n (xs.flatMap GAgent.enc)) bs (.slice A n c))(Hl:Hid (xs.length=n)):Calls Tryz.prog 149 #[.slice A n c] w fun e w'=>e=.returned (.bool (dw xs))∧Ext w w':=by
 refine quiet_start fun e=> ?_
 have hn:=hx.nle;have EV:Hid (dw xs=(inB n 1 600&&bR n (dW xs))):=by show _=_;rw[←Hl.out];rfl
 go_enter Tryz.func149,Tryz.ntmps149
 cases d1:decide ((n:Int)<1)
 case true=>
  have E:Hid (dw xs=false):=by show _=_;rw[EV.out,wW (by simp at d1;omega)];rfl
  go_wp2_with fail
  repeat (refine ah _ (by kernel_rfl) (by kernel_rfl) ?_;(repeat (go_big_quiet_step (fail)));refine wpQuiet_nil ?_;intro e;go_wp2_with fail)
  go_ret;exact⟨by rw[E.out];rfl,_,rfl⟩
 cases d2:decide ((600:Int)<n)
 case true=>
  have E:Hid (dw xs=false):=by show _=_;rw[EV.out,wW (by simp at d2;omega)];rfl
  go_wp2_with fail
  repeat (refine ah _ (by kernel_rfl) (by kernel_rfl) ?_;(repeat (go_big_quiet_step (fail)));refine wpQuiet_nil ?_;intro e;go_wp2_with fail)
  go_ret;exact⟨by rw[E.out];rfl,_,rfl⟩
 have hin:inB n 1 600=true:=rE (by simp at d1;omega) (by simp at d2;omega);have Hin:=Lib.hid hin;clear hin
 go_wp2_with fail
 repeat (refine ah _ (by kernel_rfl) (by kernel_rfl) ?_;(repeat (go_big_quiet_step (fail)));refine wpQuiet_nil ?_;intro e;go_wp2_with fail)
 go_loopw [3,15] (fun _ i w'=>∃k:Nat,k≤n∧i=.int .i64 k∧Hid (bR k (dW xs)=true)∧∃e:ExtOf w,w'=e.to) (fun _ i _=>n-(intOf i).toNat)
 case atStart=>exact⟨0,Nat.zero_le _,rfl,kP _,_,rfl⟩
 case round=>
  obtain⟨k,hk,rfl,hfk,e,rfl⟩:=hrel
  by_cases hltk:k<n
  ·skip
   obtain⟨b,off,x,bs',rfl,hxk,hp⟩:=T1.elem GAgent.aN hx Hl hltk;obtain⟨A3,c3,b3,A4,c4,b4,h0,h1,h2,h3,h4,t3,t4⟩:=GAgent.pt hp;clear hp
   go_upto_region 6 with(fail)
   generalize hgg:e.to.heap.size=g;refine rebase_box e hgg (fun w1 e hx1 hgeg hltg cg=> ?_);clear hgg
   replace t3:=t3.below hx1
   replace t4:=t4.below hx1
   have u0:=cg.always hltg 0 _ rfl;have u1:=cg.always hltg 1 _ rfl;have u2:=cg.always hltg 2 _ rfl;have u3:=cg.always hltg 3 _ rfl;have u4:=cg.always hltg 4 _ rfl;simp only[Nat.zero_add]at u0 u1 u2 u3 u4;clear cg;clear h0 h1 h2 h3 h4;have C1:Hid (QC Tryz.prog w1 _ _ _):=fun W hW=>Ap x W (GAgent.wI (t3.below hW) (t4.below hW))
   have EK:Hid (dW xs k=(bL x&&((x.kind==1)==((k:Int)==0)))):=by show _=_;rw[dW,iG hxk]
   cases d3:bL x
   case false=>
    (try rw[d3]at C1)
    have E:Hid (dw xs=false):=by show _=_;rw[EV.out,fM hltk (by rw[EK.out,d3];rfl)];simp
    go_wp2_with (first|(go_at_call 183;with_reducible refine(C1.out.at_ _).mono ?_;rintro _ _ ⟨rfl,e,rfl⟩))
    repeat (refine ah _ (by kernel_rfl) (by kernel_rfl) ?_;(repeat (go_big_quiet_step ((first|with_reducible exact C1.out.at_ _))));refine wpQuiet_nil ?_;intro e;go_wp2_with (first|(go_at_call 183;with_reducible refine(C1.out.at_ _).mono ?_;rintro _ _ ⟨rfl,e,rfl⟩)))
    go_ret;exact⟨by rw[E.out];rfl,ExtOf.old hx1 e⟩
   (try rw[d3]at C1)
   cases d4:(x.kind==1)
   case false=>
    (try rw[d4]at C1)
    cases d5:((k:Int)==0)
    case true=>
     (try rw[d5]at C1)
     have E:Hid (dw xs=false):=by show _=_;rw[EV.out,fM hltk (by rw[EK.out,d3,d4,d5];rfl)];simp
     go_wp2_with (first|(go_at_call 183;with_reducible refine(C1.out.at_ _).mono ?_;rintro _ _ ⟨rfl,e,rfl⟩))
     repeat (refine ah _ (by kernel_rfl) (by kernel_rfl) ?_;(repeat (go_big_quiet_step ((first|with_reducible exact C1.out.at_ _))));refine wpQuiet_nil ?_;intro e;go_wp2_with (first|(go_at_call 183;with_reducible refine(C1.out.at_ _).mono ?_;rintro _ _ ⟨rfl,e,rfl⟩)))
     go_ret;exact⟨by rw[E.out];rfl,ExtOf.old hx1 e⟩
    (try rw[d5]at C1)
    have E:Hid (dW xs k=true):=by show _=_;rw[EK.out,d3,d4,d5];rfl
    go_wp2_with (first|(go_at_call 183;with_reducible refine(C1.out.at_ _).mono ?_;rintro _ _ ⟨rfl,e,rfl⟩))
    repeat (refine ah _ (by kernel_rfl) (by kernel_rfl) ?_;(repeat (go_big_quiet_step ((first|with_reducible exact C1.out.at_ _))));refine wpQuiet_nil ?_;intro e;go_wp2_with (first|(go_at_call 183;with_reducible refine(C1.out.at_ _).mono ?_;rintro _ _ ⟨rfl,e,rfl⟩)))
    exact⟨⟨k+1,by omega,by go_num,dU hfk E.out,⟨e.to,hx1.trans e.h⟩,rfl⟩,by simp[intOf];omega⟩
   (try rw[d4]at C1)
   cases d6:((k:Int)==0)
   case false=>
    (try rw[d6]at C1)
    have E:Hid (dw xs=false):=by show _=_;rw[EV.out,fM hltk (by rw[EK.out,d3,d4,d6];rfl)];simp
    go_wp2_with (first|(go_at_call 183;with_reducible refine(C1.out.at_ _).mono ?_;rintro _ _ ⟨rfl,e,rfl⟩))
    repeat (refine ah _ (by kernel_rfl) (by kernel_rfl) ?_;(repeat (go_big_quiet_step ((first|with_reducible exact C1.out.at_ _))));refine wpQuiet_nil ?_;intro e;go_wp2_with (first|(go_at_call 183;with_reducible refine(C1.out.at_ _).mono ?_;rintro _ _ ⟨rfl,e,rfl⟩)))
    go_ret;exact⟨by rw[E.out];rfl,ExtOf.old hx1 e⟩
   (try rw[d6]at C1)
   have E:Hid (dW xs k=true):=by show _=_;rw[EK.out,d3,d4,d6];rfl
   go_wp2_with (first|(go_at_call 183;with_reducible refine(C1.out.at_ _).mono ?_;rintro _ _ ⟨rfl,e,rfl⟩))
   repeat (refine ah _ (by kernel_rfl) (by kernel_rfl) ?_;(repeat (go_big_quiet_step ((first|with_reducible exact C1.out.at_ _))));refine wpQuiet_nil ?_;intro e;go_wp2_with (first|(go_at_call 183;with_reducible refine(C1.out.at_ _).mono ?_;rintro _ _ ⟨rfl,e,rfl⟩)))
   exact⟨⟨k+1,by omega,by go_num,dU hfk E.out,⟨e.to,hx1.trans e.h⟩,rfl⟩,by simp[intOf];omega⟩
  ·have:n=k:=by omega
   subst this;have E:Hid (dw xs=true):=by show _=_;rw[EV.out,Hin.out,hfk.out];rfl
   go_wp2_with fail
   repeat (refine ah _ (by kernel_rfl) (by kernel_rfl) ?_;(repeat (go_big_quiet_step (fail)));refine wpQuiet_nil ?_;intro e;go_wp2_with fail)
   go_ret;exact⟨by rw[E.out];rfl,_,rfl⟩
theorem E8(xs:List GAgent)(n:Nat){A:Option Addr}{c:Nat}{bs:List Nat}(p:ak)(w:World)(hx:T1 w (.sl n (xs.flatMap GAgent.enc)) bs (.slice A n c))(Hl:Hid (xs.length=n)):Calls Tryz.prog 153 #[.slice A n c,.agg #[.int .i64 p.agent,.int .i64 p.slot]] w fun e w'=>e=.returned (.bool (eG xs p))∧Ext w w':=by
 refine quiet_start fun e=> ?_
 have hn:=hx.nle;have EV:Hid (eG xs p=(inB p.agent 0 ((n:Int)-1)&&inB p.slot 0 (((dV xs p.agent.toNat).ports.length:Int)-1))):=by show _=_;rw[←Hl.out];rfl
 go_enter Tryz.func153,Tryz.ntmps153
 go_upto_region 1 with(fail)
 generalize hgg:e.to.heap.size=g;refine rebase_box e hgg (fun w1 e hx1 hgeg hltg cg=> ?_);clear hgg
 replace hx:=hx.below hx1
 obtain⟨k0,k1⟩:=ak.KP (dI.box hltg cg ak.wI);cases d1:decide (0≤p.agent)
 case false=>
  have E:Hid (eG xs p=false):=by show _=_;rw[EV.out,wW (by simp at d1;omega)];rfl
  go_wp2_with fail
  repeat (refine ah _ (by kernel_rfl) (by kernel_rfl) ?_;(repeat (go_big_quiet_step (fail)));refine wpQuiet_nil ?_;intro e;go_wp2_with fail)
  go_ret;exact⟨by rw[E.out];rfl,ExtOf.old hx1 e⟩
 cases d2:decide (p.agent<(n:Int))
 case false=>
  have E:Hid (eG xs p=false):=by show _=_;rw[EV.out,wW (by simp at d2;omega)];rfl
  go_wp2_with fail
  repeat (refine ah _ (by kernel_rfl) (by kernel_rfl) ?_;(repeat (go_big_quiet_step (fail)));refine wpQuiet_nil ?_;intro e;go_wp2_with fail)
  go_ret;exact⟨by rw[E.out];rfl,ExtOf.old hx1 e⟩
 cases d3:decide (0≤p.slot)
 case false=>
  have E:Hid (eG xs p=false):=by show _=_;rw[EV.out,wW (n:=p.slot) (by simp at d3;omega),Bool.and_false]
  go_wp2_with fail
  repeat (refine ah _ (by kernel_rfl) (by kernel_rfl) ?_;(repeat (go_big_quiet_step (fail)));refine wpQuiet_nil ?_;intro e;go_wp2_with fail)
  go_ret;exact⟨by rw[E.out];rfl,ExtOf.old hx1 e⟩
 have ha0:0≤p.agent:=by simpa using d1
 have ha1:p.agent<(n:Int):=by simpa using d2
 obtain⟨i,hi⟩:=Int.eq_ofNat_of_zero_le ha0;have hlt:i<n:=by omega
 obtain⟨b,off,x,bs',rfl,hxk,hp⟩:=T1.elem GAgent.aN hx Hl hlt;obtain⟨A3,c3,b3,A4,c4,b4,h0,h1,h2,h3,h4,t3,t4⟩:=GAgent.pt hp;have hn4:=t4.nle;clear h0 h1 h2 h3 t3;have EA:Hid (dV xs p.agent.toNat=x):=by show _=_;rw[hi,Int.toNat_natCast];exact iG hxk
 have EI:Hid (inB p.agent 0 ((n:Int)-1)=true):=rE ha0 (by omega);rw[hi]at k0 d1 d2;have i0:(0:Int)≤(i:Int):=by omega
 have i1:(i:Int)<(n:Int):=by omega
 clear hi ha0 ha1;have E:Hid (eG xs p=decide (p.slot<(x.ports.length:Int))):=by show _=_;rw[EV.out,EA.out,EI.out,Bool.true_and];unfold inB;rw[show decide ((0:Int)≤p.slot)=true from d3,Bool.true_and];rw[Bool.eq_iff_iff];simp;omega
 go_wp2_with fail
 repeat (refine ah _ (by kernel_rfl) (by kernel_rfl) ?_;(repeat (go_big_quiet_step (fail)));refine wpQuiet_nil ?_;intro e;go_wp2_with fail)
 go_ret;exact⟨by rw[E.out];rfl,ExtOf.old hx1 e⟩
theorem Nb:mQ Tryz.prog 129 102 2:=mQ.of Tryz.underlying129 (by kernel_rfl) (by omega)
theorem KN(x:GNet)(b o:Nat)(bs:List Nat)(w:World)(h:dI w b o x.enc bs)(hok:dw x.agents=true):Calls Tryz.prog 151 #[.pointer (some ⟨b,o,none⟩)] w fun e w'=>
  Ext w w'∧∃A c bs',e=.returned (.slice A (bP x.agents x.agents.length).length c)∧T1 w' (.sl (bP x.agents x.agents.length).length ((bP x.agents x.agents.length).flatMap ak.enc)) bs' (.slice A (bP x.agents x.agents.length).length c):=by
 obtain⟨A0,c0,b0,h0,t0⟩:=GNet.pt h;have hn0:=t0.nle;obtain⟨hk1,hk2,hall⟩:=xM hok;have Hall:=Lib.hid hall;clear hall hok;refine Kl fun e=> ?_
 go_enter Tryz.func151,Tryz.ntmps151
 go_wp2_with fail
 go_loopw [3,12] (fun v i wr=>∃k:Nat,k≤x.agents.length∧i=.int .i64 k∧∃e:ExtOf w,wr=e.to∧e.to.ownsRow w.heap.size 102 2 v (bP x.agents k).length ((bP x.agents k).flatMap ak.cells)) (fun _ i _=>x.agents.length-(intOf i).toNat)
 case atStart=>exact⟨0,Nat.zero_le _,rfl,_,rfl,World.ownsRow_nil _ _ _ _⟩
 case round=>
  obtain⟨k,hk,rfl,e,rfl,ho⟩:=hrel
  by_cases hlt:k<x.agents.length
  ·obtain⟨b',off,y,bs',rfl,hyk,hp⟩:=T1.elem GAgent.aN t0 Hid_rfl hlt;obtain⟨A3,c3,b3,A4,c4,b4,g0,g1,g2,g3,g4,t3,t4⟩:=GAgent.pt hp;have hn4:=t4.nle;have HA:Hid (dV x.agents k=y):=iG hyk;have hy4:y.ports.length≤4:=by have:=tJ (Hall.out k hlt);rw[HA.out]at this;exact this
   have hle:(bP x.agents k).length≤4*k:=Hz fun j hj=>Hall.out j (by omega)
   clear t3 t4 hp
   go_wp2_with fail
   go_loopw [3,20] (fun v i wr=>∃j:Nat,j≤y.ports.length∧i=.int .i64 j∧∃e:ExtOf w,wr=e.to∧e.to.ownsRow w.heap.size 102 2 v ((bP x.agents k).length+j) ((bP x.agents k).flatMap ak.cells++(mo k j).flatMap ak.cells)) (fun _ i _=>y.ports.length-(intOf i).toNat)
   case atStart=>exact⟨0,Nat.zero_le _,rfl,⟨_,e.h.alloc e.h.size _⟩,rfl,by simpa[mo]using ho.alloc _⟩
   case round=>
    obtain⟨j,hj,rfl,e,rfl,ho⟩:=hrel
    by_cases hltj:j<y.ports.length
    ·have hge:=e.h.size
     go_wp2_with (at_builtin;refine Io rfl (.tmp 23) (.tmp 27) 129 rfl Nb w.heap.size _ _ _ rfl (ho.alloc _) e.to.heap.size 1 1 #[.int .i64 (k:Int),.int .i64 (j:Int)] rfl (heap_alloc_new e.to _) rfl rfl (by omega) (by simp;omega) ?_;intro v' w2 ho2 hg2)
     have hx2:Ext w w2:=Ext.grown (e.h.alloc e.h.size _) hg2 (G9 ho)
     go_roundw
     case rel=>exact⟨j+1,by omega,by go_num,⟨w2,hx2⟩,rfl,by rw[DU,List.flatMap_append,←List.append_assoc];exact ho2⟩
     case measure=>simp[intOf];omega
    ·have:y.ports.length=j:=by omega
     subst this
     go_wp2_with fail
     go_roundw
     case rel=>exact⟨k+1,by omega,by go_num,e,rfl,by rw[vY,HA.out,List.flatMap_append,List.length_append];simpa[mo]using ho⟩
     case measure=>simp[intOf];omega
  ·have:x.agents.length=k:=by omega
   subst this
   go_wp2_with fail
   go_ret;obtain⟨A,c,bs',rfl,ht⟩:=He ho (TN.Qf ak.cells (fun _=>rfl) _);exact⟨e,rfl,A,c,bs',rfl,ht⟩
theorem Ey(N:GNet)(nb no:Nat)(nbs:List Nat)(p:ak)(w:World)(hN:dI w nb no N.enc nbs)(hp:eG N.agents p=true):Calls Tryz.prog 152 #[.agg #[.int .i64 p.agent,.int .i64 p.slot],.pointer (some ⟨nb,no,none⟩)] w fun e w'=>e=.returned (.bool (oQ N.agents p))∧Ext w w':=by
 refine quiet_start fun e=> ?_
 obtain⟨A0,c0,b0,h0,t0⟩:=GNet.pt hN;obtain⟨q,hq⟩:∃q,nM N.agents p=q:=⟨_,rfl⟩;have EV:Hid (oQ N.agents p= !lT N.agents p q):=by show _=_;rw[oQ,hq]
 have Hq:=Lib.hid hq;clear hq
 go_enter Tryz.func152,Tryz.ntmps152
 go_upto_region 1 with(fail)
 generalize hgg:e.to.heap.size=g;refine rebase_box e hgg (fun w1 e hx1 hgeg hltg cg=> ?_);clear hgg
 replace hN:=hN.ext hx1
 replace h0:=h0.ext hx1
 replace t0:=t0.below hx1
 obtain⟨k0,k1⟩:=ak.KP (x:=p) (dI.box hltg cg ak.wI);clear cg;have C1:Hid (QC Tryz.prog w1 _ _ _):=fun W hW=>FN N nb no _ p W (hN.ext hW) hp
 rw[Hq.out]at C1
 go_upto_region 2 with(first|(go_at_call 128;with_reducible refine(C1.out.at_ _).mono ?_;rintro _ _ ⟨rfl,e,rfl⟩))
 repeat (refine ah _ (by kernel_rfl) (by kernel_rfl) ?_;(repeat (go_big_quiet_step ((first|with_reducible exact C1.out.at_ _))));refine wpQuiet_nil ?_;intro e;go_upto_region 2 with(first|(go_at_call 128;with_reducible refine(C1.out.at_ _).mono ?_;rintro _ _ ⟨rfl,e,rfl⟩)))
 generalize hggq:e.to.heap.size=gq;refine rebase_box e hggq (fun w2 e hx2 hgegq hltgq cgq=> ?_);clear hggq
 replace hN:=hN.ext hx2
 replace h0:=h0.ext hx2
 replace k0:=k0.ext hx2
 replace k1:=k1.ext hx2
 replace t0:=t0.below hx2
 replace C1:Hid (QC Tryz.prog w2 _ _ _):=C1.out.ext hx2
 have hy2:=Ext.trans hx1 hx2;obtain⟨q0,q1⟩:=ak.KP (x:=q) (dI.box hltgq cgq ak.wI);clear cgq;clear C1;have hg:=Qq;have heq:=fun W=>JI W q p
 have C2:Hid (QC Tryz.prog w2 _ _ _):=fun W hW=>E8 N.agents _ q W (t0.below hW) Hid_rfl
 cases d1:eqb q p
 case true=>
  (try rw[d1]at C2)
  have E:Hid (oQ N.agents p=true):=by show _=_;rw[EV.out];simp[lT,d1]
  go_wp2_with (first|(go_at_call 153;with_reducible refine(C2.out.at_ _).mono ?_;rintro _ _ ⟨rfl,e,rfl⟩))
  repeat (refine ah _ (by kernel_rfl) (by kernel_rfl) ?_;(repeat (go_big_quiet_step ((first|with_reducible exact C2.out.at_ _))));refine wpQuiet_nil ?_;intro e;go_wp2_with (first|(go_at_call 153;with_reducible refine(C2.out.at_ _).mono ?_;rintro _ _ ⟨rfl,e,rfl⟩)))
  go_ret;exact⟨by rw[E.out];rfl,ExtOf.old hy2 e⟩
 (try rw[d1]at C2)
 cases d2:eG N.agents q
 case false=>
  (try rw[d2]at C2)
  have E:Hid (oQ N.agents p=true):=by show _=_;rw[EV.out];simp[lT,d2]
  go_wp2_with (first|(go_at_call 153;with_reducible refine(C2.out.at_ _).mono ?_;rintro _ _ ⟨rfl,e,rfl⟩))
  repeat (refine ah _ (by kernel_rfl) (by kernel_rfl) ?_;(repeat (go_big_quiet_step ((first|with_reducible exact C2.out.at_ _))));refine wpQuiet_nil ?_;intro e;go_wp2_with (first|(go_at_call 153;with_reducible refine(C2.out.at_ _).mono ?_;rintro _ _ ⟨rfl,e,rfl⟩)))
  go_ret;exact⟨by rw[E.out];rfl,ExtOf.old hy2 e⟩
 (try rw[d2]at C2)
 obtain⟨r,hr⟩:∃r,nM N.agents q=r:=⟨_,rfl⟩;have Hr:=Lib.hid hr;clear hr;have C3:Hid (QC Tryz.prog w2 _ _ _):=fun W hW=>FN N nb no _ q W (hN.ext hW) d2
 rw[Hr.out]at C3;have hne:=fun W=>JJ W r p
 have E:Hid (oQ N.agents p= !eqb r p):=by show _=_;rw[EV.out];simp[lT,Hr.out,d1,d2]
 go_wp2_with (first|(go_at_call 153;with_reducible refine(C2.out.at_ _).mono ?_;rintro _ _ ⟨rfl,e,rfl⟩)|(go_at_call 128;with_reducible refine(C3.out.at_ _).mono ?_;rintro _ _ ⟨rfl,e,rfl⟩))
 repeat (refine ah _ (by kernel_rfl) (by kernel_rfl) ?_;(repeat (go_big_quiet_step ((first|with_reducible exact C2.out.at_ _|with_reducible exact C3.out.at_ _))));refine wpQuiet_nil ?_;intro e;go_wp2_with (first|(go_at_call 153;with_reducible refine(C2.out.at_ _).mono ?_;rintro _ _ ⟨rfl,e,rfl⟩)|(go_at_call 128;with_reducible refine(C3.out.at_ _).mono ?_;rintro _ _ ⟨rfl,e,rfl⟩)))
 go_ret;exact⟨by rw[E.out];rfl,ExtOf.old hy2 e⟩
theorem wX(xs:List ak)(n:Nat){A:Option Addr}{c:Nat}{bs:List Nat}(N:GNet)(nb no:Nat)(nbs:List Nat)(w:World)(hx:T1 w (.sl n (xs.flatMap ak.enc)) bs (.slice A n c))(Hl:Hid (xs.length=n))(hN:dI w nb no N.enc nbs)(hin:∀(k:Nat) (y:ak),xs[k]? =some y→eG N.agents y=true):Calls Tryz.prog 184 #[.slice A n c,.func (.func 152) #[] #[.pointer (some ⟨nb,no,none⟩)]] w fun e w'=>e=.returned (.int .i64 (idxOf n (fun k=>oQ N.agents (gK xs k))))∧Ext w w':=by
 refine quiet_start fun e=> ?_
 have hn:=hx.nle
 go_enter Tryz.func184,Tryz.ntmps184
 go_wp2_with fail
 repeat (refine ah _ (by kernel_rfl) (by kernel_rfl) ?_;(repeat (go_big_quiet_step (fail)));refine wpQuiet_nil ?_;intro e;go_wp2_with fail)
 go_loopw [5,8] (fun _ i w'=>∃k:Nat,k≤n∧i=.int .i64 k∧Hid (bR k (fun k=> !oQ N.agents (gK xs k))=true)∧∃e:ExtOf w,w'=e.to) (fun _ i _=>n-(intOf i).toNat)
 case atStart=>exact⟨0,Nat.zero_le _,rfl,kP _,_,rfl⟩
 case round=>
  obtain⟨k,hk,rfl,hf,e,rfl⟩:=hrel
  by_cases hlt:k<n
  ·skip
   obtain⟨b,off,x,bs',rfl,hxk,hp⟩:=T1.elem ak.aN hx Hl hlt;obtain⟨kx0,kx1⟩:=ak.pt hp;have hpi:=hin k x hxk.out;have EP:Hid (oQ N.agents (gK xs k)=oQ N.agents x):=by show _=_;rw[pW hxk]
   have C1:Hid (QC Tryz.prog w _ _ _):=fun W hW=>Ey N nb no nbs x W (hN.ext hW) hpi
   cases d1:oQ N.agents x
   case true=>
    (try rw[d1]at C1)
    have E:Hid (idxOf n (fun k=>oQ N.agents (gK xs k))=(k:Int)):=by show _=_;exact vL hf hlt (by rw[EP.out];exact d1)
    go_wp2_with (first|(go_at_call 152;with_reducible refine(C1.out.at_ _).mono ?_;rintro _ _ ⟨rfl,e,rfl⟩))
    repeat (refine ah _ (by kernel_rfl) (by kernel_rfl) ?_;(repeat (go_big_quiet_step ((first|with_reducible exact C1.out.at_ _))));refine wpQuiet_nil ?_;intro e;go_wp2_with (first|(go_at_call 152;with_reducible refine(C1.out.at_ _).mono ?_;rintro _ _ ⟨rfl,e,rfl⟩)))
    go_ret;exact⟨by rw[E.out];rfl,_,rfl⟩
   (try rw[d1]at C1)
   have E:Hid ((!oQ N.agents (gK xs k))=true):=by show _=_;rw[EP.out,d1];rfl
   go_wp2_with (first|(go_at_call 152;with_reducible refine(C1.out.at_ _).mono ?_;rintro _ _ ⟨rfl,e,rfl⟩))
   repeat (refine ah _ (by kernel_rfl) (by kernel_rfl) ?_;(repeat (go_big_quiet_step ((first|with_reducible exact C1.out.at_ _))));refine wpQuiet_nil ?_;intro e;go_wp2_with (first|(go_at_call 152;with_reducible refine(C1.out.at_ _).mono ?_;rintro _ _ ⟨rfl,e,rfl⟩)))
   exact⟨⟨k+1,by omega,by go_num,dU hf E.out,_,rfl⟩,by simp[intOf];omega⟩
  ·have:n=k:=by omega
   subst this;have E:Hid (idxOf n (fun k=>oQ N.agents (gK xs k))= -1):=by show _=_;exact nI hf
   go_wp2_with fail
   repeat (refine ah _ (by kernel_rfl) (by kernel_rfl) ?_;(repeat (go_big_quiet_step (fail)));refine wpQuiet_nil ?_;intro e;go_wp2_with fail)
   go_ret;exact⟨by rw[E.out];rfl,_,rfl⟩
theorem tu(xs:List ak)(n:Nat){A:Option Addr}{c:Nat}{bs:List Nat}(N:GNet)(nb no:Nat)(nbs:List Nat)(w:World)(hx:T1 w (.sl n (xs.flatMap ak.enc)) bs (.slice A n c))(Hl:Hid (xs.length=n))(hN:dI w nb no N.enc nbs)(hin:∀(k:Nat) (y:ak),xs[k]? =some y→eG N.agents y=true):Calls Tryz.prog 150 #[.slice A n c,.func (.func 152) #[] #[.pointer (some ⟨nb,no,none⟩)]] w fun e w'=>e=.returned (.bool (lD n (fun k=>oQ N.agents (gK xs k))))∧Ext w w':=by
 refine quiet_start fun e=> ?_
 have C1:Hid (QC Tryz.prog w _ _ _):=fun W hW=>wX xs n N nb no nbs W (hx.below hW) Hl (hN.ext hW) hin
 have hc:=vM n (fun k=>oQ N.agents (gK xs k))
 go_enter Tryz.func150,Tryz.ntmps150
 go_wp2_with (first|(go_at_call 184;with_reducible refine(C1.out.at_ _).mono ?_;rintro _ _ ⟨rfl,e,rfl⟩))
 repeat (refine ah _ (by kernel_rfl) (by kernel_rfl) ?_;(repeat (go_big_quiet_step ((first|with_reducible exact C1.out.at_ _))));refine wpQuiet_nil ?_;intro e;go_wp2_with (first|(go_at_call 184;with_reducible refine(C1.out.at_ _).mono ?_;rintro _ _ ⟨rfl,e,rfl⟩)))
 go_ret;exact⟨by rw[←hc];rfl,_,rfl⟩
theorem o8(x:GNet){bs us}(w:World)(h:TN w x.enc bs us):Calls Tryz.prog 95 #[.agg us.toArray] w fun e w'=>e=.returned (.bool (eT x))∧Ext w w':=by
 refine quiet_start fun e=> ?_
 obtain⟨P0,p0,q0,rfl,_⟩:=GNet.us (x:=x) h
 go_enter Tryz.func95,Tryz.ntmps95
 go_upto_region 1 with(fail)
 generalize hgg:e.to.heap.size=g;refine rebase_box e hgg (fun w1 e hx1 hgeg hltg cg=> ?_);clear hgg
 replace h:=h.below hx1
 have p:=dI.box hltg cg h;clear cg h;obtain⟨A0,c0,b0,h0,t0⟩:=GNet.KP p;have C1:Hid (QC Tryz.prog w1 _ _ _):=fun W hW=>AB x.agents _ W (t0.below hW) Hid_rfl
 cases d1:dw x.agents
 case false=>
  (try rw[d1]at C1)
  have E:Hid (eT x=false):=by show _=_;simp[eT,d1]
  go_wp2_with (first|(go_at_call 149;with_reducible refine(C1.out.at_ _).mono ?_;rintro _ _ ⟨rfl,e,rfl⟩))
  repeat (refine ah _ (by kernel_rfl) (by kernel_rfl) ?_;(repeat (go_big_quiet_step ((first|with_reducible exact C1.out.at_ _))));refine wpQuiet_nil ?_;intro e;go_wp2_with (first|(go_at_call 149;with_reducible refine(C1.out.at_ _).mono ?_;rintro _ _ ⟨rfl,e,rfl⟩)))
  go_ret;exact⟨by rw[E.out];rfl,ExtOf.old hx1 e⟩
 (try rw[d1]at C1)
 have EV:Hid (eT x= !lD (bP x.agents x.agents.length).length (fun k=>oQ x.agents (gK (bP x.agents x.agents.length) k))):=GX x d1
 go_wp2_with (first|(go_at_call 149;with_reducible refine(C1.out.at_ _).mono ?_;rintro _ _ ⟨rfl,e,rfl⟩))
 repeat (refine ah _ (by kernel_rfl) (by kernel_rfl) ?_;(repeat (go_big_quiet_step ((first|with_reducible exact C1.out.at_ _))));refine wpQuiet_nil ?_;intro e;go_wp2_with (first|(go_at_call 149;with_reducible refine(C1.out.at_ _).mono ?_;rintro _ _ ⟨rfl,e,rfl⟩)))
 refine(KN x g 0 _ _ (p.ext e.h) d1).mono ?_;rintro _ w2 ⟨hx2,A,c,bs',rfl,ht⟩;have hq:=Ext.trans e.h hx2;clear C1
 replace p:=p.ext hq
 have hy2:=Ext.trans hx1 hq;obtain⟨e,he⟩:∃e:ExtOf w2,w2=e.to:=⟨⟨w2,Below.refl _ _⟩,rfl⟩;have C2:Hid (QC Tryz.prog w2 _ _ _):=fun W hW=>tu (bP x.agents x.agents.length) _ x g 0 _ W (ht.below hW) Hid_rfl (p.ext hW) (fun k y hy=>Hy hy)
 go_wp2_with (first|(go_at_call 150;with_reducible refine(C2.out.at_ _).mono ?_;rintro _ _ ⟨rfl,e,rfl⟩))
 repeat (refine ah _ (by kernel_rfl) (by kernel_rfl) ?_;(repeat (go_big_quiet_step ((first|with_reducible exact C2.out.at_ _))));refine wpQuiet_nil ?_;intro e;go_wp2_with (first|(go_at_call 150;with_reducible refine(C2.out.at_ _).mono ?_;rintro _ _ ⟨rfl,e,rfl⟩)))
 go_ret;refine⟨by rw[EV.out];rfl,?_⟩
 first|exact ExtOf.old hy2 e|exact ExtOf.old hy2 ⟨_,Below.refl _ _⟩
theorem AU(x:GAgent)(b o:Nat)(bs:List Nat)(w:World)(h:dI w b o x.enc bs):Calls Tryz.prog 175 #[.pointer (some ⟨b,o,none⟩)] w fun e w'=>e=.returned (.int .i64 (fieldsOf x))∧Ext w w':=by
 refine quiet_start fun e=> ?_
 obtain⟨A3,c3,b3,A4,c4,b4,h0,h1,h2,h3,h4,t3,t4⟩:=GAgent.pt h
 go_enter Tryz.func175,Tryz.ntmps175
 have hn4:=t4.nle;cases d1:(x.kind==9)
 case false=>
  have E:Hid (fieldsOf x=0):=by show _=_;simp at d1;simp[fieldsOf,cB,d1]
  go_wp2_with fail
  repeat (refine ah _ (by kernel_rfl) (by kernel_rfl) ?_;(repeat (go_big_quiet_step (fail)));refine wpQuiet_nil ?_;intro e;go_wp2_with fail)
  go_ret;exact⟨by rw[E.out];rfl,_,rfl⟩
 have E:Hid (fieldsOf x=(x.ports.length:Int)-1):=by show _=_;simp at d1;simp[fieldsOf,cB,d1]
 go_wp2_with fail
 repeat (refine ah _ (by kernel_rfl) (by kernel_rfl) ?_;(repeat (go_big_quiet_step (fail)));refine wpQuiet_nil ?_;intro e;go_wp2_with fail)
 go_ret;exact⟨by rw[E.out];rfl,_,rfl⟩
theorem yu(k f:Int)(w:World):Calls Tryz.prog 194 #[.int .i64 k,.int .i64 f] w fun e w'=>e=.returned (.int .i64 (bC k f))∧Ext w w':=by
 refine quiet_start fun e=> ?_
 have C1:Hid (QC Tryz.prog w _ _ _):=fun W hW=>(kI f 0 3 W).q
 cases d1:inB f 0 3
 case true=>
  have hf:=inB_t d1
  go_enter Tryz.func194,Tryz.ntmps194
  go_wp2_with (first|(go_at_call 87;with_reducible refine(C1.out.at_ _).mono ?_;rintro _ _ ⟨rfl,e,rfl⟩))
  repeat (refine ah _ (by kernel_rfl) (by kernel_rfl) ?_;(repeat (go_big_quiet_step ((first|with_reducible exact C1.out.at_ _))));refine wpQuiet_nil ?_;intro e;go_wp2_with (first|(go_at_call 87;with_reducible refine(C1.out.at_ _).mono ?_;rintro _ _ ⟨rfl,e,rfl⟩)))
  all_goals go_ret
  all_goals refine⟨?_,_,rfl⟩
  all_goals first|(simp[bC, *];done)|(simp[bC, *];omega)|(simp_all [bC];done)|(simp_all [bC];omega)
 go_enter Tryz.func194,Tryz.ntmps194
 go_wp2_with (first|(go_at_call 87;with_reducible refine(C1.out.at_ _).mono ?_;rintro _ _ ⟨rfl,e,rfl⟩))
 repeat (refine ah _ (by kernel_rfl) (by kernel_rfl) ?_;(repeat (go_big_quiet_step ((first|with_reducible exact C1.out.at_ _))));refine wpQuiet_nil ?_;intro e;go_wp2_with (first|(go_at_call 87;with_reducible refine(C1.out.at_ _).mono ?_;rintro _ _ ⟨rfl,e,rfl⟩)))
 all_goals go_ret
 all_goals refine⟨?_,_,rfl⟩
 all_goals first|(simp[bC, *];done)|(simp[bC, *];omega)|(simp_all [bC];done)|(simp_all [bC];omega)
theorem Dv(x:GAgent)(b o:Nat)(bs:List Nat)(w:World)(h:dI w b o x.enc bs):Calls Tryz.prog 172 #[.pointer (some ⟨b,o,none⟩)] w fun e w'=>e=.returned (.bool (bL x))∧Ext w w':=by
 refine quiet_start fun e=> ?_
 obtain⟨A3,c3,b3,A4,c4,b4,h0,h1,h2,h3,h4,t3,t4⟩:=GAgent.pt h;have hn4:=t4.nle;have C1:Hid (QC Tryz.prog w _ _ _):=fun W hW=>AU x b o _ W (h.ext hW)
 have C2:Hid (QC Tryz.prog w _ _ _):=fun W hW=>zq x b o _ W (h.ext hW)
 have C3:Hid (QC Tryz.prog w _ _ _):=fun W hW=>yu x.kind (fieldsOf x) W
 have C4:Hid (QC Tryz.prog w _ _ _):=fun W hW=>(Du x.kind x.level W).q
 go_enter Tryz.func172,Tryz.ntmps172
 cases d1:decide (0<bC x.kind (fieldsOf x))
 case false=>
  (try rw[d1]at C1);(try rw[d1]at C2);(try rw[d1]at C3);(try rw[d1]at C4)
  have E:Hid (bL x=false):=by show _=_;first|(simp only[bL,d1];done)|(simp only[bL,d1];rfl)|(simp[bL,d1];done)|((try simp at d1);simp[bL,d1];done)
  go_wp2_with (first|(go_at_call 175;with_reducible refine(C1.out.at_ _).mono ?_;rintro _ _ ⟨rfl,e,rfl⟩)|(go_at_call 196;with_reducible refine(C2.out.at_ _).mono ?_;rintro _ _ ⟨rfl,e,rfl⟩)|(go_at_call 194;with_reducible refine(C3.out.at_ _).mono ?_;rintro _ _ ⟨rfl,e,rfl⟩)|(go_at_call 195;with_reducible refine(C4.out.at_ _).mono ?_;rintro _ _ ⟨rfl,e,rfl⟩))
  repeat (refine ah _ (by kernel_rfl) (by kernel_rfl) ?_;(repeat (go_big_quiet_step ((first|with_reducible exact C1.out.at_ _|with_reducible exact C2.out.at_ _|with_reducible exact C3.out.at_ _|with_reducible exact C4.out.at_ _))));refine wpQuiet_nil ?_;intro e;go_wp2_with (first|(go_at_call 175;with_reducible refine(C1.out.at_ _).mono ?_;rintro _ _ ⟨rfl,e,rfl⟩)|(go_at_call 196;with_reducible refine(C2.out.at_ _).mono ?_;rintro _ _ ⟨rfl,e,rfl⟩)|(go_at_call 194;with_reducible refine(C3.out.at_ _).mono ?_;rintro _ _ ⟨rfl,e,rfl⟩)|(go_at_call 195;with_reducible refine(C4.out.at_ _).mono ?_;rintro _ _ ⟨rfl,e,rfl⟩)))
  go_ret;exact⟨by rw[E.out];rfl,_,rfl⟩
 (try rw[d1]at C1);(try rw[d1]at C2);(try rw[d1]at C3);(try rw[d1]at C4)
 cases d2:((x.ports.length:Int)==bC x.kind (fieldsOf x))
 case false=>
  (try rw[d2]at C1);(try rw[d2]at C2);(try rw[d2]at C3);(try rw[d2]at C4)
  have E:Hid (bL x=false):=by show _=_;first|(simp only[bL,d1,d2];done)|(simp only[bL,d1,d2];rfl)|(simp[bL,d1,d2];done)|((try simp at d1);(try simp at d2);simp[bL,d1,d2];done)
  go_wp2_with (first|(go_at_call 175;with_reducible refine(C1.out.at_ _).mono ?_;rintro _ _ ⟨rfl,e,rfl⟩)|(go_at_call 196;with_reducible refine(C2.out.at_ _).mono ?_;rintro _ _ ⟨rfl,e,rfl⟩)|(go_at_call 194;with_reducible refine(C3.out.at_ _).mono ?_;rintro _ _ ⟨rfl,e,rfl⟩)|(go_at_call 195;with_reducible refine(C4.out.at_ _).mono ?_;rintro _ _ ⟨rfl,e,rfl⟩))
  repeat (refine ah _ (by kernel_rfl) (by kernel_rfl) ?_;(repeat (go_big_quiet_step ((first|with_reducible exact C1.out.at_ _|with_reducible exact C2.out.at_ _|with_reducible exact C3.out.at_ _|with_reducible exact C4.out.at_ _))));refine wpQuiet_nil ?_;intro e;go_wp2_with (first|(go_at_call 175;with_reducible refine(C1.out.at_ _).mono ?_;rintro _ _ ⟨rfl,e,rfl⟩)|(go_at_call 196;with_reducible refine(C2.out.at_ _).mono ?_;rintro _ _ ⟨rfl,e,rfl⟩)|(go_at_call 194;with_reducible refine(C3.out.at_ _).mono ?_;rintro _ _ ⟨rfl,e,rfl⟩)|(go_at_call 195;with_reducible refine(C4.out.at_ _).mono ?_;rintro _ _ ⟨rfl,e,rfl⟩)))
  go_ret;exact⟨by rw[E.out];rfl,_,rfl⟩
 (try rw[d2]at C1);(try rw[d2]at C2);(try rw[d2]at C3);(try rw[d2]at C4)
 cases d3:bf x.kind x.level
 case false=>
  (try rw[d3]at C1);(try rw[d3]at C2);(try rw[d3]at C3);(try rw[d3]at C4)
  have E:Hid (bL x=false):=by show _=_;first|(simp only[bL,d1,d2,d3];done)|(simp only[bL,d1,d2,d3];rfl)|(simp[bL,d1,d2,d3];done)|((try simp at d1);(try simp at d2);(try simp at d3);simp[bL,d1,d2,d3];done)
  go_wp2_with (first|(go_at_call 175;with_reducible refine(C1.out.at_ _).mono ?_;rintro _ _ ⟨rfl,e,rfl⟩)|(go_at_call 196;with_reducible refine(C2.out.at_ _).mono ?_;rintro _ _ ⟨rfl,e,rfl⟩)|(go_at_call 194;with_reducible refine(C3.out.at_ _).mono ?_;rintro _ _ ⟨rfl,e,rfl⟩)|(go_at_call 195;with_reducible refine(C4.out.at_ _).mono ?_;rintro _ _ ⟨rfl,e,rfl⟩))
  repeat (refine ah _ (by kernel_rfl) (by kernel_rfl) ?_;(repeat (go_big_quiet_step ((first|with_reducible exact C1.out.at_ _|with_reducible exact C2.out.at_ _|with_reducible exact C3.out.at_ _|with_reducible exact C4.out.at_ _))));refine wpQuiet_nil ?_;intro e;go_wp2_with (first|(go_at_call 175;with_reducible refine(C1.out.at_ _).mono ?_;rintro _ _ ⟨rfl,e,rfl⟩)|(go_at_call 196;with_reducible refine(C2.out.at_ _).mono ?_;rintro _ _ ⟨rfl,e,rfl⟩)|(go_at_call 194;with_reducible refine(C3.out.at_ _).mono ?_;rintro _ _ ⟨rfl,e,rfl⟩)|(go_at_call 195;with_reducible refine(C4.out.at_ _).mono ?_;rintro _ _ ⟨rfl,e,rfl⟩)))
  go_ret;exact⟨by rw[E.out];rfl,_,rfl⟩
 (try rw[d3]at C1);(try rw[d3]at C2);(try rw[d3]at C3);(try rw[d3]at C4)
 have E:Hid (bL x=dL x):=by show _=_;first|(simp only[bL,d1,d2,d3];done)|(simp only[bL,d1,d2,d3];rfl)|(simp[bL,d1,d2,d3];done)|((try simp at d1);(try simp at d2);(try simp at d3);simp[bL,d1,d2,d3];done)
 go_wp2_with (first|(go_at_call 175;with_reducible refine(C1.out.at_ _).mono ?_;rintro _ _ ⟨rfl,e,rfl⟩)|(go_at_call 196;with_reducible refine(C2.out.at_ _).mono ?_;rintro _ _ ⟨rfl,e,rfl⟩)|(go_at_call 194;with_reducible refine(C3.out.at_ _).mono ?_;rintro _ _ ⟨rfl,e,rfl⟩)|(go_at_call 195;with_reducible refine(C4.out.at_ _).mono ?_;rintro _ _ ⟨rfl,e,rfl⟩))
 repeat (refine ah _ (by kernel_rfl) (by kernel_rfl) ?_;(repeat (go_big_quiet_step ((first|with_reducible exact C1.out.at_ _|with_reducible exact C2.out.at_ _|with_reducible exact C3.out.at_ _|with_reducible exact C4.out.at_ _))));refine wpQuiet_nil ?_;intro e;go_wp2_with (first|(go_at_call 175;with_reducible refine(C1.out.at_ _).mono ?_;rintro _ _ ⟨rfl,e,rfl⟩)|(go_at_call 196;with_reducible refine(C2.out.at_ _).mono ?_;rintro _ _ ⟨rfl,e,rfl⟩)|(go_at_call 194;with_reducible refine(C3.out.at_ _).mono ?_;rintro _ _ ⟨rfl,e,rfl⟩)|(go_at_call 195;with_reducible refine(C4.out.at_ _).mono ?_;rintro _ _ ⟨rfl,e,rfl⟩)))
 go_ret;exact⟨by rw[E.out];rfl,_,rfl⟩
theorem AQ(xs:List GAgent)(n:Nat){A:Option Addr}{c:Nat}{bs:List Nat}(w:World)(hx:T1 w (.sl n (xs.flatMap GAgent.enc)) bs (.slice A n c))(Hl:Hid (xs.length=n)):Calls Tryz.prog 133 #[.slice A n c] w fun e w'=>e=.returned (.bool (dw xs))∧Ext w w':=by
 refine quiet_start fun e=> ?_
 have hn:=hx.nle;have EV:Hid (dw xs=(inB n 1 600&&bR n (dW xs))):=by show _=_;rw[←Hl.out];rfl
 have C1:Hid (QC Tryz.prog w _ _ _):=fun W hW=>(kI n 1 600 W).q
 go_enter Tryz.func133,Tryz.ntmps133
 cases d1:inB n 1 600
 case false=>
  (try rw[d1]at C1)
  have E:Hid (dw xs=false):=by show _=_;rw[EV.out,d1];rfl
  go_wp2_with (first|(go_at_call 87;with_reducible refine(C1.out.at_ _).mono ?_;rintro _ _ ⟨rfl,e,rfl⟩))
  repeat (refine ah _ (by kernel_rfl) (by kernel_rfl) ?_;(repeat (go_big_quiet_step ((first|with_reducible exact C1.out.at_ _))));refine wpQuiet_nil ?_;intro e;go_wp2_with (first|(go_at_call 87;with_reducible refine(C1.out.at_ _).mono ?_;rintro _ _ ⟨rfl,e,rfl⟩)))
  go_ret;exact⟨by rw[E.out];rfl,_,rfl⟩
 (try rw[d1]at C1)
 go_wp2_with (first|(go_at_call 87;with_reducible refine(C1.out.at_ _).mono ?_;rintro _ _ ⟨rfl,e,rfl⟩))
 repeat (refine ah _ (by kernel_rfl) (by kernel_rfl) ?_;(repeat (go_big_quiet_step ((first|with_reducible exact C1.out.at_ _))));refine wpQuiet_nil ?_;intro e;go_wp2_with (first|(go_at_call 87;with_reducible refine(C1.out.at_ _).mono ?_;rintro _ _ ⟨rfl,e,rfl⟩)))
 go_loopw [3] (fun i w'=>∃k:Nat,k≤n∧i=.int .i64 k∧Hid (bR k (dW xs)=true)∧∃e:ExtOf w,w'=e.to) (fun i _=>n-(intOf i).toNat)
 case atStart=>exact⟨0,Nat.zero_le _,rfl,kP _,_,rfl⟩
 case round=>
  obtain⟨k,hk,rfl,hfk,e,rfl⟩:=hrel
  by_cases hltk:k<n
  ·skip
   obtain⟨b,off,x,bs',rfl,hxk,hp⟩:=T1.elem GAgent.aN hx Hl hltk;obtain⟨A3,c3,b3,A4,c4,b4,h0,h1,h2,h3,h4,t3,t4⟩:=GAgent.pt hp;clear h1 h2 h3 h4 t3 t4;have C2:Hid (QC Tryz.prog w _ _ _):=fun W hW=>Dv x b (off+k*5) _ W (hp.ext hW)
   have EK:Hid (dW xs k=(bL x&&((x.kind==1)==((k:Int)==0)))):=by show _=_;rw[dW,iG hxk]
   cases d2:bL x
   case false=>
    (try rw[d2]at C1);(try rw[d2]at C2)
    have E:Hid (dw xs=false):=by show _=_;rw[EV.out,fM hltk (by rw[EK.out,d2];rfl)];simp
    go_wp2_with (first|(go_at_call 87;with_reducible refine(C1.out.at_ _).mono ?_;rintro _ _ ⟨rfl,e,rfl⟩)|(go_at_call 172;with_reducible refine(C2.out.at_ _).mono ?_;rintro _ _ ⟨rfl,e,rfl⟩))
    repeat (refine ah _ (by kernel_rfl) (by kernel_rfl) ?_;(repeat (go_big_quiet_step ((first|with_reducible exact C1.out.at_ _|with_reducible exact C2.out.at_ _))));refine wpQuiet_nil ?_;intro e;go_wp2_with (first|(go_at_call 87;with_reducible refine(C1.out.at_ _).mono ?_;rintro _ _ ⟨rfl,e,rfl⟩)|(go_at_call 172;with_reducible refine(C2.out.at_ _).mono ?_;rintro _ _ ⟨rfl,e,rfl⟩)))
    go_ret;exact⟨by rw[E.out];rfl,_,rfl⟩
   (try rw[d2]at C1);(try rw[d2]at C2)
   cases d3:(x.kind==1)
   case false=>
    (try rw[d3]at C1);(try rw[d3]at C2)
    cases d4:((k:Int)==0)
    case true=>
     (try rw[d4]at C1);(try rw[d4]at C2)
     have E:Hid (dw xs=false):=by show _=_;rw[EV.out,fM hltk (by rw[EK.out,d2,d3,d4];rfl)];simp
     go_wp2_with (first|(go_at_call 87;with_reducible refine(C1.out.at_ _).mono ?_;rintro _ _ ⟨rfl,e,rfl⟩)|(go_at_call 172;with_reducible refine(C2.out.at_ _).mono ?_;rintro _ _ ⟨rfl,e,rfl⟩))
     repeat (refine ah _ (by kernel_rfl) (by kernel_rfl) ?_;(repeat (go_big_quiet_step ((first|with_reducible exact C1.out.at_ _|with_reducible exact C2.out.at_ _))));refine wpQuiet_nil ?_;intro e;go_wp2_with (first|(go_at_call 87;with_reducible refine(C1.out.at_ _).mono ?_;rintro _ _ ⟨rfl,e,rfl⟩)|(go_at_call 172;with_reducible refine(C2.out.at_ _).mono ?_;rintro _ _ ⟨rfl,e,rfl⟩)))
     go_ret;exact⟨by rw[E.out];rfl,_,rfl⟩
    (try rw[d4]at C1);(try rw[d4]at C2)
    have E:Hid (dW xs k=true):=by show _=_;rw[EK.out,d2,d3,d4];rfl
    go_wp2_with (first|(go_at_call 87;with_reducible refine(C1.out.at_ _).mono ?_;rintro _ _ ⟨rfl,e,rfl⟩)|(go_at_call 172;with_reducible refine(C2.out.at_ _).mono ?_;rintro _ _ ⟨rfl,e,rfl⟩))
    repeat (refine ah _ (by kernel_rfl) (by kernel_rfl) ?_;(repeat (go_big_quiet_step ((first|with_reducible exact C1.out.at_ _|with_reducible exact C2.out.at_ _))));refine wpQuiet_nil ?_;intro e;go_wp2_with (first|(go_at_call 87;with_reducible refine(C1.out.at_ _).mono ?_;rintro _ _ ⟨rfl,e,rfl⟩)|(go_at_call 172;with_reducible refine(C2.out.at_ _).mono ?_;rintro _ _ ⟨rfl,e,rfl⟩)))
    exact⟨⟨k+1,by omega,by go_num,dU hfk E.out,_,rfl⟩,by simp[intOf];omega⟩
   (try rw[d3]at C1);(try rw[d3]at C2)
   cases d5:((k:Int)==0)
   case false=>
    (try rw[d5]at C1);(try rw[d5]at C2)
    have E:Hid (dw xs=false):=by show _=_;rw[EV.out,fM hltk (by rw[EK.out,d2,d3,d5];rfl)];simp
    go_wp2_with (first|(go_at_call 87;with_reducible refine(C1.out.at_ _).mono ?_;rintro _ _ ⟨rfl,e,rfl⟩)|(go_at_call 172;with_reducible refine(C2.out.at_ _).mono ?_;rintro _ _ ⟨rfl,e,rfl⟩))
    repeat (refine ah _ (by kernel_rfl) (by kernel_rfl) ?_;(repeat (go_big_quiet_step ((first|with_reducible exact C1.out.at_ _|with_reducible exact C2.out.at_ _))));refine wpQuiet_nil ?_;intro e;go_wp2_with (first|(go_at_call 87;with_reducible refine(C1.out.at_ _).mono ?_;rintro _ _ ⟨rfl,e,rfl⟩)|(go_at_call 172;with_reducible refine(C2.out.at_ _).mono ?_;rintro _ _ ⟨rfl,e,rfl⟩)))
    go_ret;exact⟨by rw[E.out];rfl,_,rfl⟩
   (try rw[d5]at C1);(try rw[d5]at C2)
   have E:Hid (dW xs k=true):=by show _=_;rw[EK.out,d2,d3,d5];rfl
   go_wp2_with (first|(go_at_call 87;with_reducible refine(C1.out.at_ _).mono ?_;rintro _ _ ⟨rfl,e,rfl⟩)|(go_at_call 172;with_reducible refine(C2.out.at_ _).mono ?_;rintro _ _ ⟨rfl,e,rfl⟩))
   repeat (refine ah _ (by kernel_rfl) (by kernel_rfl) ?_;(repeat (go_big_quiet_step ((first|with_reducible exact C1.out.at_ _|with_reducible exact C2.out.at_ _))));refine wpQuiet_nil ?_;intro e;go_wp2_with (first|(go_at_call 87;with_reducible refine(C1.out.at_ _).mono ?_;rintro _ _ ⟨rfl,e,rfl⟩)|(go_at_call 172;with_reducible refine(C2.out.at_ _).mono ?_;rintro _ _ ⟨rfl,e,rfl⟩)))
   exact⟨⟨k+1,by omega,by go_num,dU hfk E.out,_,rfl⟩,by simp[intOf];omega⟩
  ·have:n=k:=by omega
   subst this;have E:Hid (dw xs=true):=by show _=_;rw[EV.out,d1,hfk.out];rfl
   go_wp2_with (first|(go_at_call 87;with_reducible refine(C1.out.at_ _).mono ?_;rintro _ _ ⟨rfl,e,rfl⟩))
   repeat (refine ah _ (by kernel_rfl) (by kernel_rfl) ?_;(repeat (go_big_quiet_step ((first|with_reducible exact C1.out.at_ _))));refine wpQuiet_nil ?_;intro e;go_wp2_with (first|(go_at_call 87;with_reducible refine(C1.out.at_ _).mono ?_;rintro _ _ ⟨rfl,e,rfl⟩)))
   go_ret;exact⟨by rw[E.out];rfl,_,rfl⟩
theorem Fp(xs:List GAgent)(n:Nat){A:Option Addr}{c:Nat}{bs:List Nat}(p:ak)(w:World)(hx:T1 w (.sl n (xs.flatMap GAgent.enc)) bs (.slice A n c))(Hl:Hid (xs.length=n)):Calls Tryz.prog 134 #[.slice A n c,.agg #[.int .i64 p.agent,.int .i64 p.slot]] w fun e w'=>e=.returned (.bool (eG xs p))∧Ext w w':=by
 refine quiet_start fun e=> ?_
 have hn:=hx.nle;have EV:Hid (eG xs p=(inB p.agent 0 ((n:Int)-1)&&inB p.slot 0 (((dV xs p.agent.toNat).ports.length:Int)-1))):=by show _=_;rw[←Hl.out];rfl
 go_enter Tryz.func134,Tryz.ntmps134
 go_upto_region 1 with(fail)
 generalize hgg:e.to.heap.size=g;refine rebase_box e hgg (fun w1 e hx1 hgeg hltg cg=> ?_);clear hgg
 replace hx:=hx.below hx1
 obtain⟨k0,k1⟩:=ak.KP (dI.box hltg cg ak.wI);have C1:Hid (QC Tryz.prog w1 _ _ _):=fun W hW=>(kI p.agent 0 ((n:Int)-1) W).q
 cases d1:inB p.agent 0 ((n:Int)-1)
 case false=>
  (try rw[d1]at C1)
  have hw0:IntKind.i64.wrap ((n:Int)-1)=(n:Int)-1:=IntWalk.i64_in _ (by omega);have E:Hid (eG xs p=false):=by show _=_;rw[EV.out,d1];rfl
  go_wp2_with (first|(go_at_call 87;with_reducible refine(C1.out.at_ _).mono ?_;rintro _ _ ⟨rfl,e,rfl⟩))
  repeat (refine ah _ (by kernel_rfl) (by kernel_rfl) ?_;(repeat (go_big_quiet_step ((first|with_reducible exact C1.out.at_ _))));refine wpQuiet_nil ?_;intro e;go_wp2_with (first|(go_at_call 87;with_reducible refine(C1.out.at_ _).mono ?_;rintro _ _ ⟨rfl,e,rfl⟩)))
  go_ret;exact⟨by rw[E.out];rfl,ExtOf.old hx1 e⟩
 (try rw[d1]at C1)
 have hr:=inB_t d1;obtain⟨i,hi⟩:=Int.eq_ofNat_of_zero_le hr.1;have hlt:i<n:=by omega
 obtain⟨b,off,x,bs',rfl,hxk,hp⟩:=T1.elem GAgent.aN hx Hl hlt;obtain⟨A3,c3,b3,A4,c4,b4,h0,h1,h2,h3,h4,t3,t4⟩:=GAgent.pt hp;have hn4:=t4.nle;clear h0 h1 h2 h3 t3;have EA:Hid (dV xs p.agent.toNat=x):=by show _=_;rw[hi,Int.toNat_natCast];exact iG hxk
 rw[hi]at k0 d1 C1;have Hi:=Lib.hid hi;clear hi;have C2:Hid (QC Tryz.prog w1 _ _ _):=fun W hW=>(kI p.slot 0 ((x.ports.length:Int)-1) W).q
 have hw0:IntKind.i64.wrap ((n:Int)-1)=(n:Int)-1:=IntWalk.i64_in _ (by omega);have hw1:IntKind.i64.wrap ((x.ports.length:Int)-1)=(x.ports.length:Int)-1:=IntWalk.i64_in _ (by omega);have E:Hid (eG xs p=inB p.slot 0 ((x.ports.length:Int)-1)):=by show _=_;rw[EV.out,EA.out,Hi.out,d1];rfl
 go_wp2_with (first|(go_at_call 87;with_reducible refine(C1.out.at_ _).mono ?_;rintro _ _ ⟨rfl,e,rfl⟩)|(go_at_call 87;with_reducible refine(C2.out.at_ _).mono ?_;rintro _ _ ⟨rfl,e,rfl⟩))
 repeat (refine ah _ (by kernel_rfl) (by kernel_rfl) ?_;(repeat (go_big_quiet_step ((first|with_reducible exact C1.out.at_ _|with_reducible exact C2.out.at_ _))));refine wpQuiet_nil ?_;intro e;go_wp2_with (first|(go_at_call 87;with_reducible refine(C1.out.at_ _).mono ?_;rintro _ _ ⟨rfl,e,rfl⟩)|(go_at_call 87;with_reducible refine(C2.out.at_ _).mono ?_;rintro _ _ ⟨rfl,e,rfl⟩)))
 go_ret;exact⟨by rw[E.out];rfl,ExtOf.old hx1 e⟩
theorem BI(x:GNet)(b o:Nat)(bs:List Nat)(w:World)(h:dI w b o x.enc bs):Calls Tryz.prog 85 #[.pointer (some ⟨b,o,none⟩)] w fun e w'=>e=.returned (.bool (eT x))∧Ext w w':=by
 refine quiet_start fun e=> ?_
 obtain⟨A0,c0,b0,h0,t0⟩:=GNet.pt h;have hn0:=t0.nle;have EV:Hid (eT x=(dw x.agents&&bR x.agents.length (mE x.agents))):=rfl;have C1:Hid (QC Tryz.prog w _ _ _):=fun W hW=>AQ x.agents _ W (t0.below hW) Hid_rfl
 go_enter Tryz.func85,Tryz.ntmps85
 cases d1:dw x.agents
 case false=>
  (try rw[d1]at C1)
  have E:Hid (eT x=false):=by show _=_;rw[EV.out,d1];rfl
  go_wp2_with (first|(go_at_call 133;with_reducible refine(C1.out.at_ _).mono ?_;rintro _ _ ⟨rfl,e,rfl⟩))
  repeat (refine ah _ (by kernel_rfl) (by kernel_rfl) ?_;(repeat (go_big_quiet_step ((first|with_reducible exact C1.out.at_ _))));refine wpQuiet_nil ?_;intro e;go_wp2_with (first|(go_at_call 133;with_reducible refine(C1.out.at_ _).mono ?_;rintro _ _ ⟨rfl,e,rfl⟩)))
  go_ret;exact⟨by rw[E.out];rfl,_,rfl⟩
 (try rw[d1]at C1)
 go_wp2_with (first|(go_at_call 133;with_reducible refine(C1.out.at_ _).mono ?_;rintro _ _ ⟨rfl,e,rfl⟩))
 repeat (refine ah _ (by kernel_rfl) (by kernel_rfl) ?_;(repeat (go_big_quiet_step ((first|with_reducible exact C1.out.at_ _))));refine wpQuiet_nil ?_;intro e;go_wp2_with (first|(go_at_call 133;with_reducible refine(C1.out.at_ _).mono ?_;rintro _ _ ⟨rfl,e,rfl⟩)))
 go_loopw [3] (fun i w'=>∃k:Nat,k≤x.agents.length∧i=.int .i64 k∧Hid (bR k (mE x.agents)=true)∧∃e:ExtOf w,w'=e.to) (fun i _=>x.agents.length-(intOf i).toNat)
 case atStart=>exact⟨0,Nat.zero_le _,rfl,kP _,_,rfl⟩
 case round=>
  obtain⟨k,hk,rfl,hfk,e,rfl⟩:=hrel
  by_cases hltk:k<x.agents.length
  ·skip
   obtain⟨b',off,y,bs',rfl,hyk,hp⟩:=T1.elem GAgent.aN t0 Hid_rfl hltk;obtain⟨A3,c3,b3,A4,c4,b4,g0,g1,g2,g3,g4,t3,t4⟩:=GAgent.pt hp;have hn4:=t4.nle;clear g0 g1 g2 g3 t3;have EK:Hid (mE x.agents k=bR y.ports.length fun j=>lT x.agents ⟨k,j⟩ (gK y.ports j)):=by show _=_;rw[mE,iG hyk]
   go_wp2_with fail
   repeat (refine ah _ (by kernel_rfl) (by kernel_rfl) ?_;(repeat (go_big_quiet_step (fail)));refine wpQuiet_nil ?_;intro e;go_wp2_with fail)
   go_loopw [5] (fun i w'=>∃j:Nat,j≤y.ports.length∧i=.int .i64 j∧Hid (bR j (fun j=>lT x.agents ⟨k,j⟩ (gK y.ports j))=true)∧∃e:ExtOf w,w'=e.to) (fun i _=>y.ports.length-(intOf i).toNat)
   case atStart=>exact⟨0,Nat.zero_le _,rfl,kP _,_,rfl⟩
   case round=>
    obtain⟨j,hj,rfl,hfj,e,rfl⟩:=hrel
    by_cases hltj:j<y.ports.length
    ·skip
     obtain⟨bq,oq,q,bs2,rfl,hqj,hq⟩:=T1.elem ak.aN t4 Hid_rfl hltj;obtain⟨q0,q1⟩:=ak.pt hq;have EJ:Hid (lT x.agents ⟨k,j⟩ (gK y.ports j)=lT x.agents ⟨k,j⟩ q):=by show _=_;rw[pW hqj]
     go_upto_region 11 with(fail)
     generalize hgga:e.to.heap.size=ga;refine rebase_box e hgga (fun w1 e hx1 hgega hltga cga=> ?_);clear hgga
     replace h0:=h0.ext hx1
     replace g4:=g4.ext hx1
     replace q0:=q0.ext hx1
     replace q1:=q1.ext hx1
     replace t0:=t0.below hx1
     replace t4:=t4.below hx1
     obtain⟨k0,k1⟩:=ak.KP (x:=⟨k,j⟩) (dI.box hltga cga ak.wI);simp only[]at k0 k1;clear cga
     go_upto_region 12 with(fail)
     generalize hggb:e.to.heap.size=gb;refine rebase_box e hggb (fun w2 e hx2 hgegb hltgb cgb=> ?_);clear hggb
     replace h0:=h0.ext hx2
     replace g4:=g4.ext hx2
     replace k0:=k0.ext hx2
     replace k1:=k1.ext hx2
     replace t0:=t0.below hx2
     replace t4:=t4.below hx2
     have hy2:=Ext.trans hx1 hx2;obtain⟨p0,p1⟩:=ak.KP (x:=q) (dI.box hltgb cgb ak.wI);clear cgb q0 q1;have hg:=Qq;have heq:=fun W=>JI W q ⟨k,j⟩
     dsimp only at heq;have C2:Hid (QC Tryz.prog w2 _ _ _):=fun W hW=>Fp x.agents _ q W (t0.below hW) Hid_rfl
     cases d2:eqb q ⟨k,j⟩
     case true=>
      (try rw[d2]at C2)
      have E:Hid (eT x=false):=by show _=_;rw[EV.out,fM hltk (by rw[EK.out];exact fM hltj (by rw[EJ.out];simp[lT,d2]))];simp
      go_wp2_with (first|(go_at_call 134;with_reducible refine(C2.out.at_ _).mono ?_;rintro _ _ ⟨rfl,e,rfl⟩))
      repeat (refine ah _ (by kernel_rfl) (by kernel_rfl) ?_;(repeat (go_big_quiet_step ((first|with_reducible exact C2.out.at_ _))));refine wpQuiet_nil ?_;intro e;go_wp2_with (first|(go_at_call 134;with_reducible refine(C2.out.at_ _).mono ?_;rintro _ _ ⟨rfl,e,rfl⟩)))
      go_ret;exact⟨by rw[E.out];rfl,ExtOf.old hy2 e⟩
     (try rw[d2]at C2)
     cases d3:eG x.agents q
     case false=>
      (try rw[d3]at C2)
      have E:Hid (eT x=false):=by show _=_;rw[EV.out,fM hltk (by rw[EK.out];exact fM hltj (by rw[EJ.out];simp[lT,d2,d3]))];simp
      go_wp2_with (first|(go_at_call 134;with_reducible refine(C2.out.at_ _).mono ?_;rintro _ _ ⟨rfl,e,rfl⟩))
      repeat (refine ah _ (by kernel_rfl) (by kernel_rfl) ?_;(repeat (go_big_quiet_step ((first|with_reducible exact C2.out.at_ _))));refine wpQuiet_nil ?_;intro e;go_wp2_with (first|(go_at_call 134;with_reducible refine(C2.out.at_ _).mono ?_;rintro _ _ ⟨rfl,e,rfl⟩)))
      go_ret;exact⟨by rw[E.out];rfl,ExtOf.old hy2 e⟩
     (try rw[d3]at C2)
     obtain⟨i,s,a,r,rfl,hi,ha,hs,hr,hpeer⟩:=FR d3;have Hpeer:=Lib.hid hpeer;clear hpeer;obtain⟨bz,oz,z,bs3,hA0,hzi,hz⟩:=T1.elem GAgent.aN t0 Hid_rfl hi;obtain⟨_,rfl⟩:True∧z=a:=⟨trivial,Option.some.inj (hzi.out.symm.trans ha.out)⟩;obtain⟨rfl,rfl⟩:b'=bz∧off=oz:=by simpa using hA0
     clear hA0;obtain⟨A3,c3,b3,A5,c5,b5,u0,u1,u2,u3,u4,t3,t5⟩:=GAgent.pt hz;have hn5:=t5.nle;clear u0 u1 u2 u3 t3;obtain⟨bt,ot,r',bs4,rfl,hrs,hrr⟩:=T1.elem ak.aN t5 Hid_rfl hs;obtain⟨_,rfl⟩:True∧r'=r:=⟨trivial,Option.some.inj (hrs.out.symm.trans hr.out)⟩;obtain⟨r0,r1⟩:=ak.pt hrr;have hne:=fun W=>JJ W r' ⟨k,j⟩
     dsimp only at hne;cases d4:eqb r' ⟨k,j⟩
     case false=>
      (try rw[d4]at C2)
      have E:Hid (eT x=false):=by show _=_;rw[EV.out,fM hltk (by rw[EK.out];exact fM hltj (by rw[EJ.out];simp[lT,Hpeer.out,d2,d3,d4]))];simp
      go_wp2_with (first|(go_at_call 134;with_reducible refine(C2.out.at_ _).mono ?_;rintro _ _ ⟨rfl,e,rfl⟩))
      repeat (refine ah _ (by kernel_rfl) (by kernel_rfl) ?_;(repeat (go_big_quiet_step ((first|with_reducible exact C2.out.at_ _))));refine wpQuiet_nil ?_;intro e;go_wp2_with (first|(go_at_call 134;with_reducible refine(C2.out.at_ _).mono ?_;rintro _ _ ⟨rfl,e,rfl⟩)))
      go_ret;exact⟨by rw[E.out];rfl,ExtOf.old hy2 e⟩
     (try rw[d4]at C2)
     have E:Hid (lT x.agents ⟨k,j⟩ (gK y.ports j)=true):=by show _=_;rw[EJ.out];simp[lT,Hpeer.out,d2,d3,d4]
     go_wp2_with (first|(go_at_call 134;with_reducible refine(C2.out.at_ _).mono ?_;rintro _ _ ⟨rfl,e,rfl⟩))
     repeat (refine ah _ (by kernel_rfl) (by kernel_rfl) ?_;(repeat (go_big_quiet_step ((first|with_reducible exact C2.out.at_ _))));refine wpQuiet_nil ?_;intro e;go_wp2_with (first|(go_at_call 134;with_reducible refine(C2.out.at_ _).mono ?_;rintro _ _ ⟨rfl,e,rfl⟩)))
     exact⟨⟨j+1,by omega,by go_num,dU hfj E.out,⟨e.to,hy2.trans e.h⟩,rfl⟩,by simp[intOf];omega⟩
    ·have:y.ports.length=j:=by omega
     subst this;have E:Hid (mE x.agents k=true):=by show _=_;rw[EK.out];exact hfj.out
     go_wp2_with fail
     repeat (refine ah _ (by kernel_rfl) (by kernel_rfl) ?_;(repeat (go_big_quiet_step (fail)));refine wpQuiet_nil ?_;intro e;go_wp2_with fail)
     exact⟨⟨k+1,by omega,by go_num,dU hfk E.out,_,rfl⟩,by simp[intOf];omega⟩
  ·have:x.agents.length=k:=by omega
   subst this;have E:Hid (eT x=true):=by show _=_;rw[EV.out,d1,hfk.out];rfl
   go_wp2_with fail
   repeat (refine ah _ (by kernel_rfl) (by kernel_rfl) ?_;(repeat (go_big_quiet_step (fail)));refine wpQuiet_nil ?_;intro e;go_wp2_with fail)
   go_ret;exact⟨by rw[E.out];rfl,_,rfl⟩
theorem tH(x:GNet){A:Option Addr}{c:Nat}{bs:List Nat}(w:World)(hx:T1 w (.sl x.agents.length (x.agents.flatMap GAgent.enc)) bs (.slice A x.agents.length c)):Calls Tryz.prog 148 #[.agg #[.slice A x.agents.length c]] w fun e w'=>e=.returned (.bool ((!eT x)))∧Ext w w':=by
 refine quiet_start fun e=> ?_
 go_enter Tryz.func148,Tryz.ntmps148
 go_upto_region 1 with(fail)
 generalize hgg:e.to.heap.size=g;refine rebase_box e hgg (fun w1 e hx1 hgeg hltg cg=> ?_);clear hgg
 replace hx:=hx.below hx1
 have k0:=cg.always hltg 0 _ rfl;simp only[Nat.zero_add]at k0;clear cg;have C1:Hid (QC Tryz.prog w1 _ _ _):=fun W hW=>o8 x W (GNet.wI (hx.below hW))
 go_wp2_with (first|(go_at_call 95;with_reducible refine(C1.out.at_ _).mono ?_;rintro _ _ ⟨rfl,e,rfl⟩))
 repeat (refine ah _ (by kernel_rfl) (by kernel_rfl) ?_;(repeat (go_big_quiet_step ((first|with_reducible exact C1.out.at_ _))));refine wpQuiet_nil ?_;intro e;go_wp2_with (first|(go_at_call 95;with_reducible refine(C1.out.at_ _).mono ?_;rintro _ _ ⟨rfl,e,rfl⟩)))
 go_ret;exact⟨rfl,ExtOf.old hx1 e⟩
theorem uD(xs:List GNet)(n:Nat){A:Option Addr}{c:Nat}{bs:List Nat}(w:World)(hx:T1 w (.sl n (xs.flatMap GNet.enc)) bs (.slice A n c))(Hl:Hid (xs.length=n)):Calls Tryz.prog 182 #[.slice A n c,.func (.func 148) #[] #[]] w fun e w'=>e=.returned (.int .i64 (idxOf n (fun k=> !eT (jK xs k))))∧Ext w w':=by
 refine quiet_start fun e=> ?_
 have hn:=hx.nle
 go_enter Tryz.func182,Tryz.ntmps182
 go_wp2_with fail
 repeat (refine ah _ (by kernel_rfl) (by kernel_rfl) ?_;(repeat (go_big_quiet_step (fail)));refine wpQuiet_nil ?_;intro e;go_wp2_with fail)
 go_loopw [5,8] (fun _ i w'=>∃k:Nat,k≤n∧i=.int .i64 k∧Hid (bR k (fun k=> !!eT (jK xs k))=true)∧∃e:ExtOf w,w'=e.to) (fun _ i _=>n-(intOf i).toNat)
 case atStart=>exact⟨0,Nat.zero_le _,rfl,kP _,_,rfl⟩
 case round=>
  obtain⟨k,hk,rfl,hf,e,rfl⟩:=hrel
  by_cases hlt:k<n
  ·skip
   obtain⟨b,off,x,bs',rfl,hxk,hp⟩:=T1.elem GNet.aN hx Hl hlt;obtain⟨A0,c0,b0,kx0,tx0⟩:=GNet.pt hp;rw[Nat.mul_one]at kx0;have EP:Hid ((!eT (jK xs k))= !eT x):=by show _=_;rw[Fy hxk]
   have C1:Hid (QC Tryz.prog w _ _ _):=fun W hW=>tH x W (tx0.below hW)
   cases d1:(!eT x)
   case true=>
    (try rw[d1]at C1)
    have E:Hid (idxOf n (fun k=> !eT (jK xs k))=(k:Int)):=by show _=_;exact vL hf hlt (by rw[EP.out];exact d1)
    go_wp2_with (first|(go_at_call 148;with_reducible refine(C1.out.at_ _).mono ?_;rintro _ _ ⟨rfl,e,rfl⟩))
    repeat (refine ah _ (by kernel_rfl) (by kernel_rfl) ?_;(repeat (go_big_quiet_step ((first|with_reducible exact C1.out.at_ _))));refine wpQuiet_nil ?_;intro e;go_wp2_with (first|(go_at_call 148;with_reducible refine(C1.out.at_ _).mono ?_;rintro _ _ ⟨rfl,e,rfl⟩)))
    go_ret;exact⟨by rw[E.out];rfl,_,rfl⟩
   (try rw[d1]at C1)
   have E:Hid ((!!eT (jK xs k))=true):=by show _=_;rw[EP.out,d1];rfl
   go_wp2_with (first|(go_at_call 148;with_reducible refine(C1.out.at_ _).mono ?_;rintro _ _ ⟨rfl,e,rfl⟩))
   repeat (refine ah _ (by kernel_rfl) (by kernel_rfl) ?_;(repeat (go_big_quiet_step ((first|with_reducible exact C1.out.at_ _))));refine wpQuiet_nil ?_;intro e;go_wp2_with (first|(go_at_call 148;with_reducible refine(C1.out.at_ _).mono ?_;rintro _ _ ⟨rfl,e,rfl⟩)))
   exact⟨⟨k+1,by omega,by go_num,dU hf E.out,_,rfl⟩,by simp[intOf];omega⟩
  ·have:n=k:=by omega
   subst this;have E:Hid (idxOf n (fun k=> !eT (jK xs k))= -1):=by show _=_;exact nI hf
   go_wp2_with fail
   repeat (refine ah _ (by kernel_rfl) (by kernel_rfl) ?_;(repeat (go_big_quiet_step (fail)));refine wpQuiet_nil ?_;intro e;go_wp2_with fail)
   go_ret;exact⟨by rw[E.out];rfl,_,rfl⟩
theorem qO(xs:List GNet)(n:Nat){A:Option Addr}{c:Nat}{bs:List Nat}(w:World)(hx:T1 w (.sl n (xs.flatMap GNet.enc)) bs (.slice A n c))(Hl:Hid (xs.length=n)):Calls Tryz.prog 147 #[.slice A n c,.func (.func 148) #[] #[]] w fun e w'=>e=.returned (.bool (lD n (fun k=> !eT (jK xs k))))∧Ext w w':=by
 refine quiet_start fun e=> ?_
 have C1:Hid (QC Tryz.prog w _ _ _):=fun W hW=>uD xs n W (hx.below hW) Hl
 have hc:=vM n (fun k=> !eT (jK xs k))
 go_enter Tryz.func147,Tryz.ntmps147
 go_wp2_with (first|(go_at_call 182;with_reducible refine(C1.out.at_ _).mono ?_;rintro _ _ ⟨rfl,e,rfl⟩))
 repeat (refine ah _ (by kernel_rfl) (by kernel_rfl) ?_;(repeat (go_big_quiet_step ((first|with_reducible exact C1.out.at_ _))));refine wpQuiet_nil ?_;intro e;go_wp2_with (first|(go_at_call 182;with_reducible refine(C1.out.at_ _).mono ?_;rintro _ _ ⟨rfl,e,rfl⟩)))
 go_ret;exact⟨by rw[←hc];rfl,_,rfl⟩
theorem uN(xs:List GNet)(n:Nat){A:Option Addr}{c:Nat}{bs:List Nat}(w:World)(hx:T1 w (.sl n (xs.flatMap GNet.enc)) bs (.slice A n c))(Hl:Hid (xs.length=n)):Calls Tryz.prog 94 #[.slice A n c] w fun e w'=>e=.returned (.bool (jB xs))∧Ext w w':=by
 refine quiet_start fun e=> ?_
 have hn:=hx.nle;have EV:Hid (jB xs=(decide ((n:Int)≤24)&&bR n fun k=>eT (jK xs k))):=by show _=_;rw[←Hl.out];rfl
 have hc:(!lD n (fun k=> !eT (jK xs k)))=bR n (fun k=>eT (jK xs k)):=by simp[lD]
 have HC:=Lib.hid hc;clear hc;have C1:Hid (QC Tryz.prog w _ _ _):=fun W hW=>qO xs n W (hx.below hW) Hl
 go_enter Tryz.func94,Tryz.ntmps94
 cases d1:decide ((n:Int)≤24)
 case false=>
  (try rw[d1]at C1)
  have E:Hid (jB xs=false):=by show _=_;rw[EV.out,d1];rfl
  go_wp2_with (first|(go_at_call 147;with_reducible refine(C1.out.at_ _).mono ?_;rintro _ _ ⟨rfl,e,rfl⟩))
  repeat (refine ah _ (by kernel_rfl) (by kernel_rfl) ?_;(repeat (go_big_quiet_step ((first|with_reducible exact C1.out.at_ _))));refine wpQuiet_nil ?_;intro e;go_wp2_with (first|(go_at_call 147;with_reducible refine(C1.out.at_ _).mono ?_;rintro _ _ ⟨rfl,e,rfl⟩)))
  go_ret;exact⟨by rw[E.out];rfl,_,rfl⟩
 (try rw[d1]at C1)
 have E:Hid (jB xs= !lD n (fun k=> !eT (jK xs k))):=by show _=_;rw[EV.out,d1,HC.out];rfl
 go_wp2_with (first|(go_at_call 147;with_reducible refine(C1.out.at_ _).mono ?_;rintro _ _ ⟨rfl,e,rfl⟩))
 repeat (refine ah _ (by kernel_rfl) (by kernel_rfl) ?_;(repeat (go_big_quiet_step ((first|with_reducible exact C1.out.at_ _))));refine wpQuiet_nil ?_;intro e;go_wp2_with (first|(go_at_call 147;with_reducible refine(C1.out.at_ _).mono ?_;rintro _ _ ⟨rfl,e,rfl⟩)))
 go_ret;exact⟨by rw[E.out];rfl,_,rfl⟩
theorem uM(s:Int)(w:World):Calls Tryz.prog 155 #[.int .i64 s] w fun e w'=>e=.returned (.bool ((!inB s 0 600)))∧Ext w w':=by
 refine quiet_start fun e=> ?_
 go_enter Tryz.func155,Tryz.ntmps155
 cases d1:decide (s<0)
 case true=>
  have E:Hid ((!inB s 0 600)=true):=by show _=_;simp at d1;rw[wW (Or.inl d1)];rfl
  go_wp2_with fail
  repeat (refine ah _ (by kernel_rfl) (by kernel_rfl) ?_;(repeat (go_big_quiet_step (fail)));refine wpQuiet_nil ?_;intro e;go_wp2_with fail)
  go_ret;exact⟨by rw[E.out];rfl,_,rfl⟩
 have E:Hid ((!inB s 0 600)=decide (600<s)):=by show _=_;simp at d1;unfold inB;rw[show decide ((0:Int)≤s)=true by simpa using d1,Bool.true_and];rw[Bool.eq_iff_iff];simp
 go_wp2_with fail
 repeat (refine ah _ (by kernel_rfl) (by kernel_rfl) ?_;(repeat (go_big_quiet_step (fail)));refine wpQuiet_nil ?_;intro e;go_wp2_with fail)
 go_ret;exact⟨by rw[E.out];rfl,_,rfl⟩
theorem zf(xs:List Int)(n:Nat){A:Option Addr}{c:Nat}{bs:List Nat}(w:World)(hx:T1 w (.sl n (xs.flatMap intE)) bs (.slice A n c))(Hl:Hid (xs.length=n)):Calls Tryz.prog 185 #[.slice A n c,.func (.func 155) #[] #[]] w fun e w'=>e=.returned (.int .i64 (idxOf n (fun k=> !inB (bO xs k) 0 600)))∧Ext w w':=by
 refine quiet_start fun e=> ?_
 have hn:=hx.nle
 go_enter Tryz.func185,Tryz.ntmps185
 go_wp2_with fail
 repeat (refine ah _ (by kernel_rfl) (by kernel_rfl) ?_;(repeat (go_big_quiet_step (fail)));refine wpQuiet_nil ?_;intro e;go_wp2_with fail)
 go_loopw [5,8] (fun _ i w'=>∃k:Nat,k≤n∧i=.int .i64 k∧Hid (bR k (fun k=> !!inB (bO xs k) 0 600)=true)∧∃e:ExtOf w,w'=e.to) (fun _ i _=>n-(intOf i).toNat)
 case atStart=>exact⟨0,Nat.zero_le _,rfl,kP _,_,rfl⟩
 case round=>
  obtain⟨k,hk,rfl,hf,e,rfl⟩:=hrel
  by_cases hlt:k<n
  ·skip
   obtain⟨b,off,x,bs',rfl,hxk,hp⟩:=T1.elem (s:=1) (fun _=>rfl) hx Hl hlt;have kx:=Dr hp;rw[Nat.mul_one]at kx;have EP:Hid ((!inB (bO xs k) 0 600)= !inB x 0 600):=by show _=_;rw[zh hxk]
   have C1:Hid (QC Tryz.prog w _ _ _):=fun W hW=>uM x W
   cases d1:(!inB x 0 600)
   case true=>
    (try rw[d1]at C1)
    have E:Hid (idxOf n (fun k=> !inB (bO xs k) 0 600)=(k:Int)):=by show _=_;exact vL hf hlt (by rw[EP.out];exact d1)
    go_wp2_with (first|(go_at_call 155;with_reducible refine(C1.out.at_ _).mono ?_;rintro _ _ ⟨rfl,e,rfl⟩))
    repeat (refine ah _ (by kernel_rfl) (by kernel_rfl) ?_;(repeat (go_big_quiet_step ((first|with_reducible exact C1.out.at_ _))));refine wpQuiet_nil ?_;intro e;go_wp2_with (first|(go_at_call 155;with_reducible refine(C1.out.at_ _).mono ?_;rintro _ _ ⟨rfl,e,rfl⟩)))
    go_ret;exact⟨by rw[E.out];rfl,_,rfl⟩
   (try rw[d1]at C1)
   have E:Hid ((!!inB (bO xs k) 0 600)=true):=by show _=_;rw[EP.out,d1];rfl
   go_wp2_with (first|(go_at_call 155;with_reducible refine(C1.out.at_ _).mono ?_;rintro _ _ ⟨rfl,e,rfl⟩))
   repeat (refine ah _ (by kernel_rfl) (by kernel_rfl) ?_;(repeat (go_big_quiet_step ((first|with_reducible exact C1.out.at_ _))));refine wpQuiet_nil ?_;intro e;go_wp2_with (first|(go_at_call 155;with_reducible refine(C1.out.at_ _).mono ?_;rintro _ _ ⟨rfl,e,rfl⟩)))
   exact⟨⟨k+1,by omega,by go_num,dU hf E.out,_,rfl⟩,by simp[intOf];omega⟩
  ·have:n=k:=by omega
   subst this;have E:Hid (idxOf n (fun k=> !inB (bO xs k) 0 600)= -1):=by show _=_;exact nI hf
   go_wp2_with fail
   repeat (refine ah _ (by kernel_rfl) (by kernel_rfl) ?_;(repeat (go_big_quiet_step (fail)));refine wpQuiet_nil ?_;intro e;go_wp2_with fail)
   go_ret;exact⟨by rw[E.out];rfl,_,rfl⟩
theorem vk(xs:List Int)(n:Nat){A:Option Addr}{c:Nat}{bs:List Nat}(w:World)(hx:T1 w (.sl n (xs.flatMap intE)) bs (.slice A n c))(Hl:Hid (xs.length=n)):Calls Tryz.prog 154 #[.slice A n c,.func (.func 155) #[] #[]] w fun e w'=>e=.returned (.bool (lD n (fun k=> !inB (bO xs k) 0 600)))∧Ext w w':=by
 refine quiet_start fun e=> ?_
 have C1:Hid (QC Tryz.prog w _ _ _):=fun W hW=>zf xs n W (hx.below hW) Hl
 have hc:=vM n (fun k=> !inB (bO xs k) 0 600)
 go_enter Tryz.func154,Tryz.ntmps154
 go_wp2_with (first|(go_at_call 185;with_reducible refine(C1.out.at_ _).mono ?_;rintro _ _ ⟨rfl,e,rfl⟩))
 repeat (refine ah _ (by kernel_rfl) (by kernel_rfl) ?_;(repeat (go_big_quiet_step ((first|with_reducible exact C1.out.at_ _))));refine wpQuiet_nil ?_;intro e;go_wp2_with (first|(go_at_call 185;with_reducible refine(C1.out.at_ _).mono ?_;rintro _ _ ⟨rfl,e,rfl⟩)))
 go_ret;exact⟨by rw[←hc];rfl,_,rfl⟩
theorem wF(xs:List Int)(n:Nat){A:Option Addr}{c:Nat}{bs:List Nat}(w:World)(hx:T1 w (.sl n (xs.flatMap intE)) bs (.slice A n c))(Hl:Hid (xs.length=n)):Calls Tryz.prog 96 #[.slice A n c] w fun e w'=>e=.returned (.bool (schedB xs))∧Ext w w':=by
 refine quiet_start fun e=> ?_
 have hn:=hx.nle;have EV:Hid (schedB xs=(decide ((n:Int)≤200)&&bR n fun k=>inB (bO xs k) 0 600)):=by show _=_;rw[←Hl.out];rfl
 have hc:(!lD n (fun k=> !inB (bO xs k) 0 600))=bR n (fun k=>inB (bO xs k) 0 600):=by simp[lD]
 have HC:=Lib.hid hc;clear hc;have C1:Hid (QC Tryz.prog w _ _ _):=fun W hW=>vk xs n W (hx.below hW) Hl
 go_enter Tryz.func96,Tryz.ntmps96
 cases d1:decide ((n:Int)≤200)
 case false=>
  (try rw[d1]at C1)
  have E:Hid (schedB xs=false):=by show _=_;rw[EV.out,d1];rfl
  go_wp2_with (first|(go_at_call 154;with_reducible refine(C1.out.at_ _).mono ?_;rintro _ _ ⟨rfl,e,rfl⟩))
  repeat (refine ah _ (by kernel_rfl) (by kernel_rfl) ?_;(repeat (go_big_quiet_step ((first|with_reducible exact C1.out.at_ _))));refine wpQuiet_nil ?_;intro e;go_wp2_with (first|(go_at_call 154;with_reducible refine(C1.out.at_ _).mono ?_;rintro _ _ ⟨rfl,e,rfl⟩)))
  go_ret;exact⟨by rw[E.out];rfl,_,rfl⟩
 (try rw[d1]at C1)
 have E:Hid (schedB xs= !lD n (fun k=> !inB (bO xs k) 0 600)):=by show _=_;rw[EV.out,d1,HC.out];rfl
 go_wp2_with (first|(go_at_call 154;with_reducible refine(C1.out.at_ _).mono ?_;rintro _ _ ⟨rfl,e,rfl⟩))
 repeat (refine ah _ (by kernel_rfl) (by kernel_rfl) ?_;(repeat (go_big_quiet_step ((first|with_reducible exact C1.out.at_ _))));refine wpQuiet_nil ?_;intro e;go_wp2_with (first|(go_at_call 154;with_reducible refine(C1.out.at_ _).mono ?_;rintro _ _ ⟨rfl,e,rfl⟩)))
 go_ret;exact⟨by rw[E.out];rfl,_,rfl⟩
theorem Fq(xs:List GNet)(n:Nat){A:Option Addr}{c:Nat}{bs:List Nat}(w:World)(hx:T1 w (.sl n (xs.flatMap GNet.enc)) bs (.slice A n c))(Hl:Hid (xs.length=n)):Calls Tryz.prog 84 #[.slice A n c] w fun e w'=>e=.returned (.bool (jB xs))∧Ext w w':=by
 refine quiet_start fun e=> ?_
 have hn:=hx.nle;have EV:Hid (jB xs=(decide ((n:Int)≤24)&&bR n fun k=>eT (jK xs k))):=by show _=_;rw[←Hl.out];rfl
 go_enter Tryz.func84,Tryz.ntmps84
 cases d1:decide ((24:Int)<n)
 case true=>
  have E:Hid (jB xs=false):=by show _=_;rw[EV.out,show decide ((n:Int)≤24)=false by simp at d1;simp;omega];rfl
  go_wp2_with fail
  repeat (refine ah _ (by kernel_rfl) (by kernel_rfl) ?_;(repeat (go_big_quiet_step (fail)));refine wpQuiet_nil ?_;intro e;go_wp2_with fail)
  go_ret;exact⟨by rw[E.out];rfl,_,rfl⟩
 have EN:Hid (decide ((n:Int)≤24)=true):=by show _=_;simp at d1;simp;omega
 go_wp2_with fail
 repeat (refine ah _ (by kernel_rfl) (by kernel_rfl) ?_;(repeat (go_big_quiet_step (fail)));refine wpQuiet_nil ?_;intro e;go_wp2_with fail)
 go_loopw [3] (fun i w'=>∃k:Nat,k≤n∧i=.int .i64 k∧Hid (bR k (fun k=>eT (jK xs k))=true)∧∃e:ExtOf w,w'=e.to) (fun i _=>n-(intOf i).toNat)
 case atStart=>exact⟨0,Nat.zero_le _,rfl,kP _,_,rfl⟩
 case round=>
  obtain⟨k,hk,rfl,hfk,e,rfl⟩:=hrel
  by_cases hltk:k<n
  ·skip
   obtain⟨b,off,x,bs',rfl,hxk,hp⟩:=T1.elem GNet.aN hx Hl hltk;have EK:Hid (eT (jK xs k)=eT x):=by show _=_;rw[Fy hxk]
   have C1:Hid (QC Tryz.prog w _ _ _):=fun W hW=>BI x b (off+k*1) _ W (hp.ext hW)
   rw[Nat.mul_one]at C1;cases d2:eT x
   case false=>
    (try rw[d2]at C1)
    have E:Hid (jB xs=false):=by show _=_;rw[EV.out,fM hltk (by rw[EK.out];exact d2)];simp
    go_wp2_with (first|(go_at_call 85;with_reducible refine(C1.out.at_ _).mono ?_;rintro _ _ ⟨rfl,e,rfl⟩))
    repeat (refine ah _ (by kernel_rfl) (by kernel_rfl) ?_;(repeat (go_big_quiet_step ((first|with_reducible exact C1.out.at_ _))));refine wpQuiet_nil ?_;intro e;go_wp2_with (first|(go_at_call 85;with_reducible refine(C1.out.at_ _).mono ?_;rintro _ _ ⟨rfl,e,rfl⟩)))
    go_ret;exact⟨by rw[E.out];rfl,_,rfl⟩
   (try rw[d2]at C1)
   have E:Hid (eT (jK xs k)=true):=by show _=_;rw[EK.out];exact d2
   go_wp2_with (first|(go_at_call 85;with_reducible refine(C1.out.at_ _).mono ?_;rintro _ _ ⟨rfl,e,rfl⟩))
   repeat (refine ah _ (by kernel_rfl) (by kernel_rfl) ?_;(repeat (go_big_quiet_step ((first|with_reducible exact C1.out.at_ _))));refine wpQuiet_nil ?_;intro e;go_wp2_with (first|(go_at_call 85;with_reducible refine(C1.out.at_ _).mono ?_;rintro _ _ ⟨rfl,e,rfl⟩)))
   exact⟨⟨k+1,by omega,by go_num,dU hfk E.out,_,rfl⟩,by simp[intOf];omega⟩
  ·have:n=k:=by omega
   subst this;have E:Hid (jB xs=true):=by show _=_;rw[EV.out,EN.out,hfk.out];rfl
   go_wp2_with fail
   repeat (refine ah _ (by kernel_rfl) (by kernel_rfl) ?_;(repeat (go_big_quiet_step (fail)));refine wpQuiet_nil ?_;intro e;go_wp2_with fail)
   go_ret;exact⟨by rw[E.out];rfl,_,rfl⟩
theorem yj(xs:List Int)(n:Nat){A:Option Addr}{c:Nat}{bs:List Nat}(w:World)(hx:T1 w (.sl n (xs.flatMap intE)) bs (.slice A n c))(Hl:Hid (xs.length=n)):Calls Tryz.prog 86 #[.slice A n c] w fun e w'=>e=.returned (.bool (schedB xs))∧Ext w w':=by
 refine quiet_start fun e=> ?_
 have hn:=hx.nle;have EV:Hid (schedB xs=(decide ((n:Int)≤200)&&bR n fun k=>inB (bO xs k) 0 600)):=by show _=_;rw[←Hl.out];rfl
 go_enter Tryz.func86,Tryz.ntmps86
 cases d1:decide ((200:Int)<n)
 case true=>
  have E:Hid (schedB xs=false):=by show _=_;rw[EV.out,show decide ((n:Int)≤200)=false by simp at d1;simp;omega];rfl
  go_wp2_with fail
  repeat (refine ah _ (by kernel_rfl) (by kernel_rfl) ?_;(repeat (go_big_quiet_step (fail)));refine wpQuiet_nil ?_;intro e;go_wp2_with fail)
  go_ret;exact⟨by rw[E.out];rfl,_,rfl⟩
 have EN:Hid (decide ((n:Int)≤200)=true):=by show _=_;simp at d1;simp;omega
 go_wp2_with fail
 repeat (refine ah _ (by kernel_rfl) (by kernel_rfl) ?_;(repeat (go_big_quiet_step (fail)));refine wpQuiet_nil ?_;intro e;go_wp2_with fail)
 go_loopw [3] (fun i w'=>∃k:Nat,k≤n∧i=.int .i64 k∧Hid (bR k (fun k=>inB (bO xs k) 0 600)=true)∧∃e:ExtOf w,w'=e.to) (fun i _=>n-(intOf i).toNat)
 case atStart=>exact⟨0,Nat.zero_le _,rfl,kP _,_,rfl⟩
 case round=>
  obtain⟨k,hk,rfl,hfk,e,rfl⟩:=hrel
  by_cases hltk:k<n
  ·skip
   obtain⟨b,off,x,bs',rfl,hxk,hp⟩:=T1.elem (s:=1) (fun _=>rfl) hx Hl hltk;have kx:=Dr hp;rw[Nat.mul_one]at kx;have EK:Hid (inB (bO xs k) 0 600=inB x 0 600):=by show _=_;rw[zh hxk]
   have C1:Hid (QC Tryz.prog w _ _ _):=fun W hW=>(kI x 0 600 W).q
   cases d2:inB x 0 600
   case false=>
    (try rw[d2]at C1)
    have E:Hid (schedB xs=false):=by show _=_;rw[EV.out,fM hltk (by rw[EK.out];exact d2)];simp
    go_wp2_with (first|(go_at_call 87;with_reducible refine(C1.out.at_ _).mono ?_;rintro _ _ ⟨rfl,e,rfl⟩))
    repeat (refine ah _ (by kernel_rfl) (by kernel_rfl) ?_;(repeat (go_big_quiet_step ((first|with_reducible exact C1.out.at_ _))));refine wpQuiet_nil ?_;intro e;go_wp2_with (first|(go_at_call 87;with_reducible refine(C1.out.at_ _).mono ?_;rintro _ _ ⟨rfl,e,rfl⟩)))
    go_ret;exact⟨by rw[E.out];rfl,_,rfl⟩
   (try rw[d2]at C1)
   have E:Hid (inB (bO xs k) 0 600=true):=by show _=_;rw[EK.out];exact d2
   go_wp2_with (first|(go_at_call 87;with_reducible refine(C1.out.at_ _).mono ?_;rintro _ _ ⟨rfl,e,rfl⟩))
   repeat (refine ah _ (by kernel_rfl) (by kernel_rfl) ?_;(repeat (go_big_quiet_step ((first|with_reducible exact C1.out.at_ _))));refine wpQuiet_nil ?_;intro e;go_wp2_with (first|(go_at_call 87;with_reducible refine(C1.out.at_ _).mono ?_;rintro _ _ ⟨rfl,e,rfl⟩)))
   exact⟨⟨k+1,by omega,by go_num,dU hfk E.out,_,rfl⟩,by simp[intOf];omega⟩
  ·have:n=k:=by omega
   subst this;have E:Hid (schedB xs=true):=by show _=_;rw[EV.out,EN.out,hfk.out];rfl
   go_wp2_with fail
   repeat (refine ah _ (by kernel_rfl) (by kernel_rfl) ?_;(repeat (go_big_quiet_step (fail)));refine wpQuiet_nil ?_;intro e;go_wp2_with fail)
   go_ret;exact⟨by rw[E.out];rfl,_,rfl⟩
theorem S9(xs:List NAgent):QCall Tryz.prog 95 [.agg [.rsl uAgent xs]] (.bool (eT (gN xs))):=
 QCall.Ro (u:=uNet) (x:=xs) (by kernel_rfl) (fun w bs us h=>o8 (gN xs) w (by rw[gN_enc];exact h)) (fun _ _=>vv _) (fun _ _ _ _ _ hI hd=>RX hI hd)
theorem Qw(bk:List (List NAgent)):QCall Tryz.prog 94 [.rsl uNet bk] (.bool (jB (bk.map gN))):=
 QCall.Jv (by kernel_rfl) (fun w A c bs h=>uN (bk.map gN) bk.length w (by rw[LZ];exact h) (List.length_map _)) (fun _ _=>vv _)
theorem Ns(l:List Int):QCall Tryz.prog 96 [.rsl (.int .i64) l] (.bool (schedB l)):=
 QCall.Jv (by kernel_rfl) (fun w A c bs h=>wF l l.length w (by rw[←enc_ints];exact h) rfl) (fun _ _=>vv _)
theorem Uw(xs:List NAgent):QCall Tryz.prog 85 [.rp uNet xs] (.bool (eT (gN xs))):=
 QCall.Rp (by kernel_rfl) (fun w b o bs h=>BI (gN xs) b o bs w (by rw[gN_enc];exact h)) fun _ _=>vv _
theorem Sz(bk:List (List NAgent)):QCall Tryz.prog 84 [.rsl uNet bk] (.bool (jB (bk.map gN))):=
 QCall.Jv (by kernel_rfl) (fun w A c bs h=>Fq (bk.map gN) bk.length w (by rw[LZ];exact h) (List.length_map _)) (fun _ _=>vv _)
theorem RN(l:List Int):QCall Tryz.prog 86 [.rsl (.int .i64) l] (.bool (schedB l)):=
 QCall.Jv (by kernel_rfl) (fun w A c bs h=>yj l l.length w (by rw[←enc_ints];exact h) rfl) (fun _ _=>vv _)
end Go.Proofs.YtjijpkphkicoeaaGreat
