
/- The program's functions on agents: what makes them valid. Printed by gen_neti.py. -/
import Derived.Test.YtdpclbjjmhkgiaaShort
import Derived.Test.YtdpclbjjmhkgiaaProg
import Derived.Test.YtdpclbjjmhkgiaaAgents
import Derived.Test.YtdpclbjjmhkgiaaValid
import Derived.Test.YtdpclbjjmhkgiaaQDbg
import Derived.Test.YtdpclbjjmhkgiaaSc
import Derived.BigGuardPart
import Derived.Outline
import Derived.Deep.CutBlock
import Derived.Test.YtdpclbjjmhkgiaaVti
import Derived.Test.YtdpclbjjmhkgiaaVV
import Derived.Test.YtdpclbjjmhkgiaaNw
import Derived.Test.YtdpclbjjmhkgiaaIb
import Derived.StillTailTactics
import Derived.BigRegion
set_option maxHeartbeats 4000000
set_option maxRecDepth 100000
set_option linter.unusedSimpArgs false
set_option linter.unusedVariables false
namespace Go.Proofs.Ytdpclbjjmhkgiaa
open Go Go.RowKit Go.Proofs Go.Tr
theorem sP(n:Int)(w:World):Calls Try.prog 92 #[.int .i64 n] w fun e w'=>e=.returned (.bool (jr n))∧Ext w w':=by
 refine bC fun e=> ?_
 go_enter Try.func92,Try.ntmps92
 go_wp2
 all_goals go_ret
 all_goals refine⟨?_,_,rfl⟩
 all_goals first|(simp[jr,iy, *];done)|(simp[jr,iy, *];omega)|(simp_all [jr,iy];done)|(simp_all [jr,iy];omega)
theorem MC(n:Int)(w:World):Calls Try.prog 80 #[.int .i64 n] w fun e w'=>e=.returned (.bool (eH n))∧Ext w w':=by
 refine bC fun e=> ?_
 go_enter Try.func80,Try.ntmps80
 go_wp2
 all_goals go_ret
 all_goals refine⟨?_,_,rfl⟩
 all_goals first|(simp[eH,iy, *];done)|(simp[eH,iy, *];omega)|(simp_all [eH,iy];done)|(simp_all [eH,iy];omega)
theorem AU(n:Int)(w:World):Calls Try.prog 93 #[.int .i64 n] w fun e w'=>e=.returned (.bool (jK n))∧Ext w w':=by
 refine bC fun e=> ?_
 go_enter Try.func93,Try.ntmps93
 go_wp2
 all_goals go_ret
 all_goals refine⟨?_,_,rfl⟩
 all_goals first|(simp[jK,iy, *];done)|(simp[jK,iy, *];omega)|(simp_all [jK,iy];done)|(simp_all [jK,iy];omega)
theorem zx(k f:Int)(w:World):Calls Try.prog 62 #[.int .i64 k,.int .i64 f] w fun e w'=>e=.returned (.int .i64 (aL k f))∧Ext w w':=by
 refine bC fun e=> ?_
 have C1:Hid (QC Try.prog w _ _ _):=fun W hW=>(Je k W).q
 cases hk:kV k
 case false=>
  rw[hk]at C1;have hn:=WW hk;have h9:(k==9)=false:=by simp;omega
  go_enter Try.func62,Try.ntmps62
  go_wp2_with (first|(go_at_call 81;with_reducible refine(C1.out.at_ _).mono ?_;rintro _ _ ⟨rfl,e,rfl⟩))
  repeat (refine ay _ (by kernel_rfl) (by kernel_rfl) ?_;(repeat (go_big_quiet_step ((first|with_reducible exact C1.out.at_ _))));refine wpQuiet_nil ?_;intro e;go_wp2_with (first|(go_at_call 81;with_reducible refine(C1.out.at_ _).mono ?_;rintro _ _ ⟨rfl,e,rfl⟩)))
  all_goals go_ret
  all_goals refine⟨?_,_,rfl⟩
  all_goals simp[aL]
  all_goals (repeat rw[if_neg (by omega)])
  all_goals (try split)
  all_goals (try rfl)
  all_goals (try omega)
 rw[hk]at C1;have ix1:∀W:World,(Instr.index 107 (.agg #[.int .i64 0,.int .i64 1,.int .i64 3,.int .i64 3,.int .i64 3,.int .i64 1,.int .i64 1,.int .i64 3,.int .i64 2,.int .i64 0,.int .i64 2,.int .i64 2,.int .i64 1]) (.int .i64 1)).run Try.prog W=.ok (.int .i64 1) W:=fun _=>by kernel_rfl
 have ix2:∀W:World,(Instr.index 107 (.agg #[.int .i64 0,.int .i64 1,.int .i64 3,.int .i64 3,.int .i64 3,.int .i64 1,.int .i64 1,.int .i64 3,.int .i64 2,.int .i64 0,.int .i64 2,.int .i64 2,.int .i64 1]) (.int .i64 2)).run Try.prog W=.ok (.int .i64 3) W:=fun _=>by kernel_rfl
 have ix3:∀W:World,(Instr.index 107 (.agg #[.int .i64 0,.int .i64 1,.int .i64 3,.int .i64 3,.int .i64 3,.int .i64 1,.int .i64 1,.int .i64 3,.int .i64 2,.int .i64 0,.int .i64 2,.int .i64 2,.int .i64 1]) (.int .i64 3)).run Try.prog W=.ok (.int .i64 3) W:=fun _=>by kernel_rfl
 have ix4:∀W:World,(Instr.index 107 (.agg #[.int .i64 0,.int .i64 1,.int .i64 3,.int .i64 3,.int .i64 3,.int .i64 1,.int .i64 1,.int .i64 3,.int .i64 2,.int .i64 0,.int .i64 2,.int .i64 2,.int .i64 1]) (.int .i64 4)).run Try.prog W=.ok (.int .i64 3) W:=fun _=>by kernel_rfl
 have ix5:∀W:World,(Instr.index 107 (.agg #[.int .i64 0,.int .i64 1,.int .i64 3,.int .i64 3,.int .i64 3,.int .i64 1,.int .i64 1,.int .i64 3,.int .i64 2,.int .i64 0,.int .i64 2,.int .i64 2,.int .i64 1]) (.int .i64 5)).run Try.prog W=.ok (.int .i64 1) W:=fun _=>by kernel_rfl
 have ix6:∀W:World,(Instr.index 107 (.agg #[.int .i64 0,.int .i64 1,.int .i64 3,.int .i64 3,.int .i64 3,.int .i64 1,.int .i64 1,.int .i64 3,.int .i64 2,.int .i64 0,.int .i64 2,.int .i64 2,.int .i64 1]) (.int .i64 6)).run Try.prog W=.ok (.int .i64 1) W:=fun _=>by kernel_rfl
 have ix7:∀W:World,(Instr.index 107 (.agg #[.int .i64 0,.int .i64 1,.int .i64 3,.int .i64 3,.int .i64 3,.int .i64 1,.int .i64 1,.int .i64 3,.int .i64 2,.int .i64 0,.int .i64 2,.int .i64 2,.int .i64 1]) (.int .i64 7)).run Try.prog W=.ok (.int .i64 3) W:=fun _=>by kernel_rfl
 have ix8:∀W:World,(Instr.index 107 (.agg #[.int .i64 0,.int .i64 1,.int .i64 3,.int .i64 3,.int .i64 3,.int .i64 1,.int .i64 1,.int .i64 3,.int .i64 2,.int .i64 0,.int .i64 2,.int .i64 2,.int .i64 1]) (.int .i64 8)).run Try.prog W=.ok (.int .i64 2) W:=fun _=>by kernel_rfl
 have ix9:∀W:World,(Instr.index 107 (.agg #[.int .i64 0,.int .i64 1,.int .i64 3,.int .i64 3,.int .i64 3,.int .i64 1,.int .i64 1,.int .i64 3,.int .i64 2,.int .i64 0,.int .i64 2,.int .i64 2,.int .i64 1]) (.int .i64 9)).run Try.prog W=.ok (.int .i64 0) W:=fun _=>by kernel_rfl
 have ix10:∀W:World,(Instr.index 107 (.agg #[.int .i64 0,.int .i64 1,.int .i64 3,.int .i64 3,.int .i64 3,.int .i64 1,.int .i64 1,.int .i64 3,.int .i64 2,.int .i64 0,.int .i64 2,.int .i64 2,.int .i64 1]) (.int .i64 10)).run Try.prog W=.ok (.int .i64 2) W:=fun _=>by kernel_rfl
 have ix11:∀W:World,(Instr.index 107 (.agg #[.int .i64 0,.int .i64 1,.int .i64 3,.int .i64 3,.int .i64 3,.int .i64 1,.int .i64 1,.int .i64 3,.int .i64 2,.int .i64 0,.int .i64 2,.int .i64 2,.int .i64 1]) (.int .i64 11)).run Try.prog W=.ok (.int .i64 2) W:=fun _=>by kernel_rfl
 have ix12:∀W:World,(Instr.index 107 (.agg #[.int .i64 0,.int .i64 1,.int .i64 3,.int .i64 3,.int .i64 3,.int .i64 1,.int .i64 1,.int .i64 3,.int .i64 2,.int .i64 0,.int .i64 2,.int .i64 2,.int .i64 1]) (.int .i64 12)).run Try.prog W=.ok (.int .i64 1) W:=fun _=>by kernel_rfl
 rcases Jf hk with rfl|rfl|rfl|rfl|rfl|rfl|rfl|rfl|rfl|rfl|rfl|rfl
 all_goals clear hk
 all_goals
  go_enter Try.func62,Try.ntmps62
  go_wp2_with (first|(go_at_call 81;with_reducible refine(C1.out.at_ _).mono ?_;rintro _ _ ⟨rfl,e,rfl⟩))
  repeat (refine ay _ (by kernel_rfl) (by kernel_rfl) ?_;(repeat (go_big_quiet_step ((first|with_reducible exact C1.out.at_ _))));refine wpQuiet_nil ?_;intro e;go_wp2_with (first|(go_at_call 81;with_reducible refine(C1.out.at_ _).mono ?_;rintro _ _ ⟨rfl,e,rfl⟩)))
  all_goals go_ret
  all_goals refine⟨?_,_,rfl⟩
  all_goals first|(simp[aL,iy, *];done)|(simp[aL,iy, *];omega)|(simp_all [aL,iy];done)|(simp_all [aL,iy];omega)
theorem DY(k p:Int)(w:World)(h1:0≤p)(h2:p≤9223372036854775807):Calls Try.prog 88 #[.int .i64 k,.int .i64 p] w fun e w'=>e=.returned (.int .i64 (dH k p))∧Ext w w':=by
 refine bC fun e=> ?_
 go_enter Try.func88,Try.ntmps88
 cases d1:(k==9)
 case true=>
  have E:Hid (dH k p=p-1):=by show _=_;simp[dH,d1]
  go_wp2_with fail
  repeat (refine ay _ (by kernel_rfl) (by kernel_rfl) ?_;(repeat (go_big_quiet_step (fail)));refine wpQuiet_nil ?_;intro e;go_wp2_with fail)
  go_ret;exact⟨by rw[E.out];rfl,_,rfl⟩
 have E:Hid (dH k p=0):=by show _=_;simp[dH,d1]
 go_wp2_with fail
 repeat (refine ay _ (by kernel_rfl) (by kernel_rfl) ?_;(repeat (go_big_quiet_step (fail)));refine wpQuiet_nil ?_;intro e;go_wp2_with fail)
 go_ret;exact⟨by rw[E.out];rfl,_,rfl⟩
theorem zy(d:Int)(w:World):Calls Try.prog 91 #[.int .i64 d] w fun e w'=>e=.returned (.bool (!jr d))∧Ext w w':=by
 refine bC fun e=> ?_
 have C1:Hid (QC Try.prog w _ _ _):=fun W hW=>sP d W
 go_enter Try.func91,Try.ntmps91
 go_wp2_with (first|(go_at_call 92;with_reducible refine(C1.out.at_ _).mono ?_;rintro _ _ ⟨rfl,e,rfl⟩))
 repeat (refine ay _ (by kernel_rfl) (by kernel_rfl) ?_;(repeat (go_big_quiet_step ((first|with_reducible exact C1.out.at_ _))));refine wpQuiet_nil ?_;intro e;go_wp2_with (first|(go_at_call 92;with_reducible refine(C1.out.at_ _).mono ?_;rintro _ _ ⟨rfl,e,rfl⟩)))
 go_ret;exact⟨rfl,_,rfl⟩
theorem Cb(xs:List Int)(n:Nat){A:Option Addr}{c:Nat}{bs:List Nat}(w:World)(hx:T1 w (.sl n (xs.flatMap bL)) bs (.slice A n c))(Hl:Hid (xs.length=n)):Calls Try.prog 95 #[.slice A n c,.func (.func 91) #[] #[]] w fun e w'=>e=.returned (.int .i64 (idxOf n (fun k=> !jr (fM xs k))))∧Ext w w':=by
 refine bC fun e=> ?_
 have hn:=hx.vU
 go_enter Try.func95,Try.ntmps95
 go_wp2_with fail
 repeat (refine ay _ (by kernel_rfl) (by kernel_rfl) ?_;(repeat (go_big_quiet_step (fail)));refine wpQuiet_nil ?_;intro e;go_wp2_with fail)
 go_loopw [5,8] (fun _ i w'=>∃k:Nat,k≤n∧i=.int .i64 k∧Hid (dZ k (fun k=> !!jr (fM xs k))=true)∧∃e:aU w,w'=e.to) (fun _ i _=>n-(intOf i).toNat)
 case atStart=>exact⟨0,Nat.zero_le _,rfl,zB _,_,rfl⟩
 case round=>
  obtain⟨k,hk,rfl,hf,e,rfl⟩:=hrel
  by_cases hlt:k<n
  ·skip
   obtain⟨b,off,x,bs',rfl,hxk,hp⟩:=T1.elem (s:=1) (fun _=>rfl) hx Hl hlt;have kx:=Rs hp;rw[Nat.mul_one]at kx;have EP:Hid ((!jr (fM xs k))= !jr x):=by show _=_;rw[OH hxk]
   have C1:Hid (QC Try.prog w _ _ _):=fun W hW=>zy x W
   cases d1:(!jr x)
   case true=>
    (try rw[d1]at C1)
    have E:Hid (idxOf n (fun k=> !jr (fM xs k))=(k:Int)):=by show _=_;exact AO hf hlt (by rw[EP.out];exact d1)
    go_wp2_with (first|(go_at_call 91;with_reducible refine(C1.out.at_ _).mono ?_;rintro _ _ ⟨rfl,e,rfl⟩))
    repeat (refine ay _ (by kernel_rfl) (by kernel_rfl) ?_;(repeat (go_big_quiet_step ((first|with_reducible exact C1.out.at_ _))));refine wpQuiet_nil ?_;intro e;go_wp2_with (first|(go_at_call 91;with_reducible refine(C1.out.at_ _).mono ?_;rintro _ _ ⟨rfl,e,rfl⟩)))
    go_ret;exact⟨by rw[E.out];rfl,_,rfl⟩
   (try rw[d1]at C1)
   have E:Hid ((!!jr (fM xs k))=true):=by show _=_;rw[EP.out,d1];rfl
   go_wp2_with (first|(go_at_call 91;with_reducible refine(C1.out.at_ _).mono ?_;rintro _ _ ⟨rfl,e,rfl⟩))
   repeat (refine ay _ (by kernel_rfl) (by kernel_rfl) ?_;(repeat (go_big_quiet_step ((first|with_reducible exact C1.out.at_ _))));refine wpQuiet_nil ?_;intro e;go_wp2_with (first|(go_at_call 91;with_reducible refine(C1.out.at_ _).mono ?_;rintro _ _ ⟨rfl,e,rfl⟩)))
   exact⟨⟨k+1,by omega,by go_num,nZ hf E.out,_,rfl⟩,by simp[intOf];omega⟩
  ·have:n=k:=by omega
   subst this;have E:Hid (idxOf n (fun k=> !jr (fM xs k))= -1):=by show _=_;exact qJ hf
   go_wp2_with fail
   repeat (refine ay _ (by kernel_rfl) (by kernel_rfl) ?_;(repeat (go_big_quiet_step (fail)));refine wpQuiet_nil ?_;intro e;go_wp2_with fail)
   go_ret;exact⟨by rw[E.out];rfl,_,rfl⟩
theorem xZ(xs:List Int)(n:Nat){A:Option Addr}{c:Nat}{bs:List Nat}(w:World)(hx:T1 w (.sl n (xs.flatMap bL)) bs (.slice A n c))(Hl:Hid (xs.length=n)):Calls Try.prog 90 #[.slice A n c,.func (.func 91) #[] #[]] w fun e w'=>e=.returned (.bool (qZ n (fun k=> !jr (fM xs k))))∧Ext w w':=by
 refine bC fun e=> ?_
 have C1:Hid (QC Try.prog w _ _ _):=fun W hW=>Cb xs n W (hx.below hW) Hl
 have hc:=AP n (fun k=> !jr (fM xs k))
 go_enter Try.func90,Try.ntmps90
 go_wp2_with (first|(go_at_call 95;with_reducible refine(C1.out.at_ _).mono ?_;rintro _ _ ⟨rfl,e,rfl⟩))
 repeat (refine ay _ (by kernel_rfl) (by kernel_rfl) ?_;(repeat (go_big_quiet_step ((first|with_reducible exact C1.out.at_ _))));refine wpQuiet_nil ?_;intro e;go_wp2_with (first|(go_at_call 95;with_reducible refine(C1.out.at_ _).mono ?_;rintro _ _ ⟨rfl,e,rfl⟩)))
 go_ret;exact⟨by rw[←hc];rfl,_,rfl⟩
end Go.Proofs.Ytdpclbjjmhkgiaa
namespace Go.Tr
open Go Go.RowKit
def nA(a:au):ah:=(a.kind,a.level,a.value,a.data,a.aH.map fun p=>(p.agent,p.slot))
theorem SS(a:au):gA (nA a)=a:=by
 cases a with
 |mk k l v d ps=>
  unfold gA nA;simp only[List.map_map]
  congr 1
  exact(List.map_congr_left fun p _=>rfl).trans (List.map_id ps)
theorem Vr(x:au):enc aV (nA x)=x.enc:=by rw[←Ov,SS]
def nI(k v:Int)(d:List Int):Bool:=
 if k==6 then((d.length:Int)==0)&&eH v
 else if k==7 then((d.length:Int)==0)&&jK v
 else if k==8 then((d.length:Int)==1)&&jK v&&eH (fM d 0)
 else if k==9 then((d.length:Int)==0)&&iy v 0 3
 else if k==12 then((d.length:Int)==0)&&jr v
 else if k==10 then v==0&&iy d.length 1 4&&jH d
 else if k==11 then v==0&&((d.length:Int)==2)&&jH d
 else v==0&&((d.length:Int)==0)
theorem Kl(a:ah):fG (gA a)=nI a.1 a.2.2.1 a.2.2.2.1:=rfl
end Go.Tr
namespace Go.Proofs.Ytdpclbjjmhkgiaa
open Go Go.RowKit Go.Proofs Go.Tr
theorem U3(n:Int):bg Try.prog 87 [.int .i64 n] (.bool (jr n)):=by
 refine bg.intro (nt:=5) aS mixed (by kernel_rfl) Try.func87 rfl rfl rfl rfl rfl ?_;refine Or.inl (eI _ (aI (Ew n 0 23) ?_));exact rfl
theorem NV(a:ah):bg Try.prog 79 [.rp aV a] (.bool (fG (gA a))):=by
 refine bg.intro (nt:=162) aS mixed (by kernel_rfl) Try.func79 rfl rfl rfl rfl rfl ?_;rw[Kl];generalize hk:a.1=k at*;have ek:∀{c:Int} {b:Bool},(a.1==c)=b→(k==c)=b:=fun h=>by rw[←hk];exact h
 refine aI (fun q1=> ?_) (fun q1=> ?_)
 ·refine Or.inl (eI _ (aI (fun _=>Ew a.2.2.1 (-2147483648) 2147483647) ?_));refine Eq.trans (Eq.refl _) ?_;unfold nI;rw[ek q1];show(bif ((a.2.2.2.1.length:Int)==0)then iy a.2.2.1 (-2147483648) 2147483647 else false)=(((a.2.2.2.1.length:Int)==0)&&eH a.2.2.1);cases ((a.2.2.2.1.length:Int)==0)<;>rfl
 refine aI (fun q2=> ?_) (fun q2=> ?_)
 ·refine Or.inl (eI _ (aI (fun _=>Ew a.2.2.1 1 6) ?_));refine Eq.trans (Eq.refl _) ?_;unfold nI;rw[ek q1,ek q2];show(bif ((a.2.2.2.1.length:Int)==0)then iy a.2.2.1 1 6 else false)=(((a.2.2.2.1.length:Int)==0)&&jK a.2.2.1);cases ((a.2.2.2.1.length:Int)==0)<;>rfl
 refine aI (fun q3=> ?_) (fun q3=> ?_)
 ·refine Or.inl (eI _ (aI (fun _=>Ew a.2.2.1 1 6) ?_));refine aI (fun g=> ?_) ?_
  ·have g2:(bif ((a.2.2.2.1.length:Int)==1)then iy a.2.2.1 1 6 else false)=true:=g;cases hl:((a.2.2.2.1.length:Int)==1)with
   |false=>rw[hl]at g2;cases g2
   |true=>
    have hl2:(a.2.2.2.1.length:Int)=1:=by simpa using hl
    show(0:Int)≤0∧(0:Int)<(a.2.2.2.1.length:Nat);omega
  refine Or.inl (eI _ (aI (fun _=>Ew _ (-2147483648) 2147483647) ?_));refine Eq.trans (Eq.refl _) ?_;unfold nI;rw[ek q1,ek q2,ek q3];show(bif (bif ((a.2.2.2.1.length:Int)==1)then iy a.2.2.1 1 6 else false)then iy (fM a.2.2.2.1 0) (-2147483648) 2147483647 else false)=(((a.2.2.2.1.length:Int)==1)&&jK a.2.2.1&&eH (fM a.2.2.2.1 0));unfold jK eH;cases ((a.2.2.2.1.length:Int)==1)<;>cases iy a.2.2.1 1 6<;>rfl
 refine aI (fun q4=> ?_) (fun q4=> ?_)
 ·refine Or.inl (eI _ (aI (fun _=>Ew a.2.2.1 0 3) ?_));refine Eq.trans (Eq.refl _) ?_;unfold nI;rw[ek q1,ek q2,ek q3,ek q4];show(bif ((a.2.2.2.1.length:Int)==0)then iy a.2.2.1 0 3 else false)=(((a.2.2.2.1.length:Int)==0)&&iy a.2.2.1 0 3);cases ((a.2.2.2.1.length:Int)==0)<;>rfl
 refine aI (fun q5=> ?_) (fun q5=> ?_)
 ·refine Or.inl (eI _ (aI (fun _=>U3 a.2.2.1) ?_));refine Eq.trans (Eq.refl _) ?_;unfold nI;rw[ek q1,ek q2,ek q3,ek q4,ek q5];show(bif ((a.2.2.2.1.length:Int)==0)then jr a.2.2.1 else false)=(((a.2.2.2.1.length:Int)==0)&&jr a.2.2.1);cases ((a.2.2.2.1.length:Int)==0)<;>rfl
 refine aI (fun q6=> ?_) (fun q6=> ?_)
 ·refine aI (fun _=> ?_) (fun p=>absurd (q6.symm.trans p) (by decide));refine Or.inl (eI _ (aI (fun _=>Ew a.2.2.2.1.length 1 4) ?_))
  have q7:(k==11)=false:=by
   have:k=10:=by have:=ek q6;simpa using this
   rw[this];rfl
  have q7':(a.1==11)=false:=by rw[hk];exact q7
  have ec:nI k a.2.2.1 a.2.2.2.1=(a.2.2.1==0&&iy a.2.2.2.1.length 1 4&&jH a.2.2.2.1):=by
   unfold nI;rw[ek q1,ek q2,ek q3,ek q4,ek q5,ek q6];rfl
  have q6':(a.1==10)=true:=q6;refine aI (fun q8=> ?_) (fun q8=> ?_)
  ·refine Eq.trans (Eq.refl _) ?_;rw[ec];have q9:(bif (bif (a.2.2.1 !=0)then true else bif (a.1==11)then((a.2.2.2.1.length:Int) !=2)else false)then true else bif (a.1==10)then !(iy a.2.2.2.1.length 1 4)else false)=true:=q8;rw[q7',q6',show(a.2.2.1 !=0)= !(a.2.2.1==0) from rfl]at q9;revert q9;cases (a.2.2.1==0)<;>cases iy a.2.2.2.1.length 1 4<;>simp
  have et:(true:Bool)=(a.2.2.1==0&&iy a.2.2.2.1.length 1 4):=by
   have q9:(bif (bif (a.2.2.1 !=0)then true else bif (a.1==11)then((a.2.2.2.1.length:Int) !=2)else false)then true else bif (a.1==10)then !(iy a.2.2.2.1.length 1 4)else false)=false:=q8;rw[q7',q6',show(a.2.2.1 !=0)= !(a.2.2.1==0) from rfl]at q9;revert q9;cases (a.2.2.1==0)<;>cases iy a.2.2.2.1.length 1 4<;>simp
  have hlen:a.2.2.2.1.length≤4:=by
   have h1:iy a.2.2.2.1.length 1 4=true:=by
    revert et;cases (a.2.2.1==0)<;>cases iy a.2.2.2.1.length 1 4<;>simp
   have:=jl h1;omega
  refine lp Nat (fun i=>[(3,.int .i64 (i:Nat))]) (fun _=>[]) (fun i=>a.2.2.2.1.length-i) (fun i=>i≤a.2.2.2.1.length∧dZ i (fun k=>jr (fM a.2.2.2.1 k))=true) 0 ⟨Nat.zero_le _,rfl⟩ ?_ ?_
  ·exact hd [] rfl (aI (aI rfl rfl) trivial) trivial
  rintro i ⟨hi,ha⟩;refine aI (fun p1=> ?_) (fun p1=> ?_)
  ·have hlt:i<a.2.2.2.1.length:=by
    have p2:decide (((i:Nat):Int)<(a.2.2.2.1.length:Nat))=true:=p1;simp only[decide_eq_true_eq]at p2;omega
   refine aI (show 0≤((i:Nat):Int)∧((i:Nat):Int)<(a.2.2.2.1.length:Nat) by omega) ?_;refine Or.inl (eI _ (aI (U3 _) ?_));refine aI (fun p2=> ?_) (fun p2=> ?_)
   ·have p3:jr (fM a.2.2.2.1 i)=false:=by
     have p4:(!jr (fM a.2.2.2.1 i))=true:=p2;simpa using p4
    refine Eq.trans (Eq.refl _) ?_;rw[ec,show jH a.2.2.2.1=false from uy hlt p3,Bool.and_false]
   ·have p3:jr (fM a.2.2.2.1 i)=true:=by
     have p4:(!jr (fM a.2.2.2.1 i))=false:=p2;simpa using p4
    refine aK (i+1) ⟨hlt,by rw[rU];simp only[ha,p3,Bool.and_true]⟩ ?_ ?_
    ·exact hd [] rfl (aI (aI (bD (by omega)) rfl) trivial) trivial
    ·show a.2.2.2.1.length-(i+1)<a.2.2.2.1.length-i;omega
  ·have hge:a.2.2.2.1.length≤i:=by
    have p2:decide (((i:Nat):Int)<(a.2.2.2.1.length:Nat))=false:=p1;simp only[decide_eq_false_iff_not]at p2;omega
   have hie:i=a.2.2.2.1.length:=by omega
   subst hie;refine Eq.trans (Eq.refl _) ?_;rw[ec,show jH a.2.2.2.1=true from ha,Bool.and_true];exact et
 refine aI (fun q7=> ?_) (fun q7=> ?_)
 ·refine Or.inl (eI _ (aI (fun _=>Ew a.2.2.2.1.length 1 4) ?_))
  have ec:nI k a.2.2.1 a.2.2.2.1=(a.2.2.1==0&&((a.2.2.2.1.length:Int)==2)&&jH a.2.2.2.1):=by
   unfold nI;rw[ek q1,ek q2,ek q3,ek q4,ek q5,ek q6,ek q7];rfl
  have q6':(a.1==10)=false:=q6;have q7':(a.1==11)=true:=q7;refine aI (fun q8=> ?_) (fun q8=> ?_)
  ·refine Eq.trans (Eq.refl _) ?_;rw[ec];have q9:(bif (bif (a.2.2.1 !=0)then true else bif (a.1==11)then((a.2.2.2.1.length:Int) !=2)else false)then true else bif (a.1==10)then !(iy a.2.2.2.1.length 1 4)else false)=true:=q8;rw[q7',q6',show(a.2.2.1 !=0)= !(a.2.2.1==0) from rfl,show((a.2.2.2.1.length:Int) !=2)= !((a.2.2.2.1.length:Int)==2) from rfl]at q9;revert q9;cases (a.2.2.1==0)<;>cases ((a.2.2.2.1.length:Int)==2)<;>simp
  have et:(true:Bool)=(a.2.2.1==0&&((a.2.2.2.1.length:Int)==2)):=by
   have q9:(bif (bif (a.2.2.1 !=0)then true else bif (a.1==11)then((a.2.2.2.1.length:Int) !=2)else false)then true else bif (a.1==10)then !(iy a.2.2.2.1.length 1 4)else false)=false:=q8;rw[q7',q6',show(a.2.2.1 !=0)= !(a.2.2.1==0) from rfl,show((a.2.2.2.1.length:Int) !=2)= !((a.2.2.2.1.length:Int)==2) from rfl]at q9;revert q9;cases (a.2.2.1==0)<;>cases ((a.2.2.2.1.length:Int)==2)<;>simp
  have hlen:a.2.2.2.1.length≤4:=by
   have h1:((a.2.2.2.1.length:Int)==2)=true:=by
    revert et;cases (a.2.2.1==0)<;>cases ((a.2.2.2.1.length:Int)==2)<;>simp
   have h2:(a.2.2.2.1.length:Int)=2:=by simpa using h1
   omega
  refine lp Nat (fun i=>[(3,.int .i64 (i:Nat))]) (fun _=>[]) (fun i=>a.2.2.2.1.length-i) (fun i=>i≤a.2.2.2.1.length∧dZ i (fun k=>jr (fM a.2.2.2.1 k))=true) 0 ⟨Nat.zero_le _,rfl⟩ ?_ ?_
  ·exact hd [] rfl (aI (aI rfl rfl) trivial) trivial
  rintro i ⟨hi,ha⟩;refine aI (fun p1=> ?_) (fun p1=> ?_)
  ·have hlt:i<a.2.2.2.1.length:=by
    have p2:decide (((i:Nat):Int)<(a.2.2.2.1.length:Nat))=true:=p1;simp only[decide_eq_true_eq]at p2;omega
   refine aI (show 0≤((i:Nat):Int)∧((i:Nat):Int)<(a.2.2.2.1.length:Nat) by omega) ?_;refine Or.inl (eI _ (aI (U3 _) ?_));refine aI (fun p2=> ?_) (fun p2=> ?_)
   ·have p3:jr (fM a.2.2.2.1 i)=false:=by
     have p4:(!jr (fM a.2.2.2.1 i))=true:=p2;simpa using p4
    refine Eq.trans (Eq.refl _) ?_;rw[ec,show jH a.2.2.2.1=false from uy hlt p3,Bool.and_false]
   ·have p3:jr (fM a.2.2.2.1 i)=true:=by
     have p4:(!jr (fM a.2.2.2.1 i))=false:=p2;simpa using p4
    refine aK (i+1) ⟨hlt,by rw[rU];simp only[ha,p3,Bool.and_true]⟩ ?_ ?_
    ·exact hd [] rfl (aI (aI (bD (by omega)) rfl) trivial) trivial
    ·show a.2.2.2.1.length-(i+1)<a.2.2.2.1.length-i;omega
  ·have hge:a.2.2.2.1.length≤i:=by
    have p2:decide (((i:Nat):Int)<(a.2.2.2.1.length:Nat))=false:=p1;simp only[decide_eq_false_iff_not]at p2;omega
   have hie:i=a.2.2.2.1.length:=by omega
   subst hie;refine Eq.trans (Eq.refl _) ?_;rw[ec,show jH a.2.2.2.1=true from ha,Bool.and_true];exact et
 ·refine Eq.trans (Eq.refl _) ?_;unfold nI;rw[ek q1,ek q2,ek q3,ek q4,ek q5,ek q6,ek q7];show(bif (a.2.2.1==0)then((a.2.2.2.1.length:Int)==0)else false)=(a.2.2.1==0&&((a.2.2.2.1.length:Int)==0));cases (a.2.2.1==0)<;>rfl
theorem Ck(k f:Int):bg Try.prog 62 [.int .i64 k,.int .i64 f] (.int .i64 (aL k f)):=bg.Gy (l:=[k,f]) (by kernel_rfl) (zx k f) fun _ _=>SK _
theorem KR(n:Int):bg Try.prog 80 [.int .i64 n] (.bool (eH n)):=bg.Gy (l:=[n]) (by kernel_rfl) (MC n) fun _ _=>F6 _
theorem Xi(n:Int):bg Try.prog 93 [.int .i64 n] (.bool (jK n)):=bg.Gy (l:=[n]) (by kernel_rfl) (AU n) fun _ _=>F6 _
theorem WO(n:Int):bg Try.prog 92 [.int .i64 n] (.bool (jr n)):=bg.Gy (l:=[n]) (by kernel_rfl) (sP n) fun _ _=>F6 _
theorem Yt(k:Int)(n:Nat)(h:n≤9223372036854775807):bg Try.prog 88 [.int .i64 k,.int .i64 (n:Int)] (.int .i64 (dH k n)):=bg.Gy (l:=[k,(n:Int)]) (by kernel_rfl) (fun w=>DY k n w (by omega) (by omega)) fun _ _=>SK _
theorem Ym(xs:List Int):bg Try.prog 90 [.rsl (.int .i64) xs,.fn 91 []] (.bool (!jH xs)):=by
 refine⟨(by kernel_rfl),fun cx β w fr vs hI hd=> ?_⟩;unfold aA at hd;obtain⟨v1,vs1,rfl,hd1,hd⟩:=hd;unfold aA at hd;obtain⟨v2,vs2,rfl,hd2,hd⟩:=hd;unfold aA at hd;subst hd;unfold Den at hd1 hd2;obtain⟨us,rfl,hd2⟩:=hd2;unfold aA at hd2;subst hd2;obtain⟨A,c,rfl⟩:=hd1.slice;obtain⟨bs,ht⟩:=hd1.now hI;refine Calls.mono (xZ xs xs.length w (by rw[←Gd];exact ht) rfl) ?_;rintro e w' ⟨rfl,hx⟩;refine⟨_,rfl,?_,hI.ext hx⟩;unfold Den;unfold qZ jH;simp only[Bool.not_not]
theorem XT(a:ah)(hp:a.2.2.2.2.length≤9223372036854775807):bg Try.prog 82 [.agg [.int .i64 a.1,.int .i64 a.2.1,.int .i64 a.2.2.1,.rsl (.int .i64) a.2.2.2.1,.rsl aQ a.2.2.2.2]] (.bool (eO (gA a))):=by
 refine bg.intro (nt:=117) aS mixed (by kernel_rfl) Try.func82 rfl rfl rfl rfl rfl ?_
 have hag:eO (gA a)=(decide (0<aL a.1 (dH a.1 a.2.2.2.2.length))&&(a.2.2.2.2.length:Int)==aL a.1 (dH a.1 a.2.2.2.2.length)&&fF a.1 a.2.1&&nI a.1 a.2.2.1 a.2.2.2.1):=by
  rw[←Kl];unfold eO fieldsOf;have e:(gA a).aH.length=a.2.2.2.2.length:=List.length_map _;rw[e];rfl
 rw[hag];refine Or.inl (eI _ (aI (fun _=>Yt a.1 a.2.2.2.2.length hp) ?_));refine Or.inl (eI _ (aI (fun _=>Ck a.1 (dH a.1 a.2.2.2.2.length)) ?_));refine Or.inl (eI _ (aI (fun _=>Ug a.1 a.2.1) ?_));refine aI (by kernel_rfl) ?_
 have qc:∀{b:Bool},(bif (bif ((a.2.2.2.2.length:Int)==0)then true else(aL a.1 (dH a.1 a.2.2.2.2.length) !=(a.2.2.2.2.length:Int)))then true else !(fF a.1 a.2.1))=b→(decide (0<aL a.1 (dH a.1 a.2.2.2.2.length))&&(a.2.2.2.2.length:Int)==aL a.1 (dH a.1 a.2.2.2.2.length)&&fF a.1 a.2.1)= !b:=fun {b} h=>by
  generalize aL a.1 (dH a.1 a.2.2.2.2.length)=p at*;subst h;cases fF a.1 a.2.1
  ·simp
  ·by_cases h0:(a.2.2.2.2.length:Int)=0
   ·rw[h0]
    by_cases hp0:p=0
    ·subst hp0;rfl
    ·simp;omega
   ·rw[show((a.2.2.2.2.length:Int)==0)=false by simpa using h0]
    by_cases hpe:p=(a.2.2.2.2.length:Int)
    ·subst hpe;simp;omega
    ·simp only[cond_false];rw[show(p !=(a.2.2.2.2.length:Int))=true by simpa using hpe,show((a.2.2.2.2.length:Int)==p)=false by simp;omega];simp
 refine aI (fun q1=> ?_) (fun q1=> ?_)
 ·refine Eq.trans (Eq.refl _) ?_;rw[qc q1];rfl
 have hq:=qc q1;rw[hq];refine aI (by kernel_rfl) ?_;refine Or.inl (eI _ (aI (Ym _) ?_));have cfin:∀{t u:Bool},(t&&u)=nI a.1 a.2.2.1 a.2.2.2.1→(bif t then u else false)=(!false&&nI a.1 a.2.2.1 a.2.2.2.1):=fun {t u} h=>by rw[←h];cases t<;>rfl
 unfold nI at cfin;refine aI (fun k1=> ?_) (fun k1=> ?_)
 ·refine Or.inl (eI _ (aI (KR _) ?_));refine Eq.trans (Eq.refl _) ?_;refine cfin ?_;rw[show(a.1==6)=true from k1,Bool.and_comm];rfl
 refine aI (fun k2=> ?_) (fun k2=> ?_)
 ·refine Or.inl (eI _ (aI (Xi _) ?_));refine Eq.trans (Eq.refl _) ?_;refine cfin ?_;rw[show(a.1==6)=false from k1,show(a.1==7)=true from k2,Bool.and_comm];rfl
 refine aI (fun k3=> ?_) (fun k3=> ?_)
 ·refine Or.inl (eI _ (aI (Xi _) ?_));refine aI (fun g=> ?_) ?_
  ·have g2:(bif jK a.2.2.1 then((a.2.2.2.1.length:Int)==1)else false)=true:=g;cases ho:jK a.2.2.1 with
   |false=>rw[ho]at g2;cases g2
   |true=>
    rw[ho]at g2;have hl2:(a.2.2.2.1.length:Int)=1:=by simpa using g2
    show(0:Int)≤0∧(0:Int)<(a.2.2.2.1.length:Nat);omega
  refine Or.inl (eI _ (aI (fun _=>KR _) ?_));refine Eq.trans (Eq.refl _) ?_;unfold nI;rw[show(a.1==6)=false from k1,show(a.1==7)=false from k2,show(a.1==8)=true from k3];show(bif (bif jK a.2.2.1 then((a.2.2.2.1.length:Int)==1)else false)then eH (fM a.2.2.2.1 0)else false)=(!false&&(((a.2.2.2.1.length:Int)==1)&&jK a.2.2.1&&eH (fM a.2.2.2.1 0)));cases ((a.2.2.2.1.length:Int)==1)<;>cases jK a.2.2.1<;>rfl
 refine aI (fun k4=> ?_) (fun k4=> ?_)
 ·refine Eq.trans (Eq.refl _) ?_;refine cfin ?_;rw[show(a.1==6)=false from k1,show(a.1==7)=false from k2,show(a.1==8)=false from k3,show(a.1==9)=true from k4,Bool.and_comm];show _=(((a.2.2.2.1.length:Int)==0)&&iy a.2.2.1 0 3)
  congr 1
  unfold iy;show(bif decide (0≤a.2.2.1)then decide (a.2.2.1<4)else false)=(decide (0≤a.2.2.1)&&decide (a.2.2.1≤3));rw[show decide (a.2.2.1<4)=decide (a.2.2.1≤3) by rw[decide_eq_decide];omega];cases decide (0≤a.2.2.1)<;>rfl
 refine aI (fun k5=> ?_) (fun k5=> ?_)
 ·have k12:(a.1==12)=false:=by
   have:a.1=10:=by simpa using(show(a.1==10)=true from k5)
   rw[this];rfl
  refine Eq.trans (Eq.refl _) ?_;refine cfin ?_;rw[show(a.1==6)=false from k1,show(a.1==7)=false from k2,show(a.1==8)=false from k3,show(a.1==9)=false from k4,k12,show(a.1==10)=true from k5];show((a.2.2.1==0)&&(bif (bif decide (1≤(a.2.2.2.1.length:Int))then decide ((a.2.2.2.1.length:Int)≤4)else false)then !(!jH a.2.2.2.1)else false))=(a.2.2.1==0&&iy a.2.2.2.1.length 1 4&&jH a.2.2.2.1);unfold iy;cases (a.2.2.1==0)<;>cases decide (1≤(a.2.2.2.1.length:Int))<;>cases decide ((a.2.2.2.1.length:Int)≤4)<;>cases jH a.2.2.2.1<;>rfl
 refine aI (fun k6=> ?_) (fun k6=> ?_)
 ·have k12:(a.1==12)=false:=by
   have:a.1=11:=by simpa using(show(a.1==11)=true from k6)
   rw[this];rfl
  refine Eq.trans (Eq.refl _) ?_;refine cfin ?_;rw[show(a.1==6)=false from k1,show(a.1==7)=false from k2,show(a.1==8)=false from k3,show(a.1==9)=false from k4,k12,show(a.1==10)=false from k5,show(a.1==11)=true from k6];show((a.2.2.1==0)&&(bif ((a.2.2.2.1.length:Int)==2)then !(!jH a.2.2.2.1)else false))=(a.2.2.1==0&&((a.2.2.2.1.length:Int)==2)&&jH a.2.2.2.1);cases (a.2.2.1==0)<;>cases ((a.2.2.2.1.length:Int)==2)<;>cases jH a.2.2.2.1<;>rfl
 refine aI (fun k7=> ?_) (fun k7=> ?_)
 ·refine Or.inl (eI _ (aI (WO _) ?_));refine Eq.trans (Eq.refl _) ?_;refine cfin ?_;rw[show(a.1==6)=false from k1,show(a.1==7)=false from k2,show(a.1==8)=false from k3,show(a.1==9)=false from k4,show(a.1==12)=true from k7,Bool.and_comm];rfl
 ·refine Eq.trans (Eq.refl _) ?_;refine cfin ?_;rw[show(a.1==6)=false from k1,show(a.1==7)=false from k2,show(a.1==8)=false from k3,show(a.1==9)=false from k4,show(a.1==12)=false from k7,show(a.1==10)=false from k5,show(a.1==11)=false from k6];rfl
theorem BN(x:au){bs us}(w:World)(h:TN w x.enc bs us):Calls Try.prog 82 #[.agg us.toArray] w fun e w'=>e=.returned (.bool (eO x))∧Ext w w':=by
 have hp:(nA x).2.2.2.2.length≤9223372036854775807:=by
  obtain⟨_,_,_,A4,c4,b4,rfl,_,_,_,_,t4,n1,n2⟩:=au.us (x:=x) h;have e:(nA x).2.2.2.2.length=x.aH.length:=List.length_map _;unfold maxLen at n2;omega
 have q:=bg.QT (u:=aV) (x:=nA x) (XT (nA x) hp) (fun _ _ _ h=>NY h) (w:=w) (bs:=bs) (us:=us) (by rw[Vr];exact h);rw[SS]at q;exact q
theorem Hg(x:aW)(b o:Nat)(bs:List Nat)(p:aF)(w:World)(h:gU w b o x.enc bs)(hp:iT x.agents p=true):Calls Try.prog 70 #[.pointer (some ⟨b,o,none⟩),.agg #[.int .i64 p.agent,.int .i64 p.slot]] w fun e w'=>e=.returned (.agg #[.int .i64 (mh x.agents p).agent,.int .i64 (mh x.agents p).slot])∧Ext w w':=by
 refine bC fun e=> ?_
 obtain⟨A0,c0,b0,h0,t0⟩:=aW.pt h;have hltn:=h.lt;obtain⟨i,s,a,r,rfl,hi,ha,hs,hr,hpeer⟩:=Pw hp;rw[hpeer];clear hpeer hp;obtain⟨bz,oz,z,bs3,rfl,hzi,hz⟩:=T1.elem au.aZ t0 kH hi;obtain⟨_,rfl⟩:True∧z=a:=⟨trivial,Option.some.inj (hzi.out.symm.trans ha.out)⟩;obtain⟨A3,c3,b3,A5,c5,b5,u0,u1,u2,u3,u4,t3,t5⟩:=au.pt hz;have hn5:=t5.vU;have hn0:=t0.vU;clear u0 u1 u2 u3 t3;obtain⟨bt,ot,r',bs4,rfl,hrs,hrr⟩:=T1.elem aF.aZ t5 kH hs;obtain⟨_,rfl⟩:True∧r'=r:=⟨trivial,Option.some.inj (hrs.out.symm.trans hr.out)⟩
 obtain⟨r0,r1⟩:=aF.pt hrr;clear h hz hrr hltn;have i0:(0:Int)≤(i:Int):=by omega
 have i1:(i:Int)<(x.agents.length:Int):=by omega
 have s0:(0:Int)≤(s:Int):=by omega
 have s1:(s:Int)<(z.aH.length:Int):=by omega
 go_enter Try.func70,Try.ntmps70
 go_upto_region 1 with(fail)
 generalize hg2:e.to.heap.size+1=g2;generalize hg1:e.to.heap.size=g1;refine MR e hg1 hg2 (fun w1 hx1 hge1 hne hge2 r1_ r2_=> ?_);clear hg1 hg2;have q0:=h0.S9 hx1;have q4:=u4.S9 hx1;have q5:=r0.S9 hx1;have q6:=r1.S9 hx1;clear h0 u4 r0 r1;have k0:=kE (i:=0) r1_ rfl;have k1:=kE (i:=1) r1_ rfl;have m0:=kE (i:=0) r2_ rfl;have m1:=kE (i:=1) r2_ rfl;have f2:∀o,w1.frozen? ⟨g2,o,none⟩=false:=uG r2_;clear r1_ r2_
 go_still_tail 13,(by kernel_rfl)
 go_wp2_with fail
 refine bodyPost_ret (v:=.agg #[.int .i64 r'.agent,.int .i64 r'.slot]) (by simp[results,Try.results70,go_sem, *]) rfl ⟨rfl,⟨_,?_⟩,rfl⟩;exact(((hx1.drewN _).setCell (by simpa using hge2) _).setCell (by simpa using hge2) _)
end Go.Proofs.Ytdpclbjjmhkgiaa
namespace Go.Tr
open Go Go.RowKit
def dI(l:List au)(k:Nat):List aF:=(List.range k).flatMap fun(i:Nat)=>(List.range (gF l i).aH.length).map fun(s:Nat)=>(⟨(i:Int),(s:Int)⟩:aF)
def nO(i j:Nat):List aF:=(List.range j).map fun(s:Nat)=>(⟨(i:Int),(s:Int)⟩:aF)
theorem EZ(i j:Nat):nO i (j+1)=nO i j++[⟨(i:Int),(j:Int)⟩]:=by simp[nO,List.range_succ]
theorem xk(l:List au)(k:Nat):dI l (k+1)=dI l k++nO k (gF l k).aH.length:=by simp[dI,nO,List.range_succ]
theorem cZ(k f:Int):aL k f≤4:=by
 unfold aL;split
 ·split
  ·rename_i h;have:=jl h;omega
  ·omega
 ·repeat' split
  all_goals omega
theorem wE{a:au}(h:eO a=true):1≤a.aH.length∧a.aH.length≤4:=by
 simp only[eO,Bool.and_eq_true,decide_eq_true_eq,beq_iff_eq]at h;have:=cZ a.kind (fieldsOf a);omega
theorem yS{l:List au}(h:bP l=true):1≤l.length∧l.length≤600∧∀k,k<l.length→eP l k=true:=by
 simp only[bP,Bool.and_eq_true]at h;have h1:=jl h.1;exact⟨by omega,by omega,fun k hk=>jF h.2 hk⟩
theorem uX{l:List au}{k:Nat}(h:eP l k=true):(gF l k).aH.length≤4:=by
 simp only[eP,Bool.and_eq_true]at h;exact(wE h.1).2
theorem Jw{l:List au}{k:Nat}(h:∀j,j<k→eP l j=true):(dI l k).length≤4*k:=by
 induction k with
 |zero=>simp[dI]
 |succ k ih=>
  rw[xk,List.length_append];have h1:=ih (fun j hj=>h j (by omega));have h2:=uX (h k (by omega));simp only[nO,List.length_map,List.length_range];omega
theorem za{l:List au}{k:Nat}{p:aF}(h:p∈dI l k):∃i s:Nat,p=⟨(i:Int),(s:Int)⟩∧i<k∧s<(gF l i).aH.length:=by
 simp only[dI,List.mem_flatMap,List.mem_range,List.mem_map]at h;obtain⟨i,hi,s,hs,rfl⟩:=h;exact⟨i,s,rfl,hi,hs⟩
theorem Ht{l:List au}{k i s:Nat}(hi:i<k)(hs:s<(gF l i).aH.length):(⟨(i:Int),(s:Int)⟩:aF)∈dI l k:=by
 simp only[dI,List.mem_flatMap,List.mem_range,List.mem_map];exact⟨i,hi,s,hs,rfl⟩
theorem Jv{l:List au}{k:Nat}{y:aF}(h:(dI l l.length)[k]? =some y):iT l y=true:=by
 obtain⟨i,s,rfl,hi,hs⟩:=za (List.mem_of_getElem? h);unfold iT;rw[Bool.and_eq_true];exact⟨sJ (by simp) (by simp only;omega),sJ (by simp) (by simp only[Int.toNat_natCast];omega)⟩
noncomputable def pW(l:List au)(p:aF):Bool:= !xO l p (mh l p)
theorem Jk(n:aW)(h:bP n.agents=true):gW n= !qZ (dI n.agents n.agents.length).length (fun k=>pW n.agents (jW (dI n.agents n.agents.length) k)):=by
 have h0:=yS h;unfold gW;rw[h,Bool.true_and,qZ,Bool.not_not,Bool.eq_iff_iff];constructor
 ·intro ha;unfold dZ;rw[List.all_eq_true];intro q hq;have hq:q<(dI n.agents n.agents.length).length:=by simpa using hq
  have he:Hid ((dI n.agents n.agents.length)[q]? =some (dI n.agents n.agents.length)[q]):=List.getElem?_eq_getElem hq;obtain⟨i,s,hp,hi,hs⟩:=za (List.getElem_mem hq);rw[uI he,hp];have h1:=jF (jF ha hi) hs;simp only[pW,Bool.not_not];unfold mh;simpa using h1
 ·intro ha;unfold dZ;rw[List.all_eq_true];intro i hi;unfold uP dZ;rw[List.all_eq_true];intro s hs;obtain⟨q,hq,he⟩:=List.getElem_of_mem (Ht (l:=n.agents) (k:=n.agents.length) (by simpa using hi) (by simpa using hs));have h1:=jF ha hq;have he':Hid ((dI n.agents n.agents.length)[q]? =some (dI n.agents n.agents.length)[q]):=List.getElem?_eq_getElem hq;rw[uI he',he]at h1;simp only[pW,Bool.not_not]at h1;unfold mh at h1;simpa using h1
end Go.Tr
namespace Go.Proofs.Ytdpclbjjmhkgiaa
open Go Go.RowKit Go.Proofs Go.Tr
theorem BS(xs:List au)(n:Nat){A:Option Addr}{c:Nat}{bs:List Nat}(w:World)(hx:T1 w (.sl n (xs.flatMap au.enc)) bs (.slice A n c))(Hl:Hid (xs.length=n)):Calls Try.prog 67 #[.slice A n c] w fun e w'=>e=.returned (.bool (bP xs))∧Ext w w':=by
 refine bC fun e=> ?_
 have hn:=hx.vU;have EV:Hid (bP xs=(iy n 1 600&&dZ n (eP xs))):=by show _=_;rw[←Hl.out];rfl
 go_enter Try.func67,Try.ntmps67
 cases d1:decide ((n:Int)<1)
 case true=>
  have E:Hid (bP xs=false):=by show _=_;rw[EV.out,AQ (by simp at d1;omega)];rfl
  go_wp2_with fail
  repeat (refine ay _ (by kernel_rfl) (by kernel_rfl) ?_;(repeat (go_big_quiet_step (fail)));refine wpQuiet_nil ?_;intro e;go_wp2_with fail)
  go_ret;exact⟨by rw[E.out];rfl,_,rfl⟩
 cases d2:decide ((600:Int)<n)
 case true=>
  have E:Hid (bP xs=false):=by show _=_;rw[EV.out,AQ (by simp at d2;omega)];rfl
  go_wp2_with fail
  repeat (refine ay _ (by kernel_rfl) (by kernel_rfl) ?_;(repeat (go_big_quiet_step (fail)));refine wpQuiet_nil ?_;intro e;go_wp2_with fail)
  go_ret;exact⟨by rw[E.out];rfl,_,rfl⟩
 have hin:iy n 1 600=true:=sJ (by simp at d1;omega) (by simp at d2;omega);have Hin:=Lib.hid hin;clear hin
 go_wp2_with fail
 repeat (refine ay _ (by kernel_rfl) (by kernel_rfl) ?_;(repeat (go_big_quiet_step (fail)));refine wpQuiet_nil ?_;intro e;go_wp2_with fail)
 go_loopw [3,15] (fun _ i w'=>∃k:Nat,k≤n∧i=.int .i64 k∧Hid (dZ k (eP xs)=true)∧∃e:aU w,w'=e.to) (fun _ i _=>n-(intOf i).toNat)
 case atStart=>exact⟨0,Nat.zero_le _,rfl,zB _,_,rfl⟩
 case round=>
  obtain⟨k,hk,rfl,hfk,e,rfl⟩:=hrel
  by_cases hltk:k<n
  ·skip
   obtain⟨b,off,x,bs',rfl,hxk,hp⟩:=T1.elem au.aZ hx Hl hltk;obtain⟨A3,c3,b3,A4,c4,b4,h0,h1,h2,h3,h4,t3,t4⟩:=au.pt hp;clear hp
   go_upto_region 6 with(fail)
   generalize hgg:e.to.heap.size=g;refine iH e hgg (fun w1 e hx1 hgeg hltg cg=> ?_);clear hgg
   replace t3:=t3.below hx1
   replace t4:=t4.below hx1
   have u0:=cg.always hltg 0 _ rfl;have u1:=cg.always hltg 1 _ rfl;have u2:=cg.always hltg 2 _ rfl;have u3:=cg.always hltg 3 _ rfl;have u4:=cg.always hltg 4 _ rfl;simp only[Nat.zero_add]at u0 u1 u2 u3 u4;clear cg;clear h0 h1 h2 h3 h4;have C1:Hid (QC Try.prog w1 _ _ _):=fun W hW=>BN x W (au.GU (t3.below hW) (t4.below hW))
   have EK:Hid (eP xs k=(eO x&&((x.kind==1)==((k:Int)==0)))):=by show _=_;rw[eP,nY hxk]
   cases d3:eO x
   case false=>
    (try rw[d3]at C1)
    have E:Hid (bP xs=false):=by show _=_;rw[EV.out,uy hltk (by rw[EK.out,d3];rfl)];simp
    go_wp2_with (first|(go_at_call 82;with_reducible refine(C1.out.at_ _).mono ?_;rintro _ _ ⟨rfl,e,rfl⟩))
    repeat (refine ay _ (by kernel_rfl) (by kernel_rfl) ?_;(repeat (go_big_quiet_step ((first|with_reducible exact C1.out.at_ _))));refine wpQuiet_nil ?_;intro e;go_wp2_with (first|(go_at_call 82;with_reducible refine(C1.out.at_ _).mono ?_;rintro _ _ ⟨rfl,e,rfl⟩)))
    go_ret;exact⟨by rw[E.out];rfl,aU.old hx1 e⟩
   (try rw[d3]at C1)
   cases d4:(x.kind==1)
   case false=>
    (try rw[d4]at C1)
    cases d5:((k:Int)==0)
    case true=>
     (try rw[d5]at C1)
     have E:Hid (bP xs=false):=by show _=_;rw[EV.out,uy hltk (by rw[EK.out,d3,d4,d5];rfl)];simp
     go_wp2_with (first|(go_at_call 82;with_reducible refine(C1.out.at_ _).mono ?_;rintro _ _ ⟨rfl,e,rfl⟩))
     repeat (refine ay _ (by kernel_rfl) (by kernel_rfl) ?_;(repeat (go_big_quiet_step ((first|with_reducible exact C1.out.at_ _))));refine wpQuiet_nil ?_;intro e;go_wp2_with (first|(go_at_call 82;with_reducible refine(C1.out.at_ _).mono ?_;rintro _ _ ⟨rfl,e,rfl⟩)))
     go_ret;exact⟨by rw[E.out];rfl,aU.old hx1 e⟩
    (try rw[d5]at C1)
    have E:Hid (eP xs k=true):=by show _=_;rw[EK.out,d3,d4,d5];rfl
    go_wp2_with (first|(go_at_call 82;with_reducible refine(C1.out.at_ _).mono ?_;rintro _ _ ⟨rfl,e,rfl⟩))
    repeat (refine ay _ (by kernel_rfl) (by kernel_rfl) ?_;(repeat (go_big_quiet_step ((first|with_reducible exact C1.out.at_ _))));refine wpQuiet_nil ?_;intro e;go_wp2_with (first|(go_at_call 82;with_reducible refine(C1.out.at_ _).mono ?_;rintro _ _ ⟨rfl,e,rfl⟩)))
    exact⟨⟨k+1,by omega,by go_num,nZ hfk E.out,⟨e.to,hx1.trans e.h⟩,rfl⟩,by simp[intOf];omega⟩
   (try rw[d4]at C1)
   cases d6:((k:Int)==0)
   case false=>
    (try rw[d6]at C1)
    have E:Hid (bP xs=false):=by show _=_;rw[EV.out,uy hltk (by rw[EK.out,d3,d4,d6];rfl)];simp
    go_wp2_with (first|(go_at_call 82;with_reducible refine(C1.out.at_ _).mono ?_;rintro _ _ ⟨rfl,e,rfl⟩))
    repeat (refine ay _ (by kernel_rfl) (by kernel_rfl) ?_;(repeat (go_big_quiet_step ((first|with_reducible exact C1.out.at_ _))));refine wpQuiet_nil ?_;intro e;go_wp2_with (first|(go_at_call 82;with_reducible refine(C1.out.at_ _).mono ?_;rintro _ _ ⟨rfl,e,rfl⟩)))
    go_ret;exact⟨by rw[E.out];rfl,aU.old hx1 e⟩
   (try rw[d6]at C1)
   have E:Hid (eP xs k=true):=by show _=_;rw[EK.out,d3,d4,d6];rfl
   go_wp2_with (first|(go_at_call 82;with_reducible refine(C1.out.at_ _).mono ?_;rintro _ _ ⟨rfl,e,rfl⟩))
   repeat (refine ay _ (by kernel_rfl) (by kernel_rfl) ?_;(repeat (go_big_quiet_step ((first|with_reducible exact C1.out.at_ _))));refine wpQuiet_nil ?_;intro e;go_wp2_with (first|(go_at_call 82;with_reducible refine(C1.out.at_ _).mono ?_;rintro _ _ ⟨rfl,e,rfl⟩)))
   exact⟨⟨k+1,by omega,by go_num,nZ hfk E.out,⟨e.to,hx1.trans e.h⟩,rfl⟩,by simp[intOf];omega⟩
  ·have:n=k:=by omega
   subst this;have E:Hid (bP xs=true):=by show _=_;rw[EV.out,Hin.out,hfk.out];rfl
   go_wp2_with fail
   repeat (refine ay _ (by kernel_rfl) (by kernel_rfl) ?_;(repeat (go_big_quiet_step (fail)));refine wpQuiet_nil ?_;intro e;go_wp2_with fail)
   go_ret;exact⟨by rw[E.out];rfl,_,rfl⟩
theorem Gw(xs:List au)(n:Nat){A:Option Addr}{c:Nat}{bs:List Nat}(p:aF)(w:World)(hx:T1 w (.sl n (xs.flatMap au.enc)) bs (.slice A n c))(Hl:Hid (xs.length=n)):Calls Try.prog 65 #[.slice A n c,.agg #[.int .i64 p.agent,.int .i64 p.slot]] w fun e w'=>e=.returned (.bool (iT xs p))∧Ext w w':=by
 refine bC fun e=> ?_
 have hn:=hx.vU;have EV:Hid (iT xs p=(iy p.agent 0 ((n:Int)-1)&&iy p.slot 0 (((gF xs p.agent.toNat).aH.length:Int)-1))):=by show _=_;rw[←Hl.out];rfl
 go_enter Try.func65,Try.ntmps65
 go_upto_region 1 with(fail)
 generalize hgg:e.to.heap.size=g;refine iH e hgg (fun w1 e hx1 hgeg hltg cg=> ?_);clear hgg
 replace hx:=hx.below hx1
 obtain⟨k0,k1⟩:=aF.QA (gU.box hltg cg aF.GU);cases d1:decide (0≤p.agent)
 case false=>
  have E:Hid (iT xs p=false):=by show _=_;rw[EV.out,AQ (by simp at d1;omega)];rfl
  go_wp2_with fail
  repeat (refine ay _ (by kernel_rfl) (by kernel_rfl) ?_;(repeat (go_big_quiet_step (fail)));refine wpQuiet_nil ?_;intro e;go_wp2_with fail)
  go_ret;exact⟨by rw[E.out];rfl,aU.old hx1 e⟩
 cases d2:decide (p.agent<(n:Int))
 case false=>
  have E:Hid (iT xs p=false):=by show _=_;rw[EV.out,AQ (by simp at d2;omega)];rfl
  go_wp2_with fail
  repeat (refine ay _ (by kernel_rfl) (by kernel_rfl) ?_;(repeat (go_big_quiet_step (fail)));refine wpQuiet_nil ?_;intro e;go_wp2_with fail)
  go_ret;exact⟨by rw[E.out];rfl,aU.old hx1 e⟩
 cases d3:decide (0≤p.slot)
 case false=>
  have E:Hid (iT xs p=false):=by show _=_;rw[EV.out,AQ (n:=p.slot) (by simp at d3;omega),Bool.and_false]
  go_wp2_with fail
  repeat (refine ay _ (by kernel_rfl) (by kernel_rfl) ?_;(repeat (go_big_quiet_step (fail)));refine wpQuiet_nil ?_;intro e;go_wp2_with fail)
  go_ret;exact⟨by rw[E.out];rfl,aU.old hx1 e⟩
 have ha0:0≤p.agent:=by simpa using d1
 have ha1:p.agent<(n:Int):=by simpa using d2
 obtain⟨i,hi⟩:=Int.eq_ofNat_of_zero_le ha0;have hlt:i<n:=by omega
 obtain⟨b,off,x,bs',rfl,hxk,hp⟩:=T1.elem au.aZ hx Hl hlt;obtain⟨A3,c3,b3,A4,c4,b4,h0,h1,h2,h3,h4,t3,t4⟩:=au.pt hp;have hn4:=t4.vU;clear h0 h1 h2 h3 t3;have EA:Hid (gF xs p.agent.toNat=x):=by show _=_;rw[hi,Int.toNat_natCast];exact nY hxk
 have EI:Hid (iy p.agent 0 ((n:Int)-1)=true):=sJ ha0 (by omega);rw[hi]at k0 d1 d2;have i0:(0:Int)≤(i:Int):=by omega
 have i1:(i:Int)<(n:Int):=by omega
 clear hi ha0 ha1;have E:Hid (iT xs p=decide (p.slot<(x.aH.length:Int))):=by show _=_;rw[EV.out,EA.out,EI.out,Bool.true_and];unfold iy;rw[show decide ((0:Int)≤p.slot)=true from d3,Bool.true_and];rw[Bool.eq_iff_iff];simp;omega
 go_wp2_with fail
 repeat (refine ay _ (by kernel_rfl) (by kernel_rfl) ?_;(repeat (go_big_quiet_step (fail)));refine wpQuiet_nil ?_;intro e;go_wp2_with fail)
 go_ret;exact⟨by rw[E.out];rfl,aU.old hx1 e⟩
theorem Pv:nu Try.prog 61 60 2:=nu.of Try.underlying61 (by kernel_rfl) (by omega)
theorem MW(x:aW)(b o:Nat)(bs:List Nat)(w:World)(h:gU w b o x.enc bs)(hok:bP x.agents=true):Calls Try.prog 63 #[.pointer (some ⟨b,o,none⟩)] w fun e w'=>
  Ext w w'∧∃A c bs',e=.returned (.slice A (dI x.agents x.agents.length).length c)∧T1 w' (.sl (dI x.agents x.agents.length).length ((dI x.agents x.agents.length).flatMap aF.enc)) bs' (.slice A (dI x.agents x.agents.length).length c):=by
 obtain⟨A0,c0,b0,h0,t0⟩:=aW.pt h;have hn0:=t0.vU;obtain⟨hk1,hk2,hall⟩:=yS hok;have Hall:=Lib.hid hall;clear hall hok;refine Mq fun e=> ?_
 go_enter Try.func63,Try.ntmps63
 go_wp2_with fail
 go_loopw [3,12] (fun v i wr=>∃k:Nat,k≤x.agents.length∧i=.int .i64 k∧∃e:aU w,wr=e.to∧e.to.ownsRow w.heap.size 60 2 v (dI x.agents k).length ((dI x.agents k).flatMap aF.cells)) (fun _ i _=>x.agents.length-(intOf i).toNat)
 case atStart=>exact⟨0,Nat.zero_le _,rfl,_,rfl,World.ownsRow_nil _ _ _ _⟩
 case round=>
  obtain⟨k,hk,rfl,e,rfl,ho⟩:=hrel
  by_cases hlt:k<x.agents.length
  ·obtain⟨b',off,y,bs',rfl,hyk,hp⟩:=T1.elem au.aZ t0 kH hlt;obtain⟨A3,c3,b3,A4,c4,b4,g0,g1,g2,g3,g4,t3,t4⟩:=au.pt hp;have hn4:=t4.vU;have HA:Hid (gF x.agents k=y):=nY hyk;have hy4:y.aH.length≤4:=by have:=uX (Hall.out k hlt);rw[HA.out]at this;exact this
   have hle:(dI x.agents k).length≤4*k:=Jw fun j hj=>Hall.out j (by omega)
   clear t3 t4 hp
   go_wp2_with fail
   go_loopw [3,20] (fun v i wr=>∃j:Nat,j≤y.aH.length∧i=.int .i64 j∧∃e:aU w,wr=e.to∧e.to.ownsRow w.heap.size 60 2 v ((dI x.agents k).length+j) ((dI x.agents k).flatMap aF.cells++(nO k j).flatMap aF.cells)) (fun _ i _=>y.aH.length-(intOf i).toNat)
   case atStart=>exact⟨0,Nat.zero_le _,rfl,⟨_,e.h.alloc e.h.size _⟩,rfl,by simpa[nO]using ho.alloc _⟩
   case round=>
    obtain⟨j,hj,rfl,e,rfl,ho⟩:=hrel
    by_cases hltj:j<y.aH.length
    ·have hge:=e.h.size
     go_wp2_with (at_builtin;refine JU rfl (.tmp 23) (.tmp 27) 61 rfl Pv w.heap.size _ _ _ rfl (ho.alloc _) e.to.heap.size 1 1 #[.int .i64 (k:Int),.int .i64 (j:Int)] rfl (heap_alloc_new e.to _) rfl rfl (by omega) (by simp;omega) ?_;intro v' w2 ho2 hg2)
     have hx2:Ext w w2:=Ext.grown (e.h.alloc e.h.size _) hg2 (Jq ho)
     go_roundw
     case rel=>exact⟨j+1,by omega,by go_num,⟨w2,hx2⟩,rfl,by rw[EZ,List.flatMap_append,←List.append_assoc];exact ho2⟩
     case measure=>simp[intOf];omega
    ·have:y.aH.length=j:=by omega
     subst this
     go_wp2_with fail
     go_roundw
     case rel=>exact⟨k+1,by omega,by go_num,e,rfl,by rw[xk,HA.out,List.flatMap_append,List.length_append];simpa[nO]using ho⟩
     case measure=>simp[intOf];omega
  ·have:x.agents.length=k:=by omega
   subst this
   go_wp2_with fail
   go_ret;obtain⟨A,c,bs',rfl,ht⟩:=Jr ho (TN.SQ aF.cells (fun _=>rfl) _);exact⟨e,rfl,A,c,bs',rfl,ht⟩
theorem FW(N:aW)(nb no:Nat)(nbs:List Nat)(p:aF)(w:World)(hN:gU w nb no N.enc nbs)(hp:iT N.agents p=true):Calls Try.prog 69 #[.agg #[.int .i64 p.agent,.int .i64 p.slot],.pointer (some ⟨nb,no,none⟩)] w fun e w'=>e=.returned (.bool (pW N.agents p))∧Ext w w':=by
 refine bC fun e=> ?_
 obtain⟨A0,c0,b0,h0,t0⟩:=aW.pt hN;obtain⟨q,hq⟩:∃q,mh N.agents p=q:=⟨_,rfl⟩;have EV:Hid (pW N.agents p= !xO N.agents p q):=by show _=_;rw[pW,hq]
 have Hq:=Lib.hid hq;clear hq
 go_enter Try.func69,Try.ntmps69
 go_upto_region 1 with(fail)
 generalize hgg:e.to.heap.size=g;refine iH e hgg (fun w1 e hx1 hgeg hltg cg=> ?_);clear hgg
 replace hN:=hN.ext hx1
 replace h0:=h0.ext hx1
 replace t0:=t0.below hx1
 obtain⟨k0,k1⟩:=aF.QA (x:=p) (gU.box hltg cg aF.GU);clear cg;have C1:Hid (QC Try.prog w1 _ _ _):=fun W hW=>Hg N nb no _ p W (hN.ext hW) hp
 rw[Hq.out]at C1
 go_upto_region 2 with(first|(go_at_call 70;with_reducible refine(C1.out.at_ _).mono ?_;rintro _ _ ⟨rfl,e,rfl⟩))
 repeat (refine ay _ (by kernel_rfl) (by kernel_rfl) ?_;(repeat (go_big_quiet_step ((first|with_reducible exact C1.out.at_ _))));refine wpQuiet_nil ?_;intro e;go_upto_region 2 with(first|(go_at_call 70;with_reducible refine(C1.out.at_ _).mono ?_;rintro _ _ ⟨rfl,e,rfl⟩)))
 generalize hggq:e.to.heap.size=gq;refine iH e hggq (fun w2 e hx2 hgegq hltgq cgq=> ?_);clear hggq
 replace hN:=hN.ext hx2
 replace h0:=h0.ext hx2
 replace k0:=k0.ext hx2
 replace k1:=k1.ext hx2
 replace t0:=t0.below hx2
 replace C1:Hid (QC Try.prog w2 _ _ _):=C1.out.ext hx2
 have hy2:=Ext.trans hx1 hx2;obtain⟨q0,q1⟩:=aF.QA (x:=q) (gU.box hltgq cgq aF.GU);clear cgq;clear C1;have hg:=Xn;have heq:=fun W=>RI W q p
 have C2:Hid (QC Try.prog w2 _ _ _):=fun W hW=>Gw N.agents _ q W (t0.below hW) kH
 cases d1:rO q p
 case true=>
  (try rw[d1]at C2)
  have E:Hid (pW N.agents p=true):=by show _=_;rw[EV.out];simp[xO,d1]
  go_wp2_with (first|(go_at_call 65;with_reducible refine(C2.out.at_ _).mono ?_;rintro _ _ ⟨rfl,e,rfl⟩))
  repeat (refine ay _ (by kernel_rfl) (by kernel_rfl) ?_;(repeat (go_big_quiet_step ((first|with_reducible exact C2.out.at_ _))));refine wpQuiet_nil ?_;intro e;go_wp2_with (first|(go_at_call 65;with_reducible refine(C2.out.at_ _).mono ?_;rintro _ _ ⟨rfl,e,rfl⟩)))
  go_ret;exact⟨by rw[E.out];rfl,aU.old hy2 e⟩
 (try rw[d1]at C2)
 cases d2:iT N.agents q
 case false=>
  (try rw[d2]at C2)
  have E:Hid (pW N.agents p=true):=by show _=_;rw[EV.out];simp[xO,d2]
  go_wp2_with (first|(go_at_call 65;with_reducible refine(C2.out.at_ _).mono ?_;rintro _ _ ⟨rfl,e,rfl⟩))
  repeat (refine ay _ (by kernel_rfl) (by kernel_rfl) ?_;(repeat (go_big_quiet_step ((first|with_reducible exact C2.out.at_ _))));refine wpQuiet_nil ?_;intro e;go_wp2_with (first|(go_at_call 65;with_reducible refine(C2.out.at_ _).mono ?_;rintro _ _ ⟨rfl,e,rfl⟩)))
  go_ret;exact⟨by rw[E.out];rfl,aU.old hy2 e⟩
 (try rw[d2]at C2)
 obtain⟨r,hr⟩:∃r,mh N.agents q=r:=⟨_,rfl⟩;have Hr:=Lib.hid hr;clear hr;have C3:Hid (QC Try.prog w2 _ _ _):=fun W hW=>Hg N nb no _ q W (hN.ext hW) d2
 rw[Hr.out]at C3;have hne:=fun W=>RJ W r p
 have E:Hid (pW N.agents p= !rO r p):=by show _=_;rw[EV.out];simp[xO,Hr.out,d1,d2]
 go_wp2_with (first|(go_at_call 65;with_reducible refine(C2.out.at_ _).mono ?_;rintro _ _ ⟨rfl,e,rfl⟩)|(go_at_call 70;with_reducible refine(C3.out.at_ _).mono ?_;rintro _ _ ⟨rfl,e,rfl⟩))
 repeat (refine ay _ (by kernel_rfl) (by kernel_rfl) ?_;(repeat (go_big_quiet_step ((first|with_reducible exact C2.out.at_ _|with_reducible exact C3.out.at_ _))));refine wpQuiet_nil ?_;intro e;go_wp2_with (first|(go_at_call 65;with_reducible refine(C2.out.at_ _).mono ?_;rintro _ _ ⟨rfl,e,rfl⟩)|(go_at_call 70;with_reducible refine(C3.out.at_ _).mono ?_;rintro _ _ ⟨rfl,e,rfl⟩)))
 go_ret;exact⟨by rw[E.out];rfl,aU.old hy2 e⟩
theorem yu(xs:List aF)(n:Nat){A:Option Addr}{c:Nat}{bs:List Nat}(N:aW)(nb no:Nat)(nbs:List Nat)(w:World)(hx:T1 w (.sl n (xs.flatMap aF.enc)) bs (.slice A n c))(Hl:Hid (xs.length=n))(hN:gU w nb no N.enc nbs)(hin:∀(k:Nat) (y:aF),xs[k]? =some y→iT N.agents y=true):Calls Try.prog 83 #[.slice A n c,.func (.func 69) #[] #[.pointer (some ⟨nb,no,none⟩)]] w fun e w'=>e=.returned (.int .i64 (idxOf n (fun k=>pW N.agents (jW xs k))))∧Ext w w':=by
 refine bC fun e=> ?_
 have hn:=hx.vU
 go_enter Try.func83,Try.ntmps83
 go_wp2_with fail
 repeat (refine ay _ (by kernel_rfl) (by kernel_rfl) ?_;(repeat (go_big_quiet_step (fail)));refine wpQuiet_nil ?_;intro e;go_wp2_with fail)
 go_loopw [5,8] (fun _ i w'=>∃k:Nat,k≤n∧i=.int .i64 k∧Hid (dZ k (fun k=> !pW N.agents (jW xs k))=true)∧∃e:aU w,w'=e.to) (fun _ i _=>n-(intOf i).toNat)
 case atStart=>exact⟨0,Nat.zero_le _,rfl,zB _,_,rfl⟩
 case round=>
  obtain⟨k,hk,rfl,hf,e,rfl⟩:=hrel
  by_cases hlt:k<n
  ·skip
   obtain⟨b,off,x,bs',rfl,hxk,hp⟩:=T1.elem aF.aZ hx Hl hlt;obtain⟨kx0,kx1⟩:=aF.pt hp;have hpi:=hin k x hxk.out;have EP:Hid (pW N.agents (jW xs k)=pW N.agents x):=by show _=_;rw[uI hxk]
   have C1:Hid (QC Try.prog w _ _ _):=fun W hW=>FW N nb no nbs x W (hN.ext hW) hpi
   cases d1:pW N.agents x
   case true=>
    (try rw[d1]at C1)
    have E:Hid (idxOf n (fun k=>pW N.agents (jW xs k))=(k:Int)):=by show _=_;exact AO hf hlt (by rw[EP.out];exact d1)
    go_wp2_with (first|(go_at_call 69;with_reducible refine(C1.out.at_ _).mono ?_;rintro _ _ ⟨rfl,e,rfl⟩))
    repeat (refine ay _ (by kernel_rfl) (by kernel_rfl) ?_;(repeat (go_big_quiet_step ((first|with_reducible exact C1.out.at_ _))));refine wpQuiet_nil ?_;intro e;go_wp2_with (first|(go_at_call 69;with_reducible refine(C1.out.at_ _).mono ?_;rintro _ _ ⟨rfl,e,rfl⟩)))
    go_ret;exact⟨by rw[E.out];rfl,_,rfl⟩
   (try rw[d1]at C1)
   have E:Hid ((!pW N.agents (jW xs k))=true):=by show _=_;rw[EP.out,d1];rfl
   go_wp2_with (first|(go_at_call 69;with_reducible refine(C1.out.at_ _).mono ?_;rintro _ _ ⟨rfl,e,rfl⟩))
   repeat (refine ay _ (by kernel_rfl) (by kernel_rfl) ?_;(repeat (go_big_quiet_step ((first|with_reducible exact C1.out.at_ _))));refine wpQuiet_nil ?_;intro e;go_wp2_with (first|(go_at_call 69;with_reducible refine(C1.out.at_ _).mono ?_;rintro _ _ ⟨rfl,e,rfl⟩)))
   exact⟨⟨k+1,by omega,by go_num,nZ hf E.out,_,rfl⟩,by simp[intOf];omega⟩
  ·have:n=k:=by omega
   subst this;have E:Hid (idxOf n (fun k=>pW N.agents (jW xs k))= -1):=by show _=_;exact qJ hf
   go_wp2_with fail
   repeat (refine ay _ (by kernel_rfl) (by kernel_rfl) ?_;(repeat (go_big_quiet_step (fail)));refine wpQuiet_nil ?_;intro e;go_wp2_with fail)
   go_ret;exact⟨by rw[E.out];rfl,_,rfl⟩
theorem uT(xs:List aF)(n:Nat){A:Option Addr}{c:Nat}{bs:List Nat}(N:aW)(nb no:Nat)(nbs:List Nat)(w:World)(hx:T1 w (.sl n (xs.flatMap aF.enc)) bs (.slice A n c))(Hl:Hid (xs.length=n))(hN:gU w nb no N.enc nbs)(hin:∀(k:Nat) (y:aF),xs[k]? =some y→iT N.agents y=true):Calls Try.prog 68 #[.slice A n c,.func (.func 69) #[] #[.pointer (some ⟨nb,no,none⟩)]] w fun e w'=>e=.returned (.bool (qZ n (fun k=>pW N.agents (jW xs k))))∧Ext w w':=by
 refine bC fun e=> ?_
 have C1:Hid (QC Try.prog w _ _ _):=fun W hW=>yu xs n N nb no nbs W (hx.below hW) Hl (hN.ext hW) hin
 have hc:=AP n (fun k=>pW N.agents (jW xs k))
 go_enter Try.func68,Try.ntmps68
 go_wp2_with (first|(go_at_call 83;with_reducible refine(C1.out.at_ _).mono ?_;rintro _ _ ⟨rfl,e,rfl⟩))
 repeat (refine ay _ (by kernel_rfl) (by kernel_rfl) ?_;(repeat (go_big_quiet_step ((first|with_reducible exact C1.out.at_ _))));refine wpQuiet_nil ?_;intro e;go_wp2_with (first|(go_at_call 83;with_reducible refine(C1.out.at_ _).mono ?_;rintro _ _ ⟨rfl,e,rfl⟩)))
 go_ret;exact⟨by rw[←hc];rfl,_,rfl⟩
theorem ql(x:aW){bs us}(w:World)(h:TN w x.enc bs us):Calls Try.prog 43 #[.agg us.toArray] w fun e w'=>e=.returned (.bool (gW x))∧Ext w w':=by
 refine bC fun e=> ?_
 obtain⟨P0,p0,q0,rfl,_⟩:=aW.us (x:=x) h
 go_enter Try.func43,Try.ntmps43
 go_upto_region 1 with(fail)
 generalize hgg:e.to.heap.size=g;refine iH e hgg (fun w1 e hx1 hgeg hltg cg=> ?_);clear hgg
 replace h:=h.below hx1
 have p:=gU.box hltg cg h;clear cg h;obtain⟨A0,c0,b0,h0,t0⟩:=aW.QA p;have C1:Hid (QC Try.prog w1 _ _ _):=fun W hW=>BS x.agents _ W (t0.below hW) kH
 cases d1:bP x.agents
 case false=>
  (try rw[d1]at C1)
  have E:Hid (gW x=false):=by show _=_;simp[gW,d1]
  go_wp2_with (first|(go_at_call 67;with_reducible refine(C1.out.at_ _).mono ?_;rintro _ _ ⟨rfl,e,rfl⟩))
  repeat (refine ay _ (by kernel_rfl) (by kernel_rfl) ?_;(repeat (go_big_quiet_step ((first|with_reducible exact C1.out.at_ _))));refine wpQuiet_nil ?_;intro e;go_wp2_with (first|(go_at_call 67;with_reducible refine(C1.out.at_ _).mono ?_;rintro _ _ ⟨rfl,e,rfl⟩)))
  go_ret;exact⟨by rw[E.out];rfl,aU.old hx1 e⟩
 (try rw[d1]at C1)
 have EV:Hid (gW x= !qZ (dI x.agents x.agents.length).length (fun k=>pW x.agents (jW (dI x.agents x.agents.length) k))):=Jk x d1
 go_wp2_with (first|(go_at_call 67;with_reducible refine(C1.out.at_ _).mono ?_;rintro _ _ ⟨rfl,e,rfl⟩))
 repeat (refine ay _ (by kernel_rfl) (by kernel_rfl) ?_;(repeat (go_big_quiet_step ((first|with_reducible exact C1.out.at_ _))));refine wpQuiet_nil ?_;intro e;go_wp2_with (first|(go_at_call 67;with_reducible refine(C1.out.at_ _).mono ?_;rintro _ _ ⟨rfl,e,rfl⟩)))
 refine(MW x g 0 _ _ (p.ext e.h) d1).mono ?_;rintro _ w2 ⟨hx2,A,c,bs',rfl,ht⟩;have hq:=Ext.trans e.h hx2;clear C1
 replace p:=p.ext hq
 have hy2:=Ext.trans hx1 hq;obtain⟨e,he⟩:∃e:aU w2,w2=e.to:=⟨⟨w2,Below.refl _ _⟩,rfl⟩;have C2:Hid (QC Try.prog w2 _ _ _):=fun W hW=>uT (dI x.agents x.agents.length) _ x g 0 _ W (ht.below hW) kH (p.ext hW) (fun k y hy=>Jv hy)
 go_wp2_with (first|(go_at_call 68;with_reducible refine(C2.out.at_ _).mono ?_;rintro _ _ ⟨rfl,e,rfl⟩))
 repeat (refine ay _ (by kernel_rfl) (by kernel_rfl) ?_;(repeat (go_big_quiet_step ((first|with_reducible exact C2.out.at_ _))));refine wpQuiet_nil ?_;intro e;go_wp2_with (first|(go_at_call 68;with_reducible refine(C2.out.at_ _).mono ?_;rintro _ _ ⟨rfl,e,rfl⟩)))
 go_ret;refine⟨by rw[EV.out];rfl,?_⟩
 first|exact aU.old hy2 e|exact aU.old hy2 ⟨_,Below.refl _ _⟩
theorem uW(x:aW){A:Option Addr}{c:Nat}{bs:List Nat}(w:World)(hx:T1 w (.sl x.agents.length (x.agents.flatMap au.enc)) bs (.slice A x.agents.length c)):Calls Try.prog 76 #[.agg #[.slice A x.agents.length c]] w fun e w'=>e=.returned (.bool ((!gW x)))∧Ext w w':=by
 refine bC fun e=> ?_
 go_enter Try.func76,Try.ntmps76
 go_upto_region 1 with(fail)
 generalize hgg:e.to.heap.size=g;refine iH e hgg (fun w1 e hx1 hgeg hltg cg=> ?_);clear hgg
 replace hx:=hx.below hx1
 have k0:=cg.always hltg 0 _ rfl;simp only[Nat.zero_add]at k0;clear cg;have C1:Hid (QC Try.prog w1 _ _ _):=fun W hW=>ql x W (aW.GU (hx.below hW))
 go_wp2_with (first|(go_at_call 43;with_reducible refine(C1.out.at_ _).mono ?_;rintro _ _ ⟨rfl,e,rfl⟩))
 repeat (refine ay _ (by kernel_rfl) (by kernel_rfl) ?_;(repeat (go_big_quiet_step ((first|with_reducible exact C1.out.at_ _))));refine wpQuiet_nil ?_;intro e;go_wp2_with (first|(go_at_call 43;with_reducible refine(C1.out.at_ _).mono ?_;rintro _ _ ⟨rfl,e,rfl⟩)))
 go_ret;exact⟨rfl,aU.old hx1 e⟩
theorem vO(xs:List aW)(n:Nat){A:Option Addr}{c:Nat}{bs:List Nat}(w:World)(hx:T1 w (.sl n (xs.flatMap aW.enc)) bs (.slice A n c))(Hl:Hid (xs.length=n)):Calls Try.prog 85 #[.slice A n c,.func (.func 76) #[] #[]] w fun e w'=>e=.returned (.int .i64 (idxOf n (fun k=> !gW (mX xs k))))∧Ext w w':=by
 refine bC fun e=> ?_
 have hn:=hx.vU
 go_enter Try.func85,Try.ntmps85
 go_wp2_with fail
 repeat (refine ay _ (by kernel_rfl) (by kernel_rfl) ?_;(repeat (go_big_quiet_step (fail)));refine wpQuiet_nil ?_;intro e;go_wp2_with fail)
 go_loopw [5,8] (fun _ i w'=>∃k:Nat,k≤n∧i=.int .i64 k∧Hid (dZ k (fun k=> !!gW (mX xs k))=true)∧∃e:aU w,w'=e.to) (fun _ i _=>n-(intOf i).toNat)
 case atStart=>exact⟨0,Nat.zero_le _,rfl,zB _,_,rfl⟩
 case round=>
  obtain⟨k,hk,rfl,hf,e,rfl⟩:=hrel
  by_cases hlt:k<n
  ·skip
   obtain⟨b,off,x,bs',rfl,hxk,hp⟩:=T1.elem aW.aZ hx Hl hlt;obtain⟨A0,c0,b0,kx0,tx0⟩:=aW.pt hp;rw[Nat.mul_one]at kx0;have EP:Hid ((!gW (mX xs k))= !gW x):=by show _=_;rw[OX hxk]
   have C1:Hid (QC Try.prog w _ _ _):=fun W hW=>uW x W (tx0.below hW)
   cases d1:(!gW x)
   case true=>
    (try rw[d1]at C1)
    have E:Hid (idxOf n (fun k=> !gW (mX xs k))=(k:Int)):=by show _=_;exact AO hf hlt (by rw[EP.out];exact d1)
    go_wp2_with (first|(go_at_call 76;with_reducible refine(C1.out.at_ _).mono ?_;rintro _ _ ⟨rfl,e,rfl⟩))
    repeat (refine ay _ (by kernel_rfl) (by kernel_rfl) ?_;(repeat (go_big_quiet_step ((first|with_reducible exact C1.out.at_ _))));refine wpQuiet_nil ?_;intro e;go_wp2_with (first|(go_at_call 76;with_reducible refine(C1.out.at_ _).mono ?_;rintro _ _ ⟨rfl,e,rfl⟩)))
    go_ret;exact⟨by rw[E.out];rfl,_,rfl⟩
   (try rw[d1]at C1)
   have E:Hid ((!!gW (mX xs k))=true):=by show _=_;rw[EP.out,d1];rfl
   go_wp2_with (first|(go_at_call 76;with_reducible refine(C1.out.at_ _).mono ?_;rintro _ _ ⟨rfl,e,rfl⟩))
   repeat (refine ay _ (by kernel_rfl) (by kernel_rfl) ?_;(repeat (go_big_quiet_step ((first|with_reducible exact C1.out.at_ _))));refine wpQuiet_nil ?_;intro e;go_wp2_with (first|(go_at_call 76;with_reducible refine(C1.out.at_ _).mono ?_;rintro _ _ ⟨rfl,e,rfl⟩)))
   exact⟨⟨k+1,by omega,by go_num,nZ hf E.out,_,rfl⟩,by simp[intOf];omega⟩
  ·have:n=k:=by omega
   subst this;have E:Hid (idxOf n (fun k=> !gW (mX xs k))= -1):=by show _=_;exact qJ hf
   go_wp2_with fail
   repeat (refine ay _ (by kernel_rfl) (by kernel_rfl) ?_;(repeat (go_big_quiet_step (fail)));refine wpQuiet_nil ?_;intro e;go_wp2_with fail)
   go_ret;exact⟨by rw[E.out];rfl,_,rfl⟩
theorem rF(xs:List aW)(n:Nat){A:Option Addr}{c:Nat}{bs:List Nat}(w:World)(hx:T1 w (.sl n (xs.flatMap aW.enc)) bs (.slice A n c))(Hl:Hid (xs.length=n)):Calls Try.prog 75 #[.slice A n c,.func (.func 76) #[] #[]] w fun e w'=>e=.returned (.bool (qZ n (fun k=> !gW (mX xs k))))∧Ext w w':=by
 refine bC fun e=> ?_
 have C1:Hid (QC Try.prog w _ _ _):=fun W hW=>vO xs n W (hx.below hW) Hl
 have hc:=AP n (fun k=> !gW (mX xs k))
 go_enter Try.func75,Try.ntmps75
 go_wp2_with (first|(go_at_call 85;with_reducible refine(C1.out.at_ _).mono ?_;rintro _ _ ⟨rfl,e,rfl⟩))
 repeat (refine ay _ (by kernel_rfl) (by kernel_rfl) ?_;(repeat (go_big_quiet_step ((first|with_reducible exact C1.out.at_ _))));refine wpQuiet_nil ?_;intro e;go_wp2_with (first|(go_at_call 85;with_reducible refine(C1.out.at_ _).mono ?_;rintro _ _ ⟨rfl,e,rfl⟩)))
 go_ret;exact⟨by rw[←hc];rfl,_,rfl⟩
theorem wo(xs:List aW)(n:Nat){A:Option Addr}{c:Nat}{bs:List Nat}(w:World)(hx:T1 w (.sl n (xs.flatMap aW.enc)) bs (.slice A n c))(Hl:Hid (xs.length=n)):Calls Try.prog 52 #[.slice A n c] w fun e w'=>e=.returned (.bool (yT xs))∧Ext w w':=by
 refine bC fun e=> ?_
 have hn:=hx.vU;have EV:Hid (yT xs=(decide ((n:Int)≤24)&&dZ n fun k=>gW (mX xs k))):=by show _=_;rw[←Hl.out];rfl
 have hc:(!qZ n (fun k=> !gW (mX xs k)))=dZ n (fun k=>gW (mX xs k)):=by simp[qZ]
 have HC:=Lib.hid hc;clear hc;have C1:Hid (QC Try.prog w _ _ _):=fun W hW=>rF xs n W (hx.below hW) Hl
 go_enter Try.func52,Try.ntmps52
 cases d1:decide ((n:Int)≤24)
 case false=>
  (try rw[d1]at C1)
  have E:Hid (yT xs=false):=by show _=_;rw[EV.out,d1];rfl
  go_wp2_with (first|(go_at_call 75;with_reducible refine(C1.out.at_ _).mono ?_;rintro _ _ ⟨rfl,e,rfl⟩))
  repeat (refine ay _ (by kernel_rfl) (by kernel_rfl) ?_;(repeat (go_big_quiet_step ((first|with_reducible exact C1.out.at_ _))));refine wpQuiet_nil ?_;intro e;go_wp2_with (first|(go_at_call 75;with_reducible refine(C1.out.at_ _).mono ?_;rintro _ _ ⟨rfl,e,rfl⟩)))
  go_ret;exact⟨by rw[E.out];rfl,_,rfl⟩
 (try rw[d1]at C1)
 have E:Hid (yT xs= !qZ n (fun k=> !gW (mX xs k))):=by show _=_;rw[EV.out,d1,HC.out];rfl
 go_wp2_with (first|(go_at_call 75;with_reducible refine(C1.out.at_ _).mono ?_;rintro _ _ ⟨rfl,e,rfl⟩))
 repeat (refine ay _ (by kernel_rfl) (by kernel_rfl) ?_;(repeat (go_big_quiet_step ((first|with_reducible exact C1.out.at_ _))));refine wpQuiet_nil ?_;intro e;go_wp2_with (first|(go_at_call 75;with_reducible refine(C1.out.at_ _).mono ?_;rintro _ _ ⟨rfl,e,rfl⟩)))
 go_ret;exact⟨by rw[E.out];rfl,_,rfl⟩
theorem Pq:bY Try.prog 43=true:=by kernel_rfl
theorem Vu(xs:List ah):bg Try.prog 43 [.agg [.rsl aV xs]] (.bool (gW (gN xs))):=
 bg.Vw (u:=kX) (x:=xs) Pq (fun w bs us h=>ql (gN xs) w (by rw[Ep];exact h)) (fun _ _=>F6 _) (fun _ _ _ _ _ hI hd=>VQ hI hd)
theorem XM(bk:List (List ah)):bg Try.prog 52 [.rsl kX bk] (.bool (yT (bk.map gN))):=
 bg.Xh (by kernel_rfl) (fun w A c bs h=>wo (bk.map gN) bk.length w (by rw[Vb];exact h) (List.length_map _)) (fun _ _=>F6 _)
end Go.Proofs.Ytdpclbjjmhkgiaa
