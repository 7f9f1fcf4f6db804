
/- The program's functions on agents: what makes them valid. Printed by gen_neti.py. -/
import Derived.Test.YtjpaeopdljfjpaaGreatShort
import Derived.Test.YtjpaeopdljfjpaaGreatProg
import Derived.Test.YtjpaeopdljfjpaaGreatAgents
import Derived.Test.YtjpaeopdljfjpaaGreatValid
import Derived.Test.YtjpaeopdljfjpaaGreatQDbg
import Derived.Test.YtjpaeopdljfjpaaGreatSc
import Derived.BigGuardPart
import Derived.Outline
import Derived.Deep.CutBlock
import Derived.Test.YtjpaeopdljfjpaaGreatVti
import Derived.Test.YtjpaeopdljfjpaaGreatVV
import Derived.Test.YtjpaeopdljfjpaaGreatNz
import Derived.Test.YtjpaeopdljfjpaaGreatIo
import Derived.StillTailTactics
import Derived.BigRegion
set_option maxHeartbeats 4000000
set_option maxRecDepth 100000
set_option linter.unusedSimpArgs false
set_option linter.unusedVariables false
namespace Go.Proofs.YtjpaeopdljfjpaaGreat
open Go Go.RowKit Go.Proofs Go.Tr
theorem rF(n:Int)(w:World):Calls Tryz.prog 91 #[.int .i64 n] w fun e w'=>e=.returned (.bool (iR n))∧Ext w w':=by
 refine aM fun e=> ?_
 go_enter Tryz.func91,Tryz.ntmps91
 go_wp2
 all_goals go_ret
 all_goals refine⟨?_,_,rfl⟩
 all_goals first|(simp[iR,cB, *];done)|(simp[iR,cB, *];omega)|(simp_all [iR,cB];done)|(simp_all [iR,cB];omega)
theorem Ji(n:Int)(w:World):Calls Tryz.prog 92 #[.int .i64 n] w fun e w'=>e=.returned (.bool (mI n))∧Ext w w':=by
 refine aM fun e=> ?_
 go_enter Tryz.func92,Tryz.ntmps92
 go_wp2
 all_goals go_ret
 all_goals refine⟨?_,_,rfl⟩
 all_goals first|(simp[mI,cB, *];done)|(simp[mI,cB, *];omega)|(simp_all [mI,cB];done)|(simp_all [mI,cB];omega)
theorem zx(n:Int)(w:World):Calls Tryz.prog 93 #[.int .i64 n] w fun e w'=>e=.returned (.bool (jl n))∧Ext w w':=by
 refine aM fun e=> ?_
 go_enter Tryz.func93,Tryz.ntmps93
 go_wp2
 all_goals go_ret
 all_goals refine⟨?_,_,rfl⟩
 all_goals first|(simp[jl,cB, *];done)|(simp[jl,cB, *];omega)|(simp_all [jl,cB];done)|(simp_all [jl,cB];omega)
theorem yj(k f:Int)(w:World):Calls Tryz.prog 87 #[.int .i64 k,.int .i64 f] w fun e w'=>e=.returned (.int .i64 (bD k f))∧Ext w w':=by
 refine aM fun e=> ?_
 have C1:Hid (QC Tryz.prog w _ _ _):=fun W hW=>(FN k W).q
 cases hk:jV k
 case false=>
  rw[hk]at C1;have hn:=NH hk;have h9:(k==9)=false:=by simp;omega
  go_enter Tryz.func87,Tryz.ntmps87
  go_wp2_with (first|(go_at_call 99;with_reducible refine(C1.out.at_ _).mono ?_;rintro _ _ ⟨rfl,e,rfl⟩))
  repeat (refine ak _ (by kernel_rfl) (by kernel_rfl) ?_;(repeat (go_big_quiet_step ((first|with_reducible exact C1.out.at_ _))));refine wpQuiet_nil ?_;intro e;go_wp2_with (first|(go_at_call 99;with_reducible refine(C1.out.at_ _).mono ?_;rintro _ _ ⟨rfl,e,rfl⟩)))
  all_goals go_ret
  all_goals refine⟨?_,_,rfl⟩
  all_goals simp[bD]
  all_goals (repeat rw[if_neg (by omega)])
  all_goals (try split)
  all_goals (try rfl)
  all_goals (try omega)
 rw[hk]at C1;have ix1:∀W:World,(Instr.index 126 (.agg #[.int .i64 0,.int .i64 1,.int .i64 3,.int .i64 3,.int .i64 3,.int .i64 1,.int .i64 1,.int .i64 3,.int .i64 2,.int .i64 0,.int .i64 2,.int .i64 2,.int .i64 1]) (.int .i64 1)).run Tryz.prog W=.ok (.int .i64 1) W:=fun _=>by kernel_rfl
 have ix2:∀W:World,(Instr.index 126 (.agg #[.int .i64 0,.int .i64 1,.int .i64 3,.int .i64 3,.int .i64 3,.int .i64 1,.int .i64 1,.int .i64 3,.int .i64 2,.int .i64 0,.int .i64 2,.int .i64 2,.int .i64 1]) (.int .i64 2)).run Tryz.prog W=.ok (.int .i64 3) W:=fun _=>by kernel_rfl
 have ix3:∀W:World,(Instr.index 126 (.agg #[.int .i64 0,.int .i64 1,.int .i64 3,.int .i64 3,.int .i64 3,.int .i64 1,.int .i64 1,.int .i64 3,.int .i64 2,.int .i64 0,.int .i64 2,.int .i64 2,.int .i64 1]) (.int .i64 3)).run Tryz.prog W=.ok (.int .i64 3) W:=fun _=>by kernel_rfl
 have ix4:∀W:World,(Instr.index 126 (.agg #[.int .i64 0,.int .i64 1,.int .i64 3,.int .i64 3,.int .i64 3,.int .i64 1,.int .i64 1,.int .i64 3,.int .i64 2,.int .i64 0,.int .i64 2,.int .i64 2,.int .i64 1]) (.int .i64 4)).run Tryz.prog W=.ok (.int .i64 3) W:=fun _=>by kernel_rfl
 have ix5:∀W:World,(Instr.index 126 (.agg #[.int .i64 0,.int .i64 1,.int .i64 3,.int .i64 3,.int .i64 3,.int .i64 1,.int .i64 1,.int .i64 3,.int .i64 2,.int .i64 0,.int .i64 2,.int .i64 2,.int .i64 1]) (.int .i64 5)).run Tryz.prog W=.ok (.int .i64 1) W:=fun _=>by kernel_rfl
 have ix6:∀W:World,(Instr.index 126 (.agg #[.int .i64 0,.int .i64 1,.int .i64 3,.int .i64 3,.int .i64 3,.int .i64 1,.int .i64 1,.int .i64 3,.int .i64 2,.int .i64 0,.int .i64 2,.int .i64 2,.int .i64 1]) (.int .i64 6)).run Tryz.prog W=.ok (.int .i64 1) W:=fun _=>by kernel_rfl
 have ix7:∀W:World,(Instr.index 126 (.agg #[.int .i64 0,.int .i64 1,.int .i64 3,.int .i64 3,.int .i64 3,.int .i64 1,.int .i64 1,.int .i64 3,.int .i64 2,.int .i64 0,.int .i64 2,.int .i64 2,.int .i64 1]) (.int .i64 7)).run Tryz.prog W=.ok (.int .i64 3) W:=fun _=>by kernel_rfl
 have ix8:∀W:World,(Instr.index 126 (.agg #[.int .i64 0,.int .i64 1,.int .i64 3,.int .i64 3,.int .i64 3,.int .i64 1,.int .i64 1,.int .i64 3,.int .i64 2,.int .i64 0,.int .i64 2,.int .i64 2,.int .i64 1]) (.int .i64 8)).run Tryz.prog W=.ok (.int .i64 2) W:=fun _=>by kernel_rfl
 have ix9:∀W:World,(Instr.index 126 (.agg #[.int .i64 0,.int .i64 1,.int .i64 3,.int .i64 3,.int .i64 3,.int .i64 1,.int .i64 1,.int .i64 3,.int .i64 2,.int .i64 0,.int .i64 2,.int .i64 2,.int .i64 1]) (.int .i64 9)).run Tryz.prog W=.ok (.int .i64 0) W:=fun _=>by kernel_rfl
 have ix10:∀W:World,(Instr.index 126 (.agg #[.int .i64 0,.int .i64 1,.int .i64 3,.int .i64 3,.int .i64 3,.int .i64 1,.int .i64 1,.int .i64 3,.int .i64 2,.int .i64 0,.int .i64 2,.int .i64 2,.int .i64 1]) (.int .i64 10)).run Tryz.prog W=.ok (.int .i64 2) W:=fun _=>by kernel_rfl
 have ix11:∀W:World,(Instr.index 126 (.agg #[.int .i64 0,.int .i64 1,.int .i64 3,.int .i64 3,.int .i64 3,.int .i64 1,.int .i64 1,.int .i64 3,.int .i64 2,.int .i64 0,.int .i64 2,.int .i64 2,.int .i64 1]) (.int .i64 11)).run Tryz.prog W=.ok (.int .i64 2) W:=fun _=>by kernel_rfl
 have ix12:∀W:World,(Instr.index 126 (.agg #[.int .i64 0,.int .i64 1,.int .i64 3,.int .i64 3,.int .i64 3,.int .i64 1,.int .i64 1,.int .i64 3,.int .i64 2,.int .i64 0,.int .i64 2,.int .i64 2,.int .i64 1]) (.int .i64 12)).run Tryz.prog W=.ok (.int .i64 1) W:=fun _=>by kernel_rfl
 rcases zA hk with rfl|rfl|rfl|rfl|rfl|rfl|rfl|rfl|rfl|rfl|rfl|rfl
 all_goals clear hk
 all_goals
  go_enter Tryz.func87,Tryz.ntmps87
  go_wp2_with (first|(go_at_call 99;with_reducible refine(C1.out.at_ _).mono ?_;rintro _ _ ⟨rfl,e,rfl⟩))
  repeat (refine ak _ (by kernel_rfl) (by kernel_rfl) ?_;(repeat (go_big_quiet_step ((first|with_reducible exact C1.out.at_ _))));refine wpQuiet_nil ?_;intro e;go_wp2_with (first|(go_at_call 99;with_reducible refine(C1.out.at_ _).mono ?_;rintro _ _ ⟨rfl,e,rfl⟩)))
  all_goals go_ret
  all_goals refine⟨?_,_,rfl⟩
  all_goals first|(simp[bD,cB, *];done)|(simp[bD,cB, *];omega)|(simp_all [bD,cB];done)|(simp_all [bD,cB];omega)
theorem Cg(k p:Int)(w:World)(h1:0≤p)(h2:p≤9223372036854775807):Calls Tryz.prog 88 #[.int .i64 k,.int .i64 p] w fun e w'=>e=.returned (.int .i64 (dh k p))∧Ext w w':=by
 refine aM fun e=> ?_
 go_enter Tryz.func88,Tryz.ntmps88
 cases d1:(k==9)
 case true=>
  have E:Hid (dh k p=p-1):=by show _=_;simp[dh,d1]
  go_wp2_with fail
  repeat (refine ak _ (by kernel_rfl) (by kernel_rfl) ?_;(repeat (go_big_quiet_step (fail)));refine wpQuiet_nil ?_;intro e;go_wp2_with fail)
  go_ret;exact⟨by rw[E.out];rfl,_,rfl⟩
 have E:Hid (dh k p=0):=by show _=_;simp[dh,d1]
 go_wp2_with fail
 repeat (refine ak _ (by kernel_rfl) (by kernel_rfl) ?_;(repeat (go_big_quiet_step (fail)));refine wpQuiet_nil ?_;intro e;go_wp2_with fail)
 go_ret;exact⟨by rw[E.out];rfl,_,rfl⟩
theorem yB(d:Int)(w:World):Calls Tryz.prog 90 #[.int .i64 d] w fun e w'=>e=.returned (.bool (!iR d))∧Ext w w':=by
 refine aM fun e=> ?_
 have C1:Hid (QC Tryz.prog w _ _ _):=fun W hW=>rF d W
 go_enter Tryz.func90,Tryz.ntmps90
 go_wp2_with (first|(go_at_call 91;with_reducible refine(C1.out.at_ _).mono ?_;rintro _ _ ⟨rfl,e,rfl⟩))
 repeat (refine ak _ (by kernel_rfl) (by kernel_rfl) ?_;(repeat (go_big_quiet_step ((first|with_reducible exact C1.out.at_ _))));refine wpQuiet_nil ?_;intro e;go_wp2_with (first|(go_at_call 91;with_reducible refine(C1.out.at_ _).mono ?_;rintro _ _ ⟨rfl,e,rfl⟩)))
 go_ret;exact⟨rfl,_,rfl⟩
theorem AA(xs:List Int)(n:Nat){A:Option Addr}{c:Nat}{bs:List Nat}(w:World)(hx:T1 w (.sl n (xs.flatMap aT)) bs (.slice A n c))(Hl:Hid (xs.length=n)):Calls Tryz.prog 81 #[.slice A n c,.func (.func 90) #[] #[]] w fun e w'=>e=.returned (.int .i64 (idxOf n (fun k=> !iR (bY xs k))))∧Ext w w':=by
 refine aM fun e=> ?_
 have hn:=hx.nJ
 go_enter Tryz.func81,Tryz.ntmps81
 go_wp2_with fail
 repeat (refine ak _ (by kernel_rfl) (by kernel_rfl) ?_;(repeat (go_big_quiet_step (fail)));refine wpQuiet_nil ?_;intro e;go_wp2_with fail)
 go_loopw [5,8] (fun _ i w'=>∃k:Nat,k≤n∧i=.int .i64 k∧Hid (bW k (fun k=> !!iR (bY xs k))=true)∧∃e:aK w,w'=e.to) (fun _ i _=>n-(intOf i).toNat)
 case atStart=>exact⟨0,Nat.zero_le _,rfl,kW _,_,rfl⟩
 case round=>
  obtain⟨k,hk,rfl,hf,e,rfl⟩:=hrel
  by_cases hlt:k<n
  ·skip
   obtain⟨b,off,x,bs',rfl,hxk,hp⟩:=T1.elem (s:=1) (fun _=>rfl) hx Hl hlt;have kx:=CB hp;rw[Nat.mul_one]at kx;have EP:Hid ((!iR (bY xs k))= !iR x):=by show _=_;rw[zw hxk]
   have C1:Hid (QC Tryz.prog w _ _ _):=fun W hW=>yB x W
   cases d1:(!iR x)
   case true=>
    (try rw[d1]at C1)
    have E:Hid (idxOf n (fun k=> !iR (bY xs k))=(k:Int)):=by show _=_;exact vJ hf hlt (by rw[EP.out];exact d1)
    go_wp2_with (first|(go_at_call 90;with_reducible refine(C1.out.at_ _).mono ?_;rintro _ _ ⟨rfl,e,rfl⟩))
    repeat (refine ak _ (by kernel_rfl) (by kernel_rfl) ?_;(repeat (go_big_quiet_step ((first|with_reducible exact C1.out.at_ _))));refine wpQuiet_nil ?_;intro e;go_wp2_with (first|(go_at_call 90;with_reducible refine(C1.out.at_ _).mono ?_;rintro _ _ ⟨rfl,e,rfl⟩)))
    go_ret;exact⟨by rw[E.out];rfl,_,rfl⟩
   (try rw[d1]at C1)
   have E:Hid ((!!iR (bY xs k))=true):=by show _=_;rw[EP.out,d1];rfl
   go_wp2_with (first|(go_at_call 90;with_reducible refine(C1.out.at_ _).mono ?_;rintro _ _ ⟨rfl,e,rfl⟩))
   repeat (refine ak _ (by kernel_rfl) (by kernel_rfl) ?_;(repeat (go_big_quiet_step ((first|with_reducible exact C1.out.at_ _))));refine wpQuiet_nil ?_;intro e;go_wp2_with (first|(go_at_call 90;with_reducible refine(C1.out.at_ _).mono ?_;rintro _ _ ⟨rfl,e,rfl⟩)))
   exact⟨⟨k+1,by omega,by go_num,eG hf E.out,_,rfl⟩,by simp[intOf];omega⟩
  ·have:n=k:=by omega
   subst this;have E:Hid (idxOf n (fun k=> !iR (bY xs k))= -1):=by show _=_;exact mH hf
   go_wp2_with fail
   repeat (refine ak _ (by kernel_rfl) (by kernel_rfl) ?_;(repeat (go_big_quiet_step (fail)));refine wpQuiet_nil ?_;intro e;go_wp2_with fail)
   go_ret;exact⟨by rw[E.out];rfl,_,rfl⟩
theorem wJ(xs:List Int)(n:Nat){A:Option Addr}{c:Nat}{bs:List Nat}(w:World)(hx:T1 w (.sl n (xs.flatMap aT)) bs (.slice A n c))(Hl:Hid (xs.length=n)):Calls Tryz.prog 62 #[.slice A n c,.func (.func 90) #[] #[]] w fun e w'=>e=.returned (.bool (lJ n (fun k=> !iR (bY xs k))))∧Ext w w':=by
 refine aM fun e=> ?_
 have C1:Hid (QC Tryz.prog w _ _ _):=fun W hW=>AA xs n W (hx.below hW) Hl
 have hc:=vK n (fun k=> !iR (bY xs k))
 go_enter Tryz.func62,Tryz.ntmps62
 go_wp2_with (first|(go_at_call 81;with_reducible refine(C1.out.at_ _).mono ?_;rintro _ _ ⟨rfl,e,rfl⟩))
 repeat (refine ak _ (by kernel_rfl) (by kernel_rfl) ?_;(repeat (go_big_quiet_step ((first|with_reducible exact C1.out.at_ _))));refine wpQuiet_nil ?_;intro e;go_wp2_with (first|(go_at_call 81;with_reducible refine(C1.out.at_ _).mono ?_;rintro _ _ ⟨rfl,e,rfl⟩)))
 go_ret;exact⟨by rw[←hc];rfl,_,rfl⟩
end Go.Proofs.YtjpaeopdljfjpaaGreat
namespace Go.Tr
open Go Go.RowKit
def nA(a:ay):ah:=(a.kind,a.level,a.value,a.data,a.aD.map fun p=>(p.agent,p.slot))
theorem HY(a:ay):gA (nA a)=a:=by
 cases a with
 |mk k l v d ps=>
  unfold gA nA;simp only[List.map_map]
  congr 1
  exact(List.map_congr_left fun p _=>rfl).trans (List.map_id ps)
theorem KV(x:ay):enc bf (nA x)=x.enc:=by rw[←Kw,HY]
def lN(k v:Int)(d:List Int):Bool:=
 if k==6 then((d.length:Int)==0)&&mI v
 else if k==7 then((d.length:Int)==0)&&jl v
 else if k==8 then((d.length:Int)==1)&&jl v&&mI (bY d 0)
 else if k==9 then((d.length:Int)==0)&&cB v 0 3
 else if k==12 then((d.length:Int)==0)&&iR v
 else if k==10 then v==0&&cB d.length 1 4&&ji d
 else if k==11 then v==0&&((d.length:Int)==2)&&ji d
 else v==0&&((d.length:Int)==0)
theorem G5(a:ah):dZ (gA a)=lN a.1 a.2.2.1 a.2.2.2.1:=rfl
end Go.Tr
namespace Go.Proofs.YtjpaeopdljfjpaaGreat
open Go Go.RowKit Go.Proofs Go.Tr
theorem Ow(n:Int):bE Tryz.prog 104 [.int .i64 n] (.bool (iR n)):=by
 refine bE.intro (nt:=5) fJ mixed (by kernel_rfl) Tryz.func104 rfl rfl rfl rfl rfl ?_;refine Or.inl (eI _ (aI (KJ n 0 23) ?_));exact rfl
theorem J8(a:ah):bE Tryz.prog 98 [.rp bf a] (.bool (dZ (gA a))):=by
 refine bE.intro (nt:=162) fJ mixed (by kernel_rfl) Tryz.func98 rfl rfl rfl rfl rfl ?_;rw[G5];generalize hk:a.1=k at*;have ek:∀{c:Int} {b:Bool},(a.1==c)=b→(k==c)=b:=fun h=>by rw[←hk];exact h
 refine aI (fun q1=> ?_) (fun q1=> ?_)
 ·refine Or.inl (eI _ (aI (fun _=>KJ a.2.2.1 (-2147483648) 2147483647) ?_));refine Eq.trans (Eq.refl _) ?_;unfold lN;rw[ek q1];show(bif ((a.2.2.2.1.length:Int)==0)then cB a.2.2.1 (-2147483648) 2147483647 else false)=(((a.2.2.2.1.length:Int)==0)&&mI a.2.2.1);cases ((a.2.2.2.1.length:Int)==0)<;>rfl
 refine aI (fun q2=> ?_) (fun q2=> ?_)
 ·refine Or.inl (eI _ (aI (fun _=>KJ a.2.2.1 1 6) ?_));refine Eq.trans (Eq.refl _) ?_;unfold lN;rw[ek q1,ek q2];show(bif ((a.2.2.2.1.length:Int)==0)then cB a.2.2.1 1 6 else false)=(((a.2.2.2.1.length:Int)==0)&&jl a.2.2.1);cases ((a.2.2.2.1.length:Int)==0)<;>rfl
 refine aI (fun q3=> ?_) (fun q3=> ?_)
 ·refine Or.inl (eI _ (aI (fun _=>KJ a.2.2.1 1 6) ?_));refine aI (fun g=> ?_) ?_
  ·have g2:(bif ((a.2.2.2.1.length:Int)==1)then cB a.2.2.1 1 6 else false)=true:=g;cases hl:((a.2.2.2.1.length:Int)==1)with
   |false=>rw[hl]at g2;cases g2
   |true=>
    have hl2:(a.2.2.2.1.length:Int)=1:=by simpa using hl
    show(0:Int)≤0∧(0:Int)<(a.2.2.2.1.length:Nat);omega
  refine Or.inl (eI _ (aI (fun _=>KJ _ (-2147483648) 2147483647) ?_));refine Eq.trans (Eq.refl _) ?_;unfold lN;rw[ek q1,ek q2,ek q3];show(bif (bif ((a.2.2.2.1.length:Int)==1)then cB a.2.2.1 1 6 else false)then cB (bY a.2.2.2.1 0) (-2147483648) 2147483647 else false)=(((a.2.2.2.1.length:Int)==1)&&jl a.2.2.1&&mI (bY a.2.2.2.1 0));unfold jl mI;cases ((a.2.2.2.1.length:Int)==1)<;>cases cB a.2.2.1 1 6<;>rfl
 refine aI (fun q4=> ?_) (fun q4=> ?_)
 ·refine Or.inl (eI _ (aI (fun _=>KJ a.2.2.1 0 3) ?_));refine Eq.trans (Eq.refl _) ?_;unfold lN;rw[ek q1,ek q2,ek q3,ek q4];show(bif ((a.2.2.2.1.length:Int)==0)then cB a.2.2.1 0 3 else false)=(((a.2.2.2.1.length:Int)==0)&&cB a.2.2.1 0 3);cases ((a.2.2.2.1.length:Int)==0)<;>rfl
 refine aI (fun q5=> ?_) (fun q5=> ?_)
 ·refine Or.inl (eI _ (aI (fun _=>Ow a.2.2.1) ?_));refine Eq.trans (Eq.refl _) ?_;unfold lN;rw[ek q1,ek q2,ek q3,ek q4,ek q5];show(bif ((a.2.2.2.1.length:Int)==0)then iR a.2.2.1 else false)=(((a.2.2.2.1.length:Int)==0)&&iR a.2.2.1);cases ((a.2.2.2.1.length:Int)==0)<;>rfl
 refine aI (fun q6=> ?_) (fun q6=> ?_)
 ·refine aI (fun _=> ?_) (fun p=>absurd (q6.symm.trans p) (by decide));refine Or.inl (eI _ (aI (fun _=>KJ a.2.2.2.1.length 1 4) ?_))
  have q7:(k==11)=false:=by
   have:k=10:=by have:=ek q6;simpa using this
   rw[this];rfl
  have q7':(a.1==11)=false:=by rw[hk];exact q7
  have ec:lN k a.2.2.1 a.2.2.2.1=(a.2.2.1==0&&cB a.2.2.2.1.length 1 4&&ji a.2.2.2.1):=by
   unfold lN;rw[ek q1,ek q2,ek q3,ek q4,ek q5,ek q6];rfl
  have q6':(a.1==10)=true:=q6;refine aI (fun q8=> ?_) (fun q8=> ?_)
  ·refine Eq.trans (Eq.refl _) ?_;rw[ec];have q9:(bif (bif (a.2.2.1 !=0)then true else bif (a.1==11)then((a.2.2.2.1.length:Int) !=2)else false)then true else bif (a.1==10)then !(cB a.2.2.2.1.length 1 4)else false)=true:=q8;rw[q7',q6',show(a.2.2.1 !=0)= !(a.2.2.1==0) from rfl]at q9;revert q9;cases (a.2.2.1==0)<;>cases cB a.2.2.2.1.length 1 4<;>simp
  have et:(true:Bool)=(a.2.2.1==0&&cB a.2.2.2.1.length 1 4):=by
   have q9:(bif (bif (a.2.2.1 !=0)then true else bif (a.1==11)then((a.2.2.2.1.length:Int) !=2)else false)then true else bif (a.1==10)then !(cB a.2.2.2.1.length 1 4)else false)=false:=q8;rw[q7',q6',show(a.2.2.1 !=0)= !(a.2.2.1==0) from rfl]at q9;revert q9;cases (a.2.2.1==0)<;>cases cB a.2.2.2.1.length 1 4<;>simp
  have hlen:a.2.2.2.1.length≤4:=by
   have h1:cB a.2.2.2.1.length 1 4=true:=by
    revert et;cases (a.2.2.1==0)<;>cases cB a.2.2.2.1.length 1 4<;>simp
   have:=kI h1;omega
  refine lp Nat (fun i=>[(3,.int .i64 (i:Nat))]) (fun _=>[]) (fun i=>a.2.2.2.1.length-i) (fun i=>i≤a.2.2.2.1.length∧bW i (fun k=>iR (bY a.2.2.2.1 k))=true) 0 ⟨Nat.zero_le _,rfl⟩ ?_ ?_
  ·exact hd [] rfl (aI (aI rfl rfl) trivial) trivial
  rintro i ⟨hi,ha⟩;refine aI (fun p1=> ?_) (fun p1=> ?_)
  ·have hlt:i<a.2.2.2.1.length:=by
    have p2:decide (((i:Nat):Int)<(a.2.2.2.1.length:Nat))=true:=p1;simp only[qQ]at p2;omega
   refine aI (show 0≤((i:Nat):Int)∧((i:Nat):Int)<(a.2.2.2.1.length:Nat) by omega) ?_;refine Or.inl (eI _ (aI (Ow _) ?_));refine aI (fun p2=> ?_) (fun p2=> ?_)
   ·have p3:iR (bY a.2.2.2.1 i)=false:=by
     have p4:(!iR (bY a.2.2.2.1 i))=true:=p2;simpa using p4
    refine Eq.trans (Eq.refl _) ?_;rw[ec,show ji a.2.2.2.1=false from gM hlt p3,Bool.and_false]
   ·have p3:iR (bY a.2.2.2.1 i)=true:=by
     have p4:(!iR (bY a.2.2.2.1 i))=false:=p2;simpa using p4
    refine lX (i+1) ⟨hlt,by rw[xH];simp only[ha,p3,Bool.and_true]⟩ ?_ ?_
    ·exact hd [] rfl (aI (aI (wB (by omega)) rfl) trivial) trivial
    ·show a.2.2.2.1.length-(i+1)<a.2.2.2.1.length-i;omega
  ·have hge:a.2.2.2.1.length≤i:=by
    have p2:decide (((i:Nat):Int)<(a.2.2.2.1.length:Nat))=false:=p1;simp only[qP]at p2;omega
   have hie:i=a.2.2.2.1.length:=by omega
   subst hie;refine Eq.trans (Eq.refl _) ?_;rw[ec,show ji a.2.2.2.1=true from ha,Bool.and_true];exact et
 refine aI (fun q7=> ?_) (fun q7=> ?_)
 ·refine Or.inl (eI _ (aI (fun _=>KJ a.2.2.2.1.length 1 4) ?_))
  have ec:lN k a.2.2.1 a.2.2.2.1=(a.2.2.1==0&&((a.2.2.2.1.length:Int)==2)&&ji a.2.2.2.1):=by
   unfold lN;rw[ek q1,ek q2,ek q3,ek q4,ek q5,ek q6,ek q7];rfl
  have q6':(a.1==10)=false:=q6;have q7':(a.1==11)=true:=q7;refine aI (fun q8=> ?_) (fun q8=> ?_)
  ·refine Eq.trans (Eq.refl _) ?_;rw[ec];have q9:(bif (bif (a.2.2.1 !=0)then true else bif (a.1==11)then((a.2.2.2.1.length:Int) !=2)else false)then true else bif (a.1==10)then !(cB a.2.2.2.1.length 1 4)else false)=true:=q8;rw[q7',q6',show(a.2.2.1 !=0)= !(a.2.2.1==0) from rfl,show((a.2.2.2.1.length:Int) !=2)= !((a.2.2.2.1.length:Int)==2) from rfl]at q9;revert q9;cases (a.2.2.1==0)<;>cases ((a.2.2.2.1.length:Int)==2)<;>simp
  have et:(true:Bool)=(a.2.2.1==0&&((a.2.2.2.1.length:Int)==2)):=by
   have q9:(bif (bif (a.2.2.1 !=0)then true else bif (a.1==11)then((a.2.2.2.1.length:Int) !=2)else false)then true else bif (a.1==10)then !(cB a.2.2.2.1.length 1 4)else false)=false:=q8;rw[q7',q6',show(a.2.2.1 !=0)= !(a.2.2.1==0) from rfl,show((a.2.2.2.1.length:Int) !=2)= !((a.2.2.2.1.length:Int)==2) from rfl]at q9;revert q9;cases (a.2.2.1==0)<;>cases ((a.2.2.2.1.length:Int)==2)<;>simp
  have hlen:a.2.2.2.1.length≤4:=by
   have h1:((a.2.2.2.1.length:Int)==2)=true:=by
    revert et;cases (a.2.2.1==0)<;>cases ((a.2.2.2.1.length:Int)==2)<;>simp
   have h2:(a.2.2.2.1.length:Int)=2:=by simpa using h1
   omega
  refine lp Nat (fun i=>[(3,.int .i64 (i:Nat))]) (fun _=>[]) (fun i=>a.2.2.2.1.length-i) (fun i=>i≤a.2.2.2.1.length∧bW i (fun k=>iR (bY a.2.2.2.1 k))=true) 0 ⟨Nat.zero_le _,rfl⟩ ?_ ?_
  ·exact hd [] rfl (aI (aI rfl rfl) trivial) trivial
  rintro i ⟨hi,ha⟩;refine aI (fun p1=> ?_) (fun p1=> ?_)
  ·have hlt:i<a.2.2.2.1.length:=by
    have p2:decide (((i:Nat):Int)<(a.2.2.2.1.length:Nat))=true:=p1;simp only[qQ]at p2;omega
   refine aI (show 0≤((i:Nat):Int)∧((i:Nat):Int)<(a.2.2.2.1.length:Nat) by omega) ?_;refine Or.inl (eI _ (aI (Ow _) ?_));refine aI (fun p2=> ?_) (fun p2=> ?_)
   ·have p3:iR (bY a.2.2.2.1 i)=false:=by
     have p4:(!iR (bY a.2.2.2.1 i))=true:=p2;simpa using p4
    refine Eq.trans (Eq.refl _) ?_;rw[ec,show ji a.2.2.2.1=false from gM hlt p3,Bool.and_false]
   ·have p3:iR (bY a.2.2.2.1 i)=true:=by
     have p4:(!iR (bY a.2.2.2.1 i))=false:=p2;simpa using p4
    refine lX (i+1) ⟨hlt,by rw[xH];simp only[ha,p3,Bool.and_true]⟩ ?_ ?_
    ·exact hd [] rfl (aI (aI (wB (by omega)) rfl) trivial) trivial
    ·show a.2.2.2.1.length-(i+1)<a.2.2.2.1.length-i;omega
  ·have hge:a.2.2.2.1.length≤i:=by
    have p2:decide (((i:Nat):Int)<(a.2.2.2.1.length:Nat))=false:=p1;simp only[qP]at p2;omega
   have hie:i=a.2.2.2.1.length:=by omega
   subst hie;refine Eq.trans (Eq.refl _) ?_;rw[ec,show ji a.2.2.2.1=true from ha,Bool.and_true];exact et
 ·refine Eq.trans (Eq.refl _) ?_;unfold lN;rw[ek q1,ek q2,ek q3,ek q4,ek q5,ek q6,ek q7];show(bif (a.2.2.1==0)then((a.2.2.2.1.length:Int)==0)else false)=(a.2.2.1==0&&((a.2.2.2.1.length:Int)==0));cases (a.2.2.1==0)<;>rfl
theorem zB(x:ay)(b o:Nat)(bs:List Nat)(w:World)(h:dV w b o x.enc bs):Calls Tryz.prog 98 #[.pointer (some ⟨b,o,none⟩)] w fun e w'=>e=.returned (.bool (dZ x))∧Ext w w':=by
 have q:=bE.Mh (u:=bf) (x:=nA x) (J8 (nA x)) (fun _ _ _ h=>Kc h) (w:=w) (b:=b) (o:=o) (bs:=bs) (by rw[KV];exact h);rw[HY]at q;exact q
theorem RP(k f:Int):bE Tryz.prog 87 [.int .i64 k,.int .i64 f] (.int .i64 (bD k f)):=bE.Ef (l:=[k,f]) (by kernel_rfl) (yj k f) fun _ _=>G9 _
theorem NI(n:Int):bE Tryz.prog 92 [.int .i64 n] (.bool (mI n)):=bE.Ef (l:=[n]) (by kernel_rfl) (Ji n) fun _ _=>vw _
theorem Qp(n:Int):bE Tryz.prog 93 [.int .i64 n] (.bool (jl n)):=bE.Ef (l:=[n]) (by kernel_rfl) (zx n) fun _ _=>vw _
theorem Qi(n:Int):bE Tryz.prog 91 [.int .i64 n] (.bool (iR n)):=bE.Ef (l:=[n]) (by kernel_rfl) (rF n) fun _ _=>vw _
theorem RJ(k:Int)(n:Nat)(h:n≤9223372036854775807):bE Tryz.prog 88 [.int .i64 k,.int .i64 (n:Int)] (.int .i64 (dh k n)):=bE.Ef (l:=[k,(n:Int)]) (by kernel_rfl) (fun w=>Cg k n w (by omega) (by omega)) fun _ _=>G9 _
theorem RF(xs:List Int):bE Tryz.prog 62 [.rsl (.int .i64) xs,.fn 90 []] (.bool (!ji xs)):=by
 refine⟨(by kernel_rfl),fun cx β w fr vs hI hd=> ?_⟩;unfold aF at hd;obtain⟨v1,vs1,rfl,hd1,hd⟩:=hd;unfold aF at hd;obtain⟨v2,vs2,rfl,hd2,hd⟩:=hd;unfold aF at hd;subst hd;unfold Den at hd1 hd2;obtain⟨us,rfl,hd2⟩:=hd2;unfold aF at hd2;subst hd2;obtain⟨A,c,rfl⟩:=hd1.slice;obtain⟨bs,ht⟩:=hd1.now hI;refine Calls.mono (wJ xs xs.length w (by rw[←qz];exact ht) rfl) ?_;rintro e w' ⟨rfl,hx⟩;refine⟨_,rfl,?_,hI.ext hx⟩;unfold Den;unfold lJ ji;simp only[Bool.not_not]
theorem QT(a:ah)(hp:a.2.2.2.2.length≤9223372036854775807):bE Tryz.prog 79 [.agg [.int .i64 a.1,.int .i64 a.2.1,.int .i64 a.2.2.1,.rsl (.int .i64) a.2.2.2.1,.rsl iO a.2.2.2.2]] (.bool (bP (gA a))):=by
 refine bE.intro (nt:=117) fJ mixed (by kernel_rfl) Tryz.func79 rfl rfl rfl rfl rfl ?_
 have hag:bP (gA a)=(decide (0<bD a.1 (dh a.1 a.2.2.2.2.length))&&(a.2.2.2.2.length:Int)==bD a.1 (dh a.1 a.2.2.2.2.length)&&dK a.1 a.2.1&&lN a.1 a.2.2.1 a.2.2.2.1):=by
  rw[←G5];unfold bP fieldsOf;have e:(gA a).aD.length=a.2.2.2.2.length:=qV _;rw[e];rfl
 rw[hag];refine Or.inl (eI _ (aI (fun _=>RJ a.1 a.2.2.2.2.length hp) ?_));refine Or.inl (eI _ (aI (fun _=>RP a.1 (dh a.1 a.2.2.2.2.length)) ?_));refine Or.inl (eI _ (aI (fun _=>Oi a.1 a.2.1) ?_));refine aI (by kernel_rfl) ?_
 have qc:∀{b:Bool},(bif (bif ((a.2.2.2.2.length:Int)==0)then true else(bD a.1 (dh a.1 a.2.2.2.2.length) !=(a.2.2.2.2.length:Int)))then true else !(dK a.1 a.2.1))=b→(decide (0<bD a.1 (dh a.1 a.2.2.2.2.length))&&(a.2.2.2.2.length:Int)==bD a.1 (dh a.1 a.2.2.2.2.length)&&dK a.1 a.2.1)= !b:=fun {b} h=>by
  generalize bD a.1 (dh a.1 a.2.2.2.2.length)=p at*;subst h;cases dK a.1 a.2.1
  ·simp
  ·by_cases h0:(a.2.2.2.2.length:Int)=0
   ·rw[h0]
    by_cases hp0:p=0
    ·subst hp0;rfl
    ·simp;omega
   ·rw[show((a.2.2.2.2.length:Int)==0)=false by simpa using h0]
    by_cases hpe:p=(a.2.2.2.2.length:Int)
    ·subst hpe;simp;omega
    ·simp only[qH];rw[show(p !=(a.2.2.2.2.length:Int))=true by simpa using hpe,show((a.2.2.2.2.length:Int)==p)=false by simp;omega];simp
 refine aI (fun q1=> ?_) (fun q1=> ?_)
 ·refine Eq.trans (Eq.refl _) ?_;rw[qc q1];rfl
 have hq:=qc q1;rw[hq];refine aI (by kernel_rfl) ?_;refine Or.inl (eI _ (aI (RF _) ?_));have cfin:∀{t u:Bool},(t&&u)=lN a.1 a.2.2.1 a.2.2.2.1→(bif t then u else false)=(!false&&lN a.1 a.2.2.1 a.2.2.2.1):=fun {t u} h=>by rw[←h];cases t<;>rfl
 unfold lN at cfin;refine aI (fun k1=> ?_) (fun k1=> ?_)
 ·refine Or.inl (eI _ (aI (NI _) ?_));refine Eq.trans (Eq.refl _) ?_;refine cfin ?_;rw[show(a.1==6)=true from k1,Bool.and_comm];rfl
 refine aI (fun k2=> ?_) (fun k2=> ?_)
 ·refine Or.inl (eI _ (aI (Qp _) ?_));refine Eq.trans (Eq.refl _) ?_;refine cfin ?_;rw[show(a.1==6)=false from k1,show(a.1==7)=true from k2,Bool.and_comm];rfl
 refine aI (fun k3=> ?_) (fun k3=> ?_)
 ·refine Or.inl (eI _ (aI (Qp _) ?_));refine aI (fun g=> ?_) ?_
  ·have g2:(bif jl a.2.2.1 then((a.2.2.2.1.length:Int)==1)else false)=true:=g;cases ho:jl a.2.2.1 with
   |false=>rw[ho]at g2;cases g2
   |true=>
    rw[ho]at g2;have hl2:(a.2.2.2.1.length:Int)=1:=by simpa using g2
    show(0:Int)≤0∧(0:Int)<(a.2.2.2.1.length:Nat);omega
  refine Or.inl (eI _ (aI (fun _=>NI _) ?_));refine Eq.trans (Eq.refl _) ?_;unfold lN;rw[show(a.1==6)=false from k1,show(a.1==7)=false from k2,show(a.1==8)=true from k3];show(bif (bif jl a.2.2.1 then((a.2.2.2.1.length:Int)==1)else false)then mI (bY a.2.2.2.1 0)else false)=(!false&&(((a.2.2.2.1.length:Int)==1)&&jl a.2.2.1&&mI (bY a.2.2.2.1 0)));cases ((a.2.2.2.1.length:Int)==1)<;>cases jl a.2.2.1<;>rfl
 refine aI (fun k4=> ?_) (fun k4=> ?_)
 ·refine Eq.trans (Eq.refl _) ?_;refine cfin ?_;rw[show(a.1==6)=false from k1,show(a.1==7)=false from k2,show(a.1==8)=false from k3,show(a.1==9)=true from k4,Bool.and_comm];show _=(((a.2.2.2.1.length:Int)==0)&&cB a.2.2.1 0 3)
  congr 1
  unfold cB;show(bif decide (0≤a.2.2.1)then decide (a.2.2.1<4)else false)=(decide (0≤a.2.2.1)&&decide (a.2.2.1≤3));rw[show decide (a.2.2.1<4)=decide (a.2.2.1≤3) by rw[decide_eq_decide];omega];cases decide (0≤a.2.2.1)<;>rfl
 refine aI (fun k5=> ?_) (fun k5=> ?_)
 ·have k12:(a.1==12)=false:=by
   have:a.1=10:=by simpa using(show(a.1==10)=true from k5)
   rw[this];rfl
  refine Eq.trans (Eq.refl _) ?_;refine cfin ?_;rw[show(a.1==6)=false from k1,show(a.1==7)=false from k2,show(a.1==8)=false from k3,show(a.1==9)=false from k4,k12,show(a.1==10)=true from k5];show((a.2.2.1==0)&&(bif (bif decide (1≤(a.2.2.2.1.length:Int))then decide ((a.2.2.2.1.length:Int)≤4)else false)then !(!ji a.2.2.2.1)else false))=(a.2.2.1==0&&cB a.2.2.2.1.length 1 4&&ji a.2.2.2.1);unfold cB;cases (a.2.2.1==0)<;>cases decide (1≤(a.2.2.2.1.length:Int))<;>cases decide ((a.2.2.2.1.length:Int)≤4)<;>cases ji a.2.2.2.1<;>rfl
 refine aI (fun k6=> ?_) (fun k6=> ?_)
 ·have k12:(a.1==12)=false:=by
   have:a.1=11:=by simpa using(show(a.1==11)=true from k6)
   rw[this];rfl
  refine Eq.trans (Eq.refl _) ?_;refine cfin ?_;rw[show(a.1==6)=false from k1,show(a.1==7)=false from k2,show(a.1==8)=false from k3,show(a.1==9)=false from k4,k12,show(a.1==10)=false from k5,show(a.1==11)=true from k6];show((a.2.2.1==0)&&(bif ((a.2.2.2.1.length:Int)==2)then !(!ji a.2.2.2.1)else false))=(a.2.2.1==0&&((a.2.2.2.1.length:Int)==2)&&ji a.2.2.2.1);cases (a.2.2.1==0)<;>cases ((a.2.2.2.1.length:Int)==2)<;>cases ji a.2.2.2.1<;>rfl
 refine aI (fun k7=> ?_) (fun k7=> ?_)
 ·refine Or.inl (eI _ (aI (Qi _) ?_));refine Eq.trans (Eq.refl _) ?_;refine cfin ?_;rw[show(a.1==6)=false from k1,show(a.1==7)=false from k2,show(a.1==8)=false from k3,show(a.1==9)=false from k4,show(a.1==12)=true from k7,Bool.and_comm];rfl
 ·refine Eq.trans (Eq.refl _) ?_;refine cfin ?_;rw[show(a.1==6)=false from k1,show(a.1==7)=false from k2,show(a.1==8)=false from k3,show(a.1==9)=false from k4,show(a.1==12)=false from k7,show(a.1==10)=false from k5,show(a.1==11)=false from k6];rfl
theorem Ai(x:ay){bs us}(w:World)(h:TN w x.enc bs us):Calls Tryz.prog 79 #[.agg us.toArray] w fun e w'=>e=.returned (.bool (bP x))∧Ext w w':=by
 have hp:(nA x).2.2.2.2.length≤9223372036854775807:=by
  obtain⟨_,_,_,A4,c4,b4,rfl,_,_,_,_,t4,n1,n2⟩:=ay.us (x:=x) h;have e:(nA x).2.2.2.2.length=x.aD.length:=qV _;unfold maxLen at n2;omega
 have q:=bE.Mg (u:=bf) (x:=nA x) (QT (nA x) hp) (fun _ _ _ h=>Kc h) (w:=w) (bs:=bs) (us:=us) (by rw[KV];exact h);rw[HY]at q;exact q
theorem EC(x:aG)(b o:Nat)(bs:List Nat)(p:aC)(w:World)(h:dV w b o x.enc bs)(hp:fQ x.agents p=true):Calls Tryz.prog 60 #[.pointer (some ⟨b,o,none⟩),.agg #[.int .i64 p.agent,.int .i64 p.slot]] w fun e w'=>e=.returned (.agg #[.int .i64 (mM x.agents p).agent,.int .i64 (mM x.agents p).slot])∧Ext w w':=by
 refine aM fun e=> ?_
 obtain⟨A0,c0,b0,h0,t0⟩:=aG.pt h;have hltn:=h.lt;obtain⟨i,s,a,r,rfl,hi,ha,hs,hr,hpeer⟩:=EF hp;rw[hpeer];clear hpeer hp;obtain⟨bz,oz,z,bs3,rfl,hzi,hz⟩:=T1.elem ay.aR t0 dI hi;obtain⟨_,rfl⟩:True∧z=a:=⟨trivial,Option.some.inj (hzi.out.symm.trans ha.out)⟩;obtain⟨A3,c3,b3,A5,c5,b5,u0,u1,u2,u3,u4,t3,t5⟩:=ay.pt hz;have hn5:=t5.nJ;have hn0:=t0.nJ;clear u0 u1 u2 u3 t3;obtain⟨bt,ot,r',bs4,rfl,hrs,hrr⟩:=T1.elem aC.aR t5 dI hs;obtain⟨_,rfl⟩:True∧r'=r:=⟨trivial,Option.some.inj (hrs.out.symm.trans hr.out)⟩
 obtain⟨r0,r1⟩:=aC.pt hrr;clear h hz hrr hltn;have i0:(0:Int)≤(i:Int):=by omega
 have i1:(i:Int)<(x.agents.length:Int):=by omega
 have s0:(0:Int)≤(s:Int):=by omega
 have s1:(s:Int)<(z.aD.length:Int):=by omega
 go_enter Tryz.func60,Tryz.ntmps60
 go_upto_region 1 with(fail)
 generalize hg2:e.to.heap.size+1=g2;generalize hg1:e.to.heap.size=g1;refine Js e hg1 hg2 (fun w1 hx1 hge1 hne hge2 r1_ r2_=> ?_);clear hg1 hg2;have q0:=h0.Q5 hx1;have q4:=u4.Q5 hx1;have q5:=r0.Q5 hx1;have q6:=r1.Q5 hx1;clear h0 u4 r0 r1;have k0:=jy (i:=0) r1_ rfl;have k1:=jy (i:=1) r1_ rfl;have m0:=jy (i:=0) r2_ rfl;have m1:=jy (i:=1) r2_ rfl;have f2:∀o,w1.frozen? ⟨g2,o,none⟩=false:=eB r2_;clear r1_ r2_
 go_still_tail 13,(by kernel_rfl)
 go_wp2_with fail
 refine bodyPost_ret (v:=.agg #[.int .i64 r'.agent,.int .i64 r'.slot]) (by simp[results,Tryz.results60,go_sem, *]) rfl ⟨rfl,⟨_,?_⟩,rfl⟩;exact(((hx1.drewN _).setCell (by simpa using hge2) _).setCell (by simpa using hge2) _)
end Go.Proofs.YtjpaeopdljfjpaaGreat
namespace Go.Tr
open Go Go.RowKit
def bV(l:List ay)(k:Nat):List aC:=(List.range k).flatMap fun(i:Nat)=>(List.range (fB l i).aD.length).map fun(s:Nat)=>(⟨(i:Int),(s:Int)⟩:aC)
def lY(i j:Nat):List aC:=(List.range j).map fun(s:Nat)=>(⟨(i:Int),(s:Int)⟩:aC)
theorem CX(i j:Nat):lY i (j+1)=lY i j++[⟨(i:Int),(j:Int)⟩]:=by simp[lY,List.range_succ]
theorem vT(l:List ay)(k:Nat):bV l (k+1)=bV l k++lY k (fB l k).aD.length:=by simp[bV,lY,List.range_succ]
theorem Ga(k f:Int):bD k f≤4:=by
 unfold bD;split
 ·split
  ·rename_i h;have:=kI h;omega
  ·omega
 ·repeat' split
  all_goals omega
theorem BK{a:ay}(h:bP a=true):1≤a.aD.length∧a.aD.length≤4:=by
 simp only[bP,qD,qQ,beq_iff_eq]at h;have:=Ga a.kind (fieldsOf a);omega
theorem xG{l:List ay}(h:dG l=true):1≤l.length∧l.length≤600∧∀k,k<l.length→fC l k=true:=by
 simp only[dG,qD]at h;have h1:=kI h.1;exact⟨by omega,by omega,fun k hk=>iF h.2 hk⟩
theorem tq{l:List ay}{k:Nat}(h:fC l k=true):(fB l k).aD.length≤4:=by
 simp only[fC,qD]at h;exact(BK h.1).2
theorem Gc{l:List ay}{k:Nat}(h:∀j,j<k→fC l j=true):(bV l k).length≤4*k:=by
 induction k with
 |zero=>simp[bV]
 |succ k ih=>
  rw[vT,qA];have h1:=ih (fun j hj=>h j (by omega));have h2:=tq (h k (by omega));simp only[lY,qV,List.length_range];omega
theorem xS{l:List ay}{k:Nat}{p:aC}(h:p∈bV l k):∃i s:Nat,p=⟨(i:Int),(s:Int)⟩∧i<k∧s<(fB l i).aD.length:=by
 simp only[bV,List.mem_flatMap,List.mem_range,List.mem_map]at h;obtain⟨i,hi,s,hs,rfl⟩:=h;exact⟨i,s,rfl,hi,hs⟩
theorem EG{l:List ay}{k i s:Nat}(hi:i<k)(hs:s<(fB l i).aD.length):(⟨(i:Int),(s:Int)⟩:aC)∈bV l k:=by
 simp only[bV,List.mem_flatMap,List.mem_range,List.mem_map];exact⟨i,hi,s,hs,rfl⟩
theorem Gb{l:List ay}{k:Nat}{y:aC}(h:(bV l l.length)[k]? =some y):fQ l y=true:=by
 obtain⟨i,s,rfl,hi,hs⟩:=xS (List.mem_of_getElem? h);unfold fQ;rw[qD];exact⟨rD (by simp) (by simp only;omega),rD (by simp) (by simp only[qK];omega)⟩
noncomputable def nK(l:List ay)(p:aC):Bool:= !lT l p (mM l p)
theorem FV(n:aG)(h:dG n.agents=true):eY n= !lJ (bV n.agents n.agents.length).length (fun k=>nK n.agents (iB (bV n.agents n.agents.length) k)):=by
 have h0:=xG h;unfold eY;rw[h,Bool.true_and,lJ,Bool.not_not,Bool.eq_iff_iff];constructor
 ·intro ha;unfold bW;rw[List.all_eq_true];intro q hq;have hq:q<(bV n.agents n.agents.length).length:=by simpa using hq
  have he:Hid ((bV n.agents n.agents.length)[q]? =some (bV n.agents n.agents.length)[q]):=qB hq;obtain⟨i,s,hp,hi,hs⟩:=xS (List.getElem_mem hq);rw[ow he,hp];have h1:=iF (iF ha hi) hs;simp only[nK,Bool.not_not];unfold mM;simpa using h1
 ·intro ha;unfold bW;rw[List.all_eq_true];intro i hi;unfold lZ bW;rw[List.all_eq_true];intro s hs;obtain⟨q,hq,he⟩:=List.getElem_of_mem (EG (l:=n.agents) (k:=n.agents.length) (by simpa using hi) (by simpa using hs));have h1:=iF ha hq;have he':Hid ((bV n.agents n.agents.length)[q]? =some (bV n.agents n.agents.length)[q]):=qB hq;rw[ow he',he]at h1;simp only[nK,Bool.not_not]at h1;unfold mM at h1;simpa using h1
end Go.Tr
namespace Go.Proofs.YtjpaeopdljfjpaaGreat
open Go Go.RowKit Go.Proofs Go.Tr
theorem Au(xs:List ay)(n:Nat){A:Option Addr}{c:Nat}{bs:List Nat}(w:World)(hx:T1 w (.sl n (xs.flatMap ay.enc)) bs (.slice A n c))(Hl:Hid (xs.length=n)):Calls Tryz.prog 56 #[.slice A n c] w fun e w'=>e=.returned (.bool (dG xs))∧Ext w w':=by
 refine aM fun e=> ?_
 have hn:=hx.nJ;have EV:Hid (dG xs=(cB n 1 600&&bW n (fC xs))):=by show _=_;rw[←Hl.out];rfl
 go_enter Tryz.func56,Tryz.ntmps56
 cases d1:decide ((n:Int)<1)
 case true=>
  have E:Hid (dG xs=false):=by show _=_;rw[EV.out,wO (by simp at d1;omega)];rfl
  go_wp2_with fail
  repeat (refine ak _ (by kernel_rfl) (by kernel_rfl) ?_;(repeat (go_big_quiet_step (fail)));refine wpQuiet_nil ?_;intro e;go_wp2_with fail)
  go_ret;exact⟨by rw[E.out];rfl,_,rfl⟩
 cases d2:decide ((600:Int)<n)
 case true=>
  have E:Hid (dG xs=false):=by show _=_;rw[EV.out,wO (by simp at d2;omega)];rfl
  go_wp2_with fail
  repeat (refine ak _ (by kernel_rfl) (by kernel_rfl) ?_;(repeat (go_big_quiet_step (fail)));refine wpQuiet_nil ?_;intro e;go_wp2_with fail)
  go_ret;exact⟨by rw[E.out];rfl,_,rfl⟩
 have hin:cB n 1 600=true:=rD (by simp at d1;omega) (by simp at d2;omega);have Hin:=Lib.hid hin;clear hin
 go_wp2_with fail
 repeat (refine ak _ (by kernel_rfl) (by kernel_rfl) ?_;(repeat (go_big_quiet_step (fail)));refine wpQuiet_nil ?_;intro e;go_wp2_with fail)
 go_loopw [3,15] (fun _ i w'=>∃k:Nat,k≤n∧i=.int .i64 k∧Hid (bW k (fC xs)=true)∧∃e:aK w,w'=e.to) (fun _ i _=>n-(intOf i).toNat)
 case atStart=>exact⟨0,Nat.zero_le _,rfl,kW _,_,rfl⟩
 case round=>
  obtain⟨k,hk,rfl,hfk,e,rfl⟩:=hrel
  by_cases hltk:k<n
  ·skip
   obtain⟨b,off,x,bs',rfl,hxk,hp⟩:=T1.elem ay.aR hx Hl hltk;obtain⟨A3,c3,b3,A4,c4,b4,h0,h1,h2,h3,h4,t3,t4⟩:=ay.pt hp;clear hp
   go_upto_region 6 with(fail)
   generalize hgg:e.to.heap.size=g;refine dQ e hgg (fun w1 e hx1 hgeg hltg cg=> ?_);clear hgg
   replace t3:=t3.below hx1
   replace t4:=t4.below hx1
   have u0:=cg.always hltg 0 _ rfl;have u1:=cg.always hltg 1 _ rfl;have u2:=cg.always hltg 2 _ rfl;have u3:=cg.always hltg 3 _ rfl;have u4:=cg.always hltg 4 _ rfl;simp only[Nat.zero_add]at u0 u1 u2 u3 u4;clear cg;clear h0 h1 h2 h3 h4;have C1:Hid (QC Tryz.prog w1 _ _ _):=fun W hW=>Ai x W (ay.oZ (t3.below hW) (t4.below hW))
   have EK:Hid (fC xs k=(bP x&&((x.kind==1)==((k:Int)==0)))):=by show _=_;rw[fC,iT hxk]
   cases d3:bP x
   case false=>
    (try rw[d3]at C1)
    have E:Hid (dG xs=false):=by show _=_;rw[EV.out,gM hltk (by rw[EK.out,d3];rfl)];simp
    go_wp2_with (first|(go_at_call 79;with_reducible refine(C1.out.at_ _).mono ?_;rintro _ _ ⟨rfl,e,rfl⟩))
    repeat (refine ak _ (by kernel_rfl) (by kernel_rfl) ?_;(repeat (go_big_quiet_step ((first|with_reducible exact C1.out.at_ _))));refine wpQuiet_nil ?_;intro e;go_wp2_with (first|(go_at_call 79;with_reducible refine(C1.out.at_ _).mono ?_;rintro _ _ ⟨rfl,e,rfl⟩)))
    go_ret;exact⟨by rw[E.out];rfl,aK.old hx1 e⟩
   (try rw[d3]at C1)
   cases d4:(x.kind==1)
   case false=>
    (try rw[d4]at C1)
    cases d5:((k:Int)==0)
    case true=>
     (try rw[d5]at C1)
     have E:Hid (dG xs=false):=by show _=_;rw[EV.out,gM hltk (by rw[EK.out,d3,d4,d5];rfl)];simp
     go_wp2_with (first|(go_at_call 79;with_reducible refine(C1.out.at_ _).mono ?_;rintro _ _ ⟨rfl,e,rfl⟩))
     repeat (refine ak _ (by kernel_rfl) (by kernel_rfl) ?_;(repeat (go_big_quiet_step ((first|with_reducible exact C1.out.at_ _))));refine wpQuiet_nil ?_;intro e;go_wp2_with (first|(go_at_call 79;with_reducible refine(C1.out.at_ _).mono ?_;rintro _ _ ⟨rfl,e,rfl⟩)))
     go_ret;exact⟨by rw[E.out];rfl,aK.old hx1 e⟩
    (try rw[d5]at C1)
    have E:Hid (fC xs k=true):=by show _=_;rw[EK.out,d3,d4,d5];rfl
    go_wp2_with (first|(go_at_call 79;with_reducible refine(C1.out.at_ _).mono ?_;rintro _ _ ⟨rfl,e,rfl⟩))
    repeat (refine ak _ (by kernel_rfl) (by kernel_rfl) ?_;(repeat (go_big_quiet_step ((first|with_reducible exact C1.out.at_ _))));refine wpQuiet_nil ?_;intro e;go_wp2_with (first|(go_at_call 79;with_reducible refine(C1.out.at_ _).mono ?_;rintro _ _ ⟨rfl,e,rfl⟩)))
    exact⟨⟨k+1,by omega,by go_num,eG hfk E.out,⟨e.to,hx1.trans e.h⟩,rfl⟩,by simp[intOf];omega⟩
   (try rw[d4]at C1)
   cases d6:((k:Int)==0)
   case false=>
    (try rw[d6]at C1)
    have E:Hid (dG xs=false):=by show _=_;rw[EV.out,gM hltk (by rw[EK.out,d3,d4,d6];rfl)];simp
    go_wp2_with (first|(go_at_call 79;with_reducible refine(C1.out.at_ _).mono ?_;rintro _ _ ⟨rfl,e,rfl⟩))
    repeat (refine ak _ (by kernel_rfl) (by kernel_rfl) ?_;(repeat (go_big_quiet_step ((first|with_reducible exact C1.out.at_ _))));refine wpQuiet_nil ?_;intro e;go_wp2_with (first|(go_at_call 79;with_reducible refine(C1.out.at_ _).mono ?_;rintro _ _ ⟨rfl,e,rfl⟩)))
    go_ret;exact⟨by rw[E.out];rfl,aK.old hx1 e⟩
   (try rw[d6]at C1)
   have E:Hid (fC xs k=true):=by show _=_;rw[EK.out,d3,d4,d6];rfl
   go_wp2_with (first|(go_at_call 79;with_reducible refine(C1.out.at_ _).mono ?_;rintro _ _ ⟨rfl,e,rfl⟩))
   repeat (refine ak _ (by kernel_rfl) (by kernel_rfl) ?_;(repeat (go_big_quiet_step ((first|with_reducible exact C1.out.at_ _))));refine wpQuiet_nil ?_;intro e;go_wp2_with (first|(go_at_call 79;with_reducible refine(C1.out.at_ _).mono ?_;rintro _ _ ⟨rfl,e,rfl⟩)))
   exact⟨⟨k+1,by omega,by go_num,eG hfk E.out,⟨e.to,hx1.trans e.h⟩,rfl⟩,by simp[intOf];omega⟩
  ·have:n=k:=by omega
   subst this;have E:Hid (dG xs=true):=by show _=_;rw[EV.out,Hin.out,hfk.out];rfl
   go_wp2_with fail
   repeat (refine ak _ (by kernel_rfl) (by kernel_rfl) ?_;(repeat (go_big_quiet_step (fail)));refine wpQuiet_nil ?_;intro e;go_wp2_with fail)
   go_ret;exact⟨by rw[E.out];rfl,_,rfl⟩
theorem Ed(xs:List ay)(n:Nat){A:Option Addr}{c:Nat}{bs:List Nat}(p:aC)(w:World)(hx:T1 w (.sl n (xs.flatMap ay.enc)) bs (.slice A n c))(Hl:Hid (xs.length=n)):Calls Tryz.prog 61 #[.slice A n c,.agg #[.int .i64 p.agent,.int .i64 p.slot]] w fun e w'=>e=.returned (.bool (fQ xs p))∧Ext w w':=by
 refine aM fun e=> ?_
 have hn:=hx.nJ;have EV:Hid (fQ xs p=(cB p.agent 0 ((n:Int)-1)&&cB p.slot 0 (((fB xs p.agent.toNat).aD.length:Int)-1))):=by show _=_;rw[←Hl.out];rfl
 go_enter Tryz.func61,Tryz.ntmps61
 go_upto_region 1 with(fail)
 generalize hgg:e.to.heap.size=g;refine dQ e hgg (fun w1 e hx1 hgeg hltg cg=> ?_);clear hgg
 replace hx:=hx.below hx1
 obtain⟨k0,k1⟩:=aC.Jw (dV.box hltg cg aC.oZ);cases d1:decide (0≤p.agent)
 case false=>
  have E:Hid (fQ xs p=false):=by show _=_;rw[EV.out,wO (by simp at d1;omega)];rfl
  go_wp2_with fail
  repeat (refine ak _ (by kernel_rfl) (by kernel_rfl) ?_;(repeat (go_big_quiet_step (fail)));refine wpQuiet_nil ?_;intro e;go_wp2_with fail)
  go_ret;exact⟨by rw[E.out];rfl,aK.old hx1 e⟩
 cases d2:decide (p.agent<(n:Int))
 case false=>
  have E:Hid (fQ xs p=false):=by show _=_;rw[EV.out,wO (by simp at d2;omega)];rfl
  go_wp2_with fail
  repeat (refine ak _ (by kernel_rfl) (by kernel_rfl) ?_;(repeat (go_big_quiet_step (fail)));refine wpQuiet_nil ?_;intro e;go_wp2_with fail)
  go_ret;exact⟨by rw[E.out];rfl,aK.old hx1 e⟩
 cases d3:decide (0≤p.slot)
 case false=>
  have E:Hid (fQ xs p=false):=by show _=_;rw[EV.out,wO (n:=p.slot) (by simp at d3;omega),Bool.and_false]
  go_wp2_with fail
  repeat (refine ak _ (by kernel_rfl) (by kernel_rfl) ?_;(repeat (go_big_quiet_step (fail)));refine wpQuiet_nil ?_;intro e;go_wp2_with fail)
  go_ret;exact⟨by rw[E.out];rfl,aK.old hx1 e⟩
 have ha0:0≤p.agent:=by simpa using d1
 have ha1:p.agent<(n:Int):=by simpa using d2
 obtain⟨i,hi⟩:=Int.eq_ofNat_of_zero_le ha0;have hlt:i<n:=by omega
 obtain⟨b,off,x,bs',rfl,hxk,hp⟩:=T1.elem ay.aR hx Hl hlt;obtain⟨A3,c3,b3,A4,c4,b4,h0,h1,h2,h3,h4,t3,t4⟩:=ay.pt hp;have hn4:=t4.nJ;clear h0 h1 h2 h3 t3;have EA:Hid (fB xs p.agent.toNat=x):=by show _=_;rw[hi,qK];exact iT hxk
 have EI:Hid (cB p.agent 0 ((n:Int)-1)=true):=rD ha0 (by omega);rw[hi]at k0 d1 d2;have i0:(0:Int)≤(i:Int):=by omega
 have i1:(i:Int)<(n:Int):=by omega
 clear hi ha0 ha1;have E:Hid (fQ xs p=decide (p.slot<(x.aD.length:Int))):=by show _=_;rw[EV.out,EA.out,EI.out,Bool.true_and];unfold cB;rw[show decide ((0:Int)≤p.slot)=true from d3,Bool.true_and];rw[Bool.eq_iff_iff];simp;omega
 go_wp2_with fail
 repeat (refine ak _ (by kernel_rfl) (by kernel_rfl) ?_;(repeat (go_big_quiet_step (fail)));refine wpQuiet_nil ?_;intro e;go_wp2_with fail)
 go_ret;exact⟨by rw[E.out];rfl,aK.old hx1 e⟩
theorem K9:mq Tryz.prog 84 92 2:=mq.of Tryz.underlying84 (by kernel_rfl) (by omega)
theorem Jv(x:aG)(b o:Nat)(bs:List Nat)(w:World)(h:dV w b o x.enc bs)(hok:dG x.agents=true):Calls Tryz.prog 58 #[.pointer (some ⟨b,o,none⟩)] w fun e w'=>
  Ext w w'∧∃A c bs',e=.returned (.slice A (bV x.agents x.agents.length).length c)∧T1 w' (.sl (bV x.agents x.agents.length).length ((bV x.agents x.agents.length).flatMap aC.enc)) bs' (.slice A (bV x.agents x.agents.length).length c):=by
 obtain⟨A0,c0,b0,h0,t0⟩:=aG.pt h;have hn0:=t0.nJ;obtain⟨hk1,hk2,hall⟩:=xG hok;have Hall:=Lib.hid hall;clear hall hok;refine Jc fun e=> ?_
 go_enter Tryz.func58,Tryz.ntmps58
 go_wp2_with fail
 go_loopw [3,12] (fun v i wr=>∃k:Nat,k≤x.agents.length∧i=.int .i64 k∧∃e:aK w,wr=e.to∧e.to.ownsRow w.heap.size 92 2 v (bV x.agents k).length ((bV x.agents k).flatMap aC.cells)) (fun _ i _=>x.agents.length-(intOf i).toNat)
 case atStart=>exact⟨0,Nat.zero_le _,rfl,_,rfl,World.ownsRow_nil _ _ _ _⟩
 case round=>
  obtain⟨k,hk,rfl,e,rfl,ho⟩:=hrel
  by_cases hlt:k<x.agents.length
  ·obtain⟨b',off,y,bs',rfl,hyk,hp⟩:=T1.elem ay.aR t0 dI hlt;obtain⟨A3,c3,b3,A4,c4,b4,g0,g1,g2,g3,g4,t3,t4⟩:=ay.pt hp;have hn4:=t4.nJ;have HA:Hid (fB x.agents k=y):=iT hyk;have hy4:y.aD.length≤4:=by have:=tq (Hall.out k hlt);rw[HA.out]at this;exact this
   have hle:(bV x.agents k).length≤4*k:=Gc fun j hj=>Hall.out j (by omega)
   clear t3 t4 hp
   go_wp2_with fail
   go_loopw [3,20] (fun v i wr=>∃j:Nat,j≤y.aD.length∧i=.int .i64 j∧∃e:aK w,wr=e.to∧e.to.ownsRow w.heap.size 92 2 v ((bV x.agents k).length+j) ((bV x.agents k).flatMap aC.cells++(lY k j).flatMap aC.cells)) (fun _ i _=>y.aD.length-(intOf i).toNat)
   case atStart=>exact⟨0,Nat.zero_le _,rfl,⟨_,e.h.alloc e.h.size _⟩,rfl,by simpa[lY]using ho.alloc _⟩
   case round=>
    obtain⟨j,hj,rfl,e,rfl,ho⟩:=hrel
    by_cases hltj:j<y.aD.length
    ·have hge:=e.h.size
     go_wp2_with (at_builtin;refine Gu rfl (.tmp 23) (.tmp 27) 84 rfl K9 w.heap.size _ _ _ rfl (ho.alloc _) e.to.heap.size 1 1 #[.int .i64 (k:Int),.int .i64 (j:Int)] rfl (heap_alloc_new e.to _) rfl rfl (by omega) (by simp;omega) ?_;intro v' w2 ho2 hg2)
     have hx2:Ext w w2:=Ext.grown (e.h.alloc e.h.size _) hg2 (FZ ho)
     go_roundw
     case rel=>exact⟨j+1,by omega,by go_num,⟨w2,hx2⟩,rfl,by rw[CX,List.flatMap_append,←qF];exact ho2⟩
     case measure=>simp[intOf];omega
    ·have:y.aD.length=j:=by omega
     subst this
     go_wp2_with fail
     go_roundw
     case rel=>exact⟨k+1,by omega,by go_num,e,rfl,by rw[vT,HA.out,List.flatMap_append,qA];simpa[lY]using ho⟩
     case measure=>simp[intOf];omega
  ·have:x.agents.length=k:=by omega
   subst this
   go_wp2_with fail
   go_ret;obtain⟨A,c,bs',rfl,ht⟩:=F7 ho (TN.NA aC.cells (fun _=>rfl) _);exact⟨e,rfl,A,c,bs',rfl,ht⟩
theorem Dz(N:aG)(nb no:Nat)(nbs:List Nat)(p:aC)(w:World)(hN:dV w nb no N.enc nbs)(hp:fQ N.agents p=true):Calls Tryz.prog 59 #[.agg #[.int .i64 p.agent,.int .i64 p.slot],.pointer (some ⟨nb,no,none⟩)] w fun e w'=>e=.returned (.bool (nK N.agents p))∧Ext w w':=by
 refine aM fun e=> ?_
 obtain⟨A0,c0,b0,h0,t0⟩:=aG.pt hN;obtain⟨q,hq⟩:∃q,mM N.agents p=q:=⟨_,rfl⟩;have EV:Hid (nK N.agents p= !lT N.agents p q):=by show _=_;rw[nK,hq]
 have Hq:=Lib.hid hq;clear hq
 go_enter Tryz.func59,Tryz.ntmps59
 go_upto_region 1 with(fail)
 generalize hgg:e.to.heap.size=g;refine dQ e hgg (fun w1 e hx1 hgeg hltg cg=> ?_);clear hgg
 replace hN:=hN.ext hx1
 replace h0:=h0.ext hx1
 replace t0:=t0.below hx1
 obtain⟨k0,k1⟩:=aC.Jw (x:=p) (dV.box hltg cg aC.oZ);clear cg;have C1:Hid (QC Tryz.prog w1 _ _ _):=fun W hW=>EC N nb no _ p W (hN.ext hW) hp
 rw[Hq.out]at C1
 go_upto_region 2 with(first|(go_at_call 60;with_reducible refine(C1.out.at_ _).mono ?_;rintro _ _ ⟨rfl,e,rfl⟩))
 repeat (refine ak _ (by kernel_rfl) (by kernel_rfl) ?_;(repeat (go_big_quiet_step ((first|with_reducible exact C1.out.at_ _))));refine wpQuiet_nil ?_;intro e;go_upto_region 2 with(first|(go_at_call 60;with_reducible refine(C1.out.at_ _).mono ?_;rintro _ _ ⟨rfl,e,rfl⟩)))
 generalize hggq:e.to.heap.size=gq;refine dQ e hggq (fun w2 e hx2 hgegq hltgq cgq=> ?_);clear hggq
 replace hN:=hN.ext hx2
 replace h0:=h0.ext hx2
 replace k0:=k0.ext hx2
 replace k1:=k1.ext hx2
 replace t0:=t0.below hx2
 replace C1:Hid (QC Tryz.prog w2 _ _ _):=C1.out.ext hx2
 have hy2:=Ext.trans hx1 hx2;obtain⟨q0,q1⟩:=aC.Jw (x:=q) (dV.box hltgq cgq aC.oZ);clear cgq;clear C1;have hg:=NS;have heq:=fun W=>Ik W q p
 have C2:Hid (QC Tryz.prog w2 _ _ _):=fun W hW=>Ed N.agents _ q W (t0.below hW) dI
 cases d1:kX q p
 case true=>
  (try rw[d1]at C2)
  have E:Hid (nK N.agents p=true):=by show _=_;rw[EV.out];simp[lT,d1]
  go_wp2_with (first|(go_at_call 61;with_reducible refine(C2.out.at_ _).mono ?_;rintro _ _ ⟨rfl,e,rfl⟩))
  repeat (refine ak _ (by kernel_rfl) (by kernel_rfl) ?_;(repeat (go_big_quiet_step ((first|with_reducible exact C2.out.at_ _))));refine wpQuiet_nil ?_;intro e;go_wp2_with (first|(go_at_call 61;with_reducible refine(C2.out.at_ _).mono ?_;rintro _ _ ⟨rfl,e,rfl⟩)))
  go_ret;exact⟨by rw[E.out];rfl,aK.old hy2 e⟩
 (try rw[d1]at C2)
 cases d2:fQ N.agents q
 case false=>
  (try rw[d2]at C2)
  have E:Hid (nK N.agents p=true):=by show _=_;rw[EV.out];simp[lT,d2]
  go_wp2_with (first|(go_at_call 61;with_reducible refine(C2.out.at_ _).mono ?_;rintro _ _ ⟨rfl,e,rfl⟩))
  repeat (refine ak _ (by kernel_rfl) (by kernel_rfl) ?_;(repeat (go_big_quiet_step ((first|with_reducible exact C2.out.at_ _))));refine wpQuiet_nil ?_;intro e;go_wp2_with (first|(go_at_call 61;with_reducible refine(C2.out.at_ _).mono ?_;rintro _ _ ⟨rfl,e,rfl⟩)))
  go_ret;exact⟨by rw[E.out];rfl,aK.old hy2 e⟩
 (try rw[d2]at C2)
 obtain⟨r,hr⟩:∃r,mM N.agents q=r:=⟨_,rfl⟩;have Hr:=Lib.hid hr;clear hr;have C3:Hid (QC Tryz.prog w2 _ _ _):=fun W hW=>EC N nb no _ q W (hN.ext hW) d2
 rw[Hr.out]at C3;have hne:=fun W=>Il W r p
 have E:Hid (nK N.agents p= !kX r p):=by show _=_;rw[EV.out];simp[lT,Hr.out,d1,d2]
 go_wp2_with (first|(go_at_call 61;with_reducible refine(C2.out.at_ _).mono ?_;rintro _ _ ⟨rfl,e,rfl⟩)|(go_at_call 60;with_reducible refine(C3.out.at_ _).mono ?_;rintro _ _ ⟨rfl,e,rfl⟩))
 repeat (refine ak _ (by kernel_rfl) (by kernel_rfl) ?_;(repeat (go_big_quiet_step ((first|with_reducible exact C2.out.at_ _|with_reducible exact C3.out.at_ _))));refine wpQuiet_nil ?_;intro e;go_wp2_with (first|(go_at_call 61;with_reducible refine(C2.out.at_ _).mono ?_;rintro _ _ ⟨rfl,e,rfl⟩)|(go_at_call 60;with_reducible refine(C3.out.at_ _).mono ?_;rintro _ _ ⟨rfl,e,rfl⟩)))
 go_ret;exact⟨by rw[E.out];rfl,aK.old hy2 e⟩
theorem wP(xs:List aC)(n:Nat){A:Option Addr}{c:Nat}{bs:List Nat}(N:aG)(nb no:Nat)(nbs:List Nat)(w:World)(hx:T1 w (.sl n (xs.flatMap aC.enc)) bs (.slice A n c))(Hl:Hid (xs.length=n))(hN:dV w nb no N.enc nbs)(hin:∀(k:Nat) (y:aC),xs[k]? =some y→fQ N.agents y=true):Calls Tryz.prog 80 #[.slice A n c,.func (.func 59) #[] #[.pointer (some ⟨nb,no,none⟩)]] w fun e w'=>e=.returned (.int .i64 (idxOf n (fun k=>nK N.agents (iB xs k))))∧Ext w w':=by
 refine aM fun e=> ?_
 have hn:=hx.nJ
 go_enter Tryz.func80,Tryz.ntmps80
 go_wp2_with fail
 repeat (refine ak _ (by kernel_rfl) (by kernel_rfl) ?_;(repeat (go_big_quiet_step (fail)));refine wpQuiet_nil ?_;intro e;go_wp2_with fail)
 go_loopw [5,8] (fun _ i w'=>∃k:Nat,k≤n∧i=.int .i64 k∧Hid (bW k (fun k=> !nK N.agents (iB xs k))=true)∧∃e:aK w,w'=e.to) (fun _ i _=>n-(intOf i).toNat)
 case atStart=>exact⟨0,Nat.zero_le _,rfl,kW _,_,rfl⟩
 case round=>
  obtain⟨k,hk,rfl,hf,e,rfl⟩:=hrel
  by_cases hlt:k<n
  ·skip
   obtain⟨b,off,x,bs',rfl,hxk,hp⟩:=T1.elem aC.aR hx Hl hlt;obtain⟨kx0,kx1⟩:=aC.pt hp;have hpi:=hin k x hxk.out;have EP:Hid (nK N.agents (iB xs k)=nK N.agents x):=by show _=_;rw[ow hxk]
   have C1:Hid (QC Tryz.prog w _ _ _):=fun W hW=>Dz N nb no nbs x W (hN.ext hW) hpi
   cases d1:nK N.agents x
   case true=>
    (try rw[d1]at C1)
    have E:Hid (idxOf n (fun k=>nK N.agents (iB xs k))=(k:Int)):=by show _=_;exact vJ hf hlt (by rw[EP.out];exact d1)
    go_wp2_with (first|(go_at_call 59;with_reducible refine(C1.out.at_ _).mono ?_;rintro _ _ ⟨rfl,e,rfl⟩))
    repeat (refine ak _ (by kernel_rfl) (by kernel_rfl) ?_;(repeat (go_big_quiet_step ((first|with_reducible exact C1.out.at_ _))));refine wpQuiet_nil ?_;intro e;go_wp2_with (first|(go_at_call 59;with_reducible refine(C1.out.at_ _).mono ?_;rintro _ _ ⟨rfl,e,rfl⟩)))
    go_ret;exact⟨by rw[E.out];rfl,_,rfl⟩
   (try rw[d1]at C1)
   have E:Hid ((!nK N.agents (iB xs k))=true):=by show _=_;rw[EP.out,d1];rfl
   go_wp2_with (first|(go_at_call 59;with_reducible refine(C1.out.at_ _).mono ?_;rintro _ _ ⟨rfl,e,rfl⟩))
   repeat (refine ak _ (by kernel_rfl) (by kernel_rfl) ?_;(repeat (go_big_quiet_step ((first|with_reducible exact C1.out.at_ _))));refine wpQuiet_nil ?_;intro e;go_wp2_with (first|(go_at_call 59;with_reducible refine(C1.out.at_ _).mono ?_;rintro _ _ ⟨rfl,e,rfl⟩)))
   exact⟨⟨k+1,by omega,by go_num,eG hf E.out,_,rfl⟩,by simp[intOf];omega⟩
  ·have:n=k:=by omega
   subst this;have E:Hid (idxOf n (fun k=>nK N.agents (iB xs k))= -1):=by show _=_;exact mH hf
   go_wp2_with fail
   repeat (refine ak _ (by kernel_rfl) (by kernel_rfl) ?_;(repeat (go_big_quiet_step (fail)));refine wpQuiet_nil ?_;intro e;go_wp2_with fail)
   go_ret;exact⟨by rw[E.out];rfl,_,rfl⟩
theorem sS(xs:List aC)(n:Nat){A:Option Addr}{c:Nat}{bs:List Nat}(N:aG)(nb no:Nat)(nbs:List Nat)(w:World)(hx:T1 w (.sl n (xs.flatMap aC.enc)) bs (.slice A n c))(Hl:Hid (xs.length=n))(hN:dV w nb no N.enc nbs)(hin:∀(k:Nat) (y:aC),xs[k]? =some y→fQ N.agents y=true):Calls Tryz.prog 57 #[.slice A n c,.func (.func 59) #[] #[.pointer (some ⟨nb,no,none⟩)]] w fun e w'=>e=.returned (.bool (lJ n (fun k=>nK N.agents (iB xs k))))∧Ext w w':=by
 refine aM fun e=> ?_
 have C1:Hid (QC Tryz.prog w _ _ _):=fun W hW=>wP xs n N nb no nbs W (hx.below hW) Hl (hN.ext hW) hin
 have hc:=vK n (fun k=>nK N.agents (iB xs k))
 go_enter Tryz.func57,Tryz.ntmps57
 go_wp2_with (first|(go_at_call 80;with_reducible refine(C1.out.at_ _).mono ?_;rintro _ _ ⟨rfl,e,rfl⟩))
 repeat (refine ak _ (by kernel_rfl) (by kernel_rfl) ?_;(repeat (go_big_quiet_step ((first|with_reducible exact C1.out.at_ _))));refine wpQuiet_nil ?_;intro e;go_wp2_with (first|(go_at_call 80;with_reducible refine(C1.out.at_ _).mono ?_;rintro _ _ ⟨rfl,e,rfl⟩)))
 go_ret;exact⟨by rw[←hc];rfl,_,rfl⟩
theorem nV(x:aG){bs us}(w:World)(h:TN w x.enc bs us):Calls Tryz.prog 26 #[.agg us.toArray] w fun e w'=>e=.returned (.bool (eY x))∧Ext w w':=by
 refine aM fun e=> ?_
 obtain⟨P0,p0,q0,rfl,_⟩:=aG.us (x:=x) h
 go_enter Tryz.func26,Tryz.ntmps26
 go_upto_region 1 with(fail)
 generalize hgg:e.to.heap.size=g;refine dQ e hgg (fun w1 e hx1 hgeg hltg cg=> ?_);clear hgg
 replace h:=h.below hx1
 have p:=dV.box hltg cg h;clear cg h;obtain⟨A0,c0,b0,h0,t0⟩:=aG.Jw p;have C1:Hid (QC Tryz.prog w1 _ _ _):=fun W hW=>Au x.agents _ W (t0.below hW) dI
 cases d1:dG x.agents
 case false=>
  (try rw[d1]at C1)
  have E:Hid (eY x=false):=by show _=_;simp[eY,d1]
  go_wp2_with (first|(go_at_call 56;with_reducible refine(C1.out.at_ _).mono ?_;rintro _ _ ⟨rfl,e,rfl⟩))
  repeat (refine ak _ (by kernel_rfl) (by kernel_rfl) ?_;(repeat (go_big_quiet_step ((first|with_reducible exact C1.out.at_ _))));refine wpQuiet_nil ?_;intro e;go_wp2_with (first|(go_at_call 56;with_reducible refine(C1.out.at_ _).mono ?_;rintro _ _ ⟨rfl,e,rfl⟩)))
  go_ret;exact⟨by rw[E.out];rfl,aK.old hx1 e⟩
 (try rw[d1]at C1)
 have EV:Hid (eY x= !lJ (bV x.agents x.agents.length).length (fun k=>nK x.agents (iB (bV x.agents x.agents.length) k))):=FV x d1
 go_wp2_with (first|(go_at_call 56;with_reducible refine(C1.out.at_ _).mono ?_;rintro _ _ ⟨rfl,e,rfl⟩))
 repeat (refine ak _ (by kernel_rfl) (by kernel_rfl) ?_;(repeat (go_big_quiet_step ((first|with_reducible exact C1.out.at_ _))));refine wpQuiet_nil ?_;intro e;go_wp2_with (first|(go_at_call 56;with_reducible refine(C1.out.at_ _).mono ?_;rintro _ _ ⟨rfl,e,rfl⟩)))
 refine(Jv x g 0 _ _ (p.ext e.h) d1).mono ?_;rintro _ w2 ⟨hx2,A,c,bs',rfl,ht⟩;have hq:=Ext.trans e.h hx2;clear C1
 replace p:=p.ext hq
 have hy2:=Ext.trans hx1 hq;obtain⟨e,he⟩:∃e:aK w2,w2=e.to:=⟨⟨w2,Below.refl _ _⟩,rfl⟩;have C2:Hid (QC Tryz.prog w2 _ _ _):=fun W hW=>sS (bV x.agents x.agents.length) _ x g 0 _ W (ht.below hW) dI (p.ext hW) (fun k y hy=>Gb hy)
 go_wp2_with (first|(go_at_call 57;with_reducible refine(C2.out.at_ _).mono ?_;rintro _ _ ⟨rfl,e,rfl⟩))
 repeat (refine ak _ (by kernel_rfl) (by kernel_rfl) ?_;(repeat (go_big_quiet_step ((first|with_reducible exact C2.out.at_ _))));refine wpQuiet_nil ?_;intro e;go_wp2_with (first|(go_at_call 57;with_reducible refine(C2.out.at_ _).mono ?_;rintro _ _ ⟨rfl,e,rfl⟩)))
 go_ret;refine⟨by rw[EV.out];rfl,?_⟩
 first|exact aK.old hy2 e|exact aK.old hy2 ⟨_,Below.refl _ _⟩
theorem AJ(x:ay)(b o:Nat)(bs:List Nat)(w:World)(h:dV w b o x.enc bs):Calls Tryz.prog 96 #[.pointer (some ⟨b,o,none⟩)] w fun e w'=>e=.returned (.int .i64 (fieldsOf x))∧Ext w w':=by
 refine aM fun e=> ?_
 obtain⟨A3,c3,b3,A4,c4,b4,h0,h1,h2,h3,h4,t3,t4⟩:=ay.pt h
 go_enter Tryz.func96,Tryz.ntmps96
 have hn4:=t4.nJ;cases d1:(x.kind==9)
 case false=>
  have E:Hid (fieldsOf x=0):=by show _=_;simp at d1;simp[fieldsOf,dh,d1]
  go_wp2_with fail
  repeat (refine ak _ (by kernel_rfl) (by kernel_rfl) ?_;(repeat (go_big_quiet_step (fail)));refine wpQuiet_nil ?_;intro e;go_wp2_with fail)
  go_ret;exact⟨by rw[E.out];rfl,_,rfl⟩
 have E:Hid (fieldsOf x=(x.aD.length:Int)-1):=by show _=_;simp at d1;simp[fieldsOf,dh,d1]
 go_wp2_with fail
 repeat (refine ak _ (by kernel_rfl) (by kernel_rfl) ?_;(repeat (go_big_quiet_step (fail)));refine wpQuiet_nil ?_;intro e;go_wp2_with fail)
 go_ret;exact⟨by rw[E.out];rfl,_,rfl⟩
theorem yA(k f:Int)(w:World):Calls Tryz.prog 95 #[.int .i64 k,.int .i64 f] w fun e w'=>e=.returned (.int .i64 (bD k f))∧Ext w w':=by
 refine aM fun e=> ?_
 have C1:Hid (QC Tryz.prog w _ _ _):=fun W hW=>(kM f 0 3 W).q
 cases d1:cB f 0 3
 case true=>
  have hf:=kI d1
  go_enter Tryz.func95,Tryz.ntmps95
  go_wp2_with (first|(go_at_call 22;with_reducible refine(C1.out.at_ _).mono ?_;rintro _ _ ⟨rfl,e,rfl⟩))
  repeat (refine ak _ (by kernel_rfl) (by kernel_rfl) ?_;(repeat (go_big_quiet_step ((first|with_reducible exact C1.out.at_ _))));refine wpQuiet_nil ?_;intro e;go_wp2_with (first|(go_at_call 22;with_reducible refine(C1.out.at_ _).mono ?_;rintro _ _ ⟨rfl,e,rfl⟩)))
  all_goals go_ret
  all_goals refine⟨?_,_,rfl⟩
  all_goals first|(simp[bD, *];done)|(simp[bD, *];omega)|(simp_all [bD];done)|(simp_all [bD];omega)
 go_enter Tryz.func95,Tryz.ntmps95
 go_wp2_with (first|(go_at_call 22;with_reducible refine(C1.out.at_ _).mono ?_;rintro _ _ ⟨rfl,e,rfl⟩))
 repeat (refine ak _ (by kernel_rfl) (by kernel_rfl) ?_;(repeat (go_big_quiet_step ((first|with_reducible exact C1.out.at_ _))));refine wpQuiet_nil ?_;intro e;go_wp2_with (first|(go_at_call 22;with_reducible refine(C1.out.at_ _).mono ?_;rintro _ _ ⟨rfl,e,rfl⟩)))
 all_goals go_ret
 all_goals refine⟨?_,_,rfl⟩
 all_goals first|(simp[bD, *];done)|(simp[bD, *];omega)|(simp_all [bD];done)|(simp_all [bD];omega)
theorem CG(x:ay)(b o:Nat)(bs:List Nat)(w:World)(h:dV w b o x.enc bs):Calls Tryz.prog 85 #[.pointer (some ⟨b,o,none⟩)] w fun e w'=>e=.returned (.bool (bP x))∧Ext w w':=by
 refine aM fun e=> ?_
 obtain⟨A3,c3,b3,A4,c4,b4,h0,h1,h2,h3,h4,t3,t4⟩:=ay.pt h;have hn4:=t4.nJ;have C1:Hid (QC Tryz.prog w _ _ _):=fun W hW=>AJ x b o _ W (h.ext hW)
 have C2:Hid (QC Tryz.prog w _ _ _):=fun W hW=>zB x b o _ W (h.ext hW)
 have C3:Hid (QC Tryz.prog w _ _ _):=fun W hW=>yA x.kind (fieldsOf x) W
 have C4:Hid (QC Tryz.prog w _ _ _):=fun W hW=>(CF x.kind x.level W).q
 go_enter Tryz.func85,Tryz.ntmps85
 cases d1:decide (0<bD x.kind (fieldsOf x))
 case false=>
  (try rw[d1]at C1);(try rw[d1]at C2);(try rw[d1]at C3);(try rw[d1]at C4)
  have E:Hid (bP x=false):=by show _=_;first|(simp only[bP,d1];done)|(simp only[bP,d1];rfl)|(simp[bP,d1];done)|((try simp at d1);simp[bP,d1];done)
  go_wp2_with (first|(go_at_call 96;with_reducible refine(C1.out.at_ _).mono ?_;rintro _ _ ⟨rfl,e,rfl⟩)|(go_at_call 98;with_reducible refine(C2.out.at_ _).mono ?_;rintro _ _ ⟨rfl,e,rfl⟩)|(go_at_call 95;with_reducible refine(C3.out.at_ _).mono ?_;rintro _ _ ⟨rfl,e,rfl⟩)|(go_at_call 97;with_reducible refine(C4.out.at_ _).mono ?_;rintro _ _ ⟨rfl,e,rfl⟩))
  repeat (refine ak _ (by kernel_rfl) (by kernel_rfl) ?_;(repeat (go_big_quiet_step ((first|with_reducible exact C1.out.at_ _|with_reducible exact C2.out.at_ _|with_reducible exact C3.out.at_ _|with_reducible exact C4.out.at_ _))));refine wpQuiet_nil ?_;intro e;go_wp2_with (first|(go_at_call 96;with_reducible refine(C1.out.at_ _).mono ?_;rintro _ _ ⟨rfl,e,rfl⟩)|(go_at_call 98;with_reducible refine(C2.out.at_ _).mono ?_;rintro _ _ ⟨rfl,e,rfl⟩)|(go_at_call 95;with_reducible refine(C3.out.at_ _).mono ?_;rintro _ _ ⟨rfl,e,rfl⟩)|(go_at_call 97;with_reducible refine(C4.out.at_ _).mono ?_;rintro _ _ ⟨rfl,e,rfl⟩)))
  go_ret;exact⟨by rw[E.out];rfl,_,rfl⟩
 (try rw[d1]at C1);(try rw[d1]at C2);(try rw[d1]at C3);(try rw[d1]at C4)
 cases d2:((x.aD.length:Int)==bD x.kind (fieldsOf x))
 case false=>
  (try rw[d2]at C1);(try rw[d2]at C2);(try rw[d2]at C3);(try rw[d2]at C4)
  have E:Hid (bP x=false):=by show _=_;first|(simp only[bP,d1,d2];done)|(simp only[bP,d1,d2];rfl)|(simp[bP,d1,d2];done)|((try simp at d1);(try simp at d2);simp[bP,d1,d2];done)
  go_wp2_with (first|(go_at_call 96;with_reducible refine(C1.out.at_ _).mono ?_;rintro _ _ ⟨rfl,e,rfl⟩)|(go_at_call 98;with_reducible refine(C2.out.at_ _).mono ?_;rintro _ _ ⟨rfl,e,rfl⟩)|(go_at_call 95;with_reducible refine(C3.out.at_ _).mono ?_;rintro _ _ ⟨rfl,e,rfl⟩)|(go_at_call 97;with_reducible refine(C4.out.at_ _).mono ?_;rintro _ _ ⟨rfl,e,rfl⟩))
  repeat (refine ak _ (by kernel_rfl) (by kernel_rfl) ?_;(repeat (go_big_quiet_step ((first|with_reducible exact C1.out.at_ _|with_reducible exact C2.out.at_ _|with_reducible exact C3.out.at_ _|with_reducible exact C4.out.at_ _))));refine wpQuiet_nil ?_;intro e;go_wp2_with (first|(go_at_call 96;with_reducible refine(C1.out.at_ _).mono ?_;rintro _ _ ⟨rfl,e,rfl⟩)|(go_at_call 98;with_reducible refine(C2.out.at_ _).mono ?_;rintro _ _ ⟨rfl,e,rfl⟩)|(go_at_call 95;with_reducible refine(C3.out.at_ _).mono ?_;rintro _ _ ⟨rfl,e,rfl⟩)|(go_at_call 97;with_reducible refine(C4.out.at_ _).mono ?_;rintro _ _ ⟨rfl,e,rfl⟩)))
  go_ret;exact⟨by rw[E.out];rfl,_,rfl⟩
 (try rw[d2]at C1);(try rw[d2]at C2);(try rw[d2]at C3);(try rw[d2]at C4)
 cases d3:dK x.kind x.level
 case false=>
  (try rw[d3]at C1);(try rw[d3]at C2);(try rw[d3]at C3);(try rw[d3]at C4)
  have E:Hid (bP x=false):=by show _=_;first|(simp only[bP,d1,d2,d3];done)|(simp only[bP,d1,d2,d3];rfl)|(simp[bP,d1,d2,d3];done)|((try simp at d1);(try simp at d2);(try simp at d3);simp[bP,d1,d2,d3];done)
  go_wp2_with (first|(go_at_call 96;with_reducible refine(C1.out.at_ _).mono ?_;rintro _ _ ⟨rfl,e,rfl⟩)|(go_at_call 98;with_reducible refine(C2.out.at_ _).mono ?_;rintro _ _ ⟨rfl,e,rfl⟩)|(go_at_call 95;with_reducible refine(C3.out.at_ _).mono ?_;rintro _ _ ⟨rfl,e,rfl⟩)|(go_at_call 97;with_reducible refine(C4.out.at_ _).mono ?_;rintro _ _ ⟨rfl,e,rfl⟩))
  repeat (refine ak _ (by kernel_rfl) (by kernel_rfl) ?_;(repeat (go_big_quiet_step ((first|with_reducible exact C1.out.at_ _|with_reducible exact C2.out.at_ _|with_reducible exact C3.out.at_ _|with_reducible exact C4.out.at_ _))));refine wpQuiet_nil ?_;intro e;go_wp2_with (first|(go_at_call 96;with_reducible refine(C1.out.at_ _).mono ?_;rintro _ _ ⟨rfl,e,rfl⟩)|(go_at_call 98;with_reducible refine(C2.out.at_ _).mono ?_;rintro _ _ ⟨rfl,e,rfl⟩)|(go_at_call 95;with_reducible refine(C3.out.at_ _).mono ?_;rintro _ _ ⟨rfl,e,rfl⟩)|(go_at_call 97;with_reducible refine(C4.out.at_ _).mono ?_;rintro _ _ ⟨rfl,e,rfl⟩)))
  go_ret;exact⟨by rw[E.out];rfl,_,rfl⟩
 (try rw[d3]at C1);(try rw[d3]at C2);(try rw[d3]at C3);(try rw[d3]at C4)
 have E:Hid (bP x=dZ x):=by show _=_;first|(simp only[bP,d1,d2,d3];done)|(simp only[bP,d1,d2,d3];rfl)|(simp[bP,d1,d2,d3];done)|((try simp at d1);(try simp at d2);(try simp at d3);simp[bP,d1,d2,d3];done)
 go_wp2_with (first|(go_at_call 96;with_reducible refine(C1.out.at_ _).mono ?_;rintro _ _ ⟨rfl,e,rfl⟩)|(go_at_call 98;with_reducible refine(C2.out.at_ _).mono ?_;rintro _ _ ⟨rfl,e,rfl⟩)|(go_at_call 95;with_reducible refine(C3.out.at_ _).mono ?_;rintro _ _ ⟨rfl,e,rfl⟩)|(go_at_call 97;with_reducible refine(C4.out.at_ _).mono ?_;rintro _ _ ⟨rfl,e,rfl⟩))
 repeat (refine ak _ (by kernel_rfl) (by kernel_rfl) ?_;(repeat (go_big_quiet_step ((first|with_reducible exact C1.out.at_ _|with_reducible exact C2.out.at_ _|with_reducible exact C3.out.at_ _|with_reducible exact C4.out.at_ _))));refine wpQuiet_nil ?_;intro e;go_wp2_with (first|(go_at_call 96;with_reducible refine(C1.out.at_ _).mono ?_;rintro _ _ ⟨rfl,e,rfl⟩)|(go_at_call 98;with_reducible refine(C2.out.at_ _).mono ?_;rintro _ _ ⟨rfl,e,rfl⟩)|(go_at_call 95;with_reducible refine(C3.out.at_ _).mono ?_;rintro _ _ ⟨rfl,e,rfl⟩)|(go_at_call 97;with_reducible refine(C4.out.at_ _).mono ?_;rintro _ _ ⟨rfl,e,rfl⟩)))
 go_ret;exact⟨by rw[E.out];rfl,_,rfl⟩
theorem AB(xs:List ay)(n:Nat){A:Option Addr}{c:Nat}{bs:List Nat}(w:World)(hx:T1 w (.sl n (xs.flatMap ay.enc)) bs (.slice A n c))(Hl:Hid (xs.length=n)):Calls Tryz.prog 74 #[.slice A n c] w fun e w'=>e=.returned (.bool (dG xs))∧Ext w w':=by
 refine aM fun e=> ?_
 have hn:=hx.nJ;have EV:Hid (dG xs=(cB n 1 600&&bW n (fC xs))):=by show _=_;rw[←Hl.out];rfl
 have C1:Hid (QC Tryz.prog w _ _ _):=fun W hW=>(kM n 1 600 W).q
 go_enter Tryz.func74,Tryz.ntmps74
 cases d1:cB n 1 600
 case false=>
  (try rw[d1]at C1)
  have E:Hid (dG xs=false):=by show _=_;rw[EV.out,d1];rfl
  go_wp2_with (first|(go_at_call 22;with_reducible refine(C1.out.at_ _).mono ?_;rintro _ _ ⟨rfl,e,rfl⟩))
  repeat (refine ak _ (by kernel_rfl) (by kernel_rfl) ?_;(repeat (go_big_quiet_step ((first|with_reducible exact C1.out.at_ _))));refine wpQuiet_nil ?_;intro e;go_wp2_with (first|(go_at_call 22;with_reducible refine(C1.out.at_ _).mono ?_;rintro _ _ ⟨rfl,e,rfl⟩)))
  go_ret;exact⟨by rw[E.out];rfl,_,rfl⟩
 (try rw[d1]at C1)
 go_wp2_with (first|(go_at_call 22;with_reducible refine(C1.out.at_ _).mono ?_;rintro _ _ ⟨rfl,e,rfl⟩))
 repeat (refine ak _ (by kernel_rfl) (by kernel_rfl) ?_;(repeat (go_big_quiet_step ((first|with_reducible exact C1.out.at_ _))));refine wpQuiet_nil ?_;intro e;go_wp2_with (first|(go_at_call 22;with_reducible refine(C1.out.at_ _).mono ?_;rintro _ _ ⟨rfl,e,rfl⟩)))
 go_loopw [3] (fun i w'=>∃k:Nat,k≤n∧i=.int .i64 k∧Hid (bW k (fC xs)=true)∧∃e:aK w,w'=e.to) (fun i _=>n-(intOf i).toNat)
 case atStart=>exact⟨0,Nat.zero_le _,rfl,kW _,_,rfl⟩
 case round=>
  obtain⟨k,hk,rfl,hfk,e,rfl⟩:=hrel
  by_cases hltk:k<n
  ·skip
   obtain⟨b,off,x,bs',rfl,hxk,hp⟩:=T1.elem ay.aR hx Hl hltk;obtain⟨A3,c3,b3,A4,c4,b4,h0,h1,h2,h3,h4,t3,t4⟩:=ay.pt hp;clear h1 h2 h3 h4 t3 t4;have C2:Hid (QC Tryz.prog w _ _ _):=fun W hW=>CG x b (off+k*5) _ W (hp.ext hW)
   have EK:Hid (fC xs k=(bP x&&((x.kind==1)==((k:Int)==0)))):=by show _=_;rw[fC,iT hxk]
   cases d2:bP x
   case false=>
    (try rw[d2]at C1);(try rw[d2]at C2)
    have E:Hid (dG xs=false):=by show _=_;rw[EV.out,gM hltk (by rw[EK.out,d2];rfl)];simp
    go_wp2_with (first|(go_at_call 22;with_reducible refine(C1.out.at_ _).mono ?_;rintro _ _ ⟨rfl,e,rfl⟩)|(go_at_call 85;with_reducible refine(C2.out.at_ _).mono ?_;rintro _ _ ⟨rfl,e,rfl⟩))
    repeat (refine ak _ (by kernel_rfl) (by kernel_rfl) ?_;(repeat (go_big_quiet_step ((first|with_reducible exact C1.out.at_ _|with_reducible exact C2.out.at_ _))));refine wpQuiet_nil ?_;intro e;go_wp2_with (first|(go_at_call 22;with_reducible refine(C1.out.at_ _).mono ?_;rintro _ _ ⟨rfl,e,rfl⟩)|(go_at_call 85;with_reducible refine(C2.out.at_ _).mono ?_;rintro _ _ ⟨rfl,e,rfl⟩)))
    go_ret;exact⟨by rw[E.out];rfl,_,rfl⟩
   (try rw[d2]at C1);(try rw[d2]at C2)
   cases d3:(x.kind==1)
   case false=>
    (try rw[d3]at C1);(try rw[d3]at C2)
    cases d4:((k:Int)==0)
    case true=>
     (try rw[d4]at C1);(try rw[d4]at C2)
     have E:Hid (dG xs=false):=by show _=_;rw[EV.out,gM hltk (by rw[EK.out,d2,d3,d4];rfl)];simp
     go_wp2_with (first|(go_at_call 22;with_reducible refine(C1.out.at_ _).mono ?_;rintro _ _ ⟨rfl,e,rfl⟩)|(go_at_call 85;with_reducible refine(C2.out.at_ _).mono ?_;rintro _ _ ⟨rfl,e,rfl⟩))
     repeat (refine ak _ (by kernel_rfl) (by kernel_rfl) ?_;(repeat (go_big_quiet_step ((first|with_reducible exact C1.out.at_ _|with_reducible exact C2.out.at_ _))));refine wpQuiet_nil ?_;intro e;go_wp2_with (first|(go_at_call 22;with_reducible refine(C1.out.at_ _).mono ?_;rintro _ _ ⟨rfl,e,rfl⟩)|(go_at_call 85;with_reducible refine(C2.out.at_ _).mono ?_;rintro _ _ ⟨rfl,e,rfl⟩)))
     go_ret;exact⟨by rw[E.out];rfl,_,rfl⟩
    (try rw[d4]at C1);(try rw[d4]at C2)
    have E:Hid (fC xs k=true):=by show _=_;rw[EK.out,d2,d3,d4];rfl
    go_wp2_with (first|(go_at_call 22;with_reducible refine(C1.out.at_ _).mono ?_;rintro _ _ ⟨rfl,e,rfl⟩)|(go_at_call 85;with_reducible refine(C2.out.at_ _).mono ?_;rintro _ _ ⟨rfl,e,rfl⟩))
    repeat (refine ak _ (by kernel_rfl) (by kernel_rfl) ?_;(repeat (go_big_quiet_step ((first|with_reducible exact C1.out.at_ _|with_reducible exact C2.out.at_ _))));refine wpQuiet_nil ?_;intro e;go_wp2_with (first|(go_at_call 22;with_reducible refine(C1.out.at_ _).mono ?_;rintro _ _ ⟨rfl,e,rfl⟩)|(go_at_call 85;with_reducible refine(C2.out.at_ _).mono ?_;rintro _ _ ⟨rfl,e,rfl⟩)))
    exact⟨⟨k+1,by omega,by go_num,eG hfk E.out,_,rfl⟩,by simp[intOf];omega⟩
   (try rw[d3]at C1);(try rw[d3]at C2)
   cases d5:((k:Int)==0)
   case false=>
    (try rw[d5]at C1);(try rw[d5]at C2)
    have E:Hid (dG xs=false):=by show _=_;rw[EV.out,gM hltk (by rw[EK.out,d2,d3,d5];rfl)];simp
    go_wp2_with (first|(go_at_call 22;with_reducible refine(C1.out.at_ _).mono ?_;rintro _ _ ⟨rfl,e,rfl⟩)|(go_at_call 85;with_reducible refine(C2.out.at_ _).mono ?_;rintro _ _ ⟨rfl,e,rfl⟩))
    repeat (refine ak _ (by kernel_rfl) (by kernel_rfl) ?_;(repeat (go_big_quiet_step ((first|with_reducible exact C1.out.at_ _|with_reducible exact C2.out.at_ _))));refine wpQuiet_nil ?_;intro e;go_wp2_with (first|(go_at_call 22;with_reducible refine(C1.out.at_ _).mono ?_;rintro _ _ ⟨rfl,e,rfl⟩)|(go_at_call 85;with_reducible refine(C2.out.at_ _).mono ?_;rintro _ _ ⟨rfl,e,rfl⟩)))
    go_ret;exact⟨by rw[E.out];rfl,_,rfl⟩
   (try rw[d5]at C1);(try rw[d5]at C2)
   have E:Hid (fC xs k=true):=by show _=_;rw[EK.out,d2,d3,d5];rfl
   go_wp2_with (first|(go_at_call 22;with_reducible refine(C1.out.at_ _).mono ?_;rintro _ _ ⟨rfl,e,rfl⟩)|(go_at_call 85;with_reducible refine(C2.out.at_ _).mono ?_;rintro _ _ ⟨rfl,e,rfl⟩))
   repeat (refine ak _ (by kernel_rfl) (by kernel_rfl) ?_;(repeat (go_big_quiet_step ((first|with_reducible exact C1.out.at_ _|with_reducible exact C2.out.at_ _))));refine wpQuiet_nil ?_;intro e;go_wp2_with (first|(go_at_call 22;with_reducible refine(C1.out.at_ _).mono ?_;rintro _ _ ⟨rfl,e,rfl⟩)|(go_at_call 85;with_reducible refine(C2.out.at_ _).mono ?_;rintro _ _ ⟨rfl,e,rfl⟩)))
   exact⟨⟨k+1,by omega,by go_num,eG hfk E.out,_,rfl⟩,by simp[intOf];omega⟩
  ·have:n=k:=by omega
   subst this;have E:Hid (dG xs=true):=by show _=_;rw[EV.out,d1,hfk.out];rfl
   go_wp2_with (first|(go_at_call 22;with_reducible refine(C1.out.at_ _).mono ?_;rintro _ _ ⟨rfl,e,rfl⟩))
   repeat (refine ak _ (by kernel_rfl) (by kernel_rfl) ?_;(repeat (go_big_quiet_step ((first|with_reducible exact C1.out.at_ _))));refine wpQuiet_nil ?_;intro e;go_wp2_with (first|(go_at_call 22;with_reducible refine(C1.out.at_ _).mono ?_;rintro _ _ ⟨rfl,e,rfl⟩)))
   go_ret;exact⟨by rw[E.out];rfl,_,rfl⟩
theorem Em(xs:List ay)(n:Nat){A:Option Addr}{c:Nat}{bs:List Nat}(p:aC)(w:World)(hx:T1 w (.sl n (xs.flatMap ay.enc)) bs (.slice A n c))(Hl:Hid (xs.length=n)):Calls Tryz.prog 75 #[.slice A n c,.agg #[.int .i64 p.agent,.int .i64 p.slot]] w fun e w'=>e=.returned (.bool (fQ xs p))∧Ext w w':=by
 refine aM fun e=> ?_
 have hn:=hx.nJ;have EV:Hid (fQ xs p=(cB p.agent 0 ((n:Int)-1)&&cB p.slot 0 (((fB xs p.agent.toNat).aD.length:Int)-1))):=by show _=_;rw[←Hl.out];rfl
 go_enter Tryz.func75,Tryz.ntmps75
 go_upto_region 1 with(fail)
 generalize hgg:e.to.heap.size=g;refine dQ e hgg (fun w1 e hx1 hgeg hltg cg=> ?_);clear hgg
 replace hx:=hx.below hx1
 obtain⟨k0,k1⟩:=aC.Jw (dV.box hltg cg aC.oZ);have C1:Hid (QC Tryz.prog w1 _ _ _):=fun W hW=>(kM p.agent 0 ((n:Int)-1) W).q
 cases d1:cB p.agent 0 ((n:Int)-1)
 case false=>
  (try rw[d1]at C1)
  have hw0:IntKind.i64.wrap ((n:Int)-1)=(n:Int)-1:=qO _ (by omega);have E:Hid (fQ xs p=false):=by show _=_;rw[EV.out,d1];rfl
  go_wp2_with (first|(go_at_call 22;with_reducible refine(C1.out.at_ _).mono ?_;rintro _ _ ⟨rfl,e,rfl⟩))
  repeat (refine ak _ (by kernel_rfl) (by kernel_rfl) ?_;(repeat (go_big_quiet_step ((first|with_reducible exact C1.out.at_ _))));refine wpQuiet_nil ?_;intro e;go_wp2_with (first|(go_at_call 22;with_reducible refine(C1.out.at_ _).mono ?_;rintro _ _ ⟨rfl,e,rfl⟩)))
  go_ret;exact⟨by rw[E.out];rfl,aK.old hx1 e⟩
 (try rw[d1]at C1)
 have hr:=kI d1;obtain⟨i,hi⟩:=Int.eq_ofNat_of_zero_le hr.1;have hlt:i<n:=by omega
 obtain⟨b,off,x,bs',rfl,hxk,hp⟩:=T1.elem ay.aR hx Hl hlt;obtain⟨A3,c3,b3,A4,c4,b4,h0,h1,h2,h3,h4,t3,t4⟩:=ay.pt hp;have hn4:=t4.nJ;clear h0 h1 h2 h3 t3;have EA:Hid (fB xs p.agent.toNat=x):=by show _=_;rw[hi,qK];exact iT hxk
 rw[hi]at k0 d1 C1;have Hi:=Lib.hid hi;clear hi;have C2:Hid (QC Tryz.prog w1 _ _ _):=fun W hW=>(kM p.slot 0 ((x.aD.length:Int)-1) W).q
 have hw0:IntKind.i64.wrap ((n:Int)-1)=(n:Int)-1:=qO _ (by omega);have hw1:IntKind.i64.wrap ((x.aD.length:Int)-1)=(x.aD.length:Int)-1:=qO _ (by omega);have E:Hid (fQ xs p=cB p.slot 0 ((x.aD.length:Int)-1)):=by show _=_;rw[EV.out,EA.out,Hi.out,d1];rfl
 go_wp2_with (first|(go_at_call 22;with_reducible refine(C1.out.at_ _).mono ?_;rintro _ _ ⟨rfl,e,rfl⟩)|(go_at_call 22;with_reducible refine(C2.out.at_ _).mono ?_;rintro _ _ ⟨rfl,e,rfl⟩))
 repeat (refine ak _ (by kernel_rfl) (by kernel_rfl) ?_;(repeat (go_big_quiet_step ((first|with_reducible exact C1.out.at_ _|with_reducible exact C2.out.at_ _))));refine wpQuiet_nil ?_;intro e;go_wp2_with (first|(go_at_call 22;with_reducible refine(C1.out.at_ _).mono ?_;rintro _ _ ⟨rfl,e,rfl⟩)|(go_at_call 22;with_reducible refine(C2.out.at_ _).mono ?_;rintro _ _ ⟨rfl,e,rfl⟩)))
 go_ret;exact⟨by rw[E.out];rfl,aK.old hx1 e⟩
theorem Bo(x:aG)(b o:Nat)(bs:List Nat)(w:World)(h:dV w b o x.enc bs):Calls Tryz.prog 48 #[.pointer (some ⟨b,o,none⟩)] w fun e w'=>e=.returned (.bool (eY x))∧Ext w w':=by
 refine aM fun e=> ?_
 obtain⟨A0,c0,b0,h0,t0⟩:=aG.pt h;have hn0:=t0.nJ;have EV:Hid (eY x=(dG x.agents&&bW x.agents.length (lZ x.agents))):=rfl;have C1:Hid (QC Tryz.prog w _ _ _):=fun W hW=>AB x.agents _ W (t0.below hW) dI
 go_enter Tryz.func48,Tryz.ntmps48
 cases d1:dG x.agents
 case false=>
  (try rw[d1]at C1)
  have E:Hid (eY x=false):=by show _=_;rw[EV.out,d1];rfl
  go_wp2_with (first|(go_at_call 74;with_reducible refine(C1.out.at_ _).mono ?_;rintro _ _ ⟨rfl,e,rfl⟩))
  repeat (refine ak _ (by kernel_rfl) (by kernel_rfl) ?_;(repeat (go_big_quiet_step ((first|with_reducible exact C1.out.at_ _))));refine wpQuiet_nil ?_;intro e;go_wp2_with (first|(go_at_call 74;with_reducible refine(C1.out.at_ _).mono ?_;rintro _ _ ⟨rfl,e,rfl⟩)))
  go_ret;exact⟨by rw[E.out];rfl,_,rfl⟩
 (try rw[d1]at C1)
 go_wp2_with (first|(go_at_call 74;with_reducible refine(C1.out.at_ _).mono ?_;rintro _ _ ⟨rfl,e,rfl⟩))
 repeat (refine ak _ (by kernel_rfl) (by kernel_rfl) ?_;(repeat (go_big_quiet_step ((first|with_reducible exact C1.out.at_ _))));refine wpQuiet_nil ?_;intro e;go_wp2_with (first|(go_at_call 74;with_reducible refine(C1.out.at_ _).mono ?_;rintro _ _ ⟨rfl,e,rfl⟩)))
 go_loopw [3] (fun i w'=>∃k:Nat,k≤x.agents.length∧i=.int .i64 k∧Hid (bW k (lZ x.agents)=true)∧∃e:aK w,w'=e.to) (fun i _=>x.agents.length-(intOf i).toNat)
 case atStart=>exact⟨0,Nat.zero_le _,rfl,kW _,_,rfl⟩
 case round=>
  obtain⟨k,hk,rfl,hfk,e,rfl⟩:=hrel
  by_cases hltk:k<x.agents.length
  ·skip
   obtain⟨b',off,y,bs',rfl,hyk,hp⟩:=T1.elem ay.aR t0 dI hltk;obtain⟨A3,c3,b3,A4,c4,b4,g0,g1,g2,g3,g4,t3,t4⟩:=ay.pt hp;have hn4:=t4.nJ;clear g0 g1 g2 g3 t3;have EK:Hid (lZ x.agents k=bW y.aD.length fun j=>lT x.agents ⟨k,j⟩ (iB y.aD j)):=by show _=_;rw[lZ,iT hyk]
   go_wp2_with fail
   repeat (refine ak _ (by kernel_rfl) (by kernel_rfl) ?_;(repeat (go_big_quiet_step (fail)));refine wpQuiet_nil ?_;intro e;go_wp2_with fail)
   go_loopw [5] (fun i w'=>∃j:Nat,j≤y.aD.length∧i=.int .i64 j∧Hid (bW j (fun j=>lT x.agents ⟨k,j⟩ (iB y.aD j))=true)∧∃e:aK w,w'=e.to) (fun i _=>y.aD.length-(intOf i).toNat)
   case atStart=>exact⟨0,Nat.zero_le _,rfl,kW _,_,rfl⟩
   case round=>
    obtain⟨j,hj,rfl,hfj,e,rfl⟩:=hrel
    by_cases hltj:j<y.aD.length
    ·skip
     obtain⟨bq,oq,q,bs2,rfl,hqj,hq⟩:=T1.elem aC.aR t4 dI hltj;obtain⟨q0,q1⟩:=aC.pt hq;have EJ:Hid (lT x.agents ⟨k,j⟩ (iB y.aD j)=lT x.agents ⟨k,j⟩ q):=by show _=_;rw[ow hqj]
     go_upto_region 11 with(fail)
     generalize hgga:e.to.heap.size=ga;refine dQ e hgga (fun w1 e hx1 hgega hltga cga=> ?_);clear hgga
     replace h0:=h0.ext hx1
     replace g4:=g4.ext hx1
     replace q0:=q0.ext hx1
     replace q1:=q1.ext hx1
     replace t0:=t0.below hx1
     replace t4:=t4.below hx1
     obtain⟨k0,k1⟩:=aC.Jw (x:=⟨k,j⟩) (dV.box hltga cga aC.oZ);simp only[]at k0 k1;clear cga
     go_upto_region 12 with(fail)
     generalize hggb:e.to.heap.size=gb;refine dQ e hggb (fun w2 e hx2 hgegb hltgb cgb=> ?_);clear hggb
     replace h0:=h0.ext hx2
     replace g4:=g4.ext hx2
     replace k0:=k0.ext hx2
     replace k1:=k1.ext hx2
     replace t0:=t0.below hx2
     replace t4:=t4.below hx2
     have hy2:=Ext.trans hx1 hx2;obtain⟨p0,p1⟩:=aC.Jw (x:=q) (dV.box hltgb cgb aC.oZ);clear cgb q0 q1;have hg:=NS;have heq:=fun W=>Ik W q ⟨k,j⟩
     dsimp only at heq;have C2:Hid (QC Tryz.prog w2 _ _ _):=fun W hW=>Em x.agents _ q W (t0.below hW) dI
     cases d2:kX q ⟨k,j⟩
     case true=>
      (try rw[d2]at C2)
      have E:Hid (eY x=false):=by show _=_;rw[EV.out,gM hltk (by rw[EK.out];exact gM hltj (by rw[EJ.out];simp[lT,d2]))];simp
      go_wp2_with (first|(go_at_call 75;with_reducible refine(C2.out.at_ _).mono ?_;rintro _ _ ⟨rfl,e,rfl⟩))
      repeat (refine ak _ (by kernel_rfl) (by kernel_rfl) ?_;(repeat (go_big_quiet_step ((first|with_reducible exact C2.out.at_ _))));refine wpQuiet_nil ?_;intro e;go_wp2_with (first|(go_at_call 75;with_reducible refine(C2.out.at_ _).mono ?_;rintro _ _ ⟨rfl,e,rfl⟩)))
      go_ret;exact⟨by rw[E.out];rfl,aK.old hy2 e⟩
     (try rw[d2]at C2)
     cases d3:fQ x.agents q
     case false=>
      (try rw[d3]at C2)
      have E:Hid (eY x=false):=by show _=_;rw[EV.out,gM hltk (by rw[EK.out];exact gM hltj (by rw[EJ.out];simp[lT,d2,d3]))];simp
      go_wp2_with (first|(go_at_call 75;with_reducible refine(C2.out.at_ _).mono ?_;rintro _ _ ⟨rfl,e,rfl⟩))
      repeat (refine ak _ (by kernel_rfl) (by kernel_rfl) ?_;(repeat (go_big_quiet_step ((first|with_reducible exact C2.out.at_ _))));refine wpQuiet_nil ?_;intro e;go_wp2_with (first|(go_at_call 75;with_reducible refine(C2.out.at_ _).mono ?_;rintro _ _ ⟨rfl,e,rfl⟩)))
      go_ret;exact⟨by rw[E.out];rfl,aK.old hy2 e⟩
     (try rw[d3]at C2)
     obtain⟨i,s,a,r,rfl,hi,ha,hs,hr,hpeer⟩:=EF d3;have Hpeer:=Lib.hid hpeer;clear hpeer;obtain⟨bz,oz,z,bs3,hA0,hzi,hz⟩:=T1.elem ay.aR t0 dI hi;obtain⟨_,rfl⟩:True∧z=a:=⟨trivial,Option.some.inj (hzi.out.symm.trans ha.out)⟩;obtain⟨rfl,rfl⟩:b'=bz∧off=oz:=by simpa using hA0
     clear hA0;obtain⟨A3,c3,b3,A5,c5,b5,u0,u1,u2,u3,u4,t3,t5⟩:=ay.pt hz;have hn5:=t5.nJ;clear u0 u1 u2 u3 t3;obtain⟨bt,ot,r',bs4,rfl,hrs,hrr⟩:=T1.elem aC.aR t5 dI hs;obtain⟨_,rfl⟩:True∧r'=r:=⟨trivial,Option.some.inj (hrs.out.symm.trans hr.out)⟩;obtain⟨r0,r1⟩:=aC.pt hrr;have hne:=fun W=>Il W r' ⟨k,j⟩
     dsimp only at hne;cases d4:kX r' ⟨k,j⟩
     case false=>
      (try rw[d4]at C2)
      have E:Hid (eY x=false):=by show _=_;rw[EV.out,gM hltk (by rw[EK.out];exact gM hltj (by rw[EJ.out];simp[lT,Hpeer.out,d2,d3,d4]))];simp
      go_wp2_with (first|(go_at_call 75;with_reducible refine(C2.out.at_ _).mono ?_;rintro _ _ ⟨rfl,e,rfl⟩))
      repeat (refine ak _ (by kernel_rfl) (by kernel_rfl) ?_;(repeat (go_big_quiet_step ((first|with_reducible exact C2.out.at_ _))));refine wpQuiet_nil ?_;intro e;go_wp2_with (first|(go_at_call 75;with_reducible refine(C2.out.at_ _).mono ?_;rintro _ _ ⟨rfl,e,rfl⟩)))
      go_ret;exact⟨by rw[E.out];rfl,aK.old hy2 e⟩
     (try rw[d4]at C2)
     have E:Hid (lT x.agents ⟨k,j⟩ (iB y.aD j)=true):=by show _=_;rw[EJ.out];simp[lT,Hpeer.out,d2,d3,d4]
     go_wp2_with (first|(go_at_call 75;with_reducible refine(C2.out.at_ _).mono ?_;rintro _ _ ⟨rfl,e,rfl⟩))
     repeat (refine ak _ (by kernel_rfl) (by kernel_rfl) ?_;(repeat (go_big_quiet_step ((first|with_reducible exact C2.out.at_ _))));refine wpQuiet_nil ?_;intro e;go_wp2_with (first|(go_at_call 75;with_reducible refine(C2.out.at_ _).mono ?_;rintro _ _ ⟨rfl,e,rfl⟩)))
     exact⟨⟨j+1,by omega,by go_num,eG hfj E.out,⟨e.to,hy2.trans e.h⟩,rfl⟩,by simp[intOf];omega⟩
    ·have:y.aD.length=j:=by omega
     subst this;have E:Hid (lZ x.agents k=true):=by show _=_;rw[EK.out];exact hfj.out
     go_wp2_with fail
     repeat (refine ak _ (by kernel_rfl) (by kernel_rfl) ?_;(repeat (go_big_quiet_step (fail)));refine wpQuiet_nil ?_;intro e;go_wp2_with fail)
     exact⟨⟨k+1,by omega,by go_num,eG hfk E.out,_,rfl⟩,by simp[intOf];omega⟩
  ·have:x.agents.length=k:=by omega
   subst this;have E:Hid (eY x=true):=by show _=_;rw[EV.out,d1,hfk.out];rfl
   go_wp2_with fail
   repeat (refine ak _ (by kernel_rfl) (by kernel_rfl) ?_;(repeat (go_big_quiet_step (fail)));refine wpQuiet_nil ?_;intro e;go_wp2_with fail)
   go_ret;exact⟨by rw[E.out];rfl,_,rfl⟩
theorem sZ(x:aG){A:Option Addr}{c:Nat}{bs:List Nat}(w:World)(hx:T1 w (.sl x.agents.length (x.agents.flatMap ay.enc)) bs (.slice A x.agents.length c)):Calls Tryz.prog 55 #[.agg #[.slice A x.agents.length c]] w fun e w'=>e=.returned (.bool ((!eY x)))∧Ext w w':=by
 refine aM fun e=> ?_
 go_enter Tryz.func55,Tryz.ntmps55
 go_upto_region 1 with(fail)
 generalize hgg:e.to.heap.size=g;refine dQ e hgg (fun w1 e hx1 hgeg hltg cg=> ?_);clear hgg
 replace hx:=hx.below hx1
 have k0:=cg.always hltg 0 _ rfl;simp only[Nat.zero_add]at k0;clear cg;have C1:Hid (QC Tryz.prog w1 _ _ _):=fun W hW=>nV x W (aG.oZ (hx.below hW))
 go_wp2_with (first|(go_at_call 26;with_reducible refine(C1.out.at_ _).mono ?_;rintro _ _ ⟨rfl,e,rfl⟩))
 repeat (refine ak _ (by kernel_rfl) (by kernel_rfl) ?_;(repeat (go_big_quiet_step ((first|with_reducible exact C1.out.at_ _))));refine wpQuiet_nil ?_;intro e;go_wp2_with (first|(go_at_call 26;with_reducible refine(C1.out.at_ _).mono ?_;rintro _ _ ⟨rfl,e,rfl⟩)))
 go_ret;exact⟨rfl,aK.old hx1 e⟩
theorem uy(xs:List aG)(n:Nat){A:Option Addr}{c:Nat}{bs:List Nat}(w:World)(hx:T1 w (.sl n (xs.flatMap aG.enc)) bs (.slice A n c))(Hl:Hid (xs.length=n)):Calls Tryz.prog 78 #[.slice A n c,.func (.func 55) #[] #[]] w fun e w'=>e=.returned (.int .i64 (idxOf n (fun k=> !eY (jk xs k))))∧Ext w w':=by
 refine aM fun e=> ?_
 have hn:=hx.nJ
 go_enter Tryz.func78,Tryz.ntmps78
 go_wp2_with fail
 repeat (refine ak _ (by kernel_rfl) (by kernel_rfl) ?_;(repeat (go_big_quiet_step (fail)));refine wpQuiet_nil ?_;intro e;go_wp2_with fail)
 go_loopw [5,8] (fun _ i w'=>∃k:Nat,k≤n∧i=.int .i64 k∧Hid (bW k (fun k=> !!eY (jk xs k))=true)∧∃e:aK w,w'=e.to) (fun _ i _=>n-(intOf i).toNat)
 case atStart=>exact⟨0,Nat.zero_le _,rfl,kW _,_,rfl⟩
 case round=>
  obtain⟨k,hk,rfl,hf,e,rfl⟩:=hrel
  by_cases hlt:k<n
  ·skip
   obtain⟨b,off,x,bs',rfl,hxk,hp⟩:=T1.elem aG.aR hx Hl hlt;obtain⟨A0,c0,b0,kx0,tx0⟩:=aG.pt hp;rw[Nat.mul_one]at kx0;have EP:Hid ((!eY (jk xs k))= !eY x):=by show _=_;rw[Er hxk]
   have C1:Hid (QC Tryz.prog w _ _ _):=fun W hW=>sZ x W (tx0.below hW)
   cases d1:(!eY x)
   case true=>
    (try rw[d1]at C1)
    have E:Hid (idxOf n (fun k=> !eY (jk xs k))=(k:Int)):=by show _=_;exact vJ hf hlt (by rw[EP.out];exact d1)
    go_wp2_with (first|(go_at_call 55;with_reducible refine(C1.out.at_ _).mono ?_;rintro _ _ ⟨rfl,e,rfl⟩))
    repeat (refine ak _ (by kernel_rfl) (by kernel_rfl) ?_;(repeat (go_big_quiet_step ((first|with_reducible exact C1.out.at_ _))));refine wpQuiet_nil ?_;intro e;go_wp2_with (first|(go_at_call 55;with_reducible refine(C1.out.at_ _).mono ?_;rintro _ _ ⟨rfl,e,rfl⟩)))
    go_ret;exact⟨by rw[E.out];rfl,_,rfl⟩
   (try rw[d1]at C1)
   have E:Hid ((!!eY (jk xs k))=true):=by show _=_;rw[EP.out,d1];rfl
   go_wp2_with (first|(go_at_call 55;with_reducible refine(C1.out.at_ _).mono ?_;rintro _ _ ⟨rfl,e,rfl⟩))
   repeat (refine ak _ (by kernel_rfl) (by kernel_rfl) ?_;(repeat (go_big_quiet_step ((first|with_reducible exact C1.out.at_ _))));refine wpQuiet_nil ?_;intro e;go_wp2_with (first|(go_at_call 55;with_reducible refine(C1.out.at_ _).mono ?_;rintro _ _ ⟨rfl,e,rfl⟩)))
   exact⟨⟨k+1,by omega,by go_num,eG hf E.out,_,rfl⟩,by simp[intOf];omega⟩
  ·have:n=k:=by omega
   subst this;have E:Hid (idxOf n (fun k=> !eY (jk xs k))= -1):=by show _=_;exact mH hf
   go_wp2_with fail
   repeat (refine ak _ (by kernel_rfl) (by kernel_rfl) ?_;(repeat (go_big_quiet_step (fail)));refine wpQuiet_nil ?_;intro e;go_wp2_with fail)
   go_ret;exact⟨by rw[E.out];rfl,_,rfl⟩
theorem qb(xs:List aG)(n:Nat){A:Option Addr}{c:Nat}{bs:List Nat}(w:World)(hx:T1 w (.sl n (xs.flatMap aG.enc)) bs (.slice A n c))(Hl:Hid (xs.length=n)):Calls Tryz.prog 54 #[.slice A n c,.func (.func 55) #[] #[]] w fun e w'=>e=.returned (.bool (lJ n (fun k=> !eY (jk xs k))))∧Ext w w':=by
 refine aM fun e=> ?_
 have C1:Hid (QC Tryz.prog w _ _ _):=fun W hW=>uy xs n W (hx.below hW) Hl
 have hc:=vK n (fun k=> !eY (jk xs k))
 go_enter Tryz.func54,Tryz.ntmps54
 go_wp2_with (first|(go_at_call 78;with_reducible refine(C1.out.at_ _).mono ?_;rintro _ _ ⟨rfl,e,rfl⟩))
 repeat (refine ak _ (by kernel_rfl) (by kernel_rfl) ?_;(repeat (go_big_quiet_step ((first|with_reducible exact C1.out.at_ _))));refine wpQuiet_nil ?_;intro e;go_wp2_with (first|(go_at_call 78;with_reducible refine(C1.out.at_ _).mono ?_;rintro _ _ ⟨rfl,e,rfl⟩)))
 go_ret;exact⟨by rw[←hc];rfl,_,rfl⟩
theorem uO(xs:List aG)(n:Nat){A:Option Addr}{c:Nat}{bs:List Nat}(w:World)(hx:T1 w (.sl n (xs.flatMap aG.enc)) bs (.slice A n c))(Hl:Hid (xs.length=n)):Calls Tryz.prog 25 #[.slice A n c] w fun e w'=>e=.returned (.bool (ig xs))∧Ext w w':=by
 refine aM fun e=> ?_
 have hn:=hx.nJ;have EV:Hid (ig xs=(decide ((n:Int)≤24)&&bW n fun k=>eY (jk xs k))):=by show _=_;rw[←Hl.out];rfl
 have hc:(!lJ n (fun k=> !eY (jk xs k)))=bW n (fun k=>eY (jk xs k)):=by simp[lJ]
 have HC:=Lib.hid hc;clear hc;have C1:Hid (QC Tryz.prog w _ _ _):=fun W hW=>qb xs n W (hx.below hW) Hl
 go_enter Tryz.func25,Tryz.ntmps25
 cases d1:decide ((n:Int)≤24)
 case false=>
  (try rw[d1]at C1)
  have E:Hid (ig xs=false):=by show _=_;rw[EV.out,d1];rfl
  go_wp2_with (first|(go_at_call 54;with_reducible refine(C1.out.at_ _).mono ?_;rintro _ _ ⟨rfl,e,rfl⟩))
  repeat (refine ak _ (by kernel_rfl) (by kernel_rfl) ?_;(repeat (go_big_quiet_step ((first|with_reducible exact C1.out.at_ _))));refine wpQuiet_nil ?_;intro e;go_wp2_with (first|(go_at_call 54;with_reducible refine(C1.out.at_ _).mono ?_;rintro _ _ ⟨rfl,e,rfl⟩)))
  go_ret;exact⟨by rw[E.out];rfl,_,rfl⟩
 (try rw[d1]at C1)
 have E:Hid (ig xs= !lJ n (fun k=> !eY (jk xs k))):=by show _=_;rw[EV.out,d1,HC.out];rfl
 go_wp2_with (first|(go_at_call 54;with_reducible refine(C1.out.at_ _).mono ?_;rintro _ _ ⟨rfl,e,rfl⟩))
 repeat (refine ak _ (by kernel_rfl) (by kernel_rfl) ?_;(repeat (go_big_quiet_step ((first|with_reducible exact C1.out.at_ _))));refine wpQuiet_nil ?_;intro e;go_wp2_with (first|(go_at_call 54;with_reducible refine(C1.out.at_ _).mono ?_;rintro _ _ ⟨rfl,e,rfl⟩)))
 go_ret;exact⟨by rw[E.out];rfl,_,rfl⟩
theorem uN(s:Int)(w:World):Calls Tryz.prog 63 #[.int .i64 s] w fun e w'=>e=.returned (.bool ((!cB s 0 600)))∧Ext w w':=by
 refine aM fun e=> ?_
 go_enter Tryz.func63,Tryz.ntmps63
 cases d1:decide (s<0)
 case true=>
  have E:Hid ((!cB s 0 600)=true):=by show _=_;simp at d1;rw[wO (Or.inl d1)];rfl
  go_wp2_with fail
  repeat (refine ak _ (by kernel_rfl) (by kernel_rfl) ?_;(repeat (go_big_quiet_step (fail)));refine wpQuiet_nil ?_;intro e;go_wp2_with fail)
  go_ret;exact⟨by rw[E.out];rfl,_,rfl⟩
 have E:Hid ((!cB s 0 600)=decide (600<s)):=by show _=_;simp at d1;unfold cB;rw[show decide ((0:Int)≤s)=true by simpa using d1,Bool.true_and];rw[Bool.eq_iff_iff];simp
 go_wp2_with fail
 repeat (refine ak _ (by kernel_rfl) (by kernel_rfl) ?_;(repeat (go_big_quiet_step (fail)));refine wpQuiet_nil ?_;intro e;go_wp2_with fail)
 go_ret;exact⟨by rw[E.out];rfl,_,rfl⟩
theorem zu(xs:List Int)(n:Nat){A:Option Addr}{c:Nat}{bs:List Nat}(w:World)(hx:T1 w (.sl n (xs.flatMap aT)) bs (.slice A n c))(Hl:Hid (xs.length=n)):Calls Tryz.prog 81 #[.slice A n c,.func (.func 63) #[] #[]] w fun e w'=>e=.returned (.int .i64 (idxOf n (fun k=> !cB (bY xs k) 0 600)))∧Ext w w':=by
 refine aM fun e=> ?_
 have hn:=hx.nJ
 go_enter Tryz.func81,Tryz.ntmps81
 go_wp2_with fail
 repeat (refine ak _ (by kernel_rfl) (by kernel_rfl) ?_;(repeat (go_big_quiet_step (fail)));refine wpQuiet_nil ?_;intro e;go_wp2_with fail)
 go_loopw [5,8] (fun _ i w'=>∃k:Nat,k≤n∧i=.int .i64 k∧Hid (bW k (fun k=> !!cB (bY xs k) 0 600)=true)∧∃e:aK w,w'=e.to) (fun _ i _=>n-(intOf i).toNat)
 case atStart=>exact⟨0,Nat.zero_le _,rfl,kW _,_,rfl⟩
 case round=>
  obtain⟨k,hk,rfl,hf,e,rfl⟩:=hrel
  by_cases hlt:k<n
  ·skip
   obtain⟨b,off,x,bs',rfl,hxk,hp⟩:=T1.elem (s:=1) (fun _=>rfl) hx Hl hlt;have kx:=CB hp;rw[Nat.mul_one]at kx;have EP:Hid ((!cB (bY xs k) 0 600)= !cB x 0 600):=by show _=_;rw[zw hxk]
   have C1:Hid (QC Tryz.prog w _ _ _):=fun W hW=>uN x W
   cases d1:(!cB x 0 600)
   case true=>
    (try rw[d1]at C1)
    have E:Hid (idxOf n (fun k=> !cB (bY xs k) 0 600)=(k:Int)):=by show _=_;exact vJ hf hlt (by rw[EP.out];exact d1)
    go_wp2_with (first|(go_at_call 63;with_reducible refine(C1.out.at_ _).mono ?_;rintro _ _ ⟨rfl,e,rfl⟩))
    repeat (refine ak _ (by kernel_rfl) (by kernel_rfl) ?_;(repeat (go_big_quiet_step ((first|with_reducible exact C1.out.at_ _))));refine wpQuiet_nil ?_;intro e;go_wp2_with (first|(go_at_call 63;with_reducible refine(C1.out.at_ _).mono ?_;rintro _ _ ⟨rfl,e,rfl⟩)))
    go_ret;exact⟨by rw[E.out];rfl,_,rfl⟩
   (try rw[d1]at C1)
   have E:Hid ((!!cB (bY xs k) 0 600)=true):=by show _=_;rw[EP.out,d1];rfl
   go_wp2_with (first|(go_at_call 63;with_reducible refine(C1.out.at_ _).mono ?_;rintro _ _ ⟨rfl,e,rfl⟩))
   repeat (refine ak _ (by kernel_rfl) (by kernel_rfl) ?_;(repeat (go_big_quiet_step ((first|with_reducible exact C1.out.at_ _))));refine wpQuiet_nil ?_;intro e;go_wp2_with (first|(go_at_call 63;with_reducible refine(C1.out.at_ _).mono ?_;rintro _ _ ⟨rfl,e,rfl⟩)))
   exact⟨⟨k+1,by omega,by go_num,eG hf E.out,_,rfl⟩,by simp[intOf];omega⟩
  ·have:n=k:=by omega
   subst this;have E:Hid (idxOf n (fun k=> !cB (bY xs k) 0 600)= -1):=by show _=_;exact mH hf
   go_wp2_with fail
   repeat (refine ak _ (by kernel_rfl) (by kernel_rfl) ?_;(repeat (go_big_quiet_step (fail)));refine wpQuiet_nil ?_;intro e;go_wp2_with fail)
   go_ret;exact⟨by rw[E.out];rfl,_,rfl⟩
theorem vo(xs:List Int)(n:Nat){A:Option Addr}{c:Nat}{bs:List Nat}(w:World)(hx:T1 w (.sl n (xs.flatMap aT)) bs (.slice A n c))(Hl:Hid (xs.length=n)):Calls Tryz.prog 62 #[.slice A n c,.func (.func 63) #[] #[]] w fun e w'=>e=.returned (.bool (lJ n (fun k=> !cB (bY xs k) 0 600)))∧Ext w w':=by
 refine aM fun e=> ?_
 have C1:Hid (QC Tryz.prog w _ _ _):=fun W hW=>zu xs n W (hx.below hW) Hl
 have hc:=vK n (fun k=> !cB (bY xs k) 0 600)
 go_enter Tryz.func62,Tryz.ntmps62
 go_wp2_with (first|(go_at_call 81;with_reducible refine(C1.out.at_ _).mono ?_;rintro _ _ ⟨rfl,e,rfl⟩))
 repeat (refine ak _ (by kernel_rfl) (by kernel_rfl) ?_;(repeat (go_big_quiet_step ((first|with_reducible exact C1.out.at_ _))));refine wpQuiet_nil ?_;intro e;go_wp2_with (first|(go_at_call 81;with_reducible refine(C1.out.at_ _).mono ?_;rintro _ _ ⟨rfl,e,rfl⟩)))
 go_ret;exact⟨by rw[←hc];rfl,_,rfl⟩
theorem wo(xs:List Int)(n:Nat){A:Option Addr}{c:Nat}{bs:List Nat}(w:World)(hx:T1 w (.sl n (xs.flatMap aT)) bs (.slice A n c))(Hl:Hid (xs.length=n)):Calls Tryz.prog 27 #[.slice A n c] w fun e w'=>e=.returned (.bool (bn xs))∧Ext w w':=by
 refine aM fun e=> ?_
 have hn:=hx.nJ;have EV:Hid (bn xs=(decide ((n:Int)≤200)&&bW n fun k=>cB (bY xs k) 0 600)):=by show _=_;rw[←Hl.out];rfl
 have hc:(!lJ n (fun k=> !cB (bY xs k) 0 600))=bW n (fun k=>cB (bY xs k) 0 600):=by simp[lJ]
 have HC:=Lib.hid hc;clear hc;have C1:Hid (QC Tryz.prog w _ _ _):=fun W hW=>vo xs n W (hx.below hW) Hl
 go_enter Tryz.func27,Tryz.ntmps27
 cases d1:decide ((n:Int)≤200)
 case false=>
  (try rw[d1]at C1)
  have E:Hid (bn xs=false):=by show _=_;rw[EV.out,d1];rfl
  go_wp2_with (first|(go_at_call 62;with_reducible refine(C1.out.at_ _).mono ?_;rintro _ _ ⟨rfl,e,rfl⟩))
  repeat (refine ak _ (by kernel_rfl) (by kernel_rfl) ?_;(repeat (go_big_quiet_step ((first|with_reducible exact C1.out.at_ _))));refine wpQuiet_nil ?_;intro e;go_wp2_with (first|(go_at_call 62;with_reducible refine(C1.out.at_ _).mono ?_;rintro _ _ ⟨rfl,e,rfl⟩)))
  go_ret;exact⟨by rw[E.out];rfl,_,rfl⟩
 (try rw[d1]at C1)
 have E:Hid (bn xs= !lJ n (fun k=> !cB (bY xs k) 0 600)):=by show _=_;rw[EV.out,d1,HC.out];rfl
 go_wp2_with (first|(go_at_call 62;with_reducible refine(C1.out.at_ _).mono ?_;rintro _ _ ⟨rfl,e,rfl⟩))
 repeat (refine ak _ (by kernel_rfl) (by kernel_rfl) ?_;(repeat (go_big_quiet_step ((first|with_reducible exact C1.out.at_ _))));refine wpQuiet_nil ?_;intro e;go_wp2_with (first|(go_at_call 62;with_reducible refine(C1.out.at_ _).mono ?_;rintro _ _ ⟨rfl,e,rfl⟩)))
 go_ret;exact⟨by rw[E.out];rfl,_,rfl⟩
theorem En(xs:List aG)(n:Nat){A:Option Addr}{c:Nat}{bs:List Nat}(w:World)(hx:T1 w (.sl n (xs.flatMap aG.enc)) bs (.slice A n c))(Hl:Hid (xs.length=n)):Calls Tryz.prog 47 #[.slice A n c] w fun e w'=>e=.returned (.bool (ig xs))∧Ext w w':=by
 refine aM fun e=> ?_
 have hn:=hx.nJ;have EV:Hid (ig xs=(decide ((n:Int)≤24)&&bW n fun k=>eY (jk xs k))):=by show _=_;rw[←Hl.out];rfl
 go_enter Tryz.func47,Tryz.ntmps47
 cases d1:decide ((24:Int)<n)
 case true=>
  have E:Hid (ig xs=false):=by show _=_;rw[EV.out,show decide ((n:Int)≤24)=false by simp at d1;simp;omega];rfl
  go_wp2_with fail
  repeat (refine ak _ (by kernel_rfl) (by kernel_rfl) ?_;(repeat (go_big_quiet_step (fail)));refine wpQuiet_nil ?_;intro e;go_wp2_with fail)
  go_ret;exact⟨by rw[E.out];rfl,_,rfl⟩
 have EN:Hid (decide ((n:Int)≤24)=true):=by show _=_;simp at d1;simp;omega
 go_wp2_with fail
 repeat (refine ak _ (by kernel_rfl) (by kernel_rfl) ?_;(repeat (go_big_quiet_step (fail)));refine wpQuiet_nil ?_;intro e;go_wp2_with fail)
 go_loopw [3] (fun i w'=>∃k:Nat,k≤n∧i=.int .i64 k∧Hid (bW k (fun k=>eY (jk xs k))=true)∧∃e:aK w,w'=e.to) (fun i _=>n-(intOf i).toNat)
 case atStart=>exact⟨0,Nat.zero_le _,rfl,kW _,_,rfl⟩
 case round=>
  obtain⟨k,hk,rfl,hfk,e,rfl⟩:=hrel
  by_cases hltk:k<n
  ·skip
   obtain⟨b,off,x,bs',rfl,hxk,hp⟩:=T1.elem aG.aR hx Hl hltk;have EK:Hid (eY (jk xs k)=eY x):=by show _=_;rw[Er hxk]
   have C1:Hid (QC Tryz.prog w _ _ _):=fun W hW=>Bo x b (off+k*1) _ W (hp.ext hW)
   rw[Nat.mul_one]at C1;cases d2:eY x
   case false=>
    (try rw[d2]at C1)
    have E:Hid (ig xs=false):=by show _=_;rw[EV.out,gM hltk (by rw[EK.out];exact d2)];simp
    go_wp2_with (first|(go_at_call 48;with_reducible refine(C1.out.at_ _).mono ?_;rintro _ _ ⟨rfl,e,rfl⟩))
    repeat (refine ak _ (by kernel_rfl) (by kernel_rfl) ?_;(repeat (go_big_quiet_step ((first|with_reducible exact C1.out.at_ _))));refine wpQuiet_nil ?_;intro e;go_wp2_with (first|(go_at_call 48;with_reducible refine(C1.out.at_ _).mono ?_;rintro _ _ ⟨rfl,e,rfl⟩)))
    go_ret;exact⟨by rw[E.out];rfl,_,rfl⟩
   (try rw[d2]at C1)
   have E:Hid (eY (jk xs k)=true):=by show _=_;rw[EK.out];exact d2
   go_wp2_with (first|(go_at_call 48;with_reducible refine(C1.out.at_ _).mono ?_;rintro _ _ ⟨rfl,e,rfl⟩))
   repeat (refine ak _ (by kernel_rfl) (by kernel_rfl) ?_;(repeat (go_big_quiet_step ((first|with_reducible exact C1.out.at_ _))));refine wpQuiet_nil ?_;intro e;go_wp2_with (first|(go_at_call 48;with_reducible refine(C1.out.at_ _).mono ?_;rintro _ _ ⟨rfl,e,rfl⟩)))
   exact⟨⟨k+1,by omega,by go_num,eG hfk E.out,_,rfl⟩,by simp[intOf];omega⟩
  ·have:n=k:=by omega
   subst this;have E:Hid (ig xs=true):=by show _=_;rw[EV.out,EN.out,hfk.out];rfl
   go_wp2_with fail
   repeat (refine ak _ (by kernel_rfl) (by kernel_rfl) ?_;(repeat (go_big_quiet_step (fail)));refine wpQuiet_nil ?_;intro e;go_wp2_with fail)
   go_ret;exact⟨by rw[E.out];rfl,_,rfl⟩
theorem yt(xs:List Int)(n:Nat){A:Option Addr}{c:Nat}{bs:List Nat}(w:World)(hx:T1 w (.sl n (xs.flatMap aT)) bs (.slice A n c))(Hl:Hid (xs.length=n)):Calls Tryz.prog 49 #[.slice A n c] w fun e w'=>e=.returned (.bool (bn xs))∧Ext w w':=by
 refine aM fun e=> ?_
 have hn:=hx.nJ;have EV:Hid (bn xs=(decide ((n:Int)≤200)&&bW n fun k=>cB (bY xs k) 0 600)):=by show _=_;rw[←Hl.out];rfl
 go_enter Tryz.func49,Tryz.ntmps49
 cases d1:decide ((200:Int)<n)
 case true=>
  have E:Hid (bn xs=false):=by show _=_;rw[EV.out,show decide ((n:Int)≤200)=false by simp at d1;simp;omega];rfl
  go_wp2_with fail
  repeat (refine ak _ (by kernel_rfl) (by kernel_rfl) ?_;(repeat (go_big_quiet_step (fail)));refine wpQuiet_nil ?_;intro e;go_wp2_with fail)
  go_ret;exact⟨by rw[E.out];rfl,_,rfl⟩
 have EN:Hid (decide ((n:Int)≤200)=true):=by show _=_;simp at d1;simp;omega
 go_wp2_with fail
 repeat (refine ak _ (by kernel_rfl) (by kernel_rfl) ?_;(repeat (go_big_quiet_step (fail)));refine wpQuiet_nil ?_;intro e;go_wp2_with fail)
 go_loopw [3] (fun i w'=>∃k:Nat,k≤n∧i=.int .i64 k∧Hid (bW k (fun k=>cB (bY xs k) 0 600)=true)∧∃e:aK w,w'=e.to) (fun i _=>n-(intOf i).toNat)
 case atStart=>exact⟨0,Nat.zero_le _,rfl,kW _,_,rfl⟩
 case round=>
  obtain⟨k,hk,rfl,hfk,e,rfl⟩:=hrel
  by_cases hltk:k<n
  ·skip
   obtain⟨b,off,x,bs',rfl,hxk,hp⟩:=T1.elem (s:=1) (fun _=>rfl) hx Hl hltk;have kx:=CB hp;rw[Nat.mul_one]at kx;have EK:Hid (cB (bY xs k) 0 600=cB x 0 600):=by show _=_;rw[zw hxk]
   have C1:Hid (QC Tryz.prog w _ _ _):=fun W hW=>(kM x 0 600 W).q
   cases d2:cB x 0 600
   case false=>
    (try rw[d2]at C1)
    have E:Hid (bn xs=false):=by show _=_;rw[EV.out,gM hltk (by rw[EK.out];exact d2)];simp
    go_wp2_with (first|(go_at_call 22;with_reducible refine(C1.out.at_ _).mono ?_;rintro _ _ ⟨rfl,e,rfl⟩))
    repeat (refine ak _ (by kernel_rfl) (by kernel_rfl) ?_;(repeat (go_big_quiet_step ((first|with_reducible exact C1.out.at_ _))));refine wpQuiet_nil ?_;intro e;go_wp2_with (first|(go_at_call 22;with_reducible refine(C1.out.at_ _).mono ?_;rintro _ _ ⟨rfl,e,rfl⟩)))
    go_ret;exact⟨by rw[E.out];rfl,_,rfl⟩
   (try rw[d2]at C1)
   have E:Hid (cB (bY xs k) 0 600=true):=by show _=_;rw[EK.out];exact d2
   go_wp2_with (first|(go_at_call 22;with_reducible refine(C1.out.at_ _).mono ?_;rintro _ _ ⟨rfl,e,rfl⟩))
   repeat (refine ak _ (by kernel_rfl) (by kernel_rfl) ?_;(repeat (go_big_quiet_step ((first|with_reducible exact C1.out.at_ _))));refine wpQuiet_nil ?_;intro e;go_wp2_with (first|(go_at_call 22;with_reducible refine(C1.out.at_ _).mono ?_;rintro _ _ ⟨rfl,e,rfl⟩)))
   exact⟨⟨k+1,by omega,by go_num,eG hfk E.out,_,rfl⟩,by simp[intOf];omega⟩
  ·have:n=k:=by omega
   subst this;have E:Hid (bn xs=true):=by show _=_;rw[EV.out,EN.out,hfk.out];rfl
   go_wp2_with fail
   repeat (refine ak _ (by kernel_rfl) (by kernel_rfl) ?_;(repeat (go_big_quiet_step (fail)));refine wpQuiet_nil ?_;intro e;go_wp2_with fail)
   go_ret;exact⟨by rw[E.out];rfl,_,rfl⟩
theorem Qn(xs:List ah):bE Tryz.prog 26 [.agg [.rsl bf xs]] (.bool (eY (gN xs))):=
 bE.OW (u:=fG) (x:=xs) (by kernel_rfl) (fun w bs us h=>nV (gN xs) w (by rw[Cq];exact h)) (fun _ _=>vw _) (fun _ _ _ _ _ hI hd=>Px hI hd)
theorem N7(bk:List (List ah)):bE Tryz.prog 25 [.rsl fG bk] (.bool (ig (bk.map gN))):=
 bE.Ig (by kernel_rfl) (fun w A c bs h=>uO (bk.map gN) bk.length w (by rw[Ky];exact h) (qV _)) (fun _ _=>vw _)
theorem Li(l:List Int):bE Tryz.prog 27 [.rsl (.int .i64) l] (.bool (bn l)):=
 bE.Ig (by kernel_rfl) (fun w A c bs h=>wo l l.length w (by rw[←qz];exact h) rfl) (fun _ _=>vw _)
theorem RN(xs:List ah):bE Tryz.prog 48 [.rp fG xs] (.bool (eY (gN xs))):=
 bE.OY (by kernel_rfl) (fun w b o bs h=>Bo (gN xs) b o bs w (by rw[Cq];exact h)) fun _ _=>vw _
theorem Qg(bk:List (List ah)):bE Tryz.prog 47 [.rsl fG bk] (.bool (ig (bk.map gN))):=
 bE.Ig (by kernel_rfl) (fun w A c bs h=>En (bk.map gN) bk.length w (by rw[Ky];exact h) (qV _)) (fun _ _=>vw _)
theorem Pv(l:List Int):bE Tryz.prog 49 [.rsl (.int .i64) l] (.bool (bn l)):=
 bE.Ig (by kernel_rfl) (fun w A c bs h=>yt l l.length w (by rw[←qz];exact h) rfl) (fun _ _=>vw _)
end Go.Proofs.YtjpaeopdljfjpaaGreat
