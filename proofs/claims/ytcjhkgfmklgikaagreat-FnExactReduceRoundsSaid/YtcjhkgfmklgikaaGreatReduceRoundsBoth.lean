
/- ReduceRounds: both sides; the contracts for the law. Printed by gen_yz.py. -/
import Derived.Test.YtcjhkgfmklgikaaGreatShort
import Derived.Test.YtcjhkgfmklgikaaGreatYw
import Derived.Test.YtcjhkgfmklgikaaGreatYr
set_option linter.unusedSimpArgs false
set_option linter.unusedVariables false
namespace Go.Proofs.YtcjhkgfmklgikaaGreat
open Go Go.RowKit Go.Proofs Go.Tr
def Zaq(f:Nat)(args:List SV)(P:List aj)(l:List Int)(k c:Int):Prop:=
 ((P=[]∧l=[])∧aA Tryz.prog f args [] (.tup [.agg [.raw (.slice none 0 0)],.raw (.slice none 0 0),.int .i64 k,.int .i64 c]) [])∨aA Tryz.prog f args [] (.tup [.agg [.sl 10000],.sl 10001,.int .i64 k,.int .i64 c]) [.row 10000 111 5 aG P [],.row 10001 2 1 (.int .i64) l []]
theorem ZaP{f:Nat}{args:List SV}{P:List aj}{l:List Int}{k c:Int}{vs:List Value}{w:World}(h:Zaq f args P l k c)(hd:∀β,aM ⟨w,[]⟩ β args vs):
  Calls Tryz.prog f vs.toArray w fun e w'=>∃(v0:List Value) (q0:List Nat) (B1:Option Addr) (d1:Nat) (q1:List Nat),e=.returned (.tuple #[.agg v0.toArray,.slice B1 l.length d1,.int .i64 k,.int .i64 c])∧Ext w w'∧TN w' (gN P).enc q0 v0∧T1 w' (.sl l.length (l.flatMap bN)) q1 (.slice B1 l.length d1)∧Own w.heap.size w' (q0++q1):=by
 rcases h with⟨⟨rfl,rfl⟩,h⟩|h
 ·refine(h.2 ⟨w,[]⟩ (fun _=>undef) w [] vs (Inv.wN w) (hd _)).mono ?_;rintro e w' ⟨v',β',rfl,_,h1,h2⟩;unfold Den at h1;obtain⟨us,rfl,h1⟩:=h1;unfold aM at h1;obtain⟨y1,us1,rfl,k1,h1⟩:=h1;unfold aM at h1;obtain⟨y2,us2,rfl,k2,h1⟩:=h1;unfold aM at h1;obtain⟨y3,us3,rfl,k3,h1⟩:=h1;unfold aM at h1;obtain⟨y4,us4,rfl,k4,h1⟩:=h1;unfold aM at h1;subst h1;unfold Den at k1 k2 k3 k4;subst k3 k4;obtain⟨rfl,_⟩:=k2;obtain⟨vs1,rfl,k1⟩:=k1;unfold aM at k1;obtain⟨y5,us5,rfl,k5,k1⟩:=k1;unfold aM at k1;subst k1;unfold Den at k5
  obtain⟨rfl,_⟩:=k5;exact⟨[.slice none 0 0],[],none,0,[],rfl,h2.yB,TN.sH (T1.empty none) TN.done,T1.empty none,Own.nil _ _⟩
 ·refine(h.2 ⟨w,[]⟩ (fun _=>undef) w [] vs (Inv.wN w) (hd _)).mono ?_;rintro e w' ⟨v',β',rfl,_,h1,h2⟩;have hI':Inv (Cx.mk w []).w0 [] w' [Tok.res ⟨w,[]⟩ β' (.row 10000 111 5 aG P []),Tok.res ⟨w,[]⟩ β' (.row 10001 2 1 (.int .i64) l [])]:=by simpa using h2
  obtain⟨A,c',q,A2,c2,q2,⟨r1,r2⟩,⟨s1,s2⟩,r3⟩:=hI'.ZbS;unfold Den at h1;obtain⟨us,rfl,h1⟩:=h1;unfold aM at h1;obtain⟨y1,us1,rfl,k1,h1⟩:=h1;unfold aM at h1;obtain⟨y2,us2,rfl,k2,h1⟩:=h1;unfold aM at h1;obtain⟨y3,us3,rfl,k3,h1⟩:=h1;unfold aM at h1;obtain⟨y4,us4,rfl,k4,h1⟩:=h1;unfold aM at h1;subst h1;unfold Den at k1 k2 k3 k4;subst k3 k4;obtain⟨rfl,_⟩:=k2;obtain⟨vs1,rfl,k1⟩:=k1;unfold aM at k1;obtain⟨y5,us5,rfl,k5,k1⟩:=k1;unfold aM at k1;subst k1;unfold Den at k5;obtain⟨rfl,_⟩:=k5;rw[s1];refine⟨[β' 10000],q,A2,c2,q2,rfl,h2.yB,?_,?_,r3⟩
  ·rw[GD,r1];have:=TN.sH r2 (TN.done (w:=w'));rw[qS]at this;exact this
  ·rw[yY]at s2;exact s2
theorem ZbR{bk:List (List aj)}{xs:List aj}(nn:LK xs):QOk bk (q0 xs):=by
 have hl:=nn.l2;exact⟨nn.twin,nn.twin.Z5,by show xs.length≤400000;omega,by show xs.length≤([]:List (Int×Bool)).length+600;rw[qR];omega,rfl,(fun z hz=>by cases hz),by show([]:List Int).length≤5000;decide⟩
theorem ZaS{bk:List (List aj)}{s:QSt}(g:QOk bk s):YG (mI s.Y)∧s.cn.length≤7:=by
 have F:=g.rnd;have hl:=g.live;refine⟨⟨by omega,fun a ha=> ?_⟩,?_⟩
 ·obtain⟨i,hi,rfl⟩:=List.mem_iff_getElem.1 ha;have w:=F.wx ((i:Nat):Int) (by omega) (by show((i:Nat):Int)<((mI s.Y).length:Nat);omega) id;have e:ah (mI s.Y) ((i:Nat):Int)=(mI s.Y)[i]:=vR hi;have w':Wf (mI s.Y)[i]:=e▸w;exact⟨wf_data w',(iN w').2⟩
 ·rw[g.cn];exact Nat.le_of_eq (Zae (tr:=s.tr) (by have:=g.tr;omega)).1
theorem Zaa(bk:List (List aj))(xs:List aj)(st:Int):∃(P:List aj) (l:List Int) (k c:Int),(YG P∧l.length≤7)∧Zaq 10 [.rsl bO bk,.agg [.rsl aG xs],.int .i64 st] P l k c∧Zaq 7 [.rsl bO bk,.agg [.rsl aG xs],.int .i64 st] P l k c:=by
 by_cases h:nT (lF bk xs) (dM []&&dS st 0 4000)=0
 ·obtain⟨hv,_,hi⟩:=Zar bk xs [] st h;have hs:=ZaU h;unfold lF at hv;rw[qD]at hv;obtain⟨c,t,m,R⟩:=Zbi (Pt hv.1).1 (jS hi).2 4001 (s:=q0 xs) 0 (ZbR (MS hv.2)) (Nat.zero_le _) (Nat.le_add_left _ _)
  by_cases hc:c=0
  ·have g:=R.end_ hc;have hS:=ZbN bk xs st hs h R hc;rw[←g.cn]at hS;exact⟨_,_,_,0,ZaS g,.inr (ZbM bk xs st hs h R hc),.inr hS⟩
  ·exact⟨[],[],0,c,⟨⟨by decide,fun a ha=>by cases ha⟩,by simp⟩,.inl ⟨⟨rfl,rfl⟩,Zbw bk xs st hs h R hc⟩,.inl ⟨⟨rfl,rfl⟩,Zbx bk xs st hs h R hc⟩⟩
 ·exact⟨[],[],0,_,⟨⟨by decide,fun a ha=>by cases ha⟩,by simp⟩,.inl ⟨⟨rfl,rfl⟩,Zbu bk xs st h rfl⟩,.inl ⟨⟨rfl,rfl⟩,Zbv bk xs st h rfl⟩⟩
noncomputable def Z8(x0:List aO)(x1:aO)(x2:Int):aO×List Int×Int×Int:=
 (gN (Classical.choose (Zaa (x0.map rW) (rW x1) x2)),Classical.choose (Classical.choose_spec (Zaa (x0.map rW) (rW x1) x2)),Classical.choose (Classical.choose_spec (Classical.choose_spec (Zaa (x0.map rW) (rW x1) x2))),Classical.choose (Classical.choose_spec (Classical.choose_spec (Classical.choose_spec (Zaa (x0.map rW) (rW x1) x2)))))
theorem Z9(x0:List aO)(x1:aO)(x2:Int)(r0:aO)(r1:List Int)(r2 r3:Int)(h:(r0,r1,r2,r3)=Z8 x0 x1 x2):
  ∃P,r0=gN P∧(YG P∧r1.length≤7)∧Zaq 10 [.rsl bO (x0.map rW),.agg [.rsl aG (rW x1)],.int .i64 x2] P r1 r2 r3∧Zaq 7 [.rsl bO (x0.map rW),.agg [.rsl aG (rW x1)],.int .i64 x2] P r1 r2 r3:=by
 have k:=Classical.choose_spec (Classical.choose_spec (Classical.choose_spec (Classical.choose_spec (Zaa (x0.map rW) (rW x1) x2))));have h1:r0=gN (Classical.choose (Zaa (x0.map rW) (rW x1) x2)):=congrArg Prod.fst h;have h2:r1=Classical.choose (Classical.choose_spec (Zaa (x0.map rW) (rW x1) x2)):=congrArg (fun p=>p.2.1) h;have h3:r2=Classical.choose (Classical.choose_spec (Classical.choose_spec (Zaa (x0.map rW) (rW x1) x2))):=congrArg (fun p=>p.2.2.1) h;have h4:r3=Classical.choose (Classical.choose_spec (Classical.choose_spec (Classical.choose_spec (Zaa (x0.map rW) (rW x1) x2)))):=congrArg (fun p=>p.2.2.2) h
 subst h2 h3 h4;exact⟨_,h1,k⟩
section
variable (a0:List aO){A0:Option Addr}{c0:Nat}{p0:List Nat}(a1:aO){p1:List Nat}{u1:List Value}(a2:Int)(r0:aO)(r1:List Int)(r2 r3:Int)
theorem Zai(hR:(r0,r1,r2,r3)=Z8 a0 a1 a2)(w:World)(h0:T1 w (.sl a0.length (a0.flatMap aO.enc)) p0 (.slice A0 a0.length c0))(h1:TN w a1.enc p1 u1):
  Calls Tryz.prog 7 #[.slice A0 a0.length c0,.agg u1.toArray,.int .i64 a2] w fun e w'=>∃(v0:List Value) (q0:List Nat) (B1:Option Addr) (d1:Nat) (q1:List Nat),e=.returned (.tuple #[.agg v0.toArray,.slice B1 r1.length d1,.int .i64 r2,.int .i64 r3])∧Ext w w'∧TN w' r0.enc q0 v0∧T1 w' (.sl r1.length (r1.flatMap bN)) q1 (.slice B1 r1.length d1)∧Own w.heap.size w' (q0++q1):=by
 obtain⟨P,rfl,_,_,h⟩:=Z9 a0 a1 a2 r0 r1 r2 r3 hR;exact ZaP (vs:=[.slice A0 a0.length c0,.agg u1.toArray,.int .i64 a2]) h (fun _=>pQ (IU h0) (pQ (Mh h1) (pQ (Mg _) IV)))
theorem Zac(hR:(r0,r1,r2,r3)=Z8 a0 a1 a2)(w:World)(h0:T1 w (.sl a0.length (a0.flatMap aO.enc)) p0 (.slice A0 a0.length c0))(h1:TN w a1.enc p1 u1):
  Calls Tryz.prog 10 #[.slice A0 a0.length c0,.agg u1.toArray,.int .i64 a2] w fun e w'=>∃(v0:List Value) (q0:List Nat) (B1:Option Addr) (d1:Nat) (q1:List Nat),e=.returned (.tuple #[.agg v0.toArray,.slice B1 r1.length d1,.int .i64 r2,.int .i64 r3])∧Ext w w'∧TN w' r0.enc q0 v0∧T1 w' (.sl r1.length (r1.flatMap bN)) q1 (.slice B1 r1.length d1)∧Own w.heap.size w' (q0++q1):=by
 obtain⟨P,rfl,_,h,_⟩:=Z9 a0 a1 a2 r0 r1 r2 r3 hR;exact ZaP (vs:=[.slice A0 a0.length c0,.agg u1.toArray,.int .i64 a2]) h (fun _=>pQ (IU h0) (pQ (Mh h1) (pQ (Mg _) IV)))
theorem Zah{Q0 Q1:Prop}(hR:(r0,r1,r2,r3)=Z8 a0 a1 a2)(_:Q0)(_:Q1):r0.cnt≤1099511627776∧cN (r1.flatMap bN)≤1099511627776:=by
 obtain⟨P,rfl,⟨h1,h2⟩,_⟩:=Z9 a0 a1 a2 r0 r1 r2 r3 hR;refine⟨ZaV h1,?_⟩;rw[Ym];omega
end
end Go.Proofs.YtcjhkgfmklgikaaGreat
