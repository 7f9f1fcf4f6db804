
/- RecordTrace: both sides; the contracts for the law. -/
import Derived.Test.YtemalpelcdmemaaGreatUg
import Derived.Test.YtemalpelcdmemaaGreatRh
import Derived.Test.YtemalpelcdmemaaGreatKEv
set_option linter.unusedSimpArgs false
set_option linter.unusedVariables false
namespace Go.Tr
open Go Go.RowKit
theorem WW{l:List Int}(h:dV l=true):∀z∈l,0≤z:=fun z hz=>by
 unfold dV at h;rw[Bool.and_eq_true]at h;obtain⟨i,hi,rfl⟩:=List.mem_iff_getElem.1 hz;have:=mG h.2 hi;have e:fF l i=l[i]:=by unfold fF;rw[List.getD_eq_getElem?_getD,List.getElem?_eq_getElem hi];rfl
 rw[e]at this;exact(kZ this).1
theorem Wn{xs:List NEvent}(h:xs.length≤1000):cN ((xs.map gEv).flatMap aX.enc)≤1099511627776:=by
 have:∀ys:List aX,cN (ys.flatMap aX.enc)=5*ys.length:=fun ys=>by
  induction ys with
  |nil=>rfl
  |cons y l ih=>
   rw[List.flatMap_cons,eO,ih,List.length_cons];have:cN y.enc=5:=rfl;omega
 rw[this,List.length_map];omega
end Go.Tr
namespace Go.Proofs.YtemalpelcdmemaaGreat
open Go Go.RowKit Go.Proofs Go.Tr
def OU(f:Nat)(args:List SV)(es:List NEvent)(c:Int):Prop:=
 (es=[]∧FCall Tryz.prog f args [] (.tup [.raw (.slice none 0 0),.int .i64 c]) [])∨FCall Tryz.prog f args [] (.tup [.sl 10000,.int .i64 c]) [.row 10000 74 5 uEvent es []]
theorem U5{f:Nat}{args:List SV}{es:List NEvent}{c:Int}{vs:List Value}{w:World}(h:OU f args es c)(hd:∀β,aR ⟨w,[]⟩ β args vs):
  Calls Tryz.prog f vs.toArray w fun e w'=>∃(B0:Option Addr) (d0:Nat) (q0:List Nat),e=.returned (.tuple #[.slice B0 (es.map gEv).length d0,.int .i64 c])∧Ext w w'∧T1 w' (.sl (es.map gEv).length ((es.map gEv).flatMap aX.enc)) q0 (.slice B0 (es.map gEv).length d0)∧Own w.heap.size w' (q0):=by
 rcases h with⟨rfl,h⟩|h
 ·refine(h.2 ⟨w,[]⟩ (fun _=>undef) w [] vs (Inv.zM w) (hd _)).mono ?_;rintro e w' ⟨v',β',rfl,_,h1,h2⟩;unfold Den at h1;obtain⟨us,rfl,h1⟩:=h1;unfold aR at h1;obtain⟨y1,us1,rfl,k1,h1⟩:=h1;unfold aR at h1;obtain⟨y2,us2,rfl,k2,h1⟩:=h1;unfold aR at h1;subst h1;unfold Den at k1 k2;subst k2;obtain⟨rfl,_⟩:=k1;exact⟨none,0,[],rfl,h2.BG,T1.empty none,Own.nil _ _⟩
 ·refine(h.2 ⟨w,[]⟩ (fun _=>undef) w [] vs (Inv.zM w) (hd _)).mono ?_;rintro e w' ⟨v',β',rfl,_,h1,h2⟩;have hI':Inv (Cx.mk w []).w0 [] w' [Tok.res ⟨w,[]⟩ β' (.row 10000 74 5 uEvent es [])]:=by simpa using h2
  obtain⟨A,c',q,r1,r2,r3⟩:=hI'.Zdj;unfold Den at h1;obtain⟨us,rfl,h1⟩:=h1;unfold aR at h1;obtain⟨y1,us1,rfl,k1,h1⟩:=h1;unfold aR at h1;obtain⟨y2,us2,rfl,k2,h1⟩:=h1;unfold aR at h1;subst h1;unfold Den at k1 k2;obtain⟨rfl,_⟩:=k1;subst k2;rw[XY,List.length_map,r1];exact⟨A,c',q,rfl,h2.BG,r2,r3⟩
theorem zL(bk:List (List NAgent))(xs:List NAgent)(sch:List Int)(st:Int):∃(out:List NEvent) (c:Int),out.length≤300∧OU 34 [.rsl uNet bk,.agg [.rsl uAgent xs],.rsl (.int .i64) sch,.int .i64 st] out c∧OU 32 [.rsl uNet bk,.agg [.rsl uAgent xs],.rsl (.int .i64) sch,.int .i64 st] out c:=by
 by_cases h:rX (oH bk xs) (dV sch&&eZ st 0 300)=0
 ·have hh:oH bk xs=true∧dV sch=true∧eZ st 0 300=true:=by
   revert h;cases oH bk xs<;>cases dV sch<;>cases eZ st 0 300<;>simp[rX]
  obtain⟨hv,hsc,hi⟩:=hh;have hv':=hv;unfold oH at hv';rw[Bool.and_eq_true]at hv';have nb:=(Xu hv'.1).1;have nn:=Vn hv'.2;have hl2:=nn.l2
  have hs:eT xs:=by
   refine⟨by omega,fun i=> ?_⟩
   by_cases hi:i<xs.length
   ·have w:=nn.wf (i:Nat) (by omega) (by omega);have h1:=wf_data w;have h2:=(om w).2;exact⟨by show(agAt xs (i:Nat)).2.2.2.1.length≤1048576;omega,by show(agAt xs (i:Nat)).2.2.2.2.length≤1048576;omega⟩
   ·rw[zh (by omega)];decide
  have hsp:=WW hsc;have hst:=kZ hi;obtain⟨code,out,R,ho⟩:=VO nb hsp (st:=st) hst.2 300 (ev:=[]) nn.twin (fun i h0 h1 _=>nn.wf i h0 h1) (by omega) (by show st≤((([]:List NEvent).length+300:Nat):Int);rw[List.length_nil];omega) (by simp)
  by_cases hc:code=0
  ·exact⟨out,code,ho,.inr (Zdc bk xs sch st hs hsp hst.2 h hc R),.inr (Zdf bk xs sch st hs hsp hst.2 h hc R)⟩
  ·exact⟨[],code,by simp,.inl ⟨rfl,Zdb bk xs sch st hs hsp hst.2 h hc R⟩,.inl ⟨rfl,Zde bk xs sch st hs hsp hst.2 h hc R⟩⟩
 ·exact⟨[],_,by simp,.inl ⟨rfl,Zda bk xs sch st h rfl⟩,.inl ⟨rfl,Zdd bk xs sch st h rfl⟩⟩
noncomputable def sF(x0:List aU)(x1:aU)(x2:List Int)(x3:Int):List aX×Int:=
 ((Classical.choose (zL (x0.map vR) (vR x1) x2 x3)).map gEv,Classical.choose (Classical.choose_spec (zL (x0.map vR) (vR x1) x2 x3)))
theorem qZ(x0:List aU)(x1:aU)(x2:List Int)(x3:Int)(r0:List aX)(r1:Int)(h:(r0,r1)=sF x0 x1 x2 x3):
  ∃es,r0=es.map gEv∧es.length≤300∧OU 34 [.rsl uNet (x0.map vR),.agg [.rsl uAgent (vR x1)],.rsl (.int .i64) x2,.int .i64 x3] es r1∧OU 32 [.rsl uNet (x0.map vR),.agg [.rsl uAgent (vR x1)],.rsl (.int .i64) x2,.int .i64 x3] es r1:=by
 have k:=Classical.choose_spec (Classical.choose_spec (zL (x0.map vR) (vR x1) x2 x3));have h1:r0=(Classical.choose (zL (x0.map vR) (vR x1) x2 x3)).map gEv:=congrArg Prod.fst h;have h2:r1=Classical.choose (Classical.choose_spec (zL (x0.map vR) (vR x1) x2 x3)):=congrArg Prod.snd h;subst h2;exact⟨_,h1,k⟩
section
variable (a0:List aU){A0:Option Addr}{c0:Nat}{p0:List Nat}(a1:aU){p1:List Nat}{u1:List Value}(a2:List Int){A2:Option Addr}{c2:Nat}{p2:List Nat}(a3:Int)(r0:List aX)(r1:Int)
theorem Fh(hR:(r0,r1)=sF a0 a1 a2 a3)(w:World)(h0:T1 w (.sl a0.length (a0.flatMap aU.enc)) p0 (.slice A0 a0.length c0))(h1:TN w a1.enc p1 u1)(h2:T1 w (.sl a2.length (a2.flatMap dQ)) p2 (.slice A2 a2.length c2)):
  Calls Tryz.prog 32 #[.slice A0 a0.length c0,.agg u1.toArray,.slice A2 a2.length c2,.int .i64 a3] w fun e w'=>∃(B0:Option Addr) (d0:Nat) (q0:List Nat),e=.returned (.tuple #[.slice B0 r0.length d0,.int .i64 r1])∧Ext w w'∧T1 w' (.sl r0.length (r0.flatMap aX.enc)) q0 (.slice B0 r0.length d0):=by
 obtain⟨es,rfl,_,_,h⟩:=qZ a0 a1 a2 a3 r0 r1 hR;exact(U5 (vs:=[.slice A0 a0.length c0,.agg u1.toArray,.slice A2 a2.length c2,.int .i64 a3]) h (fun _=>oM (Pt h0) (oM (UZ h1) (oM (Pq h2) (oM (UY _) Pv))))).mono fun _ _ ⟨B,d,q,k1,k2,k3,_⟩=>⟨B,d,q,k1,k2,k3⟩
theorem xD(hR:(r0,r1)=sF a0 a1 a2 a3)(w:World)(h0:T1 w (.sl a0.length (a0.flatMap aU.enc)) p0 (.slice A0 a0.length c0))(h1:TN w a1.enc p1 u1)(h2:T1 w (.sl a2.length (a2.flatMap dQ)) p2 (.slice A2 a2.length c2)):
  Calls Tryz.prog 34 #[.slice A0 a0.length c0,.agg u1.toArray,.slice A2 a2.length c2,.int .i64 a3] w fun e w'=>∃(B0:Option Addr) (d0:Nat) (q0:List Nat),e=.returned (.tuple #[.slice B0 r0.length d0,.int .i64 r1])∧Ext w w'∧T1 w' (.sl r0.length (r0.flatMap aX.enc)) q0 (.slice B0 r0.length d0)∧Own w.heap.size w' (q0):=by
 obtain⟨es,rfl,_,h,_⟩:=qZ a0 a1 a2 a3 r0 r1 hR;exact U5 (vs:=[.slice A0 a0.length c0,.agg u1.toArray,.slice A2 a2.length c2,.int .i64 a3]) h (fun _=>oM (Pt h0) (oM (UZ h1) (oM (Pq h2) (oM (UY _) Pv))))
theorem Dr{Q0 Q1 Q2:Prop}(hR:(r0,r1)=sF a0 a1 a2 a3)(_:Q0)(_:Q1)(_:Q2):cN (r0.flatMap aX.enc)≤1099511627776:=by
 obtain⟨es,rfl,h,_⟩:=qZ a0 a1 a2 a3 r0 r1 hR;exact Wn (by omega)
end
end Go.Proofs.YtemalpelcdmemaaGreat
