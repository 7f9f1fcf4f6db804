
/- RecordLazy: both sides; the contracts for the law. Printed by gen_hr.py. -/
import Derived.Test.YtcjhkgfmklgikaaGreatShort
import Derived.Test.YtcjhkgfmklgikaaGreatHr
import Derived.Test.YtcjhkgfmklgikaaGreatYn
set_option linter.unusedSimpArgs false
set_option linter.unusedVariables false
namespace Go.Proofs.YtcjhkgfmklgikaaGreat
open Go Go.RowKit Go.Proofs Go.Tr
theorem zF(bk:List (List aj))(xs:List aj)(st:Int):∃(out:List aT) (c:Int),out.length≤300∧Im 20 [.rsl bO bk,.agg [.rsl aG xs],.int .i64 st] out c∧Im 19 [.rsl bO bk,.agg [.rsl aG xs],.int .i64 st] out c:=by
 by_cases h:nT (lF bk xs) (dM []&&dS st 0 300)=0
 ·have hh:lF bk xs=true∧dS st 0 300=true:=by
   revert h;cases lF bk xs<;>cases dM []<;>cases dS st 0 300<;>simp[nT]
  obtain⟨hv,hi⟩:=hh;unfold lF at hv;rw[qD]at hv;have nb:=(Pt hv.1).1;have nn:=MS hv.2;have hl2:=nn.l2;have hb:=jS hi;have hs:=wR nn.twin (by omega);obtain⟨c,out,R,hol⟩:=Nz nb hb.2 300 nn.twin nn.twin.Z5 (by omega) (ev:=[]) (by rw[qR];omega) (by rw[qR];omega)
  by_cases hc:c=0
  ·subst hc;exact⟨out,0,hol,.inr (X0 bk xs st hs hb.2 h rfl R),.inr (X3 bk xs st hs hb.2 h rfl R)⟩
  ·exact⟨[],c,by simp,.inl ⟨rfl,Wh bk xs st hs hb.2 h hc R⟩,.inl ⟨rfl,Wi bk xs st hs hb.2 h hc R⟩⟩
 ·exact⟨[],_,by simp,.inl ⟨rfl,Zx bk xs st h rfl⟩,.inl ⟨rfl,Zy bk xs st h rfl⟩⟩
noncomputable def rF(x0:List aO)(x1:aO)(x2:Int):List aP×Int:=
 ((Classical.choose (zF (x0.map rW) (rW x1) x2)).map Tt,Classical.choose (Classical.choose_spec (zF (x0.map rW) (rW x1) x2)))
theorem ou(x0:List aO)(x1:aO)(x2:Int)(r0:List aP)(r1:Int)(h:(r0,r1)=rF x0 x1 x2):
  ∃es,r0=es.map Tt∧es.length≤300∧Im 20 [.rsl bO (x0.map rW),.agg [.rsl aG (rW x1)],.int .i64 x2] es r1∧Im 19 [.rsl bO (x0.map rW),.agg [.rsl aG (rW x1)],.int .i64 x2] es r1:=by
 have k:=Classical.choose_spec (Classical.choose_spec (zF (x0.map rW) (rW x1) x2));have h1:r0=(Classical.choose (zF (x0.map rW) (rW x1) x2)).map Tt:=congrArg Prod.fst h;have h2:r1=Classical.choose (Classical.choose_spec (zF (x0.map rW) (rW x1) x2)):=congrArg Prod.snd h;subst h2;exact⟨_,h1,k⟩
section
variable (a0:List aO){A0:Option Addr}{c0:Nat}{p0:List Nat}(a1:aO){p1:List Nat}{u1:List Value}(a2:Int)(r0:List aP)(r1:Int)
theorem Bv(hR:(r0,r1)=rF a0 a1 a2)(w:World)(h0:T1 w (.sl a0.length (a0.flatMap aO.enc)) p0 (.slice A0 a0.length c0))(h1:TN w a1.enc p1 u1):
  Calls Tryz.prog 19 #[.slice A0 a0.length c0,.agg u1.toArray,.int .i64 a2] w fun e w'=>∃(B0:Option Addr) (d0:Nat) (q0:List Nat),e=.returned (.tuple #[.slice B0 r0.length d0,.int .i64 r1])∧Ext w w'∧T1 w' (.sl r0.length (r0.flatMap aP.enc)) q0 (.slice B0 r0.length d0):=by
 obtain⟨es,rfl,_,_,h⟩:=ou a0 a1 a2 r0 r1 hR;exact(Ms (vs:=[.slice A0 a0.length c0,.agg u1.toArray,.int .i64 a2]) h (fun _=>pQ (IU h0) (pQ (Mh h1) (pQ (Mg _) IV)))).mono fun _ _ ⟨B,d,q,k1,k2,k3,_⟩=>⟨B,d,q,k1,k2,k3⟩
theorem vH(hR:(r0,r1)=rF a0 a1 a2)(w:World)(h0:T1 w (.sl a0.length (a0.flatMap aO.enc)) p0 (.slice A0 a0.length c0))(h1:TN w a1.enc p1 u1):
  Calls Tryz.prog 20 #[.slice A0 a0.length c0,.agg u1.toArray,.int .i64 a2] w fun e w'=>∃(B0:Option Addr) (d0:Nat) (q0:List Nat),e=.returned (.tuple #[.slice B0 r0.length d0,.int .i64 r1])∧Ext w w'∧T1 w' (.sl r0.length (r0.flatMap aP.enc)) q0 (.slice B0 r0.length d0)∧Own w.heap.size w' (q0):=by
 obtain⟨es,rfl,_,h,_⟩:=ou a0 a1 a2 r0 r1 hR;exact Ms (vs:=[.slice A0 a0.length c0,.agg u1.toArray,.int .i64 a2]) h (fun _=>pQ (IU h0) (pQ (Mh h1) (pQ (Mg _) IV)))
theorem Av{Q0 Q1:Prop}(hR:(r0,r1)=rF a0 a1 a2)(_:Q0)(_:Q1):cN (r0.flatMap aP.enc)≤1099511627776:=by
 obtain⟨es,rfl,h,_⟩:=ou a0 a1 a2 r0 r1 hR;exact NY (by omega)
end
end Go.Proofs.YtcjhkgfmklgikaaGreat
