
/- Deques. Printed by gx_dq.py. -/
import Derived.Test.YtjpaeopdljfjpaaShort
import Derived.Test.YtjpaeopdljfjpaaProg
import Derived.Test.YtjpaeopdljfjpaaSc
import Derived.Test.YtjpaeopdljfjpaaDDq
import Derived.Test.YtjpaeopdljfjpaaNet
import Derived.IntWalk
import Derived.Test.YtjpaeopdljfjpaaDq2
set_option linter.unusedSimpArgs false
set_option linter.unusedVariables false
namespace Go.Tr
def iV(a:ah):ah:=⟨a.todo.tail,0,0,0,0⟩
def l8(y:aQ)(a:ah):aQ×ah:=
 cond (a.pc==0) (cond (decide (((y.buffer.length:Nat):Int)≤IntKind.i64.wrap (y.bottom-y.top))) ({ y with refused:=y.refused++[a.todo.headD 0]},iV a) (y,{ a with b:=y.bottom,t:=y.top,pc:=1}))
  (cond (a.pc==1) ({ y with buffer:=y.buffer.set (Jy a.b y.buffer.length).toNat (a.todo.headD 0)},{ a with pc:=2}) ({ y with bottom:=IntKind.i64.wrap (a.b+1)},iV a))
def fT(y:aQ)(i:Int):Int:=(y.buffer[(Jy i y.buffer.length).toNat]?).getD 0
def ku(y:aQ)(a:ah):aQ×ah:=
 cond (a.pc==0) ({ y with bottom:=IntKind.i64.wrap (y.bottom-1)},{ a with b:=IntKind.i64.wrap (y.bottom-1),pc:=1})
  (cond (a.pc==1) (cond (decide (a.b<y.top)) (y,{ a with t:=y.top,pc:=3})
    (cond (decide (y.top<a.b)) ({ y with taken:=y.taken++[⟨0,fT y a.b⟩]},iV a) (y,{ a with t:=y.top,x:=fT y a.b,pc:=2})))
   (cond (a.pc==2) (cond (y.top==a.t) ({ y with top:=IntKind.i64.wrap (a.t+1),taken:=y.taken++[⟨0,a.x⟩]},{ a with pc:=3}) (y,{ a with pc:=3}))
    ({ y with bottom:=IntKind.i64.wrap (a.b+1)},iV a)))
def iO(y:aQ)(a:ah)(k:Int):aQ×ah:=
 cond (a.pc==0) (y,{ a with t:=y.top,pc:=1})
  (cond (a.pc==1) (cond (decide (y.bottom≤a.t)) (y,iV a) (y,{ a with b:=y.bottom,pc:=2}))
   (cond (a.pc==2) (y,{ a with x:=fT y a.t,pc:=3})
    (cond (y.top==a.t) ({ y with top:=IntKind.i64.wrap (a.t+1),taken:=y.taken++[⟨k,a.x⟩]},iV a) (y,iV a))))
def dK(x:aQ):Bool:=decide ((1000:Int)<x.top)||decide ((1000:Int)<x.bottom)||decide ((1000:Int)<((x.taken.length:Nat):Int))||decide ((1000:Int)<((x.refused.length:Nat):Int))
theorem BA(i:Int){n:Nat}(h0:0<n)(h1:n≤1000):∃k:Nat,Jy i n=((k:Nat):Int)∧k<n:=by
 have hn:(0:Int)<(n:Int):=by omega
 have a1:=Int.tmod_lt_of_pos i hn
 have a2: -(n:Int)<Int.tmod i n:=by
  have:=Int.lt_tmod_of_pos i hn;exact this
 unfold Jy;have hw:IntKind.i64.wrap (Int.tmod i ((n:Nat):Int)+((n:Nat):Int))=Int.tmod i n+n:=qO _ (by omega);rw[hw];have b0:=Int.tmod_nonneg (n:Int) (show 0≤Int.tmod i n+n by omega);have b1:=Int.tmod_lt_of_pos (Int.tmod i n+n) hn;exact⟨(Int.tmod (Int.tmod i n+n) n).toNat,by omega,by omega⟩
end Go.Tr
namespace Go.Proofs.Ytjpaeopdljfjpaa
open Go Go.RowKit Go.Proofs Go.Tr
end Go.Proofs.Ytjpaeopdljfjpaa
