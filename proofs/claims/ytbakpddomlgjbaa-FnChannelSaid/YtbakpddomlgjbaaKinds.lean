
/- Plain arithmetic: 32-bit wraps, the operators of the language, bounds as Bools. No program in it. -/
import Derived.Test.YtbakpddomlgjbaaSc
set_option linter.unusedSimpArgs false
set_option linter.unusedVariables false
namespace Go.Tr
open Go Go.RowKit
def I64(x:Int):Prop:= -9223372036854775808<=x/\x<=9223372036854775807
def w32(x:Int):Int:=(x+2147483648) % 4294967296-2147483648
theorem Tp(x:Int): -2147483648<=w32 x/\w32 x<=2147483647:=by unfold w32;omega
theorem sG{x:Int}(h0: -2147483648<=x)(h1:x<=2147483647):w32 x=x:=by unfold w32;omega
theorem wrap_i32(x:Int):IntKind.i32.wrap x=w32 x:=by unfold w32;simp[IntKind.wrap,IntKind.signed,IntKind.bits];omega
def Lu(b:Bool):Int:=if b then 1 else 0
def nE(o a b:Int):Int:=
 if o=1 then w32 (w32 a+w32 b)else if o=2 then w32 (w32 a-w32 b)else if o=3 then w32 (w32 a*w32 b)
 else if o=4 then(if w32 b=0 then 0 else w32 ((w32 a).tdiv (w32 b)))else if o=5 then Lu (decide (w32 a<w32 b))else if o=6 then Lu (w32 a==w32 b)else 0
theorem Sk{x y:Int}(hx0: -2147483648<=x)(hx1:x<=2147483647)(hy0: -2147483648<=y)(hy1:y<=2147483647): -4611686018427387904<=x*y/\x*y<=4611686018427387904:=by
 have h:=Int.natAbs_mul x y;have h1:x.natAbs<=2147483648:=by omega
 have h2:y.natAbs<=2147483648:=by omega
 have h3:x.natAbs*y.natAbs<=2147483648*2147483648:=Nat.mul_le_mul h1 h2;omega
theorem Ko{x y:Int}(hx0: -2147483648<=x)(hx1:x<=2147483647): -2147483648<=x.tdiv y/\x.tdiv y<=2147483648:=by
 have h:=Int.natAbs_tdiv_le_natAbs x y;omega
def Fa(n lo hi:Int):Bool:=decide (lo<=n)&&decide (n<=hi)
theorem OZ{n lo hi:Int}(h:Fa n lo hi=true):lo<=n/\n<=hi:=by simpa[Fa]using h
theorem TV{n lo hi:Int}(h:Fa n lo hi=false):n<lo\/hi<n:=by
 simp only[Fa,Bool.and_eq_false_iff,qP]at h;omega
theorem Mq{n lo hi:Int}(h1:lo<=n)(h2:n<=hi):Fa n lo hi=true:=by simp[Fa,h1,h2]
theorem R8{n lo hi:Int}(h:n<lo\/hi<n):Fa n lo hi=false:=by
 simp only[Fa,Bool.and_eq_false_iff,qP];omega
def MN(o:Int):List UInt8:=if o=1 then[43]else if o=2 then[45]else if o=3 then[42]else if o=4 then[47]else if o=5 then[60]else if o=6 then[61]else[]
def tN(t:List UInt8)(o:Int):Bool:=MN o==t
def JV(t:List UInt8):Int:=if tN t 1 then 1 else if tN t 2 then 2 else if tN t 3 then 3 else if tN t 4 then 4 else if tN t 5 then 5 else if tN t 6 then 6 else 0
theorem QJ{t:List UInt8}{k:Nat}(hk:k<6)(h:tN t (k+1)=true)(hb:∀j:Nat,j<k->tN t (j+1)=false):JV t=k+1:=by
 unfold JV;have hc:k=0\/k=1\/k=2\/k=3\/k=4\/k=5:=by omega
 rcases hc with rfl|rfl|rfl|rfl|rfl|rfl
 all_goals (have g0:=hb 0;have g1:=hb 1;have g2:=hb 2;have g3:=hb 3;have g4:=hb 4;simp at g0 g1 g2 g3 g4 h;simp[*])
theorem QK{t:List UInt8}(hb:∀j:Nat,j<6->tN t (j+1)=false):JV t=0:=by
 unfold JV;have g0:=hb 0;have g1:=hb 1;have g2:=hb 2;have g3:=hb 3;have g4:=hb 4;have g5:=hb 5
 simp at g0 g1 g2 g3 g4 g5;simp[*]
theorem QY{t:List UInt8}{k:Nat}(h:Hid (∀j:Nat,j<k->tN t (j+1)=false))(hk:tN t (k+1)=false):Hid (∀j:Nat,j<k+1->tN t (j+1)=false):=by
 intro j hj
 by_cases e:j=k
 .subst e;exact hk
 .exact h.out j (by omega)
theorem OM{a b:Int}(h5: -2147483648<=a)(h6:a<=2147483647):(nE 2 (nE 1 a b) b !=a)=false:=by
 have:nE 2 (nE 1 a b) b=a:=by simp only[nE];simp;unfold w32;omega
 simp[this]
theorem RS{a x:Int}(h5: -2147483648<=a)(h6:a<=2147483647):(w32 (wrap64 (a+wrap64 (x-x.tmod 4294967296))) !=a)=false:=by
 have:w32 (wrap64 (a+wrap64 (x-x.tmod 4294967296)))=a:=by
  have h1:=Int.mul_tdiv_add_tmod x 4294967296;generalize x.tdiv 4294967296=q at*;generalize x.tmod 4294967296=r at*;unfold w32 wrap64;omega
 simp[this]
theorem TS(a b:Int):(nE 3 a b !=nE 3 b a)=false:=by
 have:nE 3 a b=nE 3 b a:=by simp only[nE];simp;rw[Int.mul_comm]
 simp[this]
theorem f_add(a b:Int):(nE 1 a b==nE 1 b a)=true:=by
 have:nE 1 a b=nE 1 b a:=by simp only[nE];simp;rw[Int.add_comm]
 simp[this]
theorem Sy(a:Int):nE 4 a 0=0:=by simp[nE,w32]
theorem SA{a:Int}(h5: -2147483648<=a)(h6:a<=2147483647)(q:Int):nE 2 a (nE 3 q 0)=a:=by simp only[nE];simp;unfold w32;simp;omega
theorem Kr(a b:Int)(hb:b≠0):(a.tmod b).natAbs<b.natAbs/\(0<=a->0<=a.tmod b)/\(a<=0->a.tmod b<=0):=by
 refine⟨?_,fun h=>Int.tmod_nonneg _ h,fun h=> ?_⟩
 .rw[Int.natAbs_tmod];exact Nat.mod_lt _ (by omega)
 .have:=Int.tmod_nonneg b (show 0<= -a by omega);rw[Int.neg_tmod]at this;omega
theorem r_is{a b:Int}(h5: -2147483648<=a)(h6:a<=2147483647)(h7: -2147483648<=b)(h8:b<=2147483647)(hb:b≠0):nE 2 a (nE 3 (nE 4 a b) b)=a.tmod b:=by
 have h1:=Int.mul_tdiv_add_tmod a b;have h2:=Kr a b hb;have h3:=Ko (x:=a) (y:=b) h5 h6;have ea:=sG h5 h6;have eb:=sG h7 h8;have e4:nE 4 a b=w32 (a.tdiv b):=by simp only[nE];simp[ea,eb,hb]
 have e3:∀q, -2147483648<=q->q<=2147483647->nE 3 q b=w32 (q*b):=fun q u v=>by simp only[nE];simp[sG u v,eb]
 have e2:∀z,nE 2 a z=w32 (a-w32 z):=fun z=>by simp only[nE];simp[ea]
 rw[e4,e2]
 by_cases hq:a.tdiv b=2147483648
 .have hq':w32 (a.tdiv b)= -2147483648:=by rw[hq];decide
  rw[hq',e3 _ (by omega) (by omega)]
  have:b= -1/\a= -2147483648:=by
   rw[hq]at h1;omega
  obtain⟨rfl,rfl⟩:=this
  decide
 .rw[sG h3.1 (by omega),e3 _ h3.1 (by omega),Int.mul_comm];generalize a.tdiv b=q at*;generalize a.tmod b=r at*;generalize b*q=z at*;unfold w32;omega
theorem Mx{a b:Int}(h5: -2147483648<=a)(h6:a<=2147483647)(h7: -2147483648<=b)(h8:b<=2147483647):
  nE 5 a b=Lu (decide (a<b))/\nE 5 b a=Lu (decide (b<a))/\nE 6 a b=Lu (a==b):=by
 simp only[nE];simp[sG h5 h6,sG h7 h8]
theorem TF:Lu true=1:=rfl
theorem TD:Lu false=0:=rfl
theorem three(a b:Int):(decide (a<b)=true/\decide (b<a)=false/\(a==b)=false)\/(decide (a<b)=false/\decide (b<a)=true/\(a==b)=false)\/(decide (a<b)=false/\decide (b<a)=false/\(a==b)=true):=by
 simp only[qQ,qP,beq_eq_false_iff_ne,beq_iff_eq];omega
def xM(k:Int):Bool:=Fa k 1 12
def jG(k:Int):Bool:=xM k&&k !=1&&k !=5&&k !=6
def JH(n:Int):Bool:=Fa n 0 8
def kF(k l:Int):Bool:=xM k&&(l==0||(jG k&&JH l))
def lY(k:Int):Bool:=k==3||k==7||k==8||k==10||k==11
def Bw(t k l:Int):Bool:=JH t&&kF k l&&(k==6||k==12||(jG k&&decide (t<l)))
def rule(ka la kb lb:Int):Int:=
 if ka=5 then 4
 else if ka=4 then(if kb==4&&la==lb then 2 else if Bw la kb lb then 3 else 0)
 else if ka=2 then(if kb==3&&la==lb then 1 else 0)
 else if ka=6 then(if kb==7||kb==8 then 5 else if kb==11 then 6 else 0)
 else if ka=9 then(if kb==10 then 6 else 0)
 else if ka=12 then(if lY kb then 7 else 0)
 else 0
def sV(ka la kb lb:Int):Bool:=kF ka la&&kF kb lb&&ka !=1&&kb !=1
def bP(ka la kb lb:Int):Int:=if sV ka la kb lb then(if rule ka la kb lb=0 then(if rule kb lb ka la=0 then 8 else rule kb lb ka la)else rule ka la kb lb)else 0
def dA(ka la kb lb:Int):Int:=if sV ka la kb lb then(if rule ka la kb lb=0 then(if rule kb lb ka la=0 then 0 else 2)else 1)else 0
def QM(k f:Int):Int:=
 if k=9 then(if Fa f 0 3 then f+1 else 0)else if f=0 then
  (if k=1\/k=5\/k=6\/k=12 then 1 else if k=8\/k=10\/k=11 then 2 else if k=2\/k=3\/k=4\/k=7 then 3 else 0)else 0
theorem Mt{k:Int}(h:xM k=true):k=1\/k=2\/k=3\/k=4\/k=5\/k=6\/k=7\/k=8\/k=9\/k=10\/k=11\/k=12:=by
 have:=OZ h;omega
theorem E9{k l:Int}(h:xM k=false):kF k l=false:=by simp[kF,h]
theorem EA{k:Int}(h:xM k=false):jG k=false:=by simp[jG,h]
theorem vK(ka la kb lb:Int):0<=rule ka la kb lb/\rule ka la kb lb<=7:=by
 unfold rule;(repeat' split)<;>omega
theorem CZ{i k:Int}(h:Bw i 4 k=true):i<k:=by
 simp only[Bw,qD,Bool.or_eq_true]at h;obtain⟨_,h⟩:=h;rcases h with(h|h)|h
 .exact absurd h (by decide)
 .exact absurd h (by decide)
 .simpa using h.2
theorem Ag{i b k:Int}(h:Bw i b k=true):b≠5:=by
 rintro rfl;simp[Bw,jG]at h
theorem yh{ka la kb lb:Int}(h1:rule ka la kb lb≠0)(h2:rule kb lb ka la≠0):rule ka la kb lb=rule kb lb ka la/\(rule ka la kb lb=2\/rule ka la kb lb=4):=by
 by_cases a5:ka=5
 .subst a5
  by_cases b5:kb=5
  .subst b5;simp[rule]
  .exfalso;revert h2;unfold rule;rw[if_neg b5];split
   .rw[if_neg (by simp),if_neg (fun h=>Ag h rfl)];simp
   .simp[lY]
 by_cases b5:kb=5
 .subst b5;exfalso;revert h1;unfold rule;rw[if_neg a5];split
  .rw[if_neg (by simp),if_neg (fun h=>Ag h rfl)];simp
  .simp[lY]
 by_cases a4:ka=4
 .subst a4
  by_cases b4:kb=4
  .subst b4
   by_cases e:la=lb
   .subst e;simp[rule]
   .exfalso;have e':¬lb=la:=fun h=>e h.symm
    simp[rule,e,e']at h1 h2;have:=CZ h1;have:=CZ h2;omega
  .exfalso;revert h2;unfold rule;simp[b5,b4,lY]
 by_cases b4:kb=4
 .subst b4;exfalso;revert h1;unfold rule;simp[a5,a4,lY]
 exfalso;revert h1 h2;unfold rule;simp only[a5,b5,a4,b4,if_false]
 by_cases a2:ka=2
 .subst a2;simp[lY]
  try (intro h _;subst h;simp)
 by_cases a6:ka=6
 .subst a6;simp[lY]
  try
   split
   .rename_i h;rcases h with rfl|rfl<;>simp
   .split
    .rename_i h;subst h;simp
    .simp
 by_cases a9:ka=9
 .subst a9;simp[lY]
  try (intro h;subst h;simp)
 by_cases a12:ka=12
 .subst a12;intro h
  have hc:lY kb=true:=by
   cases hc:lY kb with
   |true=>rfl
   |false=>simp[hc]at h
  simp only[lY,Bool.or_eq_true,beq_iff_eq]at hc;rcases hc with(((rfl|rfl)|rfl)|rfl)|rfl<;>simp
 .simp[a2,a6,a9,a12]
theorem xW(ka la kb lb:Int):sV ka la kb lb=sV kb lb ka la:=by
 simp only[sV];cases kF ka la<;>cases kF kb lb<;>cases (ka !=1)<;>cases (kb !=1)<;>rfl
theorem I4(ka la kb lb:Int):bP kb lb ka la=bP ka la kb lb:=by
 unfold bP;rw[xW kb lb ka la]
 by_cases h1:rule ka la kb lb=0<;>by_cases h2:rule kb lb ka la=0
 .simp[h1,h2]
 .simp[h1,h2]
 .simp[h1,h2]
 .simp[h1,h2,(yh h1 h2).1]
theorem MR(ka la kb lb:Int):let c:=bP ka la kb lb;let f:=dA ka la kb lb;let g:=dA kb lb ka la
  (c=0/\f=0/\g=0)\/(c=8/\f=0/\g=0)\/(c=2/\1<=f/\f<=2/\1<=g/\g<=2)\/(c=4/\1<=f/\f<=2/\1<=g/\g<=2)\/(c≠0/\c≠8/\c≠2/\c≠4/\1<=f/\f<=2/\1<=g/\g<=2/\f+g=3):=by
 intro c f g;have hc:c=bP ka la kb lb:=rfl;have hf:f=dA ka la kb lb:=rfl;have hg:g=dA kb lb ka la:=rfl
 clear_value c f g
 unfold bP at hc;unfold dA at hf hg;rw[xW kb lb ka la]at hg;have r1:=vK ka la kb lb;have r2:=vK kb lb ka la;cases hp:sV ka la kb lb
 .simp only[hp,Bool.false_eq_true,if_false]at hc hf hg;exact .inl ⟨hc,hf,hg⟩
 .simp only[hp,if_true]at hc hf hg
  by_cases h1:rule ka la kb lb=0<;>by_cases h2:rule kb lb ka la=0
  .simp only[h1,h2,if_true]at hc hf hg;omega
  .simp only[h1,h2,if_true,if_false]at hc hf hg;omega
  .simp only[h1,h2,if_true,if_false]at hc hf hg;omega
  .have:=yh h1 h2;simp only[h1,h2,if_false]at hc hf hg;omega
theorem mZ{i:Int}(h0:0<=i)(h1:i<=8):JH i=true/\kF 4 i=true:=by
 have:JH i=true:=Mq h0 h1;refine⟨this,?_⟩;simp only[kF,this,Bool.and_true];cases (i==0)<;>rfl
theorem Df{i k:Int}(h0:0<=i)(h1:i<=8)(h2:0<=k)(h3:k<=8):Bw i 4 k=decide (i<k):=by
 simp only[Bw,(mZ h0 h1).1,(mZ h2 h3).2];simp[jG,xM,Fa]
theorem Nt{i k:Int}(h0:0<=i)(h1:i<=8)(h2:0<=k)(h3:k<=8):bP 4 i 4 k=if i=k then 2 else 3:=by
 have hp:sV 4 i 4 k=true:=by simp[sV,(mZ h0 h1).2,(mZ h2 h3).2]
 have d1:=Df h0 h1 h2 h3;have d2:=Df h2 h3 h0 h1;unfold bP;rw[if_pos hp]
 by_cases e:i=k
 .subst e;simp[rule]
 .have e':¬k=i:=fun h=>e h.symm
  by_cases hlt:i<k
  .have:¬k<i:=by omega
   simp[rule,e,e',d1,d2,hlt,this]
  .have:k<i:=by omega
   simp[rule,e,e',d1,d2,hlt,this]
end Go.Tr
