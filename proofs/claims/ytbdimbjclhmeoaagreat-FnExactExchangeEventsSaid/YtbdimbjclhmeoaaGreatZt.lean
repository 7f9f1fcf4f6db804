
/- Replaying events, told by data alone. No program in it. -/
import Derived.Test.YtbdimbjclhmeoaaGreatShort
import Derived.Test.YtbdimbjclhmeoaaGreatZl
import Derived.Test.YtbdimbjclhmeoaaGreatZs
import Derived.Test.YtbdimbjclhmeoaaGreatNy
set_option linter.unusedSimpArgs false
set_option linter.unusedVariables false
namespace Go.Tr
open Go Go.RowKit
section
variable {kv:List (Int×Bool)}{xs ys:List aj}{a b:Int}{bk:List (List aj)}{e:aB}{es fs:List aB}
theorem uy(hp:iH bk ys e=0):oG bk ys (e::es)=oG bk (dR bk ys e) es:=by
 conv=>lhs;unfold oG
 rw[if_neg (by simpa using hp)]
theorem mq(h:oG bk ys (e::es)=0):iH bk ys e=0∧oG bk (dR bk ys e) es=0:=by
 unfold oG at h
 by_cases hp:iH bk ys e=0
 ·rw[if_neg (by simpa using hp)]at h;exact⟨hp,h⟩
 ·rw[if_pos hp]at h;exact absurd h hp
theorem zy:∀{es:List aB} {ys:List aj},oG bk ys es=0→oG bk ys (es++fs)=oG bk (sP bk ys es) fs
 |[],_,_=>rfl
 |e::es,ys,h=>by
  obtain⟨h1,h2⟩:=mq h;exact(uy (es:=es++fs) h1).trans (zy h2)
theorem DZ:∀{es:List aB} {ys:List aj},oG bk ys (es++fs)=0→oG bk ys es=0
 |[],_,_=>rfl
 |e::es,ys,h=>by
  obtain⟨h1,h2⟩:=mq (es:=es++fs) h;rw[uy h1];exact DZ h2
structure oI(bk:List (List aj))(ys:List aj)(e:aB):Prop where
 ta:eO ys e.1
 tb:eO ys e.2.1
 ac:zO ys e.1 e.2.1
 gr:(eG bk (ah ys (au ys e.1 e.2.1).1) (ah ys (au ys e.1 e.2.1).2)).2=0
 fu:¬600<IntKind.i64.wrap ((eU ys ys.length:Nat)+(eG bk (ah ys (au ys e.1 e.2.1).1) (ah ys (au ys e.1 e.2.1).2)).1)
 le:(bN bk ys e.1 e.2.1).length≤3000
 ev:RB bk ys e.1 e.2.1=e
theorem lF:iH bk ys e=0↔oI bk ys e:=by
 constructor
 ·intro h;unfold iH at h;split at h
  ·cases h
  ·rename_i h1;have h1':eO ys e.1∧eO ys e.2.1:=Classical.byContradiction h1;split at h
   ·cases h
   ·rename_i h2;split at h
    ·rename_i h3;exact absurd h h3
    ·rename_i h3;have h3':kU bk ys e.1 e.2.1=0:=by simpa using h3
     split at h
     ·cases h
     ·rename_i h4;split at h
      ·cases h
      ·rename_i h5;unfold kU at h3';split at h3'
       ·rename_i h6;exact absurd h3' h6
       ·rename_i h6;split at h3'
        ·cases h3'
        ·rename_i h7;exact⟨h1'.1,h1'.2,Classical.byContradiction h2,by simpa using h6,h7,by omega,by simpa using h5⟩
 ·intro h
  have ho:kU bk ys e.1 e.2.1=0:=by
   unfold kU;rw[if_neg (by simpa using h.gr),if_neg h.fu]
  have hl:=h.le;unfold iH;rw[if_neg (by simp[h.ta,h.tb]),if_neg (by simp[h.ac]),if_neg (by simp[ho]),if_neg (by omega),if_neg (by simp[h.ev])]
theorem Twin.Gb(T:Twin kv xs ys)(ha:eO ys a)(hb:eO ys b)(h:zO ys a b):iM (Gone kv) xs a b∧(ah xs a).1≠1∧(ah xs b).1≠1:=by
 have hl:=T.len;have live:∀{k:Int},eO ys k→¬Gone kv k:=fun {k} hk e=>hk.2.2 (by rw[(T.hole k e).2];rfl)
 obtain⟨a0,a1,a2⟩:=ha;obtain⟨b0,b1,b2⟩:=hb;have la:=live ⟨a0,a1,a2⟩;have lb:=live ⟨b0,b1,b2⟩;obtain⟨c0,c1,c2⟩:=h;have wa:=(jc (T.wf a a0 (by omega) la)).1;have wb:=(jc (T.wf b b0 (by omega) lb)).1;have ea:=T.at_ a0 (by omega) la;refine⟨⟨by omega,la,lb,⟨a0,by simp only;omega,Int.le_refl 0,?_⟩,⟨b0,by simp only;omega,Int.le_refl 0,?_⟩,?_⟩,T.uq a c0 (by omega) la,T.uq b (by omega) (by omega) lb⟩
 ·show(0:Int)<((ah xs a).2.2.2.2.length:Nat);omega
 ·show(0:Int)<((ah xs b).2.2.2.2.length:Nat);omega
 ·unfold ay at c2 ⊢;rw[ea]at c2;exact c2
theorem Twin.Ye(T:Twin kv xs ys)(k:iM (Gone kv) xs a b):au ys a b=au xs a b:=by
 unfold au;rw[T.at_ k.px.1 k.px.2.1 k.lx,T.at_ k.py.1 k.py.2.1 k.ly]
theorem Twin.UQ(T:Twin kv xs ys)(hb:BF bk)(ha:eO ys a)(hb2:eO ys b)(h:zO ys a b)(hg:(eG bk (ah ys (au ys a b).1) (ah ys (au ys a b).2)).2=0):Lb bk (Gone kv) xs (nU ys a b) (au ys a b).1 (au ys a b).2:=by
 obtain⟨k,ra,rb⟩:=T.Gb ha hb2 h;have wa:=T.wf a k.px.1 k.px.2.1 k.lx;have wb:=T.wf b k.py.1 k.py.2.1 k.ly;obtain⟨q1,q2⟩:=yP wa wb ra rb;obtain⟨c1,c2⟩:=NA wa wb ra rb hb.toBkW;have kf:=k.first T.st
 have rf:(ah xs (au xs a b).1).1≠1∧(ah xs (au xs a b).2).1≠1:=by
  unfold au;cases aQ (ah xs a).1 (ah xs a).2.1 (ah xs b).1 (ah xs b).2.1==2
  ·exact⟨ra,rb⟩
  ·exact⟨rb,ra⟩
 have ef:=T.Ye k;unfold nU;rw[ef]at hg ⊢;have ex:=T.at_ kf.px.1 kf.px.2.1 kf.lx;have ey:=T.at_ kf.py.1 kf.py.2.1 kf.ly;rw[ex,ey]at hg ⊢;obtain⟨k1,k2,k3⟩:=c2 hg
 have hn8:aS (ah xs (au xs a b).1) (ah xs (au xs a b).2)≠8:=fun e8=>by
  unfold eG at hg;rw[e8]at hg;cases hg
 obtain⟨_,_,hr,h1,h7⟩:=q2 (by rw[q1];exact hn8);rw[q1]at hr h1 h7;refine⟨kf,hr,⟨h1,h7⟩,?_,k3,rf.1,rf.2⟩;cases hc:eZ (ah xs (au xs a b).1) (ah xs (au xs a b).2)with
 |false=>rfl
 |true=>exact absurd (by unfold aS;rw[hc];rfl) hn8
theorem oI.UQ(h:oI bk ys e)(T:Twin kv xs ys)(hb:BF bk):Lb bk (Gone kv) xs (nU ys e.1 e.2.1) (au ys e.1 e.2.1).1 (au ys e.1 e.2.1).2:=T.UQ hb h.ta h.tb h.ac h.gr
theorem oI.twin(h:oI bk ys e)(T:Twin kv xs ys)(hb:BF bk):Twin (gy kv (bR (nU ys e.1 e.2.1) (au ys e.1 e.2.1).1 (au ys e.1 e.2.1).2)) (aV bk xs (nU ys e.1 e.2.1) (au ys e.1 e.2.1).1 (au ys e.1 e.2.1).2) (dR bk ys e):=(T.Bl (h.UQ T hb) hb.toBkV).1
theorem Twin.run(hb:BF bk):∀{es:List aB} {kv:List (Int×Bool)} {xs ys:List aj},Twin kv xs ys→oG bk ys es=0→∃kv' xs',Twin kv' xs' (sP bk ys es)
 |[],kv,xs,ys,T,_=>⟨kv,xs,T⟩
 |e::es,kv,xs,ys,T,h=>by
  obtain⟨h1,h2⟩:=mq h;exact Twin.run hb (es:=es) ((lF.1 h1).twin T hb) h2
end
end Go.Tr
namespace Go.Tr
open Go Go.RowKit
section
variable {kv:List (Int×Bool)}{xs ys:List aj}{a b:Int}{bk:List (List aj)}{L X:aC→Prop}{σ:Wi}{p q:aC}
theorem Mq{u v:aj}(h:Duo u v):(aQ u.1 u.2.1 v.1 v.2.1=2∧aQ v.1 v.2.1 u.1 u.2.1=1)∨(aQ u.1 u.2.1 v.1 v.2.1=1∧aQ v.1 v.2.1 u.1 u.2.1=2)∨
  (aQ u.1 u.2.1 v.1 v.2.1=1∧aQ v.1 v.2.1 u.1 u.2.1=1∧((aS u v=2∧u.1=4∧v.1=4)∨(aS u v=4∧u.1=5∧v.1=5))):=by
 have hp:=zq h.wa h.wb h.ra h.rb;have hq:=zq h.wb h.wa h.rb h.ra;have hc:aU u.1 u.2.1 v.1 v.2.1≠8:=fun e=>h.ok (by unfold aS;rw[e];cases eZ u v<;>cases jH u v<;>rfl)
 have hcs:aS u v=aU u.1 u.2.1 v.1 v.2.1:=by
  have:=h.ok;unfold aS at this ⊢;cases h1:eZ u v with
  |true=>rw[h1]at this;exact absurd rfl this
  |false=>
   cases h2:jH u v with
   |true=>rw[h1,h2]at this;exact absurd rfl this
   |false=>rfl
 have hsym:=sV u.1 u.2.1 v.1 v.2.1;rw[hcs];unfold aQ;unfold aU at hc hsym ⊢;rw[hp,if_pos rfl]at hc;rw[hp,hq,if_pos rfl,if_pos rfl]at hsym;rw[hp,hq,if_pos rfl,if_pos rfl,if_pos rfl]
 by_cases r1:rule u.1 u.2.1 v.1 v.2.1=0
 ·by_cases r2:rule v.1 v.2.1 u.1 u.2.1=0
  ·simp only[if_pos r1,if_pos r2]at hc;exact absurd rfl hc
  ·simp only[if_pos r1,if_neg r2];exact .inl ⟨trivial,trivial⟩
 ·by_cases r2:rule v.1 v.2.1 u.1 u.2.1=0
  ·simp only[if_neg r1,if_pos r2];exact .inr (.inl ⟨trivial,trivial⟩)
  ·simp only[if_neg r1,if_neg r2]at hsym;simp only[if_neg r1,if_neg r2];refine .inr (.inr ⟨trivial,trivial,?_⟩);obtain⟨p1,p2,p3,p4,p5,p6,p7⟩:=fF rfl r1;obtain⟨q1,q2,q3,q4,q5,q6,q7⟩:=fF rfl r2;rw[hsym]at q1 q2 q3 q4 q5 q6 q7;have hr:=rH u.1 u.2.1 v.1 v.2.1;generalize hg:rule u.1 u.2.1 v.1 v.2.1=c at*;have hcc:c=1∨c=2∨c=3∨c=4∨c=5∨c=6∨c=7:=by omega
   rcases hcc with rfl|rfl|rfl|rfl|rfl|rfl|rfl
   ·have:=p1 rfl;have:=q1 rfl;omega
   ·exact .inl ⟨rfl,p2 rfl⟩
   ·exfalso;have ka:=p3 rfl;have kb:=q3 rfl;unfold rule at hg hsym;rw[ka,kb]at hg hsym;rw[if_neg (by decide),if_pos rfl]at hg hsym;cases hl:(((4:Int)==4)&&u.2.1==v.2.1)with
    |true=>rw[hl]at hg;simp at hg
    |false=>
     rw[hl]at hg
     have hl2:(((4:Int)==4)&&v.2.1==u.2.1)=false:=by
      rw[←hl];congr 1;rw[Bool.eq_iff_iff];simp only[beq_iff_eq];exact⟨Eq.symm,Eq.symm⟩
     rw[hl2]at hsym;simp only[Bool.false_eq_true,if_false]at hg hsym
     have d1:xJ u.2.1 4 v.2.1=true:=by
      cases hd:xJ u.2.1 4 v.2.1 with
      |true=>rfl
      |false=>rw[hd]at hg;simp at hg
     have d2:xJ v.2.1 4 u.2.1=true:=by
      cases hd:xJ v.2.1 4 u.2.1 with
      |true=>rfl
      |false=>rw[hd]at hsym;simp at hsym
     have:=BO d1;have:=BO d2;omega
   ·exact .inr ⟨rfl,p4 rfl,q4 rfl⟩
   ·have:=p5 rfl;have:=q5 rfl;omega
   ·have:=p6 rfl;have:=q6 rfl;omega
   ·have:=p7 rfl;have:=q7 rfl;omega
theorem Rel.join_comm(h:Rel xs L X σ)(hp:L p)(np:¬X p)(hq:L q)(nq:¬X q):aY xs p q=aY xs q p:=by
 obtain⟨l1,l2,e1,e2⟩:=h.peer hp np;obtain⟨m1,m2,f1,f2⟩:=h.peer hq nq
 have hj:∀p q:aC,aY xs p q=if ay xs p=q then xs else bE xs (ay xs p) (ay xs q):=fun p q=>by
  unfold aY
  by_cases e:ay xs p=q
  ·rw[if_pos e,e];simp
  ·rw[if_neg e]
   have:((ay xs p).1==q.1&&(ay xs p).2==q.2)=false:=by
    cases hh:((ay xs p).1==q.1&&(ay xs p).2==q.2)with
    |false=>rfl
    |true=>exact absurd (Prod.ext (by simp at hh;exact hh.1) (by simp at hh;exact hh.2)) e
   rw[this];rfl
 rw[hj,hj,rD (h.inn _ l1) (h.inn _ m1)]
 by_cases e:ay xs p=q
 ·rw[if_pos e,if_pos (by rw[←e];exact e1)]
 ·rw[if_neg e,if_neg fun k=>e (by rw[←k];exact f1)]
theorem Twin.relY(T:Twin kv xs ys):Rel ys (fun p=>ak ys p∧¬Gone kv p.1) xH (wires kv xs):=by
 have R:=T.rel;have hl:=T.len
 have pin:∀p:aC,¬Gone kv p.1→(ak ys p↔ak xs p):=fun p hd=>by
  unfold ak;rw[hl];constructor
  ·rintro⟨a,b,c,d⟩;rw[T.at_ a (by omega) hd]at d;exact⟨a,b,c,d⟩
  ·rintro⟨a,b,c,d⟩;refine⟨a,b,c,?_⟩;rw[T.at_ a (by omega) hd];exact d
 refine⟨fun p hp=>hp.1,fun p hp=>hp.elim,fun p hp _=> ?_,fun p hp=>hp.elim,fun p hp=> ?_,R.nv,R.wi⟩
 ·have h1:=(pin p hp.2).1 hp.1;rw[R.re p ⟨h1,hp.2⟩ id];unfold ay;rw[T.at_ h1.1 h1.2.1 hp.2]
 ·exact R.no p fun e=>hp ⟨(pin p e.2).2 e.1,e.2⟩
theorem Fw(ys:List aj){a b:Int}(ha:0≤a)(hb:0≤b)(n:a≠b):bn (bn ys a) b=bn (bn ys b) a:=by
 unfold bn;exact List.set_comm _ _ (by omega)
theorem Twin.symZ(T:Twin kv xs ys)(k:iM (Gone kv) xs a b)(ra:(ah xs a).1≠1)(rb:(ah xs b).1≠1)(hok:aS (ah xs a) (ah xs b)≠8):
  bN bk ys b a=bN bk ys a b∧kU bk ys b a=kU bk ys a b:=by
 have wa:=T.wf a k.px.1 k.px.2.1 k.lx;have wb:=T.wf b k.py.1 k.py.2.1 k.ly;have ea:=T.at_ k.px.1 k.px.2.1 k.lx;have eb:=T.at_ k.py.1 k.py.2.1 k.ly;have hD:Duo (ah ys a) (ah ys b):=by rw[ea,eb];exact⟨wa,wb,ra,rb,hok⟩
 have a0:=k.px.1;have a1:=k.px.2.1;have b0:=k.py.1;have b1:=k.py.2.1;simp only at a0 a1 b0 b1;rcases Mq hD with⟨h1,h2⟩|⟨h1,h2⟩|⟨h1,h2,h3⟩
 ·have e1:au ys a b=(b,a):=by unfold au;rw[h1];rfl
  have e2:au ys b a=(b,a):=by unfold au;rw[h2];rfl
  unfold bN kU nU;rw[e1,e2];exact⟨rfl,rfl⟩
 ·have e1:au ys a b=(a,b):=by unfold au;rw[h1];rfl
  have e2:au ys b a=(a,b):=by unfold au;rw[h2];rfl
  unfold bN kU nU;rw[e1,e2];exact⟨rfl,rfl⟩
 ·have e1:au ys a b=(a,b):=by unfold au;rw[h1];rfl
  have e2:au ys b a=(b,a):=by unfold au;rw[h2];rfl
  unfold bN kU nU;rw[e1,e2];simp only;rw[qm (ah ys a) (ah ys b)];have R:=T.relY;have pl:∀{z:Int},0≤z→z<(xs.length:Nat)→¬Gone kv z→∀i:Int,0≤i→i<((ah ys z).aN.length:Nat)→(ak ys (z,i)∧¬Gone kv ((z,i):aC).1):=fun {z} z0 z1 zd i i0 i1=>⟨⟨z0,by simp only;rw[←T.len];exact z1,i0,i1⟩,zd⟩
  rcases h3 with⟨c2,ka,kb⟩|⟨c4,ka,kb⟩
  ·have na:(ah ys a).aN.length=3:=by rw[ea];exact(jw wa).2.2.1 (.inr (.inr (.inl (by rw[←ea];exact ka))))
   have nb:(ah ys b).aN.length=3:=by rw[eb];exact(jw wb).2.2.1 (.inr (.inr (.inl (by rw[←eb];exact kb))))
   rw[c2];refine⟨?_,?_⟩
   ·show bn (bn (aY (aY ys (b,1) (a,1)) (b,2) (a,2)) b) a=bn (bn (aY (aY ys (a,1) (b,1)) (a,2) (b,2)) a) b;have pa1:=pl a0 a1 k.lx 1 (by decide) (by rw[na];decide);have pa2:=pl a0 a1 k.lx 2 (by decide) (by rw[na];decide);have pb1:=pl b0 b1 k.ly 1 (by decide) (by rw[nb];decide);have pb2:=pl b0 b1 k.ly 2 (by decide) (by rw[nb];decide);have ne:=k.ne;have j1:=R.join_comm pa1 id pb1 id;have R1:=R.join pa1 id pb1 id (fun e=>ne (congrArg Prod.fst e));have j2:=R1.join_comm (p:=(a,2)) (q:=(b,2)) ⟨pa2,by simp,by simp⟩ id ⟨pb2,by simp,by simp⟩ id
    rw[←j1,←j2,Fw _ a0 b0 ne]
   ·unfold eG kV;rw[qm (ah ys a) (ah ys b),c2];rfl
  ·have na:(ah ys a).2.2.2.2.length=1:=by rw[ea];exact(jw wa).1 (.inr (.inl (by rw[←ea];exact ka)))
   have nb:(ah ys b).2.2.2.2.length=1:=by rw[eb];exact(jw wb).1 (.inr (.inl (by rw[←eb];exact kb)))
   rw[c4];refine⟨?_,?_⟩
   ·show bn (bn (iA ys a) b) a=bn (bn (iA ys b) a) b;unfold iA;rw[na,nb];exact Fw _ b0 a0 (Ne.symm k.ne)
   ·unfold eG kV;rw[qm (ah ys a) (ah ys b),c4,na,nb];rfl
end
end Go.Tr
namespace Go.Tr
open Go Go.RowKit
def gI(f:Nat→Nat)(z:Int):Int:=bif decide (0≤z)then((f z.toNat:Nat):Int)else z
structure gD(f:Nat→Nat)(P Y:List aj):Prop where
 injF:∀i j:Nat,f i=f j→i=j
 zero:f 0=0
 ends:∀j:Nat,f (P.length+j)=Y.length+j
 at_:∀i:Nat,i<P.length→ah Y ((f i:Nat):Int)=Bp (gI f) (ah P (i:Nat))
 hole:∀k:Nat,k<Y.length→(∀i:Nat,f i≠k)→ah Y (k:Nat)=JR
theorem lQ(F:Int→Int)(a:aj):(Bp F a).2.2.2.2.length=a.2.2.2.2.length:=by unfold Bp;simp
section
variable {f:Nat→Nat}{P Y:List aj}{p q:aC}
theorem kK{z:Int}(h:0≤z):gI f z=((f z.toNat:Nat):Int):=by unfold gI;rw[decide_eq_true h];rfl
theorem w9{z:Int}(h:¬0≤z):gI f z=z:=by unfold gI;rw[decide_eq_false h];rfl
theorem wZ(k:Nat):gI f ((k:Nat):Int)=((f k:Nat):Int):=by rw[kK (by omega),qK]
theorem gD.inj(h:gD f P Y){i j:Nat}(e:f i=f j):i=j:=h.injF i j e
theorem gD.len(h:gD f P Y):f P.length=Y.length:=h.ends 0
theorem gD.ltl(h:gD f P Y){i:Nat}:f i<Y.length↔i<P.length:=by
 constructor
 ·intro e;rcases Nat.lt_or_ge i P.length with k|k
  ·exact k
  ·have:=h.ends (i-P.length);rw[show P.length+(i-P.length)=i by omega]at this;omega
 ·intro e;rcases Nat.lt_or_ge (f i) Y.length with k|k
  ·exact k
  ·have:=h.ends (f i-Y.length);have:=h.injF (P.length+(f i-Y.length)) i (by omega);omega
theorem gD.ZL(h:gD f P Y){z:Int}:(0≤gI f z∧gI f z<(Y.length:Nat))↔(0≤z∧z<(P.length:Nat)):=by
 by_cases h0:0≤z
 ·rw[kK h0];have k:=h.ltl (i:=z.toNat);constructor
  ·rintro⟨_,h2⟩;have:=k.1 (by omega);omega
  ·rintro⟨_,h2⟩;have:=k.2 (by omega);omega
 ·rw[w9 h0];constructor
  ·rintro⟨h1,_⟩;exact absurd h1 h0
  ·rintro⟨h1,_⟩;exact absurd h1 h0
theorem gD.Yn(h:gD f P Y){a b:Int}:gI f a=gI f b↔a=b:=by
 constructor
 ·intro e
  by_cases ha:0≤a
  ·by_cases hb:0≤b
   ·rw[kK ha,kK hb]at e;have:=h.inj (i:=a.toNat) (j:=b.toNat) (by omega);omega
   ·rw[kK ha,w9 hb]at e;omega
  ·by_cases hb:0≤b
   ·rw[w9 ha,kK hb]at e;omega
   ·rw[w9 ha,w9 hb]at e;exact e
 ·intro e;rw[e]
theorem gD.Fh(h:gD f P Y){z:Int}(h0:0≤z)(h1:z<(P.length:Nat)):ah Y (gI f z)=Bp (gI f) (ah P z):=by
 have k:=h.at_ z.toNat (by omega);rw[show((z.toNat:Nat):Int)=z by omega]at k;rw[kK h0];exact k
theorem gD.pin(h:gD f P Y):ak Y (tu (gI f) p)↔ak P p:=by
 constructor
 ·rintro⟨h1,h2,h3,h4⟩;have k:=h.ZL.1 ⟨h1,h2⟩;refine⟨k.1,k.2,h3,?_⟩;have h5:p.2<((ah Y (gI f p.1)).2.2.2.2.length:Nat):=h4;rw[h.Fh k.1 k.2,lQ]at h5;exact h5
 ·rintro⟨h1,h2,h3,h4⟩;have k:=h.ZL.2 ⟨h1,h2⟩;refine⟨k.1,k.2,h3,?_⟩;show p.2<((ah Y (gI f p.1)).2.2.2.2.length:Nat);rw[h.Fh h1 h2,lQ];exact h4
theorem gD.peer(h:gD f P Y)(hp:ak P p):ay Y (tu (gI f) p)=tu (gI f) (ay P p):=by
 obtain⟨h1,h2,h3,h4⟩:=hp;have h6:p.2<((ah P p.1).2.2.2.2.length:Nat):=h4;have h5:p.2.toNat<(ah P p.1).2.2.2.2.length:=by omega
 show elt (dflt bf) (ah Y (gI f p.1)).2.2.2.2 p.2=tu (gI f) (elt (dflt bf) (ah P p.1).2.2.2.2 p.2);rw[h.Fh h1 h2];show elt (dflt bf) ((ah P p.1).2.2.2.2.map (tu (gI f))) p.2=_;unfold elt;rw[qC,qC,qY,qB h5];rfl
theorem gD.set(h:gD f P Y){i:Nat}(hi:i<P.length)(a:aj):gD f (P.set i a) (Y.set (f i) (Bp (gI f) a)):=by
 refine⟨h.injF,h.zero,fun j=>by rw[List.length_set,List.length_set];exact h.ends j,fun j hj=> ?_,fun k hk hn=> ?_⟩
 ·rw[List.length_set]at hj;rw[kY,kY,qK,qK]
  by_cases e:i=j
  ·subst e;rw[if_pos ⟨rfl,h.ltl.2 hi⟩,if_pos ⟨rfl,hi⟩]
  ·rw[if_neg fun k=>e (h.inj k.1),if_neg fun k=>e k.1];exact h.at_ j hj
 ·rw[List.length_set]at hk;rw[kY,qK,if_neg fun e=>hn i e.1];exact h.hole k hk hn
theorem gD.app(h:gD f P Y)(a:aj):gD f (P++[a]) (Y++[Bp (gI f) a]):=by
 have hl:=h.len;refine⟨h.injF,h.zero,fun j=> ?_,fun j hj=> ?_,fun k hk hn=> ?_⟩
 ·have k:=h.ends (1+j);rw[qA,qA,qJ,qJ,Nat.add_assoc,Nat.add_assoc];exact k
 ·rw[qA,qJ]at hj
  by_cases e:j<P.length
  ·have e2:=h.ltl.2 e;rw[bZ (by rw[qK];exact e2),bZ (by rw[qK];exact e)];exact h.at_ j e
  ·have e2:j=P.length:=by omega
   subst e2;rw[pQ (by rw[qK];exact hl),pQ (by rw[qK])]
 ·rw[qA,qJ]at hk
  have hk2:k<Y.length:=by
   have:=hn P.length;omega
  rw[bZ (by rw[qK];exact hk2)];exact h.hole k hk2 hn
theorem Ud(h:f 0=0)(k l v:Int)(d:List Int)(n:Nat):Bp (gI f) (aX k l v d n)=aX k l v d n:=by
 have e:tu (gI f) (0,0)=(0,0):=by
  unfold tu;have:gI f 0=0:=by rw[kK (Int.le_refl 0)];show((f 0:Nat):Int)=0;rw[h];rfl
  rw[this]
 unfold Bp aX;simp only[List.map_replicate,e]
theorem gD.add(h:gD f P Y)(k l v:Int)(d:List Int)(n:Nat):gD f (P++[aX k l v d n]) (Y++[aX k l v d n]):=by
 have:=h.app (aX k l v d n)
 rwa[Ud h.zero]at this
theorem gD.drop(h:gD f P Y){z:Int}(h0:0≤z)(h1:z<(P.length:Nat)):gD f (bn P z) (bn Y (gI f z)):=by
 have k:=h.set (i:=z.toNat) (by omega) JR;unfold bn;rw[kK h0,qK];exact k
theorem gD.YT(h:gD f P Y)(h0:0≤p.1)(h1:p.1<(P.length:Nat)):gD f (aL P p q) (aL Y (tu (gI f) p) (tu (gI f) q)):=by
 have k:=h.set (i:=p.1.toNat) (by omega) ((ah P p.1).1,(ah P p.1).2.1,(ah P p.1).2.2.1,(ah P p.1).2.2.2.1,(ah P p.1).2.2.2.2.set p.2.toNat q)
 have e:aL Y (tu (gI f) p) (tu (gI f) q)=Y.set (f p.1.toNat) (Bp (gI f) ((ah P p.1).1,(ah P p.1).2.1,(ah P p.1).2.2.1,(ah P p.1).2.2.2.1,(ah P p.1).2.2.2.2.set p.2.toNat q)):=by
  unfold aL;show Y.set (gI f p.1).toNat ((ah Y (gI f p.1)).1,(ah Y (gI f p.1)).2.1,(ah Y (gI f p.1)).2.2.1,(ah Y (gI f p.1)).2.2.2.1,(ah Y (gI f p.1)).2.2.2.2.set p.2.toNat (tu (gI f) q))=_;rw[h.Fh h0 h1,kK h0,qK];unfold Bp;simp only[List.map_set]
 rw[e];exact k
theorem gD.link(h:gD f P Y)(hp:ak P p)(hq:ak P q):gD f (bE P p q) (bE Y (tu (gI f) p) (tu (gI f) q)):=by
 unfold bE;exact(h.YT hp.1 hp.2.1).YT hq.1 (by rw[bW];exact hq.2.1)
theorem gD.move(h:gD f P Y)(hA:bO P)(hp:ak P p)(hq:ak P q):gD f (bX P p q) (bX Y (tu (gI f) p) (tu (gI f) q)):=by
 unfold bX;rw[h.peer hp];exact h.link (hA p hp) hq
theorem gD.join(h:gD f P Y)(hA:bO P)(hp:ak P p)(hq:ak P q):gD f (aY P p q) (aY Y (tu (gI f) p) (tu (gI f) q)):=by
 unfold aY;rw[h.peer hp,h.peer hq]
 have e:((tu (gI f) (ay P p)).1==(tu (gI f) q).1)=((ay P p).1==q.1):=by
  rw[Bool.eq_iff_iff,beq_iff_eq,beq_iff_eq];exact h.Yn
 rw[e];show gD f _ (bif ((ay P p).1==q.1&&(ay P p).2==q.2)then Y else bE Y (tu (gI f) (ay P p)) (tu (gI f) (ay P q)));cases ((ay P p).1==q.1&&(ay P p).2==q.2)
 ·exact h.link (hA p hp) (hA q hq)
 ·exact h
theorem gD.nl(h:gD f P Y)(j:Nat)(s:Int):tu (gI f) (((P.length+j:Nat):Int),s)=(((Y.length+j:Nat):Int),s):=by
 unfold tu;rw[wZ,h.ends]
theorem gD.n0(h:gD f P Y)(s:Int):tu (gI f) (((P.length:Nat):Int),s)=(((Y.length:Nat):Int),s):=h.nl 0 s
variable {x y c d:Int}
theorem gD.mO(h:gD f P Y){i:Nat}(hx:0≤x∧x<(P.length:Nat))(hc:ak P (c,(i:Nat)))(hd:ak P (d,(i:Nat))):gD f (mO x c d P i) (mO (gI f x) (gI f c) (gI f d) Y i):=by
 have e:(ah Y (gI f x)).2.1=(ah P x).2.1:=by rw[h.Fh hx.1 hx.2];rfl
 unfold Tr.mO;rw[e];have h1:=h.add 4 (ah P x).2.1 0 [] 3;have h2:=h1.link (p:=((P.length:Nat),1)) (q:=(c,(i:Nat))) (ak.new (by decide) (by decide)) hc.app;have h3:=h2.link (p:=((P.length:Nat),2)) (q:=(d,(i:Nat))) (ak.link (ak.new (by decide) (by decide))) hd.app.link;rw[h.n0 1,h.n0 2]at h3;exact h3
theorem gD.bV(h:gD f P Y)(hx:0≤x∧x<(P.length:Nat)):∀k:Nat,(∀i:Nat,i≤k→ak P (c,(i:Nat))∧ak P (d,(i:Nat)))→gD f (bV x c d P k) (bV (gI f x) (gI f c) (gI f d) Y k)
 |0,_=>h
 |k+1,hk=>(h.bV hx k fun i hi=>hk i (by omega)).mO (by rw[jh];omega) (dx (hk (k+1) (Nat.le_refl _)).1 k) (dx (hk (k+1) (Nat.le_refl _)).2 k)
theorem gD.cB(h:gD f P Y){b b2:Nat}(hA:bO P)(hb:∀i:Nat,f (b+i)=b2+i):∀k:Nat,(∀i:Nat,i<k→ak P (y,((i:Nat):Int)+1)∧ak P (((b+i:Nat):Int),0))→gD f (cB y b P k) (cB (gI f y) b2 Y k)
 |0,_=>h
 |k+1,hk=>by
  have ih:=h.cB hA hb k fun i hi=>hk i (by omega)
  have k1:=ih.move (mQ hA k fun i hi=>hk i (by omega)) (fM (hk k (by omega)).1 k) (fM (hk k (by omega)).2 k);have e:tu (gI f) (((b+k:Nat):Int),0)=(((b2+k:Nat):Int),0):=by unfold tu;rw[wZ,hb]
  rw[e]at k1;exact k1
theorem gD.duplicate(h:gD f P Y)(hA:bO P)(h0:ak P (0,0))(hx:0≤x∧x<(P.length:Nat))(hy:0≤y∧y<(P.length:Nat))(hx1:ak P (x,1))(hx2:ak P (x,2))(py:0<(ah P y).2.2.2.2.length):gD f (bM P x y) (bM Y (gI f x) (gI f y)):=by
 have ey:=h.Fh hy.1 hy.2;have en:(ah Y (gI f y)).2.2.2.2.length=(ah P y).2.2.2.2.length:=by rw[ey];exact lQ _ _
 have eC:lg Y (gI f y)=lg P y:=by unfold lg;rw[en,ey];rfl
 have h2:gD f (dup2 P y) (dup2 Y (gI f y)):=by
  unfold dup2;rw[eC];exact(h.add _ _ _ _ _).add _ _ _ _ _
 have ec:gI f ((P.length:Nat):Int)=((Y.length:Nat):Int):=by rw[wZ,h.len]
 have ed:gI f ((P.length+1:Nat):Int)=((Y.length+1:Nat):Int):=by rw[wZ,h.ends 1]
 have hcd:∀i:Nat,i≤(ah P y).2.2.2.2.length-1→ak (dup2 P y) (((P.length:Nat):Int),(i:Nat))∧ak (dup2 P y) (((P.length+1:Nat):Int),(i:Nat)):=fun i hi=>⟨uO (by omega) (by omega),uP (by omega) (by omega)⟩
 have h3:gD f (dup3 P x y) (dup3 Y (gI f x) (gI f y)):=by
  unfold dup3;rw[en,←ec,←ed];exact h2.bV (by rw[iF];omega) _ hcd
 have h2A:=yT (y:=y) hA h0;have h3A:bO (dup3 P x y):=nZ h2A (o8 h0) _ hcd;have i3:∀{p},ak P p→ak (dup3 P x y) p:=fun h=>dx (o8 h) _
 have hc0:ak (dup3 P x y) (((P.length:Nat):Int),0):=dx (uO (by decide) (by omega)) _;have hd0:ak (dup3 P x y) (((P.length+1:Nat):Int),0):=dx (uP (by decide) (by omega)) _;have h4A:bO (mH P x y):=(h3A.move (i3 hx1) hc0).move (i3 hx2).move hd0.move
 have h4:gD f (mH P x y) (mH Y (gI f x) (gI f y)):=by
  have k:=(h3.move h3A (i3 hx1) hc0).move (h3A.move (i3 hx1) hc0) (i3 hx2).move hd0.move;rw[h.n0 0,h.nl 1 0]at k;exact k
 unfold bM;rw[en];refine h4.cB h4A (fun i=>by rw[Nat.add_assoc,Nat.add_assoc];exact h.ends (2+i)) _ fun i hi=>⟨(i3 ⟨hy.1,hy.2,by omega,?_⟩).move.move,?_⟩
 ·show((i:Nat):Int)+1<((ah P y).2.2.2.2.length:Nat);omega
 ·have:=(tL (x:=x) (c:=((P.length:Nat):Int)) (d:=((P.length+1:Nat):Int)) (xs:=dup2 P y) hi).move (p:=(x,1)) (q:=(((P.length:Nat):Int),0));have:=this.move (p:=(x,2)) (q:=(((P.length+1:Nat):Int),0));rw[iF]at this;exact this
theorem gD.r9(h:gD f P Y)(hA:bO P)(h0:ak P (0,0)):∀k:Nat,(∀i:Nat,i<k→ak P (y,((i+1:Nat):Int)))→gD f (r9 y P k) (r9 (gI f y) Y k)
 |0,_=>h
 |k+1,hk=>by
  have ih:=h.r9 hA h0 k fun i hi=>hk i (by omega)
  have k1:=(ih.add 5 0 0 [] 1).move ((yX hA h0 k fun i hi=>hk i (by omega)).add (sQ h0 k) _ _ _ _ _) (sQ (hk k (by omega)) k).app (BP k);rw[h.nl k 0]at k1;exact k1
theorem gD.operate(h:gD f P Y)(hA:bO P)(h0:ak P (0,0))(hx:0≤x∧x<(P.length:Nat))(hy:0≤y∧y<(P.length:Nat))(j1:ak P (y,1))(j2:(ah P y).1=7→ak P (y,2)):gD f (bB P x y) (bB Y (gI f x) (gI f y)):=by
 unfold bB;rw[h.Fh hx.1 hx.2,h.Fh hy.1 hy.2]
 show gD f _ (bif (ah P y).1==7 then bX (bX (Y++[aX 8 (ah P y).2.1 (ah P y).2.2.1 [(ah P x).2.2.1] 2]) (gI f y,1) ((Y.length:Nat),0)) (gI f y,2) ((Y.length:Nat),1)
  else bX (Y++[aX 6 0 (vJ (ah P y).2.2.1 (jN (ah P y).2.2.2.1 0) (ah P x).2.2.1) [] 1]) (gI f y,1) ((Y.length:Nat),0))
 cases hk:(ah P y).1==7 with
 |true=>
  have k7:=j2 (by simpa using hk);have A1:=hA.add h0 8 (ah P y).2.1 (ah P y).2.2.1 [(ah P x).2.2.1] 2;have k:=((h.add 8 (ah P y).2.1 (ah P y).2.2.1 [(ah P x).2.2.1] 2).move (p:=(y,1)) (q:=((P.length:Nat),0)) A1 j1.app (ak.new (by decide) (by decide))).move (p:=(y,2)) (q:=((P.length:Nat),1)) (A1.move j1.app (ak.new (by decide) (by decide))) k7.app.move (ak.new (by decide) (by decide)).move;rw[h.n0 0,h.n0 1]at k;exact k
 |false=>
  have k:=(h.add 6 0 (vJ (ah P y).2.2.1 (jN (ah P y).2.2.2.1 0) (ah P x).2.2.1) [] 1).move (p:=(y,1)) (q:=((P.length:Nat),0)) (hA.add h0 _ _ _ _ _) j1.app (ak.new (by decide) (by decide));rw[h.n0 0]at k;exact k
theorem gD.iN(h:gD f P Y)(hb:tu (gI f) (Tr.iN P.length 0)=Tr.iN Y.length 0):∀k:Nat,tu (gI f) (Tr.iN P.length k)=Tr.iN Y.length k
 |0=>hb
 |k+1=>h.nl k 2
theorem gD.sW(h:gD f P Y){lv:Int}(hA:bO P)(h0:ak P (0,0))(hr:ak P (Tr.iN P.length 0))(hb:tu (gI f) (Tr.iN P.length 0)=Tr.iN Y.length 0):∀k:Nat,(∀i:Nat,i<k→ak P (x,((i+1:Nat):Int)))→gD f (Tr.sW lv x P.length P k) (Tr.sW lv (gI f x) Y.length Y k)
 |0,_=>h
 |k+1,hk=>by
  have ih:=h.sW (lv:=lv) hA h0 hr hb k fun i hi=>hk i (by omega)
  have A2:=(yO (lv:=lv) hA h0 hr k fun i hi=>hk i (by omega)).add (qj h0 k) 3 lv 0 [] 3;have A3:=A2.link (yN hr k).app (wU k (s:=0) (by decide) (by decide));have i1:=(ih.add 3 lv 0 [] 3).link (p:=Tr.iN P.length k) (q:=(((P.length+k:Nat):Int),0)) (yN hr k).app (wU k (by decide) (by decide));have i2:=i1.move (p:=(x,((k+1:Nat):Int))) (q:=(((P.length+k:Nat):Int),1)) A3 (qj (hk k (by omega)) k).app.link (wU k (by decide) (by decide)).link;rw[h.iN hb k,h.nl k 0,h.nl k 1]at i2;exact i2
theorem gD.choose(h:gD f P Y)(hA:bO P)(h0:ak P (0,0))(hx:0≤x∧x<(P.length:Nat))(hy:0≤y∧y<(P.length:Nat))(j1:ak P (y,1)):gD f (eY P x y) (eY Y (gI f x) (gI f y)):=by
 have ex:=h.Fh hx.1 hx.2;have ey:=h.Fh hy.1 hy.2;have en:(ah Y (gI f x)).2.2.2.2.length=(ah P x).2.2.2.2.length:=by rw[ex];exact lQ _ _
 have eR:∀i,gD f (bG P y i) (bG Y (gI f y) i):=fun i=>by
  unfold bG;rw[ey];exact h.add _ _ _ _ _
 unfold eY;rw[en,ex,ey]
 show gD f _ (bif (ah P y).1==11 then bX (bG Y (gI f y) (bif (ah P x).2.2.1==0 then 1 else 0)) (gI f y,1) ((Y.length:Nat),0)
  else bX (Tr.sW (ah P y).2.1 (gI f x) (Y.length+1) (bG Y (gI f y) (ah P x).2.2.1) ((ah P x).2.2.2.2.length-1)) (gI f y,1) (Tr.iN (Y.length+1) ((ah P x).2.2.2.2.length-1)))
 cases hk:(ah P y).1==11 with
 |true=>
  have k:=(eR (bif (ah P x).2.2.1==0 then 1 else 0)).move (p:=(y,1)) (q:=((P.length:Nat),0)) (hA.add h0 _ _ _ _ _) j1.app (ak.new (by decide) (by decide));rw[h.n0 0]at k;exact k
 |false=>
  simp only[qH];have h1:=eR (ah P x).2.2.1;have l1:(bG P y (ah P x).2.2.1).length=P.length+1:=tK _ _ _;have l2:(bG Y (gI f y) (ah P x).2.2.1).length=Y.length+1:=tK _ _ _;have h1A:bO (bG P y (ah P x).2.2.1):=hA.add h0 _ _ _ _ _;have h1R:ak (bG P y (ah P x).2.2.1) (Tr.iN (bG P y (ah P x).2.2.1).length 0):=by rw[l1];exact ak.new (by decide) (by decide)
  have hb:tu (gI f) (Tr.iN (bG P y (ah P x).2.2.1).length 0)=Tr.iN (bG Y (gI f y) (ah P x).2.2.1).length 0:=by rw[l1,l2];exact h.n0 0
  have hpx:∀i:Nat,i<(ah P x).2.2.2.2.length-1→ak (bG P y (ah P x).2.2.1) (x,((i+1:Nat):Int)):=fun i hi=>ak.app ⟨hx.1,hx.2,by omega,by show((i+1:Nat):Int)<((ah P x).2.2.2.2.length:Nat);omega⟩
  have h2:=h1.sW (lv:=(ah P y).2.1) h1A (ak.app h0) h1R hb _ hpx;have h2A:=yO (lv:=(ah P y).2.1) h1A (ak.app h0) h1R _ hpx;have k:=h2.move (p:=(y,1)) h2A (qj (ak.app j1) _) (yN h1R ((ah P x).2.2.2.2.length-1));rw[h1.iN hb,l1,l2]at k;exact k
end
end Go.Tr
namespace Go.Tr
open Go Go.RowKit
section
variable {f:Nat→Nat}{P Y:List aj}{x y c:Int}{bk:List (List aj)}
theorem FI(lv b:Int)(t:List aj):om lv b t (t.length-1)=((bU lv t).drop 1).map (bQ b):=by
 unfold om;rw[qN (by rw[List.length_drop,lS];exact Nat.le_refl _)]
theorem vD{xs:List aj}{z s:Int}{q:aC}(h0:0≤z)(h1:z<(xs.length:Nat)):ah (aL xs (z,s) q) z=((ah xs z).1,(ah xs z).2.1,(ah xs z).2.2.1,(ah xs z).2.2.2.1,(ah xs z).2.2.2.2.set s.toNat q):=by
 rw[dW];exact if_pos ⟨rfl,by show z.toNat<xs.length;omega⟩
theorem kZ{xs:List aj}{z s i:Int}{q:aC}(h:z.toNat≠i.toNat):ah (aL xs (z,s) q) i=ah xs i:=by
 rw[dW];exact if_neg fun k=>h k.1
theorem Qx{α:Type}{u v:List α}{s:Nat}{w:α}(hl:u.length=v.length)(h:∀k:Nat,k≠s→u[k]? =v[k]?):u.set s w=v.set s w:=by
 apply List.ext_getElem?;intro k;rw[List.getElem?_set,List.getElem?_set,hl]
 by_cases e:s=k
 ·rw[if_pos e,if_pos e]
 ·rw[if_neg e,if_neg e];exact h k (Ne.symm e)
theorem gD.Uu(h:gD f P Y){t:List aj}{b b2:Int}{z:aC}(ht:gK (fun p=>ak t p) t)(h0:ak t (0,0))(h00:∀p,ak t p→p.1=0→p=(0,0))(hb:b=(P.length:Int)-1)(hb2:b2=(Y.length:Int)-1):
  gD f (aL (P++(t.drop 1).map (bQ b)) ((ay t (0,0)).1+b,(ay t (0,0)).2) z) (aL (Y++(t.drop 1).map (bQ b2)) ((ay t (0,0)).1+b2,(ay t (0,0)).2) (tu (gI f) z)):=by
 obtain⟨r1,r2,r3,r4⟩:=ht (0,0) h0
 have rpos:1≤(ay t (0,0)).1:=by
  have h1:=r2.1
  by_cases e:(ay t (0,0)).1=0
  ·exact absurd (h00 _ r2 e) r4
  ·omega
 have rlt:=r2.2.1;have r3n:=r2.2.2.1
 have key:∀(j:Nat),j+1<t.length→∀(k:Nat) (u:aC),(ah t ((j+1:Nat):Int)).2.2.2.2[k]? =some u→¬((ay t (0,0)).1=((j+1:Nat):Int)∧(ay t (0,0)).2.toNat=k)→tu (gI f) (u.1+b,u.2)=(u.1+b2,u.2):=fun j hj k u hu hne=>by
  have hk:=(qE.1 hu).1;have pin:ak t (((j+1:Nat):Int),((k:Nat):Int)):=⟨by show(0:Int)≤(j+1:Nat);omega,by show((j+1:Nat):Int)<(t.length:Nat);omega,by show(0:Int)≤(k:Nat);omega,by show((k:Nat):Int)<((ah t ((j+1:Nat):Int)).2.2.2.2.length:Nat);omega⟩
  have pe:ay t (((j+1:Nat):Int),((k:Nat):Int))=u:=by
   show elt (dflt bf) (ah t ((j+1:Nat):Int)).2.2.2.2 ((k:Nat):Int)=u;unfold elt;rw[qK,qC,hu];rfl
  obtain⟨_,w2,w3,w4⟩:=ht _ pin;rw[pe]at w2 w3;have w1:=w2.1
  have u1:1≤u.1:=by
   by_cases e:u.1=0
   ·exfalso;rw[h00 u w2 e]at w3;refine hne ⟨congrArg Prod.fst w3,?_⟩;have k2:(ay t (0,0)).2=((k:Nat):Int):=congrArg Prod.snd w3;omega
   ·omega
  have hE:=h.ends (u.1.toNat-1);unfold tu;show(gI f (u.1+b),u.2)=(u.1+b2,u.2);rw[show u.1+b=((P.length+(u.1.toNat-1):Nat):Int) by omega,wZ,hE];exact Prod.ext (show((Y.length+(u.1.toNat-1):Nat):Int)=u.1+b2 by omega) rfl
 generalize ay t (0,0)=R at*;obtain⟨Ra,Rs⟩:=R;have rpos':1≤Ra:=rpos;have rlt':Ra<(t.length:Nat):=rlt;have rs':0≤Rs:=r3n;refine⟨h.injF,h.zero,fun j=> ?_,fun i hi=> ?_,fun k hk hn=> ?_⟩
 ·rw[bW,bW,qA,qA,mg,mg,Nat.add_assoc,Nat.add_assoc];exact h.ends _
 ·rw[bW,qA,mg]at hi;show ah (aL (Y++(t.drop 1).map (bQ b2)) (Ra+b2,Rs) (tu (gI f) z)) ((f i:Nat):Int)=Bp (gI f) (ah (aL (P++(t.drop 1).map (bQ b)) (Ra+b,Rs) z) ((i:Nat):Int))
  by_cases e:i<P.length
  ·have e2:=h.ltl.2 e;rw[kZ (by omega),kZ (by omega),bZ (by omega),bZ (by omega)];exact h.at_ i e
  ·obtain⟨j,rfl⟩:∃j,i=P.length+j:=⟨i-P.length,by omega⟩;have hj:j+1<t.length:=by omega
   have ef:=h.ends j;have a1:=qg (xs:=P) (t:=t) hb (i:=((P.length+j:Nat):Int)) (by omega) (by omega);have a2:=qg (xs:=Y) (t:=t) hb2 (i:=((Y.length+j:Nat):Int)) (by omega) (by omega);rw[show((P.length+j:Nat):Int)-b=((j+1:Nat):Int) by omega]at a1;rw[show((Y.length+j:Nat):Int)-b2=((j+1:Nat):Int) by omega]at a2;have kj:=key j hj;rw[ef];generalize ah t ((j+1:Nat):Int)=A at*;have l1:(P++(t.drop 1).map (bQ b)).length=P.length+(t.length-1):=by rw[qA,mg]
   have l2:(Y++(t.drop 1).map (bQ b2)).length=Y.length+(t.length-1):=by rw[qA,mg]
   by_cases hR:Ra=((j+1:Nat):Int)
   ·rw[show Ra+b2=((Y.length+j:Nat):Int) by omega,show Ra+b=((P.length+j:Nat):Int) by omega,vD (by omega) (by rw[l2];omega),vD (by omega) (by rw[l1];omega),a1,a2];unfold Bp bQ;simp only[List.map_set,List.map_map]
    congr 4
    refine Qx (by simp) fun k hk=> ?_
    rw[qY,qY];cases hu:A.2.2.2.2[k]? with
    |none=>rfl
    |some u=>
     show some _=some _;have:=kj k u hu fun e=>hk e.2.symm
     exact congrArg some this.symm
   ·rw[kZ (by omega),kZ (by omega),a1,a2];unfold Bp bQ;simp only[List.map_map]
    congr 4
    apply List.ext_getElem?;intro k;rw[qY,qY];cases hu:A.2.2.2.2[k]? with
    |none=>rfl
    |some u=>
     show some _=some _;have:=kj k u hu fun e=>hR e.1
     exact congrArg some this.symm
 ·rw[bW,qA,mg]at hk
  have hk2:k<Y.length:=by
   rcases Nat.lt_or_ge k Y.length with e|e
   ·exact e
   ·have h1:=h.ends (k-Y.length);exact absurd (by rw[h1];omega) (hn (P.length+(k-Y.length)))
  show ah (aL (Y++(t.drop 1).map (bQ b2)) (Ra+b2,Rs) (tu (gI f) z)) ((k:Nat):Int)=JR;rw[kZ (by omega),bZ (by omega)];exact h.hole k hk2 hn
theorem gD.expand(h:gD f P Y){t:List aj}{lv:Int}(hy:ak P (y,0))(ht:gK (fun p=>ak t p) t)(h0:ak t (0,0))(h00:∀p,ak t p→p.1=0→p=(0,0)):gD f (iG t lv P y) (iG t lv Y (gI f y)):=by
 unfold iG;rw[FI,FI];have k:=h.Uu (t:=bU lv t) (z:=(y,0)) (b:=(P.length:Int)-1) (b2:=(Y.length:Int)-1) ht.shift (ak.gT.2 h0) (fun p hp e=>h00 p (ak.gT.1 hp) e) rfl rfl;rw[oD h0]at k;have k2:=k.YT (p:=(y,0)) (q:=((ay t (0,0)).1+((P.length:Int)-1),(ay t (0,0)).2)) hy.1 (by rw[bW,qA];have:=hy.2.1;show y<_;have h3:y<(P.length:Nat):=this;omega);obtain⟨r1,r2,r3,r4⟩:=ht (0,0) h0
 have rpos:1≤(ay t (0,0)).1:=by
  have h1:=r2.1
  by_cases e:(ay t (0,0)).1=0
  ·exact absurd (h00 _ r2 e) r4
  ·omega
 have hE:=h.ends ((ay t (0,0)).1.toNat-1)
 have e:tu (gI f) ((ay t (0,0)).1+((P.length:Int)-1),(ay t (0,0)).2)=((ay t (0,0)).1+((Y.length:Int)-1),(ay t (0,0)).2):=by
  unfold tu;show(gI f _,_)=_;rw[show(ay t (0,0)).1+((P.length:Int)-1)=((P.length+((ay t (0,0)).1.toNat-1):Nat):Int) by omega,wZ,hE];exact Prod.ext (show((Y.length+((ay t (0,0)).1.toNat-1):Nat):Int)=(ay t (0,0)).1+((Y.length:Int)-1) by omega) rfl
 rw[e]at k2;unfold bE;rw[show((P.length:Nat):Int)-1+(ay t (0,0)).1=(ay t (0,0)).1+((P.length:Int)-1) by omega,show((Y.length:Nat):Int)-1+(ay t (0,0)).1=(ay t (0,0)).1+((Y.length:Int)-1) by omega];exact k2
theorem gD.inter(h:gD f P Y)(hp:Le P c x y)(hA:bO P)(h0:ak P (0,0))(hc:1≤c∧c≤7)(hb:BkW bk)(h7:c=7→(0≤(ah P x).2.2.1∧(ah P x).2.2.1<(bk.length:Nat))):gD f (jX bk P c x y) (jX bk Y c (gI f x) (gI f y)):=by
 obtain⟨⟨hx0,hy0,p12,p3,px,py,dy,p5,p6⟩,s5,s6⟩:=hp;have hcs:c=1∨c=2∨c=3∨c=4∨c=5∨c=6∨c=7:=by omega
 rcases hcs with rfl|rfl|rfl|rfl|rfl|rfl|rfl
 ·obtain⟨j1,j2,j3,j4⟩:=p12 (.inl rfl);exact(h.join hA j1 j3).join (hA.join j1 j3) j2.join j4.join
 ·obtain⟨j1,j2,j3,j4⟩:=p12 (.inr rfl);exact(h.join hA j1 j3).join (hA.join j1 j3) j2.join j4.join
 ·obtain⟨hx1,hx2⟩:=p3 rfl;exact h.duplicate hA h0 hx0 hy0 hx1 hx2 py.1
 ·show gD f (iA P y) (iA Y (gI f y));unfold iA;rw[h.Fh hy0.1 hy0.2,lQ];exact h.r9 hA h0 _ fun i hi=>⟨hy0.1,hy0.2,by omega,by show((i+1:Nat):Int)<((ah P y).2.2.2.2.length:Nat);omega⟩
 ·obtain⟨j1,j2,j3⟩:=p5 rfl;exact h.operate hA h0 hx0 hy0 j1 j2
 ·obtain⟨j1,j2,j3⟩:=p6 rfl;exact h.choose hA h0 hx0 hy0 j1
 ·obtain⟨v0,v1⟩:=h7 rfl;show gD f (iG (bJ bk (ah P x).2.2.1) (ah P x).2.1 P y) (iG (bJ bk (ah Y (gI f x)).2.2.1) (ah Y (gI f x)).2.1 Y (gI f y));rw[h.Fh hx0.1 hx0.2];exact h.expand ⟨hy0.1,hy0.2,Int.le_refl 0,by show(0:Int)<((ah P y).2.2.2.2.length:Nat);omega⟩ (hb.wi _ v0 v1) (hb.r0 _ v0 v1) (hb.r1 _ v0 v1)
theorem gD.done(h:gD f P Y)(hp:Le P c x y)(hA:bO P)(h0:ak P (0,0))(hc:1≤c∧c≤7)(hb:BkW bk)(h7:c=7→(0≤(ah P x).2.2.1∧(ah P x).2.2.1<(bk.length:Nat))):gD f (dP bk P c x y) (dP bk Y c (gI f x) (gI f y)):=by
 have k:=h.inter (bk:=bk) hp hA h0 hc hb h7;have hle:=FQ (xs:=P) bk c x y;have hx:=hp.x0;have hy:=hp.y0;have k1:=k.drop hx.1 (by omega);unfold dP;cases c==7
 ·exact k1.drop hy.1 (by rw[iK];omega)
 ·exact k1
end
end Go.Tr
namespace Go.Tr
open Go Go.RowKit
theorem zT(F:Int→Int)(u v:aj):aS (Bp F u) (Bp F v)=aS u v:=rfl
theorem Gg(bk:List (List aj))(F:Int→Int)(c:Int)(u v:aj):kV bk c (Bp F u) (Bp F v)=kV bk c u v:=by
 unfold kV nS;rw[lQ,lQ];rfl
theorem R4(bk:List (List aj))(F:Int→Int)(u v:aj):eG bk (Bp F u) (Bp F v)=eG bk u v:=by
 unfold eG;rw[zT,Gg,Gg];rfl
theorem uo{kv:List (Int×Bool)}(hT:∀e∈kv,e.2=true){c x y:Int}(hx:cZ false kv x=false)(hy:cZ false kv y=false)(hxy:x≠y):(gy kv (bR c x y)).length=kv.length+(bR c x y).length:=by
 unfold bR;cases c==7 with
 |true=>exact tV hT hx
 |false=>
  show(fH (fH kv x true) y true).length=kv.length+2;rw[tV (Il hT x) (by rw[xq,if_neg hxy];exact hy),tV hT hx]
theorem jr{kv:List (Int×Bool)}{i:Int}(h:¬Gone kv i):cZ false kv i=false:=by
 cases hq:cZ false kv i with
 |true=>exact absurd hq h
 |false=>rfl
def SL(F:Int→Int)(e:aB):aB:=(min (F e.1) (F e.2.1),max (F e.1) (F e.2.1),e.2.2.1,e.2.2.2.1,e.2.2.2.2)
section
variable {f:Nat→Nat}{P Y:List aj}{a b:Int}{bk:List (List aj)}{e:aB}
theorem gD.first(h:gD f P Y)(ha:0≤a∧a<(P.length:Nat))(hb:0≤b∧b<(P.length:Nat)):au Y (gI f a) (gI f b)=(gI f (au P a b).1,gI f (au P a b).2):=by
 unfold au;rw[h.Fh ha.1 ha.2,h.Fh hb.1 hb.2];show(bif aQ (ah P a).1 (ah P a).2.1 (ah P b).1 (ah P b).2.1==2 then _ else _)=_;cases aQ (ah P a).1 (ah P a).2.1 (ah P b).1 (ah P b).2.1==2<;>rfl
theorem gD.nU(h:gD f P Y)(ha:0≤a∧a<(P.length:Nat))(hb:0≤b∧b<(P.length:Nat)):Tr.nU Y (gI f a) (gI f b)=Tr.nU P a b:=by
 have hf:=Aa (xs:=P) ha hb;unfold Tr.nU;rw[h.first ha hb];show aS (ah Y (gI f (au P a b).1)) (ah Y (gI f (au P a b).2))=_;rw[h.Fh hf.1.1 hf.1.2,h.Fh hf.2.1 hf.2.2,zT]
theorem gD.ZI(h:gD f P Y)(ha:0≤a∧a<(P.length:Nat))(hb:0≤b∧b<(P.length:Nat)):eG bk (ah Y (au Y (gI f a) (gI f b)).1) (ah Y (au Y (gI f a) (gI f b)).2)=eG bk (ah P (au P a b).1) (ah P (au P a b).2):=by
 have hf:=Aa (xs:=P) ha hb;rw[h.first ha hb];simp only;rw[h.Fh hf.1.1 hf.1.2,h.Fh hf.2.1 hf.2.2,R4]
structure Sm(f:Nat→Nat)(P Y:List aj):Prop where
 r:gD f P Y
 len:P.length=Y.length
 tw:∃kp xp ky xy,Twin kp xp P∧Twin ky xy Y∧kp.length=ky.length
theorem Sm.live(h:Sm f P Y):eU P P.length=eU Y Y.length:=by
 obtain⟨kp,xp,ky,xy,T1,T2,e⟩:=h.tw;have h1:=T1.live;have h2:=T2.live;have h3:=T1.len;have h4:=T2.len;have:=h.len;omega
theorem gI_z(f:Nat→Nat)(z:Int):0≤z→0≤gI f z:=fun h=>by rw[kK h];omega
theorem Sm.play(h:Sm f P Y)(hb:BF bk)(hp:oI bk P e):oI bk Y (SL (gI f) e)∧Sm f (dR bk P e) (dR bk Y (SL (gI f) e)):=by
 obtain⟨a,b,cls,F,C⟩:=e;obtain⟨kp,xp,ky,xy,T1,T2,hk⟩:=h.tw;have ha:0≤a∧a<(P.length:Nat):=⟨hp.ta.1,hp.ta.2.1⟩;have hb':0≤b∧b<(P.length:Nat):=⟨hp.tb.1,hp.tb.2.1⟩;have ha2:=h.r.ZL.2 ha;have hb2:=h.r.ZL.2 hb';obtain⟨k1,ra,rb⟩:=T1.Gb hp.ta hp.tb hp.ac;have ea:=h.r.Fh ha.1 ha.2;have eb:=h.r.Fh hb'.1 hb'.2;have ta2:eO Y (gI f a):=⟨ha2.1,ha2.2,by rw[ea];exact hp.ta.2.2⟩;have tb2:eO Y (gI f b):=⟨hb2.1,hb2.2,by rw[eb];exact hp.tb.2.2⟩
 have nz:∀z:Int,0<z→0<gI f z:=fun z hz=>by
  have h0:=gI_z f z (by omega)
  have h1:gI f z≠0:=fun e=>by
   have e0:gI f 0=0:=by rw[kK (Int.le_refl 0)];show((f 0:Nat):Int)=0;rw[h.r.zero];rfl
   rw[←e0]at e;have:=h.r.Yn.1 e;omega
  omega
 have pa:ak P (a,0):=(T1.st.ag.port k1.px k1.lx).1;have pb:ak P (b,0):=(T1.st.ag.port k1.py k1.ly).1;have wab:ay P (a,0)=(b,0):=hp.ac.2.2
 have wba:ay P (b,0)=(a,0):=by
  have ks:=k1.symm T1.st;have:=ks.w;have e2:=(T1.st.ag.port k1.py k1.ly).2;rw[←e2]at this;exact this
 have w1:ay Y (gI f a,0)=(gI f b,0):=by
  have:=h.r.peer pa;rw[wab]at this;exact this
 have w2:ay Y (gI f b,0)=(gI f a,0):=by
  have:=h.r.peer pb;rw[wba]at this;exact this
 have hgr:=h.r.ZI (bk:=bk) ha hb';have hlv:=h.live;have I:=hp.UQ T1 hb;obtain⟨sp1,sp2,v7,_,_⟩:=T1.next I.k hb.toBkV I.rx I.ry I.hr I.hc I.cl I.h7;have kxl:=T1.at_ I.k.px.1 I.k.px.2.1 I.k.lx
 have rn:=h.r.done (bk:=bk) sp2 T1.Zf T1.p0y I.hc hb.toBkW fun e=>by
  have h7:=I.h7 e;rw[kxl];exact⟨v7 e,h7.1⟩
 have rn2:gD f (bN bk P a b) (bN bk Y (gI f a) (gI f b)):=by
  show gD f (dP bk P (Tr.nU P a b) (au P a b).1 (au P a b).2) (dP bk Y (Tr.nU Y (gI f a) (gI f b)) (au Y (gI f a) (gI f b)).1 (au Y (gI f a) (gI f b)).2);rw[h.r.nU ha hb',h.r.first ha hb'];exact rn
 have len2:(bN bk P a b).length=(bN bk Y (gI f a) (gI f b)).length:=by
  have l1:=rn2.ends 0
  have hle:P.length≤(bN bk P a b).length:=by
   have q:=(T1.Bl I hb.toBkV);have q2:(aV bk xp (Tr.nU P a b) (au P a b).1 (au P a b).2).length=xp.length+(lu bk xp (Tr.nU P a b) (au P a b).1 (au P a b).2).length:=q.2;have q3:=T1.len;have q4:(bN bk P a b).length=(aV bk xp (Tr.nU P a b) (au P a b).1 (au P a b).2).length:=q.1.len.symm;omega
  have l2:=h.r.ends ((bN bk P a b).length-P.length);have hln:=h.len;rw[Nat.add_zero,show(bN bk P a b).length=P.length+((bN bk P a b).length-P.length) by omega,l2]at l1;omega
 have key:∀a' b':Int,(a'=gI f a∧b'=gI f b)∨(a'=gI f b∧b'=gI f a)→a'<b'→bN bk Y a' b'=bN bk Y (gI f a) (gI f b)→kU bk Y a' b'=kU bk Y (gI f a) (gI f b)→aS (ah Y a') (ah Y b')=aS (ah P a) (ah P b)→
   iH bk Y (a',b',cls,F,C)=0:=fun a' b' hab hlt en eo ec=>by
  have ev:=hp.ev;have e1:aS (ah P a) (ah P b)=cls:=congrArg (fun e:aB=>e.2.2.1) ev;have e2:((P.length:Nat):Int)=F:=congrArg (fun e:aB=>e.2.2.2.1) ev;have e3:(((bN bk P a b).length:Nat):Int)-((P.length:Nat):Int)=C:=congrArg (fun e:aB=>e.2.2.2.2) ev
  have ho:kU bk Y (gI f a) (gI f b)=0:=by
   unfold kU;rw[hgr,←hlv,if_neg (by simpa using hp.gr),if_neg hp.fu]
  have hle:=hp.le
  have hab2:eO Y a'∧eO Y b'∧zO Y a' b':=by
   rcases hab with⟨r1,r2⟩|⟨r1,r2⟩
   ·rw[r1,r2]at hlt ⊢;exact⟨ta2,tb2,nz a hp.ac.1,hlt,w1⟩
   ·rw[r1,r2]at hlt ⊢;exact⟨tb2,ta2,nz b (by have:=hp.ac.1;have:=hp.ac.2.1;simp only at*;omega),hlt,w2⟩
  unfold iH;simp only;rw[if_neg (by simp[hab2.1,hab2.2.1]),if_neg (by simp[hab2.2.2]),eo,ho,if_neg (by simp),en,←len2,if_neg (by simp only at hle;omega),if_neg];simp only[ne_eq,Decidable.not_not];unfold RB;rw[en,ec,e1,←len2,←h.len,e3,e2]
 have hcl:aS (ah Y (gI f a)) (ah Y (gI f b))=aS (ah P a) (ah P b):=by rw[ea,eb,zT]
 have hne:gI f a≠gI f b:=fun e=>k1.ne (h.r.Yn.1 e)
 have sy:bN bk Y (gI f b) (gI f a)=bN bk Y (gI f a) (gI f b)∧kU bk Y (gI f b) (gI f a)=kU bk Y (gI f a) (gI f b):=by
  have pr:iM (Gone ky) xy (gI f a) (gI f b)∧(ah xy (gI f a)).1≠1∧(ah xy (gI f b)).1≠1:=by
   rcases Int.lt_or_gt_of_ne hne with hl|hl
   ·exact T2.Gb ta2 tb2 ⟨nz a hp.ac.1,hl,w1⟩
   ·obtain⟨q1,q2,q3⟩:=T2.Gb tb2 ta2 ⟨nz b (by have:=hp.ac.1;have:=hp.ac.2.1;simp only at*;omega),hl,w2⟩;exact⟨q1.symm T2.st,q3,q2⟩
  refine T2.symZ pr.1 pr.2.1 pr.2.2 ?_;rw[←T2.at_ pr.1.px.1 pr.1.px.2.1 pr.1.lx,←T2.at_ pr.1.py.1 pr.1.py.2.1 pr.1.ly,hcl];have h8:Tr.nU P a b≠8:=by have:=I.hc;simp only at this;omega
  have:=jl P a b;rw[←this];exact h8
 have fin:∀a' b':Int,min (gI f a) (gI f b)=a'→max (gI f a) (gI f b)=b'→iH bk Y (a',b',cls,F,C)=0→bN bk Y a' b'=bN bk Y (gI f a) (gI f b)→oI bk Y (SL (gI f) (a,b,cls,F,C))∧Sm f (dR bk P (a,b,cls,F,C)) (dR bk Y (SL (gI f) (a,b,cls,F,C))):=fun a' b' m1 m2 hpl en=>by
  have hm:SL (gI f) (a,b,cls,F,C)=(a',b',cls,F,C):=by unfold SL;simp only;rw[m1,m2]
  rw[hm];have hq:=lF.1 hpl;refine⟨hq,?_⟩;have J:=hq.UQ T2 hb;have n2:dR bk Y (a',b',cls,F,C)=bN bk Y (gI f a) (gI f b):=en;have t1:=hp.twin T1 hb;have t2:=hq.twin T2 hb;refine⟨by rw[n2];exact rn2,by rw[n2];exact len2,_,_,_,_,t1,t2,?_⟩;rw[uo T1.kt (jr I.k.lx) (jr I.k.ly) I.k.ne,uo T2.kt (jr J.k.lx) (jr J.k.ly) J.k.ne,hk]
  have hcc:Tr.nU Y a' b'=Tr.nU P a b:=by
   unfold Tr.nU;rw[jl,jl];have e1:aS (ah P a) (ah P b)=cls:=congrArg (fun e:aB=>e.2.2.1) hp.ev;have e2:aS (ah Y a') (ah Y b')=cls:=congrArg (fun e:aB=>e.2.2.1) hq.ev;rw[e1,e2]
  simp only;rw[hcc];unfold bR;cases Tr.nU P a b==7<;>rfl
 rcases Int.lt_or_gt_of_ne hne with hl|hl
 ·exact fin _ _ (Int.min_eq_left (by omega)) (Int.max_eq_right (by omega)) (key _ _ (.inl ⟨rfl,rfl⟩) hl rfl rfl hcl) rfl
 ·exact fin _ _ (Int.min_eq_right (by omega)) (Int.max_eq_left (by omega)) (key _ _ (.inr ⟨rfl,rfl⟩) hl sy.1 sy.2 (by rw[qm,hcl])) sy.1
theorem Sm.run(hb:BF bk):∀{es:List aB} {P Y:List aj},Sm f P Y→oG bk P es=0→oG bk Y (es.map (SL (gI f)))=0
 |[],_,_,_,_=>rfl
 |e::es,P,Y,h,hr=>by
  obtain⟨h1,h2⟩:=mq hr;obtain⟨p1,p2⟩:=h.play hb (lF.1 h1);rw[List.map_cons,uy (lF.2 p1)];exact Sm.run hb p2 h2
end
end Go.Tr
namespace Go.Tr
open Go Go.RowKit
theorem FP{bk:List (List aj)}{u v u' v':aj}(hu:sig u=sig u')(hv:sig v=sig v'):eG bk u v=eG bk u' v':=by
 have hc:=lK hu hv;unfold sig at hu hv;simp only[Prod.mk.injEq]at hu hv;obtain⟨u1,u2,u3,u4,u5⟩:=hu;obtain⟨v1,v2,v3,v4,v5⟩:=hv
 have hp:∀c,kV bk c u v=kV bk c u' v':=fun c=>by
  unfold kV nS;rw[u1,u3,u5,v5]
 unfold eG;rw[hc,hp,hp,u2,u3]
section
variable {kv:List (Int×Bool)}{xs ys:List aj}{a b:Int}{bk:List (List aj)}{e g:aB}
theorem CW{zs:List aj}(ha:sig (ah zs a)=sig (ah ys a))(hb:sig (ah zs b)=sig (ah ys b)):au zs a b=au ys a b:=by
 unfold sig at ha hb;simp only[Prod.mk.injEq]at ha hb;unfold au;rw[ha.1,ha.2.1,hb.1,hb.2.1]
theorem y7(ys:List aj)(a b:Int):au ys a b=(a,b)∨au ys a b=(b,a):=by
 unfold au;cases aQ (ah ys a).1 (ah ys a).2.1 (ah ys b).1 (ah ys b).2.1==2
 ·exact .inl rfl
 ·exact .inr rfl
theorem Twin.IX(T:Twin kv xs ys){k:Int}(h:eO ys k):¬Gone kv k:=fun e=>h.2.2 (by rw[(T.hole k e).2];rfl)
theorem Twin.Xh(T:Twin kv xs ys){k:Int}(h0:0≤k)(h1:k<(xs.length:Nat))(hd:¬Gone kv k):eO ys k:=by
 refine⟨h0,by rw[←T.len];exact h1,?_⟩;rw[T.at_ h0 h1 hd];have:=zI (T.wf k h0 h1 hd);omega
theorem oI.WG(h:oI bk ys e)(T:Twin kv xs ys)(hb:BF bk){z:Int}(h0:eO ys z)(h1:eO (dR bk ys e) z):sig (ah (dR bk ys e) z)=sig (ah ys z):=by
 have I:=h.UQ T hb;have T1:=h.twin T hb;have l:=T.len;have l1:=T1.len;obtain⟨_,e1⟩:=T.Bl I hb.toBkV;rw[T.at_ h0.1 (by rw[l];exact h0.2.1) (T.IX h0),T1.at_ h1.1 (by rw[l1];exact h1.2.1) (T1.IX h1)];exact pI I h0.1 (by rw[l];exact h0.2.1)
theorem Gf(ta:eO ys e.1)(tb:eO ys e.2.1)(ac:zO ys e.1 e.2.1)(hl:¬(3000:Int)<((bN bk ys e.1 e.2.1).length:Nat))(hev:RB bk ys e.1 e.2.1=e):iH bk ys e=kU bk ys e.1 e.2.1:=by
 unfold iH;rw[if_neg (by simp[ta,tb]),if_neg (by simp[ac])]
 by_cases h:kU bk ys e.1 e.2.1=0
 ·rw[if_neg (by simp[h]),if_neg hl,if_neg (by simp[hev]),h]
 ·rw[if_pos h]
structure QM(bk:List (List aj))(P:List aj)(e g:aB):Prop where
 h1:oI bk P e
 h2:oI bk (dR bk P e) g
 ta:eO P g.1
 tb:eO P g.2.1
 ac:zO P g.1 g.2.1
def EC(e g:aB):aB:=(g.1,g.2.1,g.2.2.1,e.2.2.2.1,g.2.2.2.2)
def CQ(e g:aB):aB:=(e.1,e.2.1,e.2.2.1,e.2.2.2.1+g.2.2.2.2,e.2.2.2.2)
theorem Xb{n k k':Nat}:gI (fun i=>(kD n k k' (i:Nat)).toNat)=kD n k k':=funext fun z=>by
 by_cases h:0≤z
 ·rw[kK h,show((z.toNat:Nat):Int)=z by omega];have:0≤kD n k k' z:=by unfold kD;(repeat' split)<;>omega
  omega
 ·rw[w9 h];unfold kD
  (repeat' split)<;>omega
theorem Swap.rin{ys:List aj}{c x y c' x' y':Int}{n k k':Nat}(S:Swap bk ys c x y c' x' y' n k k')(hn:0<n):gD (fun i=>(kD n k k' (i:Nat)).toNat) (dP bk (dP bk ys c x y) c' x' y') (dP bk (dP bk ys c' x' y') c x y):=by
 have pos:∀i:Nat,0≤kD n k k' (i:Nat):=fun i=>by unfold kD;(repeat' split)<;>omega
 refine⟨fun i j h=> ?_,?_,fun j=> ?_,fun i hi=> ?_,fun m hm h=> ?_⟩
 ·have h1:=pos i;have h2:=pos j;have h':(kD n k k' (i:Nat)).toNat=(kD n k k' (j:Nat)).toNat:=h;have:=IK (n:=n) (k:=k) (k':=k') (i:Nat) (j:Nat) (by omega);omega
 ·show(kD n k k' ((0:Nat):Int)).toNat=0;rw[nY (by omega)];rfl
 ·show(kD n k k' ((_+j:Nat):Int)).toNat=_;rw[S.l12,S.l21,OW (by omega)];omega
 ·rw[Xb];have:=S.at_ (i:Nat) (by omega) (by rw[S.l12]at hi;omega);rw[←this];have:=pos i
  congr 1
  show(((kD n k k' (i:Nat)).toNat:Nat):Int)=_;omega
 ·exfalso;have h1:0≤kD n k' k (m:Nat):=by unfold kD;(repeat' split)<;>omega
  refine h (kD n k' k (m:Nat)).toNat ?_;show(kD n k k' (((kD n k' k (m:Nat)).toNat:Nat):Int)).toNat=m;rw[show(((kD n k' k (m:Nat)).toNat:Nat):Int)=kD n k' k (m:Nat) by omega,OX];rfl
theorem QM.swap(h:QM bk ys e g)(T:Twin kv xs ys)(hb:BF bk):
  (iH bk ys (EC e g)=0∨iH bk ys (EC e g)=4)∧(iH bk ys (EC e g)=0→(iH bk (dR bk ys (EC e g)) (CQ e g)=0∨iH bk (dR bk ys (EC e g)) (CQ e g)=4)∧
   (iH bk (dR bk ys (EC e g)) (CQ e g)=0→∃f,gI f=kD e.2.2.2.1.toNat e.2.2.2.2.toNat g.2.2.2.2.toNat∧Sm f (dR bk (dR bk ys e) g) (dR bk (dR bk ys (EC e g)) (CQ e g)))):=by
 obtain⟨h1,h2,ta,tb,ac⟩:=h;have I:=h1.UQ T hb;have T1:=h1.twin T hb;have ev1:=h1.ev;have ev2:=h2.ev;obtain⟨k1,ra,rb⟩:=T.Gb h1.ta h1.tb h1.ac;obtain⟨k2,sa,sb⟩:=T.Gb ta tb ac;have sga:=h1.WG T hb ta h2.ta;have sgb:=h1.WG T hb tb h2.tb;have ef:=CW sga sgb
 have fs:sig (ah (dR bk ys e) (au ys g.1 g.2.1).1)=sig (ah ys (au ys g.1 g.2.1).1)∧sig (ah (dR bk ys e) (au ys g.1 g.2.1).2)=sig (ah ys (au ys g.1 g.2.1).2):=by
  rcases y7 ys g.1 g.2.1 with e1|e1<;>rw[e1]
  ·exact⟨sga,sgb⟩
  ·exact⟨sgb,sga⟩
 have hgr:(eG bk (ah ys (au ys g.1 g.2.1).1) (ah ys (au ys g.1 g.2.1).2)).2=0:=by
  have:=h2.gr;rw[ef,FP fs.1 fs.2]at this;exact this
 have J:=T.UQ hb ta tb ac hgr;have ec:nU (dR bk ys e) g.1 g.2.1=nU ys g.1 g.2.1:=by unfold nU;rw[ef,lK fs.1 fs.2]
 have gone1:∀z,Gone (gy kv (bR (nU ys e.1 e.2.1) (au ys e.1 e.2.1).1 (au ys e.1 e.2.1).2)) z↔Gone kv z∨z∈bR (nU ys e.1 e.2.1) (au ys e.1 e.2.1).1 (au ys e.1 e.2.1).2:=fun z=>jW _ _ _
 have lga:=T1.IX h2.ta;have lgb:=T1.IX h2.tb
 have xin:(au ys e.1 e.2.1).1∈bR (nU ys e.1 e.2.1) (au ys e.1 e.2.1).1 (au ys e.1 e.2.1).2:=by
  unfold bR;cases nU ys e.1 e.2.1==7
  ·exact List.mem_cons_self ..
  ·exact List.mem_cons_self ..
 have na:g.1≠(au ys e.1 e.2.1).1:=fun q=>lga ((gone1 _).2 (.inr (by rw[q];exact xin)))
 have nb:g.2.1≠(au ys e.1 e.2.1).1:=fun q=>lgb ((gone1 _).2 (.inr (by rw[q];exact xin)))
 have ks:=I.k.symm T.st;have k2s:=k2.symm T.st;have wg1:ay xs (g.1,0)=(g.2.1,0):=k2.w;have wg2:ay xs (g.2.1,0)=(g.1,0):=k2s.w
 have nc:g.1≠(au ys e.1 e.2.1).2:=fun q=>by
  have:=ks.w;rw[←q,wg1]at this;exact nb (congrArg Prod.fst this)
 have nd:g.2.1≠(au ys e.1 e.2.1).2:=fun q=>by
  have:=ks.w;rw[←q,wg2]at this;exact na (congrArg Prod.fst this)
 have F4:Four (au ys e.1 e.2.1).1 (au ys e.1 e.2.1).2 (au ys g.1 g.2.1).1 (au ys g.1 g.2.1).2:=by
  rcases y7 ys g.1 g.2.1 with e1|e1<;>rw[e1]
  ·exact⟨Ne.symm na,Ne.symm nb,Ne.symm nc,Ne.symm nd⟩
  ·exact⟨Ne.symm nb,Ne.symm na,Ne.symm nd,Ne.symm nc⟩
 have S:=QB T I J hb.toBkV F4;generalize hk:(mX bk (nU ys e.1 e.2.1) (ah xs (au ys e.1 e.2.1).1) (ah xs (au ys e.1 e.2.1).2)).length=k at*;generalize hk':(mX bk (nU ys g.1 g.2.1) (ah xs (au ys g.1 g.2.1).1) (ah xs (au ys g.1 g.2.1).2)).length=k' at*
 have n12:dR bk (dR bk ys e) g=dP bk (dP bk ys (nU ys e.1 e.2.1) (au ys e.1 e.2.1).1 (au ys e.1 e.2.1).2) (nU ys g.1 g.2.1) (au ys g.1 g.2.1).1 (au ys g.1 g.2.1).2:=by
  show dP bk (dR bk ys e) (nU (dR bk ys e) g.1 g.2.1) (au (dR bk ys e) g.1 g.2.1).1 (au (dR bk ys e) g.1 g.2.1).2=_;rw[ec,ef];rfl
 have l1:(dR bk ys e).length=xs.length+k:=S.l1;have l12:(dR bk (dR bk ys e) g).length=xs.length+k+k':=by rw[n12];exact S.l12
 have l2:(bN bk ys g.1 g.2.1).length=xs.length+k':=S.l2;have lY:ys.length=xs.length:=S.n_;have le12:=h2.le;rw[show bN bk (dR bk ys e) g.1 g.2.1=dR bk (dR bk ys e) g from rfl,l12]at le12;have ce:aS (ah ys e.1) (ah ys e.2.1)=e.2.2.1:=congrArg (fun e:aB=>e.2.2.1) ev1;have fe:((ys.length:Nat):Int)=e.2.2.2.1:=congrArg (fun e:aB=>e.2.2.2.1) ev1;have ke:(((bN bk ys e.1 e.2.1).length:Nat):Int)-((ys.length:Nat):Int)=e.2.2.2.2:=congrArg (fun e:aB=>e.2.2.2.2) ev1;have cg:aS (ah (dR bk ys e) g.1) (ah (dR bk ys e) g.2.1)=g.2.2.1:=congrArg (fun e:aB=>e.2.2.1) ev2
 have kg:(((bN bk (dR bk ys e) g.1 g.2.1).length:Nat):Int)-(((dR bk ys e).length:Nat):Int)=g.2.2.2.2:=congrArg (fun e:aB=>e.2.2.2.2) ev2;rw[show bN bk (dR bk ys e) g.1 g.2.1=dR bk (dR bk ys e) g from rfl,l12,l1]at kg;rw[show bN bk ys e.1 e.2.1=dR bk ys e from rfl,l1]at ke;rw[lK sga sgb]at cg
 have evG:RB bk ys g.1 g.2.1=EC e g:=by
  unfold RB EC;rw[cg,fe,l2];refine Prod.ext rfl (Prod.ext rfl (Prod.ext rfl (Prod.ext rfl ?_)));show((xs.length+k':Nat):Int)-e.2.2.2.1=g.2.2.2.2;omega
 have p1:iH bk ys (EC e g)=kU bk ys g.1 g.2.1:=Gf (e:=EC e g) ta tb ac (by show ¬(3000:Int)<((bN bk ys g.1 g.2.1).length:Nat);omega) evG
 have o1:kU bk ys g.1 g.2.1=0∨kU bk ys g.1 g.2.1=4:=by
  unfold kU;rw[if_neg (by simpa using hgr)];split
  ·exact .inr rfl
  ·exact .inl rfl
 refine⟨by rw[p1];exact o1,fun hp1=> ?_⟩;have h3:=lF.1 hp1;have T2:=h3.twin T hb;have K:=T.later J I hb.toBkV F4.symm;have eY2:dR bk ys (EC e g)=bN bk ys g.1 g.2.1:=rfl;rw[eY2]at T2 ⊢;have T2':Twin (gy kv (bR (nU ys g.1 g.2.1) (au ys g.1 g.2.1).1 (au ys g.1 g.2.1).2)) (aV bk xs (nU ys g.1 g.2.1) (au ys g.1 g.2.1).1 (au ys g.1 g.2.1).2) (bN bk ys g.1 g.2.1):=T2
 have Kp:iM (Gone (gy kv (bR (nU ys g.1 g.2.1) (au ys g.1 g.2.1).1 (au ys g.1 g.2.1).2))) (aV bk xs (nU ys g.1 g.2.1) (au ys g.1 g.2.1).1 (au ys g.1 g.2.1).2) e.1 e.2.1:=by
  rcases y7 ys e.1 e.2.1 with e1|e1
  ·have:=K.k;rw[e1]at this;exact this
  ·have:=K.k;rw[e1]at this;exact this.symm T2'.st
 have ta2:eO (bN bk ys g.1 g.2.1) e.1:=T2'.Xh Kp.px.1 Kp.px.2.1 Kp.lx;have tb2:eO (bN bk ys g.1 g.2.1) e.2.1:=T2'.Xh Kp.py.1 Kp.py.2.1 Kp.ly
 have ac2:zO (bN bk ys g.1 g.2.1) e.1 e.2.1:=by
  refine⟨h1.ac.1,h1.ac.2.1,?_⟩;have:=Kp.w;have e2:=(T2'.st.ag.port Kp.px Kp.lx).2;rw[←this];exact e2
 have sea:sig (ah (bN bk ys g.1 g.2.1) e.1)=sig (ah ys e.1):=h3.WG T hb h1.ta ta2;have seb:sig (ah (bN bk ys g.1 g.2.1) e.2.1)=sig (ah ys e.2.1):=h3.WG T hb h1.tb tb2;have ef2:=CW sea seb
 have fs2:sig (ah (bN bk ys g.1 g.2.1) (au ys e.1 e.2.1).1)=sig (ah ys (au ys e.1 e.2.1).1)∧sig (ah (bN bk ys g.1 g.2.1) (au ys e.1 e.2.1).2)=sig (ah ys (au ys e.1 e.2.1).2):=by
  rcases y7 ys e.1 e.2.1 with e1|e1<;>rw[e1]
  ·exact⟨sea,seb⟩
  ·exact⟨seb,sea⟩
 have hgr2:(eG bk (ah (bN bk ys g.1 g.2.1) (au (bN bk ys g.1 g.2.1) e.1 e.2.1).1) (ah (bN bk ys g.1 g.2.1) (au (bN bk ys g.1 g.2.1) e.1 e.2.1).2)).2=0:=by
  rw[ef2,FP fs2.1 fs2.2];exact h1.gr
 have ec2:nU (bN bk ys g.1 g.2.1) e.1 e.2.1=nU ys e.1 e.2.1:=by unfold nU;rw[ef2,lK fs2.1 fs2.2]
 have n21:bN bk (bN bk ys g.1 g.2.1) e.1 e.2.1=dP bk (dP bk ys (nU ys g.1 g.2.1) (au ys g.1 g.2.1).1 (au ys g.1 g.2.1).2) (nU ys e.1 e.2.1) (au ys e.1 e.2.1).1 (au ys e.1 e.2.1).2:=by
  show dP bk (bN bk ys g.1 g.2.1) (nU (bN bk ys g.1 g.2.1) e.1 e.2.1) (au (bN bk ys g.1 g.2.1) e.1 e.2.1).1 (au (bN bk ys g.1 g.2.1) e.1 e.2.1).2=_;rw[ec2,ef2];rfl
 have l21:(bN bk (bN bk ys g.1 g.2.1) e.1 e.2.1).length=xs.length+k+k':=by rw[n21];exact S.l21
 have evE:RB bk (bN bk ys g.1 g.2.1) e.1 e.2.1=CQ e g:=by
  unfold RB CQ;rw[lK sea seb,ce,l21,l2];refine Prod.ext rfl (Prod.ext rfl (Prod.ext rfl (Prod.ext ?_ ?_)))
  ·show((xs.length+k':Nat):Int)=e.2.2.2.1+g.2.2.2.2;omega
  ·show((xs.length+k+k':Nat):Int)-((xs.length+k':Nat):Int)=e.2.2.2.2;omega
 have p2:iH bk (bN bk ys g.1 g.2.1) (CQ e g)=kU bk (bN bk ys g.1 g.2.1) e.1 e.2.1:=Gf (e:=CQ e g) ta2 tb2 ac2 (by show ¬(3000:Int)<((bN bk (bN bk ys g.1 g.2.1) e.1 e.2.1).length:Nat);omega) evE
 have o2:kU bk (bN bk ys g.1 g.2.1) e.1 e.2.1=0∨kU bk (bN bk ys g.1 g.2.1) e.1 e.2.1=4:=by
  unfold kU;rw[if_neg (by simpa using hgr2)];split
  ·exact .inr rfl
  ·exact .inl rfl
 refine⟨by rw[p2];exact o2,fun hp2=> ?_⟩;have h4:=lF.1 hp2;have hnn:0<xs.length:=T.rl;refine⟨fun i=>(kD xs.length k k' (i:Nat)).toNat,?_,?_⟩
 ·rw[Xb,show e.2.2.2.1.toNat=xs.length by omega,show e.2.2.2.2.toNat=k by omega,show g.2.2.2.2.toNat=k' by omega]
 ·have n21':dR bk (bN bk ys g.1 g.2.1) (CQ e g)=dP bk (dP bk ys (nU ys g.1 g.2.1) (au ys g.1 g.2.1).1 (au ys g.1 g.2.1).2) (nU ys e.1 e.2.1) (au ys e.1 e.2.1).1 (au ys e.1 e.2.1).2:=n21;refine⟨by rw[n12,n21'];exact S.rin hnn,by rw[l12,show dR bk (bN bk ys g.1 g.2.1) (CQ e g)=bN bk (bN bk ys g.1 g.2.1) e.1 e.2.1 from rfl,l21],?_⟩;have I2:=h2.UQ T1 hb;have I4:=h4.UQ T2' hb;refine⟨_,_,_,_,h2.twin T1 hb,h4.twin T2' hb,?_⟩;rw[uo T1.kt (jr I2.k.lx) (jr I2.k.ly) I2.k.ne,uo T2'.kt (jr I4.k.lx) (jr I4.k.ly) I4.k.ne,uo T.kt (jr I.k.lx) (jr I.k.ly) I.k.ne,uo T.kt (jr J.k.lx) (jr J.k.ly) J.k.ne]
  have c1:∀c x y x' y':Int,(bR c x y).length=(bR c x' y').length:=fun c x y x' y'=>by unfold bR;cases c==7<;>rfl
  have q1:nU (bN bk ys g.1 g.2.1) (CQ e g).1 (CQ e g).2.1=nU ys e.1 e.2.1:=ec2;rw[q1,ec,c1 (nU ys g.1 g.2.1) (au (dR bk ys e) g.1 g.2.1).1 (au (dR bk ys e) g.1 g.2.1).2 (au ys g.1 g.2.1).1 (au ys g.1 g.2.1).2,c1 (nU ys e.1 e.2.1) (au (bN bk ys g.1 g.2.1) (CQ e g).1 (CQ e g).2.1).1 (au (bN bk ys g.1 g.2.1) (CQ e g).1 (CQ e g).2.1).2 (au ys e.1 e.2.1).1 (au ys e.1 e.2.1).2];omega
theorem EM{es fs:List aB}(T:Twin kv xs ys)(hb:BF bk)(hr:oG bk ys (es++e::g::fs)=0)(ta:eO (sP bk ys es) g.1)(tb:eO (sP bk ys es) g.2.1)(ac:zO (sP bk ys es) g.1 g.2.1):
  oG bk ys (es++EC e g::CQ e g::fs.map (SL (kD e.2.2.2.1.toNat e.2.2.2.2.toNat g.2.2.2.2.toNat)))=0∨oG bk ys (es++EC e g::CQ e g::fs.map (SL (kD e.2.2.2.1.toNat e.2.2.2.2.toNat g.2.2.2.2.toNat)))=4:=by
 have h0:=DZ hr;rw[zy h0]at hr;rw[zy h0];obtain⟨kp,xp,Tp⟩:=T.run hb h0;obtain⟨h1,hr1⟩:=mq hr;obtain⟨h2,hr2⟩:=mq hr1;obtain⟨s1,s2⟩:=(QM.mk (lF.1 h1) (lF.1 h2) ta tb ac).swap Tp hb;rcases s1 with s1|s1
 ·rw[uy s1];obtain⟨s3,s4⟩:=s2 s1;rcases s3 with s3|s3
  ·rw[uy s3];obtain⟨f,hf,S⟩:=s4 s3;have:=S.run hb hr2;rw[hf]at this;exact .inl this
  ·right;unfold oG;rw[if_pos (by rw[s3];decide),s3]
 ·right;unfold oG;rw[if_pos (by rw[s1];decide),s1]
end
end Go.Tr
namespace Go.Tr
open Go Go.RowKit
def Mh(f one two:Int)(a:Int):Int:=if a<f then a else if a<f+one then a+two else if a<f+one+two then a-one else a
theorem SE{n k k':Nat}:Mh (n:Int) (k:Int) (k':Int)=kD n k k':=rfl
abbrev fO(es:List aB)(k:Nat):aB:=elt (dflt aP) es ((k:Nat):Int)
def SC(es:List aB)(k:Nat):aB→aB:=SL (Mh (fO es k).2.2.2.1 (fO es k).2.2.2.2 (fO es (k+1)).2.2.2.2)
def lU(es:List aB)(k:Nat):List aB:=es.take k++EC (fO es k) (fO es (k+1))::CQ (fO es k) (fO es (k+1))::(es.drop (k+2)).map (SC es k)
theorem rM{es:List aB}{k:Nat}(h:k+1<es.length):(lU es k).length=es.length:=by
 unfold lU;simp only[qA,List.length_take,qI,qV,List.length_drop];omega
theorem JI{es:List aB}{k:Nat}(h:k+1<es.length):es=es.take k++fO es k::fO es (k+1)::es.drop (k+2):=by
 have h1:es.drop k=fO es k::es.drop (k+1):=by
  rw[List.drop_eq_getElem_cons (by omega)]
  congr 1
  unfold fO elt;rw[qK,qC,qB (by omega)];rfl
 have h2:es.drop (k+1)=fO es (k+1)::es.drop (k+2):=by
  rw[List.drop_eq_getElem_cons h]
  congr 1
  unfold fO elt;rw[qK,qC,qB h];rfl
 rw[←h2,←h1,List.take_append_drop]
def FE(es:List aB)(k i:Nat):List aB:=(lU es k).take i++es.drop i
theorem VA{es:List aB}{k i:Nat}(h:k+1<es.length)(hi:i≤es.length):(FE es k i).length=es.length:=by
 unfold FE;rw[qA,List.length_take,rM h,List.length_drop];omega
theorem Ya{es:List aB}{k i:Nat}(h:k+1<es.length)(hi:i<es.length):elt (dflt aP) (FE es k i) ((i:Nat):Int)=fO es i:=by
 unfold FE fO elt;rw[qK,qC,qC,qL (by rw[List.length_take];omega),List.length_take,rM h,List.getElem?_drop]
 congr 2
 omega
theorem K3{es:List aB}{k i:Nat}(h:k+1<es.length)(h2:k+2≤i)(hi:i<es.length):(lU es k)[i]? =some (SC es k (fO es i)):=by
 unfold lU;rw[qL (by rw[List.length_take];omega),List.length_take,show i-min k es.length=(i-k-2)+1+1 by omega,List.getElem?_cons_succ,List.getElem?_cons_succ,qY,List.getElem?_drop,show k+2+(i-k-2)=i by omega];unfold fO elt;rw[qK,qC,qB hi];rfl
theorem RF{es:List aB}{k i:Nat}(h:k+1<es.length)(h2:k+2≤i)(hi:i<es.length):(FE es k i).set i (SC es k (fO es i))=FE es k (i+1):=by
 have hl:((lU es k).take i).length=i:=by rw[List.length_take,rM h];omega
 unfold FE;rw[List.set_append_right _ _ (by omega),hl,Nat.sub_self,List.drop_eq_getElem_cons hi,List.set_cons_zero,List.take_add_one,K3 h h2 hi];simp
theorem PL{es:List aB}{k:Nat}(h:k+1<es.length):(es.set k (EC (fO es k) (fO es (k+1)))).set (k+1) (CQ (fO es k) (fO es (k+1)))=FE es k (k+2):=by
 have hl:(es.take k).length=k:=by rw[List.length_take];omega
 have e:FE es k (k+2)=es.take k++EC (fO es k) (fO es (k+1))::CQ (fO es k) (fO es (k+1))::es.drop (k+2):=by
  unfold FE lU;rw[List.take_append,hl,show k+2-k=2 by omega,qN (by omega)];simp
 rw[e];generalize EC (fO es k) (fO es (k+1))=G;generalize CQ (fO es k) (fO es (k+1))=H
 conv=>lhs;arg 1;arg 1;rw[JI h]
 rw[List.set_append_right _ _ (by omega),hl,Nat.sub_self,List.set_cons_zero,List.set_append_right _ _ (by omega),hl,show k+1-k=1 by omega,List.set_cons_succ,List.set_cons_zero]
def QE(f:Int)(e:aB):aB:=(e.1,e.2.1,e.2.2.1,f,e.2.2.2.2)
theorem LJ{es:List aB}{i:Nat}:elt (dflt aP) es ((i:Nat):Int)=es.getD i (dflt aP):=rfl
theorem VB{es:List aB}{k:Nat}{f g:Int}{j:Int}(h:k+1<es.length)(hj:j=((k+1:Nat):Int)):
  (((es.set k (elt (dflt aP) es j)).set j.toNat (fO es k)).set k (QE f (elt (dflt aP) ((es.set k (elt (dflt aP) es j)).set j.toNat (fO es k)) ((k:Nat):Int)))).set j.toNat (QE g (elt (dflt aP) (((es.set k (elt (dflt aP) es j)).set j.toNat (fO es k)).set k (QE f (elt (dflt aP) ((es.set k (elt (dflt aP) es j)).set j.toNat (fO es k)) ((k:Nat):Int)))) j))=
   (es.set k (QE f (fO es (k+1)))).set (k+1) (QE g (fO es k)):=by
 subst hj;rw[show(((k+1:Nat):Int)).toNat=k+1 by omega]
 have e1:elt (dflt aP) ((es.set k (fO es (k+1))).set (k+1) (fO es k)) ((k:Nat):Int)=fO es (k+1):=by
  rw[LJ,qC,List.getElem?_set_ne (by omega),List.getElem?_set_self (by omega)];rfl
 rw[e1]
 have e2:elt (dflt aP) (((es.set k (fO es (k+1))).set (k+1) (fO es k)).set k (QE f (fO es (k+1)))) ((k+1:Nat):Int)=fO es k:=by
  rw[LJ,qC,List.getElem?_set_ne (by omega),List.getElem?_set_self (by rw[List.length_set];omega)];rfl
 rw[e2,List.set_comm _ _ (show k+1≠k by omega),List.set_set,List.set_set]
def updA(a b:Int)(e:aB):aB:=(a,b,e.2.2.1,e.2.2.2.1,e.2.2.2.2)
theorem Yc{xs:List aB}{i:Nat}{a b:Int}(h:i<xs.length):
  (xs.set i (a,(fO xs i).2)).set i ((elt (dflt aP) (xs.set i (a,(fO xs i).2)) ((i:Nat):Int)).1,b,(elt (dflt aP) (xs.set i (a,(fO xs i).2)) ((i:Nat):Int)).2.2)=xs.set i (updA a b (fO xs i)):=by
 have e1:elt (dflt aP) (xs.set i (a,(fO xs i).2)) ((i:Nat):Int)=(a,(fO xs i).2):=by
  rw[LJ,qC,List.getElem?_set_self h];rfl
 rw[e1,List.set_set];rfl
theorem Vz{es:List aB}{k:Nat}(h:k+1<es.length):FE es k es.length=lU es k:=by
 unfold FE;rw[List.drop_length,qS,qN (by rw[rM h];exact Nat.le_refl _)]
end Go.Tr
