
/- Replaying events, told by data alone. No program in it. -/
import Derived.Test.YtbdimbjclhmeoaaGreatZl
import Derived.Test.YtbdimbjclhmeoaaGreatZs
set_option linter.unusedSimpArgs false
set_option linter.unusedVariables false
namespace Go.Tr
open Go Go.RowKit
section
variable {kv:kT}{xs ys:aS}{a b:Int}{bk:iQ}{e:aB}{es fs:List aB}
theorem BQ(h:Fp bk ys (e::es)=0):rG bk ys e=0/\Fp bk (Eu bk ys e) es=0:=by
 unfold Fp at h
 by_cases hp:rG bk ys e=0
 .rw[if_neg (by simpa using hp)]at h;exact⟨hp,h⟩
 .rw[if_pos hp]at h;exact absurd h hp
structure AU(bk:List (List ak))(ys:List ak)(e:aB):Prop where
 ta:dx ys e.1
 tb:dx ys e.2.1
 ac:yT ys e.1 e.2.1
 gr:(dM bk (ah ys (au ys e.1 e.2.1).1) (ah ys (au ys e.1 e.2.1).2)).2=0
 fu:¬600<IntKind.i64.wrap ((fE ys ys.length:Nat)+(dM bk (ah ys (au ys e.1 e.2.1).1) (ah ys (au ys e.1 e.2.1).2)).1)
 le:(aX bk ys e.1 e.2.1).length<=3000
 ev:KN bk ys e.1 e.2.1=e
theorem EW:rG bk ys e=0↔AU bk ys e:=by
 constructor
 .intro h;unfold rG at h;split at h
  .cases h
  .rename_i h1;have h1':dx ys e.1/\dx ys e.2.1:=Classical.byContradiction h1;split at h
   .cases h
   .rename_i h2;split at h
    .rename_i h3;exact absurd h h3
    .rename_i h3;have h3':w9 bk ys e.1 e.2.1=0:=by simpa using h3
     split at h
     .cases h
     .rename_i h4;split at h
      .cases h
      .rename_i h5;unfold w9 at h3';split at h3'
       .rename_i h6;exact absurd h3' h6
       .rename_i h6;split at h3'
        .cases h3'
        .rename_i h7;exact⟨h1'.1,h1'.2,Classical.byContradiction h2,by simpa using h6,h7,by omega,by simpa using h5⟩
 .intro h
  have ho:w9 bk ys e.1 e.2.1=0:=by
   unfold w9;rw[if_neg (by simpa using h.gr),if_neg h.fu]
  have hl:=h.le;unfold rG;rw[if_neg (by simp[h.ta,h.tb]),if_neg (by simp[h.ac]),if_neg (by simp[ho]),if_neg (by omega),if_neg (by simp[h.ev])]
theorem Twin.yL(T:Twin kv xs ys)(ha:dx ys a)(hb:dx ys b)(h:yT ys a b):iw (Gone kv) xs a b/\(ah xs a).1≠1/\(ah xs b).1≠1:=by
 have hl:=T.len;have live:∀{k:Int},dx ys k->¬Gone kv k:=fun {k} hk e=>hk.2.2 (by rw[(T.hole k e).2];rfl)
 obtain⟨a0,a1,a2⟩:=ha;obtain⟨b0,b1,b2⟩:=hb;have la:=live ⟨a0,a1,a2⟩;have lb:=live ⟨b0,b1,b2⟩;obtain⟨c0,c1,c2⟩:=h;have wa:=(gY (T.wf a a0 (by omega) la)).1;have wb:=(gY (T.wf b b0 (by omega) lb)).1;have ea:=T.at_ a0 (by omega) la;refine⟨⟨by omega,la,lb,⟨a0,by simp only;omega,Int.le_refl 0,?_⟩,⟨b0,by simp only;omega,Int.le_refl 0,?_⟩,?_⟩,T.uq a c0 (by omega) la,T.uq b (by omega) (by omega) lb⟩
 .show(0:Int)<((ah xs a).2.2.2.2.length:Nat);omega
 .show(0:Int)<((ah xs b).2.2.2.2.length:Nat);omega
 .unfold ay at c2 |-;rw[ea]at c2;exact c2
theorem Twin.Tn(T:Twin kv xs ys)(k:iw (Gone kv) xs a b):au ys a b=au xs a b:=by
 unfold au;rw[T.at_ k.px.1 k.px.2.1 k.lx,T.at_ k.py.1 k.py.2.1 k.ly]
theorem Twin.J8(T:Twin kv xs ys)(hb:rZ bk)(ha:dx ys a)(hb2:dx ys b)(h:yT ys a b)(hg:(dM bk (ah ys (au ys a b).1) (ah ys (au ys a b).2)).2=0):Ms bk (Gone kv) xs (oO ys a b) (au ys a b).1 (au ys a b).2:=by
 obtain⟨k,ra,rb⟩:=T.yL ha hb2 h;have wa:=T.wf a k.px.1 k.px.2.1 k.lx;have wb:=T.wf b k.py.1 k.py.2.1 k.ly;obtain⟨q1,q2⟩:=wG wa wb ra rb;obtain⟨c1,c2⟩:=OO wa wb ra rb hb.toBkW;have kf:=k.first T.st
 have rf:(ah xs (au xs a b).1).1≠1/\(ah xs (au xs a b).2).1≠1:=by
  unfold au;cases aP (ah xs a).1 (ah xs a).2.1 (ah xs b).1 (ah xs b).2.1==2
  .exact⟨ra,rb⟩
  .exact⟨rb,ra⟩
 have ef:=T.Tn k;unfold oO;rw[ef]at hg |-;have ex:=T.at_ kf.px.1 kf.px.2.1 kf.lx;have ey:=T.at_ kf.py.1 kf.py.2.1 kf.ly;rw[ex,ey]at hg |-;obtain⟨k1,k2,k3⟩:=c2 hg
 have hn8:aR (ah xs (au xs a b).1) (ah xs (au xs a b).2)≠8:=fun e8=>by
  unfold dM at hg;rw[e8]at hg;cases hg
 obtain⟨_,_,hr,h1,h7⟩:=q2 (by rw[q1];exact hn8);rw[q1]at hr h1 h7;refine⟨kf,hr,⟨h1,h7⟩,?_,k3,rf.1,rf.2⟩;cases hc:eO (ah xs (au xs a b).1) (ah xs (au xs a b).2)with
 |false=>rfl
 |true=>exact absurd (by unfold aR;rw[hc];rfl) hn8
theorem AU.J8(h:AU bk ys e)(T:Twin kv xs ys)(hb:rZ bk):Ms bk (Gone kv) xs (oO ys e.1 e.2.1) (au ys e.1 e.2.1).1 (au ys e.1 e.2.1).2:=T.J8 hb h.ta h.tb h.ac h.gr
theorem AU.twin(h:AU bk ys e)(T:Twin kv xs ys)(hb:rZ bk):Twin (fU kv (bR (oO ys e.1 e.2.1) (au ys e.1 e.2.1).1 (au ys e.1 e.2.1).2)) (aW bk xs (oO ys e.1 e.2.1) (au ys e.1 e.2.1).1 (au ys e.1 e.2.1).2) (Eu bk ys e):=(T.Ag (h.J8 T hb) hb.toBkV).1
end
end Go.Tr
namespace Go.Tr
open Go Go.RowKit
section
variable {kv:kT}{xs ys:aS}{a b:Int}{bk:iQ}{L X:aC->Prop}{σ:Wi}{p q:aC}
theorem ze{u v:ak}(h:Duo u v):(aP u.1 u.2.1 v.1 v.2.1=2/\aP v.1 v.2.1 u.1 u.2.1=1)\/(aP u.1 u.2.1 v.1 v.2.1=1/\aP v.1 v.2.1 u.1 u.2.1=2)\/
  (aP u.1 u.2.1 v.1 v.2.1=1/\aP v.1 v.2.1 u.1 u.2.1=1/\((aR u v=2/\u.1=4/\v.1=4)\/(aR u v=4/\u.1=5/\v.1=5))):=by
 have hp:=uE h.wa h.wb h.ra h.rb;have hq:=uE h.wb h.wa h.rb h.ra;have hc:aT u.1 u.2.1 v.1 v.2.1≠8:=fun e=>h.ok (by unfold aR;rw[e];cases eO u v<;>cases iZ u v<;>rfl)
 have hcs:aR u v=aT u.1 u.2.1 v.1 v.2.1:=by
  have:=h.ok;unfold aR at this |-;cases h1:eO u v with
  |true=>rw[h1]at this;exact absurd rfl this
  |false=>
   cases h2:iZ u v with
   |true=>rw[h1,h2]at this;exact absurd rfl this
   |false=>rfl
 have hsym:=nY u.1 u.2.1 v.1 v.2.1;rw[hcs];unfold aP;unfold aT at hc hsym |-;rw[hp,if_pos rfl]at hc;rw[hp,hq,if_pos rfl,if_pos rfl]at hsym;rw[hp,hq,if_pos rfl,if_pos rfl,if_pos rfl]
 by_cases r1:rule u.1 u.2.1 v.1 v.2.1=0
 .by_cases r2:rule v.1 v.2.1 u.1 u.2.1=0
  .simp only[if_pos r1,if_pos r2]at hc;exact absurd rfl hc
  .simp only[if_pos r1,if_neg r2];exact .inl ⟨trivial,trivial⟩
 .by_cases r2:rule v.1 v.2.1 u.1 u.2.1=0
  .simp only[if_neg r1,if_pos r2];exact .inr (.inl ⟨trivial,trivial⟩)
  .simp only[if_neg r1,if_neg r2]at hsym;simp only[if_neg r1,if_neg r2];refine .inr (.inr ⟨trivial,trivial,?_⟩);obtain⟨p1,p2,p3,p4,p5,p6,p7⟩:=eP rfl r1;obtain⟨q1,q2,q3,q4,q5,q6,q7⟩:=eP rfl r2;rw[hsym]at q1 q2 q3 q4 q5 q6 q7;have hr:=nS u.1 u.2.1 v.1 v.2.1;generalize hg:rule u.1 u.2.1 v.1 v.2.1=c at*;have hcc:c=1\/c=2\/c=3\/c=4\/c=5\/c=6\/c=7:=by omega
   rcases hcc with rfl|rfl|rfl|rfl|rfl|rfl|rfl
   .have:=p1 rfl;have:=q1 rfl;omega
   .exact .inl ⟨rfl,p2 rfl⟩
   .exfalso;have ka:=p3 rfl;have kb:=q3 rfl;unfold rule at hg hsym;rw[ka,kb]at hg hsym;rw[if_neg (by decide),if_pos rfl]at hg hsym;cases hl:(((4:Int)==4)&&u.2.1==v.2.1)with
    |true=>rw[hl]at hg;simp at hg
    |false=>
     rw[hl]at hg
     have hl2:(((4:Int)==4)&&v.2.1==u.2.1)=false:=by
      rw[<-hl];congr 1;rw[Bool.eq_iff_iff];simp only[beq_iff_eq];exact⟨Eq.symm,Eq.symm⟩
     rw[hl2]at hsym;simp only[Bool.false_eq_true,if_false]at hg hsym
     have d1:tT u.2.1 4 v.2.1=true:=by
      cases hd:tT u.2.1 4 v.2.1 with
      |true=>rfl
      |false=>rw[hd]at hg;simp at hg
     have d2:tT v.2.1 4 u.2.1=true:=by
      cases hd:tT v.2.1 4 u.2.1 with
      |true=>rfl
      |false=>rw[hd]at hsym;simp at hsym
     have:=xO d1;have:=xO d2;omega
   .exact .inr ⟨rfl,p4 rfl,q4 rfl⟩
   .have:=p5 rfl;have:=q5 rfl;omega
   .have:=p6 rfl;have:=q6 rfl;omega
   .have:=p7 rfl;have:=q7 rfl;omega
theorem Rel.join_comm(h:Rel xs L X σ)(hp:L p)(np:¬X p)(hq:L q)(nq:¬X q):bg xs p q=bg xs q p:=by
 obtain⟨l1,l2,e1,e2⟩:=h.peer hp np;obtain⟨m1,m2,f1,f2⟩:=h.peer hq nq
 have hj:∀p q:aC,bg xs p q=if ay xs p=q then xs else bD xs (ay xs p) (ay xs q):=fun p q=>by
  unfold bg
  by_cases e:ay xs p=q
  .rw[if_pos e,e];simp
  .rw[if_neg e]
   have:((ay xs p).1==q.1&&(ay xs p).2==q.2)=false:=by
    cases hh:((ay xs p).1==q.1&&(ay xs p).2==q.2)with
    |false=>rfl
    |true=>exact absurd (Prod.ext (by simp at hh;exact hh.1) (by simp at hh;exact hh.2)) e
   rw[this];rfl
 rw[hj,hj,vo (h.inn _ l1) (h.inn _ m1)]
 by_cases e:ay xs p=q
 .rw[if_pos e,if_pos (by rw[<-e];exact e1)]
 .rw[if_neg e,if_neg fun k=>e (by rw[<-k];exact f1)]
theorem Twin.relY(T:Twin kv xs ys):Rel ys (fun p=>aj ys p/\¬Gone kv p.1) yx (wires kv xs):=by
 have R:=T.rel;have hl:=T.len
 have pin:∀p:aC,¬Gone kv p.1->(aj ys p↔aj xs p):=fun p hd=>by
  unfold aj;rw[hl];constructor
  .rintro⟨a,b,c,d⟩;rw[T.at_ a (by omega) hd]at d;exact⟨a,b,c,d⟩
  .rintro⟨a,b,c,d⟩;refine⟨a,b,c,?_⟩;rw[T.at_ a (by omega) hd];exact d
 refine⟨fun p hp=>hp.1,fun p hp=>hp.elim,fun p hp _=> ?_,fun p hp=>hp.elim,fun p hp=> ?_,R.nv,R.wi⟩
 .have h1:=(pin p hp.2).1 hp.1;rw[R.re p ⟨h1,hp.2⟩ id];unfold ay;rw[T.at_ h1.1 h1.2.1 hp.2]
 .exact R.no p fun e=>hp ⟨(pin p e.2).2 e.1,e.2⟩
theorem GA(ys:aS){a b:Int}(ha:0<=a)(hb:0<=b)(n:a≠b):bB (bB ys a) b=bB (bB ys b) a:=by
 unfold bB;exact List.set_comm _ _ (by omega)
theorem Twin.symZ(T:Twin kv xs ys)(k:iw (Gone kv) xs a b)(ra:(ah xs a).1≠1)(rb:(ah xs b).1≠1)(hok:aR (ah xs a) (ah xs b)≠8):
  aX bk ys b a=aX bk ys a b/\w9 bk ys b a=w9 bk ys a b:=by
 have wa:=T.wf a k.px.1 k.px.2.1 k.lx;have wb:=T.wf b k.py.1 k.py.2.1 k.ly;have ea:=T.at_ k.px.1 k.px.2.1 k.lx;have eb:=T.at_ k.py.1 k.py.2.1 k.ly;have hD:Duo (ah ys a) (ah ys b):=by rw[ea,eb];exact⟨wa,wb,ra,rb,hok⟩
 have a0:=k.px.1;have a1:=k.px.2.1;have b0:=k.py.1;have b1:=k.py.2.1;simp only at a0 a1 b0 b1;rcases ze hD with⟨h1,h2⟩|⟨h1,h2⟩|⟨h1,h2,h3⟩
 .have e1:au ys a b=(b,a):=by unfold au;rw[h1];rfl
  have e2:au ys b a=(b,a):=by unfold au;rw[h2];rfl
  unfold aX w9 oO;rw[e1,e2];exact⟨rfl,rfl⟩
 .have e1:au ys a b=(a,b):=by unfold au;rw[h1];rfl
  have e2:au ys b a=(a,b):=by unfold au;rw[h2];rfl
  unfold aX w9 oO;rw[e1,e2];exact⟨rfl,rfl⟩
 .have e1:au ys a b=(a,b):=by unfold au;rw[h1];rfl
  have e2:au ys b a=(b,a):=by unfold au;rw[h2];rfl
  unfold aX w9 oO;rw[e1,e2];simp only;rw[iK (ah ys a) (ah ys b)];have R:=T.relY;have pl:∀{z:Int},0<=z->z<(xs.length:Nat)->¬Gone kv z->∀i:Int,0<=i->i<((ah ys z).aO.length:Nat)->(aj ys (z,i)/\¬Gone kv ((z,i):aC).1):=fun {z} z0 z1 zd i i0 i1=>⟨⟨z0,by simp only;rw[<-T.len];exact z1,i0,i1⟩,zd⟩
  rcases h3 with⟨c2,ka,kb⟩|⟨c4,ka,kb⟩
  .have na:(ah ys a).aO.length=3:=by rw[ea];exact(fG wa).2.2.1 (.inr (.inr (.inl (by rw[<-ea];exact ka))))
   have nb:(ah ys b).aO.length=3:=by rw[eb];exact(fG wb).2.2.1 (.inr (.inr (.inl (by rw[<-eb];exact kb))))
   rw[c2];refine⟨?_,?_⟩
   .show bB (bB (bg (bg ys (b,1) (a,1)) (b,2) (a,2)) b) a=bB (bB (bg (bg ys (a,1) (b,1)) (a,2) (b,2)) a) b;have pa1:=pl a0 a1 k.lx 1 (by decide) (by rw[na];decide);have pa2:=pl a0 a1 k.lx 2 (by decide) (by rw[na];decide);have pb1:=pl b0 b1 k.ly 1 (by decide) (by rw[nb];decide);have pb2:=pl b0 b1 k.ly 2 (by decide) (by rw[nb];decide);have ne:=k.ne;have j1:=R.join_comm pa1 id pb1 id;have R1:=R.join pa1 id pb1 id (fun e=>ne (congrArg Prod.fst e));have j2:=R1.join_comm (p:=(a,2)) (q:=(b,2)) ⟨pa2,by simp,by simp⟩ id ⟨pb2,by simp,by simp⟩ id
    rw[<-j1,<-j2,GA _ a0 b0 ne]
   .unfold dM jK;rw[iK (ah ys a) (ah ys b),c2];rfl
  .have na:(ah ys a).2.2.2.2.length=1:=by rw[ea];exact(fG wa).1 (.inr (.inl (by rw[<-ea];exact ka)))
   have nb:(ah ys b).2.2.2.2.length=1:=by rw[eb];exact(fG wb).1 (.inr (.inl (by rw[<-eb];exact kb)))
   rw[c4];refine⟨?_,?_⟩
   .show bB (bB (iA ys a) b) a=bB (bB (iA ys b) a) b;unfold iA;rw[na,nb];exact GA _ b0 a0 (Ne.symm k.ne)
   .unfold dM jK;rw[iK (ah ys a) (ah ys b),c4,na,nb];rfl
end
end Go.Tr
namespace Go.Tr
open Go Go.RowKit
def gI(f:Nat->Nat)(z:Int):Int:=bif decide (0<=z)then((f z.toNat:Nat):Int)else z
structure gH(f:Nat->Nat)(P Y:List ak):Prop where
 injF:∀i j:Nat,f i=f j->i=j
 zero:f 0=0
 ends:∀j:Nat,f (P.length+j)=Y.length+j
 at_:∀i:Nat,i<P.length->ah Y ((f i:Nat):Int)=Gn (gI f) (ah P (i:Nat))
 hole:∀k:Nat,k<Y.length->(∀i:Nat,f i≠k)->ah Y (k:Nat)=KV
theorem rJ(F:Int->Int)(a:ak):(Gn F a).2.2.2.2.length=a.2.2.2.2.length:=by unfold Gn;simp
section
variable {f:Nat->Nat}{P Y:aS}{p q:aC}
theorem kQ{z:Int}(h:0<=z):gI f z=((f z.toNat:Nat):Int):=by unfold gI;rw[decide_eq_true h];rfl
theorem xR{z:Int}(h:¬0<=z):gI f z=z:=by unfold gI;rw[decide_eq_false h];rfl
theorem sH(k:Nat):gI f ((k:Nat):Int)=((f k:Nat):Int):=by rw[kQ (by omega),qK]
theorem gH.inj(h:gH f P Y){i j:Nat}(e:f i=f j):i=j:=h.injF i j e
theorem gH.len(h:gH f P Y):f P.length=Y.length:=h.ends 0
theorem gH.ltl(h:gH f P Y){i:Nat}:f i<Y.length↔i<P.length:=by
 constructor
 .intro e;rcases Nat.lt_or_ge i P.length with k|k
  .exact k
  .have:=h.ends (i-P.length);rw[show P.length+(i-P.length)=i by omega]at this;omega
 .intro e;rcases Nat.lt_or_ge (f i) Y.length with k|k
  .exact k
  .have:=h.ends (f i-Y.length);have:=h.injF (P.length+(f i-Y.length)) i (by omega);omega
theorem gH.in_(h:gH f P Y){z:Int}:(0<=gI f z/\gI f z<(Y.length:Nat))↔(0<=z/\z<(P.length:Nat)):=by
 by_cases h0:0<=z
 .rw[kQ h0];have k:=h.ltl (i:=z.toNat);constructor
  .rintro⟨_,h2⟩;have:=k.1 (by omega);omega
  .rintro⟨_,h2⟩;have:=k.2 (by omega);omega
 .rw[xR h0];constructor
  .rintro⟨h1,_⟩;exact absurd h1 h0
  .rintro⟨h1,_⟩;exact absurd h1 h0
theorem gH.ZB(h:gH f P Y){a b:Int}:gI f a=gI f b↔a=b:=by
 constructor
 .intro e
  by_cases ha:0<=a
  .by_cases hb:0<=b
   .rw[kQ ha,kQ hb]at e;have:=h.inj (i:=a.toNat) (j:=b.toNat) (by omega);omega
   .rw[kQ ha,xR hb]at e;omega
  .by_cases hb:0<=b
   .rw[xR ha,kQ hb]at e;omega
   .rw[xR ha,xR hb]at e;exact e
 .intro e;rw[e]
theorem gH.J7(h:gH f P Y){z:Int}(h0:0<=z)(h1:z<(P.length:Nat)):ah Y (gI f z)=Gn (gI f) (ah P z):=by
 have k:=h.at_ z.toNat (by omega);rw[show((z.toNat:Nat):Int)=z by omega]at k;rw[kQ h0];exact k
theorem gH.peer(h:gH f P Y)(hp:aj P p):ay Y (uN (gI f) p)=uN (gI f) (ay P p):=by
 obtain⟨h1,h2,h3,h4⟩:=hp;have h6:p.2<((ah P p.1).2.2.2.2.length:Nat):=h4;have h5:p.2.toNat<(ah P p.1).2.2.2.2.length:=by omega
 show elt (dflt aK) (ah Y (gI f p.1)).2.2.2.2 p.2=uN (gI f) (elt (dflt aK) (ah P p.1).2.2.2.2 p.2);rw[h.J7 h1 h2];show elt (dflt aK) ((ah P p.1).2.2.2.2.map (uN (gI f))) p.2=_;unfold elt;rw[qC,qC,qY,qB h5];rfl
theorem gH.set(h:gH f P Y){i:Nat}(hi:i<P.length)(a:ak):gH f (P.set i a) (Y.set (f i) (Gn (gI f) a)):=by
 refine⟨h.injF,h.zero,fun j=>by rw[List.length_set,List.length_set];exact h.ends j,fun j hj=> ?_,fun k hk hn=> ?_⟩
 .rw[List.length_set]at hj;rw[lu,lu,qK,qK]
  by_cases e:i=j
  .subst e;rw[if_pos ⟨rfl,h.ltl.2 hi⟩,if_pos ⟨rfl,hi⟩]
  .rw[if_neg fun k=>e (h.inj k.1),if_neg fun k=>e k.1];exact h.at_ j hj
 .rw[List.length_set]at hk;rw[lu,qK,if_neg fun e=>hn i e.1];exact h.hole k hk hn
theorem gH.app(h:gH f P Y)(a:ak):gH f (P++[a]) (Y++[Gn (gI f) a]):=by
 have hl:=h.len;refine⟨h.injF,h.zero,fun j=> ?_,fun j hj=> ?_,fun k hk hn=> ?_⟩
 .have k:=h.ends (1+j);rw[qA,qA,qJ,qJ,Nat.add_assoc,Nat.add_assoc];exact k
 .rw[qA,qJ]at hj
  by_cases e:j<P.length
  .have e2:=h.ltl.2 e;rw[bZ (by rw[qK];exact e2),bZ (by rw[qK];exact e)];exact h.at_ j e
  .have e2:j=P.length:=by omega
   subst e2;rw[pY (by rw[qK];exact hl),pY (by rw[qK])]
 .rw[qA,qJ]at hk
  have hk2:k<Y.length:=by
   have:=hn P.length;omega
  rw[bZ (by rw[qK];exact hk2)];exact h.hole k hk2 hn
theorem Vw(h:f 0=0)(k l v:Int)(d:List Int)(n:Nat):Gn (gI f) (bf k l v d n)=bf k l v d n:=by
 have e:uN (gI f) (0,0)=(0,0):=by
  unfold uN;have:gI f 0=0:=by rw[kQ (Int.le_refl 0)];show((f 0:Nat):Int)=0;rw[h];rfl
  rw[this]
 unfold Gn bf;simp only[List.map_replicate,e]
theorem gH.add(h:gH f P Y)(k l v:Int)(d:List Int)(n:Nat):gH f (P++[bf k l v d n]) (Y++[bf k l v d n]):=by
 have:=h.app (bf k l v d n)
 rwa[Vw h.zero]at this
theorem gH.drop(h:gH f P Y){z:Int}(h0:0<=z)(h1:z<(P.length:Nat)):gH f (bB P z) (bB Y (gI f z)):=by
 have k:=h.set (i:=z.toNat) (by omega) KV;unfold bB;rw[kQ h0,qK];exact k
theorem gH.Zad(h:gH f P Y)(h0:0<=p.1)(h1:p.1<(P.length:Nat)):gH f (aN P p q) (aN Y (uN (gI f) p) (uN (gI f) q)):=by
 have k:=h.set (i:=p.1.toNat) (by omega) ((ah P p.1).1,(ah P p.1).2.1,(ah P p.1).2.2.1,(ah P p.1).2.2.2.1,(ah P p.1).2.2.2.2.set p.2.toNat q)
 have e:aN Y (uN (gI f) p) (uN (gI f) q)=Y.set (f p.1.toNat) (Gn (gI f) ((ah P p.1).1,(ah P p.1).2.1,(ah P p.1).2.2.1,(ah P p.1).2.2.2.1,(ah P p.1).2.2.2.2.set p.2.toNat q)):=by
  unfold aN;show Y.set (gI f p.1).toNat ((ah Y (gI f p.1)).1,(ah Y (gI f p.1)).2.1,(ah Y (gI f p.1)).2.2.1,(ah Y (gI f p.1)).2.2.2.1,(ah Y (gI f p.1)).2.2.2.2.set p.2.toNat (uN (gI f) q))=_;rw[h.J7 h0 h1,kQ h0,qK];unfold Gn;simp only[List.map_set]
 rw[e];exact k
theorem gH.link(h:gH f P Y)(hp:aj P p)(hq:aj P q):gH f (bD P p q) (bD Y (uN (gI f) p) (uN (gI f) q)):=by
 unfold bD;exact(h.Zad hp.1 hp.2.1).Zad hq.1 (by rw[cO];exact hq.2.1)
theorem gH.move(h:gH f P Y)(hA:bO P)(hp:aj P p)(hq:aj P q):gH f (bY P p q) (bY Y (uN (gI f) p) (uN (gI f) q)):=by
 unfold bY;rw[h.peer hp];exact h.link (hA p hp) hq
theorem gH.join(h:gH f P Y)(hA:bO P)(hp:aj P p)(hq:aj P q):gH f (bg P p q) (bg Y (uN (gI f) p) (uN (gI f) q)):=by
 unfold bg;rw[h.peer hp,h.peer hq]
 have e:((uN (gI f) (ay P p)).1==(uN (gI f) q).1)=((ay P p).1==q.1):=by
  rw[Bool.eq_iff_iff,beq_iff_eq,beq_iff_eq];exact h.ZB
 rw[e];show gH f _ (bif ((ay P p).1==q.1&&(ay P p).2==q.2)then Y else bD Y (uN (gI f) (ay P p)) (uN (gI f) (ay P q)));cases ((ay P p).1==q.1&&(ay P p).2==q.2)
 .exact h.link (hA p hp) (hA q hq)
 .exact h
theorem gH.nl(h:gH f P Y)(j:Nat)(s:Int):uN (gI f) (((P.length+j:Nat):Int),s)=(((Y.length+j:Nat):Int),s):=by
 unfold uN;rw[sH,h.ends]
theorem gH.n0(h:gH f P Y)(s:Int):uN (gI f) (((P.length:Nat):Int),s)=(((Y.length:Nat):Int),s):=h.nl 0 s
variable {x y c d:Int}
theorem gH.mV(h:gH f P Y){i:Nat}(hx:0<=x/\x<(P.length:Nat))(hc:aj P (c,(i:Nat)))(hd:aj P (d,(i:Nat))):gH f (mV x c d P i) (mV (gI f x) (gI f c) (gI f d) Y i):=by
 have e:(ah Y (gI f x)).2.1=(ah P x).2.1:=by rw[h.J7 hx.1 hx.2];rfl
 unfold Tr.mV;rw[e];have h1:=h.add 4 (ah P x).2.1 0 [] 3;have h2:=h1.link (p:=((P.length:Nat),1)) (q:=(c,(i:Nat))) (aj.new (by decide) (by decide)) hc.app;have h3:=h2.link (p:=((P.length:Nat),2)) (q:=(d,(i:Nat))) (aj.link (aj.new (by decide) (by decide))) hd.app.link;rw[h.n0 1,h.n0 2]at h3;exact h3
theorem gH.bV(h:gH f P Y)(hx:0<=x/\x<(P.length:Nat)):∀k:Nat,(∀i:Nat,i<=k->aj P (c,(i:Nat))/\aj P (d,(i:Nat)))->gH f (bV x c d P k) (bV (gI f x) (gI f c) (gI f d) Y k)
 |0,_=>h
 |k+1,hk=>(h.bV hx k fun i hi=>hk i (by omega)).mV (by rw[jq];omega) (dA (hk (k+1) (Nat.le_refl _)).1 k) (dA (hk (k+1) (Nat.le_refl _)).2 k)
theorem gH.cB(h:gH f P Y){b b2:Nat}(hA:bO P)(hb:∀i:Nat,f (b+i)=b2+i):∀k:Nat,(∀i:Nat,i<k->aj P (y,((i:Nat):Int)+1)/\aj P (((b+i:Nat):Int),0))->gH f (cB y b P k) (cB (gI f y) b2 Y k)
 |0,_=>h
 |k+1,hk=>by
  have ih:=h.cB hA hb k fun i hi=>hk i (by omega)
  have k1:=ih.move (mW hA k fun i hi=>hk i (by omega)) (fT (hk k (by omega)).1 k) (fT (hk k (by omega)).2 k);have e:uN (gI f) (((b+k:Nat):Int),0)=(((b2+k:Nat):Int),0):=by unfold uN;rw[sH,hb]
  rw[e]at k1;exact k1
theorem gH.duplicate(h:gH f P Y)(hA:bO P)(h0:aj P (0,0))(hx:0<=x/\x<(P.length:Nat))(hy:0<=y/\y<(P.length:Nat))(hx1:aj P (x,1))(hx2:aj P (x,2))(py:0<(ah P y).2.2.2.2.length):gH f (bK P x y) (bK Y (gI f x) (gI f y)):=by
 have ey:=h.J7 hy.1 hy.2;have en:(ah Y (gI f y)).2.2.2.2.length=(ah P y).2.2.2.2.length:=by rw[ey];exact rJ _ _
 have eC:lD Y (gI f y)=lD P y:=by unfold lD;rw[en,ey];rfl
 have h2:gH f (dup2 P y) (dup2 Y (gI f y)):=by
  unfold dup2;rw[eC];exact(h.add _ _ _ _ _).add _ _ _ _ _
 have ec:gI f ((P.length:Nat):Int)=((Y.length:Nat):Int):=by rw[sH,h.len]
 have ed:gI f ((P.length+1:Nat):Int)=((Y.length+1:Nat):Int):=by rw[sH,h.ends 1]
 have hcd:∀i:Nat,i<=(ah P y).2.2.2.2.length-1->aj (dup2 P y) (((P.length:Nat):Int),(i:Nat))/\aj (dup2 P y) (((P.length+1:Nat):Int),(i:Nat)):=fun i hi=>⟨uX (by omega) (by omega),uY (by omega) (by omega)⟩
 have h3:gH f (dup3 P x y) (dup3 Y (gI f x) (gI f y)):=by
  unfold dup3;rw[en,<-ec,<-ed];exact h2.bV (by rw[iF];omega) _ hcd
 have h2A:=zO (y:=y) hA h0;have h3A:bO (dup3 P x y):=om h2A (pG h0) _ hcd;have i3:∀{p},aj P p->aj (dup3 P x y) p:=fun h=>dA (pG h) _
 have hc0:aj (dup3 P x y) (((P.length:Nat):Int),0):=dA (uX (by decide) (by omega)) _;have hd0:aj (dup3 P x y) (((P.length+1:Nat):Int),0):=dA (uY (by decide) (by omega)) _;have h4A:bO (mM P x y):=(h3A.move (i3 hx1) hc0).move (i3 hx2).move hd0.move
 have h4:gH f (mM P x y) (mM Y (gI f x) (gI f y)):=by
  have k:=(h3.move h3A (i3 hx1) hc0).move (h3A.move (i3 hx1) hc0) (i3 hx2).move hd0.move;rw[h.n0 0,h.nl 1 0]at k;exact k
 unfold bK;rw[en];refine h4.cB h4A (fun i=>by rw[Nat.add_assoc,Nat.add_assoc];exact h.ends (2+i)) _ fun i hi=>⟨(i3 ⟨hy.1,hy.2,by omega,?_⟩).move.move,?_⟩
 .show((i:Nat):Int)+1<((ah P y).2.2.2.2.length:Nat);omega
 .have:=(tQ (x:=x) (c:=((P.length:Nat):Int)) (d:=((P.length+1:Nat):Int)) (xs:=dup2 P y) hi).move (p:=(x,1)) (q:=(((P.length:Nat):Int),0));have:=this.move (p:=(x,2)) (q:=(((P.length+1:Nat):Int),0));rw[iF]at this;exact this
theorem gH.sG(h:gH f P Y)(hA:bO P)(h0:aj P (0,0)):∀k:Nat,(∀i:Nat,i<k->aj P (y,((i+1:Nat):Int)))->gH f (sG y P k) (sG (gI f y) Y k)
 |0,_=>h
 |k+1,hk=>by
  have ih:=h.sG hA h0 k fun i hi=>hk i (by omega)
  have k1:=(ih.add 5 0 0 [] 1).move ((zS hA h0 k fun i hi=>hk i (by omega)).add (sS h0 k) _ _ _ _ _) (sS (hk k (by omega)) k).app (CY k);rw[h.nl k 0]at k1;exact k1
theorem gH.operate(h:gH f P Y)(hA:bO P)(h0:aj P (0,0))(hx:0<=x/\x<(P.length:Nat))(hy:0<=y/\y<(P.length:Nat))(j1:aj P (y,1))(j2:(ah P y).1=7->aj P (y,2)):gH f (bJ P x y) (bJ Y (gI f x) (gI f y)):=by
 unfold bJ;rw[h.J7 hx.1 hx.2,h.J7 hy.1 hy.2]
 show gH f _ (bif (ah P y).1==7 then bY (bY (Y++[bf 8 (ah P y).2.1 (ah P y).2.2.1 [(ah P x).2.2.1] 2]) (gI f y,1) ((Y.length:Nat),0)) (gI f y,2) ((Y.length:Nat),1)
  else bY (Y++[bf 6 0 (xZ (ah P y).2.2.1 (kM (ah P y).2.2.2.1 0) (ah P x).2.2.1) [] 1]) (gI f y,1) ((Y.length:Nat),0))
 cases hk:(ah P y).1==7 with
 |true=>
  have k7:=j2 (by simpa using hk);have A1:=hA.add h0 8 (ah P y).2.1 (ah P y).2.2.1 [(ah P x).2.2.1] 2;have k:=((h.add 8 (ah P y).2.1 (ah P y).2.2.1 [(ah P x).2.2.1] 2).move (p:=(y,1)) (q:=((P.length:Nat),0)) A1 j1.app (aj.new (by decide) (by decide))).move (p:=(y,2)) (q:=((P.length:Nat),1)) (A1.move j1.app (aj.new (by decide) (by decide))) k7.app.move (aj.new (by decide) (by decide)).move;rw[h.n0 0,h.n0 1]at k;exact k
 |false=>
  have k:=(h.add 6 0 (xZ (ah P y).2.2.1 (kM (ah P y).2.2.2.1 0) (ah P x).2.2.1) [] 1).move (p:=(y,1)) (q:=((P.length:Nat),0)) (hA.add h0 _ _ _ _ _) j1.app (aj.new (by decide) (by decide));rw[h.n0 0]at k;exact k
theorem gH.iW(h:gH f P Y)(hb:uN (gI f) (Tr.iW P.length 0)=Tr.iW Y.length 0):∀k:Nat,uN (gI f) (Tr.iW P.length k)=Tr.iW Y.length k
 |0=>hb
 |k+1=>h.nl k 2
theorem gH.sZ(h:gH f P Y){lv:Int}(hA:bO P)(h0:aj P (0,0))(hr:aj P (Tr.iW P.length 0))(hb:uN (gI f) (Tr.iW P.length 0)=Tr.iW Y.length 0):∀k:Nat,(∀i:Nat,i<k->aj P (x,((i+1:Nat):Int)))->gH f (Tr.sZ lv x P.length P k) (Tr.sZ lv (gI f x) Y.length Y k)
 |0,_=>h
 |k+1,hk=>by
  have ih:=h.sZ (lv:=lv) hA h0 hr hb k fun i hi=>hk i (by omega)
  have A2:=(zK (lv:=lv) hA h0 hr k fun i hi=>hk i (by omega)).add (qp h0 k) 3 lv 0 [] 3;have A3:=A2.link (zJ hr k).app (xJ k (s:=0) (by decide) (by decide));have i1:=(ih.add 3 lv 0 [] 3).link (p:=Tr.iW P.length k) (q:=(((P.length+k:Nat):Int),0)) (zJ hr k).app (xJ k (by decide) (by decide));have i2:=i1.move (p:=(x,((k+1:Nat):Int))) (q:=(((P.length+k:Nat):Int),1)) A3 (qp (hk k (by omega)) k).app.link (xJ k (by decide) (by decide)).link;rw[h.iW hb k,h.nl k 0,h.nl k 1]at i2;exact i2
theorem gH.choose(h:gH f P Y)(hA:bO P)(h0:aj P (0,0))(hx:0<=x/\x<(P.length:Nat))(hy:0<=y/\y<(P.length:Nat))(j1:aj P (y,1)):gH f (eZ P x y) (eZ Y (gI f x) (gI f y)):=by
 have ex:=h.J7 hx.1 hx.2;have ey:=h.J7 hy.1 hy.2;have en:(ah Y (gI f x)).2.2.2.2.length=(ah P x).2.2.2.2.length:=by rw[ex];exact rJ _ _
 have eR:∀i,gH f (bE P y i) (bE Y (gI f y) i):=fun i=>by
  unfold bE;rw[ey];exact h.add _ _ _ _ _
 unfold eZ;rw[en,ex,ey]
 show gH f _ (bif (ah P y).1==11 then bY (bE Y (gI f y) (bif (ah P x).2.2.1==0 then 1 else 0)) (gI f y,1) ((Y.length:Nat),0)
  else bY (Tr.sZ (ah P y).2.1 (gI f x) (Y.length+1) (bE Y (gI f y) (ah P x).2.2.1) ((ah P x).2.2.2.2.length-1)) (gI f y,1) (Tr.iW (Y.length+1) ((ah P x).2.2.2.2.length-1)))
 cases hk:(ah P y).1==11 with
 |true=>
  have k:=(eR (bif (ah P x).2.2.1==0 then 1 else 0)).move (p:=(y,1)) (q:=((P.length:Nat),0)) (hA.add h0 _ _ _ _ _) j1.app (aj.new (by decide) (by decide));rw[h.n0 0]at k;exact k
 |false=>
  simp only[qH];have h1:=eR (ah P x).2.2.1;have l1:(bE P y (ah P x).2.2.1).length=P.length+1:=tO _ _ _;have l2:(bE Y (gI f y) (ah P x).2.2.1).length=Y.length+1:=tO _ _ _;have h1A:bO (bE P y (ah P x).2.2.1):=hA.add h0 _ _ _ _ _;have h1R:aj (bE P y (ah P x).2.2.1) (Tr.iW (bE P y (ah P x).2.2.1).length 0):=by rw[l1];exact aj.new (by decide) (by decide)
  have hb:uN (gI f) (Tr.iW (bE P y (ah P x).2.2.1).length 0)=Tr.iW (bE Y (gI f y) (ah P x).2.2.1).length 0:=by rw[l1,l2];exact h.n0 0
  have hpx:∀i:Nat,i<(ah P x).2.2.2.2.length-1->aj (bE P y (ah P x).2.2.1) (x,((i+1:Nat):Int)):=fun i hi=>aj.app ⟨hx.1,hx.2,by omega,by show((i+1:Nat):Int)<((ah P x).2.2.2.2.length:Nat);omega⟩
  have h2:=h1.sZ (lv:=(ah P y).2.1) h1A (aj.app h0) h1R hb _ hpx;have h2A:=zK (lv:=(ah P y).2.1) h1A (aj.app h0) h1R _ hpx;have k:=h2.move (p:=(y,1)) h2A (qp (aj.app j1) _) (zJ h1R ((ah P x).2.2.2.2.length-1));rw[h1.iW hb,l1,l2]at k;exact k
end
end Go.Tr
namespace Go.Tr
open Go Go.RowKit
section
variable {f:Nat->Nat}{P Y:aS}{x y c:Int}{bk:iQ}
theorem GN(lv b:Int)(t:aS):oC lv b t (t.length-1)=((bU lv t).drop 1).map (bP b):=by
 unfold oC;rw[qN (by rw[List.length_drop,lZ];exact Nat.le_refl _)]
theorem vV{xs:aS}{z s:Int}{q:aC}(h0:0<=z)(h1:z<(xs.length:Nat)):ah (aN xs (z,s) q) z=((ah xs z).1,(ah xs z).2.1,(ah xs z).2.2.1,(ah xs z).2.2.2.1,(ah xs z).2.2.2.2.set s.toNat q):=by
 rw[d9];exact if_pos ⟨rfl,by show z.toNat<xs.length;omega⟩
theorem lC{xs:aS}{z s i:Int}{q:aC}(h:z.toNat≠i.toNat):ah (aN xs (z,s) q) i=ah xs i:=by
 rw[d9];exact if_neg fun k=>h k.1
theorem RD{α:Type}{u v:List α}{s:Nat}{w:α}(hl:u.length=v.length)(h:∀k:Nat,k≠s->u[k]? =v[k]?):u.set s w=v.set s w:=by
 apply List.ext_getElem?;intro k;rw[List.getElem?_set,List.getElem?_set,hl]
 by_cases e:s=k
 .rw[if_pos e,if_pos e]
 .rw[if_neg e,if_neg e];exact h k (Ne.symm e)
theorem gH.VO(h:gH f P Y){t:aS}{b b2:Int}{z:aC}(ht:gL (fun p=>aj t p) t)(h0:aj t (0,0))(h00:∀p,aj t p->p.1=0->p=(0,0))(hb:b=(P.length:Int)-1)(hb2:b2=(Y.length:Int)-1):
  gH f (aN (P++(t.drop 1).map (bP b)) ((ay t (0,0)).1+b,(ay t (0,0)).2) z) (aN (Y++(t.drop 1).map (bP b2)) ((ay t (0,0)).1+b2,(ay t (0,0)).2) (uN (gI f) z)):=by
 obtain⟨r1,r2,r3,r4⟩:=ht (0,0) h0
 have rpos:1<=(ay t (0,0)).1:=by
  have h1:=r2.1
  by_cases e:(ay t (0,0)).1=0
  .exact absurd (h00 _ r2 e) r4
  .omega
 have rlt:=r2.2.1;have r3n:=r2.2.2.1
 have key:∀(j:Nat),j+1<t.length->∀(k:Nat) (u:aC),(ah t ((j+1:Nat):Int)).2.2.2.2[k]? =some u->¬((ay t (0,0)).1=((j+1:Nat):Int)/\(ay t (0,0)).2.toNat=k)->uN (gI f) (u.1+b,u.2)=(u.1+b2,u.2):=fun j hj k u hu hne=>by
  have hk:=(qE.1 hu).1;have pin:aj t (((j+1:Nat):Int),((k:Nat):Int)):=⟨by show(0:Int)<=(j+1:Nat);omega,by show((j+1:Nat):Int)<(t.length:Nat);omega,by show(0:Int)<=(k:Nat);omega,by show((k:Nat):Int)<((ah t ((j+1:Nat):Int)).2.2.2.2.length:Nat);omega⟩
  have pe:ay t (((j+1:Nat):Int),((k:Nat):Int))=u:=by
   show elt (dflt aK) (ah t ((j+1:Nat):Int)).2.2.2.2 ((k:Nat):Int)=u;unfold elt;rw[qK,qC,hu];rfl
  obtain⟨_,w2,w3,w4⟩:=ht _ pin;rw[pe]at w2 w3;have w1:=w2.1
  have u1:1<=u.1:=by
   by_cases e:u.1=0
   .exfalso;rw[h00 u w2 e]at w3;refine hne ⟨congrArg Prod.fst w3,?_⟩;have k2:(ay t (0,0)).2=((k:Nat):Int):=congrArg Prod.snd w3;omega
   .omega
  have hE:=h.ends (u.1.toNat-1);unfold uN;show(gI f (u.1+b),u.2)=(u.1+b2,u.2);rw[show u.1+b=((P.length+(u.1.toNat-1):Nat):Int) by omega,sH,hE];exact Prod.ext (show((Y.length+(u.1.toNat-1):Nat):Int)=u.1+b2 by omega) rfl
 generalize ay t (0,0)=R at*;obtain⟨Ra,Rs⟩:=R;have rpos':1<=Ra:=rpos;have rlt':Ra<(t.length:Nat):=rlt;have rs':0<=Rs:=r3n;refine⟨h.injF,h.zero,fun j=> ?_,fun i hi=> ?_,fun k hk hn=> ?_⟩
 .rw[cO,cO,qA,qA,mG,mG,Nat.add_assoc,Nat.add_assoc];exact h.ends _
 .rw[cO,qA,mG]at hi;show ah (aN (Y++(t.drop 1).map (bP b2)) (Ra+b2,Rs) (uN (gI f) z)) ((f i:Nat):Int)=Gn (gI f) (ah (aN (P++(t.drop 1).map (bP b)) (Ra+b,Rs) z) ((i:Nat):Int))
  by_cases e:i<P.length
  .have e2:=h.ltl.2 e;rw[lC (by omega),lC (by omega),bZ (by omega),bZ (by omega)];exact h.at_ i e
  .obtain⟨j,rfl⟩:∃j,i=P.length+j:=⟨i-P.length,by omega⟩;have hj:j+1<t.length:=by omega
   have ef:=h.ends j;have a1:=qm (xs:=P) (t:=t) hb (i:=((P.length+j:Nat):Int)) (by omega) (by omega);have a2:=qm (xs:=Y) (t:=t) hb2 (i:=((Y.length+j:Nat):Int)) (by omega) (by omega);rw[show((P.length+j:Nat):Int)-b=((j+1:Nat):Int) by omega]at a1;rw[show((Y.length+j:Nat):Int)-b2=((j+1:Nat):Int) by omega]at a2;have kj:=key j hj;rw[ef];generalize ah t ((j+1:Nat):Int)=A at*;have l1:(P++(t.drop 1).map (bP b)).length=P.length+(t.length-1):=by rw[qA,mG]
   have l2:(Y++(t.drop 1).map (bP b2)).length=Y.length+(t.length-1):=by rw[qA,mG]
   by_cases hR:Ra=((j+1:Nat):Int)
   .rw[show Ra+b2=((Y.length+j:Nat):Int) by omega,show Ra+b=((P.length+j:Nat):Int) by omega,vV (by omega) (by rw[l2];omega),vV (by omega) (by rw[l1];omega),a1,a2];unfold Gn bP;simp only[List.map_set,List.map_map]
    congr 4
    refine RD (by simp) fun k hk=> ?_
    rw[qY,qY];cases hu:A.2.2.2.2[k]? with
    |none=>rfl
    |some u=>
     show some _=some _;have:=kj k u hu fun e=>hk e.2.symm
     exact congrArg some this.symm
   .rw[lC (by omega),lC (by omega),a1,a2];unfold Gn bP;simp only[List.map_map]
    congr 4
    apply List.ext_getElem?;intro k;rw[qY,qY];cases hu:A.2.2.2.2[k]? with
    |none=>rfl
    |some u=>
     show some _=some _;have:=kj k u hu fun e=>hR e.1
     exact congrArg some this.symm
 .rw[cO,qA,mG]at hk
  have hk2:k<Y.length:=by
   rcases Nat.lt_or_ge k Y.length with e|e
   .exact e
   .have h1:=h.ends (k-Y.length);exact absurd (by rw[h1];omega) (hn (P.length+(k-Y.length)))
  show ah (aN (Y++(t.drop 1).map (bP b2)) (Ra+b2,Rs) (uN (gI f) z)) ((k:Nat):Int)=KV;rw[lC (by omega),bZ (by omega)];exact h.hole k hk2 hn
theorem gH.expand(h:gH f P Y){t:aS}{lv:Int}(hy:aj P (y,0))(ht:gL (fun p=>aj t p) t)(h0:aj t (0,0))(h00:∀p,aj t p->p.1=0->p=(0,0)):gH f (iG t lv P y) (iG t lv Y (gI f y)):=by
 unfold iG;rw[GN,GN];have k:=h.VO (t:=bU lv t) (z:=(y,0)) (b:=(P.length:Int)-1) (b2:=(Y.length:Int)-1) ht.shift (aj.gV.2 h0) (fun p hp e=>h00 p (aj.gV.1 hp) e) rfl rfl;rw[oH h0]at k;have k2:=k.Zad (p:=(y,0)) (q:=((ay t (0,0)).1+((P.length:Int)-1),(ay t (0,0)).2)) hy.1 (by rw[cO,qA];have:=hy.2.1;show y<_;have h3:y<(P.length:Nat):=this;omega);obtain⟨r1,r2,r3,r4⟩:=ht (0,0) h0
 have rpos:1<=(ay t (0,0)).1:=by
  have h1:=r2.1
  by_cases e:(ay t (0,0)).1=0
  .exact absurd (h00 _ r2 e) r4
  .omega
 have hE:=h.ends ((ay t (0,0)).1.toNat-1)
 have e:uN (gI f) ((ay t (0,0)).1+((P.length:Int)-1),(ay t (0,0)).2)=((ay t (0,0)).1+((Y.length:Int)-1),(ay t (0,0)).2):=by
  unfold uN;show(gI f _,_)=_;rw[show(ay t (0,0)).1+((P.length:Int)-1)=((P.length+((ay t (0,0)).1.toNat-1):Nat):Int) by omega,sH,hE];exact Prod.ext (show((Y.length+((ay t (0,0)).1.toNat-1):Nat):Int)=(ay t (0,0)).1+((Y.length:Int)-1) by omega) rfl
 rw[e]at k2;unfold bD;rw[show((P.length:Nat):Int)-1+(ay t (0,0)).1=(ay t (0,0)).1+((P.length:Int)-1) by omega,show((Y.length:Nat):Int)-1+(ay t (0,0)).1=(ay t (0,0)).1+((Y.length:Int)-1) by omega];exact k2
theorem gH.inter(h:gH f P Y)(hp:MB P c x y)(hA:bO P)(h0:aj P (0,0))(hc:1<=c/\c<=7)(hb:BkW bk)(h7:c=7->(0<=(ah P x).2.2.1/\(ah P x).2.2.1<(bk.length:Nat))):gH f (kr bk P c x y) (kr bk Y c (gI f x) (gI f y)):=by
 obtain⟨⟨hx0,hy0,p12,p3,px,py,dy,p5,p6⟩,s5,s6⟩:=hp;have hcs:c=1\/c=2\/c=3\/c=4\/c=5\/c=6\/c=7:=by omega
 rcases hcs with rfl|rfl|rfl|rfl|rfl|rfl|rfl
 .obtain⟨j1,j2,j3,j4⟩:=p12 (.inl rfl);exact(h.join hA j1 j3).join (hA.join j1 j3) j2.join j4.join
 .obtain⟨j1,j2,j3,j4⟩:=p12 (.inr rfl);exact(h.join hA j1 j3).join (hA.join j1 j3) j2.join j4.join
 .obtain⟨hx1,hx2⟩:=p3 rfl;exact h.duplicate hA h0 hx0 hy0 hx1 hx2 py.1
 .show gH f (iA P y) (iA Y (gI f y));unfold iA;rw[h.J7 hy0.1 hy0.2,rJ];exact h.sG hA h0 _ fun i hi=>⟨hy0.1,hy0.2,by omega,by show((i+1:Nat):Int)<((ah P y).2.2.2.2.length:Nat);omega⟩
 .obtain⟨j1,j2,j3⟩:=p5 rfl;exact h.operate hA h0 hx0 hy0 j1 j2
 .obtain⟨j1,j2,j3⟩:=p6 rfl;exact h.choose hA h0 hx0 hy0 j1
 .obtain⟨v0,v1⟩:=h7 rfl;show gH f (iG (bG bk (ah P x).2.2.1) (ah P x).2.1 P y) (iG (bG bk (ah Y (gI f x)).2.2.1) (ah Y (gI f x)).2.1 Y (gI f y));rw[h.J7 hx0.1 hx0.2];exact h.expand ⟨hy0.1,hy0.2,Int.le_refl 0,by show(0:Int)<((ah P y).2.2.2.2.length:Nat);omega⟩ (hb.wi _ v0 v1) (hb.r0 _ v0 v1) (hb.r1 _ v0 v1)
theorem gH.done(h:gH f P Y)(hp:MB P c x y)(hA:bO P)(h0:aj P (0,0))(hc:1<=c/\c<=7)(hb:BkW bk)(h7:c=7->(0<=(ah P x).2.2.1/\(ah P x).2.2.1<(bk.length:Nat))):gH f (dX bk P c x y) (dX bk Y c (gI f x) (gI f y)):=by
 have k:=h.inter (bk:=bk) hp hA h0 hc hb h7;have hle:=G5 (xs:=P) bk c x y;have hx:=hp.x0;have hy:=hp.y0;have k1:=k.drop hx.1 (by omega);unfold dX;cases c==7
 .exact k1.drop hy.1 (by rw[iL];omega)
 .exact k1
end
end Go.Tr
namespace Go.Tr
open Go Go.RowKit
theorem A8(F:Int->Int)(u v:ak):aR (Gn F u) (Gn F v)=aR u v:=rfl
theorem H9(bk:iQ)(F:Int->Int)(c:Int)(u v:ak):jK bk c (Gn F u) (Gn F v)=jK bk c u v:=by
 unfold jK nW;rw[rJ,rJ];rfl
theorem TJ(bk:iQ)(F:Int->Int)(u v:ak):dM bk (Gn F u) (Gn F v)=dM bk u v:=by
 unfold dM;rw[A8,H9,H9];rfl
theorem uH{kv:kT}(hT:∀e∈kv,e.2=true){c x y:Int}(hx:dS false kv x=false)(hy:dS false kv y=false)(hxy:x≠y):(fU kv (bR c x y)).length=kv.length+(bR c x y).length:=by
 unfold bR;cases c==7 with
 |true=>exact uh hT hx
 |false=>
  show(gM (gM kv x true) y true).length=kv.length+2;rw[uh (Jw hT x) (by rw[xW,if_neg hxy];exact hy),uh hT hx]
theorem jC{kv:kT}{i:Int}(h:¬Gone kv i):dS false kv i=false:=by
 cases hq:dS false kv i with
 |true=>exact absurd hq h
 |false=>rfl
section
variable {f:Nat->Nat}{P Y:aS}{a b:Int}{bk:iQ}{e:aB}
theorem gH.first(h:gH f P Y)(ha:0<=a/\a<(P.length:Nat))(hb:0<=b/\b<(P.length:Nat)):au Y (gI f a) (gI f b)=(gI f (au P a b).1,gI f (au P a b).2):=by
 unfold au;rw[h.J7 ha.1 ha.2,h.J7 hb.1 hb.2];show(bif aP (ah P a).1 (ah P a).2.1 (ah P b).1 (ah P b).2.1==2 then _ else _)=_;cases aP (ah P a).1 (ah P a).2.1 (ah P b).1 (ah P b).2.1==2<;>rfl
theorem gH.oO(h:gH f P Y)(ha:0<=a/\a<(P.length:Nat))(hb:0<=b/\b<(P.length:Nat)):Tr.oO Y (gI f a) (gI f b)=Tr.oO P a b:=by
 have hf:=Bg (xs:=P) ha hb;unfold Tr.oO;rw[h.first ha hb];show aR (ah Y (gI f (au P a b).1)) (ah Y (gI f (au P a b).2))=_;rw[h.J7 hf.1.1 hf.1.2,h.J7 hf.2.1 hf.2.2,A8]
theorem gH.Zbc(h:gH f P Y)(ha:0<=a/\a<(P.length:Nat))(hb:0<=b/\b<(P.length:Nat)):dM bk (ah Y (au Y (gI f a) (gI f b)).1) (ah Y (au Y (gI f a) (gI f b)).2)=dM bk (ah P (au P a b).1) (ah P (au P a b).2):=by
 have hf:=Bg (xs:=P) ha hb;rw[h.first ha hb];simp only;rw[h.J7 hf.1.1 hf.1.2,h.J7 hf.2.1 hf.2.2,TJ]
structure Sm(f:Nat->Nat)(P Y:List ak):Prop where
 r:gH f P Y
 len:P.length=Y.length
 tw:∃kp xp ky xy,Twin kp xp P/\Twin ky xy Y/\kp.length=ky.length
theorem gI_z(f:Nat->Nat)(z:Int):0<=z->0<=gI f z:=fun h=>by rw[kQ h];omega
end
end Go.Tr
namespace Go.Tr
open Go Go.RowKit
theorem Bl{bk:iQ}{u v u' v':ak}(hu:sig u=sig u')(hv:sig v=sig v'):dM bk u v=dM bk u' v':=by
 have hc:=uW hu hv;unfold sig at hu hv;simp only[Prod.mk.injEq]at hu hv;obtain⟨u1,u2,u3,u4,u5⟩:=hu;obtain⟨v1,v2,v3,v4,v5⟩:=hv
 have hp:∀c,jK bk c u v=jK bk c u' v':=fun c=>by
  unfold jK nW;rw[u1,u3,u5,v5]
 unfold dM;rw[hc,hp,hp,u2,u3]
section
variable {kv:kT}{xs ys:aS}{a b:Int}{bk:iQ}{e g:aB}
theorem M5{zs:aS}(ha:sig (ah zs a)=sig (ah ys a))(hb:sig (ah zs b)=sig (ah ys b)):au zs a b=au ys a b:=by
 unfold sig at ha hb;simp only[Prod.mk.injEq]at ha hb;unfold au;rw[ha.1,ha.2.1,hb.1,hb.2.1]
theorem wI(ys:aS)(a b:Int):au ys a b=(a,b)\/au ys a b=(b,a):=by
 unfold au;cases aP (ah ys a).1 (ah ys a).2.1 (ah ys b).1 (ah ys b).2.1==2
 .exact .inl rfl
 .exact .inr rfl
theorem Twin.FN(T:Twin kv xs ys){k:Int}(h:dx ys k):¬Gone kv k:=fun e=>h.2.2 (by rw[(T.hole k e).2];rfl)
theorem Twin.K4(T:Twin kv xs ys){k:Int}(h0:0<=k)(h1:k<(xs.length:Nat))(hd:¬Gone kv k):dx ys k:=by
 refine⟨h0,by rw[<-T.len];exact h1,?_⟩;rw[T.at_ h0 h1 hd];have:=AJ (T.wf k h0 h1 hd);omega
theorem Yw{n k k':Nat}:gI (fun i=>(lq n k k' (i:Nat)).toNat)=lq n k k':=funext fun z=>by
 by_cases h:0<=z
 .rw[kQ h,show((z.toNat:Nat):Int)=z by omega];have:0<=lq n k k' z:=by unfold lq;(repeat' split)<;>omega
  omega
 .rw[xR h];unfold lq
  (repeat' split)<;>omega
theorem Swap.rin{ys:aS}{c x y c' x' y':Int}{n k k':Nat}(S:Swap bk ys c x y c' x' y' n k k')(hn:0<n):gH (fun i=>(lq n k k' (i:Nat)).toNat) (dX bk (dX bk ys c x y) c' x' y') (dX bk (dX bk ys c' x' y') c x y):=by
 have pos:∀i:Nat,0<=lq n k k' (i:Nat):=fun i=>by unfold lq;(repeat' split)<;>omega
 refine⟨fun i j h=> ?_,?_,fun j=> ?_,fun i hi=> ?_,fun m hm h=> ?_⟩
 .have h1:=pos i;have h2:=pos j;have h':(lq n k k' (i:Nat)).toNat=(lq n k k' (j:Nat)).toNat:=h;have:=JW (n:=n) (k:=k) (k':=k') (i:Nat) (j:Nat) (by omega);omega
 .show(lq n k k' ((0:Nat):Int)).toNat=0;rw[ni (by omega)];rfl
 .show(lq n k k' ((_+j:Nat):Int)).toNat=_;rw[S.l12,S.l21,JX (by omega)];omega
 .rw[Yw];have:=S.at_ (i:Nat) (by omega) (by rw[S.l12]at hi;omega);rw[<-this];have:=pos i
  congr 1
  show(((lq n k k' (i:Nat)).toNat:Nat):Int)=_;omega
 .exfalso;have h1:0<=lq n k' k (m:Nat):=by unfold lq;(repeat' split)<;>omega
  refine h (lq n k' k (m:Nat)).toNat ?_;show(lq n k k' (((lq n k' k (m:Nat)).toNat:Nat):Int)).toNat=m;rw[show(((lq n k' k (m:Nat)).toNat:Nat):Int)=lq n k' k (m:Nat) by omega,Ql];rfl
end
end Go.Tr
