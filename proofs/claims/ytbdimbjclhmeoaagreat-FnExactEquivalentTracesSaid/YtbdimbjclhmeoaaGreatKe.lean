
/- Interactions that nothing but the number of agents can hinder: on nets alike but for names, and two of them in either order. No program in it. -/
import Derived.Test.YtbdimbjclhmeoaaGreatZr
import Derived.Test.YtbdimbjclhmeoaaGreatUp
set_option linter.unusedSimpArgs false
set_option linter.unusedVariables false
namespace Go.Tr
open Go Go.RowKit
structure dw(bk:List (List ak))(ys:List ak)(a b:Int):Prop where
 ta:dx ys a
 tb:dx ys b
 ac:yT ys a b
 gr:(dM bk (ah ys (au ys a b).1) (ah ys (au ys a b).2)).2=0
section
variable {kv:kT}{xs ys:aS}{a b a' b':Int}{bk:iQ}{f:Nat->Nat}{P Y:aS}
theorem dw.J8(h:dw bk ys a b)(T:Twin kv xs ys)(hb:rZ bk):Ms bk (Gone kv) xs (oO ys a b) (au ys a b).1 (au ys a b).2:=T.J8 hb h.ta h.tb h.ac h.gr
theorem dw.twin(h:dw bk ys a b)(T:Twin kv xs ys)(hb:rZ bk):Twin (fU kv (bR (oO ys a b) (au ys a b).1 (au ys a b).2)) (aW bk xs (oO ys a b) (au ys a b).1 (au ys a b).2) (aX bk ys a b):=(T.Ag (h.J8 T hb) hb.toBkV).1
theorem dw.ZbU(h:dw bk ys a b)(T:Twin kv xs ys)(hb:rZ bk){z:Int}(h0:dx ys z)(h1:dx (aX bk ys a b) z):sig (ah (aX bk ys a b) z)=sig (ah ys z):=by
 have I:=h.J8 T hb;have T1:=h.twin T hb;have l:=T.len;have l1:=T1.len;rw[T.at_ h0.1 (by rw[l];exact h0.2.1) (T.FN h0),T1.at_ h1.1 (by rw[l1];exact h1.2.1) (T1.FN h1)];exact pU I h0.1 (by rw[l];exact h0.2.1)
theorem Twin.symG(T:Twin kv xs ys)(k:iw (Gone kv) xs a b)(ra:(ah xs a).1≠1)(rb:(ah xs b).1≠1)(hok:aR (ah xs a) (ah xs b)≠8):
  dM bk (ah ys (au ys b a).1) (ah ys (au ys b a).2)=dM bk (ah ys (au ys a b).1) (ah ys (au ys a b).2):=by
 have wa:=T.wf a k.px.1 k.px.2.1 k.lx;have wb:=T.wf b k.py.1 k.py.2.1 k.ly;have ea:=T.at_ k.px.1 k.px.2.1 k.lx;have eb:=T.at_ k.py.1 k.py.2.1 k.ly;have hD:Duo (ah ys a) (ah ys b):=by rw[ea,eb];exact⟨wa,wb,ra,rb,hok⟩
 rcases ze hD with⟨h1,h2⟩|⟨h1,h2⟩|⟨h1,h2,h3⟩
 .have e1:au ys a b=(b,a):=by unfold au;rw[h1];rfl
  have e2:au ys b a=(b,a):=by unfold au;rw[h2];rfl
  rw[e1,e2]
 .have e1:au ys a b=(a,b):=by unfold au;rw[h1];rfl
  have e2:au ys b a=(a,b):=by unfold au;rw[h2];rfl
  rw[e1,e2]
 .have e1:au ys a b=(a,b):=by unfold au;rw[h1];rfl
  have e2:au ys b a=(b,a):=by unfold au;rw[h2];rfl
  rw[e1,e2];simp only;unfold dM jK;rcases h3 with⟨c2,ka,kb⟩|⟨c4,ka,kb⟩
  .rw[iK (ah ys a) (ah ys b),c2];rfl
  .have na:(ah ys a).2.2.2.2.length=1:=by rw[ea];exact(fG wa).1 (.inr (.inl (by rw[<-ea];exact ka)))
   have nb:(ah ys b).2.2.2.2.length=1:=by rw[eb];exact(fG wb).1 (.inr (.inl (by rw[<-eb];exact kb)))
   rw[iK (ah ys a) (ah ys b),c4,na,nb];rfl
theorem Sm.step(h:Sm f P Y)(hb:rZ bk)(hp:dw bk P a b):dw bk Y (min (gI f a) (gI f b)) (max (gI f a) (gI f b))/\Sm f (aX bk P a b) (aX bk Y (min (gI f a) (gI f b)) (max (gI f a) (gI f b))):=by
 obtain⟨kp,xp,ky,xy,T1,T2,hk⟩:=h.tw;have ha:0<=a/\a<(P.length:Nat):=⟨hp.ta.1,hp.ta.2.1⟩;have hb':0<=b/\b<(P.length:Nat):=⟨hp.tb.1,hp.tb.2.1⟩;have ha2:=h.r.in_.2 ha;have hb2:=h.r.in_.2 hb';obtain⟨k1,ra,rb⟩:=T1.yL hp.ta hp.tb hp.ac;have ea:=h.r.J7 ha.1 ha.2;have eb:=h.r.J7 hb'.1 hb'.2;have ta2:dx Y (gI f a):=⟨ha2.1,ha2.2,by rw[ea];exact hp.ta.2.2⟩;have tb2:dx Y (gI f b):=⟨hb2.1,hb2.2,by rw[eb];exact hp.tb.2.2⟩
 have nz:∀z:Int,0<z->0<gI f z:=fun z hz=>by
  have h0:=gI_z f z (by omega)
  have h1:gI f z≠0:=fun e=>by
   have e0:gI f 0=0:=by rw[kQ (Int.le_refl 0)];show((f 0:Nat):Int)=0;rw[h.r.zero];rfl
   rw[<-e0]at e;have:=h.r.ZB.1 e;omega
  omega
 have b1:0<b:=by have:=hp.ac.1;have:=hp.ac.2.1;omega
 have pa:aj P (a,0):=(T1.st.ag.port k1.px k1.lx).1;have pb:aj P (b,0):=(T1.st.ag.port k1.py k1.ly).1;have wab:ay P (a,0)=(b,0):=hp.ac.2.2
 have wba:ay P (b,0)=(a,0):=by
  have ks:=k1.symm T1.st;have:=ks.w;have e2:=(T1.st.ag.port k1.py k1.ly).2;rw[<-e2]at this;exact this
 have w1:ay Y (gI f a,0)=(gI f b,0):=by
  have:=h.r.peer pa;rw[wab]at this;exact this
 have w2:ay Y (gI f b,0)=(gI f a,0):=by
  have:=h.r.peer pb;rw[wba]at this;exact this
 have hgr:=h.r.Zbc (bk:=bk) ha hb';have I:=hp.J8 T1 hb;obtain⟨sp1,sp2,v7,_,_⟩:=T1.next I.k hb.toBkV I.rx I.ry I.hr I.hc I.cl I.h7;have kxl:=T1.at_ I.k.px.1 I.k.px.2.1 I.k.lx
 have rn:=h.r.done (bk:=bk) sp2 T1.ZaH T1.p0y I.hc hb.toBkW fun e=>by
  have h7:=I.h7 e;rw[kxl];exact⟨v7 e,h7.1⟩
 have rn2:gH f (aX bk P a b) (aX bk Y (gI f a) (gI f b)):=by
  show gH f (dX bk P (Tr.oO P a b) (au P a b).1 (au P a b).2) (dX bk Y (Tr.oO Y (gI f a) (gI f b)) (au Y (gI f a) (gI f b)).1 (au Y (gI f a) (gI f b)).2);rw[h.r.oO ha hb',h.r.first ha hb'];exact rn
 have len2:(aX bk P a b).length=(aX bk Y (gI f a) (gI f b)).length:=by
  have l1:=rn2.ends 0
  have hle:P.length<=(aX bk P a b).length:=by
   have q:=(T1.Ag I hb.toBkV);have q2:(aW bk xp (Tr.oO P a b) (au P a b).1 (au P a b).2).length=xp.length+(lH bk xp (Tr.oO P a b) (au P a b).1 (au P a b).2).length:=q.2;have q3:=T1.len;have q4:(aX bk P a b).length=(aW bk xp (Tr.oO P a b) (au P a b).1 (au P a b).2).length:=q.1.len.symm;omega
  have l2:=h.r.ends ((aX bk P a b).length-P.length);have hln:=h.len;rw[Nat.add_zero,show(aX bk P a b).length=P.length+((aX bk P a b).length-P.length) by omega,l2]at l1;omega
 have hcl:aR (ah Y (gI f a)) (ah Y (gI f b))=aR (ah P a) (ah P b):=by rw[ea,eb,A8]
 have hne:gI f a≠gI f b:=fun e=>k1.ne (h.r.ZB.1 e)
 have h8:aR (ah P a) (ah P b)≠8:=by
  have h8:Tr.oO P a b≠8:=by have:=I.hc;omega
  have:=fq P a b;rw[<-this];exact h8
 have pr:iw (Gone ky) xy (gI f a) (gI f b)/\(ah xy (gI f a)).1≠1/\(ah xy (gI f b)).1≠1:=by
  rcases Int.lt_or_gt_of_ne hne with hl|hl
  .exact T2.yL ta2 tb2 ⟨nz a hp.ac.1,hl,w1⟩
  .obtain⟨q1,q2,q3⟩:=T2.yL tb2 ta2 ⟨nz b b1,hl,w2⟩;exact⟨q1.symm T2.st,q3,q2⟩
 have h8y:aR (ah xy (gI f a)) (ah xy (gI f b))≠8:=by
  rw[<-T2.at_ pr.1.px.1 pr.1.px.2.1 pr.1.lx,<-T2.at_ pr.1.py.1 pr.1.py.2.1 pr.1.ly,hcl];exact h8
 have sy:=T2.symZ (bk:=bk) pr.1 pr.2.1 pr.2.2 h8y;have sg:=T2.symG (bk:=bk) pr.1 pr.2.1 pr.2.2 h8y;have hg0:(dM bk (ah Y (au Y (gI f a) (gI f b)).1) (ah Y (au Y (gI f a) (gI f b)).2)).2=0:=by rw[hgr];exact hp.gr
 have fin:∀a' b':Int,dw bk Y a' b'->aX bk Y a' b'=aX bk Y (gI f a) (gI f b)->aR (ah Y a') (ah Y b')=aR (ah P a) (ah P b)->dw bk Y a' b'/\Sm f (aX bk P a b) (aX bk Y a' b'):=fun a' b' hq en hc=>by
  refine⟨hq,?_⟩;have J:=hq.J8 T2 hb;refine⟨by rw[en];exact rn2,by rw[en];exact len2,_,_,_,_,hp.twin T1 hb,hq.twin T2 hb,?_⟩;rw[uH T1.kt (jC I.k.lx) (jC I.k.ly) I.k.ne,uH T2.kt (jC J.k.lx) (jC J.k.ly) J.k.ne,hk]
  have hcc:Tr.oO Y a' b'=Tr.oO P a b:=by
   unfold Tr.oO;rw[fq,fq,hc]
  rw[hcc];unfold bR;cases Tr.oO P a b==7<;>rfl
 rcases Int.lt_or_gt_of_ne hne with hl|hl
 .rw[Int.min_eq_left (by omega),Int.max_eq_right (by omega)];exact fin _ _ ⟨ta2,tb2,⟨nz a hp.ac.1,hl,w1⟩,hg0⟩ rfl hcl
 .rw[Int.min_eq_right (by omega),Int.max_eq_left (by omega)];exact fin _ _ ⟨tb2,ta2,⟨nz b b1,hl,w2⟩,by rw[sg];exact hg0⟩ sy.1 (by rw[iK,hcl])
theorem dw.four(h:dw bk ys a b)(h':dw bk ys a' b')(T:Twin kv xs ys)(hn:¬(a=a'/\b=b')):Four a b a' b':=by
 obtain⟨k,_,_⟩:=T.yL h.ta h.tb h.ac;obtain⟨k',_,_⟩:=T.yL h'.ta h'.tb h'.ac;have w1:=k.w;have w2:=(k.symm T.st).w;have w3:=k'.w;have w4:=(k'.symm T.st).w;have l1:=h.ac.2.1;have l2:=h'.ac.2.1;refine⟨fun e=> ?_,fun e=> ?_,fun e=> ?_,fun e=> ?_⟩
 .subst e;rw[w1]at w3;exact hn ⟨rfl,congrArg Prod.fst w3⟩
 .subst e;rw[w1]at w4;have:=congrArg Prod.fst w4;simp only at this;omega
 .subst e;rw[w2]at w3;have:=congrArg Prod.fst w3;simp only at this;omega
 .subst e;rw[w2]at w4;exact hn ⟨congrArg Prod.fst w4,rfl⟩
theorem Four.first(F:Four a b a' b'):Four (au ys a b).1 (au ys a b).2 (au ys a' b').1 (au ys a' b').2:=by
 rcases wI ys a b with e1|e1<;>rcases wI ys a' b' with e2|e2<;>rw[e1,e2]
 .exact F
 .exact⟨F.b,F.a,F.d,F.c⟩
 .exact⟨F.c,F.d,F.a,F.b⟩
 .exact⟨F.d,F.c,F.b,F.a⟩
structure After(bk:List (List ak))(ys:List ak)(a b a' b':Int):Prop where
 ok:dw bk (aX bk ys a b) a' b'
 ef:au (aX bk ys a b) a' b'=au ys a' b'
 ec:oO (aX bk ys a b) a' b'=oO ys a' b'
theorem dw.later(h:dw bk ys a b)(h':dw bk ys a' b')(T:Twin kv xs ys)(hb:rZ bk)(F:Four a b a' b'):After bk ys a b a' b':=by
 have I:=h.J8 T hb;have J:=h'.J8 T hb;have F4:=F.first (ys:=ys);have T1:=h.twin T hb;have K:=T.later I J hb.toBkV F4
 have Kp:iw (Gone (fU kv (bR (oO ys a b) (au ys a b).1 (au ys a b).2))) (aW bk xs (oO ys a b) (au ys a b).1 (au ys a b).2) a' b':=by
  rcases wI ys a' b' with e1|e1
  .have:=K.k;rw[e1]at this;exact this
  .have:=K.k;rw[e1]at this;exact this.symm T1.st
 have ta2:dx (aX bk ys a b) a':=T1.K4 Kp.px.1 Kp.px.2.1 Kp.lx;have tb2:dx (aX bk ys a b) b':=T1.K4 Kp.py.1 Kp.py.2.1 Kp.ly
 have ac2:yT (aX bk ys a b) a' b':=by
  refine⟨h'.ac.1,h'.ac.2.1,?_⟩;have:=Kp.w;have e2:=(T1.st.ag.port Kp.px Kp.lx).2;rw[<-this];exact e2
 have sea:=h.ZbU T hb h'.ta ta2;have seb:=h.ZbU T hb h'.tb tb2;have ef2:=M5 sea seb
 have fs2:sig (ah (aX bk ys a b) (au ys a' b').1)=sig (ah ys (au ys a' b').1)/\sig (ah (aX bk ys a b) (au ys a' b').2)=sig (ah ys (au ys a' b').2):=by
  rcases wI ys a' b' with e1|e1<;>rw[e1]
  .exact⟨sea,seb⟩
  .exact⟨seb,sea⟩
 refine⟨⟨ta2,tb2,ac2,?_⟩,ef2,by unfold oO;rw[ef2,uW fs2.1 fs2.2]⟩;rw[ef2,Bl fs2.1 fs2.2];exact h'.gr
theorem dw.swap(h:dw bk ys a b)(h':dw bk ys a' b')(T:Twin kv xs ys)(hb:rZ bk)(F:Four a b a' b'):
  ∃(k k':Nat) (f:Nat->Nat),gI f=lq ys.length k k'/\Sm f (aX bk (aX bk ys a b) a' b') (aX bk (aX bk ys a' b') a b)/\
   (aX bk ys a b).length=ys.length+k/\(aX bk ys a' b').length=ys.length+k'/\(aX bk (aX bk ys a b) a' b').length=ys.length+k+k'/\(aX bk (aX bk ys a' b') a b).length=ys.length+k+k':=by
 have I:=h.J8 T hb;have J:=h'.J8 T hb;have F4:=F.first (ys:=ys);have S:=RJ T I J hb.toBkV F4;obtain⟨o1,ef1,ec1⟩:=h.later h' T hb F;obtain⟨o2,ef2,ec2⟩:=h'.later h T hb F.symm;have T1:=h.twin T hb;have T2:=h'.twin T hb;generalize hk:(lI bk (oO ys a b) (ah xs (au ys a b).1) (ah xs (au ys a b).2)).length=k at*;generalize hk':(lI bk (oO ys a' b') (ah xs (au ys a' b').1) (ah xs (au ys a' b').2)).length=k' at*
 have n12:aX bk (aX bk ys a b) a' b'=dX bk (dX bk ys (oO ys a b) (au ys a b).1 (au ys a b).2) (oO ys a' b') (au ys a' b').1 (au ys a' b').2:=by
  show dX bk (aX bk ys a b) (oO (aX bk ys a b) a' b') (au (aX bk ys a b) a' b').1 (au (aX bk ys a b) a' b').2=_;rw[ec1,ef1];rfl
 have n21:aX bk (aX bk ys a' b') a b=dX bk (dX bk ys (oO ys a' b') (au ys a' b').1 (au ys a' b').2) (oO ys a b) (au ys a b).1 (au ys a b).2:=by
  show dX bk (aX bk ys a' b') (oO (aX bk ys a' b') a b) (au (aX bk ys a' b') a b).1 (au (aX bk ys a' b') a b).2=_;rw[ec2,ef2];rfl
 have lY:ys.length=xs.length:=S.n_;rw[lY];refine⟨k,k',fun i=>(lq xs.length k k' (i:Nat)).toNat,Yw,⟨by rw[n12,n21];exact S.rin T.rl,by rw[n12,n21,S.l12,S.l21],?_⟩,S.l1,S.l2,by rw[n12];exact S.l12,by rw[n21];exact S.l21⟩;have I2:=o1.J8 T1 hb;have I4:=o2.J8 T2 hb;refine⟨_,_,_,_,o1.twin T1 hb,o2.twin T2 hb,?_⟩;rw[uH T1.kt (jC I2.k.lx) (jC I2.k.ly) I2.k.ne,uH T2.kt (jC I4.k.lx) (jC I4.k.ly) I4.k.ne,uH T.kt (jC I.k.lx) (jC I.k.ly) I.k.ne,uH T.kt (jC J.k.lx) (jC J.k.ly) J.k.ne]
 have c1:∀c x y x' y':Int,(bR c x y).length=(bR c x' y').length:=fun c x y x' y'=>by unfold bR;cases c==7<;>rfl
 rw[ec1,ec2,ef1,ef2];omega
end
end Go.Tr
namespace Go.Tr
open Go Go.RowKit
structure LN where
 ys:List ak
 old:List Int
def LN.pos(s:LN)(l:Int):Int:=((s.old.idxOf l:Nat):Int)
def LN.lo(s:LN)(e:aB):Int:=min (s.pos e.1) (s.pos e.2.1)
def LN.hi(s:LN)(e:aB):Int:=max (s.pos e.1) (s.pos e.2.1)
def jV(bk:List (List ak))(s:LN)(e:aB):Prop:=dw bk s.ys (s.lo e) (s.hi e)
def bN(bk:List (List ak))(s:LN)(e:aB):LN:=⟨aX bk s.ys (s.lo e) (s.hi e),s.old++dN (fH e) (((aX bk s.ys (s.lo e) (s.hi e)).length:Nat)-(s.ys.length:Nat))⟩
structure tH(s:LN):Prop where
 len:s.old.length=s.ys.length
 nd:s.old.Nodup
 tw:∃kv xs,Twin kv xs s.ys
def ji(bk:List (List ak)):LN->List aB->Prop
 |s,[]=>tH s
 |s,e::es=>tH s/\jV bk s e/\ji bk (bN bk s e) es
def lend(bk:List (List ak)):LN->List aB->LN
 |s,[]=>s
 |s,e::es=>lend bk (bN bk s e) es
structure RU(s s':LN):Prop where
 ex:∃f,Sm f s.ys s'.ys/\∀i:Nat,s'.old[f i]? =s.old[i]?
 pm:s.old.Perm s'.old
section
variable {bk:iQ}{s s' u v:LN}{e r t:aB}{es fs R R1 R2:List aB}{l m:Int}
theorem RU.fit(h:RU s s')(F:tH s):tH s':=by
 obtain⟨⟨f,h1,h2⟩,p⟩:=h;obtain⟨kp,xp,ky,xy,T1,T2,_⟩:=h1.tw;exact⟨by rw[<-p.length_eq,F.len,h1.len],p.nodup_iff.1 F.nd,ky,xy,T2⟩
theorem zZ{L:List Int}(h:L.idxOf l<L.length):L[L.idxOf l]? =some l:=by
 rw[qB h,List.getElem_idxOf]
theorem Ea{L:List Int}(nd:L.Nodup){i:Nat}(h:L[i]? =some l):L.idxOf l=i:=by
 obtain⟨h1,h2⟩:=qE.1 h;rw[<-h2];exact nd.idxOf_getElem i h1
theorem Xi{L:List Int}(hl:l∈L)(hm:m∈L)(h:L.idxOf l=L.idxOf m):l=m:=by
 have h1:=zZ (List.idxOf_lt_length_iff.2 hl);have h2:=zZ (List.idxOf_lt_length_iff.2 hm);rw[h,h2]at h1;exact(Option.some.inj h1).symm
theorem jV.mem(F:tH s)(h:jV bk s e):e.1∈s.old/\e.2.1∈s.old:=by
 have h2:=h.tb.2.1;unfold LN.hi LN.pos at h2;rw[<-F.len]at h2;exact⟨List.idxOf_lt_length_iff.1 (by omega),List.idxOf_lt_length_iff.1 (by omega)⟩
theorem dw.grows{ys:aS}{a b:Int}(h:dw bk ys a b){kv:kT}{xs:aS}(T:Twin kv xs ys)(hb:rZ bk):ys.length<=(aX bk ys a b).length:=by
 have q:=T.Ag (h.J8 T hb) hb.toBkV;have q1:=(h.twin T hb).len;have q2:=T.len;have q3:=q.2;omega
theorem jV.fit(F:tH s)(h:jV bk s e)(hb:rZ bk)(nd:(bN bk s e).old.Nodup):tH (bN bk s e):=by
 obtain⟨kv,xs,T⟩:=F.tw;refine⟨?_,nd,_,_,dw.twin h T hb⟩;have:=dw.grows h T hb;have hl:=F.len;unfold bN;simp only[qA,um];omega
theorem RU.act(h:RU s s')(F:tH s)(hb:rZ bk)(ha:jV bk s e):jV bk s' e/\RU (bN bk s e) (bN bk s' e):=by
 have F':=h.fit F;obtain⟨m1,m2⟩:=ha.mem F;obtain⟨⟨f,h1,h2⟩,p⟩:=h
 have hp:∀l,l∈s.old->s'.pos l=gI f (s.pos l):=fun l hl=>by
  have:=zZ (List.idxOf_lt_length_iff.2 hl);rw[<-h2]at this;unfold LN.pos;rw[Ea F'.nd this,sH]
 have k:=Sm.step h1 hb ha
 have elo:min (gI f (s.lo e)) (gI f (s.hi e))=s'.lo e/\max (gI f (s.lo e)) (gI f (s.hi e))=s'.hi e:=by
  unfold LN.lo LN.hi;rw[hp _ m1,hp _ m2];rcases Int.le_total (s.pos e.1) (s.pos e.2.1)with q|q
  .rw[Int.min_eq_left q,Int.max_eq_right q];exact⟨rfl,rfl⟩
  .rw[Int.min_eq_right q,Int.max_eq_left q,Int.min_comm,Int.max_comm];exact⟨rfl,rfl⟩
 rw[elo.1,elo.2]at k;refine⟨k.1,⟨f,k.2,fun i=> ?_⟩,?_⟩
 .have e1:=k.2.len;have e2:=h1.len;show(s'.old++dN (fH e) (((aX bk s'.ys (s'.lo e) (s'.hi e)).length:Nat)-(s'.ys.length:Nat)))[f i]? =(s.old++dN (fH e) (((aX bk s.ys (s.lo e) (s.hi e)).length:Nat)-(s.ys.length:Nat)))[i]?;rw[<-e1,<-e2];have l1:=F.len;have l2:=F'.len
  by_cases hi:i<s.ys.length
  .have hf:=h1.r.ltl.2 hi;rw[qM (by omega),qM (by omega),h2]
  .obtain⟨j,rfl⟩:∃j,i=s.ys.length+j:=⟨i-s.ys.length,by omega⟩;rw[h1.r.ends j,qL (by omega),qL (by omega)]
   congr 1
   omega
 .have e1:=k.2.len;have e2:=h1.len;show(s.old++dN (fH e) (((aX bk s.ys (s.lo e) (s.hi e)).length:Nat)-(s.ys.length:Nat))).Perm (s'.old++dN (fH e) (((aX bk s'.ys (s'.lo e) (s'.hi e)).length:Nat)-(s'.ys.length:Nat)));rw[<-e1,<-e2];exact p.append_right _
theorem ji.fit(h:ji bk s es):tH s:=by
 cases es with
 |nil=>exact h
 |cons e es=>exact h.1
theorem ji.app:∀{es:List aB} {s:LN},ji bk s (es++fs)↔ji bk s es/\ji bk (lend bk s es) fs
 |[],s=>⟨fun h=>⟨ji.fit h,h⟩,fun h=>h.2⟩
 |e::es,s=>⟨fun h=>⟨⟨h.1,h.2.1,(ji.app.1 h.2.2).1⟩,(ji.app (es:=es).1 h.2.2).2⟩,fun h=>⟨h.1.1,h.1.2.1,ji.app.2 ⟨h.1.2.2,h.2⟩⟩⟩
theorem wR:∀{es:List aB} {s:LN},lend bk s (es++fs)=lend bk (lend bk s es) fs
 |[],_=>rfl
 |e::es,s=>wR (es:=es) (s:=bN bk s e)
theorem RU.run(hb:rZ bk):∀{es:List aB} {s s':LN},RU s s'->ji bk s es->ji bk s' es/\RU (lend bk s es) (lend bk s' es)
 |[],_,_,h,hr=>⟨h.fit hr,h⟩
 |e::es,s,s',h,hr=>by
  obtain⟨k1,k2⟩:=h.act hr.1 hb hr.2.1;obtain⟨k3,k4⟩:=RU.run hb (es:=es) k2 hr.2.2;exact⟨⟨h.fit hr.1,k1,k3⟩,k4⟩
inductive Qu:LN->LN->Prop
 |refl (s:LN):Qu s s
 |cons {s t u:LN} (h:RU s t) (k:Qu t u):Qu s u
theorem Qu.snoc(h:Qu s u)(k:RU u v):Qu s v:=by
 induction h with
 |refl s=>exact .cons k (.refl _)
 |cons h _ ih=>exact .cons h (ih k)
theorem Qu.act(h:Qu s s')(F:tH s)(hb:rZ bk)(ha:jV bk s e):jV bk s' e:=by
 induction h with
 |refl s=>exact ha
 |cons h _ ih=>exact ih (h.fit F) (h.act F hb ha).1
theorem Qu.run(h:Qu s s')(hb:rZ bk)(hr:ji bk s es):ji bk s' es/\Qu (lend bk s es) (lend bk s' es):=by
 induction h with
 |refl s=>exact⟨hr,.refl _⟩
 |cons h _ ih=>
  obtain⟨k1,k2⟩:=h.run hb hr;obtain⟨k3,k4⟩:=ih k1;exact⟨k3,.cons k2 k4⟩
def Apart(r t:aB):Prop:=r.1<r.2.1/\t.1<t.2.1/\¬(r.1=t.1/\r.2.1=t.2.1)
theorem Apart.symm(h:Apart r t):Apart t r:=⟨h.2.1,h.1,fun e=>h.2.2 ⟨e.1.symm,e.2.symm⟩⟩
theorem jV.four(F:tH s)(h:jV bk s r)(h':jV bk s t)(ha:Apart r t):Four (s.lo r) (s.hi r) (s.lo t) (s.hi t):=by
 obtain⟨kv,xs,T⟩:=F.tw;refine dw.four h h' T fun q=> ?_
 obtain⟨m1,m2⟩:=h.mem F;obtain⟨m3,m4⟩:=h'.mem F;obtain⟨q1,q2⟩:=q;unfold LN.lo at q1;unfold LN.hi at q2;have c:(s.pos r.1=s.pos t.1/\s.pos r.2.1=s.pos t.2.1)\/(s.pos r.1=s.pos t.2.1/\s.pos r.2.1=s.pos t.1):=by omega
 have inj:∀l m,l∈s.old->m∈s.old->s.pos l=s.pos m->l=m:=fun l m hl hm e=>Xi hl hm (by unfold LN.pos at e;omega)
 obtain⟨a1,a2,a3⟩:=ha;rcases c with⟨c1,c2⟩|⟨c1,c2⟩
 .exact a3 ⟨inj _ _ m1 m3 c1,inj _ _ m2 m4 c2⟩
 .have:=inj _ _ m1 m4 c1;have:=inj _ _ m2 m3 c2;omega
theorem rH(h:l∈s.old):(bN bk s r).pos l=s.pos l:=by
 unfold LN.pos bN;simp only;rw[List.idxOf_append,if_pos h]
theorem Bw(F:tH s)(h':jV bk s t):(bN bk s r).lo t=s.lo t/\(bN bk s r).hi t=s.hi t:=by
 obtain⟨m3,m4⟩:=h'.mem F;unfold LN.lo LN.hi;rw[rH m3,rH m4];exact⟨rfl,rfl⟩
theorem jV.later(F:tH s)(hb:rZ bk)(h:jV bk s r)(h':jV bk s t)(ha:Apart r t):jV bk (bN bk s r) t:=by
 obtain⟨kv,xs,T⟩:=F.tw;have k:=dw.later h h' T hb (h.four F h' ha);obtain⟨e1,e2⟩:=Bw (r:=r) F h';unfold jV;rw[e1,e2];exact k.ok
theorem jV.swap(F:tH s)(hb:rZ bk)(h:jV bk s r)(h':jV bk s t)(ha:Apart r t):RU (bN bk (bN bk s r) t) (bN bk (bN bk s t) r):=by
 obtain⟨kv,xs,T⟩:=F.tw;obtain⟨k,k',f,hf,hS,l1,l2,l12,l21⟩:=dw.swap h h' T hb (h.four F h' ha);obtain⟨e1,e2⟩:=Bw (r:=r) F h';obtain⟨e3,e4⟩:=Bw (r:=t) F h;have hl:=F.len
 have y1:(bN bk (bN bk s r) t).ys=aX bk (aX bk s.ys (s.lo r) (s.hi r)) (s.lo t) (s.hi t):=by
  show aX bk (bN bk s r).ys ((bN bk s r).lo t) ((bN bk s r).hi t)=_;rw[e1,e2];rfl
 have y2:(bN bk (bN bk s t) r).ys=aX bk (aX bk s.ys (s.lo t) (s.hi t)) (s.lo r) (s.hi r):=by
  show aX bk (bN bk s t).ys ((bN bk s t).lo r) ((bN bk s t).hi r)=_;rw[e3,e4];rfl
 have o1:(bN bk (bN bk s r) t).old=s.old++dN (fH r) (k:Int)++dN (fH t) (k':Int):=by
  show s.old++dN (fH r) (((aX bk s.ys (s.lo r) (s.hi r)).length:Nat)-(s.ys.length:Nat))++dN (fH t) (((bN bk (bN bk s r) t).ys.length:Nat)-((aX bk s.ys (s.lo r) (s.hi r)).length:Nat))=_;rw[y1,l12,l1]
  congr 2
  .congr 1;omega
  .omega
 have o2:(bN bk (bN bk s t) r).old=s.old++dN (fH t) (k':Int)++dN (fH r) (k:Int):=by
  show s.old++dN (fH t) (((aX bk s.ys (s.lo t) (s.hi t)).length:Nat)-(s.ys.length:Nat))++dN (fH r) (((bN bk (bN bk s t) r).ys.length:Nat)-((aX bk s.ys (s.lo t) (s.hi t)).length:Nat))=_;rw[y2,l21,l2]
  congr 2
  .congr 1;omega
  .omega
 refine⟨⟨f,by rw[y1,y2];exact hS,fun i=> ?_⟩,?_⟩
 .rw[o1,o2];have hn:f i=(lq s.ys.length k k' (i:Nat)).toNat:=by rw[<-hf,sH];omega
  rw[hn];have g1:(dN (fH r) (k:Int)).length=k:=by rw[um];omega
  have g2:(dN (fH t) (k':Int)).length=k':=by rw[um];omega
  generalize dN (fH r) (k:Int)=A at*;generalize dN (fH t) (k':Int)=B at*;rw[<-hl,<-g1,<-g2];generalize s.old=O at*;have q1:(O++A).length=O.length+A.length:=qA;have q2:(O++B).length=O.length+B.length:=qA
  by_cases c1:i<O.length
  .rw[ni (by omega),qM (by omega),qM (by omega),qM (by omega),qM (by omega)]
   congr 1
  .by_cases c2:i<O.length+A.length
   .obtain⟨j,rfl⟩:∃j:Nat,i=O.length+j:=⟨i-O.length,by omega⟩;rw[show((O.length+j:Nat):Int)=(O.length:Int)+j by omega,Av (by omega),qL (by omega),qM (by omega),qL (by omega)]
    congr 1
    omega
   .by_cases c3:i<O.length+A.length+B.length
    .obtain⟨j,rfl⟩:∃j:Nat,i=O.length+A.length+j:=⟨i-O.length-A.length,by omega⟩;rw[show((O.length+A.length+j:Nat):Int)=((O.length+A.length:Nat):Int)+j by omega,Aw (by omega),qM (by omega),qL (by omega),qL (by omega)]
     congr 1
     omega
    .rw[JX (by omega),List.getElem?_eq_none (by rw[qA,q2];omega),List.getElem?_eq_none (by rw[qA,q1];omega)]
 .rw[o1,o2,qF,qF];exact List.perm_append_comm.append_left _
theorem front(hb:rZ bk):∀{R:List aB} {s:LN},ji bk s (R++[t])->jV bk s t->(∀r∈R,Apart r t)->ji bk s (t::R)/\Qu (lend bk s (R++[t])) (lend bk s (t::R))/\Qu (lend bk s (t::R)) (lend bk s (R++[t]))
 |[],s,hr,_,_=>⟨hr,.refl _,.refl _⟩
 |r::R,s,hr,ht,hA=>by
  obtain⟨F,hr1,hr2⟩:=hr;have ap:=hA r (List.mem_cons_self ..);have ht1:=hr1.later F hb ht ap;obtain⟨i1,i2,i3⟩:=front hb (R:=R) (s:=bN bk s r) hr2 ht1 fun x hx=>hA x (List.mem_cons_of_mem _ hx)
  have sw:=hr1.swap F hb ht ap;have ws:=ht.swap F hb hr1 ap.symm;have F12:tH (bN bk (bN bk s r) t):=i1.2.2.fit;have F21:=sw.fit F12
  have F2:tH (bN bk s t):=ht.fit F hb (by
   have:=F21.nd;unfold bN at this;exact(List.nodup_append.1 this).1)
  have hr3:=ht.later F hb hr1 ap.symm;obtain⟨j1,j2⟩:=sw.run hb i1.2.2;obtain⟨_,j3⟩:=ws.run hb j1;exact⟨⟨F,ht,F2,hr3,j1⟩,i2.snoc j2,.cons j3 i3⟩
theorem jV.stays(hb:rZ bk):∀{R:List aB} {s:LN},ji bk s R->jV bk s t->(∀r∈R,Apart r t)->jV bk (lend bk s R) t
 |[],_,_,h,_=>h
 |r::R,s,hr,h,hA=>jV.stays hb (R:=R) hr.2.2 (hr.2.1.later hr.1 hb h (hA r (List.mem_cons_self ..))) fun x hx=>hA x (List.mem_cons_of_mem _ hx)
theorem lacks(hb:rZ bk){T:List aB}(hT:∀x∈T,∀y∈T,x≠y->Apart x y):∀{P R:List aB} {s:LN},ji bk s (P++[e])->ji bk s R->(P++[e]).Nodup->R.Nodup->(∀p∈P,p∈R)->e∉R->e∈T->(∀r∈R,r∈T)->jV bk (lend bk s R) e
 |[],R,s,hp,hr,_,_,_,he,eT,rT=>jV.stays hb hr hp.2.1 fun r hr=>hT r (rT r hr) e eT fun q=>he (q▸hr)
 |p::P,R,s,hp,hr,np,nr,hs,he,eT,rT=>by
  obtain⟨F,hp1,hp2⟩:=hp;obtain⟨R1,R2,rfl,hn⟩:=List.eq_append_cons_of_mem (hs p (List.mem_cons_self ..));have e1:R1++p::R2=(R1++[p])++R2:=by simp
  rw[e1]at hr |-;obtain⟨h1,h2⟩:=ji.app.1 hr;have pT:p∈T:=rT p (by simp);obtain⟨f1,f2,f3⟩:=front hb h1 hp1 fun r hr=>hT r (rT r (by simp[hr])) p pT fun q=>hn (q▸hr)
  obtain⟨g1,g2⟩:=f2.run hb h2;obtain⟨_,g3⟩:=f3.run hb g1;have l1:ji bk (bN bk s p) (R1++R2):=ji.app.2 ⟨f1.2.2,g1⟩;have np':=List.nodup_cons.1 (show(p::(P++[e])).Nodup from np)
  have nr':p∉R1++R2/\(R1++R2).Nodup:=by
   have:=List.perm_middle.nodup_iff.1 nr;exact List.nodup_cons.1 this
  have IH:=lacks hb hT (P:=P) (R:=R1++R2) (s:=bN bk s p) hp2 l1 np'.2 nr'.2 (fun q hq=>by
   have:=hs q (List.mem_cons_of_mem _ hq);have hne:q≠p:=fun e=>np'.1 (by rw[<-e];simp[hq])
   simp only[List.mem_append,List.mem_cons]at this |-;rcases this with h|h|h
   .exact .inl h
   .exact absurd h hne
   .exact .inr h) (fun h=>he (by simp only[List.mem_append,List.mem_cons]at h |-;rcases h with h|h<;>simp[h])) eT fun r hr=>rT r (by simp only[List.mem_append,List.mem_cons]at hr |-;rcases hr with h|h<;>simp[h])
  rw[wR]at IH |-
  have FE:tH (lend bk (lend bk (bN bk s p) R1) R2):=by
   have:ji bk (bN bk s p) (R1++R2++[]):=by rw[qS];exact l1
   have:=(ji.app.1 this).2;rw[wR]at this;exact this.fit
  exact g3.act FE hb IH
end
end Go.Tr
namespace Go.Tr
open Go Go.RowKit
def sI(n:Nat):List Int:=(List.range n).map fun i:Nat=>(i:Int)
theorem vk(n:Nat):(sI n).length=n:=by unfold sI;simp
theorem M9{n i:Nat}(h:i<n):(sI n)[i]? =some (i:Int):=by
 unfold sI;rw[qY,List.getElem?_range h];rfl
theorem Jq(n:Nat):(sI n).Nodup:=by
 unfold sI List.Nodup;rw[List.pairwise_map];exact List.nodup_range.imp fun h e=>h (by omega)
theorem Xh(n k:Nat):sI n++dN (n:Int) (k:Int)=sI (n+k):=by
 unfold sI dN;rw[List.range_add,qZ,List.map_map]
 congr 1
theorem Pk{n:Nat}{l:Int}:l∈sI n↔0<=l/\l<(n:Nat):=by
 unfold sI;rw[List.mem_map];constructor
 .rintro⟨i,hi,rfl⟩;rw[List.mem_range]at hi;omega
 .rintro⟨h0,h1⟩;exact⟨l.toNat,by rw[List.mem_range];omega,by omega⟩
theorem Hw{f n l:Int}:l∈dN f n↔f<=l/\l<f+n:=by
 unfold dN;rw[List.mem_map];constructor
 .rintro⟨i,hi,rfl⟩;rw[List.mem_range]at hi;omega
 .rintro⟨h0,h1⟩;exact⟨(l-f).toNat,by rw[List.mem_range];omega,by omega⟩
theorem UD(f n:Int):(dN f n).Nodup:=by
 unfold dN List.Nodup;rw[List.pairwise_map];exact List.nodup_range.imp fun h e=>h (by omega)
theorem JK{α:Type}{r:α->α->Prop}:∀{l:List α},l.Pairwise r->∀x∈l,∀y∈l,x≠y->r x y\/r y x
 |[],_,x,hx,_,_,_=>by cases hx
 |a::l,h,x,hx,y,hy,hn=>by
  obtain⟨h1,h2⟩:=List.pairwise_cons.1 h;rcases List.mem_cons.1 hx with rfl|kx
  .rcases List.mem_cons.1 hy with rfl|ky
   .exact absurd rfl hn
   .exact .inl (h1 y ky)
  .rcases List.mem_cons.1 hy with rfl|ky
   .exact .inr (h1 x kx)
   .exact JK h2 x kx y ky hn
section
variable {bk:iQ}{kv:kT}{xs ys:aS}{a b:Int}{s:LN}{e f:aB}{es R:List aB}{l:Int}{u v u' v':ak}
theorem Qf(hb:rZ bk):∀{es:List aB} {kv:kT} {xs ys:aS},Twin kv xs ys->Fp bk ys es=0->ji bk ⟨ys,sI ys.length⟩ es/\lend bk ⟨ys,sI ys.length⟩ es=⟨MV bk ys es,sI (MV bk ys es).length⟩
 |[],kv,xs,ys,T,_=>⟨⟨vk _,Jq _,kv,xs,T⟩,rfl⟩
 |e::es,kv,xs,ys,T,h=>by
  obtain⟨h1,h2⟩:=BQ h;have p:=EW.1 h1;have F:tH ⟨ys,sI ys.length⟩:=⟨vk _,Jq _,kv,xs,T⟩
  have pos:∀z:Int,0<=z->z<(ys.length:Nat)->(LN.mk ys (sI ys.length)).pos z=z:=fun z h0 h1=>by
   unfold LN.pos;rw[Ea (Jq _) (i:=z.toNat) (by rw[M9 (by omega)];congr 1;omega)];omega
  have pa:=pos e.1 p.ta.1 p.ta.2.1;have pb:=pos e.2.1 p.tb.1 p.tb.2.1;have hlt:=p.ac.2.1;have lo:(LN.mk ys (sI ys.length)).lo e=e.1:=by unfold LN.lo;rw[pa,pb];omega
  have hi:(LN.mk ys (sI ys.length)).hi e=e.2.1:=by unfold LN.hi;rw[pa,pb];omega
  have hs:dw bk ys e.1 e.2.1:=⟨p.ta,p.tb,p.ac,p.gr⟩;have hA:jV bk ⟨ys,sI ys.length⟩ e:=by unfold jV;rw[lo,hi];exact hs
  have hg:=hs.grows T hb;have hF:fH e=((ys.length:Nat):Int):=by rw[<-p.ev];rfl
  have hst:bN bk ⟨ys,sI ys.length⟩ e=⟨Eu bk ys e,sI (Eu bk ys e).length⟩:=by
   unfold bN;rw[lo,hi];simp only;rw[hF,show(((aX bk ys e.1 e.2.1).length:Nat):Int)-((ys.length:Nat):Int)=(((aX bk ys e.1 e.2.1).length-ys.length:Nat):Int) by omega,Xh,show ys.length+((aX bk ys e.1 e.2.1).length-ys.length)=(aX bk ys e.1 e.2.1).length by omega]
  obtain⟨i1,i2⟩:=Qf hb (es:=es) (p.twin T hb) h2;refine⟨⟨F,hA,by rw[hst];exact i1⟩,?_⟩;show lend bk (bN bk ⟨ys,sI ys.length⟩ e) es=_;rw[hst];exact i2
theorem dw.gone(h:dw bk ys a b)(T:Twin kv xs ys)(hb:rZ bk):¬(dx (aX bk ys a b) a/\dx (aX bk ys a b) b):=fun hh=>by
 have T1:=h.twin T hb
 have xin:(au ys a b).1∈bR (oO ys a b) (au ys a b).1 (au ys a b).2:=by
  unfold bR;cases oO ys a b==7
  .exact List.mem_cons_self ..
  .exact List.mem_cons_self ..
 have hx:Gone (fU kv (bR (oO ys a b) (au ys a b).1 (au ys a b).2)) (au ys a b).1:=(jB _ _ _).2 (.inr xin)
 have hz:∀z:Int,z=(au ys a b).1->Gone (fU kv (bR (oO ys a b) (au ys a b).1 (au ys a b).2)) z:=by
  rintro z rfl;exact hx
 rcases wI ys a b with e1|e1
 .exact T1.FN hh.1 (hz a (by rw[e1]))
 .exact T1.FN hh.2 (hz b (by rw[e1]))
theorem dw.back(h:dw bk ys a b)(T:Twin kv xs ys)(hb:rZ bk){z:Int}(h1:z<(ys.length:Nat))(hz:dx (aX bk ys a b) z):dx ys z:=by
 have T1:=h.twin T hb;have h2:=T1.FN hz;rw[jB]at h2;exact T.K4 hz.1 (by rw[T.len];exact h1) fun e=>h2 (.inl e)
theorem LU(hb:rZ bk):∀{R:List aB} {s:LN},ji bk s R->s.ys.length<=(lend bk s R).ys.length/\∀z:Int,z<(s.ys.length:Nat)->dx (lend bk s R).ys z->dx s.ys z
 |[],s,_=>⟨Nat.le_refl _,fun z _ h=>h⟩
 |r::R,s,h=>by
  obtain⟨F,h1,h2⟩:=h;obtain⟨kv,xs,T⟩:=F.tw;obtain⟨i1,i2⟩:=LU hb (R:=R) h2;have g:=dw.grows h1 T hb;have g':s.ys.length<=(bN bk s r).ys.length:=g;exact⟨Nat.le_trans g i1,fun z hz ht=>dw.back h1 T hb hz (i2 z (by omega) ht)⟩
theorem Ak:∀{R:List aB} {s:LN} {l:Int},l∈s.old->(lend bk s R).pos l=s.pos l
 |[],_,_,_=>rfl
 |r::R,s,l,h=>by
  show(lend bk (bN bk s r) R).pos l=_;rw[Ak (R:=R) (s:=bN bk s r) (by unfold bN;simp[h]),rH h]
theorem once(hb:rZ bk)(h:ji bk s (e::R))(h2:jV bk (lend bk (bN bk s e) R) f)(e1:e.1=f.1)(e2:e.2.1=f.2.1):False:=by
 obtain⟨F,ha,hr⟩:=h;obtain⟨kv,xs,T⟩:=F.tw;obtain⟨m1,m2⟩:=ha.mem F
 have lo:(lend bk (bN bk s e) R).lo f=s.lo e:=by
  unfold LN.lo;rw[<-e1,<-e2];have q1:=Ak (bk:=bk) (R:=R) (s:=bN bk s e) (l:=e.1) (by unfold bN;simp[m1]);have q2:=Ak (bk:=bk) (R:=R) (s:=bN bk s e) (l:=e.2.1) (by unfold bN;simp[m2]);rw[q1,q2,rH m1,rH m2]
 have hi:(lend bk (bN bk s e) R).hi f=s.hi e:=by
  unfold LN.hi;rw[<-e1,<-e2];have q1:=Ak (bk:=bk) (R:=R) (s:=bN bk s e) (l:=e.1) (by unfold bN;simp[m1]);have q2:=Ak (bk:=bk) (R:=R) (s:=bN bk s e) (l:=e.2.1) (by unfold bN;simp[m2]);rw[q1,q2,rH m1,rH m2]
 have g:=dw.grows ha T hb;have g':s.ys.length<=(bN bk s e).ys.length:=g;have ia:=ha.ta.2.1;have ib:=ha.tb.2.1;obtain⟨_,k⟩:=LU hb hr;refine dw.gone ha T hb ⟨k _ (by omega) ?_,k _ (by omega) ?_⟩
 .rw[<-lo];exact h2.ta
 .rw[<-hi];exact h2.tb
theorem NZ(hb:rZ bk):∀{R:List aB} {s:LN},ji bk s R->R.Pairwise fun x y=>¬(x.1=y.1/\x.2.1=y.2.1)
 |[],_,_=>List.Pairwise.nil
 |r::R,s,h=>by
  refine List.Pairwise.cons (fun y hy=> ?_) (NZ hb (R:=R) h.2.2);obtain⟨U,V,rfl⟩:=List.append_of_mem hy;rintro⟨e1,e2⟩;have h':ji bk s ((r::U)++y::V):=h;obtain⟨k1,k2⟩:=ji.app.1 h';exact once hb k1 k2.2.1 e1 e2
def Wh(bk:List (List ak))(u v:ak):Int×Int:=bif aP u.1 u.2.1 v.1 v.2.1==2 then dM bk v u else dM bk u v
theorem GZ(ys:aS)(a b:Int):dM bk (ah ys (au ys a b).1) (ah ys (au ys a b).2)=Wh bk (ah ys a) (ah ys b):=by
 unfold Wh au;cases aP (ah ys a).1 (ah ys a).2.1 (ah ys b).1 (ah ys b).2.1==2<;>rfl
theorem Zcl(hu:sig u=sig u')(hv:sig v=sig v'):Wh bk u v=Wh bk u' v':=by
 unfold Wh;rw[Bl (bk:=bk) hu hv,Bl (bk:=bk) hv hu];unfold sig at hu hv;simp only[Prod.mk.injEq]at hu hv;rw[hu.1,hu.2.1,hv.1,hv.2.1]
theorem Xg(h:Duo u v):Wh bk u v=Wh bk v u:=by
 unfold Wh;rcases ze h with⟨h1,h2⟩|⟨h1,h2⟩|⟨h1,h2,h3⟩
 .rw[h1,h2];rfl
 .rw[h1,h2];rfl
 .rw[h1,h2];show dM bk u v=dM bk v u;unfold dM jK;rcases h3 with⟨c2,ka,kb⟩|⟨c4,ka,kb⟩
  .rw[iK u v,c2];rfl
  .rw[iK u v,c4,(fG h.wa).1 (.inr (.inl ka)),(fG h.wb).1 (.inr (.inl kb))];rfl
theorem Aq(xs:aS){i:Int}(h0:0<=i)(h1:i<(xs.length:Nat)):sig (vL (xs.map sig) i)=sig (ah xs i):=by
 unfold vL VH ah elt;rw[Dk,qC,qC,qY,qB (by omega)];rfl
theorem Qg{t sT:List oU}(h:t<+:sT){i:Int}(h1:i.toNat<t.length):vL t i=vL sT i:=by
 obtain⟨q,rfl⟩:=h;unfold vL VH;rw[qC,qC,qM h1]
theorem Twin.duo(T:Twin kv xs ys)(hb:rZ bk)(h:dw bk ys a b):Duo (ah xs a) (ah xs b)/\(ah ys a=ah xs a/\ah ys b=ah xs b):=by
 obtain⟨k,ra,rb⟩:=T.yL h.ta h.tb h.ac;have ea:=T.at_ k.px.1 k.px.2.1 k.lx;have eb:=T.at_ k.py.1 k.py.2.1 k.ly;refine⟨⟨T.wf a k.px.1 k.px.2.1 k.lx,T.wf b k.py.1 k.py.2.1 k.ly,ra,rb,?_⟩,ea,eb⟩;have I:=h.J8 T hb;have h8:oO ys a b≠8:=by have:=I.hc;omega
 unfold oO at h8;rw[fq,ea,eb]at h8;exact h8
theorem dw.maps(h:dw bk ys a b)(T:Twin kv xs ys)(hb:rZ bk):(aW bk xs (oO ys a b) (au ys a b).1 (au ys a b).2).map sig=xs.map sig++Db bk (ah xs a) (ah xs b):=by
 obtain⟨k,ra,rb⟩:=T.yL h.ta h.tb h.ac;have I:=h.J8 T hb;obtain⟨D,ea,eb⟩:=T.duo hb h;have ef:=T.Tn k;have kx:=I.k.px;have ky:=I.k.py
 have hx:aR (ah xs a) (ah xs b)=oO ys a b:=by
  unfold oO;rw[fq,ea,eb]
 have hc:=I.hc;have:=Eb (bk:=bk) (xs:=xs) (x:=a) (y:=b) (z:=(au xs a b).1) (w:=(au xs a b).2) (by rw[hx];exact hc) (by rw[<-ef];have:=kx.2.1;have:=kx.1;simp only at*;omega) rfl;rw[fq,hx,<-ef]at this;exact this
theorem Mi(hb:rZ bk):∀{P:List aB} {Q:List aB} {e:aB} {sT:List oU} {kv:kT} {xs ys:aS},Twin kv xs ys->Fp bk ys (P++e::Q)=0->yR bk (xs.map sig) (P++e::Q) sT->
  ∃kv' xs',Twin kv' xs' (MV bk ys P)/\AU bk (MV bk ys P) e/\yR bk (xs'.map sig) (e::Q) sT
 |[],Q,e,sT,kv,xs,ys,T,h,r=>⟨kv,xs,T,EW.1 (BQ h).1,r⟩
 |p::P,Q,e,sT,kv,xs,ys,T,h,r=>by
  obtain⟨h1,h2⟩:=BQ (es:=P++e::Q) h;have p1:=EW.1 h1;have hs:dw bk ys p.1 p.2.1:=⟨p1.ta,p1.tb,p1.ac,p1.gr⟩;have hl:=T.len;refine Mi hb (P:=P) (p1.twin T hb) h2 ?_;rw[hs.maps T hb];cases r with
  |step h0 hlt g1 hf hn hw r=>
   rw[Ai (bk:=bk) (Aq xs p1.ta.1 (by rw[hl];exact p1.ta.2.1)) (Aq xs p1.tb.1 (by rw[hl];exact p1.tb.2.1))]at r;exact r
end
structure TC(bk:List (List ak))(y0:List ak)(T:List aB)(sT:List oU):Prop where
 hb:rZ bk
 tw:Twin [] y0 y0
 hz:Fp bk y0 T=0
 run:yR bk (y0.map sig) T sT
 lT:T.length<=300
 lS:sT.length<=3000
structure EvF(bk:List (List ak))(y0:List ak)(sT:List oU)(e:aB):Prop where
 ab:0<=e.1/\e.1<e.2.1/\e.2.1<(sT.length:Nat)
 duo:Duo (vL sT e.1) (vL sT e.2.1)
 cnt:nD e=(((Db bk (vL sT e.1) (vL sT e.2.1)).length:Nat):Int)
 new:∀j:Nat,j<(Db bk (vL sT e.1) (vL sT e.2.1)).length->sT[(fH e).toNat+j]? =(Db bk (vL sT e.1) (vL sT e.2.1))[j]?
 gr:(Wh bk (vL sT e.1) (vL sT e.2.1)).2=0
 rng:((y0.length:Nat):Int)<=fH e/\fH e+nD e<=(sT.length:Nat)
 abf:e.2.1<fH e
section
variable {bk:iQ}{kv:kT}{xs ys y0:aS}{a b:Int}{s:LN}{e f:aB}{T es R:List aB}{l:Int}{sT:List oU}
theorem TC.ZE(C:TC bk y0 T sT):ji bk ⟨y0,sI y0.length⟩ T:=(Qf C.hb C.tw C.hz).1
theorem TC.ev(C:TC bk y0 T sT)(he:e∈T):EvF bk y0 sT e:=by
 obtain⟨P,Q,rfl⟩:=List.append_of_mem he;obtain⟨kv,xs,T1,p,r⟩:=Mi C.hb C.tw C.hz C.run;have hl:=T1.len;have hp:=r.pre;have a1:=p.ta.1;have a2:=p.ta.2.1;have b1:=p.tb.1;have b2:=p.tb.2.1;have hlt:=p.ac.2.1;have rg:=C.run.rng e (by simp);rw[qV]at rg;have ea:vL (xs.map sig) e.1=vL sT e.1:=Qg hp (by rw[qV];omega);have eb:vL (xs.map sig) e.2.1=vL sT e.2.1:=Qg hp (by rw[qV];omega);have sa:=Aq xs (i:=e.1) a1 (by omega);have sb:=Aq xs (i:=e.2.1) b1 (by omega);rw[ea]at sa
 rw[eb]at sb;have hs:dw bk (MV bk y0 P) e.1 e.2.1:=⟨p.ta,p.tb,p.ac,p.gr⟩;obtain⟨D,q1,q2⟩:=T1.duo C.hb hs;have gr:=p.gr;rw[GZ,q1,q2,Zcl (bk:=bk) sa.symm sb.symm]at gr;have hplen:=hp.length_le;rw[qV]at hplen;cases r with
 |step h0 hl2 g1 hf hn hw r=>
  rw[ea,eb]at hn hw r;rw[qV]at hf;refine⟨⟨a1,hlt,by omega⟩,hw,hn,fun j hj=> ?_,gr,⟨rg.1,rg.2.2⟩,by show e.2.1<e.2.2.2.1;omega⟩;obtain⟨q,hq⟩:=r.pre;have hF:(fH e).toNat=(xs.map sig).length:=by rw[qV];show e.2.2.2.1.toNat=_;omega
  generalize Db bk (vL sT e.1) (vL sT e.2.1)=N at*;rw[<-hq,hF,qM (by rw[qA];omega),qL (by omega),Nat.add_sub_cancel_left]
theorem TC.apart(C:TC bk y0 T sT):∀x∈T,∀y∈T,x≠y->Apart x y:=fun x hx y hy hn=>by
 have h1:=(C.ev hx).ab;have h2:=(C.ev hy).ab;refine⟨h1.2.1,h2.2.1,?_⟩;rcases JK (NZ C.hb C.ZE) x hx y hy hn with h|h
 .exact h
 .exact fun e=>h ⟨e.1.symm,e.2.symm⟩
theorem TC.nd(C:TC bk y0 T sT):T.Nodup:=(NZ C.hb C.ZE).imp fun h e=>h (by rw[e];exact⟨rfl,rfl⟩)
theorem Il:∀{es:List aB} {s s':List oU},yR bk s es s'->es.Pairwise fun x y=>fH x+nD x<=fH y
 |[],_,_,_=>List.Pairwise.nil
 |e::es,s,s',h=>by
  cases h with
  |step h0 hlt h1 hf hn hw r=>
   refine List.Pairwise.cons (fun y hy=> ?_) (Il r);have q:=(r.rng y hy).1;rw[qA]at q;have hf':fH e=((s.length:Nat):Int):=hf;have hn':nD e=(((Db bk (vL s e.1) (vL s e.2.1)).length:Nat):Int):=hn;rw[hf',hn'];omega
theorem TC.Za2(C:TC bk y0 T sT){x y:aB}(hx:x∈T)(hy:y∈T)(h1:fH x<=l/\l<fH x+nD x)(h2:fH y<=l/\l<fH y+nD y):x=y:=by
 refine Classical.byContradiction fun hn=> ?_
 rcases JK (Il C.run) x hx y hy hn with h|h<;>omega
structure RI(bk:List (List ak))(y0:List ak)(T:List aB)(sT:List oU)(R:List aB)(s:LN)(kv:List (Int×Bool))(xs:List ak):Prop where
 run:ji bk ⟨y0,sI y0.length⟩ R
 s_:s=lend bk ⟨y0,sI y0.length⟩ R
 tw:Twin kv xs s.ys
 sg:∀i:Nat,i<s.old.length->∃l:Int,s.old[i]? =some l/\0<=l/\l<(sT.length:Nat)/\(xs.map sig)[i]? =sT[l.toNat]?
 sub:∀r∈R,r∈T
 nd:R.Nodup
 mem:∀l:Int,l∈s.old↔(0<=l/\l<(y0.length:Nat))\/∃r∈R,fH r<=l/\l<fH r+nD r
theorem ji.Za6:∀{R:List aB} {s:LN},ji bk s R->tH (lend bk s R)
 |[],_,h=>h
 |r::R,s,h=>ji.Za6 (R:=R) h.2.2
theorem RI.fit(h:RI bk y0 T sT R s kv xs):tH s:=by rw[h.s_];exact h.run.Za6
theorem RI.start(C:TC bk y0 T sT):RI bk y0 T sT [] ⟨y0,sI y0.length⟩ [] y0:=by
 refine⟨⟨vk _,Jq _,[],y0,C.tw⟩,rfl,C.tw,fun i hi=> ?_,fun r hr=>(by cases hr),List.nodup_nil,fun l=> ?_⟩
 .have hi':i<y0.length:=by have:=hi;rw[show(LN.mk y0 (sI y0.length)).old=sI y0.length from rfl,vk]at this;exact this
  obtain⟨q,hq⟩:=C.run.pre;have hl:sT.length=y0.length+q.length:=by rw[<-hq,qA,qV]
  refine⟨(i:Int),M9 hi',by omega,by omega,?_⟩;rw[<-hq,qK,qM (by rw[qV];exact hi')]
 .rw[show(LN.mk y0 (sI y0.length)).old=sI y0.length from rfl,Pk];constructor
  .exact fun h=>.inl h
  .rintro(h|⟨r,hr,_⟩)
   .exact h
   .cases hr
structure Ov(bk:List (List ak))(y0:List ak)(T:List aB)(sT:List oU)(R:List aB)(s:LN)(xs:List ak)(a b:Int)(e:aB):Prop where
 no:e∉R
 ok:dw bk s.ys a b
 lo:s.lo e=a
 hi:s.hi e=b
 len:(aX bk s.ys a b).length=s.ys.length+(nD e).toNat
 ri:∀kv' xs',Twin kv' xs' (aX bk s.ys a b)->xs'.map sig=xs.map sig++Db bk (ah xs a) (ah xs b)->RI bk y0 T sT (R++[e]) (bN bk s e) kv' xs'
theorem RI.turn(C:TC bk y0 T sT)(h:RI bk y0 T sT R s kv xs)(ta:dx s.ys a)(tb:dx s.ys b)(ac:yT s.ys a b)(he:e∈T)(hl:(s.old[a.toNat]? =some e.1/\s.old[b.toNat]? =some e.2.1)\/(s.old[a.toNat]? =some e.2.1/\s.old[b.toNat]? =some e.1)):Ov bk y0 T sT R s xs a b e:=by
 have F:=h.fit;have E:=C.ev he;have hlen:=h.tw.len;have ol:=F.len;obtain⟨k,ra,rb⟩:=h.tw.yL ta tb ac;have ia:=ta.2.1;have ib:=tb.2.1;have a0:=ta.1;have b0:=tb.1;have ea:=h.tw.at_ k.px.1 k.px.2.1 k.lx;have eb:=h.tw.at_ k.py.1 k.py.2.1 k.ly;have hab:=ac.2.1
 have lab:∀(z l:Int),0<=z->z<(s.ys.length:Nat)->s.old[z.toNat]? =some l->s.pos l=z/\0<=l/\l<(sT.length:Nat)/\sig (ah xs z)=sig (vL sT l):=fun z l z0 z1 hz=>by
  obtain⟨l',h1,h2,h3,h4⟩:=h.sg z.toNat (by omega);rw[hz]at h1;obtain rfl:l=l':=Option.some.inj h1;refine⟨by unfold LN.pos;rw[Ea F.nd hz];omega,h2,h3,?_⟩;rw[<-Aq xs z0 (by omega)];unfold vL VH;rw[Dk,Dk,qC,qC,h4]
 have key:s.lo e=a/\s.hi e=b/\(Wh bk (ah xs a) (ah xs b)).2=0/\Db bk (ah xs a) (ah xs b)=Db bk (vL sT e.1) (vL sT e.2.1):=by
  unfold LN.lo LN.hi;rcases hl with⟨l1,l2⟩|⟨l1,l2⟩
  .obtain⟨p1,_,_,s1⟩:=lab a _ a0 ia l1;obtain⟨p2,_,_,s2⟩:=lab b _ b0 ib l2;rw[p1,p2,Zcl (bk:=bk) s1 s2,Ai (bk:=bk) s1 s2];exact⟨by omega,by omega,E.gr,rfl⟩
  .obtain⟨p1,_,_,s1⟩:=lab a _ a0 ia l1;obtain⟨p2,_,_,s2⟩:=lab b _ b0 ib l2;rw[p1,p2,Zcl (bk:=bk) s1 s2,Ai (bk:=bk) s1 s2,<-Xg (bk:=bk) E.duo,<-Xx (bk:=bk) E.duo];exact⟨by omega,by omega,E.gr,rfl⟩
 obtain⟨lo,hi,hg,hn⟩:=key;have ok:dw bk s.ys a b:=⟨ta,tb,ac,by rw[GZ,ea,eb];exact hg⟩;have hA:jV bk s e:=by unfold jV;rw[lo,hi];exact ok
 have no:e∉R:=fun hR=>by
  obtain⟨U,V,rfl⟩:=List.append_of_mem hR;have hrun:=(ji.app.1 h.run).2;have hA':=hA;rw[h.s_,wR]at hA';exact once C.hb hrun hA' rfl rfl
 have hcn:=E.cnt
 have len:(aX bk s.ys a b).length=s.ys.length+(nD e).toNat:=by
  have m:=congrArg List.length (ok.maps h.tw C.hb);rw[qA,qV,qV,hn]at m;have:=(ok.twin h.tw C.hb).len;omega
 have old':(bN bk s e).old=s.old++dN (fH e) (nD e):=by
  unfold bN;rw[lo,hi];simp only;rw[len]
  congr 2
  omega
 have fresh:(bN bk s e).old.Nodup:=by
  rw[old',List.nodup_append];refine⟨F.nd,UD _ _,fun x hx y hy exy=> ?_⟩;subst exy;rw[Hw]at hy;rcases(h.mem x).1 hx with q|⟨r,hr,q⟩
  .have:=E.rng;omega
  .exact no (by rw[<-C.Za2 (h.sub r hr) he q hy];exact hr)
 have F':=hA.fit F C.hb fresh;refine⟨no,ok,lo,hi,len,fun kv' xs' T' sg'=> ?_⟩;refine⟨ji.app.2 ⟨h.run,?_⟩,?_,?_,fun i hi'=> ?_,fun r hr=> ?_,?_,fun l=> ?_⟩
 .rw[<-h.s_];exact⟨F,hA,F'⟩
 .rw[wR,<-h.s_];rfl
 .show Twin kv' xs' (aX bk s.ys (s.lo e) (s.hi e));rw[lo,hi];exact T'
 .rw[old']at hi' |-;rw[sg',hn];have nl:(dN (fH e) (nD e)).length=(Db bk (vL sT e.1) (vL sT e.2.1)).length:=by rw[um];omega
  rw[qA,nl]at hi'
  by_cases c:i<s.old.length
  .obtain⟨l,h1,h2,h3,h4⟩:=h.sg i c;exact⟨l,by rw[qM c];exact h1,h2,h3,by rw[qM (by rw[qV];omega)];exact h4⟩
  .obtain⟨j,rfl⟩:∃j,i=s.old.length+j:=⟨i-s.old.length,by omega⟩;have r1:=E.rng;refine⟨fH e+(j:Int),?_,by omega,by omega,?_⟩
   .rw[qL (by omega),Nat.add_sub_cancel_left,Lc (by omega)]
   .rw[qL (by rw[qV];omega),qV,show s.old.length+j-xs.length=j by omega,<-E.new j (by omega)]
    congr 1
    omega
 .rcases List.mem_append.1 hr with hr|hr
  .exact h.sub r hr
  .rw[qX]at hr;rw[hr];exact he
 .rw[List.nodup_append];refine⟨h.nd,by simp,fun x hx y hy exy=> ?_⟩;rw[qX]at hy;exact no (by rw[<-hy,<-exy];exact hx)
 .rw[old',List.mem_append,Hw,h.mem];constructor
  .rintro((q|⟨r,hr,q⟩)|q)
   .exact .inl q
   .exact .inr ⟨r,by simp[hr],q⟩
   .exact .inr ⟨e,by simp,q⟩
  .rintro(q|⟨r,hr,q⟩)
   .exact .inl (.inl q)
   .rcases List.mem_append.1 hr with hr|hr
    .exact .inl (.inr ⟨r,hr,q⟩)
    .rw[qX]at hr;subst hr;exact .inr q
theorem RI.lacks(C:TC bk y0 T sT)(h:RI bk y0 T sT R s kv xs)(hn:∃e∈T,e∉R):∃e∈T,e∉R/\jV bk s e:=by
 have key:∀(P Q:List aB),T=P++Q->(∀p∈P,p∈R)->(∃e∈Q,e∉R)->∃e∈T,e∉R/\jV bk s e:=by
  intro P Q
  induction Q generalizing P with
  |nil=>rintro _ _ ⟨e,he,_⟩;cases he
  |cons q Q ih=>
   intro hT hP hQ
   by_cases hq:q∈R
   .refine ih (P++[q]) (by rw[hT];simp) (fun p hp=> ?_) ?_
    .rcases List.mem_append.1 hp with hp|hp
     .exact hP p hp
     .rw[qX]at hp;rw[hp];exact hq
    .obtain⟨e,he,hn⟩:=hQ;rcases List.mem_cons.1 he with rfl|he
     .exact absurd hq hn
     .exact⟨e,he,hn⟩
   .have qT:q∈T:=by rw[hT];simp
    refine⟨q,qT,hq,?_⟩
    have r1:ji bk ⟨y0,sI y0.length⟩ ((P++[q])++Q):=by
     have:=C.ZE;rw[hT]at this;simpa using this
    have nd:(P++[q]).Nodup:=by
     have:=C.nd;rw[hT,show P++q::Q=(P++[q])++Q by simp]at this;exact(List.nodup_append.1 this).1
    rw[h.s_];exact Tr.lacks C.hb C.apart (ji.app.1 r1).1 h.run nd h.nd hP hq qT h.sub
 exact key [] T rfl (fun p hp=>by cases hp) hn
end
end Go.Tr
namespace Go.Tr
open Go Go.RowKit
def YQ(ys:List ak)(z:Int):Bool:=decide (dx ys z)
def uS(T:List aB)(fst:List Int)(ys:List ak)(k:Int):Int×Bool:=
 bif decide ((nC T 0 k).1<0)then((nC T 0 k).2,YQ ys (nC T 0 k).2)else bif decide (elt 0 fst (nC T 0 k).1<0)then(0,false)
 else(elt 0 fst (nC T 0 k).1+(nC T 0 k).2,YQ ys (elt 0 fst (nC T 0 k).1+(nC T 0 k).2))
def BN(T:List aB)(fst:List Int)(ys:List ak)(e:aB):Int×Int:=(min (uS T fst ys e.1).1 (uS T fst ys e.2.1).1,max (uS T fst ys e.1).1 (uS T fst ys e.2.1).1)
def xk(T:List aB)(fst:List Int)(ys:List ak)(e:aB):Bool:=
 bif (uS T fst ys e.1).2 then(bif (uS T fst ys e.2.1).2 then decide (yT ys (BN T fst ys e).1 (BN T fst ys e).2)else false)else false
abbrev iD:=Int×Int×Int
def kF(T:List aB)(fst:List Int)(ys:List ak):Nat->List iD
 |0=>[]
 |i+1=>bif decide (0<=elt 0 fst (i:Nat))then kF T fst ys i else bif xk T fst ys (pK T (i:Nat))then kF T fst ys i++[((i:Int),BN T fst ys (pK T (i:Nat)))]else kF T fst ys i
def Cq(T:List aB)(old:List Int)(p:Int×Int):Int:=j6 (wP (elt 0 old p.1) (elt 0 old p.2)) T 0
def NQ(T:List aB)(old:List Int)(p:Int×Int):Option iD:=bif decide (Cq T old p<0)then none else some (Cq T old p,p)
def xq(T:List aB)(old:List Int)(ps:List (Int×Int)):List iD:=ps.filterMap (NQ T old)
structure FI(T R:List aB)(old fst:List Int):Prop where
 len:fst.length=T.length
 no:∀(i:Nat) (e:aB),T[i]? =some e->e∉R->elt 0 fst (i:Nat)= -1
 yes:∀(i:Nat) (e:aB),T[i]? =some e->e∈R->0<=elt 0 fst (i:Nat)/\∀j:Nat,(j:Int)<nD e->old[(elt 0 fst (i:Nat)).toNat+j]? =some (fH e+(j:Int))
structure jw(s:LN)(e:aB)(a b:Int):Prop where
 ta:dx s.ys a
 tb:dx s.ys b
 ac:yT s.ys a b
 lb:(s.old[a.toNat]? =some e.1/\s.old[b.toNat]? =some e.2.1)\/(s.old[a.toNat]? =some e.2.1/\s.old[b.toNat]? =some e.1)
theorem AY:∀(es:List aB) (i k:Int),(nC es i k=(-1,k)/\∀e∈es,¬(fH e<=k/\k<fH e+nD e))\/∃(m:Nat) (e:aB),es[m]? =some e/\nC es i k=(i+m,k-fH e)/\fH e<=k/\k<fH e+nD e
 |[],i,k=>.inl ⟨rfl,fun e he=>by cases he⟩
 |f::es,i,k=>by
  by_cases h:fH f<=k/\k<fH f+nD f
  .exact .inr ⟨0,f,rfl,by rw[IK h.1 h.2];simp,h.1,h.2⟩
  .rw[CQ h];rcases AY es (i+1) k with⟨h1,h2⟩|⟨m,e,h1,h2,h3⟩
   .refine .inl ⟨h1,fun e he=> ?_⟩;rcases List.mem_cons.1 he with rfl|he
    .exact h
    .exact h2 e he
   .refine .inr ⟨m+1,e,by rw[List.getElem?_cons_succ];exact h1,?_,h3⟩;rw[h2]
    congr 1
    omega
theorem xQ{T:List aB}{m:Nat}{e:aB}(h:T[m]? =some e):pK T (m:Nat)=e:=by
 unfold pK elt;rw[qC,qK,h];rfl
theorem zR{L:List Int}{z v:Int}(h:L[z.toNat]? =some v):elt 0 L z=v:=by
 unfold elt;rw[qC,h];rfl
theorem KU{u v:Int}{f:aB}:wP u v f=true↔f.1=min u v/\f.2.1=max u v:=by
 unfold wP;cases h:f.1==min u v with
 |false=>
  simp only[qH,Bool.false_eq_true,false_iff];rintro⟨h1,_⟩;rw[h1]at h;simp at h
 |true=>
  simp only[qG,beq_iff_eq];exact⟨fun h2=>⟨by simpa using h,h2⟩,fun h=>h.2⟩
theorem Im{bk:iQ}:∀{es:List aB} {s s':List oU},yR bk s es s'->∀l:Int,((s.length:Nat):Int)<=l->l<(s'.length:Nat)->∃e∈es,fH e<=l/\l<fH e+nD e
 |[],s,s',h,l,h0,h1=>by cases h;omega
 |e::es,s,s',h,l,h0,h1=>by
  cases h with
  |step g0 hlt g1 hf hn hw r=>
   have hf':fH e=((s.length:Nat):Int):=hf;have hn':nD e=(((Db bk (vL s e.1) (vL s e.2.1)).length:Nat):Int):=hn
   by_cases c:l<fH e+nD e
   .exact⟨e,by simp,by omega,c⟩
   .obtain⟨f,hm,hf⟩:=Im r l (by rw[qA];omega) h1;exact⟨f,by simp[hm],hf⟩
theorem PO{bk:iQ}:∀{R:List aB} {s:LN},∃q,(lend bk s R).old=s.old++q
 |[],s=>⟨[],by simp[lend]⟩
 |r::R,s=>by
  obtain⟨q,h⟩:=PO (bk:=bk) (R:=R) (s:=bN bk s r);exact⟨dN (fH r) (((aX bk s.ys (s.lo r) (s.hi r)).length:Nat)-(s.ys.length:Nat))++q,by show(lend bk (bN bk s r) R).old=_;rw[h];unfold bN;simp⟩
section
variable {bk:iQ}{kv:kT}{xs ys y0:aS}{a b k:Int}{s:LN}{e f:aB}{T es R:List aB}{l:Int}{sT:List oU}{fst old:List Int}{p:Int×Int}
theorem RI.low(h:RI bk y0 T sT R s kv xs){i:Nat}(hi:i<y0.length):s.old[i]? =some (i:Int):=by
 obtain⟨q,hq⟩:=PO (bk:=bk) (R:=R) (s:=⟨y0,sI y0.length⟩);rw[h.s_,hq,qM (by show i<(sI y0.length).length;rw[vk];exact hi)];exact M9 hi
theorem jw.turn(t:jw s e a b)(C:TC bk y0 T sT)(h:RI bk y0 T sT R s kv xs)(he:e∈T):Ov bk y0 T sT R s xs a b e:=h.turn C t.ta t.tb t.ac he t.lb
theorem FI.ag(hf:FI T R s.old fst)(C:TC bk y0 T sT)(h:RI bk y0 T sT R s kv xs)(k0:0<=k)(k1:k<(sT.length:Nat)):
  ((uS T fst s.ys k).2=true->s.old[(uS T fst s.ys k).1.toNat]? =some k/\dx s.ys (uS T fst s.ys k).1)/\(∀z:Int,s.old[z.toNat]? =some k->dx s.ys z->uS T fst s.ys k=(z,true)):=by
 have F:=h.fit;have uniq:∀z w:Int,s.old[z.toNat]? =some k->s.old[w.toNat]? =some k->z.toNat=w.toNat:=fun z w h1 h2=>by rw[<-Ea F.nd h1,<-Ea F.nd h2]
 rcases AY T 0 k with⟨h1,h2⟩|⟨m,e,h1,h2,h3,h4⟩
 .have hA:uS T fst s.ys k=(k,YQ s.ys k):=by unfold uS;rw[h1];rfl
  rw[hA]
  have hin:k<(y0.length:Nat):=by
   by_cases c:k<(y0.length:Nat)
   .exact c
   .obtain⟨e,he,hr⟩:=Im C.run k (by rw[qV];omega) k1;exact absurd hr (h2 e he)
  have hl:=h.low (i:=k.toNat) (by omega);rw[show((k.toNat:Nat):Int)=k by omega]at hl;refine⟨fun ht=>⟨hl,of_decide_eq_true ht⟩,fun z hz tz=> ?_⟩;have:=uniq z k hz hl;have:=tz.1;obtain rfl:z=k:=by omega
  unfold YQ;rw[decide_eq_true tz]
 .have he:e∈T:=List.mem_of_getElem? h1;have hb1:(nC T 0 k).1=(m:Int):=by rw[h2];simp
  have hb2:(nC T 0 k).2=k-fH e:=by rw[h2]
  by_cases hR:e∈R
  .obtain⟨y1,y2⟩:=hf.yes m e h1 hR
   have hA:uS T fst s.ys k=(elt 0 fst (m:Int)+(k-fH e),YQ s.ys (elt 0 fst (m:Int)+(k-fH e))):=by
    unfold uS;rw[hb1,hb2,decide_eq_false (by omega),decide_eq_false (by omega)];rfl
   have y3:=y2 (k-fH e).toNat (by omega);rw[show(elt 0 fst (m:Int)).toNat+(k-fH e).toNat=(elt 0 fst (m:Int)+(k-fH e)).toNat by omega,show fH e+(((k-fH e).toNat:Nat):Int)=k by omega]at y3;rw[hA];refine⟨fun ht=>⟨y3,of_decide_eq_true ht⟩,fun z hz tz=> ?_⟩;have:=uniq z _ hz y3;have:=tz.1;obtain rfl:z=elt 0 fst (m:Int)+(k-fH e):=by omega
   unfold YQ;rw[decide_eq_true tz]
  .have y1:=hf.no m e h1 hR
   have hA:uS T fst s.ys k=(0,false):=by
    unfold uS;rw[hb1,decide_eq_false (by omega),y1];rfl
   rw[hA];refine⟨fun ht=>(by cases ht),fun z hz tz=> ?_⟩;exfalso;rcases(h.mem k).1 (List.mem_of_getElem? hz)with q|⟨r,hr,q⟩
   .have:=(C.ev he).rng;omega
   .exact hR (by rw[<-C.Za2 (h.sub r hr) he q ⟨h3,h4⟩];exact hr)
theorem FI.rdy(hf:FI T R s.old fst)(C:TC bk y0 T sT)(h:RI bk y0 T sT R s kv xs)(he:e∈T):
  (xk T fst s.ys e=true->jw s e (BN T fst s.ys e).1 (BN T fst s.ys e).2)/\(∀a b:Int,jw s e a b->xk T fst s.ys e=true/\BN T fst s.ys e=(a,b)):=by
 have E:=C.ev he;have ab:=E.ab;obtain⟨a1,a2⟩:=hf.ag C h (k:=e.1) ab.1 (by omega);obtain⟨b1,b2⟩:=hf.ag C h (k:=e.2.1) (by omega) ab.2.2;constructor
 .intro hr;unfold xk at hr;cases h1:(uS T fst s.ys e.1).2 with
  |false=>rw[h1]at hr;cases hr
  |true=>
   cases h2:(uS T fst s.ys e.2.1).2 with
   |false=>rw[h1,h2]at hr;cases hr
   |true=>
    rw[h1,h2]at hr;have hac:yT s.ys (BN T fst s.ys e).1 (BN T fst s.ys e).2:=of_decide_eq_true hr;obtain⟨p1,p2⟩:=a1 h1;obtain⟨q1,q2⟩:=b1 h2;unfold BN at hac |-;simp only at hac |-;rcases Int.le_total (uS T fst s.ys e.1).1 (uS T fst s.ys e.2.1).1 with c|c
    .rw[Int.min_eq_left c,Int.max_eq_right c]at hac |-;exact⟨p2,q2,hac,.inl ⟨p1,q1⟩⟩
    .rw[Int.min_eq_right c,Int.max_eq_left c]at hac |-;exact⟨q2,p2,hac,.inr ⟨q1,p1⟩⟩
 .intro a b t;have hlt:=t.ac.2.1
  have key:((uS T fst s.ys e.1).1=a/\(uS T fst s.ys e.2.1).1=b\/(uS T fst s.ys e.1).1=b/\(uS T fst s.ys e.2.1).1=a)/\(uS T fst s.ys e.1).2=true/\(uS T fst s.ys e.2.1).2=true:=by
   rcases t.lb with⟨l1,l2⟩|⟨l1,l2⟩
   .rw[a2 a l1 t.ta,b2 b l2 t.tb];exact⟨.inl ⟨rfl,rfl⟩,rfl,rfl⟩
   .rw[a2 b l2 t.tb,b2 a l1 t.ta];exact⟨.inr ⟨rfl,rfl⟩,rfl,rfl⟩
  obtain⟨k1,k2,k3⟩:=key
  have hp:BN T fst s.ys e=(a,b):=by
   unfold BN;rcases k1 with⟨k1,k4⟩|⟨k1,k4⟩
   .rw[k1,k4,Int.min_eq_left (by omega),Int.max_eq_right (by omega)]
   .rw[k1,k4,Int.min_eq_right (by omega),Int.max_eq_left (by omega)]
  refine⟨?_,hp⟩;unfold xk;rw[k2,k3,hp];exact decide_eq_true t.ac
theorem Twin.Dj(T:Twin kv xs ys):p∈uG ys↔dx ys p.1/\dx ys p.2/\yT ys p.1 p.2:=by
 have hl:=T.len;constructor
 .intro hp;obtain⟨k,ra,rb,hlt⟩:=T.Vg hp;obtain⟨i,hi,hr,e⟩:=PZ hp
  have h1:1<=i:=by
   unfold EY at hr;cases c:decide (1<=i)with
   |false=>rw[c]at hr;cases hr
   |true=>simpa using c
  have e1:p.1=(i:Int):=by rw[e];rfl
  have pk:=(T.st.ag.port k.px k.lx).2;refine⟨T.K4 k.px.1 k.px.2.1 k.lx,T.K4 k.py.1 k.py.2.1 k.ly,by omega,hlt,?_⟩;have w:=k.w;rw[<-pk]at w;exact w
 .rintro⟨ta,tb,ac⟩;have h0:=ac.1;have e:p=((p.1.toNat:Int),p.2):=Prod.ext (by show p.1=_;omega) rfl;have ia:=ta.2.1;rw[e];unfold uG vI;have hp1:((p.1.toNat:Nat):Int)=p.1:=by omega
  have ep:elt (dflt aK) (ah ys ((p.1.toNat:Nat):Int)).2.2.2.2 0=(p.2,0):=by rw[hp1];exact ac.2.2
  refine List.mem_map.2 ⟨p.1.toNat,?_,?_⟩
  .rw[List.mem_filter,List.mem_range];refine⟨by omega,?_⟩
   have hv:Tr.mF ys p.1.toNat=true:=by
    have:=ta.2.2;unfold Tr.mF;rw[hp1];simpa using this
   unfold EY XI;rw[ep,decide_eq_true (show 1<=p.1.toNat by omega),hv];show decide (((p.1.toNat:Nat):Int)<p.2)=true;exact decide_eq_true (by have:=ac.2.1;omega)
  .unfold Rq;rw[ep]
theorem Vf(ys:aS):(uG ys).Pairwise fun p q=>p.1<q.1:=by
 unfold uG vI;rw[List.pairwise_map];refine(List.Pairwise.filter _ List.pairwise_lt_range).imp fun h=> ?_
 unfold Rq;simp only;omega
theorem RI.Cq(C:TC bk y0 T sT)(h:RI bk y0 T sT R s kv xs)(hp:p∈uG s.ys)(h0:0<=Cq T s.old p):∃(m:Nat) (e:aB),Tr.Cq T s.old p=(m:Int)/\T[m]? =some e/\jw s e p.1 p.2:=by
 obtain⟨ta,tb,ac⟩:=h.tw.Dj.1 hp;obtain⟨P,e,Q,hT,hi,hh⟩:=Bq _ T 0 (Int.le_refl 0) h0;have F:=h.fit;have ol:=F.len;have i1:=ta.2.1;have i2:=tb.2.1;have z1:=ta.1;have z2:=tb.1;have g1:s.old[p.1.toNat]? =some (elt 0 s.old p.1):=by unfold elt;rw[qC,qB (by omega)];rfl
 have g2:s.old[p.2.toNat]? =some (elt 0 s.old p.2):=by unfold elt;rw[qC,qB (by omega)];rfl
 obtain⟨q1,q2⟩:=KU.1 hh;refine⟨P.length,e,by show j6 _ T 0=_;rw[hi];omega,by rw[hT];simp,ta,tb,ac,?_⟩;rw[g1,g2,q1,q2];rcases Int.le_total (elt 0 s.old p.1) (elt 0 s.old p.2)with c|c
 .rw[Int.min_eq_left c,Int.max_eq_right c];exact .inl ⟨rfl,rfl⟩
 .rw[Int.min_eq_right c,Int.max_eq_left c];exact .inr ⟨rfl,rfl⟩
theorem jw.Cq(t:jw s e a b)(C:TC bk y0 T sT){m:Nat}(hm:T[m]? =some e):Tr.Cq T s.old (a,b)=(m:Int):=by
 have he:e∈T:=List.mem_of_getElem? hm;have ab:=(C.ev he).ab
 have hh:∀f:aB,wP (elt 0 s.old a) (elt 0 s.old b) f=true↔f.1=e.1/\f.2.1=e.2.1:=fun f=>by
  rw[KU];rcases t.lb with⟨l1,l2⟩|⟨l1,l2⟩
  .rw[zR l1,zR l2,Int.min_eq_left (by omega),Int.max_eq_right (by omega)]
  .rw[zR l1,zR l2,Int.min_eq_right (by omega),Int.max_eq_left (by omega)]
 have h0:0<=Tr.Cq T s.old (a,b):=by
  have:=KW (wP (elt 0 s.old a) (elt 0 s.old b)) T 0 (Int.le_refl 0);have ht:T.any (wP (elt 0 s.old a) (elt 0 s.old b))=true:=List.any_eq_true.2 ⟨e,he,(hh e).2 ⟨rfl,rfl⟩⟩;rw[ht]at this;exact of_decide_eq_true this
 obtain⟨P,f,Q,hT,hi,hf⟩:=Bq _ T 0 (Int.le_refl 0) h0;have hfT:f∈T:=by rw[hT];simp
 obtain⟨q1,q2⟩:=(hh f).1 hf;have hef:f=e:=Classical.byContradiction fun hn=>(C.apart f hfT e he hn).2.2 ⟨q1,q2⟩
 subst hef;show j6 _ T 0=_;rw[hi];have hlP:T[P.length]? =some f:=by rw[hT];simp
 have hm2:m<T.length:=(qE.1 hm).1;have:=(List.getElem?_inj hm2 C.nd).1 (hm.trans hlP.symm);omega
theorem JM{x:iD}:∀{n:Nat},x∈kF T fst ys n↔∃m:Nat,m<n/\x.1=(m:Int)/\elt 0 fst (m:Nat)<0/\xk T fst ys (pK T (m:Nat))=true/\x.2=BN T fst ys (pK T (m:Nat))
 |0=>⟨fun h=>(by cases h),fun⟨m,h,_⟩=>(by omega)⟩
 |n+1=>by
  have ih:=JM (x:=x) (n:=n)
  have more:(∃m:Nat,m<n+1/\x.1=(m:Int)/\elt 0 fst (m:Nat)<0/\xk T fst ys (pK T (m:Nat))=true/\x.2=BN T fst ys (pK T (m:Nat)))↔
    (∃m:Nat,m<n/\x.1=(m:Int)/\elt 0 fst (m:Nat)<0/\xk T fst ys (pK T (m:Nat))=true/\x.2=BN T fst ys (pK T (m:Nat)))\/(x.1=(n:Int)/\elt 0 fst (n:Nat)<0/\xk T fst ys (pK T (n:Nat))=true/\x.2=BN T fst ys (pK T (n:Nat))):=by
   constructor
   .rintro⟨m,hm,h⟩
    by_cases c:m=n
    .subst c;exact .inr h
    .exact .inl ⟨m,by omega,h⟩
   .rintro(⟨m,hm,h⟩|h)
    .exact⟨m,by omega,h⟩
    .exact⟨n,by omega,h⟩
  rw[more,<-ih]
  conv=>lhs;unfold kF
  cases h1:decide (0<=elt 0 fst (n:Nat))with
  |true=>
   simp only[qG];have:=of_decide_eq_true h1;exact⟨.inl,fun h=>h.elim id fun h=>by omega⟩
  |false=>
   have h1':=of_decide_eq_false h1;cases h2:xk T fst ys (pK T (n:Nat))with
   |false=>
    simp only[qH];exact⟨.inl,fun h=>h.elim id fun h=>by cases h.2.2.1⟩
   |true=>
    simp only[qH,qG,List.mem_append,qX];constructor
    .rintro(h|rfl)
     .exact .inl h
     .exact .inr ⟨rfl,by omega,trivial,rfl⟩
    .rintro(h|⟨q1,_,_,q2⟩)
     .exact .inl h
     .exact .inr (Prod.ext q1 q2)
theorem Vr:∀n:Nat,(kF T fst ys n).Nodup
 |0=>List.nodup_nil
 |n+1=>by
  have ih:=Vr n;unfold kF;cases decide (0<=elt 0 fst (n:Nat))with
  |true=>exact ih
  |false=>
   cases xk T fst ys (pK T (n:Nat))with
   |false=>exact ih
   |true=>
    simp only[qH,qG];rw[List.nodup_append];refine⟨ih,by simp,fun x hx y hy exy=> ?_⟩;rw[qX]at hy;obtain⟨m,hm,hx1,_⟩:=JM.1 hx;rw[exy,hy]at hx1;have:((n:Nat):Int)=(m:Int):=hx1;omega
theorem JO{x:iD}{ps:List (Int×Int)}:x∈xq T old ps↔x.2∈ps/\0<=Cq T old x.2/\x.1=Cq T old x.2:=by
 unfold xq;rw[List.mem_filterMap];unfold NQ;constructor
 .rintro⟨p,hp,h⟩;cases c:decide (Cq T old p<0)with
  |true=>rw[c]at h;cases h
  |false=>
   rw[c]at h;have h':=Option.some.inj h;subst h';exact⟨hp,by have:=of_decide_eq_false c;show 0<=Cq T old p;omega,rfl⟩
 .rintro⟨h1,h2,h3⟩;refine⟨x.2,h1,?_⟩;rw[decide_eq_false (by omega),qH,<-h3]
theorem Vu{ps:List (Int×Int)}(h:ps.Pairwise fun p q=>p.1<q.1):(xq T old ps).Pairwise fun x y=>x.2.1<y.2.1:=by
 unfold xq;rw[List.pairwise_filterMap];refine h.imp fun {p q} hpq x hx y hy=> ?_
 unfold NQ at hx hy;cases c:decide (Cq T old p<0)with
 |true=>rw[c]at hx;cases hx
 |false=>
  cases d:decide (Cq T old q<0)with
  |true=>rw[d]at hy;cases hy
  |false=>
   rw[c]at hx;rw[d]at hy;have e1:=Option.some.inj hx;have e2:=Option.some.inj hy;subst e1 e2;exact hpq
theorem FI.turns(hf:FI T R s.old fst)(C:TC bk y0 T sT)(h:RI bk y0 T sT R s kv xs){d:List iD}(hp:d.Perm (kF T fst s.ys T.length))(hs:d.Pairwise fun x y=>x.2.1<=y.2.1):d=xq T s.old (uG s.ys):=by
 have lt:=Vu (T:=T) (old:=s.old) (Vf s.ys)
 have same:∀x:iD,x∈kF T fst s.ys T.length↔x∈xq T s.old (uG s.ys):=fun x=>by
  rw[JM,JO];constructor
  .rintro⟨m,hm,h1,h2,h3,h4⟩
   have hg:T[m]? =some (pK T (m:Nat)):=by
    have:=qB hm;rw[this,xQ this]
   have t:=(hf.rdy C h (List.mem_of_getElem? hg)).1 h3;rw[<-h4]at t;have hfnd:=t.Cq C hg;exact⟨h.tw.Dj.2 ⟨t.ta,t.tb,t.ac⟩,by rw[show x.2=(x.2.1,x.2.2) from rfl,hfnd];omega,by rw[h1,show x.2=(x.2.1,x.2.2) from rfl,hfnd]⟩
  .rintro⟨h1,h2,h3⟩;obtain⟨m,e,g1,g2,t⟩:=h.Cq C h1 h2;have he:e∈T:=List.mem_of_getElem? g2;have tt:=t.turn C h he;obtain⟨r1,r2⟩:=(hf.rdy C h he).2 _ _ t;have ev:=xQ g2;refine⟨m,(qE.1 g2).1,by rw[h3,g1],by rw[hf.no m e g2 tt.no];decide,by rw[ev];exact r1,by rw[ev,r2]⟩
 have ndR:(xq T s.old (uG s.ys)).Nodup:=lt.imp fun h e=>by rw[e]at h;omega
 have perm:d.Perm (xq T s.old (uG s.ys)):=hp.trans ((List.perm_ext_iff_of_nodup (Vr _) ndR).2 same);refine perm.eq_of_pairwise (le:=fun x y=>x.2.1<=y.2.1) (fun x y hx hy h1 h2=> ?_) hs (lt.imp fun h=>by omega);have hx':=perm.subset hx;refine Classical.byContradiction fun hn=> ?_
 rcases JK lt x hx' y hy hn with q|q<;>omega
theorem RI.some(C:TC bk y0 T sT)(h:RI bk y0 T sT R s kv xs)(hn:R.length<T.length):xq T s.old (uG s.ys)≠[]:=fun he=>by
 have ex:∃e∈T,e∉R:=by
  refine Classical.byContradiction fun hc=> ?_
  have:T ⊆ R:=fun x hx=>Classical.byContradiction fun hR=>hc ⟨x,hx,hR⟩
  have:=C.nd.length_le_of_subset this;omega
 obtain⟨e,eT,eR,hA⟩:=h.lacks C ex;have F:=h.fit;obtain⟨m1,m2⟩:=hA.mem F;have hm:∃m:Nat,T[m]? =Option.some e:=List.mem_iff_getElem?.1 eT;obtain⟨m,hm⟩:=hm
 have t:jw s e (s.lo e) (s.hi e):=by
  refine⟨hA.ta,hA.tb,hA.ac,?_⟩;have q1:=zZ (List.idxOf_lt_length_iff.2 m1);have q2:=zZ (List.idxOf_lt_length_iff.2 m2);unfold LN.lo LN.hi LN.pos;rcases Int.le_total ((s.old.idxOf e.1:Nat):Int) ((s.old.idxOf e.2.1:Nat):Int)with c|c
  .rw[Int.min_eq_left c,Int.max_eq_right c,qK,qK];exact .inl ⟨q1,q2⟩
  .rw[Int.min_eq_right c,Int.max_eq_left c,qK,qK];exact .inr ⟨q2,q1⟩
 have hfnd:=t.Cq C hm;have:((m:Int),s.lo e,s.hi e)∈xq T s.old (uG s.ys):=JO.2 ⟨h.tw.Dj.2 ⟨t.ta,t.tb,t.ac⟩,by show 0<=Tr.Cq T s.old (s.lo e,s.hi e);rw[hfnd];omega,hfnd.symm⟩;rw[he]at this;cases this
end
end Go.Tr
namespace Go.Tr
open Go Go.RowKit
section
variable {bk:iQ}{kv kv':kT}{xs xs' ys y0:aS}{a b a' b' k:Int}{s:LN}{e e':aB}{T es R:List aB}{sT:List oU}{fst old:List Int}{m:Nat}
theorem Ov.stp(t:Ov bk y0 T sT R s xs a b e)(C:TC bk y0 T sT)(he:e∈T):bN bk s e=⟨aX bk s.ys a b,s.old++dN (fH e) (nD e)⟩:=by
 unfold bN;rw[t.lo,t.hi,t.len];have:=(C.ev he).cnt
 congr 3
 omega
theorem jw.later(t:jw s e a b)(t':jw s e' a' b')(C:TC bk y0 T sT)(h:RI bk y0 T sT R s kv xs)(he:e∈T)(he':e'∈T)(hn:a≠a'):jw (bN bk s e) e' a' b':=by
 have u:=t.turn C h he;have u':=t'.turn C h he';have F:=h.fit;have ol:=F.len;have k:=u.ok.later u'.ok h.tw C.hb (u.ok.four u'.ok h.tw fun q=>hn q.1);rw[u.stp C he];have ia:=t'.ta.2.1;have ib:=t'.tb.2.1;have a0:=t'.ta.1;have b0:=t'.tb.1;refine⟨k.ok.ta,k.ok.tb,k.ok.ac,?_⟩;show((s.old++dN (fH e) (nD e))[a'.toNat]? =_/\(s.old++dN (fH e) (nD e))[b'.toNat]? =_)\/((s.old++dN (fH e) (nD e))[a'.toNat]? =_/\(s.old++dN (fH e) (nD e))[b'.toNat]? =_);rw[qM (by omega),qM (by omega)];exact t'.lb
theorem FI.step(hf:FI T R s.old fst)(C:TC bk y0 T sT)(h:RI bk y0 T sT R s kv xs)(t:jw s e a b)(hm:T[m]? =some e):FI T (R++[e]) (s.old++dN (fH e) (nD e)) (fst.set m (s.ys.length:Int)):=by
 have he:e∈T:=List.mem_of_getElem? hm;have u:=t.turn C h he;have F:=h.fit;have ol:=F.len;have hm2:=(qE.1 hm).1;have hl:=hf.len
 have get:∀i:Nat,elt 0 (fst.set m (s.ys.length:Int)) (i:Nat)=if m=i then(s.ys.length:Int)else elt 0 fst (i:Nat):=fun i=>by
  unfold elt;rw[qC,qC,qK,List.getElem?_set]
  by_cases c:m=i
  .subst c;rw[if_pos rfl,if_pos rfl,if_pos (by omega)];rfl
  .rw[if_neg c,if_neg c]
 refine⟨by rw[List.length_set];exact hl,fun i e' hi hn=> ?_,fun i e' hi hR=> ?_⟩
 .have hne:m≠i:=fun c=>by
   subst c;rw[hm]at hi;exact hn (by rw[<-Option.some.inj hi];simp)
  rw[get,if_neg hne];exact hf.no i e' hi fun q=>hn (by simp[q])
 .rw[get]
  by_cases c:m=i
  .subst c;rw[hm]at hi;obtain rfl:e=e':=Option.some.inj hi;rw[if_pos rfl];refine⟨by omega,fun j hj=> ?_⟩;rw[qL (by omega),<-Lc hj]
   congr 1
   omega
  .rw[if_neg c]
   have hne:e'≠e:=fun q=>by
    subst q;have:=(List.getElem?_inj hm2 C.nd).1 (hm.trans hi.symm);exact c this
   have hR':e'∈R:=by
    rcases List.mem_append.1 hR with q|q
    .exact q
    .rw[qX]at q;exact absurd q hne
   obtain⟨y1,y2⟩:=hf.yes i e' hi hR';refine⟨y1,fun j hj=> ?_⟩;have:=y2 j hj;rw[qM (qE.1 this).1];exact this
theorem RI.small(C:TC bk y0 T sT)(h:RI bk y0 T sT R s kv xs):s.ys.length<=3000:=by
 have F:=h.fit
 have:s.old ⊆ sI sT.length:=fun l hl=>by
  obtain⟨i,hi,e⟩:=List.getElem_of_mem hl;obtain⟨l',h1,h2,h3,_⟩:=h.sg i hi;rw[qB hi,e]at h1;obtain rfl:=Option.some.inj h1;exact Pk.2 ⟨h2,h3⟩
 have:=F.nd.length_le_of_subset this;rw[vk]at this;have:=C.lS;have:=F.len;omega
end
structure RS where
 s:LN
 kv:List (Int×Bool)
 xs:List ak
 ev:List aB
 fst:List Int
 dep:List Int
 fr:List (Int×Int)
def U6(n:Nat)(l:List (Int×Int)):List Int:=l.foldl (fun o p=>o.set p.1.toNat p.2) (List.replicate n 0)
def rO(bk:List (List ak))(T:List aB)(d:Int)(r:RS)(t:iD)(kv':List (Int×Bool))(xs':List ak):RS:=
 ⟨⟨aX bk r.s.ys t.2.1 t.2.2,r.s.old++dN (fH (pK T t.1)) ((((aX bk r.s.ys t.2.1 t.2.2).length:Nat):Int)-(r.s.ys.length:Nat))⟩,kv',xs',r.ev++[KN bk r.s.ys t.2.1 t.2.2],r.fst.set t.1.toNat (r.s.ys.length:Int),r.dep.set t.1.toNat d,r.fr++[(t.1,d)]⟩
structure Good(bk:List (List ak))(y0:List ak)(T:List aB)(sT:List oU)(R:List aB)(r:RS):Prop where
 ri:RI bk y0 T sT R r.s r.kv r.xs
 fi:FI T R r.s.old r.fst
 ev:r.ev.length=R.length
 fr:r.fr.length=R.length
 dep:r.dep=U6 T.length r.fr
 rng:∀p∈r.fr,0<=p.1/\p.1<(T.length:Nat)
 fb:∀z∈r.fst, -1<=z/\z<=1000000
section
variable {bk:iQ}{y0:aS}{T R:List aB}{sT:List oU}{r:RS}{t:iD}{kv':kT}{xs':aS}{d:Int}{e:aB}
theorem U7(n:Nat)(l:List (Int×Int)):(U6 n l).length=n:=by
 unfold U6
 have:∀(l:List (Int×Int)) (o:List Int),(l.foldl (fun o p=>o.set p.1.toNat p.2) o).length=o.length:=fun l=>by
  induction l with
  |nil=>intro o;rfl
  |cons p l ih=>intro o;rw[List.foldl_cons,ih,List.length_set]
 rw[this,List.length_replicate]
theorem Good.le(g:Good bk y0 T sT R r):R.length<=T.length:=g.ri.nd.length_le_of_subset g.ri.sub
theorem Good.next(g:Good bk y0 T sT R r)(C:TC bk y0 T sT)(hm:T[t.1.toNat]? =some e)(h0:0<=t.1)(ht:jw r.s e t.2.1 t.2.2)(tw:Twin kv' xs' (aX bk r.s.ys t.2.1 t.2.2))(sg:xs'.map sig=r.xs.map sig++Db bk (ah r.xs t.2.1) (ah r.xs t.2.2)):
  Good bk y0 T sT (R++[e]) (rO bk T d r t kv' xs')/\(rO bk T d r t kv' xs').s=bN bk r.s e:=by
 have he:e∈T:=List.mem_of_getElem? hm;have u:=ht.turn C g.ri he
 have ev:pK T t.1=e:=by
  have:=xQ hm;rw[show((t.1.toNat:Nat):Int)=t.1 by omega]at this;exact this
 have hs:(rO bk T d r t kv' xs').s=⟨aX bk r.s.ys t.2.1 t.2.2,r.s.old++dN (fH e) (nD e)⟩:=by
  unfold rO;simp only;rw[ev,u.len];have:=(C.ev he).cnt
  congr 3
  omega
 have hs2:=hs.trans (u.stp C he).symm;have hm2:=(qE.1 hm).1;refine⟨⟨?_,?_,?_,?_,?_,fun p hp=> ?_,fun z hz=> ?_⟩,hs2⟩
 .rw[hs2];exact u.ri kv' xs' tw sg
 .rw[hs];exact g.fi.step C g.ri ht hm
 .have:=g.ev;unfold rO;simp only[qA,qJ];omega
 .have:=g.fr;unfold rO;simp only[qA,qJ];omega
 .unfold rO U6;simp only;rw[List.foldl_append,g.dep];rfl
 .have hp':p∈r.fr++[(t.1,d)]:=hp;rcases List.mem_append.1 hp' with q|q
  .exact g.rng p q
  .rw[qX]at q;rw[q];exact⟨h0,by show t.1<_;omega⟩
 .have hz':z∈r.fst.set t.1.toNat (r.s.ys.length:Int):=hz;rcases List.mem_or_eq_of_mem_set hz' with q|q
  .exact g.fb z q
  .have:=g.ri.small C;omega
theorem Good.start(C:TC bk y0 T sT):Good bk y0 T sT [] ⟨⟨y0,sI y0.length⟩,[],y0,[],List.replicate T.length (-1),List.replicate T.length 0,[]⟩:=by
 refine⟨RI.start C,⟨by simp,fun i e hi _=> ?_,fun i e hi hR=>by cases hR⟩,rfl,rfl,rfl,fun p hp=>(by cases hp),fun z hz=> ?_⟩
 rotate_left
 .have hz':z∈List.replicate T.length (-1:Int):=hz;have:=List.eq_of_mem_replicate hz';omega
 have:=(qE.1 hi).1;unfold elt;rw[qC,qK,List.getElem?_replicate,if_pos this];rfl
end
end Go.Tr
