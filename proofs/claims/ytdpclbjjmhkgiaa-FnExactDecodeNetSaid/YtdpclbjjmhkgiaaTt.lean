
/- DecodeNet: bytes as a law's argument, and the contracts for the law. -/
import Derived.Test.YtdpclbjjmhkgiaaShort
import Derived.Test.YtdpclbjjmhkgiaaTq
import Derived.Test.YtdpclbjjmhkgiaaKDbg
import Derived.Test.YtdpclbjjmhkgiaaValid
import Derived.Test.YtdpclbjjmhkgiaaVV
set_option maxRecDepth 100000
set_option linter.unusedSimpArgs false
set_option linter.unusedVariables false
set_option linter.unusedSectionVars false
namespace Go.Tr
open Go Go.RowKit
abbrev iJ(x:Int):List D:=[.v (.int .u8 x)]
theorem CG{u:U}:∀xs:List (El u),(List.flatMap (enc u) xs).length=List.length (α:=El u) xs*u.size
 |[]=>by simp
 |x::l=>by
  have e:=CG l;rw[List.flatMap_cons,List.length_append,aZ,e];show u.size+l.length*u.size=(l.length+1)*u.size;rw[Nat.add_mul,Nat.one_mul,Nat.add_comm]
theorem PS{cx:Cx}{β:Nat→Value}{w:World}{g:Nat}{t:TypeId}{s:Nat}{u:U}{xs:List (El u)}{us:List Value}(h:Inv cx.w0 [] w [Tok.res cx β (.row g t s u xs us)]):
  ∃A c q,β g=.slice A (List.length (α:=El u) xs) c∧T1 w (.sl (List.length (α:=El u) xs) (List.flatMap (enc u) xs)) q (.slice A (List.length (α:=El u) xs) c)∧Own cx.w0.heap.size w q:=by
 obtain⟨G,⟨F,G',rfl,⟨hs,bs,raw,rfl,hg,_⟩,rfl,_⟩,h3⟩:=h.sep;obtain⟨A,c,q,h1,h2,h4,h5⟩:=hg.VH (by subst hs;exact CG xs);exact⟨A,c,q,h1,h2,h4.1,fun b hb=>⟨(h3 b (by simpa using h5 b hb)).elim (fun h=>by simp at h) id,(h4.2 b hb).2⟩⟩
theorem dB{w:World}{xs:List Int}{bs:List Nat}{v:Value}(h:T1 w (.sl xs.length (xs.flatMap iJ)) bs v):Den (Cx.now w) (fun _=>undef) (.rsl (.int .u8) xs) v:=by
 unfold Den;exact iD.of h
def Nh:Nat→Int→List Int
 |0,_=>[]
 |n+1,k=>Nh n k++[IntKind.u8.wrap (k+(n:Nat))]
theorem KV:∀(n:Nat) (k:Int),(Nh n k).length=n
 |0,_=>rfl
 |n+1,k=>by rw[Nh,List.length_append,KV n k];rfl
end Go.Tr
namespace Go.Proofs.Ytdpclbjjmhkgiaa
open Go Go.RowKit Go.Proofs Go.Tr
theorem YF(xs:List Int)(hl:xs.length≤1048576):aC Try.prog 6 [.rsl bn xs] [] (.sl 10000) (tB 10000 xs):=by
 refine aC.intro (nt:=22) aS mixed (by kernel_rfl) Try.func6 rfl rfl rfl rfl rfl rfl ?_;refine aI ⟨by omega,Int.le_refl _,by omega⟩ ?_;refine lp Nat (fun i=>[(4,.int .i64 (i:Nat)),(3,.sl 7)]) (fun i=>[.row 7 5 1 bn (xs.take i++List.replicate (xs.length-i) (0:Int)) []]) (fun i=>xs.length-i) (fun i=>i≤xs.length) 0 (Nat.zero_le _) ?_ ?_
 ·exact Go.Tr.hd [] rfl (aI ⟨rfl,rfl⟩ (aI rfl trivial)) ⟨⟨by show List.replicate (((xs.length:Nat):Int)).toNat (0:Int)=[]++List.replicate (xs.length-0) 0;rw[Int.toNat_natCast];rfl,nP⟩,trivial⟩
 intro i hi;have hi:i≤xs.length:=hi;have hll:(xs.take i++List.replicate (xs.length-i) (0:Int)).length=xs.length:=by rw[List.length_append,List.length_take,List.length_replicate];omega
 refine aI (fun q=> ?_) (fun q=> ?_)
 ·have hlt:i<xs.length:=qM q;refine aI ⟨by omega,by omega⟩ ?_;refine aI (by show(0:Int)≤_∧((i:Nat):Int)<(((xs.take i++List.replicate (xs.length-i) (0:Int)).length:Nat):Int);rw[hll];omega) ?_;refine aK (i+1) hlt ?_ (by show xs.length-(i+1)<xs.length-i;omega);refine Go.Tr.hd [] rfl (aI ⟨bD (by omega),rfl⟩ (aI rfl trivial)) ⟨⟨?_,nP⟩,trivial⟩;show(xs.take i++List.replicate (xs.length-i) (0:Int)).set (((i:Nat):Int)).toNat (elt 0 xs ((i:Nat):Int))=xs.take (i+1)++List.replicate (xs.length-(i+1)) 0;rw[Int.toNat_natCast,DJ hlt,List.set_append_right _ _ (by rw[List.length_take];omega),List.length_take,show i-min i xs.length=0 by omega,show xs.length-i=(xs.length-(i+1))+1 by omega,List.replicate_succ,List.set_cons_zero,List.take_succ_eq_append_getElem hlt,List.append_assoc]
  rfl
 ·have hge:i=xs.length:=Nat.le_antisymm hi (qI q);subst hge;refine fin [(10000,7)] (aI rfl ⟨⟨?_,nP⟩,trivial⟩);rw[List.take_length,Nat.sub_self];exact List.append_nil _
theorem iW(xs:List Int){A:Option Addr}{c:Nat}{b1}(w:World)(hx:T1 w (.sl xs.length (xs.flatMap iJ)) b1 (.slice A xs.length c))(hs:xs.length≤1048576):
  Calls Try.prog 6 #[.slice A xs.length c] w fun e w'=>∃A' c' bs,e=.returned (.slice A' xs.length c')∧Below w.heap.size w w'∧T1 w' (.sl xs.length (xs.flatMap iJ)) bs (.slice A' xs.length c')∧Own w.heap.size w' bs:=by
 refine((YF xs hs).2 (Cx.now w) (fun _=>undef) w [] [.slice A xs.length c] (Inv.pQ w) (by unfold aA;exact⟨_,_,rfl,dB hx,by unfold aA;rfl⟩)).mono ?_;rintro e w' ⟨v',β',rfl,_,h1,h2⟩;have hI':Inv (Cx.mk w []).w0 [] w' [Tok.res ⟨w,[]⟩ β' (.row 10000 5 1 bn xs [])]:=by simpa using h2
 obtain⟨A',c',q,r1,r2,r3⟩:=PS hI';unfold Den at h1;obtain⟨rfl,_⟩:=h1;exact⟨A',c',q,by rw[r1],h2.tX,r2,r3⟩
theorem Yp(a b:List Int)(ha:a.length≤1000000000):bg Try.prog 9 [.rsl bn a,.rsl bn b] (.bool (decide (a=b))):=by
 refine bg.intro (nt:=26) aS mixed (by kernel_rfl) Try.func9 rfl rfl rfl rfl rfl ?_;refine aI (fun q0=> ?_) (fun q0=> ?_)
 ·have q:((a.length:Nat):Int)≠(b.length:Nat):=by simpa using(show(((a.length:Nat):Int) !=(b.length:Nat))=true from q0)
  have:a≠b:=fun e=>q (by rw[e])
  show false=decide (a=b);rw[decide_eq_false this]
 have hab:a.length=b.length:=by
  have:((a.length:Nat):Int)=(b.length:Nat):=by simpa using(show(((a.length:Nat):Int) !=(b.length:Nat))=false from q0)
  omega
 refine lp Nat (fun i=>[(5,.int .i64 (i:Nat))]) (fun _=>[]) (fun i=>a.length-i) (fun i=>i≤a.length∧a.take i=b.take i) 0 ⟨Nat.zero_le _,rfl⟩ ?_ ?_
 ·exact Go.Tr.hd [] rfl (aI ⟨rfl,rfl⟩ trivial) trivial
 rintro i ⟨hi,he⟩;refine aI (fun q1=> ?_) (fun q1=> ?_)
 ·have hlt:=qM q1;have hlb:i<b.length:=by omega
  have e1:elt 0 a ((i:Nat):Int)=a[i]:=DJ hlt;have e2:elt 0 b ((i:Nat):Int)=b[i]:=DJ hlb;refine aI ⟨by omega,by omega⟩ ?_;refine aI ⟨by omega,by omega⟩ ?_;refine aI (by kernel_rfl) ?_;refine aI (fun q2=> ?_) (fun q2=> ?_)
  ·have q:elt 0 a ((i:Nat):Int)≠elt 0 b ((i:Nat):Int):=by simpa using(show(elt 0 a ((i:Nat):Int) !=elt 0 b ((i:Nat):Int))=true from q2)
   have:a≠b:=fun e=>q (by rw[e])
   show false=decide (a=b);rw[decide_eq_false this]
  ·have q:elt 0 a ((i:Nat):Int)=elt 0 b ((i:Nat):Int):=by simpa using(show(elt 0 a ((i:Nat):Int) !=elt 0 b ((i:Nat):Int))=false from q2)
   refine aK (i+1) ⟨hlt,?_⟩ ?_ (by show a.length-(i+1)<a.length-i;omega)
   ·rw[List.take_succ_eq_append_getElem hlt,List.take_succ_eq_append_getElem hlb,he,←e1,←e2,q]
   ·exact Go.Tr.hd [] rfl (aI ⟨IntWalk.i64_in _ (by omega),rfl⟩ trivial) trivial
 ·have hge:i=a.length:=Nat.le_antisymm hi (qI q1);subst hge;rw[List.take_length,hab,List.take_length]at he;show true=decide (a=b);rw[decide_eq_true he]
theorem yZ(xs ys:List Int){A B:Option Addr}{c d:Nat}{b1 b2}(w:World)(hx:T1 w (.sl xs.length (xs.flatMap iJ)) b1 (.slice A xs.length c))(hy:T1 w (.sl ys.length (ys.flatMap iJ)) b2 (.slice B ys.length d))(hs:xs.length≤1048576):
  Calls Try.prog 9 #[.slice A xs.length c,.slice B ys.length d] w fun e w'=>e=.returned (.bool (rO xs ys))∧Below w.heap.size w w':=by
 have e:decide (xs=ys)=rO xs ys:=by
  by_cases h:xs=ys
  ·rw[decide_eq_true h,sw h]
  ·rw[decide_eq_false h,lV h]
 refine((Yp xs ys (by omega)).2 (Cx.now w) (fun _=>undef) w [] [.slice A xs.length c,.slice B ys.length d] (Inv.pQ w) (by
  unfold aA;refine⟨_,_,rfl,dB hx,?_⟩;unfold aA;exact⟨_,_,rfl,dB hy,by unfold aA;rfl⟩)).mono ?_
 rintro _ w' ⟨v',rfl,hv,hI⟩;exact⟨by rw[NY hv,e],hI.tX⟩
set_option maxHeartbeats 4000000 in
theorem vC(xs:List Int)(k:Int){A:Option Addr}{c lo:Nat}{bs}(w:World)(hx:T1 w (.sl xs.length (xs.flatMap iJ)) bs (.slice A xs.length c))(ho:Own lo w bs)(hn':xs.length≤maxLen)(hk0:0≤k)(hk1:k+(xs.length:Nat)≤4611686018427387904):
  Calls Try.prog 10 #[.slice A xs.length c,.int .i64 k] w fun e w'=>∃r:Int,e=.returned (.int .i64 r)∧Hid (r=k+(xs.length:Nat))∧T1 w' (.sl xs.length ((Nh xs.length k).flatMap iJ)) bs (.slice A xs.length c)∧lS bs w w'∧Own lo w' bs:=by
 unfold maxLen at hn';obtain⟨n,hn⟩:∃n,xs.length=n:=⟨_,rfl⟩;rw[hn]at hx hn' hk1 ⊢;have Hn:Hid (xs.length=n):=hn;clear hn;have hkk:=Lib.hid hk1;clear hk1
 go_enter Try.func10,Try.ntmps10
 go_wp2_with fail
 go_loopw [1,5] (fun l i w'=>∃(j:Nat) (m:Int),j≤n∧i=.int .i64 j∧l=.int .i64 m∧Hid (m=k+(j:Nat))∧0≤m∧T1 w' (.sl n ((Nh j k).flatMap iJ++(xs.drop j).flatMap iJ)) bs (.slice A n c)∧lS bs w w'∧Own lo w' bs) (fun _ i _=>n-(intOf i).toNat)
 case atStart=>exact⟨0,k,Nat.zero_le _,rfl,rfl,Lib.hid (by simp),hk0,by simpa[Nh]using hx,lS.refl _ _,ho⟩
 case round=>
  obtain⟨j,m,hj,rfl,rfl,hm,hm0,ht,hon,hw⟩:=hrel
  by_cases hlt:j<n
  ·obtain⟨x,hxk,hsp,hll,hsn,hdr⟩:=jd iJ 1 (fun _=>rfl) Hn hlt;rw[hdr.out,List.flatMap_cons]at ht
   have hml:((Nh j k).flatMap iJ).length=j*1:=by
    have h1:∀l:List Int,(l.flatMap iJ).length=l.length:=fun l=>by induction l with
     |nil=>rfl
     |cons a l ih=>rw[List.flatMap_cons,List.length_append,ih,List.length_cons];show 1+l.length=l.length+1;omega
    rw[h1,KV,Nat.mul_one]
   have hfin:(Nh (j+1) k).flatMap iJ=(Nh j k).flatMap iJ++[.v (.int .u8 (IntKind.u8.wrap m))]:=by
    rw[Nh,List.flatMap_append,←hm.out];rfl
   generalize hL:(Nh j k).flatMap iJ=L at ht hml hfin;clear hL hll
   have hbd:m+1≤4611686018427387904:=by
    have h1:=hm.out;have h2:=hkk.out
    omega
   replace ht:T1 wr (.sl n (L++(.v (.int .u8 x))::(xs.drop (j+1)).flatMap iJ)) bs (.slice A n c):=ht
   generalize hR:(xs.drop (j+1)).flatMap iJ=R at ht;have HR:=Lib.hid hR;clear hR;obtain⟨b,off,rfl, -,hbm,hbl,hblo,hfz⟩:=ht.row hw;have y0_0:=(ht.leaf hw (o:=off+j) rfl (by simp only[List.length_append,List.length_cons,List.length_nil,hml]<;>omega)).1;obtain⟨t0,u0,v0⟩:=(ht.leaf hw (o:=off+j) rfl (by simp only[List.length_append,List.length_cons,List.length_nil,hml]<;>omega)).2 (.int .u8 (IntKind.u8.wrap m)) rfl
   replace t0:T1 (World.setCell wr ⟨b,off+j,none⟩ (.int .u8 (IntKind.u8.wrap m))) (.sl n (L++(.v (.int .u8 (IntKind.u8.wrap m)))::R)) bs (.slice (some ⟨b,off,none⟩) n c):=t0
   go_wp2_with fail
   have hf2:(Nh (j+1) k).flatMap iJ++(xs.drop (j+1)).flatMap iJ=L++(.v (.int .u8 (IntKind.u8.wrap m)))::R:=by
    rw[hfin,HR.out,List.append_assoc];rfl
   exact⟨⟨j+1,m+1,by omega,by go_num,by first|rfl|go_num,Lib.hid (by have h9:=hm.out;omega),by omega,by rw[hf2];exact t0,(hon).trans u0,v0⟩,by simp[intOf];omega⟩
  ·have:j=n:=by omega
   subst this
   go_wp2_with fail
   go_ret;have hl:=Hn.out;rw[List.drop_of_length_le (by omega)]at ht;have hm':=hm.out;exact⟨m,rfl,hm',by simpa using ht,hon,hw⟩
theorem Dx{α:Type}{f:α→List D}{M:Nat}:∀{xs:List α},(∀x∈xs,cN (f x)≤M)→cN (xs.flatMap f)≤xs.length*M
 |[],_=>by rw[List.flatMap_nil,eX];exact Nat.zero_le _
 |x::xs,h=>by
  rw[List.flatMap_cons,bK,List.length_cons,Nat.add_mul];have h1:=h x (by simp);have h2:=Dx (xs:=xs) fun y hy=>h y (by simp[hy])
  omega
theorem Uo(a:ah):cN (enc aV a)=3+a.2.2.2.1.length+2*a.2.2.2.2.length:=by
 have e:enc aV a=[.v (.int .i64 a.1),.v (.int .i64 a.2.1),.v (.int .i64 a.2.2.1),.sl a.2.2.2.1.length (List.flatMap (enc (.int .i64)) a.2.2.2.1),.sl a.2.2.2.2.length (List.flatMap (enc aQ) a.2.2.2.2)]:=rfl;have h1:∀l:List Int,cN (List.flatMap (enc (.int .i64)) l)=l.length:=fun l=>QX l
 have h2:∀l:List (El aQ),cN (List.flatMap (enc aQ) l)=2*l.length:=fun l=>by
  induction l with
  |nil=>rw[List.flatMap_nil,eX];rfl
  |cons x l ih=>
   rw[List.flatMap_cons,bK,ih,List.length_cons];show cN [.v (.int .i64 x.1),.v (.int .i64 x.2)]+_=_;rw[fJ,fJ,eX,oP,oP];omega
 rw[e,fJ,fJ,fJ,fJ,fJ,eX,oP,oP,oP,lq,lq,h1,h2];omega
theorem NR{xs:List ah}(h:jY xs):cN (List.flatMap (enc aV) xs)≤600*20:=by
 have:=Dx (f:=enc aV) (M:=20) (xs:=xs) fun a ha=>by
  obtain⟨i,hi,rfl⟩:=List.mem_iff_getElem.1 ha;have hw:=h.wf ((i:Nat):Int) (by omega) (by omega);rw[kZ hi]at hw;have h1:=wf_data hw;have h2:=(oN hw).2;rw[Uo];omega
 have:=h.l2;omega
theorem Vt{cs:List Int}{s:Dp}(h:(jP cs s).2.2=false):jY (jP cs s).1:=by
 unfold jP at h ⊢;have h:((rM cs (bF (iI cs s).1) (iI cs s).1 [] (iI cs s).2).2.2|| !gW (gN (rM cs (bF (iI cs s).1) (iI cs s).1 [] (iI cs s).2).1))=false:=h;rw[Bool.or_eq_false_iff]at h;exact K3 (by simpa using h.2)
noncomputable def pY(x:List Int):aW×Int:=(gN (dL x).1,(dL x).2)
theorem F8{f:Nat}{x:List Int}{A:Option Addr}{c:Nat}{p:List Nat}{r0:aW}{r1:Int}(hR:(r0,r1)=pY x)(w:World)(h0:T1 w (.sl x.length (x.flatMap iJ)) p (.slice A x.length c))(hf:JW f [.rsl bn x] (dL x)):
  Calls Try.prog f #[.slice A x.length c] w fun e w'=>∃(v0:List Value) (q0:List Nat),e=.returned (.tuple #[.agg v0.toArray,.int .i64 r1])∧Ext w w'∧TN w' r0.enc q0 v0∧Own w.heap.size w' (q0):=by
 have e1:r0=gN (dL x).1:=congrArg Prod.fst hR;have e2:r1=(dL x).2:=congrArg Prod.snd hR;subst e1 e2;generalize dL x=R at hf
 have hd:aA ⟨w,[]⟩ (fun _=>undef) [.rsl bn x] [.slice A x.length c]:=by
  unfold aA;exact⟨_,_,rfl,dB h0,by unfold aA;rfl⟩
 rcases hf with⟨h1,h⟩|h
 ·rw[h1];refine(h.2 ⟨w,[]⟩ (fun _=>undef) w [] [.slice A x.length c] (Inv.pQ w) hd).mono ?_;rintro e w' ⟨v',β',rfl,_,h1,h2⟩;unfold Den at h1;obtain⟨us,rfl,h1⟩:=h1;unfold aA at h1;obtain⟨y1,us1,rfl,k1,h1⟩:=h1;unfold aA at h1;obtain⟨y2,us2,rfl,k2,h1⟩:=h1;unfold aA at h1;subst h1;unfold Den at k1 k2;subst k2;obtain⟨vs1,rfl,k1⟩:=k1;unfold aA at k1;obtain⟨y3,us3,rfl,k3,k1⟩:=k1;unfold aA at k1;subst k1;unfold Den at k3;obtain⟨rfl,_⟩:=k3;exact⟨[.slice none 0 0],[],rfl,h2.tX,TN.ni (T1.empty none) TN.done,Own.nil _ _⟩
 ·refine(h.2 ⟨w,[]⟩ (fun _=>undef) w [] [.slice A x.length c] (Inv.pQ w) hd).mono ?_;rintro e w' ⟨v',β',rfl,_,h1,h2⟩;have hI':Inv (Cx.mk w []).w0 [] w' [Tok.res ⟨w,[]⟩ β' (.row 10000 64 5 aV R.1 [])]:=by simpa using h2
  obtain⟨A',c',q,r1,r2,r3⟩:=PS hI';unfold Den at h1;obtain⟨us,rfl,h1⟩:=h1;unfold aA at h1;obtain⟨y1,us1,rfl,k1,h1⟩:=h1;unfold aA at h1;obtain⟨y2,us2,rfl,k2,h1⟩:=h1;unfold aA at h1;subst h1;unfold Den at k1 k2;subst k2;obtain⟨vs1,rfl,k1⟩:=k1;unfold aA at k1;obtain⟨y3,us3,rfl,k3,k1⟩:=k1;unfold aA at k1;subst k1;unfold Den at k3;obtain⟨rfl,_⟩:=k3;refine⟨[β' 10000],q,rfl,h2.tX,?_,r3⟩;rw[Ep,r1];have:=TN.ni r2 (TN.done (w:=w'));rw[List.append_nil]at this;exact this
theorem Aj(a0:List Int){A0:Option Addr}{c0:Nat}{p0:List Nat}(r0:aW)(r1:Int)(hR:(r0,r1)=pY a0)(w:World)(h0:T1 w (.sl a0.length (a0.flatMap iJ)) p0 (.slice A0 a0.length c0))(hr:∀x∈a0,0≤x∧x≤255)(hs:a0.length≤1048576):Calls Try.prog 5 #[.slice A0 a0.length c0] w fun e w'=>∃(v0:List Value) (q0:List Nat),e=.returned (.tuple #[.agg v0.toArray,.int .i64 r1])∧Ext w w'∧TN w' r0.enc q0 v0:=
 (F8 hR w h0 (Q8 _ ⟨hs,hr⟩)).mono fun _ _ ⟨v,q,h1,h2,h3,_⟩=>⟨v,q,h1,h2,h3⟩
theorem rY(a0:List Int){A0:Option Addr}{c0:Nat}{p0:List Nat}(r0:aW)(r1:Int)(hR:(r0,r1)=pY a0)(w:World)(h0:T1 w (.sl a0.length (a0.flatMap iJ)) p0 (.slice A0 a0.length c0))(hr:∀x∈a0,0≤x∧x≤255)(hs:a0.length≤1048576):Calls Try.prog 7 #[.slice A0 a0.length c0] w fun e w'=>∃(v0:List Value) (q0:List Nat),e=.returned (.tuple #[.agg v0.toArray,.int .i64 r1])∧Ext w w'∧TN w' r0.enc q0 v0∧Own w.heap.size w' (q0):=
 F8 hR w h0 (Q7 _ ⟨hs,hr⟩)
theorem zq(a0:List Int)(r0:aW)(r1:Int)(h:(r0,r1)=pY a0)(_:a0.length≤1048576):r0.cnt≤1099511627776:=by
 have e1:r0=gN (dL a0).1:=congrArg Prod.fst h;subst e1;have nil:cN (([]:List ah).map gA |>.flatMap au.enc)≤1099511627776:=by show cN []≤_;rw[eX];omega
 show cN (((dL a0).1.map gA).flatMap au.enc)≤_;unfold dL;cases iY a0 1 !=0 with
 |true=>exact nil
 |false=>
  cases hb:(jP (midD a0) (0,false)).2.2 with
  |true=>exact nil
  |false=>
   cases decide (bJ 1 (bZ (jP (midD a0) (0,false)).1)=a0)with
   |false=>exact nil
   |true=>
    have hok:=Vt hb;have:=NR hok;show cN (((jP (midD a0) (0,false)).1.map gA).flatMap au.enc)≤_;rw[KJ];omega
def fV{α:Type}(f:Dp→α×Dp):Nat→Dp→List α×Dp
 |0,s=>([],s)
 |j+1,s=>bif (fV f j s).2.2 then fV f j s else((fV f j s).1++[(f (fV f j s).2).1],(f (fV f j s).2).2)
theorem uJ{α:Type}{f:Dp→α×Dp}{s:Dp}{j:Nat}(h:(fV f j s).2.2=true):∀i,fV f (j+i) s=fV f j s
 |0=>rfl
 |i+1=>by
  have ih:=uJ h i;rw[←Nat.add_assoc,fV,ih,h];rfl
theorem ng{α:Type}{f:Dp→α×Dp}{s:Dp}(h:s.2=true)(j:Nat):fV f j s=([],s):=by
 have:=uJ (f:=f) (s:=s) (j:=0) h j
 rwa[Nat.zero_add]at this
theorem Fe{α:Type}(f:Dp→α×Dp)(s:Dp):∀j,(fV f j s).1.length≤j
 |0=>Nat.le_refl _
 |j+1=>by
  have ih:=Fe f s j;unfold fV;cases (fV f j s).2.2 with
  |true=>show(fV f j s).1.length≤_;omega
  |false=>show((fV f j s).1++[_]).length≤_;rw[List.length_append,List.length_singleton];omega
theorem JA{α:Type}{f:Dp→α×Dp}{B:Dp→Prop}(hf:∀s,B s→B (f s).2){s:Dp}(hs:B s):∀j,B (fV f j s).2
 |0=>hs
 |j+1=>by
  have ih:=JA hf hs j;unfold fV;cases (fV f j s).2.2 with
  |true=>exact ih
  |false=>exact hf _ ih
def vI(c:Int):Bool:=decide (c<0)||decide (24<c)
theorem IJ{n:Int}(h:vI n=false):0≤n∧n≤24:=by
 unfold vI at h;rw[Bool.or_eq_false_iff,decide_eq_false_iff_not,decide_eq_false_iff_not]at h;omega
noncomputable def JK(cs:List Int)(s:Dp):List (List ah)×Dp:=fV (jP cs) (jE cs s).1.toNat ((jE cs s).2.1,(jE cs s).2.2||vI (jE cs s).1)
def lQ(cs:List Int)(s:Dp):List ah×Dp:=(((yh cs s).1).getD [],(yh cs s).2)
def BQ(cs:List Int)(s:Dp):List (List ah)×Dp:=fV (lQ cs) (iE cs s).1.toNat ((iE cs s).2.1,(iE cs s).2.2||vI (iE cs s).1)
theorem JQ{cs:List Int}:∀{ps:List aB} {xs:List ah} {ld:List aB} {s:Dp},s.1≤cs.length→(rM cs ps xs ld s).2.1≤cs.length
 |[],_,_,_,h=>h
 |p::ps,xs,ld,s,h=>by
  have h2:=iF (cs:=cs) (oH (cs:=cs) h);unfold rM;cases decide (p∈ld)||s.2 with
  |true=>exact JQ h
  |false=>
   simp only[cond_false];obtain⟨c,hc⟩:∃c,c=((jw cs (jE cs s).2).2.2|| !jq p ((jE cs s).1,(jw cs (jE cs s).2).1)|| !hasB xs ((jE cs s).1,(jw cs (jE cs s).2).1)||decide (((jE cs s).1,(jw cs (jE cs s).2).1)∈ld)):=⟨_,rfl⟩;rw[←hc];cases c with
   |true=>exact h2
   |false=>exact JQ h2
theorem Vs{cs:List Int}{s:Dp}(h:s.1≤cs.length):(jP cs s).2.1≤cs.length:=JQ (Dr h _).2
theorem JR{cs:List Int}:∀{ps:List aB} {xs:List ah} {s:Dp},s.1≤cs.length→(zW cs ps xs s).2.1≤cs.length
 |[],_,_,h=>h
 |p::ps,xs,s,h=>by
  have h2:=gM (cs:=cs) (nE (cs:=cs) h);unfold zW;cases decide (0≤(aD xs p).1)with
  |true=>exact JR h
  |false=>
   simp only[cond_false];obtain⟨c,hc⟩:∃c,c=((((gK cs (iE cs s).2).2.2|| !hasB xs ((iE cs s).1,(gK cs (iE cs s).2).1))||bV [(iE cs s).1,(gK cs (iE cs s).2).1] [p.1,p.2])||decide (0≤(aD xs ((iE cs s).1,(gK cs (iE cs s).2).1)).1)):=⟨_,rfl⟩;rw[←hc];cases c with
   |true=>exact h2
   |false=>exact JR h2
theorem Ve{cs:List Int}{s:Dp}(h:s.1≤cs.length):(lQ cs s).2.1≤cs.length:=by
 have h2:(lg cs s).2.1≤cs.length:=(PN (nE h) _).2;show(yh cs s).2.1≤_;unfold yh;cases xX cs s with
 |true=>exact h2
 |false=>exact JR h2
theorem XL(cs:List Int)(hb:mK cs)(s:Dp)(hs:s.1≤cs.length):aC Try.prog 29 [.ptr 10000 0] [cD cs s] (.sl 10001) [cD cs (JK cs s).2,.row 10001 25 1 kX (JK cs s).1 []]:=by
 have hw1:=tq cs hb s hs;have hs1:=oH (cs:=cs) hs;obtain⟨c,hc⟩:∃c,c=(jE cs s).1:=⟨_,rfl⟩;have htm:JK cs s=fV (jP cs) c.toNat ((jE cs s).2.1,(jE cs s).2.2||vI c):=by rw[hc];rfl
 rw[←hc]at hw1;obtain⟨S,hS⟩:∃S:Dp,S=((jE cs s).2.1,(jE cs s).2.2||vI c):=⟨_,rfl⟩;rw[←hS]at htm;have hS1:S.1=(jE cs s).2.1:=by rw[hS]
 have hS2:S.2=((jE cs s).2.2||vI c):=by rw[hS]
 have hcb:S.2=false→0≤c∧c≤24:=fun h=>by
  rw[hS2,Bool.or_eq_false_iff]at h;exact IJ h.2
 have hbd:(bif decide (c<0)then true else decide (24<c))=vI c:=gG _ _;have hat:=fun j=>JA (f:=jP cs) (B:=fun s:Dp=>s.1≤cs.length) (fun s h=>Vs h) (s:=S) (by rw[hS1];exact hs1) j
 have hln:=fun j=>Fe (jP cs) S j
 refine aC.intro (nt:=35) aS mixed (by kernel_rfl) Try.func29 rfl rfl rfl rfl rfl rfl ?_;refine Or.inr (eI _ (eI _ (aI hw1 ?_)));refine aI (fun q0=> ?_) (fun q0=> ?_)
 ·have q0:(bif decide (c<0)then true else decide (24<c))=true:=q0;rw[hbd]at q0;have hS3:true=S.2:=by rw[hS2,q0];exact(Bool.or_true _).symm
  refine lp Nat (fun j=>[(4,.sl 20000),(5,.int .i64 (j:Nat))]) (fun j=>[cD cs (fV (jP cs) j S).2,.row 20000 25 1 kX (fV (jP cs) j S).1 []]) (fun j=>c.toNat+1-j) (fun j=>j≤c.toNat) 0 (Nat.zero_le _) ?_ ?_
  ·exact vo [⟨4,30000,25,1,kX⟩] [(20000,30000)] rfl (aI (aI rfl (aI ⟨rfl,rfl⟩ trivial)) ⟨trivial,⟨rfl,⟨congrArg (fun n:Nat=>(n:Int)) hS1.symm,rfl⟩,hS3,trivial⟩,⟨rfl,nP⟩,trivial⟩)
  intro j hj;have hat:=hat j;have hln:=hln j;refine aI (fun q=> ?_) (fun q=> ?_)
  ·have q:(bif decide (((j:Nat):Int)<c)then !(fV (jP cs) j S).2.2 else false)=true:=q;rw[aY,Bool.and_eq_true,decide_eq_true_eq]at q;have hnb:(fV (jP cs) j S).2.2=false:=by simpa using q.2
   have hs2:S.2=false:=by
    cases h:S.2 with
    |false=>rfl
    |true=>rw[ng h]at hnb;rw[show(([]:List (List ah)),S).2.2=S.2 from rfl,h]at hnb;cases hnb
   have hc2:=hcb hs2;have hlt:j<c.toNat:=by omega
   have e:fV (jP cs) (j+1) S=((fV (jP cs) j S).1++[(jP cs (fV (jP cs) j S).2).1],(jP cs (fV (jP cs) j S).2).2):=by rw[fV,hnb];rfl
   have e2:=congrArg Prod.fst e;have e3:=congrArg Prod.snd e;refine Or.inr (eI _ (eI _ (aI (RB cs hb _ hat) ?_)));refine aI (by show(fV (jP cs) j S).1.length+1≤_;omega) ?_;refine aK (j+1) (by show j+1≤c.toNat;omega) ?_ (by show c.toNat+1-(j+1)<c.toNat+1-j;omega);exact Go.Tr.hd [(20000,33)] rfl (aI rfl (aI ⟨bD (by omega),rfl⟩ trivial)) ⟨trivial,⟨rfl,⟨congrArg (fun s:Dp=>((s.1:Nat):Int)) e3.symm,rfl⟩,congrArg Prod.snd e3.symm,trivial⟩,⟨e2.symm,nP⟩,trivial⟩
  have q:(bif decide (((j:Nat):Int)<c)then !(fV (jP cs) j S).2.2 else false)=false:=q;rw[aY,Bool.and_eq_false_iff,decide_eq_false_iff_not]at q
  have hfin:JK cs s=fV (jP cs) j S:=by
   rw[htm];rcases q with q|q'
   ·rw[show c.toNat=j by omega]
   ·have hB:(fV (jP cs) j S).2.2=true:=by simpa using q'
    have:=uJ hB (c.toNat-j)
    rwa[show j+(c.toNat-j)=c.toNat by omega]at this
  rw[hfin];exact fin [(10001,20000)] (aI rfl ⟨trivial,⟨rfl,⟨rfl,rfl⟩,rfl,trivial⟩,⟨rfl,nP⟩,trivial⟩)
 ·have q0:(bif decide (c<0)then true else decide (24<c))=false:=q0;rw[hbd]at q0;have hS3:(jE cs s).2.2=S.2:=by rw[hS2,q0];exact(Bool.or_false _).symm
  refine lp Nat (fun j=>[(4,.sl 20000),(5,.int .i64 (j:Nat))]) (fun j=>[cD cs (fV (jP cs) j S).2,.row 20000 25 1 kX (fV (jP cs) j S).1 []]) (fun j=>c.toNat+1-j) (fun j=>j≤c.toNat) 0 (Nat.zero_le _) ?_ ?_
  ·exact vo [⟨4,30000,25,1,kX⟩] [(20000,30000)] rfl (aI (aI rfl (aI ⟨rfl,rfl⟩ trivial)) ⟨trivial,⟨rfl,⟨congrArg (fun n:Nat=>(n:Int)) hS1.symm,rfl⟩,hS3,trivial⟩,⟨rfl,nP⟩,trivial⟩)
  intro j hj;have hat:=hat j;have hln:=hln j;refine aI (fun q=> ?_) (fun q=> ?_)
  ·have q:(bif decide (((j:Nat):Int)<c)then !(fV (jP cs) j S).2.2 else false)=true:=q;rw[aY,Bool.and_eq_true,decide_eq_true_eq]at q;have hnb:(fV (jP cs) j S).2.2=false:=by simpa using q.2
   have hs2:S.2=false:=by
    cases h:S.2 with
    |false=>rfl
    |true=>rw[ng h]at hnb;rw[show(([]:List (List ah)),S).2.2=S.2 from rfl,h]at hnb;cases hnb
   have hc2:=hcb hs2;have hlt:j<c.toNat:=by omega
   have e:fV (jP cs) (j+1) S=((fV (jP cs) j S).1++[(jP cs (fV (jP cs) j S).2).1],(jP cs (fV (jP cs) j S).2).2):=by rw[fV,hnb];rfl
   have e2:=congrArg Prod.fst e;have e3:=congrArg Prod.snd e;refine Or.inr (eI _ (eI _ (aI (RB cs hb _ hat) ?_)));refine aI (by show(fV (jP cs) j S).1.length+1≤_;omega) ?_;refine aK (j+1) (by show j+1≤c.toNat;omega) ?_ (by show c.toNat+1-(j+1)<c.toNat+1-j;omega);exact Go.Tr.hd [(20000,33)] rfl (aI rfl (aI ⟨bD (by omega),rfl⟩ trivial)) ⟨trivial,⟨rfl,⟨congrArg (fun s:Dp=>((s.1:Nat):Int)) e3.symm,rfl⟩,congrArg Prod.snd e3.symm,trivial⟩,⟨e2.symm,nP⟩,trivial⟩
  have q:(bif decide (((j:Nat):Int)<c)then !(fV (jP cs) j S).2.2 else false)=false:=q;rw[aY,Bool.and_eq_false_iff,decide_eq_false_iff_not]at q
  have hfin:JK cs s=fV (jP cs) j S:=by
   rw[htm];rcases q with q|q'
   ·rw[show c.toNat=j by omega]
   ·have hB:(fV (jP cs) j S).2.2=true:=by simpa using q'
    have:=uJ hB (c.toNat-j)
    rwa[show j+(c.toNat-j)=c.toNat by omega]at this
  rw[hfin];exact fin [(10001,20000)] (aI rfl ⟨trivial,⟨rfl,⟨rfl,rfl⟩,rfl,trivial⟩,⟨rfl,nP⟩,trivial⟩)
theorem NJ{bk:List (List ah)}(hl:bk.length≤24)(h:∀x∈bk,jY x):yT (bk.map gN)=true:=by
 unfold yT;rw[List.length_map,Bool.and_eq_true,decide_eq_true_eq];refine⟨by omega,?_⟩
 have key:∀i,i<bk.length→gW (mX (bk.map gN) i)=true:=fun i hi=>by
  have e:mX (bk.map gN) i=gN bk[i]:=by
   unfold mX;rw[List.getD_eq_getElem?_getD,List.getElem?_map,List.getElem?_eq_getElem hi];rfl
  rw[e];exact zP (h _ (List.getElem_mem hi))
 simpa[dZ]using key
def lu(bk:List (List ah)):List Int:=aX ((bk.length:Nat):Int)++bk.flatMap bZ
theorem Pm:bY Try.prog 30=true:=by kernel_rfl
theorem Sd{α:Type}(f:α→List Int)(l:List α)(i:Nat):((l.take i).flatMap f).length≤(l.flatMap f).length:=by
 rw[←List.take_append_drop i l,List.flatMap_append,List.length_append,List.take_append_drop];omega
theorem WQ(bk:List (List ah))(hl:bk.length≤24)(hok:∀x∈bk,jY x)(h:(lu bk).length+10≤60000):aC Try.prog 30 [.rsl kX bk] [] (.tup [.sl 10000,.int .i64 0]) (tB 10000 (bJ 2 (lu bk))):=by
 have hv:=NJ hl hok;have hA0:=SE ((bk.length:Nat):Int) (sK (by omega) (by omega));have hsub:=Sd bZ bk
 have hBl:(aX ((bk.length:Nat):Int)).length+(bk.flatMap bZ).length≤60000:=by
  unfold lu at h;rw[List.length_append]at h;omega
 refine aC.intro (nt:=27) aS mixed Pm Try.func30 rfl rfl rfl rfl rfl rfl ?_;refine Or.inl (eI _ (aI (XM bk) ?_));refine aI (fun q=>by have q:(!yT (bk.map gN))=true:=q;rw[hv]at q;cases q) (fun _=> ?_);refine Or.inr (eI _ (eI _ (aI hA0 ?_)));refine lp Nat (fun i=>[(4,.sl 20000),(15,.int .i64 (i:Nat))]) (fun i=>[.row 20000 5 1 bn (aX ((bk.length:Nat):Int)++(bk.take i).flatMap bZ) []]) (fun i=>bk.length-i) (fun i=>i≤bk.length) 0 (Nat.zero_le _) ?_ ?_
 ·exact Go.Tr.hd [(20000,12)] rfl (aI rfl (aI ⟨rfl,rfl⟩ trivial)) ⟨⟨(List.append_nil _).symm,nP⟩,trivial⟩
 intro i hi;have hs:=hsub i;refine aI (fun q=> ?_) (fun q=> ?_)
 ·have hlt:i<bk.length:=qM q;have he:elt (dflt kX) bk ((i:Nat):Int)=bk[i]:=by unfold Go.Tr.elt;rw[show((i:Nat):Int).toNat=i by omega,List.getD_eq_getElem?_getD,List.getElem?_eq_getElem hlt];rfl
  refine aI ⟨by omega,by omega⟩ ?_;refine Or.inr (eI _ (eI _ (aI (Wn (aX ((bk.length:Nat):Int)++(bk.take i).flatMap bZ) (by rw[List.length_append];omega) (elt (dflt kX) bk ((i:Nat):Int)) (by rw[he];exact hok _ (List.getElem_mem hlt))) ?_)));refine aK (i+1) hlt ?_ (by show bk.length-(i+1)<bk.length-i;omega);refine Go.Tr.hd [(20000,21)] rfl (aI rfl (aI ⟨bD (by omega),rfl⟩ trivial)) ⟨⟨?_,nP⟩,trivial⟩;rw[d9 bZ bk hlt,he,List.append_assoc];rfl
 ·have hge:i=bk.length:=Nat.le_antisymm hi (qI q);subst hge;have e:aX ((bk.length:Nat):Int)++(bk.take bk.length).flatMap bZ=lu bk:=by rw[List.take_length];rfl
  have hF:=Gq 2 (lu bk) h;rw[←e]at hF;refine Or.inr (eI _ (eI _ (aI hF ?_)));rw[←e];exact fin [(10000,24)] (aI rfl ⟨⟨rfl,nP⟩,trivial⟩)
theorem U4(bk:List (List ah))(us:List Value)(hl:bk.length≤24)(hok:∀x∈bk,jY x)(h:(lu bk).length+10≤60000):aC Try.prog 30 [.sl 10000] [.row 10000 25 1 kX bk us] (.tup [.sl 10001,.int .i64 0]) (tB 10001 (bJ 2 (lu bk))++[.row 10000 25 1 kX bk us]):=
 aC.Jo (r2:=.tup [.sl 10001,.int .i64 0]) (ts2:=tB 10001 (bJ 2 (lu bk))) aS [34] Pm (WQ bk hl hok h) rfl rfl rfl
structure TmE(cs:List Int)(a:Nat)(j:Nat)(bk:List (List ah))(a':Nat):Prop where
 i:fV (jP cs) j (a,false)=(bk,(a',false))
 s:fV (lQ cs) j (a,false)=(bk,(a',false))
 n:bk.length=j
 ok:∀x∈bk,jY x
 e:bk.flatMap bZ=seg cs a a'
 le:a≤a'
 len:a'≤cs.length
theorem LM{cs:List Int}(hb:mK cs){a:Nat}(ha:a≤cs.length):∀j,(∃bk a',TmE cs a j bk a')∨((fV (jP cs) j (a,false)).2.2=true∧(fV (lQ cs) j (a,false)).2.2=true)
 |0=>.inl ⟨[],a,rfl,rfl,rfl,fun x hx=>(by cases hx),(tL cs a).symm,Nat.le_refl _,ha⟩
 |j+1=>by
  rcases LM hb ha j with⟨bk,a1,r⟩|⟨b1,b2⟩
  ·rcases ne_eq hb a1 with⟨X,a2,g⟩|⟨b1,b2⟩
   ·have l1:=r.le;have l2:=g.le;refine .inl ⟨bk++[X],a2,?_,?_,?_,fun z hz=> ?_,?_,by omega,g.len⟩
    ·rw[fV,r.i,g.i];rfl
    ·rw[fV,r.s];unfold lQ;rw[g.s];rfl
    ·rw[List.length_append,r.n];rfl
    ·rcases List.mem_append.1 hz with h|h
     ·exact r.ok z h
     ·rw[List.mem_singleton.1 h];exact g.ok
    ·rw[List.flatMap_append,r.e,List.flatMap_cons,List.flatMap_nil,List.append_nil,g.e,jC cs l1 l2]
   ·refine .inr ⟨?_,?_⟩
    ·rw[fV,r.i];exact b1
    ·rw[fV,r.s];exact Gs b2
  ·refine .inr ⟨?_,?_⟩
   ·rw[fV,b1];exact b1
   ·rw[fV,b2];exact b2
structure YM(cs:List Int)(bk:List (List ah))(a':Nat):Prop where
 i:JK cs (0,false)=(bk,(a',false))
 s:BQ cs (0,false)=(bk,(a',false))
 n:bk.length≤24
 ok:∀x∈bk,jY x
 e:lu bk=cs.take a'
 len:a'≤cs.length
theorem Qe{cs:List Int}(hb:mK cs):(∃bk a',YM cs bk a')∨((JK cs (0,false)).2.2=true∧(BQ cs (0,false)).2.2=true):=by
 rcases tC hb 0 with⟨c,a1,N⟩|⟨b1,b2⟩
 case inr=>
  refine .inr ⟨?_,?_⟩
  ·unfold JK;rw[ng (by rw[b1 false];rfl)];show((jE cs (0,false)).2.2||_)=true;rw[b1 false];rfl
  ·unfold BQ;rw[ng (by rw[b2];rfl)];show((iE cs (0,false)).2.2||_)=true;rw[b2];rfl
 have eI:JK cs (0,false)=fV (jP cs) c.toNat (a1,vI c):=by unfold JK;rw[N.i];rfl
 have eS:BQ cs (0,false)=fV (lQ cs) c.toNat (a1,vI c):=by unfold BQ;rw[N.s];rfl
 cases hc:vI c with
 |true=>
  rw[hc]at eI eS;refine .inr ⟨by rw[eI,ng rfl],by rw[eS,ng rfl]⟩
 |false=>
  rw[hc]at eI eS;have hcr:=IJ hc;rcases LM hb N.len c.toNat with⟨bk,a2,r⟩|⟨b1,b2⟩
  ·have hn:=r.n;have l1:=N.le;have l2:=r.le;refine .inl ⟨bk,a2,by rw[eI,r.i],by rw[eS,r.s],by omega,r.ok,?_,r.len⟩;unfold lu;rw[show((bk.length:Nat):Int)=c by omega,N.e,r.e,jC cs l1 l2,Tq]
  ·exact .inr ⟨by rw[eI];exact b1,by rw[eS];exact b2⟩
theorem zO:bY Try.prog 28=true:=by kernel_rfl
theorem La:bY Try.prog 14=true:=by kernel_rfl
theorem Lb:bY Try.prog 13=true:=by kernel_rfl
abbrev x9(b:List Int):List SV:=[.rsl bn b,.int .i64 2,.fn 29 [],.fn 30 []]
section
variable (b:List Int)(hb:mK b)
include hb
theorem WH(h:bI b≠0):aC Try.prog 28 (x9 b) [] (.tup [.raw (.slice none 0 0),.int .i64 (bI b)]) []:=by
 have hR:=yU b hb.len;rw[show(bI b==0)=false by simpa using h]at hR;have hR:aC Try.prog 38 [.rsl bn b] [] (.tup [.int .i64 0,.raw (.slice none 0 0),.int .i64 (bI b)]) []:=hR;refine aC.intro (nt:=59) aS mixed zO Try.func28 rfl rfl rfl rfl rfl rfl ?_;refine Or.inr (eI _ (eI _ (aI hR ?_)));refine aI (fun _=> ?_) (fun q=>by have q:(bI b !=0)=false:=q;exact absurd (by simpa using q) h);exact fin [] (aI rfl trivial)
theorem WI(h:bI b=0)(hk:elt 0 b 5≠2):aC Try.prog 28 (x9 b) [] (.tup [.raw (.slice none 0 0),.int .i64 14]) []:=by
 have hR:=yU b hb.len;rw[show(bI b==0)=true by simpa using h]at hR;have hR:aC Try.prog 38 [.rsl bn b] [] (.tup [.int .i64 (IntKind.i64.wrap (elt 0 b 5)),.rsl bn (midD b),.int .i64 0]) []:=hR;refine aC.intro (nt:=59) aS mixed zO Try.func28 rfl rfl rfl rfl rfl rfl ?_;refine Or.inr (eI _ (eI _ (aI hR ?_)));refine aI (fun q=>absurd q (by decide)) (fun _=> ?_);refine aI (fun _=> ?_) (fun q=>by have q:(IntKind.i64.wrap (elt 0 b 5) !=2)=false:=q;rw[Gx (hb.elt 5)]at q;exact absurd (by simpa using q) hk);exact fin [] (aI rfl trivial)
theorem WJ(h:bI b=0)(hk:elt 0 b 5=2)(hbad:(JK (midD b) (0,false)).2.2=true):aC Try.prog 28 (x9 b) [] (.tup [.raw (.slice none 0 0),.int .i64 14]) []:=by
 have hR:=yU b hb.len;rw[show(bI b==0)=true by simpa using h]at hR;have hR:aC Try.prog 38 [.rsl bn b] [] (.tup [.int .i64 (IntKind.i64.wrap (elt 0 b 5)),.rsl bn (midD b),.int .i64 0]) []:=hR;have hN:=XL (midD b) (nM hb h).1 (0,false) (Nat.zero_le _);have hk1:(IntKind.i64.wrap (elt 0 b 5) !=2)=false:=by rw[Gx (hb.elt 5),hk];rfl
 refine aC.intro (nt:=59) aS mixed zO Try.func28 rfl rfl rfl rfl rfl rfl ?_;refine Or.inr (eI _ (eI _ (aI hR ?_)));refine aI (fun q=>absurd q (by decide)) (fun _=> ?_);refine aI (fun q=>absurd (hk1.symm.trans q) (by decide)) (fun _=> ?_);refine Or.inr (eI _ (eI _ (aI hN ?_)));refine aI (fun _=> ?_) (fun q=>by have q:(JK (midD b) (0,false)).2.2=false:=q;rw[hbad]at q;cases q);exact fin [] (aI rfl trivial)
theorem UZ(h:bI b=0)(hk:elt 0 b 5=2){X:List (List ah)}{a':Nat}(hX:YM (midD b) X a'):aC Try.prog 28 (x9 b) [] (bif decide (a'=(midD b).length)then .tup [.sl 10000,.int .i64 0]else .tup [.raw (.slice none 0 0),.int .i64 14]) (bif decide (a'=(midD b).length)then[.row 10000 25 1 kX X []]else[]):=by
 have hR:=yU b hb.len;rw[show(bI b==0)=true by simpa using h]at hR;have hR:aC Try.prog 38 [.rsl bn b] [] (.tup [.int .i64 (IntKind.i64.wrap (elt 0 b 5)),.rsl bn (midD b),.int .i64 0]) []:=hR;have hN:=XL (midD b) (nM hb h).1 (0,false) (Nat.zero_le _);have hk1:(IntKind.i64.wrap (elt 0 b 5) !=2)=false:=by rw[Gx (hb.elt 5),hk];rfl
 obtain⟨h10,h60,hfr,_,_⟩:=rX h;obtain⟨hm,hml⟩:=nM hb h;have hlen:=hX.len;have hel:(lu X).length+10≤60000:=by rw[hX.e,List.length_take];omega
 rw[hk]at hfr
 have heq:decide (bJ 2 (lu X)=b)=decide (a'=(midD b).length):=by
  rw[Bool.eq_iff_iff,decide_eq_true_eq,decide_eq_true_eq,hX.e];constructor
  ·intro h;have h:bJ 2 ((midD b).take a')=bJ 2 (midD b):=h.trans hfr.symm;have:=congrArg List.length (CS h);rw[List.length_take]at this;omega
  ·intro h;rw[h,List.take_length];exact hfr
 rw[hX.i]at hN;rw[←heq];refine aC.intro (nt:=59) aS mixed zO Try.func28 rfl rfl rfl rfl rfl rfl ?_;refine Or.inr (eI _ (eI _ (aI hR ?_)));refine aI (fun q=>absurd q (by decide)) (fun _=> ?_);refine aI (fun q=>absurd (hk1.symm.trans q) (by decide)) (fun _=> ?_);refine Or.inr (eI _ (eI _ (aI hN ?_)));refine aI (fun q=>by cases q) (fun _=> ?_)
 have hE:aC Try.prog 39 [.sl 10000,.rsl bn b] (tB 10000 (bJ 2 (lu X))) (.bool (decide (bJ 2 (lu X)=b))) (tB 10000 (bJ 2 (lu X))):=
  aC.Cg aS [22,22] Lc (U5 _ _ (by rw[lZ];omega)) rfl
 refine Or.inr (eI _ (eI _ (aI (U4 X [] hX.n hX.ok hel) ?_)));refine Or.inr (aI (fun _=> ?_) (fun gg=>absurd gg (by decide)));refine eI _ (eI _ (aI hE ?_));refine aI (fun q=> ?_) (fun q=> ?_)
 ·have q:(!decide (bJ 2 (lu X)=b))=true:=q;have e:decide (bJ 2 (lu X)=b)=false:=by simpa using q
  rw[e];exact fin [] (aI rfl trivial)
 ·have q:(!decide (bJ 2 (lu X)=b))=false:=q;have e:decide (bJ 2 (lu X)=b)=true:=by simpa using q
  rw[e];exact fin [(10000,37)] (aI rfl ⟨⟨rfl,nP⟩,trivial⟩)
end
noncomputable def gH(b:List Int):List (List ah)×Int:=bif iY b 2 !=0 then([],iY b 2)else
 bif (JK (midD b) (0,false)).2.2|| !decide ((JK (midD b) (0,false)).2.1=(midD b).length)then([],14)else((JK (midD b) (0,false)).1,0)
def Nn(f:FuncId)(args:List SV)(R:List (List ah)×Int):Prop:=
 (R.1=[]∧aC Try.prog f args [] (.tup [.raw (.slice none 0 0),.int .i64 R.2]) [])∨aC Try.prog f args [] (.tup [.sl 10000,.int .i64 R.2]) [.row 10000 25 1 kX R.1 []]
theorem Cv{b:List Int}{k:Int}(h:(iY b k !=0)=false):bI b=0∧elt 0 b 5=k:=by
 unfold iY at h;cases h1:bI b !=0 with
 |true=>rw[h1]at h;rw[show(bif true then bI b else _)=bI b from rfl,h1]at h;cases h
 |false=>
  rw[h1]at h;cases h2:elt 0 b 5 !=k with
  |true=>rw[h2]at h;cases h
  |false=>exact⟨by simpa using h1,by simpa using h2⟩
theorem U0(b:List Int)(hb:mK b):Nn 14 [.rsl bn b] (gH b):=by
 have I1:∀c:Int,aC Try.prog 28 (x9 b) [] (.tup [.raw (.slice none 0 0),.int .i64 c]) []→aC Try.prog 14 [.rsl bn b] [] (.tup [.raw (.slice none 0 0),.int .i64 c]) []:=fun c h=>by
  refine aC.intro (nt:=8) aS mixed La Try.func14 rfl rfl rfl rfl rfl rfl ?_;refine Or.inr (eI _ (eI _ (aI h ?_)));exact fin [] (aI rfl trivial)
 have I2:∀X:List (List ah),aC Try.prog 28 (x9 b) [] (.tup [.sl 10000,.int .i64 0]) [.row 10000 25 1 kX X []]→aC Try.prog 14 [.rsl bn b] [] (.tup [.sl 10000,.int .i64 0]) [.row 10000 25 1 kX X []]:=fun X h=>by
  refine aC.intro (nt:=8) aS mixed La Try.func14 rfl rfl rfl rfl rfl rfl ?_;refine Or.inr (eI _ (eI _ (aI h ?_)));exact fin [(10000,5)] (aI rfl ⟨⟨rfl,nP⟩,trivial⟩)
 by_cases h:bI b=0
 ·by_cases hk:elt 0 b 5=2
  ·have e:iY b 2=0:=by unfold iY;rw[h,hk];rfl
   rcases Qe (nM hb h).1 with⟨X,a',hX⟩|⟨b1,_⟩
   ·have hd:=UZ b hb h hk hX;cases hf:decide (a'=(midD b).length)with
    |true=>
     have eR:gH b=(X,0):=by unfold gH;rw[e,hX.i,hf];rfl
     rw[hf]at hd;rw[eR];exact .inr (I2 _ hd)
    |false=>
     have eR:gH b=([],14):=by unfold gH;rw[e,hX.i,hf];rfl
     rw[hf]at hd;rw[eR];exact .inl ⟨rfl,I1 14 hd⟩
   ·have eR:gH b=([],14):=by unfold gH;rw[e,b1];rfl
    rw[eR];exact .inl ⟨rfl,I1 14 (WJ b hb h hk b1)⟩
  ·have e:iY b 2=14:=by unfold iY;rw[h,show(elt 0 b 5 !=2)=true by simpa using hk];rfl
   have eR:gH b=([],14):=by unfold gH;rw[e];rfl
   rw[eR];exact .inl ⟨rfl,I1 14 (WI b hb h hk)⟩
 ·have h1:(bI b !=0)=true:=by simpa using h
  have e:iY b 2=bI b:=by unfold iY;rw[h1];rfl
  have eR:gH b=([],bI b):=by unfold gH;rw[e,h1];rfl
  rw[eR];exact .inl ⟨rfl,I1 _ (WH b hb h)⟩
theorem Xf{x:Bool}(h:(!x)=true):false=x:=by cases x<;>first|rfl|cases h
theorem Xe{x:Bool}(h:(!x)=false):true=x:=by cases x<;>first|rfl|cases h
theorem CV{cs:List Int}{s:Dp}:aC Try.prog 19 [.ptr 10000 0] [cR cs s] (XB (yh cs s).1) (cR cs (yh cs s).2 ::XO (yh cs s).1)→(aC Try.prog 19 [.ptr 10000 0] [cR cs s] nD [cR cs (lQ cs s).2]∧(lQ cs s).1=[])∨aC Try.prog 19 [.ptr 10000 0] [cR cs s] (.agg [.sl 10001]) [cR cs (lQ cs s).2,.row 10001 64 5 aV (lQ cs s).1 []]:=fun h=>by
 unfold lQ;cases ho:(yh cs s).1 with
 |none=>rw[ho]at h;exact .inl ⟨h,rfl⟩
 |some X=>rw[ho]at h;exact .inr h
theorem U1(b:List Int)(hb:mK b):Nn 13 [.rsl bn b] (gH b):=by
 have hC:=SH b hb 2;cases hc:iY b 2 !=0 with
 |true=>
  have eR:gH b=([],iY b 2):=by unfold gH;rw[hc];rfl
  rw[hc]at hC;have hC:aC Try.prog 18 [.rsl bn b,.int .i64 2] [] (.tup [.raw (.pointer none),.int .i64 (iY b 2)]) []:=hC;rw[eR];refine .inl ⟨rfl,?_⟩;refine aC.intro (nt:=50) aS mixed Lb Try.func13 rfl rfl rfl rfl rfl rfl ?_;refine Or.inr (eI _ (eI _ (aI hC ?_)));refine aI (fun _=> ?_) (fun q=>by have q:(iY b 2 !=0)=false:=q;rw[hc]at q;cases q);exact fin [] (aI rfl trivial)
 |false=>
  rw[hc]at hC;have hC:aC Try.prog 18 [.rsl bn b,.int .i64 2] [] (.tup [.ptr 10000 0,.int .i64 0]) [cR (midD b) (0,false)]:=hC;obtain⟨h0,hk⟩:=Cv hc;obtain⟨hm,hml⟩:=nM hb h0;obtain⟨h10,h60,hfr,_,_⟩:=rX h0;obtain⟨cs,hcs⟩:∃cs,cs=midD b:=⟨_,rfl⟩
  have hdec:gH b=bif (BQ cs (0,false)).2.2|| !decide ((BQ cs (0,false)).2.1=cs.length)then([],14)else((BQ cs (0,false)).1,0):=by
   unfold gH;rw[hc,←hcs];rcases Qe (cs:=cs) (by rw[hcs];exact hm)with⟨X,a',hX⟩|⟨b1,b2⟩
   ·rw[hX.i,hX.s];rfl
   ·rw[b1,b2];rfl
  rw[←hcs]at hC hm hml;have hw1:=tu cs hm (0,false) (by decide);have hs1:(iE cs (0,false)).2.1≤cs.length:=nE (Nat.zero_le _);obtain⟨c,hcc⟩:∃c,c=(iE cs (0,false)).1:=⟨_,rfl⟩;have htm:BQ cs (0,false)=fV (lQ cs) c.toNat ((iE cs (0,false)).2.1,(iE cs (0,false)).2.2||vI c):=by rw[hcc];rfl
  rw[←hcc]at hw1;obtain⟨S,hS⟩:∃S:Dp,S=((iE cs (0,false)).2.1,(iE cs (0,false)).2.2||vI c):=⟨_,rfl⟩;rw[←hS]at htm;have hS1:S.1=(iE cs (0,false)).2.1:=by rw[hS]
  have hS2:S.2=((iE cs (0,false)).2.2||vI c):=by rw[hS]
  have hcb:S.2=false→0≤c∧c≤24:=fun h=>by
   rw[hS2,Bool.or_eq_false_iff]at h;exact IJ h.2
  have hbd:(bif decide (24<c)then true else decide (c<0))=vI c:=by rw[gG,Bool.or_comm];rfl
  have hat:=fun j=>JA (f:=lQ cs) (B:=fun s:Dp=>s.1≤cs.length) (fun s h=>Ve h) (s:=S) (by rw[hS1];exact hs1) j
  have hln:=fun j=>Fe (lQ cs) S j
  rw[hdec]
  have key:∀(r:SV) (ts:List Tok),(∀(bb:Bool),bb=(!(BQ cs (0,false)).2.2&&decide ((BQ cs (0,false)).2.1=cs.length))→r=(bif bb then .tup [.sl 10000,.int .i64 0]else .tup [.raw (.slice none 0 0),.int .i64 14])∧ts=(bif bb then[.row 10000 25 1 kX (BQ cs (0,false)).1 []]else[]))→aC Try.prog 13 [.rsl bn b] [] r ts:=fun r ts hrt=>by
   refine aC.intro (nt:=50) aS mixed Lb Try.func13 rfl rfl rfl rfl rfl rfl ?_;refine Or.inr (eI _ (eI _ (aI hC ?_)));refine aI (fun q=>absurd q (by decide)) (fun _=> ?_);refine Or.inr (eI _ (eI _ (aI hw1 ?_)));refine aI (fun q0=> ?_) (fun q0=> ?_)
   ·have q0:(bif decide (24<c)then true else decide (c<0))=true:=q0;rw[hbd]at q0;have hS3:true=S.2:=by rw[hS2,q0];exact(Bool.or_true _).symm
    refine lp Nat (fun j=>[(7,.sl 20000),(8,.int .i64 (j:Nat))]) (fun j=>[.bT 11 52 [.rsl bn cs,.int .i64 ((fV (lQ cs) j S).2.1:Nat),.bool (fV (lQ cs) j S).2.2],.row 20000 25 1 kX (fV (lQ cs) j S).1 []]) (fun j=>c.toNat+1-j) (fun j=>j≤c.toNat) 0 (Nat.zero_le _) ?_ ?_
    ·exact Go.Tr.hd [(20000,28)] rfl (aI rfl (aI ⟨rfl,rfl⟩ trivial)) ⟨trivial,⟨rfl,⟨congrArg (fun n:Nat=>(n:Int)) hS1.symm,rfl⟩,hS3,trivial⟩,⟨rfl,nP⟩,trivial⟩
    intro j hj;have hat:=hat j;have hln:=hln j;refine aI (fun q=> ?_) (fun q=> ?_)
    ·have q:(bif decide (((j:Nat):Int)<c)then !(fV (lQ cs) j S).2.2 else false)=true:=q;rw[aY,Bool.and_eq_true,decide_eq_true_eq]at q;have hnb:(fV (lQ cs) j S).2.2=false:=by simpa using q.2
     have hs2:S.2=false:=by
      cases h:S.2 with
      |false=>rfl
      |true=>rw[ng h]at hnb;rw[show(([]:List (List ah)),S).2.2=S.2 from rfl,h]at hnb;cases hnb
     have hc2:=hcb hs2;have hlt:j<c.toNat:=by omega
     have e:fV (lQ cs) (j+1) S=((fV (lQ cs) j S).1++[(lQ cs (fV (lQ cs) j S).2).1],(lQ cs (fV (lQ cs) j S).2).2):=by rw[fV,hnb];rfl
     have e2:=congrArg Prod.fst e;have e3:=congrArg Prod.snd e;rcases CV (Vf cs hm (by omega) (fV (lQ cs) j S).2 hat)with⟨hG,hnil⟩|hG
     ·rw[hnil]at e2;refine Or.inr (eI _ (eI _ (aI hG ?_)));refine aI (by show(fV (lQ cs) j S).1.length+1≤_;omega) ?_;refine aK (j+1) (by show j+1≤c.toNat;omega) ?_ (by show c.toNat+1-(j+1)<c.toNat+1-j;omega);exact Go.Tr.hd [(20000,45)] rfl (aI rfl (aI ⟨bD (by omega),rfl⟩ trivial)) ⟨trivial,⟨rfl,⟨congrArg (fun s:Dp=>((s.1:Nat):Int)) e3.symm,rfl⟩,congrArg Prod.snd e3.symm,trivial⟩,⟨e2.symm,nP⟩,trivial⟩
     ·refine Or.inr (eI _ (eI _ (aI hG ?_)));refine aI (by show(fV (lQ cs) j S).1.length+1≤_;omega) ?_;refine aK (j+1) (by show j+1≤c.toNat;omega) ?_ (by show c.toNat+1-(j+1)<c.toNat+1-j;omega);exact Go.Tr.hd [(20000,45)] rfl (aI rfl (aI ⟨bD (by omega),rfl⟩ trivial)) ⟨trivial,⟨rfl,⟨congrArg (fun s:Dp=>((s.1:Nat):Int)) e3.symm,rfl⟩,congrArg Prod.snd e3.symm,trivial⟩,⟨e2.symm,nP⟩,trivial⟩
    have q:(bif decide (((j:Nat):Int)<c)then !(fV (lQ cs) j S).2.2 else false)=false:=q;rw[aY,Bool.and_eq_false_iff,decide_eq_false_iff_not]at q
    have hfin:BQ cs (0,false)=fV (lQ cs) j S:=by
     rw[htm];rcases q with q|q'
     ·rw[show c.toNat=j by omega]
     ·have hB:(fV (lQ cs) j S).2.2=true:=by simpa using q'
      have:=uJ hB (c.toNat-j)
      rwa[show j+(c.toNat-j)=c.toNat by omega]at this
    rw[hfin]at hrt;refine Or.inr (eI _ (eI _ (aI (Oc cs (fV (lQ cs) j S).2) ?_)));refine aI (fun q2=> ?_) (fun q2=> ?_)
    ·have q2:(!(!(fV (lQ cs) j S).2.2&&decide ((fV (lQ cs) j S).2.1=cs.length)))=true:=q2;obtain⟨rfl,rfl⟩:=hrt false (Xf q2);exact fin [] (aI rfl trivial)
    ·have q2:(!(!(fV (lQ cs) j S).2.2&&decide ((fV (lQ cs) j S).2.1=cs.length)))=false:=q2;obtain⟨rfl,rfl⟩:=hrt true (Xe q2);exact fin [(10000,20000)] (aI rfl ⟨⟨rfl,nP⟩,trivial⟩)
   ·have q0:(bif decide (24<c)then true else decide (c<0))=false:=q0;rw[hbd]at q0;have hS3:(iE cs (0,false)).2.2=S.2:=by rw[hS2,q0];exact(Bool.or_false _).symm
    refine lp Nat (fun j=>[(7,.sl 20000),(8,.int .i64 (j:Nat))]) (fun j=>[.bT 11 52 [.rsl bn cs,.int .i64 ((fV (lQ cs) j S).2.1:Nat),.bool (fV (lQ cs) j S).2.2],.row 20000 25 1 kX (fV (lQ cs) j S).1 []]) (fun j=>c.toNat+1-j) (fun j=>j≤c.toNat) 0 (Nat.zero_le _) ?_ ?_
    ·exact Go.Tr.hd [(20000,28)] rfl (aI rfl (aI ⟨rfl,rfl⟩ trivial)) ⟨trivial,⟨rfl,⟨congrArg (fun n:Nat=>(n:Int)) hS1.symm,rfl⟩,hS3,trivial⟩,⟨rfl,nP⟩,trivial⟩
    intro j hj;have hat:=hat j;have hln:=hln j;refine aI (fun q=> ?_) (fun q=> ?_)
    ·have q:(bif decide (((j:Nat):Int)<c)then !(fV (lQ cs) j S).2.2 else false)=true:=q;rw[aY,Bool.and_eq_true,decide_eq_true_eq]at q;have hnb:(fV (lQ cs) j S).2.2=false:=by simpa using q.2
     have hs2:S.2=false:=by
      cases h:S.2 with
      |false=>rfl
      |true=>rw[ng h]at hnb;rw[show(([]:List (List ah)),S).2.2=S.2 from rfl,h]at hnb;cases hnb
     have hc2:=hcb hs2;have hlt:j<c.toNat:=by omega
     have e:fV (lQ cs) (j+1) S=((fV (lQ cs) j S).1++[(lQ cs (fV (lQ cs) j S).2).1],(lQ cs (fV (lQ cs) j S).2).2):=by rw[fV,hnb];rfl
     have e2:=congrArg Prod.fst e;have e3:=congrArg Prod.snd e;rcases CV (Vf cs hm (by omega) (fV (lQ cs) j S).2 hat)with⟨hG,hnil⟩|hG
     ·rw[hnil]at e2;refine Or.inr (eI _ (eI _ (aI hG ?_)));refine aI (by show(fV (lQ cs) j S).1.length+1≤_;omega) ?_;refine aK (j+1) (by show j+1≤c.toNat;omega) ?_ (by show c.toNat+1-(j+1)<c.toNat+1-j;omega);exact Go.Tr.hd [(20000,45)] rfl (aI rfl (aI ⟨bD (by omega),rfl⟩ trivial)) ⟨trivial,⟨rfl,⟨congrArg (fun s:Dp=>((s.1:Nat):Int)) e3.symm,rfl⟩,congrArg Prod.snd e3.symm,trivial⟩,⟨e2.symm,nP⟩,trivial⟩
     ·refine Or.inr (eI _ (eI _ (aI hG ?_)));refine aI (by show(fV (lQ cs) j S).1.length+1≤_;omega) ?_;refine aK (j+1) (by show j+1≤c.toNat;omega) ?_ (by show c.toNat+1-(j+1)<c.toNat+1-j;omega);exact Go.Tr.hd [(20000,45)] rfl (aI rfl (aI ⟨bD (by omega),rfl⟩ trivial)) ⟨trivial,⟨rfl,⟨congrArg (fun s:Dp=>((s.1:Nat):Int)) e3.symm,rfl⟩,congrArg Prod.snd e3.symm,trivial⟩,⟨e2.symm,nP⟩,trivial⟩
    have q:(bif decide (((j:Nat):Int)<c)then !(fV (lQ cs) j S).2.2 else false)=false:=q;rw[aY,Bool.and_eq_false_iff,decide_eq_false_iff_not]at q
    have hfin:BQ cs (0,false)=fV (lQ cs) j S:=by
     rw[htm];rcases q with q|q'
     ·rw[show c.toNat=j by omega]
     ·have hB:(fV (lQ cs) j S).2.2=true:=by simpa using q'
      have:=uJ hB (c.toNat-j)
      rwa[show j+(c.toNat-j)=c.toNat by omega]at this
    rw[hfin]at hrt;refine Or.inr (eI _ (eI _ (aI (Oc cs (fV (lQ cs) j S).2) ?_)));refine aI (fun q2=> ?_) (fun q2=> ?_)
    ·have q2:(!(!(fV (lQ cs) j S).2.2&&decide ((fV (lQ cs) j S).2.1=cs.length)))=true:=q2;obtain⟨rfl,rfl⟩:=hrt false (Xf q2);exact fin [] (aI rfl trivial)
    ·have q2:(!(!(fV (lQ cs) j S).2.2&&decide ((fV (lQ cs) j S).2.1=cs.length)))=false:=q2;obtain⟨rfl,rfl⟩:=hrt true (Xe q2);exact fin [(10000,20000)] (aI rfl ⟨⟨rfl,nP⟩,trivial⟩)
  cases hbb:(!(BQ cs (0,false)).2.2&&decide ((BQ cs (0,false)).2.1=cs.length))with
  |true=>
   have e:((BQ cs (0,false)).2.2|| !decide ((BQ cs (0,false)).2.1=cs.length))=false:=by
    rw[Bool.and_eq_true]at hbb;rw[hbb.2];simpa using hbb.1
   rw[e];exact .inr (key _ _ fun bb h=>by rw[h,hbb];exact⟨rfl,rfl⟩)
  |false=>
   have e:((BQ cs (0,false)).2.2|| !decide ((BQ cs (0,false)).2.1=cs.length))=true:=by
    cases h1:(BQ cs (0,false)).2.2 with
    |true=>rfl
    |false=>
     rw[h1]at hbb;have:decide ((BQ cs (0,false)).2.1=cs.length)=false:=hbb;rw[this];rfl
   rw[e];exact .inl ⟨rfl,key _ _ fun bb h=>by rw[h,hbb];exact⟨rfl,rfl⟩⟩
theorem KI(bk:List (List ah)):(bk.map gN).flatMap aW.enc=List.flatMap (enc kX) bk:=by
 induction bk with
 |nil=>rfl
 |cons x l ih=>rw[List.map_cons,List.flatMap_cons,List.flatMap_cons,ih,Ep]
noncomputable def jh(x:List Int):List aW×Int:=((gH x).1.map gN,(gH x).2)
theorem Ku{f:Nat}{x:List Int}{A:Option Addr}{c:Nat}{p:List Nat}{r0:List aW}{r1:Int}(hR:(r0,r1)=jh x)(w:World)(h0:T1 w (.sl x.length (x.flatMap iJ)) p (.slice A x.length c))(hf:Nn f [.rsl bn x] (gH x)):
  Calls Try.prog f #[.slice A x.length c] w fun e w'=>∃(B0:Option Addr) (d0:Nat) (q0:List Nat),e=.returned (.tuple #[.slice B0 r0.length d0,.int .i64 r1])∧Ext w w'∧T1 w' (.sl r0.length (r0.flatMap aW.enc)) q0 (.slice B0 r0.length d0)∧Own w.heap.size w' (q0):=by
 have e1:r0=(gH x).1.map gN:=congrArg Prod.fst hR;have e2:r1=(gH x).2:=congrArg Prod.snd hR;subst e1 e2;generalize gH x=R at hf;rw[List.length_map,KI]
 have hd:aA ⟨w,[]⟩ (fun _=>undef) [.rsl bn x] [.slice A x.length c]:=by
  unfold aA;exact⟨_,_,rfl,dB h0,by unfold aA;rfl⟩
 rcases hf with⟨h1,h⟩|h
 ·rw[h1];refine(h.2 ⟨w,[]⟩ (fun _=>undef) w [] [.slice A x.length c] (Inv.pQ w) hd).mono ?_;rintro e w' ⟨v',β',rfl,_,h1,h2⟩;unfold Den at h1;obtain⟨us,rfl,h1⟩:=h1;unfold aA at h1;obtain⟨y1,us1,rfl,k1,h1⟩:=h1;unfold aA at h1;obtain⟨y2,us2,rfl,k2,h1⟩:=h1;unfold aA at h1;subst h1;unfold Den at k1 k2;subst k2;obtain⟨rfl,_⟩:=k1;exact⟨none,0,[],rfl,h2.tX,T1.empty none,Own.nil _ _⟩
 ·refine(h.2 ⟨w,[]⟩ (fun _=>undef) w [] [.slice A x.length c] (Inv.pQ w) hd).mono ?_;rintro e w' ⟨v',β',rfl,_,h1,h2⟩;have hI':Inv (Cx.mk w []).w0 [] w' [Tok.res ⟨w,[]⟩ β' (.row 10000 25 1 kX R.1 [])]:=by simpa using h2
  obtain⟨A',c',q,r1,r2,r3⟩:=PS hI';unfold Den at h1;obtain⟨us,rfl,h1⟩:=h1;unfold aA at h1;obtain⟨y1,us1,rfl,k1,h1⟩:=h1;unfold aA at h1;obtain⟨y2,us2,rfl,k2,h1⟩:=h1;unfold aA at h1;subst h1;unfold Den at k1 k2;subst k2;obtain⟨rfl,_⟩:=k1;exact⟨A',c',q,by rw[r1],h2.tX,r2,r3⟩
theorem rZ(a0:List Int){A0:Option Addr}{c0:Nat}{p0:List Nat}(r0:List aW)(r1:Int)(hR:(r0,r1)=jh a0)(w:World)(h0:T1 w (.sl a0.length (a0.flatMap iJ)) p0 (.slice A0 a0.length c0))(hr:∀x∈a0,0≤x∧x≤255)(hs:a0.length≤1048576):Calls Try.prog 13 #[.slice A0 a0.length c0] w fun e w'=>∃(B0:Option Addr) (d0:Nat) (q0:List Nat),e=.returned (.tuple #[.slice B0 r0.length d0,.int .i64 r1])∧Ext w w'∧T1 w' (.sl r0.length (r0.flatMap aW.enc)) q0 (.slice B0 r0.length d0):=
 (Ku hR w h0 (U1 _ ⟨hs,hr⟩)).mono fun _ _ ⟨B,d,q,h1,h2,h3,_⟩=>⟨B,d,q,h1,h2,h3⟩
theorem mQ(a0:List Int){A0:Option Addr}{c0:Nat}{p0:List Nat}(r0:List aW)(r1:Int)(hR:(r0,r1)=jh a0)(w:World)(h0:T1 w (.sl a0.length (a0.flatMap iJ)) p0 (.slice A0 a0.length c0))(hr:∀x∈a0,0≤x∧x≤255)(hs:a0.length≤1048576):Calls Try.prog 14 #[.slice A0 a0.length c0] w fun e w'=>∃(B0:Option Addr) (d0:Nat) (q0:List Nat),e=.returned (.tuple #[.slice B0 r0.length d0,.int .i64 r1])∧Ext w w'∧T1 w' (.sl r0.length (r0.flatMap aW.enc)) q0 (.slice B0 r0.length d0)∧Own w.heap.size w' (q0):=
 Ku hR w h0 (U0 _ ⟨hs,hr⟩)
theorem rG(a0:List Int)(r0:List aW)(r1:Int)(h:(r0,r1)=jh a0)(hb:∀x∈a0,0≤x∧x≤255)(hs:a0.length≤1048576):cN (r0.flatMap aW.enc)≤1099511627776:=by
 have e1:r0=(gH a0).1.map gN:=congrArg Prod.fst h;subst e1;rw[KI];have nil:cN (List.flatMap (enc kX) ([]:List (List ah)))≤1099511627776:=by rw[List.flatMap_nil,eX];omega
 unfold gH;cases hc:iY a0 2 !=0 with
 |true=>exact nil
 |false=>
  rcases Qe (nM ⟨hs,hb⟩ (Cv hc).1).1 with⟨X,a',hX⟩|⟨b1,_⟩
  ·rw[hX.i];cases decide (a'=(midD a0).length)with
   |false=>exact nil
   |true=>
    show cN (List.flatMap (enc kX) X)≤_
    have:=Dx (f:=enc kX) (M:=600*20) (xs:=X) fun x hx=>by
     show cN [.sl x.length (List.flatMap (enc aV) x)]≤_;rw[fJ,eX,lq];have:=NR (hX.ok x hx);omega
    have:=hX.n;omega
  ·rw[b1];exact nil
end Go.Proofs.Ytdpclbjjmhkgiaa
