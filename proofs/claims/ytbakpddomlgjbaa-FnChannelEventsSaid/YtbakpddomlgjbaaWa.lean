
/- The symbolic machine with calls that leave data which is never written again: later bases. -/
import Derived.Test.YtbakpddomlgjbaaVX
set_option linter.unusedSimpArgs false
set_option linter.unusedVariables false
namespace Go.Tr
open Go Go.RowKit
universe u
structure Cx.le(cx cx':Cx):Prop where
 inv:∀{w:World} {R:List bn},Inv cx'.w0 cx'.F0 w R->Inv cx.w0 cx.F0 w R
 sl:∀{d:D} {v:Value},dY cx.w0 cx.F0 d v->dY cx'.w0 cx'.F0 d v
 rp:∀{b o:Nat} {ds:List D},je cx.w0 cx.F0 b o ds->je cx'.w0 cx'.F0 b o ds
theorem Cx.le.refl(cx:Cx):cx.le cx:=⟨id,id,id⟩
theorem Cx.le.trans{a b c:Cx}(h:a.le b)(k:b.le c):a.le c:=⟨fun x=>h.inv (k.inv x),fun x=>k.sl (h.sl x),fun x=>k.rp (h.rp x)⟩
section
variable {cx cx':Cx}{β β':Nat->Value}{P:Program}{ti:TI}{n:Nat}{a:Act}{env:Ev}{rs:List Tok}{fr:List bn}{w w':World}
mutual
theorem Den.imp(hs:∀{d:D} {v:Value},dY cx.w0 cx.F0 d v->dY cx'.w0 cx'.F0 d v)(hp:∀{b o:Nat} {ds:List D},je cx.w0 cx.F0 b o ds->je cx'.w0 cx'.F0 b o ds):∀{s:SV} {v:Value},Den cx β s v->Den cx' β s v
 | .int _ _,v,h| .bool _,v,h| .raw _,v,h| .ptr _ _,v,h| .sl _,v,h| .ep _ _ _ _,v,h| .un,v,h| .nh _ _ _ _,v,h| .np _ _ _ _ _ _ _,v,h| .mp _,v,h| .sx _ _ _ _,v,h| .gd _ _ _,v,h=>by unfold Den at h |-;exact h
 | .rsl e xs,v,h=>by unfold Den at h |-;exact hs h
 | .rp u x,v,h=>by unfold Den at h |-;obtain⟨b,o,e,h1⟩:=h;exact⟨b,o,e,hp h1⟩
 | .nn e xs,v,h=>by unfold Den at h |-;exact⟨hs h.1,h.2⟩
 | .agg l,v,h=>by unfold Den at h |-;obtain⟨us,e,h1⟩:=h;exact⟨us,e,aj.imp hs hp h1⟩
 | .tup l,v,h=>by unfold Den at h |-;obtain⟨us,e,h1⟩:=h;exact⟨us,e,aj.imp hs hp h1⟩
 | .fn f l,v,h=>by unfold Den at h |-;obtain⟨us,e,h1⟩:=h;exact⟨us,e,aj.imp hs hp h1⟩
theorem aj.imp(hs:∀{d:D} {v:Value},dY cx.w0 cx.F0 d v->dY cx'.w0 cx'.F0 d v)(hp:∀{b o:Nat} {ds:List D},je cx.w0 cx.F0 b o ds->je cx'.w0 cx'.F0 b o ds):∀{l:List SV} {us:aO},aj cx β l us->aj cx' β l us
 |[],us,h=>by unfold aj at h |-;exact h
 |s::l,us,h=>by
  unfold aj at h |-;obtain⟨v,vs',h1,h2,h3⟩:=h;exact⟨v,vs',h1,Den.imp hs hp h2,aj.imp hs hp h3⟩
end
theorem Den.le(hl:cx.le cx'){s:SV}{v:Value}(h:Den cx β s v):Den cx' β s v:=Den.imp hl.sl hl.rp h
theorem aj.le(hl:cx.le cx'){l:List SV}{us:aO}(h:aj cx β l us):aj cx' β l us:=aj.imp hl.sl hl.rp h
theorem bO.le(hl:cx.le cx'){s:SV}{v:Value}(h:bO cx β a s v):bO cx' β a s v:=by
 cases s
 case gd d b x=>
  have h3:(a.tmps[d]? =some (Value.bool b)->Den cx β x v)/\(a.tmps[d]? ≠some (Value.bool b)->v=undef):=h;exact show(a.tmps[d]? =some (Value.bool b)->Den cx' β x v)/\(a.tmps[d]? ≠some (Value.bool b)->v=undef) from⟨fun hh=>(h3.1 hh).le hl,h3.2⟩
 all_goals exact bO.of (Den.le hl (show Den cx β _ v from h))
theorem dF.le(hl:cx.le cx')(E:dF cx β n a env):dF cx' β n a env:=⟨E.size,E.defers,fun t s h=>by
 obtain⟨v,h1,h2⟩:=E.get t s h;exact⟨v,h1,h2.le hl⟩⟩
theorem Iu(hl:cx.le cx'){t:Tok}{F:aG}(hp:(Tok.res cx β t).p w F):(Tok.res cx' β t).p w F:=by
 cases t with
 |bQ g t cs=>
  obtain⟨b,us,h1,h2,h3⟩:=hp;exact⟨b,us,h1,h2.le hl,h3⟩
 |dat g t s u xs=>
  obtain⟨h0,us,h1,h2⟩:=hp;exact⟨h0,us,h1.le hl,h2⟩
 |_=>exact hp
theorem zQ(hl:cx.le cx'):∀{l:List Tok},F2 (fun r r'=>∀F,bn.p r w F->bn.p r' w F) (l.map (Tok.res cx β)) (l.map (Tok.res cx' β))
 |[]=>.nil
 |t::l=>.cons (fun F hp=>Iu hl hp) (zQ hl)
theorem Inv.le{w0:World}{F0:aG}(hl:cx.le cx')(h:Inv w0 F0 w (rs.map (Tok.res cx β)++fr)):Inv w0 F0 w (rs.map (Tok.res cx' β)++fr):=h.kK (zQ hl)
theorem Inv.le2{w0:World}{F0:aG}{R:List bn}(hl:cx.le cx')(h:Inv w0 F0 w (R++(rs.map (Tok.res cx β)++fr))):Inv w0 F0 w (R++(rs.map (Tok.res cx' β)++fr)):=by
 have h1:Inv w0 F0 w (rs.map (Tok.res cx β)++(R++fr)):=h.perm (by
  rw[<-qF,<-qF];exact List.perm_append_comm.append_right fr)
 exact(h1.kK (zQ hl)).perm (by
  rw[<-qF,<-qF];exact List.perm_append_comm.append_right fr)
theorem Inv.base{w0:World}{F0 G:aG}{R:List bn}(h:Inv w0 F0 w R)(hs:Sep w R G)(hG:∀b∈G,b∈F0\/w0.heap.size<=b):(Cx.mk w0 F0).le ⟨w,G⟩/\Inv w G w R:=by
 refine⟨⟨fun {w2 R2} h2=> ?_,fun {d v} h2=>h2.at_ h hG,fun {b o ds} h2=>h2.at_ h hG⟩,Inv.start hs⟩;have hsz:w0.heap.size<=w.heap.size:=h.gX.size;have h2c:gW G w w2:=h2.gX;refine⟨⟨h2.gX.os.trans h.gX.os,h2.gX.tape.trans h.gX.tape,h2.gX.output.trans h.gX.output,Nat.le_trans hsz h2.gX.size,fun b hb hn=>(h2c.other b (qW hb hsz) (fun hm=>by rcases hG b hm with h8|h8;exact hn h8;exact absurd hb (Nat.not_lt.2 h8))).trans (h.gX.other b hb hn)⟩,?_⟩;obtain⟨G2,k1,k2⟩:=h2.sep;refine⟨G2,k1,fun b hb=> ?_⟩;rcases k2 b hb with h3|h3
 .exact hG b h3
 .exact .inr (by have:w0.heap.size<=w.heap.size:=hsz;exact Nat.le_trans this h3)
def bI(P:Program)(f:FuncId)(args:List SV)(ts:List Tok)(r:SV)(ts':List Tok):Prop:=aU P f=true/\∀(cx:Cx) (β:Nat->Value) (w:World) (fr:List bn) (vs:List Value),Inv cx.w0 cx.F0 w (ts.map (Tok.res cx β)++fr)->aj cx β args vs->
 Calls P f vs.toArray w fun e w'=>∃v cx' β',e=.returned v/\cx.le cx'/\(∀g,10000<=g->g<10000+ts.length->β' g=β g)/\Den cx' β' r v/\Inv cx'.w0 cx'.F0 w' (ts'.map (Tok.res cx' β')++fr)
theorem au.g{f:FuncId}{args:List SV}{ts:List Tok}{r:SV}{ts':List Tok}(h:au P f args ts r ts'):bI P f args ts r ts':=
 ⟨h.1,fun cx β w fr vs hI hd=>(h.2 cx β w fr vs hI hd).mono fun _ _ ⟨v,β',h1,h2,h3,h4⟩=>⟨v,cx,β',h1,Cx.le.refl _,h2,h3,h4⟩⟩
theorem bI.q{f:FuncId}{args:List SV}{r:SV}(h:bI P f args [] r [])(hp:vG r=true):aB P f args r:=by
 refine⟨h.1,fun cx β w fr vs hI hd=>(h.2 cx β w fr vs hI hd).mono fun _ w' ⟨v,cx',β',h1,hl,h2,h3,h4⟩=>⟨v,h1,?_,hl.inv h4⟩⟩;have k:=xY (cx':=cx) hp h3;refine k.congr fun g hg=> ?_
 exfalso
 have hn:∀{l:List SV} {q:List Nat},nY l=true->dB l q=q:=by
  intro l
  induction l with
  |nil=>intro q _;rfl
  |cons v l ih=>
   intro q hq;unfold nY at hq;rw[qD]at hq;unfold dB;rw[ih hq.2];cases v<;>first|rfl|simp[zx]at hq
 cases r<;>first|(simp[SV.names]at hg;done)|(simp[vG,zx]at hp;done)|(unfold vG at hp;unfold SV.names at hg;rw[hn hp]at hg;simp at hg)
theorem mW{u:U}:∀xs:List (El u),(List.flatMap (enc u) xs).length=xs.length*u.size
 |[]=>by simp
 |x::xs=>by rw[qU,qA,bH,mW xs,qI,Nat.add_mul];omega
theorem zG:∀(u:U) (x:El u) {cx:Cx} {β:Nat->Value} {us:aO} {vs:List SV},aj cx β (bK u x++vs) us->∃u1 u2,us=u1++u2/\fT cx.w0 cx.F0 (enc u x) u1/\aj cx β vs u2
 | .int k,x,cx,β,us,vs,hd=>by
  unfold bK aj at hd;obtain⟨v1,vs1,rfl,hd1,hd2⟩:=hd;unfold Den at hd1;subst hd1;exact⟨[_],vs1,rfl,fT.one (dY.Nl rfl),hd2⟩
 | .bool,x,cx,β,us,vs,hd=>by
  unfold bK aj at hd;obtain⟨v1,vs1,rfl,hd1,hd2⟩:=hd;unfold Den at hd1;subst hd1;exact⟨[_],vs1,rfl,fT.one (dY.Nl rfl),hd2⟩
 | .str,x,cx,β,us,vs,hd=>by
  unfold bK aj at hd;obtain⟨v1,vs1,rfl,hd1,hd2⟩:=hd;unfold Den at hd1;obtain⟨rfl,h1⟩:=hd1;exact⟨[_],vs1,rfl,fT.one (dY.Nl h1),hd2⟩
 | .any,x,cx,β,us,vs,hd=>by
  unfold bK aj at hd;obtain⟨v1,vs1,rfl,hd1,hd2⟩:=hd;unfold Den at hd1;obtain⟨rfl,h1⟩:=hd1;exact⟨[_],vs1,rfl,fT.one (dY.Nl h1),hd2⟩
 | .pair a b,x,cx,β,us,vs,hd=>by
  unfold bK at hd;rw[qF]at hd;obtain⟨u1,u2,rfl,h1,h2⟩:=zG a x.1 hd;obtain⟨u3,u4,rfl,h3,h4⟩:=zG b x.2 h2;exact⟨u1++u3,u4,by simp,by unfold enc;exact h1.app h3,h4⟩
 | .sl e,x,cx,β,us,vs,hd=>by
  unfold bK aj at hd;obtain⟨v1,vs1,rfl,hd1,hd2⟩:=hd;unfold Den at hd1;exact⟨[_],vs1,rfl,fT.one hd1,hd2⟩
 | .tree e,x,cx,β,us,vs,hd=>by
  unfold bK at hd;rw[qF]at hd;obtain⟨u1,u2,rfl,h1,h2⟩:=zG e x.val hd
  change aj cx β (.rsl (.tree e) x.kids::vs) u2 at h2
  unfold aj at h2;obtain⟨v1,vs1,rfl,hd1,hd2⟩:=h2;unfold Den at hd1;exact⟨u1++[v1],vs1,by simp,by rw[eX];exact h1.app (fT.one hd1),hd2⟩
theorem D6{u:U}{cx:Cx}{β:Nat->Value}:∀(xs:List (El u)) {us:aO},aj cx β (List.flatMap (bK u) xs) us->fT cx.w0 cx.F0 (List.flatMap (enc u) xs) us
 |[],us,hd=>by unfold List.flatMap aj at hd;subst hd;exact⟨[],TN.done,by simp⟩
 |x::xs,us,hd=>by
  rw[qU]at hd |-;obtain⟨u1,u2,rfl,h1,h2⟩:=zG u x hd;exact h1.app (D6 xs h2)
theorem Bv{cx:Cx}{β:Nat->Value}{w:World}{G F:aG}{g:Nat}{t s:Nat}{u:U}{xs:List (El u)}(hl:cx.le ⟨w,G⟩)(h:(Tok.res cx β (.dat g t s u xs)).p w F)(hF:∀b∈F,b∉G):dY w G (.sl (List.length (α:=El u) xs) (List.flatMap (enc u) xs)) (β g):=by
 obtain⟨h1,us,h2,h3,bs,us',rfl,hg,_⟩:=h;obtain⟨rfl,rfl⟩:=Iq hg.tn;obtain⟨bs1,k1,k2⟩:=D6 xs (h2.le hl);obtain⟨bs',q1,q2⟩:=HZ hg.row k1 (by rw[aN,h1]);refine⟨bs',q1,fun b hb=> ?_⟩;rcases qT.1 (q2 b hb)with hb|hb
 .exact hF b (by simp[hb])
 .exact k2 b hb
def OQ(dt:Bool)(ts:List Tok):SV->(SV->Prop)->Prop
 | .sl g,K=>match rowOf ts g with
  |some ⟨_,_,u,xs,_⟩=>K (.rsl u xs)
  |none=>match dt with
   |true=>(match dV ts g with
    |some ⟨_,_,u,xs⟩=>K (.rsl u xs)
    |none=>False)
   |false=>False
 | .raw (.slice none 0 0),K=>K (.raw (.slice none 0 0))\/∃e,K (.rsl e [])
 | .rsl e xs,K=>match dt with|true=>K (.rsl e xs)|false=>False
 | .int k i,K=>K (.int k i)
 | .bool b,K=>K (.bool b)
 | .raw v,K=>K (.raw v)
 |_,_=>False
def Gc(dt:Bool)(ts:List Tok):List SV->(List SV->Prop)->Prop
 |[],K=>K []
 |v::l,K=>OQ dt ts v fun v'=>Gc dt ts l fun l'=>K (v'::l')
def Gd(dt:Bool)(ts:List Tok):List SV->(List SV->Prop)->Prop
 |[],K=>K []
 |v::l,K=>match v with
  | .agg m=>Gc dt ts m fun m'=>Gd dt ts l fun l'=>K (.agg m'::l')
  |v=>OQ dt ts v fun v'=>Gd dt ts l fun l'=>K (v'::l')
def OT(dt:Bool)(ts:List Tok):SV->(SV->Prop)->Prop
 | .agg l,K=>Gc dt ts l fun l'=>K (.agg l')
 | .tup l,K=>Gd dt ts l fun l'=>K (.tup l')
 |v,K=>OQ dt ts v K
theorem Sep.get{w:World}:∀{R:List bn} {G:aG} {i:Nat} {r:bn},Sep w R G->R[i]? =some r->∃F,r.p w F/\∀b∈F,b∈G
 |[],G,i,r,h,hi=>by simp at hi
 |x::R,G,0,r,⟨F,G',e,h1,h2,h3⟩,hi=>by simp at hi;subst hi;exact⟨F,h1,fun b hb=>by rw[e];exact List.mem_append_left _ hb⟩
 |x::R,G,i+1,r,⟨F,G',e,h1,h2,h3⟩,hi=>by
  obtain⟨F',k1,k2⟩:=Sep.get h2 (i:=i) (by simpa using hi);exact⟨F',k1,fun b hb=>by rw[e];exact List.mem_append_right _ (k2 b hb)⟩
section
variable {G1 G:aG}{ts:List Tok}{dt:Bool}
theorem BG(hs:Sep w (ts.map (Tok.res cx β)) G1)(hd:∀b∈G1,b∉G)(hl:dt=true->cx.le ⟨w,G⟩):∀{s:SV} {v:Value} {K:SV->Prop},OQ dt ts s K->Den cx β s v->∃s',K s'/\Den ⟨w,G⟩ β s' v:=by
 intro s v K h hv;unfold OQ at h;split at h
 .rename_i g;split at h
  .rename_i t s u xs us hr;refine⟨_,h,?_⟩;obtain⟨i,hi|⟨_,hi⟩⟩:=ny hr
   .obtain⟨F,k1,k2⟩:=hs.get (i:=i) (r:=Tok.res cx β (.row g t s u xs us)) (by rw[qY,hi];rfl);unfold Den at hv |-;obtain⟨rfl,_⟩:=hv;obtain⟨hsz,bs,raw,rfl,hg,_⟩:=k1;obtain⟨A,c,q,j1,j2,j4,j5⟩:=hg.Ka (by subst hsz;exact mW xs);refine⟨q,by rw[j1];exact j2,fun b hb=>hd b (k2 b (j5 b hb))⟩
   .obtain⟨F,k1,k2⟩:=hs.get (i:=i) (r:=Tok.res cx β (.suf g t s u xs)) (by rw[qY,hi];rfl);unfold Den at hv |-;obtain⟨rfl,_⟩:=hv;obtain⟨hsz,hf,hp⟩:=k1;obtain⟨A,c,bs,j1,j2,j3,j4⟩:=CJ.t1 hp (by rw[aN,hsz]);exact⟨bs,j2,fun b hb=>hd b (k2 b (j4 b hb))⟩
  .split at h
   .split at h
    .rename_i t s u xs hr;refine⟨_,h,?_⟩;obtain⟨i,hi⟩:=jS hr;obtain⟨F,k1,k2⟩:=hs.get (i:=i) (r:=Tok.res cx β (.dat g t s u xs)) (by rw[qY,hi];rfl);unfold Den at hv |-;obtain⟨rfl,_⟩:=hv;exact Bv (hl rfl) k1 fun b hb=>hd b (k2 b hb)
    .exact h.elim
   .exact h.elim
 .rcases h with h|⟨e,h⟩
  .exact⟨_,h,by unfold Den at hv |-;exact hv⟩
  .refine⟨_,h,?_⟩;unfold Den at hv |-;obtain⟨rfl,_⟩:=hv;exact⟨[],T1.empty none,by simp⟩
 .split at h
  .exact⟨_,h,Den.le (hl rfl) hv⟩
  .exact h.elim
 .exact⟨_,h,by unfold Den at hv |-;exact hv⟩
 .exact⟨_,h,by unfold Den at hv |-;exact hv⟩
 .exact⟨_,h,by unfold Den at hv |-;exact hv⟩
 .exact h.elim
theorem y5(hs:Sep w (ts.map (Tok.res cx β)) G1)(hd:∀b∈G1,b∉G)(hl:dt=true->cx.le ⟨w,G⟩):∀{l:List SV} {us:aO} {K:List SV->Prop},Gc dt ts l K->aj cx β l us->∃l',K l'/\aj ⟨w,G⟩ β l' us
 |[],us,K,h,hv=>⟨[],h,by unfold aj at hv |-;exact hv⟩
 |v::l,us,K,h,hv=>by
  unfold Gc at h;unfold aj at hv;obtain⟨x,us',rfl,h1,h2⟩:=hv;obtain⟨s',k1,k2⟩:=BG hs hd hl h h1;obtain⟨l',j1,j2⟩:=y5 hs hd hl k1 h2;exact⟨s'::l',j1,by unfold aj;exact⟨x,us',rfl,k2,j2⟩⟩
theorem y7(hs:Sep w (ts.map (Tok.res cx β)) G1)(hd:∀b∈G1,b∉G)(hl:dt=true->cx.le ⟨w,G⟩):∀{l:List SV} {us:aO} {K:List SV->Prop},Gd dt ts l K->aj cx β l us->∃l',K l'/\aj ⟨w,G⟩ β l' us
 |[],us,K,h,hv=>⟨[],h,by unfold aj at hv |-;exact hv⟩
 |v::l,us,K,h,hv=>by
  unfold Gd at h;unfold aj at hv;obtain⟨x,us',rfl,h1,h2⟩:=hv;split at h
  .rename_i m;unfold Den at h1;obtain⟨vs,rfl,h1⟩:=h1;obtain⟨m',k1,k2⟩:=y5 hs hd hl h h1;obtain⟨l',j1,j2⟩:=y7 hs hd hl k1 h2;exact⟨.agg m'::l',j1,by unfold aj;exact⟨_,us',rfl,by unfold Den;exact⟨vs,rfl,k2⟩,j2⟩⟩
  .obtain⟨s',k1,k2⟩:=BG hs hd hl h h1;obtain⟨l',j1,j2⟩:=y7 hs hd hl k1 h2;exact⟨s'::l',j1,by unfold aj;exact⟨x,us',rfl,k2,j2⟩⟩
theorem BH(hs:Sep w (ts.map (Tok.res cx β)) G1)(hd:∀b∈G1,b∉G)(hl:dt=true->cx.le ⟨w,G⟩){s:SV}{v:Value}{K:SV->Prop}(h:OT dt ts s K)(hv:Den cx β s v):∃s',K s'/\Den ⟨w,G⟩ β s' v:=by
 unfold OT at h;split at h
 .unfold Den at hv;obtain⟨vs,rfl,h1⟩:=hv;obtain⟨m',k1,k2⟩:=y5 hs hd hl h h1;exact⟨_,k1,by unfold Den;exact⟨vs,rfl,k2⟩⟩
 .unfold Den at hv;obtain⟨vs,rfl,h1⟩:=hv;obtain⟨m',k1,k2⟩:=y7 hs hd hl h h1;exact⟨_,k1,by unfold Den;exact⟨vs,rfl,k2⟩⟩
 .exact BG hs hd hl h hv
end
theorem bI.fz{f:Nat}{args:List SV}{ts1:List Tok}{r1 r:SV}(h:bI P f args [] r1 ts1)(hf:OT true ts1 r1 fun r'=>r'=r):bI P f args [] r []:=by
 refine⟨h.1,fun cx β w fr vs hI hd=>(h.2 cx β w fr vs hI hd).mono fun _ w' ⟨v,cx',β',h1,hl,h2,h3,h4⟩=> ?_⟩;obtain⟨G0,hs,hG0⟩:=h4.sep;obtain⟨G1,G,rfl,k1,k2,k3⟩:=Sep.append.1 hs;have h5:Inv cx'.w0 cx'.F0 w' fr:=Inv.xD h4;obtain⟨hl2,hI2⟩:=Inv.base h5 k2 fun b hb=>hG0 b (List.mem_append_right _ hb)
 obtain⟨r',rfl,k5⟩:=BH (G:=G) k1 k3 (fun _=>hl2) hf h3;exact⟨v,⟨w',G⟩,β',h1,hl.trans hl2,fun g h1 h2=>by simp at h2;omega,k5,hI2⟩
end
def EG(u:U):List (List SV)->(List (El u)->Prop)->Prop
 |[],K=>K []
 |c::cs,K=>xR u c fun x l=>match l with|[]=>EG u cs fun xs=>K (x::xs)|_=>False
def Gq:List SV->Bool
 |[]=>false
 |v::l=>match v with
  | .rsl _ _=>true
  |_=>Gq l
def Dn:List (List SV)->Bool
 |[]=>false
 |c::l=>Gq c||Dn l
def isLit(env:Ev):Op->Bool
 | .buildSlice _ _ ps=>match iA env none ps.toList 0 with
  |some css=>Dn css
  |none=>false
 |_=>false
def Qz(ti:TI)(env:Ev)(op:Op)(K:SV->Prop):Prop:=match op with
 | .buildSlice t m ps=>match iA env none ps.toList 0,lk ti t with
  |some css,some (.sl _ s u)=>bif Nat.beq css.length m&&(Nat.blt 0 m&&Nat.ble (m*s) 16777216)then EG u css fun xs=>K (.rsl u xs)else False
  |_,_=>False
 |_=>False
section
variable {cx cx':Cx}{β β':Nat->Value}{P:Program}{ti:TI}{n:Nat}{a:Act}{env:Ev}{rs:List Tok}{fr:List bn}{w w':World}{dst:Option Nat}{ty:TypeId}{pos:String}{aft:Array Edge}{gd:Option (Nat×Bool)}
theorem zf{u:U}:∀{css:List (List SV)} {K:List (El u)->Prop},EG u css K->∃xs,K xs/\List.length (α:=El u) xs=css.length/\∀(cx:Cx) (β:Nat->Value) (uss:List (List Value)),F2 (fun cs us=>aj cx β cs us) css uss->fT cx.w0 cx.F0 (List.flatMap (enc u) xs) uss.flatten/\∀us∈uss,us.length=u.size
 |[],K,h=>⟨[],h,rfl,fun cx β uss hd=>by cases hd;exact⟨⟨[],TN.done,by simp⟩,by simp⟩⟩
 |c::cs,K,h=>by
  unfold EG at h;obtain⟨x,l,h1,h2⟩:=rM u h;split at h1
  .obtain⟨xs,h3,h4,h5⟩:=zf (css:=cs) h1;refine⟨x::xs,h3,by simp[h4],fun cx β uss hd=> ?_⟩;cases hd with
   |cons k1 k2=>
    rename_i us uss;obtain⟨u1,u2,rfl,k3,k4⟩:=h2 cx β us k1;unfold aj at k4;subst k4;obtain⟨k5,k6⟩:=h5 cx β uss k2;rw[qS];refine⟨by rw[qU,List.flatten_cons];exact k3.app k5,fun us hu=> ?_⟩;rcases List.mem_cons.1 hu with rfl|hu
    .obtain⟨bs,q1,_⟩:=k3;rw[q1.length,bH]
    .exact k6 us hu
  .exact h1.elim
theorem GH(hti:dx P ti=true){t m e s:Nat}{u:U}(hl:lk ti t=some (.sl e s u)){ps:Array (Nat×Operand)}{css:List (List SV)}(hhE:dF cx β n a env)(hhH:Inv cx.w0 cx.F0 w (rs.map (Tok.res cx β)++fr))(hp:iA env none ps.toList 0=some css)(hm:css.length=m)(h0:0<m)(hb:m*s<=16777216){xs:List (El u)}(k2:List.length (α:=El u) xs=css.length)(k3:∀(cx:Cx) (β:Nat->Value) (uss:List (List Value)),F2 (fun cs us=>aj cx β cs us) css uss->fT cx.w0 cx.F0 (List.flatMap (enc u) xs) uss.flatten/\∀us∈uss,us.length=u.size):
  ∃v w' cx',(execOp a.eval ⟨dst,.buildSlice t m ps,ty,pos,aft,gd⟩).run P w=.ok (.value v) w'/\cx.le cx'/\Den cx' β (.rsl u xs) v/\dF cx' β n a env/\Inv cx'.w0 cx'.F0 w' (rs.map (Tok.res cx' β)++fr):=by
 obtain⟨vs,uss,h1,h2,h3,h4⟩:=rR hhE (g:=none) (fun d b e=>by cases e) hp;obtain⟨k4,k5⟩:=k3 cx β uss h4;have hus:=(fD hti hl).2.2;have hE:=gZ hti hl;have hv:=yM (q:=fun us=>us.length=s) h3 (fun us hu=>(k5 us hu).trans hus);have hvl:vs.length=m:=h2.trans hm
 have hps:(ps.map fun(i,x)=>(i,a.eval x))=(vs.zipIdx.map fun x=>(x.2,x.1)).toArray:=by
  apply Array.toList_inj.1;rw[Array.toList_map];exact h1
 have hfl:uss.flatten.length=m*s:=by
  have:∀{vs:List Value} {uss:List (List Value)},F2 (fun v us=>Value.cells v=List.toArray us/\us.length=s) vs uss->uss.flatten.length=vs.length*s:=by
   intro vs uss h
   induction h with
   |nil=>simp
   |cons h _ ih=>simp[h.2,ih,Nat.add_mul];omega
  rw[this hv,hvl]
 have hpos:=hE.p
 have hml:m<=maxLen:=by
  have:m*1<=m*s:=Nat.mul_le_mul_left m hpos;have:maxLen=9223372036854775807:=rfl;omega
 have hx:Ext w (w.alloc (.cells uss.flatten.toArray e)):=(Below.refl _ _).alloc (Nat.le_refl _) _;obtain⟨G,hs,hG⟩:=hhH.sep;have hc:gW [] w (w.alloc (.cells uss.flatten.toArray e)):=gW.kQ hx;have hs':Sep (w.alloc (.cells uss.flatten.toArray e)) (rs.map (Tok.res cx β)++fr) G:=hs.keep ⟨hc.size,fun b hb=>hc.other b (hs.lt b hb) (by simp)⟩;obtain⟨hle,hI⟩:=Inv.base (hhH.ext hx) hs' hG;refine⟨_,_,⟨w.alloc (.cells uss.flatten.toArray e),G⟩,AX hps (vL hE hvl hb hv w),hle,?_,hhE.le hle,Inv.le hle hI⟩;obtain⟨bs,q1,q2⟩:=k4.at_ hhH hG;unfold Den
 refine⟨w.heap.size::bs,?_,fun b hb=> ?_⟩
 .rw[k2,hm];unfold T1;refine⟨_,_,rfl,Nat.le_refl _,hml,.inr ⟨h0,w.heap.size,0,uss.flatten,bs,rfl,rfl,bL (heap_alloc_new w _),?_,q1.gX hc (by simp)⟩⟩;intro j v hj;rw[Nat.zero_add];exact jr (heap_alloc_new w _) (by simpa using hj)
 .rcases List.mem_cons.1 hb with rfl|hb
  .intro hm;have:=hs.lt _ hm;omega
  .exact q2 b hb
theorem yX(hti:dx P ti=true){t m e s:Nat}{u:U}(hl:lk ti t=some (.sl e s u)){ps:Array (Nat×Operand)}{css:List (List SV)}(hhE:dF cx β n a env)(hhH:Inv cx.w0 cx.F0 w (rs.map (Tok.res cx β)++fr))(hp:iA env none ps.toList 0=some css)(hm:css.length=m)(h0:0<m)(hb:m*s<=16777216){K:List (El u)->Prop}(h:EG u css K):
  ∃xs,K xs/\∃v w' cx',(execOp a.eval ⟨dst,.buildSlice t m ps,ty,pos,aft,gd⟩).run P w=.ok (.value v) w'/\cx.le cx'/\Den cx' β (.rsl u xs) v/\dF cx' β n a env/\Inv cx'.w0 cx'.F0 w' (rs.map (Tok.res cx' β)++fr):=by
 obtain⟨xs,k1,k2,k3⟩:=zf h;exact⟨xs,k1,GH hti hl hhE hhH hp hm h0 hb k2 k3⟩
end
end Go.Tr
