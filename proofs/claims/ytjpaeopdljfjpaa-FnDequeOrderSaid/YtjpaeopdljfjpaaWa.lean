
/- The symbolic machine with calls that leave data which is never written again: later bases. -/
import Derived.Test.YtjpaeopdljfjpaaShort
import Derived.Test.YtjpaeopdljfjpaaNm
import Derived.Test.YtjpaeopdljfjpaaVV
set_option linter.unusedSimpArgs false
set_option linter.unusedVariables false
namespace Go.Tr
open Go Go.RowKit
universe u
structure Cx.le(cx cx':Cx):Prop where
 inv:∀{w:World} {R:List bV},Inv cx'.w0 cx'.F0 w R→Inv cx.w0 cx.F0 w R
 sl:∀{d:D} {v:Value},dz cx.w0 cx.F0 d v→dz cx'.w0 cx'.F0 d v
 rp:∀{b o:Nat} {ds:List D},eY cx.w0 cx.F0 b o ds→eY cx'.w0 cx'.F0 b o ds
theorem Cx.le.refl(cx:Cx):cx.le cx:=⟨id,id,id⟩
theorem Cx.le.trans{a b c:Cx}(h:a.le b)(k:b.le c):a.le c:=⟨fun x=>h.inv (k.inv x),fun x=>k.sl (h.sl x),fun x=>k.rp (h.rp x)⟩
section
variable {cx cx':Cx}{β β':Nat→Value}{P:Program}{ti:TI}{n:Nat}{a:Act}{env:Ev}{rs:List Tok}{fr:List bV}{w w':World}
mutual
theorem Den.imp(hs:∀{d:D} {v:Value},dz cx.w0 cx.F0 d v→dz cx'.w0 cx'.F0 d v)(hp:∀{b o:Nat} {ds:List D},eY cx.w0 cx.F0 b o ds→eY cx'.w0 cx'.F0 b o ds):∀{s:SV} {v:Value},Den cx β s v→Den cx' β s v
 | .int _ _,v,h| .bool _,v,h| .raw _,v,h| .ptr _ _,v,h| .sl _,v,h| .ep _ _ _ _,v,h| .un,v,h| .nh _ _ _ _,v,h| .np _ _ _ _ _ _ _,v,h| .mp _,v,h| .sx _ _ _ _,v,h| .gd _ _ _,v,h=>by unfold Den at h ⊢;exact h
 | .rsl e xs,v,h=>by unfold Den at h ⊢;exact hs h
 | .rp u x,v,h=>by unfold Den at h ⊢;obtain⟨b,o,e,h1⟩:=h;exact⟨b,o,e,hp h1⟩
 | .nn e xs,v,h=>by unfold Den at h ⊢;exact⟨hs h.1,h.2⟩
 | .agg l,v,h=>by unfold Den at h ⊢;obtain⟨us,e,h1⟩:=h;exact⟨us,e,aF.imp hs hp h1⟩
 | .tup l,v,h=>by unfold Den at h ⊢;obtain⟨us,e,h1⟩:=h;exact⟨us,e,aF.imp hs hp h1⟩
 | .fn f l,v,h=>by unfold Den at h ⊢;obtain⟨us,e,h1⟩:=h;exact⟨us,e,aF.imp hs hp h1⟩
theorem aF.imp(hs:∀{d:D} {v:Value},dz cx.w0 cx.F0 d v→dz cx'.w0 cx'.F0 d v)(hp:∀{b o:Nat} {ds:List D},eY cx.w0 cx.F0 b o ds→eY cx'.w0 cx'.F0 b o ds):∀{l:List SV} {us:List Value},aF cx β l us→aF cx' β l us
 |[],us,h=>by unfold aF at h ⊢;exact h
 |s::l,us,h=>by
  unfold aF at h ⊢;obtain⟨v,vs',h1,h2,h3⟩:=h;exact⟨v,vs',h1,Den.imp hs hp h2,aF.imp hs hp h3⟩
end
theorem Den.le(hl:cx.le cx'){s:SV}{v:Value}(h:Den cx β s v):Den cx' β s v:=Den.imp hl.sl hl.rp h
theorem aF.le(hl:cx.le cx'){l:List SV}{us:List Value}(h:aF cx β l us):aF cx' β l us:=aF.imp hl.sl hl.rp h
theorem dw.le(hl:cx.le cx'){s:SV}{v:Value}(h:dw cx β a s v):dw cx' β a s v:=by
 cases s
 case gd d b x=>
  have h3:(a.tmps[d]? =some (Value.bool b)→Den cx β x v)∧(a.tmps[d]? ≠some (Value.bool b)→v=undef):=h;exact show(a.tmps[d]? =some (Value.bool b)→Den cx' β x v)∧(a.tmps[d]? ≠some (Value.bool b)→v=undef) from⟨fun hh=>(h3.1 hh).le hl,h3.2⟩
 all_goals exact dw.of (Den.le hl (show Den cx β _ v from h))
theorem fq.le(hl:cx.le cx')(E:fq cx β n a env):fq cx' β n a env:=⟨E.size,E.defers,fun t s h=>by
 obtain⟨v,h1,h2⟩:=E.get t s h;exact⟨v,h1,h2.le hl⟩⟩
theorem GU(hl:cx.le cx'){t:Tok}{F:List Nat}(hp:(Tok.res cx β t).p w F):(Tok.res cx' β t).p w F:=by
 cases t with
 |gG g t cs=>
  obtain⟨b,us,h1,h2,h3⟩:=hp;exact⟨b,us,h1,h2.le hl,h3⟩
 |_=>exact hp
theorem zF(hl:cx.le cx'):∀{l:List Tok},F2 (fun r r'=>∀F,bV.p r w F→bV.p r' w F) (l.map (Tok.res cx β)) (l.map (Tok.res cx' β))
 |[]=>.nil
 |t::l=>.cons (fun F hp=>GU hl hp) (zF hl)
theorem Inv.le{w0:World}{F0:List Nat}(hl:cx.le cx')(h:Inv w0 F0 w (rs.map (Tok.res cx β)++fr)):Inv w0 F0 w (rs.map (Tok.res cx' β)++fr):=h.nS (zF hl)
theorem Inv.le2{w0:World}{F0:List Nat}{R:List bV}(hl:cx.le cx')(h:Inv w0 F0 w (R++(rs.map (Tok.res cx β)++fr))):Inv w0 F0 w (R++(rs.map (Tok.res cx' β)++fr)):=by
 have h1:Inv w0 F0 w (rs.map (Tok.res cx β)++(R++fr)):=h.perm (by
  rw[←qF,←qF];exact List.perm_append_comm.append_right fr)
 exact(h1.nS (zF hl)).perm (by
  rw[←qF,←qF];exact List.perm_append_comm.append_right fr)
theorem Inv.base{w0:World}{F0 G:List Nat}{R:List bV}(h:Inv w0 F0 w R)(hs:Sep w R G)(hG:∀b∈G,b∈F0∨w0.heap.size≤b):(Cx.mk w0 F0).le ⟨w,G⟩∧Inv w G w R:=by
 refine⟨⟨fun {w2 R2} h2=> ?_,fun {d v} h2=>h2.at_ h hG,fun {b o ds} h2=>h2.at_ h hG⟩,Inv.start hs⟩;have hsz:w0.heap.size≤w.heap.size:=h.jE.size;have h2c:ny G w w2:=h2.jE;refine⟨⟨h2.jE.os.trans h.jE.os,h2.jE.tape.trans h.jE.tape,h2.jE.output.trans h.jE.output,Nat.le_trans hsz h2.jE.size,fun b hb hn=>(h2c.other b (qW hb hsz) (fun hm=>by rcases hG b hm with h8|h8;exact hn h8;exact absurd hb (Nat.not_lt.2 h8))).trans (h.jE.other b hb hn)⟩,?_⟩;obtain⟨G2,k1,k2⟩:=h2.sep;refine⟨G2,k1,fun b hb=> ?_⟩;rcases k2 b hb with h3|h3
 ·exact hG b h3
 ·exact .inr (by have:w0.heap.size≤w.heap.size:=hsz;exact Nat.le_trans this h3)
def iW(P:Program)(f:FuncId)(args:List SV)(ts:List Tok)(r:SV)(ts':List Tok):Prop:=dA P f=true∧∀(cx:Cx) (β:Nat→Value) (w:World) (fr:List bV) (vs:List Value),Inv cx.w0 cx.F0 w (ts.map (Tok.res cx β)++fr)→aF cx β args vs→
 Calls P f vs.toArray w fun e w'=>∃v cx' β',e=.returned v∧cx.le cx'∧(∀g,10000≤g→g<10000+ts.length→β' g=β g)∧Den cx' β' r v∧Inv cx'.w0 cx'.F0 w' (ts'.map (Tok.res cx' β')++fr)
theorem eX.g{f:FuncId}{args:List SV}{ts:List Tok}{r:SV}{ts':List Tok}(h:eX P f args ts r ts'):iW P f args ts r ts':=
 ⟨h.1,fun cx β w fr vs hI hd=>(h.2 cx β w fr vs hI hd).mono fun _ _ ⟨v,β',h1,h2,h3,h4⟩=>⟨v,cx,β',h1,Cx.le.refl _,h2,h3,h4⟩⟩
theorem gD.g{f:FuncId}{args:List SV}{r:SV}(h:gD P f args r):iW P f args [] r []:=
 ⟨h.1,fun cx β w fr vs hI hd=>(h.2 cx β w fr vs hI hd).mono fun _ _ ⟨v,h1,h2,h3⟩=>⟨v,cx,β,h1,Cx.le.refl _,fun _ _ _=>rfl,h2,h3⟩⟩
theorem iW.f{f:FuncId}{args:List SV}{ts:List Tok}{r:SV}{ts':List Tok}(h:iW P f args ts r ts')(hp:(Am r&&nV ts')=true):eX P f args ts r ts':=by
 rw[qD]at hp;refine⟨h.1,fun cx β w fr vs hI hd=>(h.2 cx β w fr vs hI hd).mono fun _ w' ⟨v,cx',β',h1,hl,h2,h3,h4⟩=>⟨v,β',h1,h2,za hp.1 h3,?_⟩⟩;exact hl.inv (h4.nS (lW hp.2))
theorem iW.q{f:FuncId}{args:List SV}{r:SV}(h:iW P f args [] r [])(hp:zm r=true):gD P f args r:=by
 refine⟨h.1,fun cx β w fr vs hI hd=>(h.2 cx β w fr vs hI hd).mono fun _ w' ⟨v,cx',β',h1,hl,h2,h3,h4⟩=>⟨v,h1,?_,hl.inv h4⟩⟩;have k:=Ep (cx':=cx) hp h3;refine k.congr fun g hg=> ?_
 exfalso
 have hn:∀{l:List SV} {q:List Nat},qg l=true→dX l q=q:=by
  intro l
  induction l with
  |nil=>intro q _;rfl
  |cons v l ih=>
   intro q hq;unfold qg at hq;rw[qD]at hq;unfold dX;rw[ih hq.2];cases v<;>first|rfl|simp[zl]at hq
 cases r<;>first|(simp[SV.names]at hg;done)|(simp[zm,zl]at hp;done)|(unfold zm at hp;unfold SV.names at hg;rw[hn hp]at hg;simp at hg)
def oV(P:Program)(f:FuncId)(args:List SV)(r:SV):Prop:=dA P f=true∧∀(β:Nat→Value) (w:World) (vs:List Value),aF (Cx.now w) β args vs→
 Calls P f vs.toArray w fun e w'=>∃v,e=.returned v∧Ext w w'∧Den ⟨w',List.range w.heap.size⟩ β r v
theorem dz.sub{w:World}{F G:List Nat}{d:D}{v:Value}(h:dz w F d v)(hs:∀b∈G,b∈F):dz w G d v:=by
 obtain⟨bs,h1,h2⟩:=h;exact⟨bs,h1,fun b hb hm=>h2 b hb (hs b hm)⟩
theorem eY.sub{w:World}{F G:List Nat}{b o:Nat}{ds:List D}(h:eY w F b o ds)(hs:∀b∈G,b∈F):eY w G b o ds:=by
 obtain⟨h1,h2,us,h3,bs,h4,h5⟩:=h;exact⟨h1,fun hm=>h2 (hs b hm),us,h3,bs,h4,fun y hy hm=>h5 y hy (hs y hm)⟩
theorem oV.g(hti:fu P ti=true){f:Nat}{args:List SV}{ts:List Tok}{r:SV}(tys:List Nat)(hok:dA P f=true)(h:yU ti ts args tys fun args'=>oV P f args' r):iW P f args ts r ts:=by
 refine⟨hok,fun cx β w fr vs hI hd=> ?_⟩;obtain⟨l',h1,h2⟩:=rQ hti hI h hd;refine(h1.2 β w vs h2).mono ?_;rintro e w' ⟨v,rfl,hx,hd'⟩;obtain⟨G,hs,hG⟩:=hI.sep;have hc:ny [] w w':=ny.tO hx;have hs':Sep w' (ts.map (Tok.res cx β)++fr) G:=hs.keep ⟨hc.size,fun b hb=>hc.other b (hs.lt b hb) (by simp)⟩;obtain⟨hl,hI'⟩:=Inv.base (hI.ext hx) hs' hG;refine⟨v,⟨w',G⟩,β,rfl,hl,fun _ _ _=>rfl,?_,Inv.le hl hI'⟩;have hsub:∀b∈G,b∈List.range w.heap.size:=fun b hb=>List.mem_range.2 (hs.lt b hb)
 exact Den.imp (cx:=⟨w',List.range w.heap.size⟩) (cx':=⟨w',G⟩) (fun h=>h.sub hsub) (fun h=>h.sub hsub) hd'
theorem xV{u:U}:∀xs:List (El u),(List.flatMap (enc u) xs).length=xs.length*u.size
 |[]=>by simp
 |x::xs=>by rw[qU,qA,aV,xV xs,qI,Nat.add_mul];omega
theorem Sep.get{w:World}:∀{R:List bV} {G:List Nat} {i:Nat} {r:bV},Sep w R G→R[i]? =some r→∃F,r.p w F∧∀b∈F,b∈G
 |[],G,i,r,h,hi=>by simp at hi
 |x::R,G,0,r,⟨F,G',e,h1,h2,h3⟩,hi=>by simp at hi;subst hi;exact⟨F,h1,fun b hb=>by rw[e];exact List.mem_append_left _ hb⟩
 |x::R,G,i+1,r,⟨F,G',e,h1,h2,h3⟩,hi=>by
  obtain⟨F',k1,k2⟩:=Sep.get h2 (i:=i) (by simpa using hi);exact⟨F',k1,fun b hb=>by rw[e];exact List.mem_append_right _ (k2 b hb)⟩
section
variable {G1 G:List Nat}{ts:List Tok}
end
end
end Go.Tr
