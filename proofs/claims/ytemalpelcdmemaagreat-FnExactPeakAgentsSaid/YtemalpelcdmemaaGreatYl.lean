
/- A reduction on both sides: the states on its way. Printed by gen_yl.py. -/
import Derived.Test.YtemalpelcdmemaaGreatYk
import Derived.Test.YtemalpelcdmemaaGreatYi
import Derived.Test.YtemalpelcdmemaaGreatRn
import Derived.Test.YtemalpelcdmemaaGreatUe
set_option linter.unusedSimpArgs false
set_option linter.unusedVariables false
namespace Go.Tr
open Go Go.RowKit
def qp(tr:List Int):List Int:=tr.foldl tN (List.replicate 7 0)
theorem Cj(tr:List Int)(c:Int):qp (tr++[c])=tN (qp tr) c:=by unfold qp;rw[List.foldl_append];rfl
theorem SB{cn:List Int}{k:Nat}(h:cn.length=7∧∀z∈cn,0≤z∧z≤(k:Int))(c:Int):(tN cn c).length=7∧∀z∈tN cn c,0≤z∧z≤((k+1:Nat):Int):=by
 unfold tN;refine⟨by rw[List.length_set];exact h.1,fun z hz=> ?_⟩;rcases List.mem_or_eq_of_mem_set hz with e|e
 ·have:=h.2 z e;omega
 ·subst e
  have:0≤elt 0 cn (c-1)∧elt 0 cn (c-1)≤(k:Int):=by
   unfold elt;rw[List.getD_eq_getElem?_getD];cases hg:cn[(c-1).toNat]? with
   |none=>exact⟨Int.le_refl 0,by show(0:Int)≤k;omega⟩
   |some z=>exact h.2 z (List.mem_of_getElem? hg)
  omega
theorem LY:∀(tr:List Int) (cn:List Int) (k:Nat),(cn.length=7∧∀z∈cn,0≤z∧z≤(k:Int))→(tr.foldl tN cn).length=7∧∀z∈tr.foldl tN cn,0≤z∧z≤((k+tr.length:Nat):Int)
 |[],cn,k,h=>h
 |c::tr,cn,k,h=>by
  rw[List.foldl_cons,List.length_cons];have:=LY tr _ _ (SB h c);rw[show k+1+tr.length=k+(tr.length+1) by omega]at this;exact this
theorem Fe{tr:List Int}(h:tr.length≤100000):Io (qp tr):=by
 have:=LY tr (List.replicate 7 0) 0 ⟨rfl,fun z hz=>by rw[List.eq_of_mem_replicate hz];exact⟨Int.le_refl 0,Int.le_refl 0⟩⟩;exact⟨this.1,fun z hz=>by have:=this.2 z hz;omega⟩
def pkOf:List Int→Int
 |[]=>0
 |a::l=>l.foldl Bv a
theorem MO{l:List Int}(h:0<l.length)(n:Int):pkOf (l++[n])=Bv (pkOf l) n:=by
 cases l with
 |nil=>exact absurd h (by simp)
 |cons a l=>
  show(l++[n]).foldl Bv a=Bv (l.foldl Bv a) n;rw[List.foldl_append];rfl
theorem Ga(ys:List NAgent):∀n:Nat,(dZ ys n).length=gG ys n
 |0=>rfl
 |n+1=>by
  show(bif cB ys n then dZ ys n++[sZ (lF ys) (ah ys (n:Nat))]else dZ ys n).length=bif cB ys n then gG ys n+1 else gG ys n
  have ih:=Ga ys n;cases cB ys n
  ·exact ih
  ·simp only[cond_true,List.length_append,List.length_singleton];omega
theorem CX(ys:List NAgent):(packN ys).length=bR ys ys.length:=by
 rw[sO];exact Ga ys ys.length
def refP(al:Bool)(P:List NAgent):List NAgent:=bif al then packN P else bif decide (1200<(P.length:Int))then packN P else P
structure GSt where
 kv:List (Int×Bool)
 xs:List NAgent
 N:List NAgent
 P:List NAgent
 cn:List Int
 tr:List Int
 cu:List Int
 ex:List Int
 df:List Int
structure GOk(bk:List (List NAgent))(s:GSt):Prop where
 rs:RS s.kv s.xs s.N s.P
 lx:s.xs.length≤2400
 lp:s.P.length≤1800
 lv:s.xs.length≤s.kv.length+600
 cn:s.cn=qp s.tr
 ct:∀z∈s.tr,1≤z∧z≤7
 cu:s.cu.length=s.tr.length+1
 ex:s.ex.length≤s.tr.length
 eb:∀z∈s.ex,0≤z∧z<(bk.length:Nat)
 tr:s.tr.length≤4000
 df:s.df.filter (fun z=>decide (0≤z))=s.ex
 dl:s.df.length=s.tr.length
section
variable {bk:List (List NAgent)}{s:GSt}
theorem GOk.ref(g:GOk bk s)(al:Bool):(∃N1,RS s.kv s.xs N1 (refP al s.P))∧(refP al s.P).length≤1200:=by
 have hl:=g.rs.live;have h3:=g.lv
 have hp:(∃N1,RS s.kv s.xs N1 (packN s.P))∧(packN s.P).length≤1200:=by
  obtain⟨h1,h2⟩:=g.rs.X7;refine⟨⟨packN s.N,by rw[h2];exact h1⟩,?_⟩;rw[CX];omega
 unfold refP;cases al with
 |true=>exact hp
 |false=>
  cases hd:decide (1200<(s.P.length:Int))with
  |false=>
   refine⟨⟨s.N,g.rs⟩,?_⟩;have:¬1200<(s.P.length:Int):=by simpa using hd
   show s.P.length≤1200;omega
  |true=>exact hp
theorem GOk.Rz(g:GOk bk s)(al:Bool):(zQ s.xs s.kv).length=(prsN (refP al s.P)).length:=by
 obtain⟨⟨N1,h⟩,_⟩:=g.ref al;rw[h.Rz.1,h.Rz.2]
theorem RS.small{kv:List (Int×Bool)}{xs N P:List NAgent}(h:RS kv xs N P)(hl:P.length≤100000):NetSmall P∧bE P:=by
 obtain⟨k,z,g,T,_⟩:=h.tp;refine⟨⟨by omega,fun i=> ?_⟩,T.JN⟩;have hlen:=T.len
 by_cases hi:i<P.length
 ·cases hv:cB P i with
  |true=>
   have w:=T.Kv hi hv;have w1:=wf_data w;have w2:=(gu w).2;exact⟨by show(ah P (i:Nat)).2.2.2.1.length≤1048576;omega,by show(ah P (i:Nat)).2.2.2.2.length≤1048576;omega⟩
  |false=>
   have e:ah P (i:Nat)=Dz:=by
    rw[T.cB (by omega)]at hv
    have hg:Gone k ((i:Nat):Int):=by
     show bL false k ((i:Nat):Int)=true;cases hq:bL false k ((i:Nat):Int)with
     |true=>rfl
     |false=>rw[hq]at hv;cases hv
    exact(T.hole _ hg).2
   rw[e];decide
 ·rw[pO (by omega)];decide
end
end Go.Tr
namespace Go.Proofs.YtemalpelcdmemaaGreat
open Go Go.RowKit Go.Proofs Go.Tr
theorem RS.Vu{kv:List (Int×Bool)}{xs N P:List NAgent}(h:RS kv xs N P)(hl:P.length≤100000):vT xs kv∧Go.Proofs.YtemalpelcdmemaaGreat.BJ xs kv=packN N∧NetSmall (packN N):=by
 obtain⟨Y,f,T,r⟩:=h.tx;obtain⟨k,z,TN⟩:=h.tn;have e:Go.Proofs.YtemalpelcdmemaaGreat.BJ xs kv=packN Y:=T.pack;refine⟨Ni T,by rw[e,r.pack TN.JN],?_⟩;have F:=TN.U2;have hl2:=F.1.len;obtain⟨_,h2⟩:=h.live;have h3:=uX P P.length;have hp:(packN N).length≤100000:=by rw[CX,h2];omega
 exact Nj F.1 (by omega)
variable (al:Bool)(bk:List (List NAgent))(sch:List Int)(most:Int)
abbrev gX(s:GSt):Int×Int:=uH sch (zQ s.xs s.kv) (s.tr.length:Nat)
abbrev gQ(s:GSt):Int×Int:=uH sch (prsN (refP al s.P)) (s.tr.length:Nat)
def ZM(P:List NAgent)(Q:Int×Int)(s s':GSt):Prop:=∃c v:Int,nxC P Q.1 Q.2=c∧WW P Q.1 Q.2=v∧s'.tr=s.tr++[c]∧s'.cu=s.cu++[((bR s'.P s'.P.length:Nat):Int)]∧s'.df=s.df++[bif c==7 then v else -1]
inductive GTo:GSt→Bool→Int→GSt→Prop
 |done (s:GSt) (g:GOk bk s) (h:(prsN (refP al s.P)).length=0):GTo s true 0 s
 |most (s:GSt) (g:GOk bk s) (h:0<(prsN (refP al s.P)).length) (e:((s.tr.length:Nat):Int)=most):GTo s false 0 s
 |bad (s:GSt) (g:GOk bk s) (h:0<(prsN (refP al s.P)).length) (e:((s.tr.length:Nat):Int)<most) (code:Int) (hc:code≠0)
  (hI:FCall Tryz.prog 195 [.ptr 10000 0,vP (gX sch s)] (tU s.xs [] bk s.kv s.cn s.tr s.cu s.ex) (.int .i64 code) (tU s.xs [] bk s.kv s.cn s.tr s.cu s.ex))
  (hS:FCall Tryz.prog 97 [.rsl uNet bk,.ptr 10000 0,vP (gQ al sch s)] (tB (refP al s.P) [] (pkOf s.cu) s.tr) (.int .i64 code) (tB (refP al s.P) [] (pkOf s.cu) s.tr)) (hQ:XV (refP al s.P) (gQ al sch s)):GTo s false code s
 |next (s s':GSt) (g:GOk bk s) (h:0<(prsN (refP al s.P)).length) (e:((s.tr.length:Nat):Int)<most) (l:s'.tr.length=s.tr.length+1) {b:Bool} {c:Int} {t:GSt}
  (hI:FCall Tryz.prog 195 [.ptr 10000 0,vP (gX sch s)] (tU s.xs [] bk s.kv s.cn s.tr s.cu s.ex) (.int .i64 0) (tUn s'.xs [] bk s'.kv s'.cn s'.tr s'.cu s'.ex))
  (hS:FCall Tryz.prog 97 [.rsl uNet bk,.ptr 10000 0,vP (gQ al sch s)] (tB (refP al s.P) [] (pkOf s.cu) s.tr) (.int .i64 0) (tB2 s'.P (pkOf s'.cu) s'.tr)) (r:GTo s' b c t) (hQ:XV (refP al s.P) (gQ al sch s)) (d:ZM (refP al s.P) (gQ al sch s) s s'):GTo s b c t
variable {al bk sch most}
theorem GTo.ok{s t:GSt}{b:Bool}{c:Int}(h:GTo al bk sch most s b c t):GOk bk s:=by
 cases h with
 |done _ g=>exact g
 |most _ g=>exact g
 |bad _ g=>exact g
 |next _ _ g=>exact g
theorem GTo.end_{s t:GSt}{b:Bool}{c:Int}(h:GTo al bk sch most s b c t):GOk bk t:=by
 induction h with
 |done _ g=>exact g
 |most _ g=>exact g
 |bad _ g=>exact g
 |next _ _ _ _ _ _ _ _ _ _ _ ih=>exact ih
theorem Kh(hb:Np bk)(hsch:∀z∈sch,0≤z)(hm:most≤4000):∀(n:Nat) {s:GSt},GOk bk s→((s.tr.length:Nat):Int)≤most→most≤((s.tr.length+n:Nat):Int)→∃b c t,GTo al bk sch most s b c t
 |n,s,g,h1,h2=>by
  by_cases hp:(prsN (refP al s.P)).length=0
  ·exact⟨_,_,_,.done s g hp⟩
  have hp':0<(prsN (refP al s.P)).length:=by omega
  by_cases he:((s.tr.length:Nat):Int)=most
  ·exact⟨_,_,_,.most s g hp' he⟩
  have he':((s.tr.length:Nat):Int)<most:=by omega
  obtain⟨⟨N1,rs⟩,lp⟩:=g.ref al;have hb2:=selI_in hsch (n:=(((prsN (refP al s.P)).length:Nat):Int)) (by omega) ((s.tr.length:Nat):Int);have eX:gX sch s=elt (dflt uPort) (zQ s.xs s.kv) (OC sch (((prsN (refP al s.P)).length:Nat):Int) ((s.tr.length:Nat):Int)):=by unfold gX uH;rw[g.Rz al]
  have lx:=g.lx;have lt:=g.tr;have lcu:=g.cu;have lex:=g.ex;have hcn:=Fe (tr:=s.tr) (by omega);rw[←g.cn]at hcn;obtain⟨⟨iX,iQ⟩,st⟩:=Xu rs hb (by omega) (by omega) hb2.1 hb2.2;rw[←eX]at iX st;cases st with
  |bad code hc hI hB=>
   exact⟨_,_,_,.bad s g hp' he' code hc (MN s.xs [] bk s.kv s.cn s.tr s.cu s.ex (gX sch s) iX hc (hI [])) (Vx bk (refP al s.P) [] (pkOf s.cu) s.tr (gQ al sch s) iQ hc (hB [] _ _)) iQ⟩
  |ok x' N' P' kv' c v hc hI hB rs' l0 l1 l2 cX cQ vX vQ vb lv=>
   have hl:=rs'.live;have hli:=uX P' P'.length;have ew:IntKind.i64.wrap ((x'.length:Nat)-(kv'.length:Nat))=((bR P' P'.length:Nat):Int):=by rw[IntWalk.i64_in _ (by omega)];omega
   have hSB:=Xv bk (refP al s.P) [] (pkOf s.cu) s.tr (gQ al sch s) iQ (by omega) (by omega) cQ (hB [] _ _);rw[←MO (by omega)]at hSB
   have hex:(bif c==7 then s.ex++[v]else s.ex).length≤s.tr.length+1:=by
    cases c==7
    ·show s.ex.length≤_;omega
    ·show(s.ex++[v]).length≤_;rw[List.length_append,List.length_singleton];omega
   have heb:∀z∈(bif c==7 then s.ex++[v]else s.ex),0≤z∧z<(bk.length:Nat):=fun z hz=>by
    cases h7:c==7 with
    |false=>rw[h7]at hz;exact g.eb z hz
    |true=>
     rw[h7,cond_true,List.mem_append,List.mem_singleton]at hz;rcases hz with hz|rfl
     ·exact g.eb z hz
     ·exact vb (by simpa using h7)
   have hct:∀z∈s.tr++[c],1≤z∧z≤7:=fun z hz=>by
    rw[List.mem_append,List.mem_singleton]at hz;rcases hz with hz|rfl
    ·exact g.ct z hz
    ·exact hc
   have hln:(s.tr++[c]).length=s.tr.length+1:=by rw[List.length_append,List.length_singleton]
   have hlc:(s.cu++[((bR P' P'.length:Nat):Int)]).length=(s.tr++[c]).length+1:=by rw[List.length_append,List.length_singleton,hln];omega
   have hdf:(s.df++[bif c==7 then v else -1]).filter (fun z=>decide (0≤z))=bif c==7 then s.ex++[v]else s.ex:=by
    rw[List.filter_append,g.df];cases h7:c==7 with
    |false=>show s.ex++[(-1:Int)].filter (fun z=>decide (0≤z))=s.ex;simp
    |true=>
     have:=vb (by simpa using h7);show s.ex++[v].filter (fun z=>decide (0≤z))=s.ex++[v];simp[this.1]
   have hdl:(s.df++[bif c==7 then v else -1]).length=(s.tr++[c]).length:=by rw[List.length_append,List.length_singleton,hln,g.dl]
   have hC:nxC (refP al s.P) (gQ al sch s).1 (gQ al sch s).2=c:=by unfold nxC;rw[qR];exact cQ
   match n with
   |0=>omega
   |n+1=>
    by_cases hbig:2400<x'.length
    ·obtain⟨sx,ex,sn⟩:=RS.Vu rs' (by omega);have hP:=KS s.xs [] bk s.kv s.cn s.tr s.cu s.ex (gX sch s) iX (by omega) hbig sx (by rw[ex];exact sn) hc cX vX hcn (by omega) (by omega) (by omega) (hI []);rw[ex,ew]at hP
     have g':GOk bk ⟨[],packN N',packN N',P',tN s.cn c,s.tr++[c],s.cu++[((bR P' P'.length:Nat):Int)],bif c==7 then s.ex++[v]else s.ex,s.df++[bif c==7 then v else -1]⟩:=by
      have hpl:(packN N').length≤600:=by rw[CX,hl.2];omega
      exact⟨rs'.Zas.1,by show(packN N').length≤2400;omega,by show P'.length≤1800;omega,by show(packN N').length≤([]:List (Int×Bool)).length+600;rw[List.length_nil];omega,by show tN s.cn c=qp (s.tr++[c]);rw[Cj,g.cn],hct,hlc,by rw[hln];exact hex,heb,by rw[hln];omega,hdf,hdl⟩
     obtain⟨b,cd,t,r⟩:=Kh hb hsch hm n g' (by show(((s.tr++[c]).length:Nat):Int)≤most;rw[hln];omega) (by show most≤(((s.tr++[c]).length+n:Nat):Int);rw[hln];omega);exact⟨b,cd,t,.next s _ g hp' he' hln hP hSB r iQ ⟨c,v,hC,vQ,rfl,rfl,rfl⟩⟩
    ·have hP:=KO s.xs [] bk s.kv s.cn s.tr s.cu s.ex (gX sch s) iX (by omega) (by omega) hc cX vX hcn (by omega) (by omega) (by omega) (hI []);rw[ew]at hP
     have g':GOk bk ⟨kv',x',N',P',tN s.cn c,s.tr++[c],s.cu++[((bR P' P'.length:Nat):Int)],bif c==7 then s.ex++[v]else s.ex,s.df++[bif c==7 then v else -1]⟩:=
      ⟨rs',by show x'.length≤2400;omega,by show P'.length≤1800;omega,lv,by show tN s.cn c=qp (s.tr++[c]);rw[Cj,g.cn],hct,hlc,by rw[hln];exact hex,heb,by rw[hln];omega,hdf,hdl⟩
     obtain⟨b,cd,t,r⟩:=Kh hb hsch hm n g' (by show(((s.tr++[c]).length:Nat):Int)≤most;rw[hln];omega) (by show most≤(((s.tr++[c]).length+n:Nat):Int);rw[hln];omega);exact⟨b,cd,t,.next s _ g hp' he' hln hP hSB r iQ ⟨c,v,hC,vQ,rfl,rfl,rfl⟩⟩
end Go.Proofs.YtemalpelcdmemaaGreat
