
/- Rounds of a reduction on both sides: the states on the way. -/
import Derived.Test.YtcjhkgfmklgikaaGreatShort
import Derived.Test.YtcjhkgfmklgikaaGreatYu
import Derived.Test.YtcjhkgfmklgikaaGreatYr
set_option linter.unusedSimpArgs false
set_option linter.unusedVariables false
namespace Go.Tr
open Go Go.RowKit
structure QSt where
 kv:List (Int×Bool)
 xs:List aj
 Y:List aj
 cn:List Int
 tr:List Int
 pk:Int
structure QOk(bk:List (List aj))(s:QSt):Prop where
 tw:Twin s.kv s.xs s.Y
 wx:yI (fun _=>False) s.xs
 lx:s.xs.length≤400000
 lv:s.xs.length≤s.kv.length+600
 cn:s.cn=Zab s.tr
 ct:∀z∈s.tr,1≤z∧z≤7
 tr:s.tr.length≤5000
abbrev rnd(s:QSt):QSt:=⟨[],mI s.Y,mI s.Y,s.cn,s.tr,s.pk⟩
abbrev rPr(s:QSt):List (Int×Int):=kH (mI s.Y)
section
variable {bk:List (List aj)}{s:QSt}
theorem QOk.live(g:QOk bk s):(mI s.Y).length≤600:=by
 have h1:=g.tw.live;have h2:=g.lv;rw[Zay];omega
theorem QOk.rnd(g:QOk bk s):QOk bk (rnd s):=by
 have hl:=g.live;have F:=g.tw.XJ;exact⟨F.1,F.1.Z5,by show(mI s.Y).length≤_;omega,by show(mI s.Y).length≤([]:List (Int×Bool)).length+600;rw[qR];omega,g.cn,g.ct,g.tr⟩
theorem QOk.ZaF(g:QOk bk s):WU s.xs s.kv=kH s.Y∧(kH s.Y).length=(rPr s).length:=by
 have F:=g.tw.XJ;refine⟨g.tw.acts,?_⟩;rw[F.1.ZbL F.2,qV]
theorem Zbr(ys:List aj):(kH ys).Pairwise fun p q=>p.1≠q.1:=by
 unfold kH sP;rw[List.pairwise_map];refine(List.Pairwise.filter _ (List.nodup_range (n:=ys.length))).imp fun {a b} h e=> ?_
 have e2:((a:Nat):Int)=((b:Nat):Int):=e;exact h (by omega)
end
end Go.Tr
namespace Go.Proofs.YtcjhkgfmklgikaaGreat
open Go Go.RowKit Go.Proofs Go.Tr
variable (bk:List (List aj))(most:Int)
inductive ITo:List (Int×Int)→QSt→Int→QSt→Prop
 |done (s:QSt) (g:QOk bk s):ITo [] s 0 s
 |bad (p:Int×Int) (l:List (Int×Int)) (s:QSt) (g:QOk bk s) (iX:ZU s.xs p) (code:Int) (hc:code≠0)
  (hI:aA Tryz.prog 38 [.ptr 10000 0,vP p] (tW s.xs [] bk s.kv) (.int .i64 code) (tW s.xs [] bk s.kv))
  (hS:aA Tryz.prog 30 [.rsl bO bk,.ptr 10000 0,vP p] (tB s.Y [] s.pk s.tr) (.int .i64 code) (tB s.Y [] s.pk s.tr)):ITo (p::l) s code s
 |next (p:Int×Int) (l:List (Int×Int)) (s s':QSt) (g:QOk bk s) (iX:ZU s.xs p) (k:Int) (hk:1≤k∧k≤7) (cX:(bJ (ah s.xs p.1) (ah s.xs p.2)).1=k) (eT:s'.tr=s.tr++[k]) (eC:s'.cn=Zaf s.cn k) {c:Int} {t:QSt}
  (hI:aA Tryz.prog 38 [.ptr 10000 0,vP p] (tW s.xs [] bk s.kv) (.int .i64 0) (RV 10003 s'.xs [] bk s'.kv))
  (hS:aA Tryz.prog 30 [.rsl bO bk,.ptr 10000 0,vP p] (tB s.Y [] s.pk s.tr) (.int .i64 0) (tB2 s'.Y s'.pk s'.tr)) (r:ITo l s' c t):ITo (p::l) s c t
inductive OTo:QSt→Nat→Int→QSt→Nat→Prop
 |done (s:QSt) (k:Nat) (g:QOk bk s) (h:(rPr s).length=0):OTo s k 0 s k
 |full (s:QSt) (k:Nat) (g:QOk bk s) (h:0<(rPr s).length) (e:most<((s.tr.length:Nat):Int)+((rPr s).length:Nat)):OTo s k 12 s k
 |bad (s t:QSt) (k:Nat) (g:QOk bk s) (h:0<(rPr s).length) (e:((s.tr.length:Nat):Int)+((rPr s).length:Nat)≤most) (c:Int) (hc:c≠0) (I:ITo bk (rPr s) (rnd s) c t):OTo s k c t k
 |next (s s':QSt) (k:Nat) (g:QOk bk s) (h:0<(rPr s).length) (e:((s.tr.length:Nat):Int)+((rPr s).length:Nat)≤most) (I:ITo bk (rPr s) (rnd s) 0 s') (l:s.tr.length<s'.tr.length) (hk:k≤s.tr.length) {c:Int} {t:QSt} {m:Nat} (r:OTo s' (k+1) c t m):OTo s k c t m
variable {bk most}
theorem ITo.ok{l:List (Int×Int)}{s t:QSt}{c:Int}(h:ITo bk l s c t):QOk bk s:=by
 cases h with
 |done _ g=>exact g
 |bad _ _ _ g=>exact g
 |next _ _ _ _ g=>exact g
theorem OTo.ok{s t:QSt}{k m:Nat}{c:Int}(h:OTo bk most s k c t m):QOk bk s:=by
 cases h with
 |done _ _ g=>exact g
 |full _ _ g=>exact g
 |bad _ _ _ g=>exact g
 |next _ _ _ g=>exact g
theorem OTo.end_{s t:QSt}{k m:Nat}{c:Int}(h:OTo bk most s k c t m)(hc:c=0):QOk bk t:=by
 induction h with
 |done _ _ g=>exact g
 |full _ _ g=>exact g
 |bad _ _ _ g _ _ _ hc2=>exact absurd hc hc2
 |next _ _ _ _ _ _ _ _ _ _ ih=>exact ih hc
theorem Za9(hb:Kg bk):∀(l:List (Int×Int)) {s:QSt},QOk bk s→(∀p∈l,p∈kH s.Y)→(l.Pairwise fun p q=>p.1≠q.1)→s.xs.length+600*l.length≤400000→s.tr.length+l.length≤5000→
  ∃c t,ITo bk l s c t∧(c=0→QOk bk t∧t.tr.length=s.tr.length+l.length)
 |[],s,g,_,_,_,_=>⟨_,_,.done s g,fun _=>⟨g,rfl⟩⟩
 |(a,b)::l,s,g,hm,hd,h1,h2=>by
  rw[qI]at h1 h2;have T:=g.tw;have m0:=hm (a,b) (List.mem_cons_self ..);obtain⟨kp,ra,rb,_⟩:=T.Rq m0;have hlen:=T.len;have iX:ZU s.xs (a,b):=⟨⟨kp.px.1,kp.px.2.1⟩,kp.py.1,kp.py.2.1⟩
  have iY:ZU s.Y (a,b):=by
   have:=kp.px.2.1;have:=kp.py.2.1;exact⟨⟨kp.px.1,by show a<_;omega⟩,kp.py.1,by show b<_;omega⟩
  cases ZaE T kp ra rb hb (by have:=g.lx;omega)with
  |bad code hc _ hI hB=>
   exact⟨_,_,.bad (a,b) l s g iX code hc (hI []) (Zbn bk s.Y [] s.pk s.tr (a,b) iY hc (hB [] _ _)),fun e=>absurd e hc⟩
  |ok x' kv' _ nx hI hB tw l0 l1 wl lv=>
   have wa:=T.wf a kp.px.1 kp.px.2.1 kp.lx;have wb:=T.wf b kp.py.1 kp.py.2.1 kp.ly;have ce:=Ce wa wb ra rb;have ea:=T.at_ kp.px.1 kp.px.2.1 kp.lx;have eb:=T.at_ kp.py.1 kp.py.2.1 kp.ly;have cY:bF (ah s.Y a) (ah s.Y b)=Sn s.Y a b:=by unfold Sn;rw[oV]
   have cX:(bJ (ah s.xs a) (ah s.xs b)).1=Sn s.Y a b:=by rw[ce.1,oV,←ea,←eb,cY]
   have hl2:(MX bk s.Y a b).length≤1000000:=by rw[←tw.len];omega
   have ht2:s.tr.length≤100000:=by omega
   have hS:=Zby bk s.Y [] s.pk s.tr (a,b) iY (P':=MX bk s.Y a b) hl2 ht2 cY (hB [] _ _)
   have g':QOk bk ⟨kv',x',MX bk s.Y a b,Zaf s.cn (Sn s.Y a b),s.tr++[Sn s.Y a b],G5 s.pk ((dh (MX bk s.Y a b) (MX bk s.Y a b).length:Nat):Int)⟩:=by
    refine⟨tw,wl g.wx,by show x'.length≤_;omega,lv,by show Zaf s.cn _=Zab (s.tr++[_]);rw[Zav,g.cn],fun z hz=> ?_,by show(s.tr++[_]).length≤_;rw[qA,qJ];omega⟩;have hz':z∈s.tr++[Sn s.Y a b]:=hz;rw[qT,qX]at hz';rcases hz' with hz'|rfl
    ·exact g.ct z hz'
    ·exact nx.hc
   rw[List.pairwise_cons]at hd;obtain⟨c,t,I,hE⟩:=Za9 hb l g' (fun p hp=>T.Zbl hb.toBkW m0 nx (hm p (List.mem_cons_of_mem _ hp)) (fun e=>hd.1 p hp e.symm)) hd.2 (by show x'.length+600*l.length≤_;omega) (by show(s.tr++[_]).length+l.length≤_;rw[qA,qJ];omega);refine⟨c,t,.next (a,b) l s _ g iX _ nx.hc cX rfl rfl (hI []) hS I,fun e=> ?_⟩;obtain⟨e1,e2⟩:=hE e;refine⟨e1,?_⟩;rw[e2,qI];show(s.tr++[_]).length+l.length=_;rw[qA,qJ];omega
theorem Zbi(hb:Kg bk)(hm:most≤4000):∀(n:Nat) {s:QSt} (k:Nat),QOk bk s→k≤s.tr.length→4001≤s.tr.length+n→∃c t m,OTo bk most s k c t m
 |n,s,k,g,h0,h2=>by
  by_cases hp:(rPr s).length=0
  ·exact⟨_,_,_,.done s k g hp⟩
  have hp':0<(rPr s).length:=by omega
  by_cases he:most<((s.tr.length:Nat):Int)+((rPr s).length:Nat)
  ·exact⟨_,_,_,.full s k g hp' he⟩
  have hlp:=Yx (mI s.Y);have hll:=g.live;obtain⟨c,t,I,hE⟩:=Za9 hb (rPr s) g.rnd (fun p hp=>hp) (Zbr _) (by show(mI s.Y).length+600*(kH (mI s.Y)).length≤_;omega) (by show s.tr.length+(kH (mI s.Y)).length≤_;omega)
  by_cases hc:c=0
  ·subst hc;obtain⟨g',el⟩:=hE rfl;have el':t.tr.length=s.tr.length+(rPr s).length:=el
   match n with
   |0=>omega
   |n+1=>
    obtain⟨c,u,m,r⟩:=Zbi hb hm n (k+1) g' (by omega) (by omega);exact⟨c,u,m,.next s t k g hp' (by omega) I (by omega) h0 r⟩
  ·exact⟨c,t,k,.bad s t k g hp' (by omega) c hc I⟩
end Go.Proofs.YtcjhkgfmklgikaaGreat
