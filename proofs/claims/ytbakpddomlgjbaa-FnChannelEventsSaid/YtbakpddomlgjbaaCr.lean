
/- Channels: an event by the program; lists of events, of texts. -/
import Derived.Test.YtbakpddomlgjbaaCq
set_option linter.unusedSimpArgs false
set_option linter.unusedVariables false
namespace Go.Tr
open Go Go.RowKit
theorem au.SS{P:Program}{f:FuncId}{args:List SV}{a b:Tok}{g t s:Nat}{u:U}{xs:List (El u)}{us:aO}{rest:List Tok}{r:SV}{ts':List Tok}(hf:dh u=true)(h:au P f args (a::b:: .suf g t s u xs::rest) r ts'):au P f args (a::b:: .row g t s u xs us::rest) r ts':=by
 refine⟨h.1,fun cx β w fr vs hI hd=> ?_⟩
 have p1:(a::b::Tok.row g t s u xs us::rest).Perm (.row g t s u xs us::a::b::rest):=by
  refine List.Perm.trans ((List.Perm.swap _ _ _).cons a) (List.Perm.swap _ _ _)
 have p2:(Tok.suf g t s u xs::a::b::rest).Perm (a::b:: .suf g t s u xs::rest):=by
  refine List.Perm.trans (List.Perm.swap _ _ _) ((List.Perm.swap _ _ _).cons a)
 have h1:=zM (.inr ⟨us,hf,p1⟩) hI;exact h.2 cx β w fr vs (h1.bT p2) hd
end Go.Tr
namespace Go.Proofs.Ytbakpddomlgjbaa
open Go Go.RowKit Go.Proofs Go.Tr
theorem KT:aU Try.prog 27=true:=by kernel_rfl
set_option maxRecDepth 100000 in
theorem ixE(L:List fE)(e:fE)(hl:L.length<=1000000)(i0:Nat)(h0:i0<L.length)(h1:L[i0]=e)(h2:∀j (hj:j<L.length),j<i0->L[j]≠e):aB Try.prog 57 [.rsl bM L,.agg [.int .i64 e.1,.int .i64 e.2]] (.int .i64 (i0:Nat)):=by
 refine aB.intro (nt:=19) aC mixed (by kernel_rfl) Try.func57 rfl rfl rfl rfl rfl ?_;refine lp Nat (fun i=>[(8,.int .i64 (i:Nat))]) (fun _=>[.bQ 3 33 [.int .i64 e.1,.int .i64 e.2]]) (fun i=>L.length-i) (fun i=>i<=i0) 0 (Nat.zero_le _) ?_ ?_
 .exact Go.Tr.hd [] rfl (aI (aI rfl rfl) trivial) (aI trivial (aI ah trivial))
 intro i hi;have hi:i<=i0:=hi;have hlt:i<L.length:=by omega
 have he:elt (dflt bM) L ((i:Nat):Int)=L[i]:=by
  unfold elt;rw[qC,qK,qB hlt];rfl
 refine aI (fun q1=> ?_) (fun q1=> ?_)
 .have hi3:(0:Int)<=((i:Nat):Int)/\((i:Nat):Int)<(L.length:Nat):=⟨by omega,by omega⟩;refine aI hi3 ?_;refine aI ⟨by kernel_rfl,rfl⟩ ?_;refine aI (by kernel_rfl) ?_;refine aI (fun q2=> ?_) (fun q2=> ?_)
  .have q3:bX [e.1,e.2] [(elt (dflt bM) L ((i:Nat):Int)).1,(elt (dflt bM) L ((i:Nat):Int)).2]=true:=q2;rw[he]at q3
   have hie:i=i0:=by
    rcases Nat.lt_or_ge i i0 with hh|hh
    .exfalso;simp[bX]at q3;exact h2 i hlt hh (Prod.ext q3.1.symm q3.2.symm)
    .omega
   subst hie;exact⟨rfl,rfl⟩
  .have q3:bX [e.1,e.2] [(elt (dflt bM) L ((i:Nat):Int)).1,(elt (dflt bM) L ((i:Nat):Int)).2]=false:=q2;rw[he]at q3
   have hie:i≠i0:=fun h=>by
    subst h;rw[h1]at q3;simp[bX]at q3
   refine aF (i+1) (by show i+1<=i0;omega) ?_ (by show L.length-(i+1)<L.length-i;omega);exact Go.Tr.hd [] rfl (aI (aI (iM (by omega)) rfl) trivial) (aI trivial (aI ah trivial))
 .exfalso;have hge:L.length<=i:=Gf q1;omega
theorem coE(L:List fE)(e:fE)(hl:L.length<=1000000)(he:e∈L):aB Try.prog 27 [.rsl bM L,.agg [.int .i64 e.1,.int .i64 e.2]] (.bool true):=by
 have h0:L.findIdx (fun x=>decide (x=e))<L.length:=List.findIdx_lt_length_of_exists ⟨e,he,by simp⟩;have h1:=List.findIdx_getElem (w:=h0)
 have h2:∀j (hj:j<L.length),j<L.findIdx (fun x=>decide (x=e))->L[j]≠e:=fun j hj hlt=>by
  have:=List.not_of_lt_findIdx hlt;simpa using this
 refine aB.intro (nt:=9) aC mixed KT Try.func27 rfl rfl rfl rfl rfl ?_;refine oZ (ixE L e hl _ h0 (by simpa using h1) h2) ?_;show decide ((0:Int)<=((L.findIdx (fun x=>decide (x=e)):Nat):Int))=true;exact decide_eq_true (by omega)
theorem RQ(a b:List ByteArray)(h:a<+:b)(hb:b.length<=1000000):aB Try.prog 12 [.rsl .str a,.rsl .str b] (.bool true):=by
 have hl:=h.length_le;refine aB.intro (nt:=26) aC mixed (by kernel_rfl) Try.func12 rfl rfl rfl rfl rfl ?_;refine aI (fun q=> ?_) (fun _=> ?_)
 .exfalso;have q':decide (((b.length:Nat):Int)<(a.length:Nat))=true:=q;have:=of_decide_eq_true q';omega
 refine lp Nat (fun i=>[(5,.int .i64 (i:Nat))]) (fun _=>[]) (fun i=>a.length-i) (fun i=>i<=a.length) 0 (Nat.zero_le _) ?_ ?_
 .exact Go.Tr.hd [] rfl (aI (aI rfl rfl) trivial) trivial
 intro i hi;refine aI (fun q1=> ?_) (fun q1=> ?_)
 .have hlt:i<a.length:=sQ q1;have hi3:(0:Int)<=((i:Nat):Int)/\((i:Nat):Int)<(a.length:Nat):=⟨by omega,by omega⟩;have hi4:(0:Int)<=((i:Nat):Int)/\((i:Nat):Int)<(b.length:Nat):=⟨by omega,by omega⟩;refine aI hi3 ?_;refine aI hi4 ?_;refine aI (by kernel_rfl) ?_;refine aI (fun q2=> ?_) (fun _=> ?_)
  .exfalso;have q3:(!decide (elt (dflt .str) a ((i:Nat):Int)=elt (dflt .str) b ((i:Nat):Int)))=true:=q2
   have e1:elt (dflt .str) a ((i:Nat):Int)=elt (dflt .str) b ((i:Nat):Int):=by
    unfold elt;obtain⟨c,rfl⟩:=h;rw[qC,qC,qK,qM hlt]
   rw[e1,decide_eq_true rfl]at q3;cases q3
  refine aF (i+1) hlt ?_ (by show a.length-(i+1)<a.length-i;omega);exact Go.Tr.hd [] rfl (aI (aI (iM (by omega)) rfl) trivial) trivial
 .exact rfl
section
variable {ms:List ByteArray}{s:eB}
theorem Nh(h:aW ms s):aB Try.prog 10 [yt (toN ms s)] (.bool true):=by
 refine aB.intro (nt:=4) aC mixed (by kernel_rfl) Try.func10 rfl rfl rfl rfl rfl ?_;refine oY (au.mo aC [55] sU (vk h) rfl) ?_;exact rfl
theorem Db(h:aW ms s):au Try.prog 24 [.ptr 10000 0] [.bQ 10000 27 (Er (toN ms s))] (.sl 10001) ([.row 10001 33 2 bM (evs ms.length s) []]++[.bQ 10000 27 (Er (toN ms s))]):=
 au.BU (ts2:=[.row 10001 33 2 bM (evs ms.length s) []]) aC [55] MH (OJ h) rfl rfl rfl
theorem F4(h:aW ms s):au Try.prog 26 [.ptr 10000 0] [.bQ 10000 27 (Er (toN ms s))] (.sl 10001) ([.row 10001 33 2 bM (evs ms.length s) []]++[.bQ 10000 27 (Er (toN ms s))]):=
 au.BU (ts2:=[.row 10001 33 2 bM (evs ms.length s) []]) aC [55] MI (OL h) rfl rfl rfl
theorem Ot(h:aW ms s):au Try.prog 7 [yt (toN ms s)] [] (.tup [.sl 10000,.int .i64 0]) [.row 10000 33 2 bM (evs ms.length s) []]:=by
 refine au.intro (nt:=8) aC mixed (by kernel_rfl) Try.func7 rfl rfl rfl rfl rfl rfl ?_;refine oZ (mG h) ?_;refine aI (fun q=>by cases q) (fun _=> ?_);refine oY (Db h) ?_;refine fin [(10000,7)] (aI rfl ?_);exact⟨⟨rfl,nP⟩,trivial⟩
theorem Ou(h:aW ms s):au Try.prog 8 [yt (toN ms s)] [] (.tup [.sl 10000,.int .i64 0]) [.row 10000 33 2 bM (evs ms.length s) []]:=by
 refine au.intro (nt:=7) aC mixed (by kernel_rfl) Try.func8 rfl rfl rfl rfl rfl rfl ?_;refine oY (au.mo aC [55] sU (vk h) rfl) ?_;refine aI (fun q=>by cases q) (fun _=> ?_);refine oY (F4 h) ?_;refine fin [(10000,6)] (aI rfl ?_);exact⟨⟨rfl,nP⟩,trivial⟩
theorem lZ(h:aW ms s):au Try.prog 28 [.agg (oO 10000 10001 10002 10003 ms s)] [rT 10000 ms,rK 10001 (s.ks.map (bV ms)),rT 10002 (ms.take s.e),rP 10003 (s.fl.map (bC ms))] (.agg (oO 10004 10005 10006 10007 ms s)) ([rT 10004 ms,rP 10005 (s.ks.map (bV ms)),rT 10006 (ms.take s.e),rP 10007 (s.fl.map (bC ms))]++[rT 10000 ms,rK 10001 (s.ks.map (bV ms)),rT 10002 (ms.take s.e),rP 10003 (s.fl.map (bC ms))]):=
 au.BU aC [0] KU (CW h) rfl rfl rfl
set_option maxRecDepth 100000 in
theorem OG(h:aW ms s){ev:fE}(hm:ev∈evs ms.length s):au Try.prog 9 [yt (toN ms s),.agg [.int .i64 ev.1,.int .i64 ev.2]] [] (.tup [.agg (oO 10000 10001 10002 10003 ms (bJ s ev)),.int .i64 0]) [rT 10000 ms,rP 10001 ((bJ s ev).ks.map (bV ms)),rT 10002 (ms.take (bJ s ev).e),rP 10003 ((bJ s ev).fl.map (bC ms))]:=by
 have he:=ak _ hm;have hl:=Dc h;refine au.intro (nt:=24) aC mixed (by kernel_rfl) Try.func9 rfl rfl rfl rfl rfl rfl ?_;refine oZ (mG h) ?_;refine aI (fun q=>by cases q) (fun _=> ?_);refine oY (Db h) ?_;refine oY (au.mo aC [29,0] KT (coE _ ev (by omega) hm) rfl) ?_;refine aI (by kernel_rfl) ?_;refine aI (fun q=>by cases q) (fun _=> ?_);refine oY (CW h) ?_;refine oY (au.SS (us:=[]) rfl (Gm h he)) ?_;refine oY (lZ (l8 h he).1) ?_;refine fin [(10000,23),(10001,1000023),(10002,2000023),(10003,3000023)] (aI rfl ?_);exact⟨⟨rfl,nP⟩,⟨rfl,nP⟩,⟨rfl,nP⟩,⟨rfl,nP⟩,trivial⟩
end
end Go.Proofs.Ytbakpddomlgjbaa
