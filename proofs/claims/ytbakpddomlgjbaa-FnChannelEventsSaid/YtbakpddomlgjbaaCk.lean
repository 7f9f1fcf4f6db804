
/- Channels: sending, delivering, what happens; the program. -/
import Derived.Test.YtbakpddomlgjbaaCj
set_option maxRecDepth 100000
set_option linter.unusedSimpArgs false
set_option linter.unusedVariables false
namespace Go.Proofs.Ytbakpddomlgjbaa
open Go Go.RowKit Go.Proofs Go.Tr
def lS:Nat->List Nat->Nat×List Nat
 |e,[]=>(e,[])
 |e,k::l=>if k=e then lS (e+1) l else(e,k::l)
def ins(ks:List Nat)(N:Nat):List Nat:=ks.take (jm ks N)++[N]++ks.drop (jm ks N)
def jD(s:eB)(k:Nat):eB:=if k=s.e then { s with e:=(lS (s.e+1) s.ks).1,ks:=(lS (s.e+1) s.ks).2}else if s.e<k then(if k∈s.ks then s else { s with ks:=ins s.ks k})else s
def rcv(s:eB)(k:Nat):eB:={ jD s k with fl:=(jD s k).fl++[(true,(jD s k).e)]}
def arr(s:eB)(p:Bool×Nat):eB:=if p.1 then { s with b:=max s.b p.2}else rcv s p.2
abbrev tI(k d f:Nat)(ms:List ByteArray)(s:eB):List Tok:=[.bQ 10000 27 (oO 10001 k d f ms s),rT 10001 ms,rK k (s.ks.map (bV ms)),rT d (ms.take s.e),rP f (s.fl.map (bC ms))]
section
variable {ms:List ByteArray}{s:eB}
theorem K9(k:Nat)(hk:k<ms.length)(hf:s.fl.length<=1000):au Try.prog 60 [.ptr 10000 0,.int .i64 (k:Nat)] (tI 10002 10003 10004 ms s) (.tup []) (tI 10002 10003 10005 ms { s with fl:=s.fl++[(false,k)]}):=by
 refine au.intro (nt:=22) aC mixed (by kernel_rfl) Try.func60 rfl rfl rfl rfl rfl rfl ?_;refine aI (show(0:Int)<=((k:Nat):Int)/\((k:Nat):Int)<(ms.length:Nat) by omega) ?_;refine aI (by show(s.fl.map (bC ms)).length+1<=1073741824;rw[qV];omega) ?_;refine aI (by kernel_rfl) ?_;refine fin [(10005,19)] (aI rfl ?_);refine⟨trivial,ah,⟨rfl,nP⟩,rfl,⟨rfl,nP⟩,⟨?_,nP⟩,trivial⟩;show s.fl.map (bC ms)++[(false,((k:Nat):Int),elt (dflt .str) ms ((k:Nat):Int))]=(s.fl++[(false,k)]).map (bC ms);rw[qZ];rfl
theorem wo{k:Nat}(hk:k<ms.length):ms.take k++[txt ms k]=ms.take (k+1):=by
 rw[List.take_succ_eq_append_getElem hk];unfold txt elt;rw[qC,qK,qB hk];rfl
theorem FL(he:s.e<ms.length)(hm:ms.length<=1000):au Try.prog 73 [.ptr 10000 0,.raw (.string (txt ms s.e))] (tI 10002 10003 10004 ms s) (.tup []) (tI 10002 10005 10004 ms { s with e:=s.e+1}):=by
 refine au.intro (nt:=21) aC mixed (by kernel_rfl) Try.func73 rfl rfl rfl rfl rfl rfl ?_;refine aI (by show(ms.take s.e).length+1<=1073741824;rw[List.length_take];omega) ?_;refine fin [(10005,11)] (aI rfl ?_);refine⟨trivial,⟨⟨rfl,rfl⟩,rfl,⟨rfl,rfl⟩,⟨rfl,rfl⟩,⟨iM (by omega),rfl⟩,rfl,rfl,rfl,trivial⟩,⟨rfl,nP⟩,rfl,⟨?_,nP⟩,⟨rfl,nP⟩,trivial⟩;exact wo he
structure uI(n e:Nat)(l:List Nat):Prop where
 p:List.Pairwise (· < ·) l
 m:∀k∈l,e<=k/\k<n
theorem uI.tail{n e k:Nat}{l:aG}(h:uI n e (k::l))(he:k=e):uI n (e+1) l:=by
 have h1:=List.pairwise_cons.1 h.p;exact⟨h1.2,fun x hx=>⟨by have:=h1.1 x hx;omega,(h.m x (by simp[hx])).2⟩⟩
theorem FN{n:Nat}:∀{l:aG} {e:Nat},uI n e l->e<=n->(lS e l).1<=n/\e<=(lS e l).1/\List.Pairwise (· < ·) (lS e l).2/\(∀k∈(lS e l).2,(lS e l).1<k/\k<n)/\(lS e l).2.length<=l.length
 |[],e,_,h=>⟨h,Nat.le_refl _,.nil,by simp[lS],Nat.le_refl _⟩
 |k::l,e,h,he=>by
  unfold lS
  by_cases hk:k=e
  .rw[if_pos hk];have hkn:=(h.m k (by simp)).2;obtain⟨h1,h2,h3,h4,h5⟩:=FN (h.tail hk) (by omega);exact⟨h1,by omega,h3,h4,by simp;omega⟩
  .rw[if_neg hk];have h1:=List.pairwise_cons.1 h.p;have h2:=h.m k (by simp);refine⟨he,Nat.le_refl _,h.p,fun x hx=> ?_,Nat.le_refl _⟩;rcases List.mem_cons.1 hx with rfl|hx
   .exact⟨by omega,h2.2⟩
   .have:=h1.1 x hx;exact⟨by omega,(h.m x (by simp[hx])).2⟩
theorem JC(k:Nat):(ins s.ks k).map (bV ms)=(s.ks.map (bV ms)).take (jm s.ks k)++[bC ms (false,k)]++(s.ks.map (bV ms)).drop (jm s.ks k):=by
 unfold ins;rw[qZ,qZ,List.map_take,List.map_drop];rfl
theorem J3(ks:aG)(k:Nat):jm ks k<=ks.length:=by
 unfold jm;exact List.Sublist.length_le (List.takeWhile_sublist _)
set_option maxHeartbeats 4000000 in
theorem Rv(h:aW ms s)(p:Bool×Nat)(hp:Bq s p):au Try.prog 62 [.ptr 10000 0,I8 (bC ms p)] (tI 10002 10003 10004 ms s) (.tup []) (tI 10005 10006 10007 ms (arr s p)):=by
 have h1:=h.be;have h2:=h.en;have h3:=h.nm;have h4:=h.nw;have h5:=h.m30;have h6:=h.w8;have h8:=h.fl60;have hkl:=jP h;have hfl:(s.fl.map (bC ms)).length=s.fl.length:=qV _;obtain⟨a,k⟩:=p;refine au.intro (nt:=112) aC mixed (by kernel_rfl) Try.func62 rfl rfl rfl rfl rfl rfl ?_;cases a with
 |true=>
  have hk:k<=s.e:=hp.1 rfl;refine aI (fun _=> ?_) (fun q=>by cases q);refine aI (by kernel_rfl) ?_;refine fin [(10005,10002),(10006,10003),(10007,10004)] (aI rfl ?_);refine⟨trivial,⟨⟨rfl,rfl⟩,rfl,⟨?_,rfl⟩,⟨rfl,rfl⟩,⟨rfl,rfl⟩,rfl,rfl,rfl,trivial⟩,⟨rfl,nP⟩,rfl,⟨rfl,nP⟩,⟨rfl,nP⟩,trivial⟩;show max ((s.b:Nat):Int) ((k:Nat):Int)=((max s.b k:Nat):Int);omega
 |false=>
  have hk:k<s.n:=hp.2 rfl;refine aI (fun q=>by cases q) (fun _=> ?_);refine aI (by kernel_rfl) ?_;rcases Nat.lt_trichotomy k s.e with hlt|heq|hgt
  .refine aI (fun q=> ?_) (fun _=> ?_)
   .exfalso;have q':(((k:Nat):Int)==((s.e:Nat):Int))=true:=q;have:=eq_of_beq q';omega
   refine aI (by kernel_rfl) ?_;refine aI (fun q=> ?_) (fun _=> ?_)
   .exfalso;have q':decide (((s.e:Nat):Int)<((k:Nat):Int))=true:=q;have:=of_decide_eq_true q';omega
   refine aI (by show(s.fl.map (bC ms)).length+1<=1073741824;omega) ?_;refine aI (by kernel_rfl) ?_
   have hs:arr s (false,k)={ s with fl:=s.fl++[(true,s.e)]}:=by
    show rcv s k=_;unfold rcv jD;rw[if_neg (by omega),if_neg (by omega)]
   rw[hs];refine fin [(10005,10002),(10006,10003),(10007,109)] (aI rfl ?_);refine⟨trivial,ah,⟨rfl,nP⟩,rfl,⟨rfl,nP⟩,⟨?_,nP⟩,trivial⟩;show s.fl.map (bC ms)++[(true,((s.e:Nat):Int),jY)]=(s.fl++[(true,s.e)]).map (bC ms);rw[qZ];rfl
  .subst heq;refine aI (fun _=> ?_) (fun q=> ?_)
   rotate_left
   .exfalso;have q':(((s.e:Nat):Int)==((s.e:Nat):Int))=false:=q;simp at q'
   refine oY (FL (by omega) (by omega)) ?_;have hk0:uI s.n (s.e+1) s.ks:=⟨h.ks1,fun x hx=>⟨(h.ks2 x hx).1,(h.ks2 x hx).2⟩⟩;refine lp (Nat×List Nat) (fun _=>[]) (fun p=>[.bQ 3 42 [.bool false,.int .i64 (s.e:Nat),.raw (.string (txt ms s.e))],.bQ 10000 27 (oO 10001 20000 20001 10004 ms { s with e:=p.1,ks:=p.2}),rT 10001 ms,rK 20000 (p.2.map (bV ms)),rT 20001 (ms.take p.1),rP 10004 (s.fl.map (bC ms))]) (fun p=>p.2.length) (fun p=>p.1<=s.n/\uI s.n p.1 p.2/\lS p.1 p.2=lS (s.e+1) s.ks) (s.e+1,s.ks) ⟨by show s.e+1<=s.n;omega,hk0,rfl⟩ ?_ ?_
   .refine Go.Tr.hd [(20000,10002),(20001,29)] rfl trivial ?_;exact⟨trivial,ah,trivial,ah,⟨rfl,nP⟩,rfl,⟨rfl,nP⟩,⟨rfl,nP⟩,trivial⟩
   rintro⟨e,l⟩ ⟨hen,hko,hdr⟩;have hen:e<=s.n:=hen;have hko:uI s.n e l:=hko;have hdr:lS e l=lS (s.e+1) s.ks:=hdr;have hml:(l.map (bV ms)).length=l.length:=qV _;refine aI (fun q=> ?_) ?_
   .have q':decide ((0:Int)<((l.map (bV ms)).length:Nat))=true:=q;exact⟨Int.le_refl _,of_decide_eq_true q'⟩
   refine aI (by kernel_rfl) ?_;refine aI (fun q1=> ?_) (fun q1=> ?_)
   .have q2:(bif decide ((0:Int)<((l.map (bV ms)).length:Nat))then((elt (dflt aK) (l.map (bV ms)) 0).2.1==((e:Nat):Int))else false)=true:=q1;cases l with
    |nil=>cases q2
    |cons x l=>
     have hxe:x=e:=by
      rw[decide_eq_true (by simp)]at q2;have q3:(((x:Nat):Int)==((e:Nat):Int))=true:=q2;have:=eq_of_beq q3;omega
     subst hxe;have hxn:=(hko.m x (by simp)).2;refine aI ⟨Int.le_refl _,by show(0:Int)<(((x::l).map (bV ms)).length:Nat);simp⟩ ?_;refine oY (FL (s:={ s with e:=x,ks:=x::l}) (by show x<ms.length;omega) (by omega)) ?_;refine Or.inr (aI ⟨by decide,by show(1:Int)<=(((x::l).map (bV ms)).length:Nat);simp;omega⟩ ?_);refine aF (x+1,l) ⟨by show x+1<=s.n;omega,hko.tail rfl,?_⟩ ?_ (by show l.length<(x::l).length;simp)
     .have:lS x (x::l)=lS (x+1) l:=by
       conv=>lhs;unfold lS
       rw[if_pos rfl]
      exact this▸hdr
     .refine Go.Tr.hd [(20000,64),(20001,58)] rfl trivial ?_;exact⟨trivial,ah,trivial,ah,⟨rfl,nP⟩,rfl,⟨rfl,nP⟩,⟨rfl,nP⟩,trivial⟩
   .have q2:(bif decide ((0:Int)<((l.map (bV ms)).length:Nat))then((elt (dflt aK) (l.map (bV ms)) 0).2.1==((e:Nat):Int))else false)=false:=q1
    have hend:lS e l=(e,l):=by
     cases l with
     |nil=>rfl
     |cons x l=>
      rw[decide_eq_true (by simp)]at q2;have q3:(((x:Nat):Int)==((e:Nat):Int))=false:=q2;unfold lS;rw[if_neg (fun e1=>by subst e1;simp at q3)]
    refine aI (by show(s.fl.map (bC ms)).length+1<=1073741824;omega) ?_;refine aI (by kernel_rfl) ?_
    have hs:arr s (false,s.e)={ s with e:=e,ks:=l,fl:=s.fl++[(true,e)]}:=by
     show rcv s s.e=_;unfold rcv jD;rw[if_pos rfl,<-hdr,hend]
    rw[hs];refine fin [(10005,20000),(10006,20001),(10007,109)] (aI rfl ?_);refine⟨trivial,ah,⟨rfl,nP⟩,rfl,⟨rfl,nP⟩,⟨?_,nP⟩,trivial⟩;show s.fl.map (bC ms)++[(true,((e:Nat):Int),jY)]=(s.fl++[(true,e)]).map (bC ms);rw[qZ];rfl
  .refine aI (fun q=> ?_) (fun _=> ?_)
   .exfalso;have q':(((k:Nat):Int)==((s.e:Nat):Int))=true:=q;have:=eq_of_beq q';omega
   refine aI (by kernel_rfl) ?_;refine aI (fun _=> ?_) (fun q=> ?_)
   rotate_left
   .exfalso;have q':decide (((s.e:Nat):Int)<((k:Nat):Int))=false:=q;have:=of_decide_eq_false q';omega
   refine Or.inl (Or.inl (eI _ (eI _ (aI (au.mo aC [25,0,0] Pv (bsQ h k (by omega)) rfl) (eI [] (aI rfl ?_))))));refine aI (by kernel_rfl) ?_;refine aI (fun q=> ?_) (fun q=> ?_)
   .have q':(!decide (k∈s.ks))=true:=q;have hnm:¬k∈s.ks:=by simpa using q'
    refine oY (Sd (by rw[qV];exact J3 _ _) (by rw[qV];omega)) ?_;refine aI (by kernel_rfl) ?_;refine aI (by show(s.fl.map (bC ms)).length+1<=1073741824;omega) ?_;refine aI (by kernel_rfl) ?_
    have hs:arr s (false,k)={ s with ks:=ins s.ks k,fl:=s.fl++[(true,s.e)]}:=by
     show rcv s k=_;unfold rcv jD;rw[if_neg (by omega),if_pos hgt,if_neg hnm]
    rw[hs];refine fin [(10005,95),(10006,10003),(10007,109)] (aI rfl ?_);refine⟨trivial,ah,⟨rfl,nP⟩,?_,⟨rfl,nP⟩,⟨?_,nP⟩,trivial⟩
    .exact(JC k).symm
    .show s.fl.map (bC ms)++[(true,((s.e:Nat):Int),jY)]=(s.fl++[(true,s.e)]).map (bC ms);rw[qZ];rfl
   .have q':(!decide (k∈s.ks))=false:=q;have hnm:k∈s.ks:=by simpa using q'
    refine aI (by show(s.fl.map (bC ms)).length+1<=1073741824;omega) ?_;refine aI (by kernel_rfl) ?_
    have hs:arr s (false,k)={ s with fl:=s.fl++[(true,s.e)]}:=by
     show rcv s k=_;unfold rcv jD;rw[if_neg (by omega),if_pos hgt,if_pos hnm]
    rw[hs];refine fin [(10005,10002),(10006,10003),(10007,109)] (aI rfl ?_);refine⟨trivial,ah,⟨rfl,nP⟩,rfl,⟨rfl,nP⟩,⟨?_,nP⟩,trivial⟩;show s.fl.map (bC ms)++[(true,((s.e:Nat):Int),jY)]=(s.fl++[(true,s.e)]).map (bC ms);rw[qZ];rfl
end
end Go.Proofs.Ytbakpddomlgjbaa
