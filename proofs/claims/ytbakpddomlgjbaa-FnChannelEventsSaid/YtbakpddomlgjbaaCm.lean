
/- Channels: what happens; the reference. -/
import Derived.Test.YtbakpddomlgjbaaCl
set_option linter.unusedSimpArgs false
set_option linter.unusedVariables false
namespace Go.Proofs.Ytbakpddomlgjbaa
open Go Go.RowKit Go.Proofs Go.Tr
def lN(k:Nat)(r:List Nat×Bool)(x:Nat):List Nat×Bool:=if k<=x/\r.2=false then((if k<x then r.1++[k]else r.1)++[x],true)else(r.1++[x],r.2)
theorem rF(k:Nat):∀(l out:aG),l.foldl (lN k) (out,true)=(out++l,true)
 |[],out=>by simp
 |x::l,out=>by
  rw[List.foldl_cons];have:lN k (out,true) x=(out++[x],true):=by unfold lN;rw[if_neg (by simp)]
  rw[this,rF k l];simp
theorem zA{x k:Nat}{l:aG}(h:x<k):jm (x::l) k=jm l k+1:=by
 unfold jm;rw[List.takeWhile_cons_of_pos (by simpa using h),qI]
theorem zy{x k:Nat}{l:aG}(h:k<=x):jm (x::l) k=0:=by
 unfold jm;rw[List.takeWhile_cons_of_neg (by simpa using h)];rfl
theorem Ap(k:Nat):∀(l out:aG),List.Pairwise (· < ·) l->(if(l.foldl (lN k) (out,false)).2 then(l.foldl (lN k) (out,false)).1 else(l.foldl (lN k) (out,false)).1++[k])=out++(if k∈l then l else ins l k)
 |[],out,_=>by simp[ins,jm]
 |x::l,out,h=>by
  have h1:=List.pairwise_cons.1 h;rw[List.foldl_cons];rcases Nat.lt_trichotomy x k with hlt|heq|hgt
  .have e1:lN k (out,false) x=(out++[x],false):=by unfold lN;rw[if_neg (by simp;omega)]
   have e2:(if k∈x::l then x::l else ins (x::l) k)=x::(if k∈l then l else ins l k):=by
    have hi:ins (x::l) k=x::ins l k:=by
     unfold ins;rw[zA hlt,List.take_succ_cons,List.drop_succ_cons];rfl
    by_cases hm:k∈l
    .rw[if_pos hm,if_pos (by simp[hm])]
    .rw[if_neg hm,if_neg (by simp[hm];omega),hi]
   rw[e1,e2,Ap k l _ h1.2];simp
  .subst heq;have e1:lN x (out,false) x=(out++[x],true):=by unfold lN;rw[if_pos (by simp),if_neg (by omega)]
   rw[e1,rF,if_pos rfl,if_pos (by simp)];simp
  .have e1:lN k (out,false) x=(out++[k]++[x],true):=by unfold lN;rw[if_pos ⟨by omega,rfl⟩,if_pos hgt]
   have hn:¬k∈x::l:=fun hm=>by
    rcases List.mem_cons.1 hm with rfl|hm
    .omega
    .have:=h1.1 k hm;omega
   rw[e1,rF,if_pos rfl,if_neg hn];unfold ins;rw[zy (by omega)];simp
def dQ(ks:List Nat)(k i:Nat):List Nat×Bool:=(ks.take i).foldl (lN k) ([],false)
theorem xU{ks:aG}{k i:Nat}(h:i<ks.length):dQ ks k (i+1)=lN k (dQ ks k i) ks[i]:=by
 unfold dQ;rw[List.take_succ_eq_append_getElem h,List.foldl_append];rfl
theorem AL(ks:aG)(k:Nat):∀i,i<=ks.length->(dQ ks k i).1.length<=2*i
 |0,_=>by simp[dQ]
 |i+1,h=>by
  rw[xU (by omega)];have:=AL ks k i (by omega);unfold lN;split
  .split<;>simp<;>omega
  .simp;omega
theorem Hf{ks:aG}{k:Nat}(h:List.Pairwise (· < ·) ks):(if(dQ ks k ks.length).2 then(dQ ks k ks.length).1 else(dQ ks k ks.length).1++[k])=if k∈ks then ks else ins ks k:=by
 have:=Ap k ks [] h;unfold dQ;rw[qN (Nat.le_refl _)];simpa using this
abbrev tS(k d f:Nat)(ms:List ByteArray)(s:eB):List Tok:=[.bQ 10000 27 (oO 10001 k d f ms s),rT 10001 ms,rP k (s.ks.map (bV ms)),rT d (ms.take s.e),rP f (s.fl.map (bC ms))]
theorem Sg(a b:Int):aB Try.prog 70 [.int .i64 a,.int .i64 b] (.int .i64 (max a b)):=by
 refine aB.intro (nt:=10) aC mixed (by kernel_rfl) Try.func70 rfl rfl rfl rfl rfl ?_;refine aI (fun q=> ?_) (fun q=> ?_)
 .have q':decide (b<a)=true:=q;have:=of_decide_eq_true q';exact⟨by show a=max a b;omega,rfl⟩
 .have q':decide (b<a)=false:=q;have:=of_decide_eq_false q';exact⟨by show b=max a b;omega,rfl⟩
section
variable {ms:List ByteArray}{s:eB}
set_option maxRecDepth 100000 in
theorem PE(k:Nat)(hk:k<ms.length)(hf:s.fl.length<=1000):au Try.prog 68 [.ptr 10000 0,.int .i64 (k:Nat)] (tS 10002 10003 10004 ms s) (.tup []) (tS 10002 10003 10005 ms { s with fl:=s.fl++[(false,k)]}):=by
 refine au.intro (nt:=22) aC mixed (by kernel_rfl) Try.func68 rfl rfl rfl rfl rfl rfl ?_;refine aI (show(0:Int)<=((k:Nat):Int)/\((k:Nat):Int)<(ms.length:Nat) by omega) ?_;refine aI (by show(s.fl.map (bC ms)).length+1<=1073741824;rw[qV];omega) ?_;refine aI (by kernel_rfl) ?_;refine fin [(10005,19)] (aI rfl ?_);refine⟨trivial,ah,⟨rfl,nP⟩,⟨rfl,nP⟩,⟨rfl,nP⟩,⟨?_,nP⟩,trivial⟩;show s.fl.map (bC ms)++[(false,((k:Nat):Int),elt (dflt .str) ms ((k:Nat):Int))]=(s.fl++[(false,k)]).map (bC ms);rw[qZ];rfl
set_option maxRecDepth 100000 in
set_option maxHeartbeats 4000000 in
theorem SB(h:aW ms s)(k:Nat)(hk:k<s.n):au Try.prog 69 [.ptr 10000 0,I8 (bC ms (false,k))] (tS 10002 10003 10004 ms s) (.tup []) (tS 10005 10006 10007 ms (rcv s k)):=by
 have h1:=h.be;have h2:=h.en;have h3:=h.nm;have h4:=h.nw;have h5:=h.m30;have h6:=h.w8;have h8:=h.fl60;have hkl:=jP h;have hfl:(s.fl.map (bC ms)).length=s.fl.length:=qV _;have hlen:(s.ks.map (bV ms)).length=s.ks.length:=qV _;refine au.intro (nt:=166) aC mixed (by kernel_rfl) Try.func69 rfl rfl rfl rfl rfl rfl ?_;refine aI (by kernel_rfl) ?_;rcases Nat.lt_trichotomy k s.e with hlt|heq|hgt
 .refine aI (fun q=> ?_) (fun _=> ?_)
  .exfalso;have q':(((k:Nat):Int)==((s.e:Nat):Int))=true:=q;have:=eq_of_beq q';omega
  refine aI (by kernel_rfl) ?_;refine aI (fun q=> ?_) (fun _=> ?_)
  .exfalso;have q':decide (((s.e:Nat):Int)<((k:Nat):Int))=true:=q;have:=of_decide_eq_true q';omega
  refine aI (by show(s.fl.map (bC ms)).length+1<=1073741824;omega) ?_;refine aI (by kernel_rfl) ?_
  have hs:rcv s k={ s with fl:=s.fl++[(true,s.e)]}:=by
   unfold rcv jD;rw[if_neg (by omega),if_neg (by omega)]
  rw[hs];refine fin [(10005,10002),(10006,10003),(10007,163)] (aI rfl ?_);refine⟨trivial,ah,⟨rfl,nP⟩,⟨rfl,nP⟩,⟨rfl,nP⟩,⟨?_,nP⟩,trivial⟩;show s.fl.map (bC ms)++[(true,((s.e:Nat):Int),jY)]=(s.fl++[(true,s.e)]).map (bC ms);rw[qZ];rfl
 .subst heq;refine aI (fun _=> ?_) (fun q=> ?_)
  rotate_left
  .exfalso;have q':(((s.e:Nat):Int)==((s.e:Nat):Int))=false:=q;simp at q'
  refine aI (by show(ms.take s.e).length+1<=1073741824;rw[List.length_take];omega) ?_;refine aI (by kernel_rfl) ?_;have hk0:uI s.n (s.e+1) s.ks:=⟨h.ks1,fun x hx=>⟨(h.ks2 x hx).1,(h.ks2 x hx).2⟩⟩;refine lp (Nat×List Nat) (fun _=>[]) (fun p=>[.bQ 3 42 [.bool false,.int .i64 (s.e:Nat),.raw (.string (txt ms s.e))],.bQ 10000 27 (oO 10001 20000 20001 10004 ms { s with e:=p.1,ks:=p.2}),rT 10001 ms,rP 20000 (p.2.map (bV ms)),rT 20001 (ms.take p.1),rP 10004 (s.fl.map (bC ms))]) (fun p=>p.2.length) (fun p=>p.1<=s.n/\uI s.n p.1 p.2/\lS p.1 p.2=lS (s.e+1) s.ks) (s.e+1,s.ks) ⟨by show s.e+1<=s.n;omega,hk0,rfl⟩ ?_ ?_
  .refine Go.Tr.hd [(20000,10002),(20001,22)] rfl trivial ?_;exact⟨trivial,ah,trivial,⟨⟨rfl,rfl⟩,rfl,⟨rfl,rfl⟩,⟨rfl,rfl⟩,⟨iM (k:=s.e) (by omega),rfl⟩,rfl,rfl,rfl,trivial⟩,⟨rfl,nP⟩,⟨rfl,nP⟩,⟨wo (by omega),nP⟩,⟨rfl,nP⟩,trivial⟩
  rintro⟨e,l⟩ ⟨hen,hko,hdr⟩;have hen:e<=s.n:=hen;have hko:uI s.n e l:=hko;have hdr:lS e l=lS (s.e+1) s.ks:=hdr;have hml:(l.map (bV ms)).length=l.length:=qV _;refine aI (fun q=> ?_) ?_
  .have q':decide ((0:Int)<((l.map (bV ms)).length:Nat))=true:=q;exact⟨Int.le_refl _,of_decide_eq_true q'⟩
  refine aI (by kernel_rfl) ?_;refine aI (fun q1=> ?_) (fun q1=> ?_)
  .have q2:(bif decide ((0:Int)<((l.map (bV ms)).length:Nat))then((elt (dflt aK) (l.map (bV ms)) 0).2.1==((e:Nat):Int))else false)=true:=q1;cases l with
   |nil=>cases q2
   |cons x l=>
    have hxe:x=e:=by
     rw[decide_eq_true (by simp)]at q2;have q3:(((x:Nat):Int)==((e:Nat):Int))=true:=q2;have:=eq_of_beq q3;omega
    subst hxe;have hxn:=(hko.m x (by simp)).2
    have hll:l.length+1<=1000000:=by
     have h9:=hdr;have:=hml
     have hb:∀(a:Nat) (l:List Nat),List.Pairwise (· < ·) l->(∀y∈l,a<=y/\y<s.n)->l.length+a<=s.n\/l=[]:=by
      intro a l
      induction l generalizing a with
      |nil=>intro _ _;exact .inr rfl
      |cons y l ih=>
       intro hp hm;have hp1:=List.pairwise_cons.1 hp;have hy:=hm y (by simp);rcases ih (y+1) hp1.2 (fun z hz=>⟨hp1.1 z hz,(hm z (by simp[hz])).2⟩)with h|h
       .exact .inl (by simp;omega)
       .subst h;exact .inl (by simp;omega)
     rcases hb x (x::l) hko.p hko.m with h|h
     .simp at h;omega
     .cases h
    refine aI ⟨Int.le_refl _,by show(0:Int)<(((x::l).map (bV ms)).length:Nat);simp⟩ ?_;refine aI (by show(ms.take x).length+1<=1073741824;rw[List.length_take];omega) ?_;refine aI (by kernel_rfl) ?_;refine Or.inl (aI ⟨by decide,by show(1:Int)<=(((x::l).map (bV ms)).length:Nat);simp;omega,by show 0<((x::l).map (bV ms)).length;simp⟩ ?_);refine aI ⟨by show 1+(((x::l).map (bV ms)).length-1)<=((x::l).map (bV ms)).length;simp;omega,by show 0+(((x::l).map (bV ms)).length-1)<=1073741824;simp;omega⟩ ?_;refine aF (x+1,l) ⟨by show x+1<=s.n;omega,hko.tail rfl,?_⟩ ?_ (by show l.length<(x::l).length;simp)
    .have:lS x (x::l)=lS (x+1) l:=by
      conv=>lhs;unfold lS
      rw[if_pos rfl]
     exact this▸hdr
    .refine Go.Tr.hd [(20000,82),(20001,65)] rfl trivial ?_;refine⟨trivial,ah,trivial,⟨⟨rfl,rfl⟩,rfl,⟨rfl,rfl⟩,⟨rfl,rfl⟩,⟨iM (k:=x) (by omega),rfl⟩,rfl,rfl,rfl,trivial⟩,⟨rfl,nP⟩,⟨?_,nP⟩,⟨wo (by omega),nP⟩,⟨rfl,nP⟩,trivial⟩;show([]:List fF)++(((x::l).map (bV ms)).drop 1).take (((x::l).map (bV ms)).length-1)=l.map (bV ms);simp;rw[qN (by simp)]
  .have q2:(bif decide ((0:Int)<((l.map (bV ms)).length:Nat))then((elt (dflt aK) (l.map (bV ms)) 0).2.1==((e:Nat):Int))else false)=false:=q1
   have hend:lS e l=(e,l):=by
    cases l with
    |nil=>rfl
    |cons x l=>
     rw[decide_eq_true (by simp)]at q2;have q3:(((x:Nat):Int)==((e:Nat):Int))=false:=q2;unfold lS;rw[if_neg (fun e1=>by subst e1;simp at q3)]
   refine aI (by show(s.fl.map (bC ms)).length+1<=1073741824;omega) ?_;refine aI (by kernel_rfl) ?_
   have hs:rcv s s.e={ s with e:=e,ks:=l,fl:=s.fl++[(true,e)]}:=by
    unfold rcv jD;rw[if_pos rfl,<-hdr,hend]
   rw[hs];refine fin [(10005,20000),(10006,20001),(10007,163)] (aI rfl ?_);refine⟨trivial,ah,⟨rfl,nP⟩,⟨rfl,nP⟩,⟨rfl,nP⟩,⟨?_,nP⟩,trivial⟩;show s.fl.map (bC ms)++[(true,((e:Nat):Int),jY)]=(s.fl++[(true,e)]).map (bC ms);rw[qZ];rfl
 .refine aI (fun q=> ?_) (fun _=> ?_)
  .exfalso;have q':(((k:Nat):Int)==((s.e:Nat):Int))=true:=q;have:=eq_of_beq q';omega
  refine aI (by kernel_rfl) ?_;refine aI (fun _=> ?_) (fun q=> ?_)
  rotate_left
  .exfalso;have q':decide (((s.e:Nat):Int)<((k:Nat):Int))=false:=q;have:=of_decide_eq_false q';omega
  have hs:rcv s k={ s with ks:=(if k∈s.ks then s.ks else ins s.ks k),fl:=s.fl++[(true,s.e)]}:=by
   unfold rcv jD;rw[if_neg (by omega),if_pos hgt]
   by_cases hm:k∈s.ks
   .rw[if_pos hm,if_pos hm]
   .rw[if_neg hm,if_neg hm]
  rw[hs,<-Hf h.ks1];refine lp Nat (fun i=>[(4,.sl 20000),(5,.bool (dQ s.ks k i).2),(6,.int .i64 (i:Nat))]) (fun i=>[.bQ 3 42 [.bool false,.int .i64 (k:Nat),.raw (.string (txt ms k))],.bQ 10000 27 (oO 10001 10002 10003 10004 ms s),rT 10001 ms,rP 10002 (s.ks.map (bV ms)),rT 10003 (ms.take s.e),rP 10004 (s.fl.map (bC ms)),rP 20000 ((dQ s.ks k i).1.map (bV ms))]) (fun i=>s.ks.length-i) (fun i=>i<=s.ks.length) 0 (Nat.zero_le _) ?_ ?_
  .refine Go.Tr.hd [(20000,92)] rfl (aI rfl (aI rfl (aI ⟨rfl,rfl⟩ trivial))) ?_;exact⟨trivial,ah,trivial,ah,⟨rfl,nP⟩,⟨rfl,nP⟩,⟨rfl,nP⟩,⟨rfl,nP⟩,⟨rfl,nP⟩,trivial⟩
  intro i hi;have hi:i<=s.ks.length:=hi;have hol:=AL s.ks k i hi;refine aI (fun q1=> ?_) (fun q1=> ?_)
  .have hlt:i<s.ks.length:=by have:i<(s.ks.map (bV ms)).length:=sQ q1;omega
   have hi3:(0:Int)<=((i:Nat):Int)/\((i:Nat):Int)<((s.ks.map (bV ms)).length:Nat):=⟨by omega,by omega⟩;have he:=jO (ms:=ms) hlt;have hsu:=xU (k:=k) hlt;refine aI hi3 ?_;refine aI (by kernel_rfl) ?_;refine aI (fun q2=> ?_) (fun q2=> ?_)
   .have q3:(bif decide (((k:Nat):Int)<=(elt (dflt aK) (s.ks.map (bV ms)) ((i:Nat):Int)).2.1)then !(dQ s.ks k i).2 else false)=true:=q2;rw[he]at q3
    have q4:k<=s.ks[i]/\(dQ s.ks k i).2=false:=by
     by_cases hh:((k:Nat):Int)<=((s.ks[i]:Nat):Int)
     .have q5:(bif decide (((k:Nat):Int)<=((s.ks[i]:Nat):Int))then !(dQ s.ks k i).2 else false)=true:=q3;rw[decide_eq_true hh]at q5;exact⟨by omega,by simpa using q5⟩
     .have q5:(bif decide (((k:Nat):Int)<=((s.ks[i]:Nat):Int))then !(dQ s.ks k i).2 else false)=true:=q3;rw[decide_eq_false hh]at q5;cases q5
    refine aI hi3 ?_;refine aI (by kernel_rfl) ?_;refine aI (fun q5=> ?_) (fun q5=> ?_)
    .have q6:decide (((k:Nat):Int)<(elt (dflt aK) (s.ks.map (bV ms)) ((i:Nat):Int)).2.1)=true:=q5;rw[he]at q6;have q7:((k:Nat):Int)<((s.ks[i]:Nat):Int):=of_decide_eq_true q6
     have hne:dQ s.ks k (i+1)=((dQ s.ks k i).1++[k]++[s.ks[i]],true):=by
      rw[hsu];unfold lN;rw[if_pos q4,if_pos (by omega)]
     refine aI (by show((dQ s.ks k i).1.map (bV ms)).length+1<=1073741824;rw[qV];omega) ?_;refine aI hi3 ?_;refine aI (by show((dQ s.ks k i).1.map (bV ms)++[((false,((k:Nat):Int),txt ms k):fF)]).length+1<=1073741824;rw[qA,qV];simp only[qI,qR];omega) ?_;refine aF (i+1) hlt ?_ (by show s.ks.length-(i+1)<s.ks.length-i;omega);refine Go.Tr.hd [(20000,141)] rfl (aI rfl (aI ?_ (aI ⟨iM (by omega),rfl⟩ trivial))) ?_
     .show true=(dQ s.ks k (i+1)).2;rw[hne]
     .refine⟨trivial,ah,trivial,ah,⟨rfl,nP⟩,⟨rfl,nP⟩,⟨rfl,nP⟩,⟨rfl,nP⟩,⟨?_,nP⟩,trivial⟩;show(dQ s.ks k i).1.map (bV ms)++[((false,((k:Nat):Int),txt ms k):fF)]++[elt (dflt aK) (s.ks.map (bV ms)) ((i:Nat):Int)]=(dQ s.ks k (i+1)).1.map (bV ms);rw[hne,he,qZ,qZ];rfl
    .have q6:decide (((k:Nat):Int)<(elt (dflt aK) (s.ks.map (bV ms)) ((i:Nat):Int)).2.1)=false:=q5;rw[he]at q6;have q7:¬((k:Nat):Int)<((s.ks[i]:Nat):Int):=of_decide_eq_false q6
     have hne:dQ s.ks k (i+1)=((dQ s.ks k i).1++[s.ks[i]],true):=by
      rw[hsu];unfold lN;rw[if_pos q4,if_neg (by omega)]
     refine aI hi3 ?_;refine aI (by show((dQ s.ks k i).1.map (bV ms)).length+1<=1073741824;rw[qV];omega) ?_;refine aF (i+1) hlt ?_ (by show s.ks.length-(i+1)<s.ks.length-i;omega);refine Go.Tr.hd [(20000,141)] rfl (aI rfl (aI ?_ (aI ⟨iM (by omega),rfl⟩ trivial))) ?_
     .show true=(dQ s.ks k (i+1)).2;rw[hne]
     .refine⟨trivial,ah,trivial,ah,⟨rfl,nP⟩,⟨rfl,nP⟩,⟨rfl,nP⟩,⟨rfl,nP⟩,⟨?_,nP⟩,trivial⟩;show(dQ s.ks k i).1.map (bV ms)++[elt (dflt aK) (s.ks.map (bV ms)) ((i:Nat):Int)]=(dQ s.ks k (i+1)).1.map (bV ms);rw[hne,he,qZ];rfl
   .have q3:(bif decide (((k:Nat):Int)<=(elt (dflt aK) (s.ks.map (bV ms)) ((i:Nat):Int)).2.1)then !(dQ s.ks k i).2 else false)=false:=q2;rw[he]at q3
    have q4:¬(k<=s.ks[i]/\(dQ s.ks k i).2=false):=by
     rintro⟨hh,hb⟩;have q5:(bif decide (((k:Nat):Int)<=((s.ks[i]:Nat):Int))then !(dQ s.ks k i).2 else false)=false:=q3;rw[decide_eq_true (by omega),hb]at q5;cases q5
    have hne:dQ s.ks k (i+1)=((dQ s.ks k i).1++[s.ks[i]],(dQ s.ks k i).2):=by
     rw[hsu];unfold lN;rw[if_neg q4]
    refine aI hi3 ?_;refine aI (by show((dQ s.ks k i).1.map (bV ms)).length+1<=1073741824;rw[qV];omega) ?_;refine aF (i+1) hlt ?_ (by show s.ks.length-(i+1)<s.ks.length-i;omega);refine Go.Tr.hd [(20000,141)] rfl (aI rfl (aI ?_ (aI ⟨iM (by omega),rfl⟩ trivial))) ?_
    .show(dQ s.ks k i).2=(dQ s.ks k (i+1)).2;rw[hne]
    .refine⟨trivial,ah,trivial,ah,⟨rfl,nP⟩,⟨rfl,nP⟩,⟨rfl,nP⟩,⟨rfl,nP⟩,⟨?_,nP⟩,trivial⟩;show(dQ s.ks k i).1.map (bV ms)++[elt (dflt aK) (s.ks.map (bV ms)) ((i:Nat):Int)]=(dQ s.ks k (i+1)).1.map (bV ms);rw[hne,he,qZ];rfl
  .have hge:(s.ks.map (bV ms)).length<=i:=Gf q1;have hie:i=s.ks.length:=by omega
   rw[<-hie];refine aI (fun q2=> ?_) (fun q2=> ?_)
   .have q3:(!(dQ s.ks k i).2)=true:=q2;have q4:(dQ s.ks k i).2=false:=by simpa using q3
    refine aI (by show((dQ s.ks k i).1.map (bV ms)).length+1<=1073741824;rw[qV];omega) ?_;refine aI (by show(s.fl.map (bC ms)).length+1<=1073741824;omega) ?_;refine aI (by kernel_rfl) ?_;rw[q4];refine fin [(10005,147),(10006,10003),(10007,163)] (aI rfl ?_);refine⟨trivial,ah,⟨rfl,nP⟩,⟨?_,nP⟩,⟨rfl,nP⟩,⟨?_,nP⟩,trivial⟩
    .show(dQ s.ks k i).1.map (bV ms)++[((false,((k:Nat):Int),txt ms k):fF)]=((dQ s.ks k i).1++[k]).map (bV ms);rw[qZ];rfl
    .show s.fl.map (bC ms)++[(true,((s.e:Nat):Int),jY)]=(s.fl++[(true,s.e)]).map (bC ms);rw[qZ];rfl
   .have q3:(!(dQ s.ks k i).2)=false:=q2;have q4:(dQ s.ks k i).2=true:=by simpa using q3
    refine aI (by show(s.fl.map (bC ms)).length+1<=1073741824;omega) ?_;refine aI (by kernel_rfl) ?_;rw[q4];refine fin [(10005,20000),(10006,10003),(10007,163)] (aI rfl ?_);refine⟨trivial,ah,⟨rfl,nP⟩,⟨rfl,nP⟩,⟨rfl,nP⟩,⟨?_,nP⟩,trivial⟩;show s.fl.map (bC ms)++[(true,((s.e:Nat):Int),jY)]=(s.fl++[(true,s.e)]).map (bC ms);rw[qZ];rfl
end
end Go.Proofs.Ytbakpddomlgjbaa
