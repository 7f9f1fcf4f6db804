
/- Channels: which events can happen; both sides. -/
import Derived.Test.YtbakpddomlgjbaaCe
import Derived.Test.YtbakpddomlgjbaaCd
set_option maxRecDepth 100000
set_option linter.unusedSimpArgs false
set_option linter.unusedVariables false
namespace Go.Proofs.Ytbakpddomlgjbaa
open Go Go.RowKit Go.Proofs Go.Tr
def iU(m:Nat)(s:eB):Bool:=bif (bif decide (s.n<m)then decide (s.n<s.b+s.w)else false)then decide (s.fl.length<60)else false
def aJ(s:eB):Bool:=decide (s.fl.length<60)
def ku(m:Nat)(s:eB):List fE:=bif iU m s then[(1,0)]else[]
def l6(i:Nat):List fE:=(List.range i).map fun k=>(2,((k:Nat):Int))
def jk(r:Bool)(i:Nat):List fE:=(List.range i).flatMap fun k=>[(3,((k:Nat):Int)),(4,((k:Nat):Int))]++bif r then[(5,((k:Nat):Int))]else[]
def iY(m:Nat)(s:eB):List fE:=ku m s++l6 (bif aJ s then s.n-s.b else 0)
def evs(m:Nat)(s:eB):List fE:=iY m s++jk (aJ s) s.fl.length
theorem o7(i:Nat):l6 (i+1)=l6 i++[(2,((i:Nat):Int))]:=by unfold l6;rw[List.range_succ,qZ];rfl
theorem gM(r:Bool)(i:Nat):jk r (i+1)=jk r i++([(3,((i:Nat):Int)),(4,((i:Nat):Int))]++bif r then[(5,((i:Nat):Int))]else[]):=by unfold jk;rw[List.range_succ,List.flatMap_append];simp
theorem oW(i:Nat):(l6 i).length=i:=by unfold l6;simp
theorem mY(r:Bool):∀i,(jk r i).length<=3*i
 |0=>by unfold jk;simp
 |i+1=>by rw[gM];have:=mY r i;cases r<;>simp<;>omega
theorem yJ(m:Nat)(s:eB):(ku m s).length<=1:=by unfold ku;cases iU m s<;>simp
section
variable {ms:List ByteArray}{s:eB}
theorem yK(h:aW ms s):(iY ms.length s).length<=9:=by
 have h1:=h.nw;have h2:=h.w8;unfold iY;have:=yJ ms.length s;rw[qA,oW];cases aJ s<;>simp<;>omega
theorem Dc(h:aW ms s):(evs ms.length s).length<=200:=by
 have h1:=yK h;have h2:=mY (aJ s) s.fl.length;have h3:=h.fl60;unfold evs;rw[qA];omega
theorem xH:(s.fl.map (bC ms)).length=s.fl.length:=qV _
theorem CU(h:aW ms s):aB Try.prog 49 [.rp eZ (toN ms s)] (.bool (iU ms.length s)):=by
 have h1:=h.be;have h2:=h.en;have h3:=h.nm;have h4:=h.nw;have h5:=h.m30;have h6:=h.w8;refine aB.intro (nt:=37) aC mixed (by kernel_rfl) Try.func49 rfl rfl rfl rfl rfl ?_;refine aI (by kernel_rfl) ?_;show(bif (bif decide (((s.n:Nat):Int)<(ms.length:Nat))then decide (((s.n:Nat):Int)<IntKind.i64.wrap (((s.b:Nat):Int)+((s.w:Nat):Int)))else false)then decide ((((s.fl.map (bC ms)).length:Nat):Int)<60)else false)=iU ms.length s;rw[oJ (by omega),xH];unfold iU;have e1:decide (((s.n:Nat):Int)<(ms.length:Nat))=decide (s.n<ms.length):=decide_eq_decide.2 (by omega)
 have e2:decide (((s.n:Nat):Int)<((s.b:Nat):Int)+((s.w:Nat):Int))=decide (s.n<s.b+s.w):=decide_eq_decide.2 (by omega);have e3:decide (((s.fl.length:Nat):Int)<60)=decide (s.fl.length<60):=decide_eq_decide.2 (by omega);rw[e1,e2,e3]
theorem CV(h:aW ms s):aB Try.prog 56 [.rp eZ (toN ms s)] (.bool (iU ms.length s)):=by
 have h1:=h.be;have h2:=h.en;have h3:=h.nm;have h4:=h.nw;have h5:=h.m30;have h6:=h.w8;refine aB.intro (nt:=37) aC mixed (by kernel_rfl) Try.func56 rfl rfl rfl rfl rfl ?_;refine aI (by kernel_rfl) ?_;show(bif (bif decide (((s.n:Nat):Int)<(ms.length:Nat))then decide (((s.n:Nat):Int)<IntKind.i64.wrap (((s.b:Nat):Int)+((s.w:Nat):Int)))else false)then decide ((((s.fl.map (bC ms)).length:Nat):Int)<60)else false)=iU ms.length s;rw[oJ (by omega),xH];unfold iU;have e1:decide (((s.n:Nat):Int)<(ms.length:Nat))=decide (s.n<ms.length):=decide_eq_decide.2 (by omega)
 have e2:decide (((s.n:Nat):Int)<((s.b:Nat):Int)+((s.w:Nat):Int))=decide (s.n<s.b+s.w):=decide_eq_decide.2 (by omega);have e3:decide (((s.fl.length:Nat):Int)<60)=decide (s.fl.length<60):=decide_eq_decide.2 (by omega);rw[e1,e2,e3]
theorem MH:aU Try.prog 24=true:=by kernel_rfl
set_option maxHeartbeats 4000000 in
theorem OJ(h:aW ms s):au Try.prog 24 [.rp eZ (toN ms s)] [] (.sl 10000) [.row 10000 33 2 bM (evs ms.length s) []]:=by
 have h1:=h.be;have h2:=h.en;have h3:=h.nm;have h4:=h.nw;have h5:=h.m30;have h6:=h.w8;have h7:=h.fl60;have hc0:=yJ ms.length s;have hcA:=yK h;have hfl:=xH (ms:=ms) (s:=s)
 have e3:decide ((((s.fl.map (bC ms)).length:Nat):Int)<60)=aJ s:=by
  rw[hfl];exact decide_eq_decide.2 (by omega)
 refine au.intro (nt:=63) aC mixed MH Try.func24 rfl rfl rfl rfl rfl rfl ?_;refine oZ (CU h) ?_;refine aI (fun q0=> ?_) (fun q0=> ?_)
 .have q0':iU ms.length s=true:=q0;have hv0:ku ms.length s=[(1,0)]:=by unfold ku;rw[q0'];rfl
  refine aI (by show 1<=1073741824;decide) ?_;refine lp Nat (fun i=>[(5,.int .i64 (i:Nat)),(3,.sl 20000),(4,.bool (aJ s))]) (fun i=>[.row 20000 33 2 bM (ku ms.length s++l6 i) []]) (fun i=>s.n-s.b-i) (fun i=>i<=s.n-s.b/\(aJ s=false->i=0)) 0 ⟨Nat.zero_le _,fun _=>rfl⟩ ?_ ?_
  .exact Go.Tr.hd [(20000,12)] rfl (aI (aI rfl rfl) (aI rfl (aI e3 trivial))) (aI (aI (by show[((1,0):fE)]=ku ms.length s++l6 0;rw[hv0];rfl) nP) trivial)
  rintro i ⟨hi,hr⟩;have hi:i<=s.n-s.b:=hi;have hr:aJ s=false->i=0:=hr;refine aI (by kernel_rfl) ?_;refine aI (fun q1=> ?_) (fun q1=> ?_)
  .have q2:(bif decide (((i:Nat):Int)<IntKind.i64.wrap (((s.n:Nat):Int)-((s.b:Nat):Int)))then aJ s else false)=true:=q1;rw[oJ (by omega)]at q2
   have hlt:i<s.n-s.b:=by
    by_cases hh:((i:Nat):Int)<((s.n:Nat):Int)-((s.b:Nat):Int)
    .omega
    .rw[decide_eq_false hh]at q2;cases q2
   have hrm:aJ s=true:=by
    by_cases hh:((i:Nat):Int)<((s.n:Nat):Int)-((s.b:Nat):Int)
    .rw[decide_eq_true hh]at q2;exact q2
    .rw[decide_eq_false hh]at q2;cases q2
   refine aI (by show(ku ms.length s++l6 i).length+1<=1073741824;rw[qA,oW];omega) ?_;refine aF (i+1) ⟨hlt,fun hh=>absurd (hrm.symm.trans hh) (by decide)⟩ ?_ (by show s.n-s.b-(i+1)<s.n-s.b-i;omega);refine Go.Tr.hd [(20000,39)] rfl (aI (aI (iM (by omega)) rfl) (aI rfl (aI rfl trivial))) (aI (aI ?_ nP) trivial);show ku ms.length s++l6 i++[((2,((i:Nat):Int)):fE)]=ku ms.length s++l6 (i+1);rw[o7,qF]
  .have q2:(bif decide (((i:Nat):Int)<IntKind.i64.wrap (((s.n:Nat):Int)-((s.b:Nat):Int)))then aJ s else false)=false:=q1;rw[oJ (by omega)]at q2
   have hA:ku ms.length s++l6 i=iY ms.length s:=by
    unfold iY;cases hrm:aJ s with
    |false=>rw[hr hrm];rfl
    |true=>
     by_cases hh:((i:Nat):Int)<((s.n:Nat):Int)-((s.b:Nat):Int)
     .rw[decide_eq_true hh,hrm]at q2;cases q2
     .rw[show i=s.n-s.b by omega];rfl
   refine lp Nat (fun k=>[(45,.int .i64 (k:Nat)),(3,.sl 20001),(4,.bool (aJ s))]) (fun k=>[.row 20001 33 2 bM (iY ms.length s++jk (aJ s) k) []]) (fun k=>s.fl.length-k) (fun k=>k<=s.fl.length) 0 (Nat.zero_le _) ?_ ?_
   .refine Go.Tr.hd [(20001,20000)] rfl (aI (aI rfl rfl) (aI rfl (aI rfl trivial))) (aI (aI ?_ nP) trivial);show ku ms.length s++l6 i=iY ms.length s++jk (aJ s) 0;rw[hA];unfold jk;simp
   intro k hk;have hk:k<=s.fl.length:=hk;have hE:=mY (aJ s) k;refine aI (fun q3=> ?_) (fun q3=> ?_)
   .have hlt:k<s.fl.length:=by have:k<(s.fl.map (bC ms)).length:=sQ q3;omega
    refine aI (by show(iY ms.length s++jk (aJ s) k).length+2<=1073741824;rw[qA];omega) ?_;refine aI (fun q4=> ?_) (fun q4=> ?_)
    .have q4:aJ s=true:=q4;refine aI (by show(iY ms.length s++jk (aJ s) k++[((3,((k:Nat):Int)):fE),(4,((k:Nat):Int))]).length+1<=1073741824;rw[qA,qA];simp only[qI,qR];omega) ?_;refine aF (k+1) hlt ?_ (by show s.fl.length-(k+1)<s.fl.length-k;omega);refine Go.Tr.hd [(20001,60)] rfl (aI (aI (iM (by omega)) rfl) (aI rfl (aI rfl trivial))) (aI (aI ?_ nP) trivial);show iY ms.length s++jk (aJ s) k++[((3,((k:Nat):Int)):fE),(4,((k:Nat):Int))]++[(5,((k:Nat):Int))]=iY ms.length s++jk (aJ s) (k+1)
     rw[gM,q4];simp
    .have q4:aJ s=false:=q4;refine aF (k+1) hlt ?_ (by show s.fl.length-(k+1)<s.fl.length-k;omega);refine Go.Tr.hd [(20001,54)] rfl (aI (aI (iM (by omega)) rfl) (aI rfl (aI rfl trivial))) (aI (aI ?_ nP) trivial);show iY ms.length s++jk (aJ s) k++[((3,((k:Nat):Int)):fE),(4,((k:Nat):Int))]=iY ms.length s++jk (aJ s) (k+1);rw[gM,q4];simp
   .have hge:(s.fl.map (bC ms)).length<=k:=Gf q3;have hke:k=s.fl.length:=by omega
    refine fin [(10000,20001)] (aI rfl ?_);refine⟨⟨?_,nP⟩,trivial⟩;show iY ms.length s++jk (aJ s) k=evs ms.length s;rw[hke];rfl
 .have q0':iU ms.length s=false:=q0;have hv0:ku ms.length s=[]:=by unfold ku;rw[q0'];rfl
  refine lp Nat (fun i=>[(5,.int .i64 (i:Nat)),(3,.sl 20000),(4,.bool (aJ s))]) (fun i=>[.row 20000 33 2 bM (ku ms.length s++l6 i) []]) (fun i=>s.n-s.b-i) (fun i=>i<=s.n-s.b/\(aJ s=false->i=0)) 0 ⟨Nat.zero_le _,fun _=>rfl⟩ ?_ ?_
  .exact TU [⟨3,30000,33,2,bM⟩] [(20000,30000)] rfl (aI (aI (aI rfl rfl) (aI rfl (aI e3 trivial))) (aI (aI (by show([]:List fE)=ku ms.length s++l6 0;rw[hv0];rfl) nP) trivial))
  rintro i ⟨hi,hr⟩;have hi:i<=s.n-s.b:=hi;have hr:aJ s=false->i=0:=hr;refine aI (by kernel_rfl) ?_;refine aI (fun q1=> ?_) (fun q1=> ?_)
  .have q2:(bif decide (((i:Nat):Int)<IntKind.i64.wrap (((s.n:Nat):Int)-((s.b:Nat):Int)))then aJ s else false)=true:=q1;rw[oJ (by omega)]at q2
   have hlt:i<s.n-s.b:=by
    by_cases hh:((i:Nat):Int)<((s.n:Nat):Int)-((s.b:Nat):Int)
    .omega
    .rw[decide_eq_false hh]at q2;cases q2
   have hrm:aJ s=true:=by
    by_cases hh:((i:Nat):Int)<((s.n:Nat):Int)-((s.b:Nat):Int)
    .rw[decide_eq_true hh]at q2;exact q2
    .rw[decide_eq_false hh]at q2;cases q2
   refine aI (by show(ku ms.length s++l6 i).length+1<=1073741824;rw[qA,oW];omega) ?_;refine aF (i+1) ⟨hlt,fun hh=>absurd (hrm.symm.trans hh) (by decide)⟩ ?_ (by show s.n-s.b-(i+1)<s.n-s.b-i;omega);refine Go.Tr.hd [(20000,39)] rfl (aI (aI (iM (by omega)) rfl) (aI rfl (aI rfl trivial))) (aI (aI ?_ nP) trivial);show ku ms.length s++l6 i++[((2,((i:Nat):Int)):fE)]=ku ms.length s++l6 (i+1);rw[o7,qF]
  .have q2:(bif decide (((i:Nat):Int)<IntKind.i64.wrap (((s.n:Nat):Int)-((s.b:Nat):Int)))then aJ s else false)=false:=q1;rw[oJ (by omega)]at q2
   have hA:ku ms.length s++l6 i=iY ms.length s:=by
    unfold iY;cases hrm:aJ s with
    |false=>rw[hr hrm];rfl
    |true=>
     by_cases hh:((i:Nat):Int)<((s.n:Nat):Int)-((s.b:Nat):Int)
     .rw[decide_eq_true hh,hrm]at q2;cases q2
     .rw[show i=s.n-s.b by omega];rfl
   refine lp Nat (fun k=>[(45,.int .i64 (k:Nat)),(3,.sl 20001),(4,.bool (aJ s))]) (fun k=>[.row 20001 33 2 bM (iY ms.length s++jk (aJ s) k) []]) (fun k=>s.fl.length-k) (fun k=>k<=s.fl.length) 0 (Nat.zero_le _) ?_ ?_
   .refine Go.Tr.hd [(20001,20000)] rfl (aI (aI rfl rfl) (aI rfl (aI rfl trivial))) (aI (aI ?_ nP) trivial);show ku ms.length s++l6 i=iY ms.length s++jk (aJ s) 0;rw[hA];unfold jk;simp
   intro k hk;have hk:k<=s.fl.length:=hk;have hE:=mY (aJ s) k;refine aI (fun q3=> ?_) (fun q3=> ?_)
   .have hlt:k<s.fl.length:=by have:k<(s.fl.map (bC ms)).length:=sQ q3;omega
    refine aI (by show(iY ms.length s++jk (aJ s) k).length+2<=1073741824;rw[qA];omega) ?_;refine aI (fun q4=> ?_) (fun q4=> ?_)
    .have q4:aJ s=true:=q4;refine aI (by show(iY ms.length s++jk (aJ s) k++[((3,((k:Nat):Int)):fE),(4,((k:Nat):Int))]).length+1<=1073741824;rw[qA,qA];simp only[qI,qR];omega) ?_;refine aF (k+1) hlt ?_ (by show s.fl.length-(k+1)<s.fl.length-k;omega);refine Go.Tr.hd [(20001,60)] rfl (aI (aI (iM (by omega)) rfl) (aI rfl (aI rfl trivial))) (aI (aI ?_ nP) trivial);show iY ms.length s++jk (aJ s) k++[((3,((k:Nat):Int)):fE),(4,((k:Nat):Int))]++[(5,((k:Nat):Int))]=iY ms.length s++jk (aJ s) (k+1)
     rw[gM,q4];simp
    .have q4:aJ s=false:=q4;refine aF (k+1) hlt ?_ (by show s.fl.length-(k+1)<s.fl.length-k;omega);refine Go.Tr.hd [(20001,54)] rfl (aI (aI (iM (by omega)) rfl) (aI rfl (aI rfl trivial))) (aI (aI ?_ nP) trivial);show iY ms.length s++jk (aJ s) k++[((3,((k:Nat):Int)):fE),(4,((k:Nat):Int))]=iY ms.length s++jk (aJ s) (k+1);rw[gM,q4];simp
   .have hge:(s.fl.map (bC ms)).length<=k:=Gf q3;have hke:k=s.fl.length:=by omega
    refine fin [(10000,20001)] (aI rfl ?_);refine⟨⟨?_,nP⟩,trivial⟩;show iY ms.length s++jk (aJ s) k=evs ms.length s;rw[hke];rfl
theorem MI:aU Try.prog 26=true:=by kernel_rfl
set_option maxHeartbeats 4000000 in
theorem OL(h:aW ms s):au Try.prog 26 [.rp eZ (toN ms s)] [] (.sl 10000) [.row 10000 33 2 bM (evs ms.length s) []]:=by
 have h1:=h.be;have h2:=h.en;have h3:=h.nm;have h4:=h.nw;have h5:=h.m30;have h6:=h.w8;have h7:=h.fl60;have hc0:=yJ ms.length s;have hcA:=yK h;have hfl:=xH (ms:=ms) (s:=s)
 have e3:decide ((((s.fl.map (bC ms)).length:Nat):Int)<60)=aJ s:=by
  rw[hfl];exact decide_eq_decide.2 (by omega)
 refine au.intro (nt:=64) aC mixed MI Try.func26 rfl rfl rfl rfl rfl rfl ?_;refine oZ (CV h) ?_;refine aI (fun q0=> ?_) (fun q0=> ?_)
 .have q0':iU ms.length s=true:=q0;have hv0:ku ms.length s=[(1,0)]:=by unfold ku;rw[q0'];rfl
  refine aI (by show 0+1<=1073741824;decide) ?_;refine lp Nat (fun i=>[(5,.int .i64 (i:Nat)),(3,.sl 20000),(4,.bool (aJ s))]) (fun i=>[.row 20000 33 2 bM (ku ms.length s++l6 i) []]) (fun i=>s.n-s.b-i) (fun i=>i<=s.n-s.b/\(aJ s=false->i=0)) 0 ⟨Nat.zero_le _,fun _=>rfl⟩ ?_ ?_
  .exact Go.Tr.hd [(20000,13)] rfl (aI (aI rfl rfl) (aI rfl (aI e3 trivial))) (aI (aI (by show[((1,0):fE)]=ku ms.length s++l6 0;rw[hv0];rfl) nP) trivial)
  rintro i ⟨hi,hr⟩;have hi:i<=s.n-s.b:=hi;have hr:aJ s=false->i=0:=hr;refine aI (by kernel_rfl) ?_;refine aI (fun q1=> ?_) (fun q1=> ?_)
  .have q2:(bif decide (((i:Nat):Int)<IntKind.i64.wrap (((s.n:Nat):Int)-((s.b:Nat):Int)))then aJ s else false)=true:=q1;rw[oJ (by omega)]at q2
   have hlt:i<s.n-s.b:=by
    by_cases hh:((i:Nat):Int)<((s.n:Nat):Int)-((s.b:Nat):Int)
    .omega
    .rw[decide_eq_false hh]at q2;cases q2
   have hrm:aJ s=true:=by
    by_cases hh:((i:Nat):Int)<((s.n:Nat):Int)-((s.b:Nat):Int)
    .rw[decide_eq_true hh]at q2;exact q2
    .rw[decide_eq_false hh]at q2;cases q2
   refine aI (by show(ku ms.length s++l6 i).length+1<=1073741824;rw[qA,oW];omega) ?_;refine aF (i+1) ⟨hlt,fun hh=>absurd (hrm.symm.trans hh) (by decide)⟩ ?_ (by show s.n-s.b-(i+1)<s.n-s.b-i;omega);refine Go.Tr.hd [(20000,40)] rfl (aI (aI (iM (by omega)) rfl) (aI rfl (aI rfl trivial))) (aI (aI ?_ nP) trivial);show ku ms.length s++l6 i++[((2,((i:Nat):Int)):fE)]=ku ms.length s++l6 (i+1);rw[o7,qF]
  .have q2:(bif decide (((i:Nat):Int)<IntKind.i64.wrap (((s.n:Nat):Int)-((s.b:Nat):Int)))then aJ s else false)=false:=q1;rw[oJ (by omega)]at q2
   have hA:ku ms.length s++l6 i=iY ms.length s:=by
    unfold iY;cases hrm:aJ s with
    |false=>rw[hr hrm];rfl
    |true=>
     by_cases hh:((i:Nat):Int)<((s.n:Nat):Int)-((s.b:Nat):Int)
     .rw[decide_eq_true hh,hrm]at q2;cases q2
     .rw[show i=s.n-s.b by omega];rfl
   refine lp Nat (fun k=>[(6,.int .i64 (k:Nat)),(3,.sl 20001),(4,.bool (aJ s))]) (fun k=>[.row 20001 33 2 bM (iY ms.length s++jk (aJ s) k) []]) (fun k=>s.fl.length-k) (fun k=>k<=s.fl.length) 0 (Nat.zero_le _) ?_ ?_
   .refine Go.Tr.hd [(20001,20000)] rfl (aI (aI rfl rfl) (aI rfl (aI rfl trivial))) (aI (aI ?_ nP) trivial);show ku ms.length s++l6 i=iY ms.length s++jk (aJ s) 0;rw[hA];unfold jk;simp
   intro k hk;have hk:k<=s.fl.length:=hk;have hE:=mY (aJ s) k;refine aI (fun q3=> ?_) (fun q3=> ?_)
   .have hlt:k<s.fl.length:=by have:k<(s.fl.map (bC ms)).length:=sQ q3;omega
    refine aI (by show(iY ms.length s++jk (aJ s) k).length+2<=1073741824;rw[qA];omega) ?_;refine aI (fun q4=> ?_) (fun q4=> ?_)
    .have q4:aJ s=true:=q4;refine aI (by show(iY ms.length s++jk (aJ s) k++[((3,((k:Nat):Int)):fE),(4,((k:Nat):Int))]).length+1<=1073741824;rw[qA,qA];simp only[qI,qR];omega) ?_;refine aF (k+1) hlt ?_ (by show s.fl.length-(k+1)<s.fl.length-k;omega);refine Go.Tr.hd [(20001,62)] rfl (aI (aI (iM (by omega)) rfl) (aI rfl (aI rfl trivial))) (aI (aI ?_ nP) trivial);show iY ms.length s++jk (aJ s) k++[((3,((k:Nat):Int)):fE),(4,((k:Nat):Int))]++[(5,((k:Nat):Int))]=iY ms.length s++jk (aJ s) (k+1)
     rw[gM,q4];simp
    .have q4:aJ s=false:=q4;refine aF (k+1) hlt ?_ (by show s.fl.length-(k+1)<s.fl.length-k;omega);refine Go.Tr.hd [(20001,56)] rfl (aI (aI (iM (by omega)) rfl) (aI rfl (aI rfl trivial))) (aI (aI ?_ nP) trivial);show iY ms.length s++jk (aJ s) k++[((3,((k:Nat):Int)):fE),(4,((k:Nat):Int))]=iY ms.length s++jk (aJ s) (k+1);rw[gM,q4];simp
   .have hge:(s.fl.map (bC ms)).length<=k:=Gf q3;have hke:k=s.fl.length:=by omega
    refine fin [(10000,20001)] (aI rfl ?_);refine⟨⟨?_,nP⟩,trivial⟩;show iY ms.length s++jk (aJ s) k=evs ms.length s;rw[hke];rfl
 .have q0':iU ms.length s=false:=q0;have hv0:ku ms.length s=[]:=by unfold ku;rw[q0'];rfl
  refine lp Nat (fun i=>[(5,.int .i64 (i:Nat)),(3,.sl 20000),(4,.bool (aJ s))]) (fun i=>[.row 20000 33 2 bM (ku ms.length s++l6 i) []]) (fun i=>s.n-s.b-i) (fun i=>i<=s.n-s.b/\(aJ s=false->i=0)) 0 ⟨Nat.zero_le _,fun _=>rfl⟩ ?_ ?_
  .exact Go.Tr.hd [(20000,7)] rfl (aI (aI rfl rfl) (aI rfl (aI e3 trivial))) (aI (aI (by show([]:List fE)=ku ms.length s++l6 0;rw[hv0];rfl) nP) trivial)
  rintro i ⟨hi,hr⟩;have hi:i<=s.n-s.b:=hi;have hr:aJ s=false->i=0:=hr;refine aI (by kernel_rfl) ?_;refine aI (fun q1=> ?_) (fun q1=> ?_)
  .have q2:(bif decide (((i:Nat):Int)<IntKind.i64.wrap (((s.n:Nat):Int)-((s.b:Nat):Int)))then aJ s else false)=true:=q1;rw[oJ (by omega)]at q2
   have hlt:i<s.n-s.b:=by
    by_cases hh:((i:Nat):Int)<((s.n:Nat):Int)-((s.b:Nat):Int)
    .omega
    .rw[decide_eq_false hh]at q2;cases q2
   have hrm:aJ s=true:=by
    by_cases hh:((i:Nat):Int)<((s.n:Nat):Int)-((s.b:Nat):Int)
    .rw[decide_eq_true hh]at q2;exact q2
    .rw[decide_eq_false hh]at q2;cases q2
   refine aI (by show(ku ms.length s++l6 i).length+1<=1073741824;rw[qA,oW];omega) ?_;refine aF (i+1) ⟨hlt,fun hh=>absurd (hrm.symm.trans hh) (by decide)⟩ ?_ (by show s.n-s.b-(i+1)<s.n-s.b-i;omega);refine Go.Tr.hd [(20000,40)] rfl (aI (aI (iM (by omega)) rfl) (aI rfl (aI rfl trivial))) (aI (aI ?_ nP) trivial);show ku ms.length s++l6 i++[((2,((i:Nat):Int)):fE)]=ku ms.length s++l6 (i+1);rw[o7,qF]
  .have q2:(bif decide (((i:Nat):Int)<IntKind.i64.wrap (((s.n:Nat):Int)-((s.b:Nat):Int)))then aJ s else false)=false:=q1;rw[oJ (by omega)]at q2
   have hA:ku ms.length s++l6 i=iY ms.length s:=by
    unfold iY;cases hrm:aJ s with
    |false=>rw[hr hrm];rfl
    |true=>
     by_cases hh:((i:Nat):Int)<((s.n:Nat):Int)-((s.b:Nat):Int)
     .rw[decide_eq_true hh,hrm]at q2;cases q2
     .rw[show i=s.n-s.b by omega];rfl
   refine lp Nat (fun k=>[(6,.int .i64 (k:Nat)),(3,.sl 20001),(4,.bool (aJ s))]) (fun k=>[.row 20001 33 2 bM (iY ms.length s++jk (aJ s) k) []]) (fun k=>s.fl.length-k) (fun k=>k<=s.fl.length) 0 (Nat.zero_le _) ?_ ?_
   .refine Go.Tr.hd [(20001,20000)] rfl (aI (aI rfl rfl) (aI rfl (aI rfl trivial))) (aI (aI ?_ nP) trivial);show ku ms.length s++l6 i=iY ms.length s++jk (aJ s) 0;rw[hA];unfold jk;simp
   intro k hk;have hk:k<=s.fl.length:=hk;have hE:=mY (aJ s) k;refine aI (fun q3=> ?_) (fun q3=> ?_)
   .have hlt:k<s.fl.length:=by have:k<(s.fl.map (bC ms)).length:=sQ q3;omega
    refine aI (by show(iY ms.length s++jk (aJ s) k).length+2<=1073741824;rw[qA];omega) ?_;refine aI (fun q4=> ?_) (fun q4=> ?_)
    .have q4:aJ s=true:=q4;refine aI (by show(iY ms.length s++jk (aJ s) k++[((3,((k:Nat):Int)):fE),(4,((k:Nat):Int))]).length+1<=1073741824;rw[qA,qA];simp only[qI,qR];omega) ?_;refine aF (k+1) hlt ?_ (by show s.fl.length-(k+1)<s.fl.length-k;omega);refine Go.Tr.hd [(20001,62)] rfl (aI (aI (iM (by omega)) rfl) (aI rfl (aI rfl trivial))) (aI (aI ?_ nP) trivial);show iY ms.length s++jk (aJ s) k++[((3,((k:Nat):Int)):fE),(4,((k:Nat):Int))]++[(5,((k:Nat):Int))]=iY ms.length s++jk (aJ s) (k+1)
     rw[gM,q4];simp
    .have q4:aJ s=false:=q4;refine aF (k+1) hlt ?_ (by show s.fl.length-(k+1)<s.fl.length-k;omega);refine Go.Tr.hd [(20001,56)] rfl (aI (aI (iM (by omega)) rfl) (aI rfl (aI rfl trivial))) (aI (aI ?_ nP) trivial);show iY ms.length s++jk (aJ s) k++[((3,((k:Nat):Int)):fE),(4,((k:Nat):Int))]=iY ms.length s++jk (aJ s) (k+1);rw[gM,q4];simp
   .have hge:(s.fl.map (bC ms)).length<=k:=Gf q3;have hke:k=s.fl.length:=by omega
    refine fin [(10000,20001)] (aI rfl ?_);refine⟨⟨?_,nP⟩,trivial⟩;show iY ms.length s++jk (aJ s) k=evs ms.length s;rw[hke];rfl
end
end Go.Proofs.Ytbakpddomlgjbaa
