
/- Draws: words, numbers. -/
import Derived.Test.YtpdipfohnpopmaaDoorAb
set_option linter.unusedSimpArgs false
set_option linter.unusedVariables false
namespace Go.Proofs.YtpdipfohnpopmaaDoor
open Go Go.RowKit Go.Proofs Go.Tr
section
variable (code:List Int)(d:DS)
theorem y7:dI Tryd.prog 36=true:=by kernel_rfl
theorem Et(hb:Bytes code)(hk:d.k<=99999990):∃(x:Int) (d':DS), -2147483648<=x/\x<=2147483647/\d'.k<=d.k+4/\bD Tryd.prog 36 [.ptr 10000 0] (gY code d) (.int .i64 x) (gY code d'):=by
 have k1:=wW code d 6;cases hq:((pk code d 6).1==0)with
 |true=>
  have k2:=wW code (pk code d 6).2 (5:Nat);have h3:=sP hb (pk code d 6).2 (5:Nat);have h4:=kM hb (pk code d 6).2 (n:=(5:Nat)) (by decide)
  have hx:∀y:Int,0<=y->y<5-> -2147483648<=elt (0:Int) [-2147483648,2147483647, -1,65536, -2147483647] y/\elt (0:Int) [-2147483648,2147483647, -1,65536, -2147483647] y<=2147483647:=fun y h1 h2=>by
   have:y=0\/y=1\/y=2\/y=3\/y=4:=by omega
   rcases this with rfl|rfl|rfl|rfl|rfl<;>decide
  have h5:=hx _ h3 h4;refine⟨elt (0:Int) [-2147483648,2147483647, -1,65536, -2147483647] (pk code (pk code d 6).2 (5:Nat)).1,(pk code (pk code d 6).2 (5:Nat)).2,h5.1,h5.2,by omega,?_⟩;refine bD.intro (nt:=11) aZ mixed y7 Tryd.func36 rfl rfl rfl rfl rfl rfl ?_;refine oY (wT code d hb (by omega) 6) ?_;refine aI (fun _=> ?_) (fun q=>by rw[hq]at q;cases q);refine oY (xL code (pk code d 6).2 hb (by omega) [-2147483648,2147483647, -1,65536, -2147483647] (by decide) (by decide)) ?_;refine fin [] (aI ⟨rfl,rfl⟩ ?_);exact⟨trivial,⟨rfl,⟨rfl,rfl⟩,⟨rfl,rfl⟩,trivial⟩,trivial⟩
 |false=>
  have k2:=wW code (pk code d 6).2 12;have h3:=sP hb (pk code d 6).2 12;have h4:=kM hb (pk code d 6).2 (n:=12) (by decide);refine⟨(pk code (pk code d 6).2 12).1-2,(pk code (pk code d 6).2 12).2,by omega,by omega,by omega,?_⟩;refine bD.intro (nt:=11) aZ mixed y7 Tryd.func36 rfl rfl rfl rfl rfl rfl ?_;refine oY (wT code d hb (by omega) 6) ?_;refine aI (fun q=>by rw[hq]at q;cases q) (fun _=> ?_);refine oY (sO code (pk code d 6).2 hb (by omega) 12) ?_;refine fin [] (aI ⟨qO _ (by omega),rfl⟩ ?_);exact⟨trivial,⟨rfl,⟨rfl,rfl⟩,⟨rfl,rfl⟩,trivial⟩,trivial⟩
end
theorem Bv(xs ys:List Int):aD Tryd.prog 4 [.rsl ig xs,.rsl ig ys] (.bool (bif decide ((3000:Int)<(xs.length:Nat))then true else decide ((3000:Int)<(ys.length:Nat)))):=by
 refine aD.intro (nt:=13) aZ mixed (by kernel_rfl) Tryd.func4 rfl rfl rfl rfl rfl ?_;exact rfl
section
variable (code:List Int)(d:DS)
theorem BA:dI Tryd.prog 27=true:=by kernel_rfl
abbrev AX:List Int:=[-9223372036854775808,9223372036854775807,2147483648, -2147483649,4294967296, -4294967296,4294967295,0]
theorem Ez(hb:Bytes code)(hk:d.k<=99999980):∃(x:Int) (d':DS), -9223372036854775808<=x/\x<=9223372036854775807/\bD Tryd.prog 27 [.ptr 10000 0] (gY code d) (.int .i64 x) (gY code d'):=by
 have k1:=wW code d 3;cases hq:((pk code d 3).1==0)with
 |true=>
  have h3:=sP hb (pk code d 3).2 (8:Nat);have h4:=kM hb (pk code d 3).2 (n:=(8:Nat)) (by decide)
  have hx:∀y:Int,0<=y->y<8-> -9223372036854775808<=elt (0:Int) AX y/\elt (0:Int) AX y<=9223372036854775807:=fun y h1 h2=>by
   have:y=0\/y=1\/y=2\/y=3\/y=4\/y=5\/y=6\/y=7:=by omega
   rcases this with rfl|rfl|rfl|rfl|rfl|rfl|rfl|rfl<;>decide
  have h5:=hx _ h3 h4;refine⟨elt (0:Int) AX (pk code (pk code d 3).2 (8:Nat)).1,(pk code (pk code d 3).2 (8:Nat)).2,h5.1,h5.2,?_⟩;refine bD.intro (nt:=10) aZ mixed BA Tryd.func27 rfl rfl rfl rfl rfl rfl ?_;refine oY (wT code d hb (by omega) 3) ?_;refine aI (fun _=> ?_) (fun q=>by rw[hq]at q;cases q);refine oY (xL code (pk code d 3).2 hb (by omega) AX (by decide) (by decide)) ?_;refine fin [] (aI ⟨rfl,rfl⟩ ?_);exact⟨trivial,⟨rfl,⟨rfl,rfl⟩,⟨rfl,rfl⟩,trivial⟩,trivial⟩
 |false=>
  obtain⟨x,d',h1,h2,_,hx⟩:=Et code (pk code d 3).2 hb (by omega);refine⟨x,d',by omega,by omega,?_⟩;refine bD.intro (nt:=10) aZ mixed BA Tryd.func27 rfl rfl rfl rfl rfl rfl ?_;refine oY (wT code d hb (by omega) 3) ?_;refine aI (fun q=>by rw[hq]at q;cases q) (fun _=> ?_);refine oY hx ?_;refine fin [] (aI ⟨rfl,rfl⟩ ?_);exact⟨trivial,⟨rfl,⟨rfl,rfl⟩,⟨rfl,rfl⟩,trivial⟩,trivial⟩
theorem xY(hb:Bytes code):∃x:Int, -9223372036854775808<=x/\x<=9223372036854775807/\aD Tryd.prog 12 [.rsl ig code] (.int .i64 x):=by
 obtain⟨x,d',h1,h2,hx⟩:=Ez code ⟨0,0⟩ hb (by decide);refine⟨x,h1,h2,?_⟩;refine aD.intro (nt:=8) aZ mixed (by kernel_rfl) Tryd.func12 rfl rfl rfl rfl rfl ?_;refine oY (yD code) ?_;refine oY hx ?_;exact⟨rfl,rfl⟩
theorem D8(hb:Bytes code)(hk:d.k<=99999999)(xs:List ByteArray)(h1:1<=xs.length)(h2:xs.length<=1000000):bD Tryd.prog 17 [.ptr 10000 0,.sl 10001] (gY code d++[.row 10001 9 1 .str xs []]) (.raw (.string (elt (dflt .str) xs (pk code d (xs.length:Nat)).1))) (gY code (pk code d (xs.length:Nat)).2++[.row 10001 9 1 .str xs []]):=by
 refine bD.intro (nt:=12) aZ mixed (by kernel_rfl) Tryd.func17 rfl rfl rfl rfl rfl rfl ?_;refine oY (sO code d hb hk (xs.length:Nat)) ?_;have h3:=sP hb d (xs.length:Nat);have h4:=kM hb d (n:=(xs.length:Nat)) (by omega);refine aI (show 0<=(pk code d (xs.length:Nat)).1/\(pk code d (xs.length:Nat)).1<(xs.length:Nat) from⟨h3,h4⟩) ?_;refine fin [] (aI rfl ?_);exact⟨trivial,⟨rfl,⟨rfl,rfl⟩,⟨rfl,rfl⟩,trivial⟩,⟨rfl,nP⟩,trivial⟩
def zZ(code:List Int):Nat->List Int->DS->List Int×DS
 |0,xs,d=>(xs,d)
 |j+1,xs,d=>zZ code j (xs++[IntKind.u8.wrap (nx code d).1]) (nx code d).2
theorem wF(code:List Int):∀(j:Nat) (xs:List Int) (d:DS),(zZ code j xs d).1.length=xs.length+j
 |0,_,_=>rfl
 |j+1,xs,d=>by rw[zZ,wF];simp;omega
set_option maxRecDepth 100000 in
theorem Ec(hb:Bytes code)(hk:d.k<=99999000)(m:Int)(hm:1<=m)(hm2:m<=100):bD Tryd.prog 18 [.ptr 10000 0,.int .i64 m] (gY code d) (.raw (.string (strOfNums (zZ code (pk code d m).1.toNat [] (pk code d m).2).1))) (gY code (zZ code (pk code d m).1.toNat [] (pk code d m).2).2):=by
 refine bD.intro (nt:=23) aZ mixed (by kernel_rfl) Tryd.func18 rfl rfl rfl rfl rfl rfl ?_;refine oY (sO code d hb (by omega) m) ?_;have h3:=sP hb d m;have h4:=kM hb d (n:=m) hm;have h5:=wW code d m;obtain⟨N,hN⟩:∃N:Nat,(pk code d m).1=(N:Int):=⟨(pk code d m).1.toNat,by omega⟩;generalize (pk code d m).2=d1 at*;rw[hN];rw[hN]at h4;rw[show((N:Int)).toNat=N by omega];refine lp (List Int×Nat×DS) (fun s=>[(5,.sl 20000),(6,.int .i64 (s.2.1:Nat))]) (fun s=>[.dn 10000 47 [.rsl ig code,.int .i64 (s.2.2.k:Nat),.int .u64 s.2.2.s],.row 20000 5 1 (.int .u8) s.1 []]) (fun s=>s.2.1) (fun s=>zZ code s.2.1 s.1 s.2.2=zZ code N [] d1/\s.2.2.k+s.2.1<=99999900/\s.1.length+s.2.1<=100) ([],N,d1) ⟨rfl,by show d1.k+N<=_;omega,by show 0+N<=_;omega⟩ ?_ ?_
 .exact hd [(20000,7)] rfl (aI rfl (aI ⟨rfl,rfl⟩ trivial)) (aI trivial (aI ⟨rfl,⟨rfl,rfl⟩,⟨rfl,rfl⟩,trivial⟩ (aI ⟨rfl,nP⟩ trivial)))
 rintro⟨xs,j,e⟩ ⟨g1,g2,g3⟩;have g1:zZ code j xs e=zZ code N [] d1:=g1;have g2:e.k+j<=99999900:=g2;have g3:xs.length+j<=100:=g3;refine aI (fun q1=> ?_) (fun q1=> ?_)
 .have hj:0<j:=by have:0<((j:Nat):Int):=of_decide_eq_true q1;omega
  obtain⟨i,rfl⟩:∃i,j=i+1:=⟨j-1,by omega⟩;refine oY (yZ code e hb (by omega)) ?_;refine aI (show xs.length+1<=1073741824 by omega) ?_;refine jv (xs++[IntKind.u8.wrap (nx code e).1],i,(nx code e).2) ⟨g1,?_,?_⟩ ?_ (by show i<i+1;omega)
  .show e.k+1+i<=99999900;omega
  .show(xs++[_]).length+i<=100;rw[qA];simp only[qI,qR];omega
  .exact hd [(20000,20)] rfl (aI rfl (aI ⟨xC (by omega),rfl⟩ trivial)) (aI trivial (aI ⟨rfl,⟨rfl,rfl⟩,⟨rfl,rfl⟩,trivial⟩ (aI ⟨rfl,nP⟩ trivial)))
 .have hj:j=0:=by have:¬0<((j:Nat):Int):=of_decide_eq_false q1;omega
  subst hj;rw[<-g1];refine fin [] (aI rfl ?_);exact⟨trivial,⟨rfl,⟨rfl,rfl⟩,⟨rfl,rfl⟩,trivial⟩,trivial⟩
end
end Go.Proofs.YtpdipfohnpopmaaDoor
