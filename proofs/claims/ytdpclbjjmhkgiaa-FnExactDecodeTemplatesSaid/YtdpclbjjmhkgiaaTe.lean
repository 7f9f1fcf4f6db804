
/- Frames of bytes: checksum, parts, comparison; walked on both sides. -/
import Derived.Test.YtdpclbjjmhkgiaaShort
import Derived.Test.YtdpclbjjmhkgiaaBl
set_option maxRecDepth 100000
set_option linter.unusedSimpArgs false
set_option linter.unusedVariables false
namespace Go.Proofs.Ytdpclbjjmhkgiaa
open Go Go.RowKit Go.Proofs Go.Tr
def XH(s:Int):Int:=s.fdiv (2 ^ (min (1:Int).toNat IntKind.u32.bits))
def Yl(s:Int):Int:=bif bits .and .u32 s 1==1 then bits .xor .u32 (XH s) 3988292384 else XH s
def Q0:Nat→Int→Int
 |0,s=>s
 |k+1,s=>Yl (Q0 k s)
def zo(cs:List Int):Nat→Int
 |0=>4294967295
 |i+1=>Q0 8 (bits .xor .u32 (zo cs i) (IntKind.u32.wrap (elt 0 cs (i:Nat))))
theorem Pp:bY Try.prog 72=true:=by kernel_rfl
theorem YB(cs:List Int)(hl:cs.length≤1000000):bg Try.prog 72 [.rsl bn cs] (.int .i64 (IntKind.i64.wrap (bits .xor .u32 4294967295 (zo cs cs.length)))):=by
 refine bg.intro (nt:=32) aS mixed Pp Try.func72 rfl rfl rfl rfl rfl ?_;refine lp Nat (fun i=>[(3,.int .u32 (zo cs i)),(9,.int .i64 (i:Nat))]) (fun _=>[]) (fun i=>cs.length-i) (fun i=>i≤cs.length) 0 (Nat.zero_le _) ?_ ?_
 ·exact Go.Tr.hd [] rfl (aI ⟨rfl,rfl⟩ (aI ⟨rfl,rfl⟩ trivial)) trivial
 intro i hi;refine aI (fun q1=> ?_) (fun q1=> ?_)
 ·have hlt:=qM q1;refine aI ⟨by omega,by omega⟩ ?_;refine lp Nat (fun k=>[(3,.int .u32 (Q0 k (bits .xor .u32 (zo cs i) (IntKind.u32.wrap (elt 0 cs (i:Nat)))))),(17,.int .i64 (k:Nat))]) (fun _=>[]) (fun k=>8-k) (fun k=>k≤8) 0 (Nat.zero_le _) ?_ ?_
  ·exact Go.Tr.hd [] rfl (aI ⟨rfl,rfl⟩ (aI ⟨rfl,rfl⟩ trivial)) trivial
  intro k hk;refine aI (fun q2=> ?_) (fun q2=> ?_)
  ·have hk2:k<8:=qM (b:=8) q2;refine aI (by decide) ?_;refine aI (fun q3=> ?_) (fun q3=> ?_)
   ·refine aK (k+1) hk2 ?_ (by show 8-(k+1)<8-k;omega);refine Go.Tr.hd [] rfl (aI ⟨?_,rfl⟩ (aI ⟨bD (by omega),rfl⟩ trivial)) trivial;exact(congrArg (fun b=>bif b then _ else _) q3).symm
   ·refine aK (k+1) hk2 ?_ (by show 8-(k+1)<8-k;omega);refine Go.Tr.hd [] rfl (aI ⟨?_,rfl⟩ (aI ⟨bD (by omega),rfl⟩ trivial)) trivial;exact(congrArg (fun b=>bif b then _ else _) q3).symm
  ·have hk2:k=8:=Nat.le_antisymm hk (qI (b:=8) q2);subst hk2;refine aK (i+1) hlt ?_ (by show cs.length-(i+1)<cs.length-i;omega);exact Go.Tr.hd [] rfl (aI ⟨rfl,rfl⟩ (aI ⟨bD (by omega),rfl⟩ trivial)) trivial
 ·have hge:i=cs.length:=Nat.le_antisymm hi (qI q1);subst hge;exact⟨rfl,rfl⟩
theorem YC(cs:List Int)(hl:cs.length≤1000000):bg Try.prog 54 [.rsl bn cs] (.int .u32 (bits .xor .u32 (zo cs cs.length) 4294967295)):=by
 refine bg.intro (nt:=34) aS mixed (by kernel_rfl) Try.func54 rfl rfl rfl rfl rfl ?_;refine lp Nat (fun i=>[(3,.int .u32 (zo cs i)),(4,.int .i64 (i:Nat))]) (fun _=>[]) (fun i=>cs.length-i) (fun i=>i≤cs.length) 0 (Nat.zero_le _) ?_ ?_
 ·exact Go.Tr.hd [] rfl (aI ⟨rfl,rfl⟩ (aI ⟨rfl,rfl⟩ trivial)) trivial
 intro i hi;refine aI (fun q1=> ?_) (fun q1=> ?_)
 ·have hlt:=qM q1;refine aI ⟨by omega,by omega⟩ ?_;refine lp Nat (fun k=>[(3,.int .u32 (Q0 k (bits .xor .u32 (zo cs i) (IntKind.u32.wrap (elt 0 cs (i:Nat)))))),(5,.int .i64 (k:Nat))]) (fun _=>[]) (fun k=>8-k) (fun k=>k≤8) 0 (Nat.zero_le _) ?_ ?_
  ·exact Go.Tr.hd [] rfl (aI ⟨rfl,rfl⟩ (aI ⟨rfl,rfl⟩ trivial)) trivial
  intro k hk;refine aI (fun q2=> ?_) (fun q2=> ?_)
  ·have hk2:k<8:=qM (b:=8) q2;refine aI (by decide) ?_;refine aI (fun q3=> ?_) (fun q3=> ?_)
   ·refine aK (k+1) hk2 ?_ (by show 8-(k+1)<8-k;omega);refine Go.Tr.hd [] rfl (aI ⟨?_,rfl⟩ (aI ⟨bD (by omega),rfl⟩ trivial)) trivial;exact(congrArg (fun b=>bif b then _ else _) q3).symm
   ·refine aK (k+1) hk2 ?_ (by show 8-(k+1)<8-k;omega);refine Go.Tr.hd [] rfl (aI ⟨?_,rfl⟩ (aI ⟨bD (by omega),rfl⟩ trivial)) trivial;exact(congrArg (fun b=>bif b then _ else _) q3).symm
  ·have hk2:k=8:=Nat.le_antisymm hk (qI (b:=8) q2);subst hk2;refine aK (i+1) hlt ?_ (by show cs.length-(i+1)<cs.length-i;omega);exact Go.Tr.hd [] rfl (aI ⟨rfl,rfl⟩ (aI ⟨bD (by omega),rfl⟩ trivial)) trivial
 ·have hge:i=cs.length:=Nat.le_antisymm hi (qI q1);subst hge;exact⟨rfl,rfl⟩
theorem Lc:bY Try.prog 39=true:=by kernel_rfl
theorem U5(a b:List Int)(ha:a.length≤1000000):bg Try.prog 39 [.rsl bn a,.rsl bn b] (.bool (decide (a=b))):=by
 refine bg.intro (nt:=26) aS mixed Lc Try.func39 rfl rfl rfl rfl rfl ?_;refine aI (fun q0=> ?_) (fun q0=> ?_)
 ·have q:((a.length:Nat):Int)≠(b.length:Nat):=by simpa using(show(((a.length:Nat):Int) !=(b.length:Nat))=true from q0)
  have:a≠b:=fun e=>q (by rw[e])
  show false=decide (a=b);rw[decide_eq_false this]
 have hab:a.length=b.length:=by
  have:((a.length:Nat):Int)=(b.length:Nat):=by simpa using(show(((a.length:Nat):Int) !=(b.length:Nat))=false from q0)
  omega
 refine lp Nat (fun i=>[(13,.int .i64 (i:Nat))]) (fun _=>[]) (fun i=>a.length-i) (fun i=>i≤a.length∧a.take i=b.take i) 0 ⟨Nat.zero_le _,rfl⟩ ?_ ?_
 ·exact Go.Tr.hd [] rfl (aI ⟨rfl,rfl⟩ trivial) trivial
 rintro i ⟨hi,he⟩;refine aI (fun q1=> ?_) (fun q1=> ?_)
 ·have hlt:=qM q1;have hlb:i<b.length:=by omega
  have e1:elt 0 a ((i:Nat):Int)=a[i]:=by unfold elt;rw[show((i:Nat):Int).toNat=i by omega,List.getD_eq_getElem?_getD,List.getElem?_eq_getElem hlt];rfl
  have e2:elt 0 b ((i:Nat):Int)=b[i]:=by unfold elt;rw[show((i:Nat):Int).toNat=i by omega,List.getD_eq_getElem?_getD,List.getElem?_eq_getElem hlb];rfl
  refine aI ⟨by omega,by omega⟩ ?_;refine aI ⟨by omega,by omega⟩ ?_;refine aI (by kernel_rfl) ?_;refine aI (fun q2=> ?_) (fun q2=> ?_)
  ·have q:elt 0 a ((i:Nat):Int)≠elt 0 b ((i:Nat):Int):=by simpa using(show(elt 0 a ((i:Nat):Int) !=elt 0 b ((i:Nat):Int))=true from q2)
   have:a≠b:=fun e=>q (by rw[e])
   show false=decide (a=b);rw[decide_eq_false this]
  ·have q:elt 0 a ((i:Nat):Int)=elt 0 b ((i:Nat):Int):=by simpa using(show(elt 0 a ((i:Nat):Int) !=elt 0 b ((i:Nat):Int))=false from q2)
   refine aK (i+1) ⟨hlt,?_⟩ ?_ (by show a.length-(i+1)<a.length-i;omega)
   ·rw[List.take_succ_eq_append_getElem hlt,List.take_succ_eq_append_getElem hlb,he,←e1,←e2,q]
   ·exact Go.Tr.hd [] rfl (aI ⟨bD (by omega),rfl⟩ trivial) trivial
 ·have hge:i=a.length:=Nat.le_antisymm hi (qI q1);subst hge;rw[List.take_length,hab,List.take_length]at he;show true=decide (a=b);rw[decide_eq_true he]
def Mt(b:List Int)(s:Int):Nat→List Int×Int
 |0=>(b,s)
 |j+1=>((Mt b s j).1++[IntKind.u8.wrap ((Mt b s j).2.tmod 256)],IntKind.i64.wrap ((Mt b s j).2.tdiv 256))
theorem Eb(b:List Int)(s:Int):∀j,(Mt b s j).1.length=b.length+j
 |0=>rfl
 |j+1=>by rw[Mt,List.length_append,Eb b s j];rfl
def hdF(k:Int)(cs:List Int):List Int:=[73,78,69,84,1]++[k]++cs
theorem zM(k:Int)(cs:List Int):(hdF k cs).length=cs.length+6:=by unfold hdF;simp
def BH(b:List Int):Int:=IntKind.i64.wrap (bits .xor .u32 4294967295 (zo b b.length))
def bJ(k:Int)(cs:List Int):List Int:=(Mt (hdF k cs) (BH (hdF k cs)) 4).1
theorem lZ(k:Int)(cs:List Int):(bJ k cs).length=cs.length+10:=by unfold bJ;rw[Eb,zM]
abbrev tB(g:Nat)(b:List Int):List Tok:=[.row g 5 1 bn b []]
theorem headW:aC Try.prog 71 [] [] (.sl 10000) (tB 10000 [73,78,69,84,1]):=by
 refine aC.intro (nt:=2) aS mixed (by kernel_rfl) Try.func71 rfl rfl rfl rfl rfl rfl ?_;exact fin [(10000,1)] (aI rfl ⟨⟨rfl,nP⟩,trivial⟩)
theorem YD(b:List Int)(hl:b.length≤1000000):aC Try.prog 72 [.sl 10000] (tB 10000 b) (.int .i64 (BH b)) (tB 10000 b):=
 aC.Cg aS [22] Pp (YB b hl) rfl
theorem Bf:bY Try.prog 44=true:=by kernel_rfl
theorem KG(k:Int)(cs:List Int)(h:cs.length≤999990):aC Try.prog 44 [.int .u8 k,.rsl bn cs] [] (bif decide (60000<((cs.length+10:Nat):Int))then .tup [.raw (.slice none 0 0),.int .i64 4]else .tup [.sl 10000,.int .i64 0]) (bif decide (60000<((cs.length+10:Nat):Int))then[]else tB 10000 (bJ k cs)):=by
 have hl:=zM k cs;refine aC.intro (nt:=31) aS mixed Bf Try.func44 rfl rfl rfl rfl rfl rfl ?_;refine Or.inr (eI _ (eI _ (aI headW ?_)));refine aI (by show 5+1≤1073741824;decide) ?_;refine aI (by show 6+cs.length≤_;omega) ?_;refine Or.inr (eI _ (eI _ (aI (YD (hdF k cs) (by omega)) ?_)));refine lp Nat (fun j=>[(6,.sl 20000),(7,.int .i64 (Mt (hdF k cs) (BH (hdF k cs)) j).2),(16,.int .i64 (j:Nat))]) (fun j=>tB 20000 (Mt (hdF k cs) (BH (hdF k cs)) j).1) (fun j=>4-j) (fun j=>j≤4) 0 (Nat.zero_le _) ?_ ?_
 ·exact Go.Tr.hd [(20000,13)] rfl (aI rfl (aI ⟨rfl,rfl⟩ (aI ⟨rfl,rfl⟩ trivial))) ⟨⟨rfl,nP⟩,trivial⟩
 intro j hj;have hlj:=Eb (hdF k cs) (BH (hdF k cs)) j;refine aI (fun q=> ?_) (fun q=> ?_)
 ·have hj4:j<4:=qM (b:=4) q;refine aI (by decide) ?_;refine aI (by show(Mt (hdF k cs) (BH (hdF k cs)) j).1.length+1≤_;omega) ?_;refine aI (by decide) ?_;refine aK (j+1) hj4 ?_ (by show 4-(j+1)<4-j;omega);exact Go.Tr.hd [(20000,23)] rfl (aI rfl (aI ⟨rfl,rfl⟩ (aI ⟨bD (by omega),rfl⟩ trivial))) ⟨⟨rfl,nP⟩,trivial⟩
 have hj4:j=4:=Nat.le_antisymm hj (qI (b:=4) q);subst hj4;have e:(((Mt (hdF k cs) (BH (hdF k cs)) 4).1.length:Nat):Int)=((cs.length+10:Nat):Int):=by rw[hlj,hl]
 refine aI (fun q2=> ?_) (fun q2=> ?_)
 ·have q2:decide ((60000:Int)<(((Mt (hdF k cs) (BH (hdF k cs)) 4).1.length:Nat):Int))=true:=q2;rw[e]at q2;rw[q2];exact fin [] (aI rfl trivial)
 ·have q2:decide ((60000:Int)<(((Mt (hdF k cs) (BH (hdF k cs)) 4).1.length:Nat):Int))=false:=q2;rw[e]at q2;rw[q2];exact fin [(10000,20000)] (aI rfl ⟨⟨rfl,nP⟩,trivial⟩)
theorem Gp(k:Int)(cs:List Int)(h:cs.length+10≤60000):aC Try.prog 44 [.int .u8 k,.rsl bn cs] [] (.tup [.sl 10000,.int .i64 0]) (tB 10000 (bJ k cs)):=by
 have:=KG k cs (by omega)
 rwa[decide_eq_false (by omega)]at this
theorem Mv(k:Int)(cs:List Int)(h:60000<cs.length+10)(h2:cs.length≤999990):aC Try.prog 44 [.int .u8 k,.rsl bn cs] [] (.tup [.raw (.slice none 0 0),.int .i64 4]) []:=by
 have:=KG k cs h2
 rwa[decide_eq_true (by omega)]at this
def midD(b:List Int):List Int:=List.take ((IntKind.i64.wrap (((b.length:Nat):Int)-4)).toNat-(6:Int).toNat) (List.drop (6:Int).toNat b)
theorem EF{b:List Int}(h:10≤b.length)(h2:b.length≤1000000):midD b=(b.drop 6).take (b.length-10):=by
 unfold midD;rw[IntWalk.i64_in _ (by omega)];rw[show(((b.length:Nat):Int)-4).toNat-(6:Int).toNat=b.length-10 by omega];rfl
def bI(b:List Int):Int:=bif decide (60000<((b.length:Nat):Int))then 2 else bif decide (((b.length:Nat):Int)<10)then 14 else bif (bif decide (elt 0 b 5<1)then true else decide (3<elt 0 b 5))then 14 else bif !decide (bJ (elt 0 b 5) (midD b)=b)then 14 else 0
theorem yU(b:List Int)(hl:b.length≤1048576):aC Try.prog 38 [.rsl bn b] [] (bif bI b==0 then .tup [.int .i64 (IntKind.i64.wrap (elt 0 b 5)),.rsl bn (midD b),.int .i64 0]else .tup [.int .i64 0,.raw (.slice none 0 0),.int .i64 (bI b)]) []:=by
 refine aC.intro (nt:=42) aS mixed (by kernel_rfl) Try.func38 rfl rfl rfl rfl rfl rfl ?_;refine aI (fun q1=> ?_) (fun q1=> ?_)
 ·have e:bI b=2:=by unfold bI;rw[show decide (60000<((b.length:Nat):Int))=true from q1];rfl
  rw[e];exact fin [] (aI rfl trivial)
 have e1:decide (60000<((b.length:Nat):Int))=false:=q1;refine aI (fun q2=> ?_) (fun q2=> ?_)
 ·have e:bI b=14:=by unfold bI;rw[e1,show decide (((b.length:Nat):Int)<10)=true from q2];rfl
  rw[e];exact fin [] (aI rfl trivial)
 have e2:decide (((b.length:Nat):Int)<10)=false:=q2;have hl1:b.length≤60000:=by have:=of_decide_eq_false e1;omega
 have hl2:10≤b.length:=by have:=of_decide_eq_false e2;omega
 have hm:=EF hl2 (by omega);have hml:(midD b).length=b.length-10:=by rw[hm,List.length_take,List.length_drop];omega
 refine aI ⟨by omega,by omega⟩ ?_;have ew:IntKind.i64.wrap (((b.length:Nat):Int)-4)=((b.length:Nat):Int)-4:=IntWalk.i64_in _ (by omega);refine aI (by show _≤_∧_≤IntKind.i64.wrap (((b.length:Nat):Int)-4)∧IntKind.i64.wrap (((b.length:Nat):Int)-4)≤_;rw[ew];omega) ?_;refine aI (by kernel_rfl) ?_;refine aI (fun q3=> ?_) (fun q3=> ?_)
 ·have e:bI b=14:=by unfold bI;rw[e1,e2,show(bif decide (elt 0 b 5<1)then true else decide (3<elt 0 b 5))=true from q3];rfl
  rw[e];exact fin [] (aI rfl trivial)
 have e3:(bif decide (elt 0 b 5<1)then true else decide (3<elt 0 b 5))=false:=q3;refine Or.inr (eI _ (eI _ (aI (Gp (elt 0 b 5) (midD b) (by omega)) ?_)))
 have hE:aC Try.prog 39 [.sl 10000,.rsl bn b] (tB 10000 (bJ (elt 0 b 5) (midD b))) (.bool (decide (bJ (elt 0 b 5) (midD b)=b))) (tB 10000 (bJ (elt 0 b 5) (midD b))):=
  aC.Cg aS [22,22] Lc (U5 _ _ (by rw[lZ];omega)) rfl
 refine Or.inr (eI _ (eI _ (aI hE ?_)));refine aI (fun q4=> ?_) (fun q4=> ?_)
 ·have e:bI b=14:=by unfold bI;rw[e1,e2,e3,show(!decide (bJ (elt 0 b 5) (midD b)=b))=true from q4];rfl
  rw[e];exact fin [] (aI rfl trivial)
 ·have e:bI b=0:=by unfold bI;rw[e1,e2,e3,show(!decide (bJ (elt 0 b 5) (midD b)=b))=false from q4];rfl
  rw[e];exact fin [] (aI rfl trivial)
theorem yI{j:Nat}(h:j≤4):(1:Int)≤128 ^ j∧(128:Int) ^ j≤268435456:=by
 match j,h with
 |0,_=>decide
 |1,_=>decide
 |2,_=>decide
 |3,_=>decide
 |4,_=>decide
theorem yD{x:Int}(h0:0≤x):x.tmod 128=x % 128:=Int.tmod_eq_emod_of_nonneg h0
theorem FE{z x:Int}{j:Nat}(h:j≤4)(z0:0≤z)(z1:z<128 ^ j):0≤z+x % 128*128 ^ j∧z+x % 128*128 ^ j<128 ^ (j+1)∧0≤x % 128*128 ^ j∧x % 128*128 ^ j≤34359738368∧z+x % 128*128 ^ j≤34359738368:=by
 have ⟨p1,p2⟩:=yI h;have m0:0≤x % 128:=Int.emod_nonneg _ (by decide);have m1:x % 128≤127:=by omega
 have h1:=Int.mul_le_mul_of_nonneg_right m1 (by omega:(0:Int)≤128 ^ j);have h2:=Int.mul_nonneg m0 (by omega:(0:Int)≤128 ^ j);have h3:(128:Int) ^ (j+1)=128 ^ j*128:=Int.pow_succ _ _;generalize (128:Int) ^ j=p at*;generalize x % 128*p=y at*;omega
theorem V6{z x:Int}{j:Nat}(h:j≤4)(x0:0≤x)(x1:x≤255)(z0:0≤z)(z1:z<128 ^ j):IntKind.i64.wrap (z+IntKind.i64.wrap (IntKind.i64.wrap (x.tmod 128)*128 ^ j))=z+x % 128*128 ^ j:=by
 have hb:=FE (x:=x) h z0 z1;rw[yD x0,IntWalk.i64_in (x % 128) (by omega),IntWalk.i64_in (x % 128*128 ^ j) (by omega),IntWalk.i64_in _ (by omega)]
theorem u64_in{n:Int}(h0:0≤n)(h1:n≤1000000000000):IntKind.u64.wrap n=n:=by
 unfold IntKind.wrap;simp[IntKind.signed,IntKind.bits];omega
theorem Yx(j:Nat):(2:Int) ^ (7*j)=128 ^ j:=by rw[Int.pow_mul];rfl
theorem V7{z x:Int}{j:Nat}(h:j≤4)(x0:0≤x)(x1:x≤255)(z0:0≤z)(z1:z<128 ^ j):IntKind.u64.wrap (z+IntKind.u64.wrap ((IntKind.u64.wrap x).tmod 128*2 ^ (min (IntKind.i64.wrap (7*((j:Nat):Int))).toNat IntKind.u64.bits)))=z+x % 128*128 ^ j:=by
 have hb:=FE (x:=x) h z0 z1;rw[u64_in x0 (by omega),yD x0,IntWalk.i64_in _ (by omega)];rw[show min (7*((j:Nat):Int)).toNat IntKind.u64.bits=7*j by show min _ 64=_;omega,Yx];rw[u64_in hb.2.2.1 (by omega),u64_in hb.1 (by omega)]
theorem Yv{n:Int}(h0:0≤n)(h1:n≤1000000000000):bits .xor .i64 (if IntKind.i64.signed then -1 else IntKind.i64.max) n= -n-1:=by
 show IntKind.i64.wrap ((BitVec.ofInt 64 (-1) ^^^ BitVec.ofInt 64 n).toNat:Nat)=_
 have e:BitVec.ofInt 64 (-1) ^^^ BitVec.ofInt 64 n= ~~~ (BitVec.ofInt 64 n):=by
  rw[show BitVec.ofInt 64 (-1)=BitVec.allOnes 64 by decide,BitVec.allOnes_xor]
 have e2:(BitVec.ofInt 64 n).toNat=n.toNat:=by rw[BitVec.toNat_ofInt];omega
 rw[e,BitVec.toNat_not,e2];unfold IntKind.wrap;simp[IntKind.signed,IntKind.bits];omega
def zag(z:Int):Int:=bif z % 2==1 then -(z/2)-1 else z/2
def vV(cs:List Int)(at_:Nat):Nat→Nat→Int→Option (Int×Nat)
 |0,_,_=>none
 |f+1,j,z=>bif decide (at_+j<cs.length)then
   (bif decide (128≤elt 0 cs ((at_+j:Nat):Int))then vV cs at_ f (j+1) (z+elt 0 cs ((at_+j:Nat):Int) % 128*128 ^ j)
   else bif (elt 0 cs ((at_+j:Nat):Int)==0&&decide (0<j))|| !eH (zag (z+elt 0 cs ((at_+j:Nat):Int) % 128*128 ^ j))then none
   else some (zag (z+elt 0 cs ((at_+j:Nat):Int) % 128*128 ^ j),at_+j+1))else none
def rJ(cs:List Int)(at_:Nat):Option (Int×Nat):=vV cs at_ 5 0 0
def UY:Option (Int×Nat)→Int×Int×Int
 |some (n,a)=>(n,(a:Nat),0)
 |none=>(0,0,14)
structure mK(cs:List Int):Prop where
 len:cs.length≤1048576
 all:∀x∈cs,0≤x∧x≤255
theorem mK.elt{cs:List Int}(h:mK cs)(i:Int):0≤elt 0 cs i∧elt 0 cs i≤255:=by
 unfold Go.Tr.elt;rw[List.getD_eq_getElem?_getD];cases hi:cs[i.toNat]? with
 |none=>simp
 |some v=>exact h.all v (List.mem_of_getElem? hi)
theorem zN{cs:List Int}{at_:Nat}:∀{f j:Nat} {z n:Int} {a:Nat},vV cs at_ f j z=some (n,a)→at_+j<a∧a≤cs.length∧eH n=true
 |0,_,_,_,_,h=>by cases h
 |f+1,j,z,n,a,h=>by
  unfold vV at h;cases hd:decide (at_+j<cs.length)with
  |false=>rw[hd]at h;cases h
  |true=>
   rw[hd]at h;simp only[cond_true]at h;have hlt:=of_decide_eq_true hd;cases h2:decide (128≤Go.Tr.elt 0 cs ((at_+j:Nat):Int))with
   |true=>
    rw[h2]at h;simp only[cond_true]at h;have:=zN h;exact⟨by omega,this.2⟩
   |false=>
    rw[h2]at h;simp only[cond_false]at h;cases h3:((Go.Tr.elt 0 cs ((at_+j:Nat):Int)==0&&decide (0<j))|| !eH (zag (z+Go.Tr.elt 0 cs ((at_+j:Nat):Int) % 128*128 ^ j)))with
    |true=>rw[h3]at h;cases h
    |false=>
     rw[h3]at h;simp only[cond_false,Option.some.injEq,Prod.mk.injEq]at h;rw[Bool.or_eq_false_iff]at h3;have h4:=h3.2;rw[←h.1,←h.2];refine⟨by omega,by omega,by simpa using h4⟩
theorem XP{a b a' b' c:Int}(h:a=a')(k:b=b'):SV.tup [.int .i64 a,.int .i64 b,.int .i64 c]=.tup [.int .i64 a',.int .i64 b',.int .i64 c]:=by rw[h,k]
theorem WG(cs:List Int)(hb:mK cs)(at_:Nat)(ha:at_≤cs.length):bg Try.prog 58 [.rsl bn cs,.int .i64 (at_:Nat)] (.tup [.int .i64 (UY (rJ cs at_)).1,.int .i64 (UY (rJ cs at_)).2.1,.int .i64 (UY (rJ cs at_)).2.2]):=by
 have hl:=hb.len;refine bg.intro (nt:=75) aS mixed (by kernel_rfl) Try.func58 rfl rfl rfl rfl rfl ?_
 have q0:(bif decide (((at_:Nat):Int)<0)then true else decide (((cs.length:Nat):Int)<((at_:Nat):Int)))=false:=by
  rw[decide_eq_false (by omega),decide_eq_false (by omega)];rfl
 refine aI (fun q=>by have q:(bif decide (((at_:Nat):Int)<0)then true else decide (((cs.length:Nat):Int)<((at_:Nat):Int)))=true:=q;rw[q0]at q;cases q) (fun _=> ?_);refine lp (Nat×Int) (fun s=>[(7,.int .i64 s.2),(8,.int .i64 (128 ^ s.1)),(9,.int .i64 ((at_+s.1:Nat):Int))]) (fun _=>[]) (fun s=>6-s.1) (fun s=>s.1≤5∧0≤s.2∧s.2<128 ^ s.1∧vV cs at_ (5-s.1) s.1 s.2=rJ cs at_) (0,0) ⟨by decide,by decide,by decide,rfl⟩ ?_ ?_
 ·exact Go.Tr.hd [] rfl (aI ⟨rfl,rfl⟩ (aI ⟨rfl,rfl⟩ (aI ⟨rfl,rfl⟩ trivial))) trivial
 rintro⟨j,z⟩ ⟨hj,z0,z1,hg⟩;have hj:j≤5:=hj;have z0:0≤z:=z0;have z1:z<128 ^ j:=z1;have hg:vV cs at_ (5-j) j z=rJ cs at_:=hg
 have e5:IntKind.i64.wrap (((at_:Nat):Int)+5)=((at_+5:Nat):Int):=by rw[IntWalk.i64_in _ (by omega)];omega
 refine aI (fun q1=> ?_) (fun q1=> ?_)
 ·have q1:(bif decide (((at_+j:Nat):Int)<((cs.length:Nat):Int))then decide (((at_+j:Nat):Int)<IntKind.i64.wrap (((at_:Nat):Int)+5))else false)=true:=q1;rw[e5,aY,Bool.and_eq_true,decide_eq_true_eq,decide_eq_true_eq]at q1;have hlt:at_+j<cs.length:=by omega
  have hj4:j≤4:=by omega
  obtain⟨x0,x1⟩:=hb.elt ((at_+j:Nat):Int);have hz:=V6 (z:=z) hj4 x0 x1 z0 z1;obtain⟨w0,w1,w2,w3,w4⟩:=FE (x:=Go.Tr.elt 0 cs ((at_+j:Nat):Int)) hj4 z0 z1
  have hnum:rJ cs at_=(bif decide (128≤Go.Tr.elt 0 cs ((at_+j:Nat):Int))then vV cs at_ (5-(j+1)) (j+1) (z+Go.Tr.elt 0 cs ((at_+j:Nat):Int) % 128*128 ^ j)
   else bif (Go.Tr.elt 0 cs ((at_+j:Nat):Int)==0&&decide (0<j))|| !eH (zag (z+Go.Tr.elt 0 cs ((at_+j:Nat):Int) % 128*128 ^ j))then none
   else some (zag (z+Go.Tr.elt 0 cs ((at_+j:Nat):Int) % 128*128 ^ j),at_+j+1)):=by
   rw[←hg,show 5-j=(5-(j+1))+1 by omega,vV,decide_eq_true hlt];rfl
  refine aI ⟨by omega,by omega⟩ ?_;refine aI (by decide) ?_;refine aI ⟨by omega,by omega⟩ ?_;refine aI (fun q2=> ?_) (fun q2=> ?_)
  ·have q2:decide (128≤Go.Tr.elt 0 cs ((at_+j:Nat):Int))=true:=q2;rw[q2]at hnum;refine aK (j+1,z+Go.Tr.elt 0 cs ((at_+j:Nat):Int) % 128*128 ^ j) ⟨by show j+1≤5;omega,w0,w1,hnum.symm⟩ ?_ (by show 6-(j+1)<6-j;omega);refine Go.Tr.hd [] rfl (aI ⟨hz,rfl⟩ (aI ⟨?_,rfl⟩ (aI ⟨bD (by omega),rfl⟩ trivial))) trivial;have hp:=yI hj4;show IntKind.i64.wrap (128 ^ j*128)=128 ^ (j+1);rw[IntWalk.i64_in _ (by omega),Int.pow_succ]
  have q2:decide (128≤Go.Tr.elt 0 cs ((at_+j:Nat):Int))=false:=q2;rw[q2]at hnum
  have hnum:rJ cs at_=bif (Go.Tr.elt 0 cs ((at_+j:Nat):Int)==0&&decide (0<j))|| !eH (zag (z+Go.Tr.elt 0 cs ((at_+j:Nat):Int) % 128*128 ^ j))then none
   else some (zag (z+Go.Tr.elt 0 cs ((at_+j:Nat):Int) % 128*128 ^ j),at_+j+1):=hnum
  have hd0:decide (((at_:Nat):Int)<((at_+j:Nat):Int))=decide (0<j):=by rw[Bool.eq_iff_iff,decide_eq_true_eq,decide_eq_true_eq];omega
  have hq:((z+Go.Tr.elt 0 cs ((at_+j:Nat):Int) % 128*128 ^ j).tdiv 2)=(z+Go.Tr.elt 0 cs ((at_+j:Nat):Int) % 128*128 ^ j)/2:=Int.tdiv_eq_ediv_of_nonneg w0;have hm:((z+Go.Tr.elt 0 cs ((at_+j:Nat):Int) % 128*128 ^ j).tmod 2)=(z+Go.Tr.elt 0 cs ((at_+j:Nat):Int) % 128*128 ^ j) % 2:=Int.tmod_eq_emod_of_nonneg w0;refine aI (by decide) ?_;refine aI (by decide) ?_;refine aI (fun q3=> ?_) (fun q3=> ?_)
  ·have q3:(IntKind.i64.wrap (z+IntKind.i64.wrap (IntKind.i64.wrap ((Go.Tr.elt 0 cs ((at_+j:Nat):Int)).tmod 128)*128 ^ j))).tmod 2==1:=q3;rw[hz,hm]at q3
   have e1:IntKind.i64.wrap (IntKind.i64.wrap (0-IntKind.i64.wrap ((IntKind.i64.wrap (z+IntKind.i64.wrap (IntKind.i64.wrap ((Go.Tr.elt 0 cs ((at_+j:Nat):Int)).tmod 128)*128 ^ j))).tdiv 2))-1)=zag (z+Go.Tr.elt 0 cs ((at_+j:Nat):Int) % 128*128 ^ j):=by
    rw[hz,hq];unfold zag;rw[q3,IntWalk.i64_in (_/2) (by omega),IntWalk.i64_in (0-_) (by omega),IntWalk.i64_in _ (by omega)];simp only[cond_true];omega
   refine aI ⟨by omega,by omega⟩ ?_;refine Or.inl (eI _ (aI (fun _=>KR _) ?_));refine aI (fun q4=> ?_) (fun q4=> ?_)
   ·have q4:(bif (bif Go.Tr.elt 0 cs ((at_+j:Nat):Int)==0 then decide (((at_:Nat):Int)<((at_+j:Nat):Int))else false)then true else !eH (IntKind.i64.wrap (IntKind.i64.wrap (0-IntKind.i64.wrap ((IntKind.i64.wrap (z+IntKind.i64.wrap (IntKind.i64.wrap ((Go.Tr.elt 0 cs ((at_+j:Nat):Int)).tmod 128)*128 ^ j))).tdiv 2))-1)))=true:=q4;rw[e1,hd0,aY,gG]at q4;rw[q4]at hnum;have hnum:rJ cs at_=none:=hnum
    conv=>whnf
    rw[hnum];rfl
   ·have q4:(bif (bif Go.Tr.elt 0 cs ((at_+j:Nat):Int)==0 then decide (((at_:Nat):Int)<((at_+j:Nat):Int))else false)then true else !eH (IntKind.i64.wrap (IntKind.i64.wrap (0-IntKind.i64.wrap ((IntKind.i64.wrap (z+IntKind.i64.wrap (IntKind.i64.wrap ((Go.Tr.elt 0 cs ((at_+j:Nat):Int)).tmod 128)*128 ^ j))).tdiv 2))-1)))=false:=q4;rw[e1,hd0,aY,gG]at q4;rw[q4]at hnum;have hnum:rJ cs at_=some (zag (z+Go.Tr.elt 0 cs ((at_+j:Nat):Int) % 128*128 ^ j),at_+j+1):=hnum
    conv=>whnf
    rw[hnum];exact XP e1 (bD (by omega))
  ·have q3:((IntKind.i64.wrap (z+IntKind.i64.wrap (IntKind.i64.wrap ((Go.Tr.elt 0 cs ((at_+j:Nat):Int)).tmod 128)*128 ^ j))).tmod 2==1)=false:=q3;rw[hz,hm]at q3
   have e1:IntKind.i64.wrap ((IntKind.i64.wrap (z+IntKind.i64.wrap (IntKind.i64.wrap ((Go.Tr.elt 0 cs ((at_+j:Nat):Int)).tmod 128)*128 ^ j))).tdiv 2)=zag (z+Go.Tr.elt 0 cs ((at_+j:Nat):Int) % 128*128 ^ j):=by
    rw[hz,hq];unfold zag;rw[q3,IntWalk.i64_in (_/2) (by omega)];rfl
   refine aI ⟨by omega,by omega⟩ ?_;refine Or.inl (eI _ (aI (fun _=>KR _) ?_));refine aI (fun q4=> ?_) (fun q4=> ?_)
   ·have q4:(bif (bif Go.Tr.elt 0 cs ((at_+j:Nat):Int)==0 then decide (((at_:Nat):Int)<((at_+j:Nat):Int))else false)then true else !eH (IntKind.i64.wrap ((IntKind.i64.wrap (z+IntKind.i64.wrap (IntKind.i64.wrap ((Go.Tr.elt 0 cs ((at_+j:Nat):Int)).tmod 128)*128 ^ j))).tdiv 2)))=true:=q4;rw[e1,hd0,aY,gG]at q4;rw[q4]at hnum;have hnum:rJ cs at_=none:=hnum
    conv=>whnf
    rw[hnum];rfl
   ·have q4:(bif (bif Go.Tr.elt 0 cs ((at_+j:Nat):Int)==0 then decide (((at_:Nat):Int)<((at_+j:Nat):Int))else false)then true else !eH (IntKind.i64.wrap ((IntKind.i64.wrap (z+IntKind.i64.wrap (IntKind.i64.wrap ((Go.Tr.elt 0 cs ((at_+j:Nat):Int)).tmod 128)*128 ^ j))).tdiv 2)))=false:=q4;rw[e1,hd0,aY,gG]at q4;rw[q4]at hnum;have hnum:rJ cs at_=some (zag (z+Go.Tr.elt 0 cs ((at_+j:Nat):Int) % 128*128 ^ j),at_+j+1):=hnum
    conv=>whnf
    rw[hnum];exact XP e1 (bD (by omega))
 ·have q1:(bif decide (((at_+j:Nat):Int)<((cs.length:Nat):Int))then decide (((at_+j:Nat):Int)<IntKind.i64.wrap (((at_:Nat):Int)+5))else false)=false:=q1;rw[e5,aY,Bool.and_eq_false_iff,decide_eq_false_iff_not,decide_eq_false_iff_not]at q1
  have hnum:rJ cs at_=none:=by
   rw[←hg]
   by_cases h5:j=5
   ·rw[h5];rfl
   ·rw[show 5-j=(4-j)+1 by omega,vV,decide_eq_false (by omega)];rfl
  conv=>whnf
  rw[hnum];rfl
abbrev Dp:=Nat×Bool
abbrev cD(cs:List Int)(s:Dp):Tok:=.bT 10000 72 [.rsl bn cs,.int .i64 (s.1:Nat),.bool s.2]
abbrev cR(cs:List Int)(s:Dp):Tok:=.bT 10000 52 [.rsl bn cs,.int .i64 (s.1:Nat),.bool s.2]
def jw(cs:List Int)(s:Dp):Int×Dp:=bif decide (s.1<cs.length)then(elt 0 cs (s.1:Nat),(s.1+1,s.2))else(0,(s.1,true))
def jE(cs:List Int)(s:Dp):Int×Dp:=match rJ cs s.1 with
 |some (n,a)=>(n,(a,s.2))
 |none=>(0,(s.1,true))
theorem Gx{x:Int}(h:0≤x∧x≤255):IntKind.i64.wrap x=x:=IntWalk.i64_in _ (by omega)
theorem TD(i:Nat)(h:i≤100000000):IntKind.i64.wrap (IntKind.i64.wrap (((i:Nat):Int)+1)-1)=((i:Nat):Int):=by rw[IntWalk.i64_in (_+1) (by omega),IntWalk.i64_in _ (by omega)];omega
theorem qD(cs:List Int)(hb:mK cs)(s:Dp)(hs:s.1≤cs.length):aC Try.prog 59 [.ptr 10000 0] [cD cs s] (.int .i64 (jw cs s).1) [cD cs (jw cs s).2]:=by
 have hl:=hb.len;refine aC.intro (nt:=35) aS mixed (by kernel_rfl) Try.func59 rfl rfl rfl rfl rfl rfl ?_;refine aI (by kernel_rfl) ?_;refine aI (fun q=> ?_) (fun q=> ?_)
 ·have q:decide (((cs.length:Nat):Int)≤((s.1:Nat):Int))=true:=q;have e:jw cs s=(0,(s.1,true)):=by unfold jw;rw[decide_eq_false (by have:=of_decide_eq_true q;omega)];rfl
  rw[e];exact fin [] (aI ⟨rfl,rfl⟩ ⟨trivial,⟨rfl,⟨rfl,rfl⟩,rfl,trivial⟩,trivial⟩)
 ·have q:decide (((cs.length:Nat):Int)≤((s.1:Nat):Int))=false:=q;have hlt:s.1<cs.length:=by have:=of_decide_eq_false q;omega
  have e:jw cs s=(elt 0 cs (s.1:Nat),(s.1+1,s.2)):=by unfold jw;rw[decide_eq_true hlt];rfl
  have hw:=TD s.1 (by omega);refine aI (by show _≤IntKind.i64.wrap (IntKind.i64.wrap (((s.1:Nat):Int)+1)-1)∧IntKind.i64.wrap (IntKind.i64.wrap (((s.1:Nat):Int)+1)-1)<_;rw[hw];omega) ?_;refine aI (by kernel_rfl) ?_;rw[e];refine fin [] (aI ⟨?_,rfl⟩ ⟨trivial,⟨rfl,⟨bD (by omega),rfl⟩,rfl,trivial⟩,trivial⟩);show IntKind.i64.wrap (elt 0 cs (IntKind.i64.wrap (IntKind.i64.wrap (((s.1:Nat):Int)+1)-1)))=elt 0 cs (s.1:Nat);rw[hw,Gx (hb.elt _)]
theorem tq(cs:List Int)(hb:mK cs)(s:Dp)(hs:s.1≤cs.length):aC Try.prog 40 [.ptr 10000 0] [cD cs s] (.int .i64 (jE cs s).1) [cD cs (jE cs s).2]:=by
 refine aC.intro (nt:=29) aS mixed (by kernel_rfl) Try.func40 rfl rfl rfl rfl rfl rfl ?_;refine Or.inl (eI _ (aI (WG cs hb s.1 hs) ?_));refine aI (by kernel_rfl) ?_;cases hn:rJ cs s.1 with
 |none=>
  refine aI (fun q=> ?_) (fun q=>by cases q);have e:jE cs s=(0,(s.1,true)):=by unfold jE;rw[hn]
  rw[e];exact fin [] (aI ⟨rfl,rfl⟩ ⟨trivial,⟨rfl,⟨rfl,rfl⟩,rfl,trivial⟩,trivial⟩)
 |some p=>
  refine aI (fun q=>by cases q) (fun q=> ?_);have e:jE cs s=(p.1,(p.2,s.2)):=by unfold jE;rw[hn]
  rw[e];exact fin [] (aI ⟨rfl,rfl⟩ ⟨trivial,⟨rfl,⟨rfl,rfl⟩,rfl,trivial⟩,trivial⟩)
def gK(cs:List Int)(s:Dp):Int×Dp:=bif s.2|| !decide (s.1<cs.length)then(0,(s.1,true))else(elt 0 cs (s.1:Nat),(s.1+1,false))
def IC(cs:List Int):Nat→Nat→Int→Dp→Int×Dp
 |0,_,_,s=>(0,(s.1,true))
 |f+1,j,z,s=>bif decide ((gK cs s).1<128)then
   (zag (z+(gK cs s).1 % 128*128 ^ j),((gK cs s).2.1,(gK cs s).2.2||((gK cs s).1==0&&decide (0<j))|| !eH (zag (z+(gK cs s).1 % 128*128 ^ j))))
   else IC cs f (j+1) (z+(gK cs s).1 % 128*128 ^ j) (gK cs s).2
def iE(cs:List Int)(s:Dp):Int×Dp:=IC cs 5 0 0 s
theorem IK{cs:List Int}(hb:mK cs)(s:Dp):0≤(gK cs s).1∧(gK cs s).1≤255:=by
 unfold gK;cases s.2|| !decide (s.1<cs.length)with
 |true=>simp
 |false=>exact hb.elt _
theorem Dw{cs:List Int}(s:Dp):(gK cs s).2.1≤s.1+1∧s.1≤(gK cs s).2.1:=by
 unfold gK;cases s.2|| !decide (s.1<cs.length)with
 |true=>simp
 |false=>simp
theorem pX(cs:List Int)(hb:mK cs)(s:Dp)(hs:s.1≤2000000):aC Try.prog 34 [.ptr 10000 0] [cR cs s] (.int .i64 (gK cs s).1) [cR cs (gK cs s).2]:=by
 have hl:=hb.len;refine aC.intro (nt:=41) aS mixed (by kernel_rfl) Try.func34 rfl rfl rfl rfl rfl rfl ?_;refine aI (by kernel_rfl) ?_
 have hd:(bif s.2 then true else decide (((cs.length:Nat):Int)≤((s.1:Nat):Int)))=(s.2|| !decide (s.1<cs.length)):=by
  rw[gG,←decide_not];congr 1;rw[Bool.eq_iff_iff,decide_eq_true_eq,decide_eq_true_eq];omega
 refine aI (fun q=> ?_) (fun q=> ?_)
 ·have q:(bif s.2 then true else decide (((cs.length:Nat):Int)≤((s.1:Nat):Int)))=true:=q;rw[hd]at q;have e:gK cs s=(0,(s.1,true)):=by unfold gK;rw[q];rfl
  rw[e];exact fin [] (aI ⟨rfl,rfl⟩ ⟨trivial,⟨rfl,⟨rfl,rfl⟩,rfl,trivial⟩,trivial⟩)
 ·have q:(bif s.2 then true else decide (((cs.length:Nat):Int)≤((s.1:Nat):Int)))=false:=q;rw[hd]at q;have e:gK cs s=(elt 0 cs (s.1:Nat),(s.1+1,false)):=by unfold gK;rw[q];rfl
  rw[Bool.or_eq_false_iff]at q;have hlt:s.1<cs.length:=by have:=q.2;simpa using this
  have hw:=TD s.1 (by omega);refine aI (by show _≤IntKind.i64.wrap (IntKind.i64.wrap (((s.1:Nat):Int)+1)-1)∧IntKind.i64.wrap (IntKind.i64.wrap (((s.1:Nat):Int)+1)-1)<_;rw[hw];omega) ?_;refine aI (by kernel_rfl) ?_;rw[e];refine fin [] (aI ⟨?_,rfl⟩ ⟨trivial,⟨rfl,⟨bD (by omega),rfl⟩,q.1,trivial⟩,trivial⟩);show IntKind.i64.wrap (elt 0 cs (IntKind.i64.wrap (IntKind.i64.wrap (((s.1:Nat):Int)+1)-1)))=elt 0 cs (s.1:Nat);rw[hw,Gx (hb.elt _)]
theorem WT{z:Int}(h0:0≤z)(h1:z≤34359738368):IntKind.i64.wrap (z.fdiv (2 ^ (min (1:Int).toNat IntKind.u64.bits)))=z/2:=by
 rw[show(2:Int) ^ (min (1:Int).toNat IntKind.u64.bits)=2 by decide,Int.fdiv_eq_ediv_of_nonneg _ (by decide),IntWalk.i64_in _ (by omega)]
theorem tu(cs:List Int)(hb:mK cs)(s0:Dp)(hs0:s0.1≤1900000):aC Try.prog 27 [.ptr 10000 0] [cR cs s0] (.int .i64 (iE cs s0).1) [cR cs (iE cs s0).2]:=by
 have hl:=hb.len;refine aC.intro (nt:=50) aS mixed (by kernel_rfl) Try.func27 rfl rfl rfl rfl rfl rfl ?_;refine lp (Nat×Int×Dp) (fun s=>[(3,.int .u64 s.2.1),(4,.int .i64 (s.1:Nat))]) (fun s=>[cR cs s.2.2]) (fun s=>5-s.1) (fun s=>s.1≤5∧0≤s.2.1∧s.2.1<128 ^ s.1∧s.2.2.1≤s0.1+s.1∧IC cs (5-s.1) s.1 s.2.1 s.2.2=iE cs s0) (0,0,s0) ⟨Nat.zero_le _,Int.le_refl _,(by show(0:Int)<1;decide),Nat.le_refl _,rfl⟩ ?_ ?_
 ·exact Go.Tr.hd [] rfl (aI ⟨rfl,rfl⟩ (aI ⟨rfl,rfl⟩ trivial)) ⟨trivial,⟨rfl,⟨rfl,rfl⟩,rfl,trivial⟩,trivial⟩
 rintro⟨j,z,s⟩ ⟨hj,z0,z1,hs,hg⟩;have hj:j≤5:=hj;have z0:0≤z:=z0;have z1:z<128 ^ j:=z1;have hs:s.1≤s0.1+j:=hs;have hg:IC cs (5-j) j z s=iE cs s0:=hg;refine aI (fun q1=> ?_) (fun q1=> ?_)
 ·have hj5:j<5:=qM (b:=5) q1;have hj4:j≤4:=by omega
  have hW:=pX cs hb s (by omega);have hx:=IK hb s;have hat:=Dw (cs:=cs) s;have hg2:iE cs s0=IC cs ((5-(j+1))+1) j z s:=by rw[←hg,show 5-j=(5-(j+1))+1 by omega]
  rw[IC]at hg2;obtain⟨x,s1,e⟩:∃x s1,gK cs s=(x,s1):=⟨_,_,rfl⟩;rw[e]at hW hx hat hg2;have x0:0≤x:=hx.1;have x1:x≤255:=hx.2;have hg2:iE cs s0=bif decide (x<128)then(zag (z+x % 128*128 ^ j),(s1.1,s1.2||(x==0&&decide (0<j))|| !eH (zag (z+x % 128*128 ^ j))))else IC cs (5-(j+1)) (j+1) (z+x % 128*128 ^ j) s1:=hg2
  have hz:=V7 (z:=z) hj4 x0 x1 z0 z1;obtain⟨w0,w1,w2,w3,w4⟩:=FE (x:=x) hj4 z0 z1;have hu:IntKind.u64.wrap x=x:=u64_in x0 (by omega);have h7:(0:Int)≤IntKind.i64.wrap (7*((j:Nat):Int)):=by rw[IntWalk.i64_in _ (by omega)];omega
  refine Or.inr (eI _ (eI _ (aI hW ?_)));refine aI (by decide) ?_;refine aI h7 ?_;refine aI (fun q2=> ?_) (fun q2=> ?_)
  ·have q2:decide (IntKind.u64.wrap x<128)=true:=q2;rw[hu]at q2;rw[q2]at hg2;have hg2:iE cs s0=(zag (z+x % 128*128 ^ j),(s1.1,s1.2||(x==0&&decide (0<j))|| !eH (zag (z+x % 128*128 ^ j)))):=hg2;have hd0:decide ((0:Int)<((j:Nat):Int))=decide (0<j):=by rw[Bool.eq_iff_iff,decide_eq_true_eq,decide_eq_true_eq];omega
   have hm:((z+x % 128*128 ^ j).tmod 2)=(z+x % 128*128 ^ j) % 2:=Int.tmod_eq_emod_of_nonneg w0;obtain⟨Z,hZ⟩:∃Z,Z=z+x % 128*128 ^ j:=⟨_,rfl⟩;rw[←hZ]at hz hm hg2 w0 w1 w4;have hh:=WT w0 w4;have hn:=Yv (n:=Z/2) (by omega) (by omega);have e4:∀b,(Z % 2==1)=b→zag Z=bif b then -(Z/2)-1 else Z/2:=fun b hb=>by unfold zag;rw[hb]
   refine aI (fun q3=> ?_) (fun q3=> ?_)
   ·have q3:(bif IntKind.u64.wrap x==0 then decide ((0:Int)<((j:Nat):Int))else false)=true:=q3;rw[hu,hd0,aY]at q3;rw[q3]at hg2;refine aI (by decide) ?_;refine aI (by decide) ?_;refine aI (fun q4=> ?_) (fun q4=> ?_)
    ·have q4:((IntKind.u64.wrap (z+IntKind.u64.wrap ((IntKind.u64.wrap x).tmod 128*2 ^ (min (IntKind.i64.wrap (7*((j:Nat):Int))).toNat IntKind.u64.bits)))).tmod 2==1)=true:=q4;rw[hz,hm]at q4;have e4:=e4 _ q4;have en:bits .xor .i64 (if IntKind.i64.signed then -1 else IntKind.i64.max) (IntKind.i64.wrap ((IntKind.u64.wrap (z+IntKind.u64.wrap ((IntKind.u64.wrap x).tmod 128*2 ^ (min (IntKind.i64.wrap (7*((j:Nat):Int))).toNat IntKind.u64.bits)))).fdiv (2 ^ (min (1:Int).toNat IntKind.u64.bits))))=zag Z:=by rw[hz,hh,hn,e4];rfl
     refine Or.inl (eI _ (aI (Ew _ _ _) ?_));refine aI (fun q5=> ?_) (fun q5=> ?_)
     ·have q5:(!eH (bits .xor .i64 (if IntKind.i64.signed then -1 else IntKind.i64.max) (IntKind.i64.wrap ((IntKind.u64.wrap (z+IntKind.u64.wrap ((IntKind.u64.wrap x).tmod 128*2 ^ (min (IntKind.i64.wrap (7*((j:Nat):Int))).toNat IntKind.u64.bits)))).fdiv (2 ^ (min (1:Int).toNat IntKind.u64.bits))))))=true:=q5;rw[en]at q5;rw[q5]at hg2;rw[hg2];exact fin [] (aI ⟨en,rfl⟩ ⟨trivial,⟨rfl,⟨rfl,rfl⟩,by cases s1.2<;>rfl,trivial⟩,trivial⟩)
     ·have q5:(!eH (bits .xor .i64 (if IntKind.i64.signed then -1 else IntKind.i64.max) (IntKind.i64.wrap ((IntKind.u64.wrap (z+IntKind.u64.wrap ((IntKind.u64.wrap x).tmod 128*2 ^ (min (IntKind.i64.wrap (7*((j:Nat):Int))).toNat IntKind.u64.bits)))).fdiv (2 ^ (min (1:Int).toNat IntKind.u64.bits))))))=false:=q5;rw[en]at q5;rw[q5]at hg2;rw[hg2];exact fin [] (aI ⟨en,rfl⟩ ⟨trivial,⟨rfl,⟨rfl,rfl⟩,by cases s1.2<;>rfl,trivial⟩,trivial⟩)
    ·have q4:((IntKind.u64.wrap (z+IntKind.u64.wrap ((IntKind.u64.wrap x).tmod 128*2 ^ (min (IntKind.i64.wrap (7*((j:Nat):Int))).toNat IntKind.u64.bits)))).tmod 2==1)=false:=q4;rw[hz,hm]at q4;have e4:=e4 _ q4;have en:IntKind.i64.wrap ((IntKind.u64.wrap (z+IntKind.u64.wrap ((IntKind.u64.wrap x).tmod 128*2 ^ (min (IntKind.i64.wrap (7*((j:Nat):Int))).toNat IntKind.u64.bits)))).fdiv (2 ^ (min (1:Int).toNat IntKind.u64.bits)))=zag Z:=by rw[hz,hh,e4];rfl
     refine Or.inl (eI _ (aI (Ew _ _ _) ?_));refine aI (fun q5=> ?_) (fun q5=> ?_)
     ·have q5:(!eH (IntKind.i64.wrap ((IntKind.u64.wrap (z+IntKind.u64.wrap ((IntKind.u64.wrap x).tmod 128*2 ^ (min (IntKind.i64.wrap (7*((j:Nat):Int))).toNat IntKind.u64.bits)))).fdiv (2 ^ (min (1:Int).toNat IntKind.u64.bits)))))=true:=q5;rw[en]at q5;rw[q5]at hg2;rw[hg2];exact fin [] (aI ⟨en,rfl⟩ ⟨trivial,⟨rfl,⟨rfl,rfl⟩,by cases s1.2<;>rfl,trivial⟩,trivial⟩)
     ·have q5:(!eH (IntKind.i64.wrap ((IntKind.u64.wrap (z+IntKind.u64.wrap ((IntKind.u64.wrap x).tmod 128*2 ^ (min (IntKind.i64.wrap (7*((j:Nat):Int))).toNat IntKind.u64.bits)))).fdiv (2 ^ (min (1:Int).toNat IntKind.u64.bits)))))=false:=q5;rw[en]at q5;rw[q5]at hg2;rw[hg2];exact fin [] (aI ⟨en,rfl⟩ ⟨trivial,⟨rfl,⟨rfl,rfl⟩,by cases s1.2<;>rfl,trivial⟩,trivial⟩)
   ·have q3:(bif IntKind.u64.wrap x==0 then decide ((0:Int)<((j:Nat):Int))else false)=false:=q3;rw[hu,hd0,aY]at q3;rw[q3]at hg2;refine aI (by decide) ?_;refine aI (by decide) ?_;refine aI (fun q4=> ?_) (fun q4=> ?_)
    ·have q4:((IntKind.u64.wrap (z+IntKind.u64.wrap ((IntKind.u64.wrap x).tmod 128*2 ^ (min (IntKind.i64.wrap (7*((j:Nat):Int))).toNat IntKind.u64.bits)))).tmod 2==1)=true:=q4;rw[hz,hm]at q4;have e4:=e4 _ q4;have en:bits .xor .i64 (if IntKind.i64.signed then -1 else IntKind.i64.max) (IntKind.i64.wrap ((IntKind.u64.wrap (z+IntKind.u64.wrap ((IntKind.u64.wrap x).tmod 128*2 ^ (min (IntKind.i64.wrap (7*((j:Nat):Int))).toNat IntKind.u64.bits)))).fdiv (2 ^ (min (1:Int).toNat IntKind.u64.bits))))=zag Z:=by rw[hz,hh,hn,e4];rfl
     refine Or.inl (eI _ (aI (Ew _ _ _) ?_));refine aI (fun q5=> ?_) (fun q5=> ?_)
     ·have q5:(!eH (bits .xor .i64 (if IntKind.i64.signed then -1 else IntKind.i64.max) (IntKind.i64.wrap ((IntKind.u64.wrap (z+IntKind.u64.wrap ((IntKind.u64.wrap x).tmod 128*2 ^ (min (IntKind.i64.wrap (7*((j:Nat):Int))).toNat IntKind.u64.bits)))).fdiv (2 ^ (min (1:Int).toNat IntKind.u64.bits))))))=true:=q5;rw[en]at q5;rw[q5]at hg2;rw[hg2];exact fin [] (aI ⟨en,rfl⟩ ⟨trivial,⟨rfl,⟨rfl,rfl⟩,by cases s1.2<;>rfl,trivial⟩,trivial⟩)
     ·have q5:(!eH (bits .xor .i64 (if IntKind.i64.signed then -1 else IntKind.i64.max) (IntKind.i64.wrap ((IntKind.u64.wrap (z+IntKind.u64.wrap ((IntKind.u64.wrap x).tmod 128*2 ^ (min (IntKind.i64.wrap (7*((j:Nat):Int))).toNat IntKind.u64.bits)))).fdiv (2 ^ (min (1:Int).toNat IntKind.u64.bits))))))=false:=q5;rw[en]at q5;rw[q5]at hg2;rw[hg2];exact fin [] (aI ⟨en,rfl⟩ ⟨trivial,⟨rfl,⟨rfl,rfl⟩,by cases s1.2<;>rfl,trivial⟩,trivial⟩)
    ·have q4:((IntKind.u64.wrap (z+IntKind.u64.wrap ((IntKind.u64.wrap x).tmod 128*2 ^ (min (IntKind.i64.wrap (7*((j:Nat):Int))).toNat IntKind.u64.bits)))).tmod 2==1)=false:=q4;rw[hz,hm]at q4;have e4:=e4 _ q4;have en:IntKind.i64.wrap ((IntKind.u64.wrap (z+IntKind.u64.wrap ((IntKind.u64.wrap x).tmod 128*2 ^ (min (IntKind.i64.wrap (7*((j:Nat):Int))).toNat IntKind.u64.bits)))).fdiv (2 ^ (min (1:Int).toNat IntKind.u64.bits)))=zag Z:=by rw[hz,hh,e4];rfl
     refine Or.inl (eI _ (aI (Ew _ _ _) ?_));refine aI (fun q5=> ?_) (fun q5=> ?_)
     ·have q5:(!eH (IntKind.i64.wrap ((IntKind.u64.wrap (z+IntKind.u64.wrap ((IntKind.u64.wrap x).tmod 128*2 ^ (min (IntKind.i64.wrap (7*((j:Nat):Int))).toNat IntKind.u64.bits)))).fdiv (2 ^ (min (1:Int).toNat IntKind.u64.bits)))))=true:=q5;rw[en]at q5;rw[q5]at hg2;rw[hg2];exact fin [] (aI ⟨en,rfl⟩ ⟨trivial,⟨rfl,⟨rfl,rfl⟩,by cases s1.2<;>rfl,trivial⟩,trivial⟩)
     ·have q5:(!eH (IntKind.i64.wrap ((IntKind.u64.wrap (z+IntKind.u64.wrap ((IntKind.u64.wrap x).tmod 128*2 ^ (min (IntKind.i64.wrap (7*((j:Nat):Int))).toNat IntKind.u64.bits)))).fdiv (2 ^ (min (1:Int).toNat IntKind.u64.bits)))))=false:=q5;rw[en]at q5;rw[q5]at hg2;rw[hg2];exact fin [] (aI ⟨en,rfl⟩ ⟨trivial,⟨rfl,⟨rfl,rfl⟩,by cases s1.2<;>rfl,trivial⟩,trivial⟩)
  ·have q2:decide (IntKind.u64.wrap x<128)=false:=q2;rw[hu]at q2;rw[q2]at hg2;have ha:s1.1≤s.1+1:=hat.1;refine aK (j+1,z+x % 128*128 ^ j,s1) ⟨hj5,w0,w1,by show s1.1≤s0.1+(j+1);omega,hg2.symm⟩ ?_ (by show 5-(j+1)<5-j;omega);exact Go.Tr.hd [] rfl (aI ⟨hz,rfl⟩ (aI ⟨bD (by omega),rfl⟩ trivial)) ⟨trivial,⟨rfl,⟨rfl,rfl⟩,rfl,trivial⟩,trivial⟩
 ·have hj5:j=5:=Nat.le_antisymm hj (qI (b:=5) q1);subst hj5;rw[←hg];exact fin [] (aI ⟨rfl,rfl⟩ ⟨trivial,⟨rfl,⟨rfl,rfl⟩,rfl,trivial⟩,trivial⟩)
def aM(k:Int):Bool:=k==6||k==7||k==8||k==12||k==9
theorem ku(k:Int):bg Try.prog 61 [.int .i64 k] (.bool (aM k)):=by
 refine bg.intro (nt:=21) aS mixed (by kernel_rfl) Try.func61 rfl rfl rfl rfl rfl ?_;show(bif bif bif bif k==6 then true else k==7 then true else k==8 then true else k==12 then true else k==9)=aM k;simp only[gG,aM]
theorem dG(k f:Int):0≤aL k f:=by
 unfold aL
 repeat' split
 all_goals first|omega|(rename_i h;have:=jl h;omega)
theorem iF{cs:List Int}{s:Dp}(h:s.1≤cs.length):(jw cs s).2.1≤cs.length:=by
 unfold jw;cases hd:decide (s.1<cs.length)with
 |true=>have:=of_decide_eq_true hd;show s.1+1≤_;omega
 |false=>exact h
theorem oH{cs:List Int}{s:Dp}(h:s.1≤cs.length):(jE cs s).2.1≤cs.length:=by
 unfold jE;cases hn:rJ cs s.1 with
 |none=>exact h
 |some p=>exact(zN hn).2.1
theorem NK{cs:List Int}(hb:mK cs)(s:Dp):0≤(jw cs s).1∧(jw cs s).1≤255:=by
 unfold jw;cases decide (s.1<cs.length)with
 |true=>exact hb.elt _
 |false=>simp
def iZ(cs:List Int):Nat→Dp→List Int×Dp
 |0,s=>([],s)
 |j+1,s=>((iZ cs j s).1++[(jE cs (iZ cs j s).2).1],(jE cs (iZ cs j s).2).2)
theorem mE(cs:List Int)(s:Dp):∀j,(iZ cs j s).1.length=j
 |0=>rfl
 |j+1=>by rw[iZ,List.length_append,mE cs s j];rfl
theorem ou{cs:List Int}{s:Dp}(h:s.1≤cs.length):∀j,(iZ cs j s).2.1≤cs.length
 |0=>h
 |j+1=>oH (ou h j)
def o7(f:Dp→Int×Dp)(k:Int)(s:Dp):Int×Dp:=bif aG k then f s else(0,s)
def pV(f:Dp→Int×Dp)(k:Int)(s:Dp):Int×Dp:=bif aM k then f s else(0,s)
def qG(f:Dp→Int×Dp)(k:Int)(s:Dp):Int×Dp:=bif k==8 then(1,s)else bif k==10 then f s else bif k==11 then(2,s)else(0,s)
def sD(f:Dp→Int×Dp)(k:Int)(s:Dp):Int×Dp:=bif k==9 then f s else(0,s)
def uw(fb fn:Dp→Int×Dp)(fd:Nat→Dp→List Int×Dp)(e:aB)(s:Dp):ah×Dp:=
 let k:=fb s
 let l:=o7 fb k.1 k.2
 let v:=pV fn k.1 l.2
 let c:=qG fb k.1 v.2
 let d:=fd c.1.toNat c.2
 let f:=sD fb k.1 d.2
 ((k.1,l.1,v.1,d.1,List.replicate (aL k.1 f.1).toNat e),f.2)
def kJ(cs:List Int)(s:Dp):ah×Dp:=uw (jw cs) (jE cs) (iZ cs) (0,0) s
abbrev XQ(a:ah):SV:=.agg [.int .i64 a.1,.int .i64 a.2.1,.int .i64 a.2.2.1,.sl 10001,.sl 10002]
abbrev XI(a:ah):List Tok:=[.row 10001 2 1 (.int .i64) a.2.2.2.1 [],.row 10002 60 2 aQ a.2.2.2.2 []]
theorem qN:bY Try.prog 41=true:=by kernel_rfl
theorem TU(cs:List Int)(hb:mK cs)(s:Dp)(hs:s.1≤cs.length){k:Int}{s1:Dp}(hk:jw cs s=(k,s1))(hl:aG k=false)(hv:aM k=false)(e8:(k==8)=false)(e9:(k==9)=false)(e10:(k==10)=false)(e11:(k==11)=false):aC Try.prog 41 [.ptr 10000 0] [cD cs s] (.agg [.int .i64 k,.int .i64 0,.int .i64 0,.sl 10001,.sl 10002]) [cD cs (iZ cs 0 s1).2,.row 10001 2 1 (.int .i64) (iZ cs 0 s1).1 [],.row 10002 60 2 aQ (List.replicate (aL k 0).toNat (0,0)) []]:=by
 have w_hk:=qD cs hb (s) (by omega);rw[hk]at w_hk;have z_hk:(s1).1≤cs.length:=by have:=iF (cs:=cs) (s:=s) (by omega);rw[hk]at this;exact this
 have hdl:=mE cs s1;have hdj:=ou (cs:=cs) (s:=s1) (by omega);have hp0:=dG k 0;have hp4:=cZ k 0;refine aC.intro (nt:=54) aS mixed qN Try.func41 rfl rfl rfl rfl rfl rfl ?_;refine Or.inr (eI _ (eI _ (aI w_hk ?_)));refine Or.inl (eI _ (aI (eT k) ?_));refine aI (fun q=>by have q:(aG k)=true:=q;rw[hl]at q;cases q) (fun _=> ?_);refine Or.inl (eI _ (aI (ku k) ?_));refine aI (fun q=>by have q:(aM k)=true:=q;rw[hv]at q;cases q) (fun _=> ?_);refine aI (fun q=>by have q:(k==8)=true:=q;rw[e8]at q;cases q) (fun _=> ?_)
 refine aI (fun q=>by have q:(k==10)=true:=q;rw[e10]at q;cases q) (fun _=> ?_);refine aI (fun q=>by have q:(k==11)=true:=q;rw[e11]at q;cases q) (fun _=> ?_);refine lp Nat (fun j=>[(32,.int .i64 (j:Nat))]) (fun j=>[.bT 2 64 [.int .i64 0,.int .i64 0,.int .i64 0,.raw (.slice none 0 0),.raw (.slice none 0 0)],.bT 3 64 [.int .i64 k,.int .i64 0,.int .i64 0,.sl 20000,.raw (.slice none 0 0)],cD cs (iZ cs j s1).2,.row 20000 2 1 (.int .i64) (iZ cs j s1).1 []]) (fun j=>0-j) (fun j=>j≤0) 0 (Nat.zero_le _) ?_ ?_
 ·exact vo [⟨4000003,30000,2,1,(.int .i64)⟩] [(20000,30000)] rfl (aI (aI ⟨rfl,rfl⟩ trivial) ⟨trivial,⟨⟨rfl,rfl⟩,⟨rfl,rfl⟩,⟨rfl,rfl⟩,rfl,rfl,trivial⟩,trivial,⟨⟨rfl,rfl⟩,⟨rfl,rfl⟩,⟨rfl,rfl⟩,rfl,rfl,trivial⟩,trivial,⟨rfl,⟨rfl,rfl⟩,rfl,trivial⟩,⟨rfl,nP⟩,trivial⟩)
 intro j hj;have hj1:=hdl j;have hj2:=hdj j;refine aI (fun q=> ?_) (fun q=> ?_)
 ·have hlt:j<0:=qM (b:=0) q;refine Or.inr (eI _ (eI _ (aI (tq cs hb _ hj2) ?_)));refine aI (by show(iZ cs j s1).1.length+1≤_;omega) ?_;refine aI (by kernel_rfl) ?_;refine aK (j+1) hlt ?_ (by show 0-(j+1)<0-j;omega);exact Go.Tr.hd [(20000,39)] rfl (aI ⟨bD (by omega),rfl⟩ trivial) ⟨trivial,⟨⟨rfl,rfl⟩,⟨rfl,rfl⟩,⟨rfl,rfl⟩,rfl,rfl,trivial⟩,trivial,⟨⟨rfl,rfl⟩,⟨rfl,rfl⟩,⟨rfl,rfl⟩,rfl,rfl,trivial⟩,trivial,⟨rfl,⟨rfl,rfl⟩,rfl,trivial⟩,⟨rfl,nP⟩,trivial⟩
 have hje:j=0:=Nat.le_antisymm hj (qI (b:=0) q);subst hje;refine aI (fun q=>by have q:(k==9)=true:=q;rw[e9]at q;cases q) (fun _=> ?_);refine Or.inl (eI _ (aI (Ck k 0) ?_));refine aI ⟨hp0,Int.le_refl _,by omega⟩ ?_;refine fin [(10001,20000),(10002,51)] (aI rfl ?_);exact⟨trivial,⟨rfl,⟨rfl,rfl⟩,rfl,trivial⟩,⟨rfl,nP⟩,⟨rfl,nP⟩,trivial⟩
theorem TV(cs:List Int)(hb:mK cs)(s:Dp)(hs:s.1≤cs.length){k:Int}{s1:Dp}{lv:Int}{s2:Dp}(hk:jw cs s=(k,s1))(hL:jw cs s1=(lv,s2))(hl:aG k=true)(hv:aM k=false)(e8:(k==8)=false)(e9:(k==9)=false)(e10:(k==10)=false)(e11:(k==11)=false):aC Try.prog 41 [.ptr 10000 0] [cD cs s] (.agg [.int .i64 k,.int .i64 lv,.int .i64 0,.sl 10001,.sl 10002]) [cD cs (iZ cs 0 s2).2,.row 10001 2 1 (.int .i64) (iZ cs 0 s2).1 [],.row 10002 60 2 aQ (List.replicate (aL k 0).toNat (0,0)) []]:=by
 have w_hk:=qD cs hb (s) (by omega);rw[hk]at w_hk;have z_hk:(s1).1≤cs.length:=by have:=iF (cs:=cs) (s:=s) (by omega);rw[hk]at this;exact this
 have w_hL:=qD cs hb (s1) (by omega);rw[hL]at w_hL;have z_hL:(s2).1≤cs.length:=by have:=iF (cs:=cs) (s:=s1) (by omega);rw[hL]at this;exact this
 have hdl:=mE cs s2;have hdj:=ou (cs:=cs) (s:=s2) (by omega);have hp0:=dG k 0;have hp4:=cZ k 0;refine aC.intro (nt:=54) aS mixed qN Try.func41 rfl rfl rfl rfl rfl rfl ?_;refine Or.inr (eI _ (eI _ (aI w_hk ?_)));refine Or.inl (eI _ (aI (eT k) ?_));refine aI (fun _=> ?_) (fun q=>by have q:(aG k)=false:=q;rw[hl]at q;cases q);refine Or.inr (eI _ (eI _ (aI w_hL ?_)));refine Or.inl (eI _ (aI (ku k) ?_));refine aI (fun q=>by have q:(aM k)=true:=q;rw[hv]at q;cases q) (fun _=> ?_);refine aI (fun q=>by have q:(k==8)=true:=q;rw[e8]at q;cases q) (fun _=> ?_)
 refine aI (fun q=>by have q:(k==10)=true:=q;rw[e10]at q;cases q) (fun _=> ?_);refine aI (fun q=>by have q:(k==11)=true:=q;rw[e11]at q;cases q) (fun _=> ?_);refine lp Nat (fun j=>[(32,.int .i64 (j:Nat))]) (fun j=>[.bT 2 64 [.int .i64 0,.int .i64 0,.int .i64 0,.raw (.slice none 0 0),.raw (.slice none 0 0)],.bT 3 64 [.int .i64 k,.int .i64 lv,.int .i64 0,.sl 20000,.raw (.slice none 0 0)],cD cs (iZ cs j s2).2,.row 20000 2 1 (.int .i64) (iZ cs j s2).1 []]) (fun j=>0-j) (fun j=>j≤0) 0 (Nat.zero_le _) ?_ ?_
 ·exact vo [⟨4000003,30000,2,1,(.int .i64)⟩] [(20000,30000)] rfl (aI (aI ⟨rfl,rfl⟩ trivial) ⟨trivial,⟨⟨rfl,rfl⟩,⟨rfl,rfl⟩,⟨rfl,rfl⟩,rfl,rfl,trivial⟩,trivial,⟨⟨rfl,rfl⟩,⟨rfl,rfl⟩,⟨rfl,rfl⟩,rfl,rfl,trivial⟩,trivial,⟨rfl,⟨rfl,rfl⟩,rfl,trivial⟩,⟨rfl,nP⟩,trivial⟩)
 intro j hj;have hj1:=hdl j;have hj2:=hdj j;refine aI (fun q=> ?_) (fun q=> ?_)
 ·have hlt:j<0:=qM (b:=0) q;refine Or.inr (eI _ (eI _ (aI (tq cs hb _ hj2) ?_)));refine aI (by show(iZ cs j s2).1.length+1≤_;omega) ?_;refine aI (by kernel_rfl) ?_;refine aK (j+1) hlt ?_ (by show 0-(j+1)<0-j;omega);exact Go.Tr.hd [(20000,39)] rfl (aI ⟨bD (by omega),rfl⟩ trivial) ⟨trivial,⟨⟨rfl,rfl⟩,⟨rfl,rfl⟩,⟨rfl,rfl⟩,rfl,rfl,trivial⟩,trivial,⟨⟨rfl,rfl⟩,⟨rfl,rfl⟩,⟨rfl,rfl⟩,rfl,rfl,trivial⟩,trivial,⟨rfl,⟨rfl,rfl⟩,rfl,trivial⟩,⟨rfl,nP⟩,trivial⟩
 have hje:j=0:=Nat.le_antisymm hj (qI (b:=0) q);subst hje;refine aI (fun q=>by have q:(k==9)=true:=q;rw[e9]at q;cases q) (fun _=> ?_);refine Or.inl (eI _ (aI (Ck k 0) ?_));refine aI ⟨hp0,Int.le_refl _,by omega⟩ ?_;refine fin [(10001,20000),(10002,51)] (aI rfl ?_);exact⟨trivial,⟨rfl,⟨rfl,rfl⟩,rfl,trivial⟩,⟨rfl,nP⟩,⟨rfl,nP⟩,trivial⟩
theorem TP(cs:List Int)(hb:mK cs)(s:Dp)(hs:s.1≤cs.length){k:Int}{s1:Dp}{va:Int}{s3:Dp}(hk:jw cs s=(k,s1))(hV:jE cs s1=(va,s3))(hl:aG k=false)(hv:aM k=true)(e8:(k==8)=false)(e9:(k==9)=false)(e10:(k==10)=false)(e11:(k==11)=false):aC Try.prog 41 [.ptr 10000 0] [cD cs s] (.agg [.int .i64 k,.int .i64 0,.int .i64 va,.sl 10001,.sl 10002]) [cD cs (iZ cs 0 s3).2,.row 10001 2 1 (.int .i64) (iZ cs 0 s3).1 [],.row 10002 60 2 aQ (List.replicate (aL k 0).toNat (0,0)) []]:=by
 have w_hk:=qD cs hb (s) (by omega);rw[hk]at w_hk;have z_hk:(s1).1≤cs.length:=by have:=iF (cs:=cs) (s:=s) (by omega);rw[hk]at this;exact this
 have w_hV:=tq cs hb (s1) (by omega);rw[hV]at w_hV;have z_hV:(s3).1≤cs.length:=by have:=oH (cs:=cs) (s:=s1) (by omega);rw[hV]at this;exact this
 have hdl:=mE cs s3;have hdj:=ou (cs:=cs) (s:=s3) (by omega);have hp0:=dG k 0;have hp4:=cZ k 0;refine aC.intro (nt:=54) aS mixed qN Try.func41 rfl rfl rfl rfl rfl rfl ?_;refine Or.inr (eI _ (eI _ (aI w_hk ?_)));refine Or.inl (eI _ (aI (eT k) ?_));refine aI (fun q=>by have q:(aG k)=true:=q;rw[hl]at q;cases q) (fun _=> ?_);refine Or.inl (eI _ (aI (ku k) ?_));refine aI (fun _=> ?_) (fun q=>by have q:(aM k)=false:=q;rw[hv]at q;cases q);refine Or.inr (eI _ (eI _ (aI w_hV ?_)));refine aI (fun q=>by have q:(k==8)=true:=q;rw[e8]at q;cases q) (fun _=> ?_)
 refine aI (fun q=>by have q:(k==10)=true:=q;rw[e10]at q;cases q) (fun _=> ?_);refine aI (fun q=>by have q:(k==11)=true:=q;rw[e11]at q;cases q) (fun _=> ?_);refine lp Nat (fun j=>[(32,.int .i64 (j:Nat))]) (fun j=>[.bT 2 64 [.int .i64 0,.int .i64 0,.int .i64 0,.raw (.slice none 0 0),.raw (.slice none 0 0)],.bT 3 64 [.int .i64 k,.int .i64 0,.int .i64 va,.sl 20000,.raw (.slice none 0 0)],cD cs (iZ cs j s3).2,.row 20000 2 1 (.int .i64) (iZ cs j s3).1 []]) (fun j=>0-j) (fun j=>j≤0) 0 (Nat.zero_le _) ?_ ?_
 ·exact vo [⟨4000003,30000,2,1,(.int .i64)⟩] [(20000,30000)] rfl (aI (aI ⟨rfl,rfl⟩ trivial) ⟨trivial,⟨⟨rfl,rfl⟩,⟨rfl,rfl⟩,⟨rfl,rfl⟩,rfl,rfl,trivial⟩,trivial,⟨⟨rfl,rfl⟩,⟨rfl,rfl⟩,⟨rfl,rfl⟩,rfl,rfl,trivial⟩,trivial,⟨rfl,⟨rfl,rfl⟩,rfl,trivial⟩,⟨rfl,nP⟩,trivial⟩)
 intro j hj;have hj1:=hdl j;have hj2:=hdj j;refine aI (fun q=> ?_) (fun q=> ?_)
 ·have hlt:j<0:=qM (b:=0) q;refine Or.inr (eI _ (eI _ (aI (tq cs hb _ hj2) ?_)));refine aI (by show(iZ cs j s3).1.length+1≤_;omega) ?_;refine aI (by kernel_rfl) ?_;refine aK (j+1) hlt ?_ (by show 0-(j+1)<0-j;omega);exact Go.Tr.hd [(20000,39)] rfl (aI ⟨bD (by omega),rfl⟩ trivial) ⟨trivial,⟨⟨rfl,rfl⟩,⟨rfl,rfl⟩,⟨rfl,rfl⟩,rfl,rfl,trivial⟩,trivial,⟨⟨rfl,rfl⟩,⟨rfl,rfl⟩,⟨rfl,rfl⟩,rfl,rfl,trivial⟩,trivial,⟨rfl,⟨rfl,rfl⟩,rfl,trivial⟩,⟨rfl,nP⟩,trivial⟩
 have hje:j=0:=Nat.le_antisymm hj (qI (b:=0) q);subst hje;refine aI (fun q=>by have q:(k==9)=true:=q;rw[e9]at q;cases q) (fun _=> ?_);refine Or.inl (eI _ (aI (Ck k 0) ?_));refine aI ⟨hp0,Int.le_refl _,by omega⟩ ?_;refine fin [(10001,20000),(10002,51)] (aI rfl ?_);exact⟨trivial,⟨rfl,⟨rfl,rfl⟩,rfl,trivial⟩,⟨rfl,nP⟩,⟨rfl,nP⟩,trivial⟩
theorem TQ(cs:List Int)(hb:mK cs)(s:Dp)(hs:s.1≤cs.length){k:Int}{s1:Dp}{lv:Int}{s2:Dp}{va:Int}{s3:Dp}(hk:jw cs s=(k,s1))(hL:jw cs s1=(lv,s2))(hV:jE cs s2=(va,s3))(hl:aG k=true)(hv:aM k=true)(e8:(k==8)=false)(e9:(k==9)=false)(e10:(k==10)=false)(e11:(k==11)=false):aC Try.prog 41 [.ptr 10000 0] [cD cs s] (.agg [.int .i64 k,.int .i64 lv,.int .i64 va,.sl 10001,.sl 10002]) [cD cs (iZ cs 0 s3).2,.row 10001 2 1 (.int .i64) (iZ cs 0 s3).1 [],.row 10002 60 2 aQ (List.replicate (aL k 0).toNat (0,0)) []]:=by
 have w_hk:=qD cs hb (s) (by omega);rw[hk]at w_hk;have z_hk:(s1).1≤cs.length:=by have:=iF (cs:=cs) (s:=s) (by omega);rw[hk]at this;exact this
 have w_hL:=qD cs hb (s1) (by omega);rw[hL]at w_hL;have z_hL:(s2).1≤cs.length:=by have:=iF (cs:=cs) (s:=s1) (by omega);rw[hL]at this;exact this
 have w_hV:=tq cs hb (s2) (by omega);rw[hV]at w_hV;have z_hV:(s3).1≤cs.length:=by have:=oH (cs:=cs) (s:=s2) (by omega);rw[hV]at this;exact this
 have hdl:=mE cs s3;have hdj:=ou (cs:=cs) (s:=s3) (by omega);have hp0:=dG k 0;have hp4:=cZ k 0;refine aC.intro (nt:=54) aS mixed qN Try.func41 rfl rfl rfl rfl rfl rfl ?_;refine Or.inr (eI _ (eI _ (aI w_hk ?_)));refine Or.inl (eI _ (aI (eT k) ?_));refine aI (fun _=> ?_) (fun q=>by have q:(aG k)=false:=q;rw[hl]at q;cases q);refine Or.inr (eI _ (eI _ (aI w_hL ?_)));refine Or.inl (eI _ (aI (ku k) ?_));refine aI (fun _=> ?_) (fun q=>by have q:(aM k)=false:=q;rw[hv]at q;cases q);refine Or.inr (eI _ (eI _ (aI w_hV ?_)))
 refine aI (fun q=>by have q:(k==8)=true:=q;rw[e8]at q;cases q) (fun _=> ?_);refine aI (fun q=>by have q:(k==10)=true:=q;rw[e10]at q;cases q) (fun _=> ?_);refine aI (fun q=>by have q:(k==11)=true:=q;rw[e11]at q;cases q) (fun _=> ?_);refine lp Nat (fun j=>[(32,.int .i64 (j:Nat))]) (fun j=>[.bT 2 64 [.int .i64 0,.int .i64 0,.int .i64 0,.raw (.slice none 0 0),.raw (.slice none 0 0)],.bT 3 64 [.int .i64 k,.int .i64 lv,.int .i64 va,.sl 20000,.raw (.slice none 0 0)],cD cs (iZ cs j s3).2,.row 20000 2 1 (.int .i64) (iZ cs j s3).1 []]) (fun j=>0-j) (fun j=>j≤0) 0 (Nat.zero_le _) ?_ ?_
 ·exact vo [⟨4000003,30000,2,1,(.int .i64)⟩] [(20000,30000)] rfl (aI (aI ⟨rfl,rfl⟩ trivial) ⟨trivial,⟨⟨rfl,rfl⟩,⟨rfl,rfl⟩,⟨rfl,rfl⟩,rfl,rfl,trivial⟩,trivial,⟨⟨rfl,rfl⟩,⟨rfl,rfl⟩,⟨rfl,rfl⟩,rfl,rfl,trivial⟩,trivial,⟨rfl,⟨rfl,rfl⟩,rfl,trivial⟩,⟨rfl,nP⟩,trivial⟩)
 intro j hj;have hj1:=hdl j;have hj2:=hdj j;refine aI (fun q=> ?_) (fun q=> ?_)
 ·have hlt:j<0:=qM (b:=0) q;refine Or.inr (eI _ (eI _ (aI (tq cs hb _ hj2) ?_)));refine aI (by show(iZ cs j s3).1.length+1≤_;omega) ?_;refine aI (by kernel_rfl) ?_;refine aK (j+1) hlt ?_ (by show 0-(j+1)<0-j;omega);exact Go.Tr.hd [(20000,39)] rfl (aI ⟨bD (by omega),rfl⟩ trivial) ⟨trivial,⟨⟨rfl,rfl⟩,⟨rfl,rfl⟩,⟨rfl,rfl⟩,rfl,rfl,trivial⟩,trivial,⟨⟨rfl,rfl⟩,⟨rfl,rfl⟩,⟨rfl,rfl⟩,rfl,rfl,trivial⟩,trivial,⟨rfl,⟨rfl,rfl⟩,rfl,trivial⟩,⟨rfl,nP⟩,trivial⟩
 have hje:j=0:=Nat.le_antisymm hj (qI (b:=0) q);subst hje;refine aI (fun q=>by have q:(k==9)=true:=q;rw[e9]at q;cases q) (fun _=> ?_);refine Or.inl (eI _ (aI (Ck k 0) ?_));refine aI ⟨hp0,Int.le_refl _,by omega⟩ ?_;refine fin [(10001,20000),(10002,51)] (aI rfl ?_);exact⟨trivial,⟨rfl,⟨rfl,rfl⟩,rfl,trivial⟩,⟨rfl,nP⟩,⟨rfl,nP⟩,trivial⟩
theorem TR(cs:List Int)(hb:mK cs)(s:Dp)(hs:s.1≤cs.length){k:Int}{s1:Dp}{lv:Int}{s2:Dp}{va:Int}{s3:Dp}(hk:jw cs s=(k,s1))(hL:jw cs s1=(lv,s2))(hV:jE cs s2=(va,s3))(hl:aG k=true)(hv:aM k=true)(e8:(k==8)=true)(e9:(k==9)=false)(e10:(k==10)=false)(e11:(k==11)=false):aC Try.prog 41 [.ptr 10000 0] [cD cs s] (.agg [.int .i64 k,.int .i64 lv,.int .i64 va,.sl 10001,.sl 10002]) [cD cs (iZ cs 1 s3).2,.row 10001 2 1 (.int .i64) (iZ cs 1 s3).1 [],.row 10002 60 2 aQ (List.replicate (aL k 0).toNat (0,0)) []]:=by
 have w_hk:=qD cs hb (s) (by omega);rw[hk]at w_hk;have z_hk:(s1).1≤cs.length:=by have:=iF (cs:=cs) (s:=s) (by omega);rw[hk]at this;exact this
 have w_hL:=qD cs hb (s1) (by omega);rw[hL]at w_hL;have z_hL:(s2).1≤cs.length:=by have:=iF (cs:=cs) (s:=s1) (by omega);rw[hL]at this;exact this
 have w_hV:=tq cs hb (s2) (by omega);rw[hV]at w_hV;have z_hV:(s3).1≤cs.length:=by have:=oH (cs:=cs) (s:=s2) (by omega);rw[hV]at this;exact this
 have hdl:=mE cs s3;have hdj:=ou (cs:=cs) (s:=s3) (by omega);have hp0:=dG k 0;have hp4:=cZ k 0;refine aC.intro (nt:=54) aS mixed qN Try.func41 rfl rfl rfl rfl rfl rfl ?_;refine Or.inr (eI _ (eI _ (aI w_hk ?_)));refine Or.inl (eI _ (aI (eT k) ?_));refine aI (fun _=> ?_) (fun q=>by have q:(aG k)=false:=q;rw[hl]at q;cases q);refine Or.inr (eI _ (eI _ (aI w_hL ?_)));refine Or.inl (eI _ (aI (ku k) ?_));refine aI (fun _=> ?_) (fun q=>by have q:(aM k)=false:=q;rw[hv]at q;cases q);refine Or.inr (eI _ (eI _ (aI w_hV ?_)))
 refine aI (fun _=> ?_) (fun q=>by have q:(k==8)=false:=q;rw[e8]at q;cases q);refine lp Nat (fun j=>[(32,.int .i64 (j:Nat))]) (fun j=>[.bT 2 64 [.int .i64 0,.int .i64 0,.int .i64 0,.raw (.slice none 0 0),.raw (.slice none 0 0)],.bT 3 64 [.int .i64 k,.int .i64 lv,.int .i64 va,.sl 20000,.raw (.slice none 0 0)],cD cs (iZ cs j s3).2,.row 20000 2 1 (.int .i64) (iZ cs j s3).1 []]) (fun j=>1-j) (fun j=>j≤1) 0 (Nat.zero_le _) ?_ ?_
 ·exact vo [⟨4000003,30000,2,1,(.int .i64)⟩] [(20000,30000)] rfl (aI (aI ⟨rfl,rfl⟩ trivial) ⟨trivial,⟨⟨rfl,rfl⟩,⟨rfl,rfl⟩,⟨rfl,rfl⟩,rfl,rfl,trivial⟩,trivial,⟨⟨rfl,rfl⟩,⟨rfl,rfl⟩,⟨rfl,rfl⟩,rfl,rfl,trivial⟩,trivial,⟨rfl,⟨rfl,rfl⟩,rfl,trivial⟩,⟨rfl,nP⟩,trivial⟩)
 intro j hj;have hj1:=hdl j;have hj2:=hdj j;refine aI (fun q=> ?_) (fun q=> ?_)
 ·have hlt:j<1:=qM (b:=1) q;refine Or.inr (eI _ (eI _ (aI (tq cs hb _ hj2) ?_)));refine aI (by show(iZ cs j s3).1.length+1≤_;omega) ?_;refine aI (by kernel_rfl) ?_;refine aK (j+1) hlt ?_ (by show 1-(j+1)<1-j;omega);exact Go.Tr.hd [(20000,39)] rfl (aI ⟨bD (by omega),rfl⟩ trivial) ⟨trivial,⟨⟨rfl,rfl⟩,⟨rfl,rfl⟩,⟨rfl,rfl⟩,rfl,rfl,trivial⟩,trivial,⟨⟨rfl,rfl⟩,⟨rfl,rfl⟩,⟨rfl,rfl⟩,rfl,rfl,trivial⟩,trivial,⟨rfl,⟨rfl,rfl⟩,rfl,trivial⟩,⟨rfl,nP⟩,trivial⟩
 have hje:j=1:=Nat.le_antisymm hj (qI (b:=1) q);subst hje;refine aI (fun q=>by have q:(k==9)=true:=q;rw[e9]at q;cases q) (fun _=> ?_);refine Or.inl (eI _ (aI (Ck k 0) ?_));refine aI ⟨hp0,Int.le_refl _,by omega⟩ ?_;refine fin [(10001,20000),(10002,51)] (aI rfl ?_);exact⟨trivial,⟨rfl,⟨rfl,rfl⟩,rfl,trivial⟩,⟨rfl,nP⟩,⟨rfl,nP⟩,trivial⟩
theorem TS(cs:List Int)(hb:mK cs)(s:Dp)(hs:s.1≤cs.length){k:Int}{s1:Dp}{lv:Int}{s2:Dp}{va:Int}{s3:Dp}{fi:Int}{s6:Dp}(hk:jw cs s=(k,s1))(hL:jw cs s1=(lv,s2))(hV:jE cs s2=(va,s3))(hF:jw cs (iZ cs 0 s3).2=(fi,s6))(hl:aG k=true)(hv:aM k=true)(e8:(k==8)=false)(e9:(k==9)=true)(e10:(k==10)=false)(e11:(k==11)=false):aC Try.prog 41 [.ptr 10000 0] [cD cs s] (.agg [.int .i64 k,.int .i64 lv,.int .i64 va,.sl 10001,.sl 10002]) [cD cs s6,.row 10001 2 1 (.int .i64) (iZ cs 0 s3).1 [],.row 10002 60 2 aQ (List.replicate (aL k fi).toNat (0,0)) []]:=by
 have w_hk:=qD cs hb (s) (by omega);rw[hk]at w_hk;have z_hk:(s1).1≤cs.length:=by have:=iF (cs:=cs) (s:=s) (by omega);rw[hk]at this;exact this
 have w_hL:=qD cs hb (s1) (by omega);rw[hL]at w_hL;have z_hL:(s2).1≤cs.length:=by have:=iF (cs:=cs) (s:=s1) (by omega);rw[hL]at this;exact this
 have w_hV:=tq cs hb (s2) (by omega);rw[hV]at w_hV;have z_hV:(s3).1≤cs.length:=by have:=oH (cs:=cs) (s:=s2) (by omega);rw[hV]at this;exact this
 have hdl:=mE cs s3;have hdj:=ou (cs:=cs) (s:=s3) (by omega);have hdn:=hdj 0;have w_hF:=qD cs hb ((iZ cs 0 s3).2) (by omega);rw[hF]at w_hF;have z_hF:(s6).1≤cs.length:=by have:=iF (cs:=cs) (s:=(iZ cs 0 s3).2) (by omega);rw[hF]at this;exact this
 have hp0:=dG k fi;have hp4:=cZ k fi;refine aC.intro (nt:=54) aS mixed qN Try.func41 rfl rfl rfl rfl rfl rfl ?_;refine Or.inr (eI _ (eI _ (aI w_hk ?_)));refine Or.inl (eI _ (aI (eT k) ?_));refine aI (fun _=> ?_) (fun q=>by have q:(aG k)=false:=q;rw[hl]at q;cases q);refine Or.inr (eI _ (eI _ (aI w_hL ?_)));refine Or.inl (eI _ (aI (ku k) ?_));refine aI (fun _=> ?_) (fun q=>by have q:(aM k)=false:=q;rw[hv]at q;cases q);refine Or.inr (eI _ (eI _ (aI w_hV ?_)));refine aI (fun q=>by have q:(k==8)=true:=q;rw[e8]at q;cases q) (fun _=> ?_)
 refine aI (fun q=>by have q:(k==10)=true:=q;rw[e10]at q;cases q) (fun _=> ?_);refine aI (fun q=>by have q:(k==11)=true:=q;rw[e11]at q;cases q) (fun _=> ?_);refine lp Nat (fun j=>[(32,.int .i64 (j:Nat))]) (fun j=>[.bT 2 64 [.int .i64 0,.int .i64 0,.int .i64 0,.raw (.slice none 0 0),.raw (.slice none 0 0)],.bT 3 64 [.int .i64 k,.int .i64 lv,.int .i64 va,.sl 20000,.raw (.slice none 0 0)],cD cs (iZ cs j s3).2,.row 20000 2 1 (.int .i64) (iZ cs j s3).1 []]) (fun j=>0-j) (fun j=>j≤0) 0 (Nat.zero_le _) ?_ ?_
 ·exact vo [⟨4000003,30000,2,1,(.int .i64)⟩] [(20000,30000)] rfl (aI (aI ⟨rfl,rfl⟩ trivial) ⟨trivial,⟨⟨rfl,rfl⟩,⟨rfl,rfl⟩,⟨rfl,rfl⟩,rfl,rfl,trivial⟩,trivial,⟨⟨rfl,rfl⟩,⟨rfl,rfl⟩,⟨rfl,rfl⟩,rfl,rfl,trivial⟩,trivial,⟨rfl,⟨rfl,rfl⟩,rfl,trivial⟩,⟨rfl,nP⟩,trivial⟩)
 intro j hj;have hj1:=hdl j;have hj2:=hdj j;refine aI (fun q=> ?_) (fun q=> ?_)
 ·have hlt:j<0:=qM (b:=0) q;refine Or.inr (eI _ (eI _ (aI (tq cs hb _ hj2) ?_)));refine aI (by show(iZ cs j s3).1.length+1≤_;omega) ?_;refine aI (by kernel_rfl) ?_;refine aK (j+1) hlt ?_ (by show 0-(j+1)<0-j;omega);exact Go.Tr.hd [(20000,39)] rfl (aI ⟨bD (by omega),rfl⟩ trivial) ⟨trivial,⟨⟨rfl,rfl⟩,⟨rfl,rfl⟩,⟨rfl,rfl⟩,rfl,rfl,trivial⟩,trivial,⟨⟨rfl,rfl⟩,⟨rfl,rfl⟩,⟨rfl,rfl⟩,rfl,rfl,trivial⟩,trivial,⟨rfl,⟨rfl,rfl⟩,rfl,trivial⟩,⟨rfl,nP⟩,trivial⟩
 have hje:j=0:=Nat.le_antisymm hj (qI (b:=0) q);subst hje;refine aI (fun _=> ?_) (fun q=>by have q:(k==9)=false:=q;rw[e9]at q;cases q);refine Or.inr (eI _ (eI _ (aI w_hF ?_)));refine Or.inl (eI _ (aI (Ck k fi) ?_));refine aI ⟨hp0,Int.le_refl _,by omega⟩ ?_;refine fin [(10001,20000),(10002,51)] (aI rfl ?_);exact⟨trivial,⟨rfl,⟨rfl,rfl⟩,rfl,trivial⟩,⟨rfl,nP⟩,⟨rfl,nP⟩,trivial⟩
theorem QJ(cs:List Int)(hb:mK cs)(s:Dp)(hs:s.1≤cs.length){k:Int}{s1:Dp}{lv:Int}{s2:Dp}{n:Nat}{s4:Dp}(hk:jw cs s=(k,s1))(hL:jw cs s1=(lv,s2))(hC:jw cs s2=(((n:Nat):Int),s4))(hl:aG k=true)(hv:aM k=false)(e8:(k==8)=false)(e9:(k==9)=false)(e10:(k==10)=true)(e11:(k==11)=false):aC Try.prog 41 [.ptr 10000 0] [cD cs s] (.agg [.int .i64 k,.int .i64 lv,.int .i64 0,.sl 10001,.sl 10002]) [cD cs (iZ cs n s4).2,.row 10001 2 1 (.int .i64) (iZ cs n s4).1 [],.row 10002 60 2 aQ (List.replicate (aL k 0).toNat (0,0)) []]:=by
 have w_hk:=qD cs hb (s) (by omega);rw[hk]at w_hk;have z_hk:(s1).1≤cs.length:=by have:=iF (cs:=cs) (s:=s) (by omega);rw[hk]at this;exact this
 have w_hL:=qD cs hb (s1) (by omega);rw[hL]at w_hL;have z_hL:(s2).1≤cs.length:=by have:=iF (cs:=cs) (s:=s1) (by omega);rw[hL]at this;exact this
 have w_hC:=qD cs hb (s2) (by omega);rw[hC]at w_hC;have z_hC:(s4).1≤cs.length:=by have:=iF (cs:=cs) (s:=s2) (by omega);rw[hC]at this;exact this
 have hn:=NK hb s2;rw[hC]at hn;have hn:((n:Nat):Int)≤255:=hn.2;have hdl:=mE cs s4;have hdj:=ou (cs:=cs) (s:=s4) (by omega);have hp0:=dG k 0;have hp4:=cZ k 0;refine aC.intro (nt:=54) aS mixed qN Try.func41 rfl rfl rfl rfl rfl rfl ?_;refine Or.inr (eI _ (eI _ (aI w_hk ?_)));refine Or.inl (eI _ (aI (eT k) ?_));refine aI (fun _=> ?_) (fun q=>by have q:(aG k)=false:=q;rw[hl]at q;cases q);refine Or.inr (eI _ (eI _ (aI w_hL ?_)));refine Or.inl (eI _ (aI (ku k) ?_));refine aI (fun q=>by have q:(aM k)=true:=q;rw[hv]at q;cases q) (fun _=> ?_)
 refine aI (fun q=>by have q:(k==8)=true:=q;rw[e8]at q;cases q) (fun _=> ?_);refine aI (fun _=> ?_) (fun q=>by have q:(k==10)=false:=q;rw[e10]at q;cases q);refine Or.inr (eI _ (eI _ (aI w_hC ?_)));refine lp Nat (fun j=>[(32,.int .i64 (j:Nat))]) (fun j=>[.bT 2 64 [.int .i64 0,.int .i64 0,.int .i64 0,.raw (.slice none 0 0),.raw (.slice none 0 0)],.bT 3 64 [.int .i64 k,.int .i64 lv,.int .i64 0,.sl 20000,.raw (.slice none 0 0)],cD cs (iZ cs j s4).2,.row 20000 2 1 (.int .i64) (iZ cs j s4).1 []]) (fun j=>n-j) (fun j=>j≤n) 0 (Nat.zero_le _) ?_ ?_
 ·exact vo [⟨4000003,30000,2,1,(.int .i64)⟩] [(20000,30000)] rfl (aI (aI ⟨rfl,rfl⟩ trivial) ⟨trivial,⟨⟨rfl,rfl⟩,⟨rfl,rfl⟩,⟨rfl,rfl⟩,rfl,rfl,trivial⟩,trivial,⟨⟨rfl,rfl⟩,⟨rfl,rfl⟩,⟨rfl,rfl⟩,rfl,rfl,trivial⟩,trivial,⟨rfl,⟨rfl,rfl⟩,rfl,trivial⟩,⟨rfl,nP⟩,trivial⟩)
 intro j hj;have hj1:=hdl j;have hj2:=hdj j;refine aI (fun q=> ?_) (fun q=> ?_)
 ·have hlt:j<n:=qM (b:=n) q;refine Or.inr (eI _ (eI _ (aI (tq cs hb _ hj2) ?_)));refine aI (by show(iZ cs j s4).1.length+1≤_;omega) ?_;refine aI (by kernel_rfl) ?_;refine aK (j+1) hlt ?_ (by show n-(j+1)<n-j;omega);exact Go.Tr.hd [(20000,39)] rfl (aI ⟨bD (by omega),rfl⟩ trivial) ⟨trivial,⟨⟨rfl,rfl⟩,⟨rfl,rfl⟩,⟨rfl,rfl⟩,rfl,rfl,trivial⟩,trivial,⟨⟨rfl,rfl⟩,⟨rfl,rfl⟩,⟨rfl,rfl⟩,rfl,rfl,trivial⟩,trivial,⟨rfl,⟨rfl,rfl⟩,rfl,trivial⟩,⟨rfl,nP⟩,trivial⟩
 have hje:j=n:=Nat.le_antisymm hj (qI (b:=n) q);subst hje;refine aI (fun q=>by have q:(k==9)=true:=q;rw[e9]at q;cases q) (fun _=> ?_);refine Or.inl (eI _ (aI (Ck k 0) ?_));refine aI ⟨hp0,Int.le_refl _,by omega⟩ ?_;refine fin [(10001,20000),(10002,51)] (aI rfl ?_);exact⟨trivial,⟨rfl,⟨rfl,rfl⟩,rfl,trivial⟩,⟨rfl,nP⟩,⟨rfl,nP⟩,trivial⟩
theorem QK(cs:List Int)(hb:mK cs)(s:Dp)(hs:s.1≤cs.length){k:Int}{s1:Dp}{lv:Int}{s2:Dp}(hk:jw cs s=(k,s1))(hL:jw cs s1=(lv,s2))(hl:aG k=true)(hv:aM k=false)(e8:(k==8)=false)(e9:(k==9)=false)(e10:(k==10)=false)(e11:(k==11)=true):aC Try.prog 41 [.ptr 10000 0] [cD cs s] (.agg [.int .i64 k,.int .i64 lv,.int .i64 0,.sl 10001,.sl 10002]) [cD cs (iZ cs 2 s2).2,.row 10001 2 1 (.int .i64) (iZ cs 2 s2).1 [],.row 10002 60 2 aQ (List.replicate (aL k 0).toNat (0,0)) []]:=by
 have w_hk:=qD cs hb (s) (by omega);rw[hk]at w_hk;have z_hk:(s1).1≤cs.length:=by have:=iF (cs:=cs) (s:=s) (by omega);rw[hk]at this;exact this
 have w_hL:=qD cs hb (s1) (by omega);rw[hL]at w_hL;have z_hL:(s2).1≤cs.length:=by have:=iF (cs:=cs) (s:=s1) (by omega);rw[hL]at this;exact this
 have hdl:=mE cs s2;have hdj:=ou (cs:=cs) (s:=s2) (by omega);have hp0:=dG k 0;have hp4:=cZ k 0;refine aC.intro (nt:=54) aS mixed qN Try.func41 rfl rfl rfl rfl rfl rfl ?_;refine Or.inr (eI _ (eI _ (aI w_hk ?_)));refine Or.inl (eI _ (aI (eT k) ?_));refine aI (fun _=> ?_) (fun q=>by have q:(aG k)=false:=q;rw[hl]at q;cases q);refine Or.inr (eI _ (eI _ (aI w_hL ?_)));refine Or.inl (eI _ (aI (ku k) ?_));refine aI (fun q=>by have q:(aM k)=true:=q;rw[hv]at q;cases q) (fun _=> ?_);refine aI (fun q=>by have q:(k==8)=true:=q;rw[e8]at q;cases q) (fun _=> ?_)
 refine aI (fun q=>by have q:(k==10)=true:=q;rw[e10]at q;cases q) (fun _=> ?_);refine aI (fun _=> ?_) (fun q=>by have q:(k==11)=false:=q;rw[e11]at q;cases q);refine lp Nat (fun j=>[(32,.int .i64 (j:Nat))]) (fun j=>[.bT 2 64 [.int .i64 0,.int .i64 0,.int .i64 0,.raw (.slice none 0 0),.raw (.slice none 0 0)],.bT 3 64 [.int .i64 k,.int .i64 lv,.int .i64 0,.sl 20000,.raw (.slice none 0 0)],cD cs (iZ cs j s2).2,.row 20000 2 1 (.int .i64) (iZ cs j s2).1 []]) (fun j=>2-j) (fun j=>j≤2) 0 (Nat.zero_le _) ?_ ?_
 ·exact vo [⟨4000003,30000,2,1,(.int .i64)⟩] [(20000,30000)] rfl (aI (aI ⟨rfl,rfl⟩ trivial) ⟨trivial,⟨⟨rfl,rfl⟩,⟨rfl,rfl⟩,⟨rfl,rfl⟩,rfl,rfl,trivial⟩,trivial,⟨⟨rfl,rfl⟩,⟨rfl,rfl⟩,⟨rfl,rfl⟩,rfl,rfl,trivial⟩,trivial,⟨rfl,⟨rfl,rfl⟩,rfl,trivial⟩,⟨rfl,nP⟩,trivial⟩)
 intro j hj;have hj1:=hdl j;have hj2:=hdj j;refine aI (fun q=> ?_) (fun q=> ?_)
 ·have hlt:j<2:=qM (b:=2) q;refine Or.inr (eI _ (eI _ (aI (tq cs hb _ hj2) ?_)));refine aI (by show(iZ cs j s2).1.length+1≤_;omega) ?_;refine aI (by kernel_rfl) ?_;refine aK (j+1) hlt ?_ (by show 2-(j+1)<2-j;omega);exact Go.Tr.hd [(20000,39)] rfl (aI ⟨bD (by omega),rfl⟩ trivial) ⟨trivial,⟨⟨rfl,rfl⟩,⟨rfl,rfl⟩,⟨rfl,rfl⟩,rfl,rfl,trivial⟩,trivial,⟨⟨rfl,rfl⟩,⟨rfl,rfl⟩,⟨rfl,rfl⟩,rfl,rfl,trivial⟩,trivial,⟨rfl,⟨rfl,rfl⟩,rfl,trivial⟩,⟨rfl,nP⟩,trivial⟩
 have hje:j=2:=Nat.le_antisymm hj (qI (b:=2) q);subst hje;refine aI (fun q=>by have q:(k==9)=true:=q;rw[e9]at q;cases q) (fun _=> ?_);refine Or.inl (eI _ (aI (Ck k 0) ?_));refine aI ⟨hp0,Int.le_refl _,by omega⟩ ?_;refine fin [(10001,20000),(10002,51)] (aI rfl ?_);exact⟨trivial,⟨rfl,⟨rfl,rfl⟩,rfl,trivial⟩,⟨rfl,nP⟩,⟨rfl,nP⟩,trivial⟩
theorem QL(cs:List Int)(hb:mK cs)(s:Dp)(hs:s.1≤cs.length){k:Int}{s1:Dp}{lv:Int}{s2:Dp}{va:Int}{s3:Dp}(hk:jw cs s=(k,s1))(hL:jw cs s1=(lv,s2))(hV:jE cs s2=(va,s3))(hl:aG k=true)(hv:aM k=true)(e8:(k==8)=false)(e9:(k==9)=false)(e10:(k==10)=false)(e11:(k==11)=false):aC Try.prog 41 [.ptr 10000 0] [cD cs s] (.agg [.int .i64 k,.int .i64 lv,.int .i64 va,.sl 10001,.sl 10002]) [cD cs (iZ cs 0 s3).2,.row 10001 2 1 (.int .i64) (iZ cs 0 s3).1 [],.row 10002 60 2 aQ (List.replicate (aL k 0).toNat (0,0)) []]:=by
 have w_hk:=qD cs hb (s) (by omega);rw[hk]at w_hk;have z_hk:(s1).1≤cs.length:=by have:=iF (cs:=cs) (s:=s) (by omega);rw[hk]at this;exact this
 have w_hL:=qD cs hb (s1) (by omega);rw[hL]at w_hL;have z_hL:(s2).1≤cs.length:=by have:=iF (cs:=cs) (s:=s1) (by omega);rw[hL]at this;exact this
 have w_hV:=tq cs hb (s2) (by omega);rw[hV]at w_hV;have z_hV:(s3).1≤cs.length:=by have:=oH (cs:=cs) (s:=s2) (by omega);rw[hV]at this;exact this
 have hdl:=mE cs s3;have hdj:=ou (cs:=cs) (s:=s3) (by omega);have hp0:=dG k 0;have hp4:=cZ k 0;refine aC.intro (nt:=54) aS mixed qN Try.func41 rfl rfl rfl rfl rfl rfl ?_;refine Or.inr (eI _ (eI _ (aI w_hk ?_)));refine Or.inl (eI _ (aI (eT k) ?_));refine aI (fun _=> ?_) (fun q=>by have q:(aG k)=false:=q;rw[hl]at q;cases q);refine Or.inr (eI _ (eI _ (aI w_hL ?_)));refine Or.inl (eI _ (aI (ku k) ?_));refine aI (fun _=> ?_) (fun q=>by have q:(aM k)=false:=q;rw[hv]at q;cases q);refine Or.inr (eI _ (eI _ (aI w_hV ?_)))
 refine aI (fun q=>by have q:(k==8)=true:=q;rw[e8]at q;cases q) (fun _=> ?_);refine aI (fun q=>by have q:(k==10)=true:=q;rw[e10]at q;cases q) (fun _=> ?_);refine aI (fun q=>by have q:(k==11)=true:=q;rw[e11]at q;cases q) (fun _=> ?_);refine lp Nat (fun j=>[(32,.int .i64 (j:Nat))]) (fun j=>[.bT 2 64 [.int .i64 0,.int .i64 0,.int .i64 0,.raw (.slice none 0 0),.raw (.slice none 0 0)],.bT 3 64 [.int .i64 k,.int .i64 lv,.int .i64 va,.sl 20000,.raw (.slice none 0 0)],cD cs (iZ cs j s3).2,.row 20000 2 1 (.int .i64) (iZ cs j s3).1 []]) (fun j=>0-j) (fun j=>j≤0) 0 (Nat.zero_le _) ?_ ?_
 ·exact vo [⟨4000003,30000,2,1,(.int .i64)⟩] [(20000,30000)] rfl (aI (aI ⟨rfl,rfl⟩ trivial) ⟨trivial,⟨⟨rfl,rfl⟩,⟨rfl,rfl⟩,⟨rfl,rfl⟩,rfl,rfl,trivial⟩,trivial,⟨⟨rfl,rfl⟩,⟨rfl,rfl⟩,⟨rfl,rfl⟩,rfl,rfl,trivial⟩,trivial,⟨rfl,⟨rfl,rfl⟩,rfl,trivial⟩,⟨rfl,nP⟩,trivial⟩)
 intro j hj;have hj1:=hdl j;have hj2:=hdj j;refine aI (fun q=> ?_) (fun q=> ?_)
 ·have hlt:j<0:=qM (b:=0) q;refine Or.inr (eI _ (eI _ (aI (tq cs hb _ hj2) ?_)));refine aI (by show(iZ cs j s3).1.length+1≤_;omega) ?_;refine aI (by kernel_rfl) ?_;refine aK (j+1) hlt ?_ (by show 0-(j+1)<0-j;omega);exact Go.Tr.hd [(20000,39)] rfl (aI ⟨bD (by omega),rfl⟩ trivial) ⟨trivial,⟨⟨rfl,rfl⟩,⟨rfl,rfl⟩,⟨rfl,rfl⟩,rfl,rfl,trivial⟩,trivial,⟨⟨rfl,rfl⟩,⟨rfl,rfl⟩,⟨rfl,rfl⟩,rfl,rfl,trivial⟩,trivial,⟨rfl,⟨rfl,rfl⟩,rfl,trivial⟩,⟨rfl,nP⟩,trivial⟩
 have hje:j=0:=Nat.le_antisymm hj (qI (b:=0) q);subst hje;refine aI (fun q=>by have q:(k==9)=true:=q;rw[e9]at q;cases q) (fun _=> ?_);refine Or.inl (eI _ (aI (Ck k 0) ?_));refine aI ⟨hp0,Int.le_refl _,by omega⟩ ?_;refine fin [(10001,20000),(10002,51)] (aI rfl ?_);exact⟨trivial,⟨rfl,⟨rfl,rfl⟩,rfl,trivial⟩,⟨rfl,nP⟩,⟨rfl,nP⟩,trivial⟩
theorem Wj(cs:List Int)(hb:mK cs)(s:Dp)(hs:s.1≤cs.length):aC Try.prog 41 [.ptr 10000 0] [cD cs s] (XQ (kJ cs s).1) (cD cs (kJ cs s).2 ::XI (kJ cs s).1):=by
 obtain⟨k,s1,hk⟩:∃k s1,jw cs s=(k,s1):=⟨_,_,rfl⟩
 by_cases h6:k=6
 ·subst h6;obtain⟨va,s3,hV⟩:∃k s3,jE cs s1=(k,s3):=⟨_,_,rfl⟩;have:=TP cs hb s hs hk hV (by decide) (by decide) (by decide) (by decide) (by decide) (by decide)
  have e:kJ cs s=((6,0,va,(iZ cs 0 s3).1,List.replicate (aL 6 0).toNat (0,0)),(iZ cs 0 s3).2):=by
   unfold kJ uw;simp only[hk,o7,pV,qG,sD,show aG 6=false by decide,show aM 6=true by decide,cond_true,cond_false,show((6:Int)==8)=false by decide,show((6:Int)==9)=false by decide,show((6:Int)==10)=false by decide,show((6:Int)==11)=false by decide];simp only[hV,Int.toNat_one,Int.toNat_zero,show(2:Int).toNat=2 from rfl]
   try rfl
  rw[e];exact this
 by_cases h7:k=7
 ·subst h7;obtain⟨lv,s2,hL⟩:∃k s2,jw cs s1=(k,s2):=⟨_,_,rfl⟩;obtain⟨va,s3,hV⟩:∃k s3,jE cs s2=(k,s3):=⟨_,_,rfl⟩;have:=TQ cs hb s hs hk hL hV (by decide) (by decide) (by decide) (by decide) (by decide) (by decide)
  have e:kJ cs s=((7,lv,va,(iZ cs 0 s3).1,List.replicate (aL 7 0).toNat (0,0)),(iZ cs 0 s3).2):=by
   unfold kJ uw;simp only[hk,o7,pV,qG,sD,show aG 7=true by decide,show aM 7=true by decide,cond_true,cond_false,show((7:Int)==8)=false by decide,show((7:Int)==9)=false by decide,show((7:Int)==10)=false by decide,show((7:Int)==11)=false by decide];simp only[hL,hV,Int.toNat_one,Int.toNat_zero,show(2:Int).toNat=2 from rfl]
   try rfl
  rw[e];exact this
 by_cases h8:k=8
 ·subst h8;obtain⟨lv,s2,hL⟩:∃k s2,jw cs s1=(k,s2):=⟨_,_,rfl⟩;obtain⟨va,s3,hV⟩:∃k s3,jE cs s2=(k,s3):=⟨_,_,rfl⟩;have:=TR cs hb s hs hk hL hV (by decide) (by decide) (by decide) (by decide) (by decide) (by decide)
  have e:kJ cs s=((8,lv,va,(iZ cs 1 s3).1,List.replicate (aL 8 0).toNat (0,0)),(iZ cs 1 s3).2):=by
   unfold kJ uw;simp only[hk,o7,pV,qG,sD,show aG 8=true by decide,show aM 8=true by decide,cond_true,cond_false,show((8:Int)==8)=true by decide,show((8:Int)==9)=false by decide,show((8:Int)==10)=false by decide,show((8:Int)==11)=false by decide];simp only[hL,hV,Int.toNat_one,Int.toNat_zero,show(2:Int).toNat=2 from rfl]
   try rfl
  rw[e];exact this
 by_cases h9:k=9
 ·subst h9;obtain⟨lv,s2,hL⟩:∃k s2,jw cs s1=(k,s2):=⟨_,_,rfl⟩;obtain⟨va,s3,hV⟩:∃k s3,jE cs s2=(k,s3):=⟨_,_,rfl⟩;obtain⟨fi,s6,hF⟩:∃k s6,jw cs (iZ cs 0 s3).2=(k,s6):=⟨_,_,rfl⟩;have:=TS cs hb s hs hk hL hV hF (by decide) (by decide) (by decide) (by decide) (by decide) (by decide)
  have e:kJ cs s=((9,lv,va,(iZ cs 0 s3).1,List.replicate (aL 9 fi).toNat (0,0)),s6):=by
   unfold kJ uw;simp only[hk,o7,pV,qG,sD,show aG 9=true by decide,show aM 9=true by decide,cond_true,cond_false,show((9:Int)==8)=false by decide,show((9:Int)==9)=true by decide,show((9:Int)==10)=false by decide,show((9:Int)==11)=false by decide];simp only[hL,hV,hF,Int.toNat_one,Int.toNat_zero,show(2:Int).toNat=2 from rfl]
   try rfl
  rw[e];exact this
 by_cases h10:k=10
 ·subst h10;obtain⟨lv,s2,hL⟩:∃k s2,jw cs s1=(k,s2):=⟨_,_,rfl⟩;obtain⟨n,s4,hC⟩:∃(n:Nat) (s4:Dp),jw cs s2=(((n:Nat):Int),s4):=⟨(jw cs s2).1.toNat,(jw cs s2).2,by rw[Int.toNat_of_nonneg (NK hb s2).1]⟩;have:=QJ cs hb s hs hk hL hC (by decide) (by decide) (by decide) (by decide) (by decide) (by decide)
  have e:kJ cs s=((10,lv,0,(iZ cs n s4).1,List.replicate (aL 10 0).toNat (0,0)),(iZ cs n s4).2):=by
   unfold kJ uw;simp only[hk,o7,pV,qG,sD,show aG 10=true by decide,show aM 10=false by decide,cond_true,cond_false,show((10:Int)==8)=false by decide,show((10:Int)==9)=false by decide,show((10:Int)==10)=true by decide,show((10:Int)==11)=false by decide];simp only[hL,hC,Int.toNat_natCast,Int.toNat_one,Int.toNat_zero,show(2:Int).toNat=2 from rfl]
   try rfl
  rw[e];exact this
 by_cases h11:k=11
 ·subst h11;obtain⟨lv,s2,hL⟩:∃k s2,jw cs s1=(k,s2):=⟨_,_,rfl⟩;have:=QK cs hb s hs hk hL (by decide) (by decide) (by decide) (by decide) (by decide) (by decide)
  have e:kJ cs s=((11,lv,0,(iZ cs 2 s2).1,List.replicate (aL 11 0).toNat (0,0)),(iZ cs 2 s2).2):=by
   unfold kJ uw;simp only[hk,o7,pV,qG,sD,show aG 11=true by decide,show aM 11=false by decide,cond_true,cond_false,show((11:Int)==8)=false by decide,show((11:Int)==9)=false by decide,show((11:Int)==10)=false by decide,show((11:Int)==11)=true by decide];simp only[hL,Int.toNat_one,Int.toNat_zero,show(2:Int).toNat=2 from rfl]
   try rfl
  rw[e];exact this
 by_cases h12:k=12
 ·subst h12;obtain⟨lv,s2,hL⟩:∃k s2,jw cs s1=(k,s2):=⟨_,_,rfl⟩;obtain⟨va,s3,hV⟩:∃k s3,jE cs s2=(k,s3):=⟨_,_,rfl⟩;have:=QL cs hb s hs hk hL hV (by decide) (by decide) (by decide) (by decide) (by decide) (by decide)
  have e:kJ cs s=((12,lv,va,(iZ cs 0 s3).1,List.replicate (aL 12 0).toNat (0,0)),(iZ cs 0 s3).2):=by
   unfold kJ uw;simp only[hk,o7,pV,qG,sD,show aG 12=true by decide,show aM 12=true by decide,cond_true,cond_false,show((12:Int)==8)=false by decide,show((12:Int)==9)=false by decide,show((12:Int)==10)=false by decide,show((12:Int)==11)=false by decide];simp only[hL,hV,Int.toNat_one,Int.toNat_zero,show(2:Int).toNat=2 from rfl]
   try rfl
  rw[e];exact this
 have e8:(k==8)=false:=by simpa using h8
 have e9:(k==9)=false:=by simpa using h9
 have e10:(k==10)=false:=by simpa using h10
 have e11:(k==11)=false:=by simpa using h11
 have e6:(k==6)=false:=by simpa using h6
 have e7:(k==7)=false:=by simpa using h7
 have e12:(k==12)=false:=by simpa using h12
 have hv:aM k=false:=by unfold aM;rw[e6,e7,e8,e12,e9];rfl
 cases hl:aG k with
 |false=>
  have:=TU cs hb s hs hk hl hv e8 e9 e10 e11
  have e:kJ cs s=((k,0,0,(iZ cs 0 s1).1,List.replicate (aL k 0).toNat (0,0)),(iZ cs 0 s1).2):=by
   unfold kJ uw;simp only[hk,o7,pV,qG,sD,hl,hv,cond_true,cond_false,e8,e9,e10,e11]
   try rfl
  rw[e];exact this
 |true=>
  obtain⟨lv,s2,hL⟩:∃k s2,jw cs s1=(k,s2):=⟨_,_,rfl⟩;have:=TV cs hb s hs hk hL hl hv e8 e9 e10 e11
  have e:kJ cs s=((k,lv,0,(iZ cs 0 s2).1,List.replicate (aL k 0).toNat (0,0)),(iZ cs 0 s2).2):=by
   unfold kJ uw;simp only[hk,o7,pV,qG,sD,hl,hv,cond_true,cond_false,e8,e9,e10,e11];simp only[hL,Int.toNat_zero]
   try rfl
  rw[e];exact this
theorem gM{cs:List Int}{s:Dp}(h:s.1≤cs.length):(gK cs s).2.1≤cs.length:=by
 unfold gK;cases hd:(s.2|| !decide (s.1<cs.length))with
 |true=>exact h
 |false=>
  rw[Bool.or_eq_false_iff]at hd;have:s.1<cs.length:=by simpa using hd.2
  show s.1+1≤_;omega
theorem Pb{cs:List Int}:∀{f j:Nat} {z:Int} {s:Dp},s.1≤cs.length→(IC cs f j z s).2.1≤cs.length
 |0,_,_,_,h=>h
 |f+1,j,z,s,h=>by
  unfold IC;cases decide ((gK cs s).1<128)with
  |true=>exact gM h
  |false=>exact Pb (gM h)
theorem nE{cs:List Int}{s:Dp}(h:s.1≤cs.length):(iE cs s).2.1≤cs.length:=Pb h
def bO(cs:List Int):Nat→Dp→List Int×Dp
 |0,s=>([],s)
 |j+1,s=>bif (bO cs j s).2.2 then bO cs j s else((bO cs j s).1++[(iE cs (bO cs j s).2).1],(iE cs (bO cs j s).2).2)
theorem mG(cs:List Int)(s:Dp):∀j,(bO cs j s).1.length≤j
 |0=>Nat.le_refl _
 |j+1=>by
  have ih:=mG cs s j;unfold bO;cases (bO cs j s).2.2 with
  |true=>show(bO cs j s).1.length≤_;omega
  |false=>show((bO cs j s).1++[_]).length≤_;rw[List.length_append,List.length_singleton];omega
theorem ow{cs:List Int}{s:Dp}(h:s.1≤cs.length):∀j,(bO cs j s).2.1≤cs.length
 |0=>h
 |j+1=>by
  have ih:=ow h j;unfold bO;cases (bO cs j s).2.2 with
  |true=>exact ih
  |false=>exact nE ih
theorem mF{cs:List Int}{s:Dp}{j:Nat}(h:(bO cs j s).2.2=true):∀i,bO cs (j+i) s=bO cs j s
 |0=>rfl
 |i+1=>by
  have ih:=mF h i;rw[←Nat.add_assoc,bO,ih,h];rfl
def gV(cs:List Int)(s:Dp):ah×Dp:=uw (gK cs) (iE cs) (bO cs) (-1,0) s
theorem wY:bY Try.prog 32=true:=by kernel_rfl
theorem xq{p i:Nat}(h:i<p)(hp:p≤4):IntKind.i64.wrap (((p:Nat):Int)-((i:Nat):Int)-1)=((p:Nat):Int)-((i+1:Nat):Int):=by rw[IntWalk.i64_in _ (by omega)];omega
theorem jT{α:Type}(i:Nat)(x:α):List.replicate (i+1) x=List.replicate i x++[x]:=List.replicate_succ' ..
theorem Ud(cs:List Int)(hb:mK cs)(s:Dp)(hs:s.1≤cs.length){k:Int}{s1:Dp}{ds:List Int}{s5:Dp}{p:Nat}(hk:gK cs s=(k,s1))(hD:bO cs 0 s1=(ds,s5))(hp:aL k 0=((p:Nat):Int))(hl:aG k=false)(hv:aM k=false)(e8:(k==8)=false)(e9:(k==9)=false)(e10:(k==10)=false)(e11:(k==11)=false)(e6:(k==6)=false)(e7:(k==7)=false)(e12:(k==12)=false):aC Try.prog 32 [.ptr 10000 0] [cR cs s] (.agg [.int .i64 k,.int .i64 0,.int .i64 0,.sl 10001,.sl 10002]) [cR cs s5,.row 10001 2 1 (.int .i64) ds [],.row 10002 60 2 aQ (List.replicate p (-1,0)) []]:=by
 have hlen:=hb.len;have w_hk:=pX cs hb (s) (by omega);rw[hk]at w_hk;have z_hk:(s1).1≤cs.length:=by have:=gM (cs:=cs) (s:=s) (by omega);rw[hk]at this;exact this
 have hdl:=mG cs s1;have hdj:=ow (cs:=cs) (s:=s1) (by omega);have z5:s5.1≤cs.length:=by have:=hdj 0;rw[hD]at this;exact this
 have hp4:=cZ k 0;rw[hp]at hp4;refine aC.intro (nt:=77) aS mixed wY Try.func32 rfl rfl rfl rfl rfl rfl ?_;refine Or.inr (eI _ (eI _ (aI w_hk ?_)));refine Or.inl (eI _ (aI (mH k) ?_));refine aI (fun q=>by have q:(aG k)=true:=q;rw[hl]at q;cases q) (fun _=> ?_);refine aI (fun q=>by have q:(k==6)=true:=q;rw[e6]at q;cases q) (fun _=> ?_);refine aI (fun q=>by have q:(k==7)=true:=q;rw[e7]at q;cases q) (fun _=> ?_);refine aI (fun q=>by have q:(k==8)=true:=q;rw[e8]at q;cases q) (fun _=> ?_);refine aI (fun q=>by have q:(k==12)=true:=q;rw[e12]at q;cases q) (fun _=> ?_)
 refine aI (fun q=>by have q:(k==9)=true:=q;rw[e9]at q;cases q) (fun _=> ?_);refine aI (fun q=>by have q:(k==10)=true:=q;rw[e10]at q;cases q) (fun _=> ?_);refine aI (fun q=>by have q:(k==8)=true:=q;rw[e8]at q;cases q) (fun _=> ?_);refine aI (fun q=>by have q:(k==11)=true:=q;rw[e11]at q;cases q) (fun _=> ?_);refine lp Nat (fun j=>[(5,.int .i64 (j:Nat))]) (fun j=>[.bT 2 64 [.int .i64 0,.int .i64 0,.int .i64 0,.raw (.slice none 0 0),.raw (.slice none 0 0)],.bT 3 64 [.int .i64 k,.int .i64 0,.int .i64 0,.sl 20000,.raw (.slice none 0 0)],cR cs (bO cs j s1).2,.row 20000 2 1 (.int .i64) (bO cs j s1).1 []]) (fun j=>0-j) (fun j=>j≤0) 0 (Nat.zero_le _) ?_ ?_
 ·exact vo [⟨4000003,30000,2,1,(.int .i64)⟩] [(20000,30000)] rfl (aI (aI ⟨rfl,rfl⟩ trivial) ⟨trivial,⟨⟨rfl,rfl⟩,⟨rfl,rfl⟩,⟨rfl,rfl⟩,rfl,rfl,trivial⟩,trivial,⟨⟨rfl,rfl⟩,⟨rfl,rfl⟩,⟨rfl,rfl⟩,rfl,rfl,trivial⟩,trivial,⟨rfl,⟨rfl,rfl⟩,rfl,trivial⟩,⟨rfl,nP⟩,trivial⟩)
 intro j hj;have hj1:=hdl j;have hj2:=hdj j;refine aI (fun q=> ?_) (fun q=> ?_)
 ·have q:(bif decide (((j:Nat):Int)<((0:Nat):Int))then !(bO cs j s1).2.2 else false)=true:=q;rw[aY,Bool.and_eq_true,decide_eq_true_eq]at q;have hlt:j<0:=by omega
  have hnb:(bO cs j s1).2.2=false:=by simpa using q.2
  have e:bO cs (j+1) s1=((bO cs j s1).1++[(iE cs (bO cs j s1).2).1],(iE cs (bO cs j s1).2).2):=by rw[bO,hnb];rfl
  have e2:=congrArg Prod.fst e;have e3:=congrArg Prod.snd e;refine Or.inr (eI _ (eI _ (aI (tu cs hb _ (by omega)) ?_)));refine aI (by show(bO cs j s1).1.length+1≤_;omega) ?_;refine aI (by kernel_rfl) ?_;refine aK (j+1) hlt ?_ (by show 0-(j+1)<0-j;omega);exact Go.Tr.hd [(20000,55)] rfl (aI ⟨bD (by omega),rfl⟩ trivial) ⟨trivial,⟨⟨rfl,rfl⟩,⟨rfl,rfl⟩,⟨rfl,rfl⟩,rfl,rfl,trivial⟩,trivial,⟨⟨rfl,rfl⟩,⟨rfl,rfl⟩,⟨rfl,rfl⟩,rfl,rfl,trivial⟩,trivial,⟨rfl,⟨congrArg (fun s:Dp=>((s.1:Nat):Int)) e3.symm,rfl⟩,congrArg Prod.snd e3.symm,trivial⟩,⟨e2.symm,nP⟩,trivial⟩
 have q:(bif decide (((j:Nat):Int)<((0:Nat):Int))then !(bO cs j s1).2.2 else false)=false:=q;rw[aY,Bool.and_eq_false_iff,decide_eq_false_iff_not]at q
 have hfin:bO cs j s1=(ds,s5):=by
  rcases q with q|q
  ·rw[←hD,show j=0 by omega]
  ·have hB:(bO cs j s1).2.2=true:=by simpa using q
   have:=mF hB (0-j);rw[show j+(0-j)=0 by omega,hD]at this;exact this.symm
 have f1:(bO cs j s1).1=ds:=by rw[hfin]
 have f2:(bO cs j s1).2=s5:=by rw[hfin]
 refine aI (fun q=>by have q:(k==9)=true:=q;rw[e9]at q;cases q) (fun _=> ?_);have hprt:=E5 k 0;rw[hp]at hprt;refine Or.inl (eI _ (aI hprt ?_));refine lp Nat (fun i=>[(7,.int .i64 (((p:Nat):Int)-(i:Nat)))]) (fun i=>[.bT 2 64 [.int .i64 0,.int .i64 0,.int .i64 0,.raw (.slice none 0 0),.raw (.slice none 0 0)],.bT 3 64 [.int .i64 k,.int .i64 0,.int .i64 0,.sl 20000,.sl 20001],cR cs s5,.row 20000 2 1 (.int .i64) ds [],.row 20001 60 2 aQ (List.replicate i (-1,0)) []]) (fun i=>p-i) (fun i=>i≤p) 0 (Nat.zero_le _) ?_ ?_
 ·exact vo [⟨5000003,30000,60,2,aQ⟩] [(20000,20000),(20001,30000)] rfl (aI (aI ⟨(Int.sub_zero _).symm,rfl⟩ trivial) ⟨trivial,⟨⟨rfl,rfl⟩,⟨rfl,rfl⟩,⟨rfl,rfl⟩,rfl,rfl,trivial⟩,trivial,⟨⟨rfl,rfl⟩,⟨rfl,rfl⟩,⟨rfl,rfl⟩,rfl,rfl,trivial⟩,trivial,⟨rfl,⟨congrArg (fun s:Dp=>((s.1:Nat):Int)) f2,rfl⟩,congrArg Prod.snd f2,trivial⟩,⟨f1,nP⟩,⟨rfl,nP⟩,trivial⟩)
 intro i hi;refine aI (fun q2=> ?_) (fun q2=> ?_)
 ·have q2:decide ((0:Int)<((p:Nat):Int)-((i:Nat):Int))=true:=q2;have hlt:i<p:=by have:=of_decide_eq_true q2;omega
  refine aI (by show(List.replicate i ((-1,0):aB)).length+1≤_;rw[List.length_replicate];omega) ?_;refine aK (i+1) hlt ?_ (by show p-(i+1)<p-i;omega);exact Go.Tr.hd [(20000,20000),(20001,74)] rfl (aI ⟨xq hlt (by omega),rfl⟩ trivial) ⟨trivial,⟨⟨rfl,rfl⟩,⟨rfl,rfl⟩,⟨rfl,rfl⟩,rfl,rfl,trivial⟩,trivial,⟨⟨rfl,rfl⟩,⟨rfl,rfl⟩,⟨rfl,rfl⟩,rfl,rfl,trivial⟩,trivial,⟨rfl,⟨rfl,rfl⟩,rfl,trivial⟩,⟨rfl,nP⟩,⟨(jT i _).symm,nP⟩,trivial⟩
 have q2:decide ((0:Int)<((p:Nat):Int)-((i:Nat):Int))=false:=q2;have hie:i=p:=by have:=of_decide_eq_false q2;omega
 subst hie;refine fin [(10001,20000),(10002,20001)] (aI rfl ?_);exact⟨trivial,⟨rfl,⟨rfl,rfl⟩,rfl,trivial⟩,⟨rfl,nP⟩,⟨rfl,nP⟩,trivial⟩
theorem Ue(cs:List Int)(hb:mK cs)(s:Dp)(hs:s.1≤cs.length){k:Int}{s1:Dp}{lv:Int}{s2:Dp}{ds:List Int}{s5:Dp}{p:Nat}(hk:gK cs s=(k,s1))(hL:gK cs s1=(lv,s2))(hD:bO cs 0 s2=(ds,s5))(hp:aL k 0=((p:Nat):Int))(hl:aG k=true)(hv:aM k=false)(e8:(k==8)=false)(e9:(k==9)=false)(e10:(k==10)=false)(e11:(k==11)=false)(e6:(k==6)=false)(e7:(k==7)=false)(e12:(k==12)=false):aC Try.prog 32 [.ptr 10000 0] [cR cs s] (.agg [.int .i64 k,.int .i64 lv,.int .i64 0,.sl 10001,.sl 10002]) [cR cs s5,.row 10001 2 1 (.int .i64) ds [],.row 10002 60 2 aQ (List.replicate p (-1,0)) []]:=by
 have hlen:=hb.len;have w_hk:=pX cs hb (s) (by omega);rw[hk]at w_hk;have z_hk:(s1).1≤cs.length:=by have:=gM (cs:=cs) (s:=s) (by omega);rw[hk]at this;exact this
 have w_hL:=pX cs hb (s1) (by omega);rw[hL]at w_hL;have z_hL:(s2).1≤cs.length:=by have:=gM (cs:=cs) (s:=s1) (by omega);rw[hL]at this;exact this
 have hdl:=mG cs s2;have hdj:=ow (cs:=cs) (s:=s2) (by omega);have z5:s5.1≤cs.length:=by have:=hdj 0;rw[hD]at this;exact this
 have hp4:=cZ k 0;rw[hp]at hp4;refine aC.intro (nt:=77) aS mixed wY Try.func32 rfl rfl rfl rfl rfl rfl ?_;refine Or.inr (eI _ (eI _ (aI w_hk ?_)));refine Or.inl (eI _ (aI (mH k) ?_));refine aI (fun _=> ?_) (fun q=>by have q:(aG k)=false:=q;rw[hl]at q;cases q);refine Or.inr (eI _ (eI _ (aI w_hL ?_)));refine aI (fun q=>by have q:(k==6)=true:=q;rw[e6]at q;cases q) (fun _=> ?_);refine aI (fun q=>by have q:(k==7)=true:=q;rw[e7]at q;cases q) (fun _=> ?_);refine aI (fun q=>by have q:(k==8)=true:=q;rw[e8]at q;cases q) (fun _=> ?_)
 refine aI (fun q=>by have q:(k==12)=true:=q;rw[e12]at q;cases q) (fun _=> ?_);refine aI (fun q=>by have q:(k==9)=true:=q;rw[e9]at q;cases q) (fun _=> ?_);refine aI (fun q=>by have q:(k==10)=true:=q;rw[e10]at q;cases q) (fun _=> ?_);refine aI (fun q=>by have q:(k==8)=true:=q;rw[e8]at q;cases q) (fun _=> ?_);refine aI (fun q=>by have q:(k==11)=true:=q;rw[e11]at q;cases q) (fun _=> ?_);refine lp Nat (fun j=>[(5,.int .i64 (j:Nat))]) (fun j=>[.bT 2 64 [.int .i64 0,.int .i64 0,.int .i64 0,.raw (.slice none 0 0),.raw (.slice none 0 0)],.bT 3 64 [.int .i64 k,.int .i64 lv,.int .i64 0,.sl 20000,.raw (.slice none 0 0)],cR cs (bO cs j s2).2,.row 20000 2 1 (.int .i64) (bO cs j s2).1 []]) (fun j=>0-j) (fun j=>j≤0) 0 (Nat.zero_le _) ?_ ?_
 ·exact vo [⟨4000003,30000,2,1,(.int .i64)⟩] [(20000,30000)] rfl (aI (aI ⟨rfl,rfl⟩ trivial) ⟨trivial,⟨⟨rfl,rfl⟩,⟨rfl,rfl⟩,⟨rfl,rfl⟩,rfl,rfl,trivial⟩,trivial,⟨⟨rfl,rfl⟩,⟨rfl,rfl⟩,⟨rfl,rfl⟩,rfl,rfl,trivial⟩,trivial,⟨rfl,⟨rfl,rfl⟩,rfl,trivial⟩,⟨rfl,nP⟩,trivial⟩)
 intro j hj;have hj1:=hdl j;have hj2:=hdj j;refine aI (fun q=> ?_) (fun q=> ?_)
 ·have q:(bif decide (((j:Nat):Int)<((0:Nat):Int))then !(bO cs j s2).2.2 else false)=true:=q;rw[aY,Bool.and_eq_true,decide_eq_true_eq]at q;have hlt:j<0:=by omega
  have hnb:(bO cs j s2).2.2=false:=by simpa using q.2
  have e:bO cs (j+1) s2=((bO cs j s2).1++[(iE cs (bO cs j s2).2).1],(iE cs (bO cs j s2).2).2):=by rw[bO,hnb];rfl
  have e2:=congrArg Prod.fst e;have e3:=congrArg Prod.snd e;refine Or.inr (eI _ (eI _ (aI (tu cs hb _ (by omega)) ?_)));refine aI (by show(bO cs j s2).1.length+1≤_;omega) ?_;refine aI (by kernel_rfl) ?_;refine aK (j+1) hlt ?_ (by show 0-(j+1)<0-j;omega);exact Go.Tr.hd [(20000,55)] rfl (aI ⟨bD (by omega),rfl⟩ trivial) ⟨trivial,⟨⟨rfl,rfl⟩,⟨rfl,rfl⟩,⟨rfl,rfl⟩,rfl,rfl,trivial⟩,trivial,⟨⟨rfl,rfl⟩,⟨rfl,rfl⟩,⟨rfl,rfl⟩,rfl,rfl,trivial⟩,trivial,⟨rfl,⟨congrArg (fun s:Dp=>((s.1:Nat):Int)) e3.symm,rfl⟩,congrArg Prod.snd e3.symm,trivial⟩,⟨e2.symm,nP⟩,trivial⟩
 have q:(bif decide (((j:Nat):Int)<((0:Nat):Int))then !(bO cs j s2).2.2 else false)=false:=q;rw[aY,Bool.and_eq_false_iff,decide_eq_false_iff_not]at q
 have hfin:bO cs j s2=(ds,s5):=by
  rcases q with q|q
  ·rw[←hD,show j=0 by omega]
  ·have hB:(bO cs j s2).2.2=true:=by simpa using q
   have:=mF hB (0-j);rw[show j+(0-j)=0 by omega,hD]at this;exact this.symm
 have f1:(bO cs j s2).1=ds:=by rw[hfin]
 have f2:(bO cs j s2).2=s5:=by rw[hfin]
 refine aI (fun q=>by have q:(k==9)=true:=q;rw[e9]at q;cases q) (fun _=> ?_);have hprt:=E5 k 0;rw[hp]at hprt;refine Or.inl (eI _ (aI hprt ?_));refine lp Nat (fun i=>[(7,.int .i64 (((p:Nat):Int)-(i:Nat)))]) (fun i=>[.bT 2 64 [.int .i64 0,.int .i64 0,.int .i64 0,.raw (.slice none 0 0),.raw (.slice none 0 0)],.bT 3 64 [.int .i64 k,.int .i64 lv,.int .i64 0,.sl 20000,.sl 20001],cR cs s5,.row 20000 2 1 (.int .i64) ds [],.row 20001 60 2 aQ (List.replicate i (-1,0)) []]) (fun i=>p-i) (fun i=>i≤p) 0 (Nat.zero_le _) ?_ ?_
 ·exact vo [⟨5000003,30000,60,2,aQ⟩] [(20000,20000),(20001,30000)] rfl (aI (aI ⟨(Int.sub_zero _).symm,rfl⟩ trivial) ⟨trivial,⟨⟨rfl,rfl⟩,⟨rfl,rfl⟩,⟨rfl,rfl⟩,rfl,rfl,trivial⟩,trivial,⟨⟨rfl,rfl⟩,⟨rfl,rfl⟩,⟨rfl,rfl⟩,rfl,rfl,trivial⟩,trivial,⟨rfl,⟨congrArg (fun s:Dp=>((s.1:Nat):Int)) f2,rfl⟩,congrArg Prod.snd f2,trivial⟩,⟨f1,nP⟩,⟨rfl,nP⟩,trivial⟩)
 intro i hi;refine aI (fun q2=> ?_) (fun q2=> ?_)
 ·have q2:decide ((0:Int)<((p:Nat):Int)-((i:Nat):Int))=true:=q2;have hlt:i<p:=by have:=of_decide_eq_true q2;omega
  refine aI (by show(List.replicate i ((-1,0):aB)).length+1≤_;rw[List.length_replicate];omega) ?_;refine aK (i+1) hlt ?_ (by show p-(i+1)<p-i;omega);exact Go.Tr.hd [(20000,20000),(20001,74)] rfl (aI ⟨xq hlt (by omega),rfl⟩ trivial) ⟨trivial,⟨⟨rfl,rfl⟩,⟨rfl,rfl⟩,⟨rfl,rfl⟩,rfl,rfl,trivial⟩,trivial,⟨⟨rfl,rfl⟩,⟨rfl,rfl⟩,⟨rfl,rfl⟩,rfl,rfl,trivial⟩,trivial,⟨rfl,⟨rfl,rfl⟩,rfl,trivial⟩,⟨rfl,nP⟩,⟨(jT i _).symm,nP⟩,trivial⟩
 have q2:decide ((0:Int)<((p:Nat):Int)-((i:Nat):Int))=false:=q2;have hie:i=p:=by have:=of_decide_eq_false q2;omega
 subst hie;refine fin [(10001,20000),(10002,20001)] (aI rfl ?_);exact⟨trivial,⟨rfl,⟨rfl,rfl⟩,rfl,trivial⟩,⟨rfl,nP⟩,⟨rfl,nP⟩,trivial⟩
theorem TW(cs:List Int)(hb:mK cs)(s:Dp)(hs:s.1≤cs.length){k:Int}{s1:Dp}{va:Int}{s3:Dp}{ds:List Int}{s5:Dp}{p:Nat}(hk:gK cs s=(k,s1))(hV:iE cs s1=(va,s3))(hD:bO cs 0 s3=(ds,s5))(hp:aL k 0=((p:Nat):Int))(hl:aG k=false)(hv:aM k=true)(e8:(k==8)=false)(e9:(k==9)=false)(e10:(k==10)=false)(e11:(k==11)=false)(e6:(k==6)=true)(e7:(k==7)=false)(e12:(k==12)=false):aC Try.prog 32 [.ptr 10000 0] [cR cs s] (.agg [.int .i64 k,.int .i64 0,.int .i64 va,.sl 10001,.sl 10002]) [cR cs s5,.row 10001 2 1 (.int .i64) ds [],.row 10002 60 2 aQ (List.replicate p (-1,0)) []]:=by
 have hlen:=hb.len;have w_hk:=pX cs hb (s) (by omega);rw[hk]at w_hk;have z_hk:(s1).1≤cs.length:=by have:=gM (cs:=cs) (s:=s) (by omega);rw[hk]at this;exact this
 have w_hV:=tu cs hb (s1) (by omega);rw[hV]at w_hV;have z_hV:(s3).1≤cs.length:=by have:=nE (cs:=cs) (s:=s1) (by omega);rw[hV]at this;exact this
 have hdl:=mG cs s3;have hdj:=ow (cs:=cs) (s:=s3) (by omega);have z5:s5.1≤cs.length:=by have:=hdj 0;rw[hD]at this;exact this
 have hp4:=cZ k 0;rw[hp]at hp4;refine aC.intro (nt:=77) aS mixed wY Try.func32 rfl rfl rfl rfl rfl rfl ?_;refine Or.inr (eI _ (eI _ (aI w_hk ?_)));refine Or.inl (eI _ (aI (mH k) ?_));refine aI (fun q=>by have q:(aG k)=true:=q;rw[hl]at q;cases q) (fun _=> ?_);refine aI (fun _=> ?_) (fun q=>by have q:(k==6)=false:=q;rw[e6]at q;cases q);refine aI (fun _=> ?_) (fun q=>by have q:(k==6)=false:=q;rw[e6]at q;cases q);refine Or.inr (eI _ (eI _ (aI w_hV ?_)));refine aI (fun q=>by have q:(k==8)=true:=q;rw[e8]at q;cases q) (fun _=> ?_)
 refine aI (fun q=>by have q:(k==11)=true:=q;rw[e11]at q;cases q) (fun _=> ?_);refine lp Nat (fun j=>[(5,.int .i64 (j:Nat))]) (fun j=>[.bT 2 64 [.int .i64 0,.int .i64 0,.int .i64 0,.raw (.slice none 0 0),.raw (.slice none 0 0)],.bT 3 64 [.int .i64 k,.int .i64 0,.int .i64 va,.sl 20000,.raw (.slice none 0 0)],cR cs (bO cs j s3).2,.row 20000 2 1 (.int .i64) (bO cs j s3).1 []]) (fun j=>0-j) (fun j=>j≤0) 0 (Nat.zero_le _) ?_ ?_
 ·exact vo [⟨4000003,30000,2,1,(.int .i64)⟩] [(20000,30000)] rfl (aI (aI ⟨rfl,rfl⟩ trivial) ⟨trivial,⟨⟨rfl,rfl⟩,⟨rfl,rfl⟩,⟨rfl,rfl⟩,rfl,rfl,trivial⟩,trivial,⟨⟨rfl,rfl⟩,⟨rfl,rfl⟩,⟨rfl,rfl⟩,rfl,rfl,trivial⟩,trivial,⟨rfl,⟨rfl,rfl⟩,rfl,trivial⟩,⟨rfl,nP⟩,trivial⟩)
 intro j hj;have hj1:=hdl j;have hj2:=hdj j;refine aI (fun q=> ?_) (fun q=> ?_)
 ·have q:(bif decide (((j:Nat):Int)<((0:Nat):Int))then !(bO cs j s3).2.2 else false)=true:=q;rw[aY,Bool.and_eq_true,decide_eq_true_eq]at q;have hlt:j<0:=by omega
  have hnb:(bO cs j s3).2.2=false:=by simpa using q.2
  have e:bO cs (j+1) s3=((bO cs j s3).1++[(iE cs (bO cs j s3).2).1],(iE cs (bO cs j s3).2).2):=by rw[bO,hnb];rfl
  have e2:=congrArg Prod.fst e;have e3:=congrArg Prod.snd e;refine Or.inr (eI _ (eI _ (aI (tu cs hb _ (by omega)) ?_)));refine aI (by show(bO cs j s3).1.length+1≤_;omega) ?_;refine aI (by kernel_rfl) ?_;refine aK (j+1) hlt ?_ (by show 0-(j+1)<0-j;omega);exact Go.Tr.hd [(20000,55)] rfl (aI ⟨bD (by omega),rfl⟩ trivial) ⟨trivial,⟨⟨rfl,rfl⟩,⟨rfl,rfl⟩,⟨rfl,rfl⟩,rfl,rfl,trivial⟩,trivial,⟨⟨rfl,rfl⟩,⟨rfl,rfl⟩,⟨rfl,rfl⟩,rfl,rfl,trivial⟩,trivial,⟨rfl,⟨congrArg (fun s:Dp=>((s.1:Nat):Int)) e3.symm,rfl⟩,congrArg Prod.snd e3.symm,trivial⟩,⟨e2.symm,nP⟩,trivial⟩
 have q:(bif decide (((j:Nat):Int)<((0:Nat):Int))then !(bO cs j s3).2.2 else false)=false:=q;rw[aY,Bool.and_eq_false_iff,decide_eq_false_iff_not]at q
 have hfin:bO cs j s3=(ds,s5):=by
  rcases q with q|q
  ·rw[←hD,show j=0 by omega]
  ·have hB:(bO cs j s3).2.2=true:=by simpa using q
   have:=mF hB (0-j);rw[show j+(0-j)=0 by omega,hD]at this;exact this.symm
 have f1:(bO cs j s3).1=ds:=by rw[hfin]
 have f2:(bO cs j s3).2=s5:=by rw[hfin]
 refine aI (fun q=>by have q:(k==9)=true:=q;rw[e9]at q;cases q) (fun _=> ?_);have hprt:=E5 k 0;rw[hp]at hprt;refine Or.inl (eI _ (aI hprt ?_));refine lp Nat (fun i=>[(7,.int .i64 (((p:Nat):Int)-(i:Nat)))]) (fun i=>[.bT 2 64 [.int .i64 0,.int .i64 0,.int .i64 0,.raw (.slice none 0 0),.raw (.slice none 0 0)],.bT 3 64 [.int .i64 k,.int .i64 0,.int .i64 va,.sl 20000,.sl 20001],cR cs s5,.row 20000 2 1 (.int .i64) ds [],.row 20001 60 2 aQ (List.replicate i (-1,0)) []]) (fun i=>p-i) (fun i=>i≤p) 0 (Nat.zero_le _) ?_ ?_
 ·exact vo [⟨5000003,30000,60,2,aQ⟩] [(20000,20000),(20001,30000)] rfl (aI (aI ⟨(Int.sub_zero _).symm,rfl⟩ trivial) ⟨trivial,⟨⟨rfl,rfl⟩,⟨rfl,rfl⟩,⟨rfl,rfl⟩,rfl,rfl,trivial⟩,trivial,⟨⟨rfl,rfl⟩,⟨rfl,rfl⟩,⟨rfl,rfl⟩,rfl,rfl,trivial⟩,trivial,⟨rfl,⟨congrArg (fun s:Dp=>((s.1:Nat):Int)) f2,rfl⟩,congrArg Prod.snd f2,trivial⟩,⟨f1,nP⟩,⟨rfl,nP⟩,trivial⟩)
 intro i hi;refine aI (fun q2=> ?_) (fun q2=> ?_)
 ·have q2:decide ((0:Int)<((p:Nat):Int)-((i:Nat):Int))=true:=q2;have hlt:i<p:=by have:=of_decide_eq_true q2;omega
  refine aI (by show(List.replicate i ((-1,0):aB)).length+1≤_;rw[List.length_replicate];omega) ?_;refine aK (i+1) hlt ?_ (by show p-(i+1)<p-i;omega);exact Go.Tr.hd [(20000,20000),(20001,74)] rfl (aI ⟨xq hlt (by omega),rfl⟩ trivial) ⟨trivial,⟨⟨rfl,rfl⟩,⟨rfl,rfl⟩,⟨rfl,rfl⟩,rfl,rfl,trivial⟩,trivial,⟨⟨rfl,rfl⟩,⟨rfl,rfl⟩,⟨rfl,rfl⟩,rfl,rfl,trivial⟩,trivial,⟨rfl,⟨rfl,rfl⟩,rfl,trivial⟩,⟨rfl,nP⟩,⟨(jT i _).symm,nP⟩,trivial⟩
 have q2:decide ((0:Int)<((p:Nat):Int)-((i:Nat):Int))=false:=q2;have hie:i=p:=by have:=of_decide_eq_false q2;omega
 subst hie;refine fin [(10001,20000),(10002,20001)] (aI rfl ?_);exact⟨trivial,⟨rfl,⟨rfl,rfl⟩,rfl,trivial⟩,⟨rfl,nP⟩,⟨rfl,nP⟩,trivial⟩
theorem TY(cs:List Int)(hb:mK cs)(s:Dp)(hs:s.1≤cs.length){k:Int}{s1:Dp}{lv:Int}{s2:Dp}{va:Int}{s3:Dp}{ds:List Int}{s5:Dp}{p:Nat}(hk:gK cs s=(k,s1))(hL:gK cs s1=(lv,s2))(hV:iE cs s2=(va,s3))(hD:bO cs 0 s3=(ds,s5))(hp:aL k 0=((p:Nat):Int))(hl:aG k=true)(hv:aM k=true)(e8:(k==8)=false)(e9:(k==9)=false)(e10:(k==10)=false)(e11:(k==11)=false)(e6:(k==6)=false)(e7:(k==7)=true)(e12:(k==12)=false):aC Try.prog 32 [.ptr 10000 0] [cR cs s] (.agg [.int .i64 k,.int .i64 lv,.int .i64 va,.sl 10001,.sl 10002]) [cR cs s5,.row 10001 2 1 (.int .i64) ds [],.row 10002 60 2 aQ (List.replicate p (-1,0)) []]:=by
 have hlen:=hb.len;have w_hk:=pX cs hb (s) (by omega);rw[hk]at w_hk;have z_hk:(s1).1≤cs.length:=by have:=gM (cs:=cs) (s:=s) (by omega);rw[hk]at this;exact this
 have w_hL:=pX cs hb (s1) (by omega);rw[hL]at w_hL;have z_hL:(s2).1≤cs.length:=by have:=gM (cs:=cs) (s:=s1) (by omega);rw[hL]at this;exact this
 have w_hV:=tu cs hb (s2) (by omega);rw[hV]at w_hV;have z_hV:(s3).1≤cs.length:=by have:=nE (cs:=cs) (s:=s2) (by omega);rw[hV]at this;exact this
 have hdl:=mG cs s3;have hdj:=ow (cs:=cs) (s:=s3) (by omega);have z5:s5.1≤cs.length:=by have:=hdj 0;rw[hD]at this;exact this
 have hp4:=cZ k 0;rw[hp]at hp4;refine aC.intro (nt:=77) aS mixed wY Try.func32 rfl rfl rfl rfl rfl rfl ?_;refine Or.inr (eI _ (eI _ (aI w_hk ?_)));refine Or.inl (eI _ (aI (mH k) ?_));refine aI (fun _=> ?_) (fun q=>by have q:(aG k)=false:=q;rw[hl]at q;cases q);refine Or.inr (eI _ (eI _ (aI w_hL ?_)));refine aI (fun q=>by have q:(k==6)=true:=q;rw[e6]at q;cases q) (fun _=> ?_);refine aI (fun _=> ?_) (fun q=>by have q:(k==7)=false:=q;rw[e7]at q;cases q);refine aI (fun _=> ?_) (fun q=>by have q:(k==7)=false:=q;rw[e7]at q;cases q)
 refine Or.inr (eI _ (eI _ (aI w_hV ?_)));refine aI (fun q=>by have q:(k==8)=true:=q;rw[e8]at q;cases q) (fun _=> ?_);refine aI (fun q=>by have q:(k==11)=true:=q;rw[e11]at q;cases q) (fun _=> ?_);refine lp Nat (fun j=>[(5,.int .i64 (j:Nat))]) (fun j=>[.bT 2 64 [.int .i64 0,.int .i64 0,.int .i64 0,.raw (.slice none 0 0),.raw (.slice none 0 0)],.bT 3 64 [.int .i64 k,.int .i64 lv,.int .i64 va,.sl 20000,.raw (.slice none 0 0)],cR cs (bO cs j s3).2,.row 20000 2 1 (.int .i64) (bO cs j s3).1 []]) (fun j=>0-j) (fun j=>j≤0) 0 (Nat.zero_le _) ?_ ?_
 ·exact vo [⟨4000003,30000,2,1,(.int .i64)⟩] [(20000,30000)] rfl (aI (aI ⟨rfl,rfl⟩ trivial) ⟨trivial,⟨⟨rfl,rfl⟩,⟨rfl,rfl⟩,⟨rfl,rfl⟩,rfl,rfl,trivial⟩,trivial,⟨⟨rfl,rfl⟩,⟨rfl,rfl⟩,⟨rfl,rfl⟩,rfl,rfl,trivial⟩,trivial,⟨rfl,⟨rfl,rfl⟩,rfl,trivial⟩,⟨rfl,nP⟩,trivial⟩)
 intro j hj;have hj1:=hdl j;have hj2:=hdj j;refine aI (fun q=> ?_) (fun q=> ?_)
 ·have q:(bif decide (((j:Nat):Int)<((0:Nat):Int))then !(bO cs j s3).2.2 else false)=true:=q;rw[aY,Bool.and_eq_true,decide_eq_true_eq]at q;have hlt:j<0:=by omega
  have hnb:(bO cs j s3).2.2=false:=by simpa using q.2
  have e:bO cs (j+1) s3=((bO cs j s3).1++[(iE cs (bO cs j s3).2).1],(iE cs (bO cs j s3).2).2):=by rw[bO,hnb];rfl
  have e2:=congrArg Prod.fst e;have e3:=congrArg Prod.snd e;refine Or.inr (eI _ (eI _ (aI (tu cs hb _ (by omega)) ?_)));refine aI (by show(bO cs j s3).1.length+1≤_;omega) ?_;refine aI (by kernel_rfl) ?_;refine aK (j+1) hlt ?_ (by show 0-(j+1)<0-j;omega);exact Go.Tr.hd [(20000,55)] rfl (aI ⟨bD (by omega),rfl⟩ trivial) ⟨trivial,⟨⟨rfl,rfl⟩,⟨rfl,rfl⟩,⟨rfl,rfl⟩,rfl,rfl,trivial⟩,trivial,⟨⟨rfl,rfl⟩,⟨rfl,rfl⟩,⟨rfl,rfl⟩,rfl,rfl,trivial⟩,trivial,⟨rfl,⟨congrArg (fun s:Dp=>((s.1:Nat):Int)) e3.symm,rfl⟩,congrArg Prod.snd e3.symm,trivial⟩,⟨e2.symm,nP⟩,trivial⟩
 have q:(bif decide (((j:Nat):Int)<((0:Nat):Int))then !(bO cs j s3).2.2 else false)=false:=q;rw[aY,Bool.and_eq_false_iff,decide_eq_false_iff_not]at q
 have hfin:bO cs j s3=(ds,s5):=by
  rcases q with q|q
  ·rw[←hD,show j=0 by omega]
  ·have hB:(bO cs j s3).2.2=true:=by simpa using q
   have:=mF hB (0-j);rw[show j+(0-j)=0 by omega,hD]at this;exact this.symm
 have f1:(bO cs j s3).1=ds:=by rw[hfin]
 have f2:(bO cs j s3).2=s5:=by rw[hfin]
 refine aI (fun q=>by have q:(k==9)=true:=q;rw[e9]at q;cases q) (fun _=> ?_);have hprt:=E5 k 0;rw[hp]at hprt;refine Or.inl (eI _ (aI hprt ?_));refine lp Nat (fun i=>[(7,.int .i64 (((p:Nat):Int)-(i:Nat)))]) (fun i=>[.bT 2 64 [.int .i64 0,.int .i64 0,.int .i64 0,.raw (.slice none 0 0),.raw (.slice none 0 0)],.bT 3 64 [.int .i64 k,.int .i64 lv,.int .i64 va,.sl 20000,.sl 20001],cR cs s5,.row 20000 2 1 (.int .i64) ds [],.row 20001 60 2 aQ (List.replicate i (-1,0)) []]) (fun i=>p-i) (fun i=>i≤p) 0 (Nat.zero_le _) ?_ ?_
 ·exact vo [⟨5000003,30000,60,2,aQ⟩] [(20000,20000),(20001,30000)] rfl (aI (aI ⟨(Int.sub_zero _).symm,rfl⟩ trivial) ⟨trivial,⟨⟨rfl,rfl⟩,⟨rfl,rfl⟩,⟨rfl,rfl⟩,rfl,rfl,trivial⟩,trivial,⟨⟨rfl,rfl⟩,⟨rfl,rfl⟩,⟨rfl,rfl⟩,rfl,rfl,trivial⟩,trivial,⟨rfl,⟨congrArg (fun s:Dp=>((s.1:Nat):Int)) f2,rfl⟩,congrArg Prod.snd f2,trivial⟩,⟨f1,nP⟩,⟨rfl,nP⟩,trivial⟩)
 intro i hi;refine aI (fun q2=> ?_) (fun q2=> ?_)
 ·have q2:decide ((0:Int)<((p:Nat):Int)-((i:Nat):Int))=true:=q2;have hlt:i<p:=by have:=of_decide_eq_true q2;omega
  refine aI (by show(List.replicate i ((-1,0):aB)).length+1≤_;rw[List.length_replicate];omega) ?_;refine aK (i+1) hlt ?_ (by show p-(i+1)<p-i;omega);exact Go.Tr.hd [(20000,20000),(20001,74)] rfl (aI ⟨xq hlt (by omega),rfl⟩ trivial) ⟨trivial,⟨⟨rfl,rfl⟩,⟨rfl,rfl⟩,⟨rfl,rfl⟩,rfl,rfl,trivial⟩,trivial,⟨⟨rfl,rfl⟩,⟨rfl,rfl⟩,⟨rfl,rfl⟩,rfl,rfl,trivial⟩,trivial,⟨rfl,⟨rfl,rfl⟩,rfl,trivial⟩,⟨rfl,nP⟩,⟨(jT i _).symm,nP⟩,trivial⟩
 have q2:decide ((0:Int)<((p:Nat):Int)-((i:Nat):Int))=false:=q2;have hie:i=p:=by have:=of_decide_eq_false q2;omega
 subst hie;refine fin [(10001,20000),(10002,20001)] (aI rfl ?_);exact⟨trivial,⟨rfl,⟨rfl,rfl⟩,rfl,trivial⟩,⟨rfl,nP⟩,⟨rfl,nP⟩,trivial⟩
theorem T9(cs:List Int)(hb:mK cs)(s:Dp)(hs:s.1≤cs.length){k:Int}{s1:Dp}{lv:Int}{s2:Dp}{va:Int}{s3:Dp}{ds:List Int}{s5:Dp}{p:Nat}(hk:gK cs s=(k,s1))(hL:gK cs s1=(lv,s2))(hV:iE cs s2=(va,s3))(hD:bO cs 1 s3=(ds,s5))(hp:aL k 0=((p:Nat):Int))(hl:aG k=true)(hv:aM k=true)(e8:(k==8)=true)(e9:(k==9)=false)(e10:(k==10)=false)(e11:(k==11)=false)(e6:(k==6)=false)(e7:(k==7)=false)(e12:(k==12)=false):aC Try.prog 32 [.ptr 10000 0] [cR cs s] (.agg [.int .i64 k,.int .i64 lv,.int .i64 va,.sl 10001,.sl 10002]) [cR cs s5,.row 10001 2 1 (.int .i64) ds [],.row 10002 60 2 aQ (List.replicate p (-1,0)) []]:=by
 have hlen:=hb.len;have w_hk:=pX cs hb (s) (by omega);rw[hk]at w_hk;have z_hk:(s1).1≤cs.length:=by have:=gM (cs:=cs) (s:=s) (by omega);rw[hk]at this;exact this
 have w_hL:=pX cs hb (s1) (by omega);rw[hL]at w_hL;have z_hL:(s2).1≤cs.length:=by have:=gM (cs:=cs) (s:=s1) (by omega);rw[hL]at this;exact this
 have w_hV:=tu cs hb (s2) (by omega);rw[hV]at w_hV;have z_hV:(s3).1≤cs.length:=by have:=nE (cs:=cs) (s:=s2) (by omega);rw[hV]at this;exact this
 have hdl:=mG cs s3;have hdj:=ow (cs:=cs) (s:=s3) (by omega);have z5:s5.1≤cs.length:=by have:=hdj 1;rw[hD]at this;exact this
 have hp4:=cZ k 0;rw[hp]at hp4;refine aC.intro (nt:=77) aS mixed wY Try.func32 rfl rfl rfl rfl rfl rfl ?_;refine Or.inr (eI _ (eI _ (aI w_hk ?_)));refine Or.inl (eI _ (aI (mH k) ?_));refine aI (fun _=> ?_) (fun q=>by have q:(aG k)=false:=q;rw[hl]at q;cases q);refine Or.inr (eI _ (eI _ (aI w_hL ?_)));refine aI (fun q=>by have q:(k==6)=true:=q;rw[e6]at q;cases q) (fun _=> ?_);refine aI (fun q=>by have q:(k==7)=true:=q;rw[e7]at q;cases q) (fun _=> ?_);refine aI (fun _=> ?_) (fun q=>by have q:(k==8)=false:=q;rw[e8]at q;cases q)
 refine aI (fun _=> ?_) (fun q=>by have q:(k==8)=false:=q;rw[e8]at q;cases q);refine Or.inr (eI _ (eI _ (aI w_hV ?_)));refine aI (fun _=> ?_) (fun q=>by have q:(k==8)=false:=q;rw[e8]at q;cases q);refine aI (fun q=>by have q:(k==11)=true:=q;rw[e11]at q;cases q) (fun _=> ?_);refine lp Nat (fun j=>[(5,.int .i64 (j:Nat))]) (fun j=>[.bT 2 64 [.int .i64 0,.int .i64 0,.int .i64 0,.raw (.slice none 0 0),.raw (.slice none 0 0)],.bT 3 64 [.int .i64 k,.int .i64 lv,.int .i64 va,.sl 20000,.raw (.slice none 0 0)],cR cs (bO cs j s3).2,.row 20000 2 1 (.int .i64) (bO cs j s3).1 []]) (fun j=>1-j) (fun j=>j≤1) 0 (Nat.zero_le _) ?_ ?_
 ·exact vo [⟨4000003,30000,2,1,(.int .i64)⟩] [(20000,30000)] rfl (aI (aI ⟨rfl,rfl⟩ trivial) ⟨trivial,⟨⟨rfl,rfl⟩,⟨rfl,rfl⟩,⟨rfl,rfl⟩,rfl,rfl,trivial⟩,trivial,⟨⟨rfl,rfl⟩,⟨rfl,rfl⟩,⟨rfl,rfl⟩,rfl,rfl,trivial⟩,trivial,⟨rfl,⟨rfl,rfl⟩,rfl,trivial⟩,⟨rfl,nP⟩,trivial⟩)
 intro j hj;have hj1:=hdl j;have hj2:=hdj j;refine aI (fun q=> ?_) (fun q=> ?_)
 ·have q:(bif decide (((j:Nat):Int)<((1:Nat):Int))then !(bO cs j s3).2.2 else false)=true:=q;rw[aY,Bool.and_eq_true,decide_eq_true_eq]at q;have hlt:j<1:=by omega
  have hnb:(bO cs j s3).2.2=false:=by simpa using q.2
  have e:bO cs (j+1) s3=((bO cs j s3).1++[(iE cs (bO cs j s3).2).1],(iE cs (bO cs j s3).2).2):=by rw[bO,hnb];rfl
  have e2:=congrArg Prod.fst e;have e3:=congrArg Prod.snd e;refine Or.inr (eI _ (eI _ (aI (tu cs hb _ (by omega)) ?_)));refine aI (by show(bO cs j s3).1.length+1≤_;omega) ?_;refine aI (by kernel_rfl) ?_;refine aK (j+1) hlt ?_ (by show 1-(j+1)<1-j;omega);exact Go.Tr.hd [(20000,55)] rfl (aI ⟨bD (by omega),rfl⟩ trivial) ⟨trivial,⟨⟨rfl,rfl⟩,⟨rfl,rfl⟩,⟨rfl,rfl⟩,rfl,rfl,trivial⟩,trivial,⟨⟨rfl,rfl⟩,⟨rfl,rfl⟩,⟨rfl,rfl⟩,rfl,rfl,trivial⟩,trivial,⟨rfl,⟨congrArg (fun s:Dp=>((s.1:Nat):Int)) e3.symm,rfl⟩,congrArg Prod.snd e3.symm,trivial⟩,⟨e2.symm,nP⟩,trivial⟩
 have q:(bif decide (((j:Nat):Int)<((1:Nat):Int))then !(bO cs j s3).2.2 else false)=false:=q;rw[aY,Bool.and_eq_false_iff,decide_eq_false_iff_not]at q
 have hfin:bO cs j s3=(ds,s5):=by
  rcases q with q|q
  ·rw[←hD,show j=1 by omega]
  ·have hB:(bO cs j s3).2.2=true:=by simpa using q
   have:=mF hB (1-j);rw[show j+(1-j)=1 by omega,hD]at this;exact this.symm
 have f1:(bO cs j s3).1=ds:=by rw[hfin]
 have f2:(bO cs j s3).2=s5:=by rw[hfin]
 refine aI (fun q=>by have q:(k==9)=true:=q;rw[e9]at q;cases q) (fun _=> ?_);have hprt:=E5 k 0;rw[hp]at hprt;refine Or.inl (eI _ (aI hprt ?_));refine lp Nat (fun i=>[(7,.int .i64 (((p:Nat):Int)-(i:Nat)))]) (fun i=>[.bT 2 64 [.int .i64 0,.int .i64 0,.int .i64 0,.raw (.slice none 0 0),.raw (.slice none 0 0)],.bT 3 64 [.int .i64 k,.int .i64 lv,.int .i64 va,.sl 20000,.sl 20001],cR cs s5,.row 20000 2 1 (.int .i64) ds [],.row 20001 60 2 aQ (List.replicate i (-1,0)) []]) (fun i=>p-i) (fun i=>i≤p) 0 (Nat.zero_le _) ?_ ?_
 ·exact vo [⟨5000003,30000,60,2,aQ⟩] [(20000,20000),(20001,30000)] rfl (aI (aI ⟨(Int.sub_zero _).symm,rfl⟩ trivial) ⟨trivial,⟨⟨rfl,rfl⟩,⟨rfl,rfl⟩,⟨rfl,rfl⟩,rfl,rfl,trivial⟩,trivial,⟨⟨rfl,rfl⟩,⟨rfl,rfl⟩,⟨rfl,rfl⟩,rfl,rfl,trivial⟩,trivial,⟨rfl,⟨congrArg (fun s:Dp=>((s.1:Nat):Int)) f2,rfl⟩,congrArg Prod.snd f2,trivial⟩,⟨f1,nP⟩,⟨rfl,nP⟩,trivial⟩)
 intro i hi;refine aI (fun q2=> ?_) (fun q2=> ?_)
 ·have q2:decide ((0:Int)<((p:Nat):Int)-((i:Nat):Int))=true:=q2;have hlt:i<p:=by have:=of_decide_eq_true q2;omega
  refine aI (by show(List.replicate i ((-1,0):aB)).length+1≤_;rw[List.length_replicate];omega) ?_;refine aK (i+1) hlt ?_ (by show p-(i+1)<p-i;omega);exact Go.Tr.hd [(20000,20000),(20001,74)] rfl (aI ⟨xq hlt (by omega),rfl⟩ trivial) ⟨trivial,⟨⟨rfl,rfl⟩,⟨rfl,rfl⟩,⟨rfl,rfl⟩,rfl,rfl,trivial⟩,trivial,⟨⟨rfl,rfl⟩,⟨rfl,rfl⟩,⟨rfl,rfl⟩,rfl,rfl,trivial⟩,trivial,⟨rfl,⟨rfl,rfl⟩,rfl,trivial⟩,⟨rfl,nP⟩,⟨(jT i _).symm,nP⟩,trivial⟩
 have q2:decide ((0:Int)<((p:Nat):Int)-((i:Nat):Int))=false:=q2;have hie:i=p:=by have:=of_decide_eq_false q2;omega
 subst hie;refine fin [(10001,20000),(10002,20001)] (aI rfl ?_);exact⟨trivial,⟨rfl,⟨rfl,rfl⟩,rfl,trivial⟩,⟨rfl,nP⟩,⟨rfl,nP⟩,trivial⟩
theorem Ua(cs:List Int)(hb:mK cs)(s:Dp)(hs:s.1≤cs.length){k:Int}{s1:Dp}{lv:Int}{s2:Dp}{va:Int}{s3:Dp}{ds:List Int}{s5:Dp}{fi:Int}{s6:Dp}{p:Nat}(hk:gK cs s=(k,s1))(hL:gK cs s1=(lv,s2))(hV:iE cs s2=(va,s3))(hD:bO cs 0 s3=(ds,s5))(hF:gK cs s5=(fi,s6))(hp:aL k fi=((p:Nat):Int))(hl:aG k=true)(hv:aM k=true)(e8:(k==8)=false)(e9:(k==9)=true)(e10:(k==10)=false)(e11:(k==11)=false)(e6:(k==6)=false)(e7:(k==7)=false)(e12:(k==12)=false):aC Try.prog 32 [.ptr 10000 0] [cR cs s] (.agg [.int .i64 k,.int .i64 lv,.int .i64 va,.sl 10001,.sl 10002]) [cR cs s6,.row 10001 2 1 (.int .i64) ds [],.row 10002 60 2 aQ (List.replicate p (-1,0)) []]:=by
 have hlen:=hb.len;have w_hk:=pX cs hb (s) (by omega);rw[hk]at w_hk;have z_hk:(s1).1≤cs.length:=by have:=gM (cs:=cs) (s:=s) (by omega);rw[hk]at this;exact this
 have w_hL:=pX cs hb (s1) (by omega);rw[hL]at w_hL;have z_hL:(s2).1≤cs.length:=by have:=gM (cs:=cs) (s:=s1) (by omega);rw[hL]at this;exact this
 have w_hV:=tu cs hb (s2) (by omega);rw[hV]at w_hV;have z_hV:(s3).1≤cs.length:=by have:=nE (cs:=cs) (s:=s2) (by omega);rw[hV]at this;exact this
 have hdl:=mG cs s3;have hdj:=ow (cs:=cs) (s:=s3) (by omega);have z5:s5.1≤cs.length:=by have:=hdj 0;rw[hD]at this;exact this
 have w_hF:=pX cs hb (s5) (by omega);rw[hF]at w_hF;have z_hF:(s6).1≤cs.length:=by have:=gM (cs:=cs) (s:=s5) (by omega);rw[hF]at this;exact this
 have hp4:=cZ k fi;rw[hp]at hp4;refine aC.intro (nt:=77) aS mixed wY Try.func32 rfl rfl rfl rfl rfl rfl ?_;refine Or.inr (eI _ (eI _ (aI w_hk ?_)));refine Or.inl (eI _ (aI (mH k) ?_));refine aI (fun _=> ?_) (fun q=>by have q:(aG k)=false:=q;rw[hl]at q;cases q);refine Or.inr (eI _ (eI _ (aI w_hL ?_)));refine aI (fun q=>by have q:(k==6)=true:=q;rw[e6]at q;cases q) (fun _=> ?_);refine aI (fun q=>by have q:(k==7)=true:=q;rw[e7]at q;cases q) (fun _=> ?_);refine aI (fun q=>by have q:(k==8)=true:=q;rw[e8]at q;cases q) (fun _=> ?_)
 refine aI (fun q=>by have q:(k==12)=true:=q;rw[e12]at q;cases q) (fun _=> ?_);refine aI (fun _=> ?_) (fun q=>by have q:(k==9)=false:=q;rw[e9]at q;cases q);refine Or.inr (eI _ (eI _ (aI w_hV ?_)));refine aI (fun q=>by have q:(k==8)=true:=q;rw[e8]at q;cases q) (fun _=> ?_);refine aI (fun q=>by have q:(k==11)=true:=q;rw[e11]at q;cases q) (fun _=> ?_);refine lp Nat (fun j=>[(5,.int .i64 (j:Nat))]) (fun j=>[.bT 2 64 [.int .i64 0,.int .i64 0,.int .i64 0,.raw (.slice none 0 0),.raw (.slice none 0 0)],.bT 3 64 [.int .i64 k,.int .i64 lv,.int .i64 va,.sl 20000,.raw (.slice none 0 0)],cR cs (bO cs j s3).2,.row 20000 2 1 (.int .i64) (bO cs j s3).1 []]) (fun j=>0-j) (fun j=>j≤0) 0 (Nat.zero_le _) ?_ ?_
 ·exact vo [⟨4000003,30000,2,1,(.int .i64)⟩] [(20000,30000)] rfl (aI (aI ⟨rfl,rfl⟩ trivial) ⟨trivial,⟨⟨rfl,rfl⟩,⟨rfl,rfl⟩,⟨rfl,rfl⟩,rfl,rfl,trivial⟩,trivial,⟨⟨rfl,rfl⟩,⟨rfl,rfl⟩,⟨rfl,rfl⟩,rfl,rfl,trivial⟩,trivial,⟨rfl,⟨rfl,rfl⟩,rfl,trivial⟩,⟨rfl,nP⟩,trivial⟩)
 intro j hj;have hj1:=hdl j;have hj2:=hdj j;refine aI (fun q=> ?_) (fun q=> ?_)
 ·have q:(bif decide (((j:Nat):Int)<((0:Nat):Int))then !(bO cs j s3).2.2 else false)=true:=q;rw[aY,Bool.and_eq_true,decide_eq_true_eq]at q;have hlt:j<0:=by omega
  have hnb:(bO cs j s3).2.2=false:=by simpa using q.2
  have e:bO cs (j+1) s3=((bO cs j s3).1++[(iE cs (bO cs j s3).2).1],(iE cs (bO cs j s3).2).2):=by rw[bO,hnb];rfl
  have e2:=congrArg Prod.fst e;have e3:=congrArg Prod.snd e;refine Or.inr (eI _ (eI _ (aI (tu cs hb _ (by omega)) ?_)));refine aI (by show(bO cs j s3).1.length+1≤_;omega) ?_;refine aI (by kernel_rfl) ?_;refine aK (j+1) hlt ?_ (by show 0-(j+1)<0-j;omega);exact Go.Tr.hd [(20000,55)] rfl (aI ⟨bD (by omega),rfl⟩ trivial) ⟨trivial,⟨⟨rfl,rfl⟩,⟨rfl,rfl⟩,⟨rfl,rfl⟩,rfl,rfl,trivial⟩,trivial,⟨⟨rfl,rfl⟩,⟨rfl,rfl⟩,⟨rfl,rfl⟩,rfl,rfl,trivial⟩,trivial,⟨rfl,⟨congrArg (fun s:Dp=>((s.1:Nat):Int)) e3.symm,rfl⟩,congrArg Prod.snd e3.symm,trivial⟩,⟨e2.symm,nP⟩,trivial⟩
 have q:(bif decide (((j:Nat):Int)<((0:Nat):Int))then !(bO cs j s3).2.2 else false)=false:=q;rw[aY,Bool.and_eq_false_iff,decide_eq_false_iff_not]at q
 have hfin:bO cs j s3=(ds,s5):=by
  rcases q with q|q
  ·rw[←hD,show j=0 by omega]
  ·have hB:(bO cs j s3).2.2=true:=by simpa using q
   have:=mF hB (0-j);rw[show j+(0-j)=0 by omega,hD]at this;exact this.symm
 have f1:(bO cs j s3).1=ds:=by rw[hfin]
 have f2:(bO cs j s3).2=s5:=by rw[hfin]
 rw[←f2]at w_hF;refine aI (fun _=> ?_) (fun q=>by have q:(k==9)=false:=q;rw[e9]at q;cases q);refine Or.inr (eI _ (eI _ (aI w_hF ?_)));have hprt:=E5 k fi;rw[hp]at hprt;refine Or.inl (eI _ (aI hprt ?_));refine lp Nat (fun i=>[(7,.int .i64 (((p:Nat):Int)-(i:Nat)))]) (fun i=>[.bT 2 64 [.int .i64 0,.int .i64 0,.int .i64 0,.raw (.slice none 0 0),.raw (.slice none 0 0)],.bT 3 64 [.int .i64 k,.int .i64 lv,.int .i64 va,.sl 20000,.sl 20001],cR cs s6,.row 20000 2 1 (.int .i64) ds [],.row 20001 60 2 aQ (List.replicate i (-1,0)) []]) (fun i=>p-i) (fun i=>i≤p) 0 (Nat.zero_le _) ?_ ?_
 ·exact vo [⟨5000003,30000,60,2,aQ⟩] [(20000,20000),(20001,30000)] rfl (aI (aI ⟨(Int.sub_zero _).symm,rfl⟩ trivial) ⟨trivial,⟨⟨rfl,rfl⟩,⟨rfl,rfl⟩,⟨rfl,rfl⟩,rfl,rfl,trivial⟩,trivial,⟨⟨rfl,rfl⟩,⟨rfl,rfl⟩,⟨rfl,rfl⟩,rfl,rfl,trivial⟩,trivial,⟨rfl,⟨congrArg (fun s:Dp=>((s.1:Nat):Int)) (rfl:s6=s6),rfl⟩,congrArg Prod.snd (rfl:s6=s6),trivial⟩,⟨f1,nP⟩,⟨rfl,nP⟩,trivial⟩)
 intro i hi;refine aI (fun q2=> ?_) (fun q2=> ?_)
 ·have q2:decide ((0:Int)<((p:Nat):Int)-((i:Nat):Int))=true:=q2;have hlt:i<p:=by have:=of_decide_eq_true q2;omega
  refine aI (by show(List.replicate i ((-1,0):aB)).length+1≤_;rw[List.length_replicate];omega) ?_;refine aK (i+1) hlt ?_ (by show p-(i+1)<p-i;omega);exact Go.Tr.hd [(20000,20000),(20001,74)] rfl (aI ⟨xq hlt (by omega),rfl⟩ trivial) ⟨trivial,⟨⟨rfl,rfl⟩,⟨rfl,rfl⟩,⟨rfl,rfl⟩,rfl,rfl,trivial⟩,trivial,⟨⟨rfl,rfl⟩,⟨rfl,rfl⟩,⟨rfl,rfl⟩,rfl,rfl,trivial⟩,trivial,⟨rfl,⟨rfl,rfl⟩,rfl,trivial⟩,⟨rfl,nP⟩,⟨(jT i _).symm,nP⟩,trivial⟩
 have q2:decide ((0:Int)<((p:Nat):Int)-((i:Nat):Int))=false:=q2;have hie:i=p:=by have:=of_decide_eq_false q2;omega
 subst hie;refine fin [(10001,20000),(10002,20001)] (aI rfl ?_);exact⟨trivial,⟨rfl,⟨rfl,rfl⟩,rfl,trivial⟩,⟨rfl,nP⟩,⟨rfl,nP⟩,trivial⟩
theorem QM(cs:List Int)(hb:mK cs)(s:Dp)(hs:s.1≤cs.length){k:Int}{s1:Dp}{lv:Int}{s2:Dp}{n:Nat}{s4:Dp}{ds:List Int}{s5:Dp}{p:Nat}(hk:gK cs s=(k,s1))(hL:gK cs s1=(lv,s2))(hC:gK cs s2=(((n:Nat):Int),s4))(hD:bO cs n s4=(ds,s5))(hp:aL k 0=((p:Nat):Int))(hl:aG k=true)(hv:aM k=false)(e8:(k==8)=false)(e9:(k==9)=false)(e10:(k==10)=true)(e11:(k==11)=false)(e6:(k==6)=false)(e7:(k==7)=false)(e12:(k==12)=false):aC Try.prog 32 [.ptr 10000 0] [cR cs s] (.agg [.int .i64 k,.int .i64 lv,.int .i64 0,.sl 10001,.sl 10002]) [cR cs s5,.row 10001 2 1 (.int .i64) ds [],.row 10002 60 2 aQ (List.replicate p (-1,0)) []]:=by
 have hlen:=hb.len;have w_hk:=pX cs hb (s) (by omega);rw[hk]at w_hk;have z_hk:(s1).1≤cs.length:=by have:=gM (cs:=cs) (s:=s) (by omega);rw[hk]at this;exact this
 have w_hL:=pX cs hb (s1) (by omega);rw[hL]at w_hL;have z_hL:(s2).1≤cs.length:=by have:=gM (cs:=cs) (s:=s1) (by omega);rw[hL]at this;exact this
 have w_hC:=pX cs hb (s2) (by omega);rw[hC]at w_hC;have z_hC:(s4).1≤cs.length:=by have:=gM (cs:=cs) (s:=s2) (by omega);rw[hC]at this;exact this
 have hn:=IK hb s2;rw[hC]at hn;have hn:((n:Nat):Int)≤255:=hn.2;have hdl:=mG cs s4;have hdj:=ow (cs:=cs) (s:=s4) (by omega);have z5:s5.1≤cs.length:=by have:=hdj n;rw[hD]at this;exact this
 have hp4:=cZ k 0;rw[hp]at hp4;refine aC.intro (nt:=77) aS mixed wY Try.func32 rfl rfl rfl rfl rfl rfl ?_;refine Or.inr (eI _ (eI _ (aI w_hk ?_)));refine Or.inl (eI _ (aI (mH k) ?_));refine aI (fun _=> ?_) (fun q=>by have q:(aG k)=false:=q;rw[hl]at q;cases q);refine Or.inr (eI _ (eI _ (aI w_hL ?_)));refine aI (fun q=>by have q:(k==6)=true:=q;rw[e6]at q;cases q) (fun _=> ?_);refine aI (fun q=>by have q:(k==7)=true:=q;rw[e7]at q;cases q) (fun _=> ?_);refine aI (fun q=>by have q:(k==8)=true:=q;rw[e8]at q;cases q) (fun _=> ?_)
 refine aI (fun q=>by have q:(k==12)=true:=q;rw[e12]at q;cases q) (fun _=> ?_);refine aI (fun q=>by have q:(k==9)=true:=q;rw[e9]at q;cases q) (fun _=> ?_);refine aI (fun _=> ?_) (fun q=>by have q:(k==10)=false:=q;rw[e10]at q;cases q);refine Or.inr (eI _ (eI _ (aI w_hC ?_)));refine aI (fun q=>by have q:(k==8)=true:=q;rw[e8]at q;cases q) (fun _=> ?_);refine aI (fun q=>by have q:(k==11)=true:=q;rw[e11]at q;cases q) (fun _=> ?_);refine lp Nat (fun j=>[(5,.int .i64 (j:Nat))]) (fun j=>[.bT 2 64 [.int .i64 0,.int .i64 0,.int .i64 0,.raw (.slice none 0 0),.raw (.slice none 0 0)],.bT 3 64 [.int .i64 k,.int .i64 lv,.int .i64 0,.sl 20000,.raw (.slice none 0 0)],cR cs (bO cs j s4).2,.row 20000 2 1 (.int .i64) (bO cs j s4).1 []]) (fun j=>n-j) (fun j=>j≤n) 0 (Nat.zero_le _) ?_ ?_
 ·exact vo [⟨4000003,30000,2,1,(.int .i64)⟩] [(20000,30000)] rfl (aI (aI ⟨rfl,rfl⟩ trivial) ⟨trivial,⟨⟨rfl,rfl⟩,⟨rfl,rfl⟩,⟨rfl,rfl⟩,rfl,rfl,trivial⟩,trivial,⟨⟨rfl,rfl⟩,⟨rfl,rfl⟩,⟨rfl,rfl⟩,rfl,rfl,trivial⟩,trivial,⟨rfl,⟨rfl,rfl⟩,rfl,trivial⟩,⟨rfl,nP⟩,trivial⟩)
 intro j hj;have hj1:=hdl j;have hj2:=hdj j;refine aI (fun q=> ?_) (fun q=> ?_)
 ·have q:(bif decide (((j:Nat):Int)<((n:Nat):Int))then !(bO cs j s4).2.2 else false)=true:=q;rw[aY,Bool.and_eq_true,decide_eq_true_eq]at q;have hlt:j<n:=by omega
  have hnb:(bO cs j s4).2.2=false:=by simpa using q.2
  have e:bO cs (j+1) s4=((bO cs j s4).1++[(iE cs (bO cs j s4).2).1],(iE cs (bO cs j s4).2).2):=by rw[bO,hnb];rfl
  have e2:=congrArg Prod.fst e;have e3:=congrArg Prod.snd e;refine Or.inr (eI _ (eI _ (aI (tu cs hb _ (by omega)) ?_)));refine aI (by show(bO cs j s4).1.length+1≤_;omega) ?_;refine aI (by kernel_rfl) ?_;refine aK (j+1) hlt ?_ (by show n-(j+1)<n-j;omega);exact Go.Tr.hd [(20000,55)] rfl (aI ⟨bD (by omega),rfl⟩ trivial) ⟨trivial,⟨⟨rfl,rfl⟩,⟨rfl,rfl⟩,⟨rfl,rfl⟩,rfl,rfl,trivial⟩,trivial,⟨⟨rfl,rfl⟩,⟨rfl,rfl⟩,⟨rfl,rfl⟩,rfl,rfl,trivial⟩,trivial,⟨rfl,⟨congrArg (fun s:Dp=>((s.1:Nat):Int)) e3.symm,rfl⟩,congrArg Prod.snd e3.symm,trivial⟩,⟨e2.symm,nP⟩,trivial⟩
 have q:(bif decide (((j:Nat):Int)<((n:Nat):Int))then !(bO cs j s4).2.2 else false)=false:=q;rw[aY,Bool.and_eq_false_iff,decide_eq_false_iff_not]at q
 have hfin:bO cs j s4=(ds,s5):=by
  rcases q with q|q
  ·rw[←hD,show j=n by omega]
  ·have hB:(bO cs j s4).2.2=true:=by simpa using q
   have:=mF hB (n-j);rw[show j+(n-j)=n by omega,hD]at this;exact this.symm
 have f1:(bO cs j s4).1=ds:=by rw[hfin]
 have f2:(bO cs j s4).2=s5:=by rw[hfin]
 refine aI (fun q=>by have q:(k==9)=true:=q;rw[e9]at q;cases q) (fun _=> ?_);have hprt:=E5 k 0;rw[hp]at hprt;refine Or.inl (eI _ (aI hprt ?_));refine lp Nat (fun i=>[(7,.int .i64 (((p:Nat):Int)-(i:Nat)))]) (fun i=>[.bT 2 64 [.int .i64 0,.int .i64 0,.int .i64 0,.raw (.slice none 0 0),.raw (.slice none 0 0)],.bT 3 64 [.int .i64 k,.int .i64 lv,.int .i64 0,.sl 20000,.sl 20001],cR cs s5,.row 20000 2 1 (.int .i64) ds [],.row 20001 60 2 aQ (List.replicate i (-1,0)) []]) (fun i=>p-i) (fun i=>i≤p) 0 (Nat.zero_le _) ?_ ?_
 ·exact vo [⟨5000003,30000,60,2,aQ⟩] [(20000,20000),(20001,30000)] rfl (aI (aI ⟨(Int.sub_zero _).symm,rfl⟩ trivial) ⟨trivial,⟨⟨rfl,rfl⟩,⟨rfl,rfl⟩,⟨rfl,rfl⟩,rfl,rfl,trivial⟩,trivial,⟨⟨rfl,rfl⟩,⟨rfl,rfl⟩,⟨rfl,rfl⟩,rfl,rfl,trivial⟩,trivial,⟨rfl,⟨congrArg (fun s:Dp=>((s.1:Nat):Int)) f2,rfl⟩,congrArg Prod.snd f2,trivial⟩,⟨f1,nP⟩,⟨rfl,nP⟩,trivial⟩)
 intro i hi;refine aI (fun q2=> ?_) (fun q2=> ?_)
 ·have q2:decide ((0:Int)<((p:Nat):Int)-((i:Nat):Int))=true:=q2;have hlt:i<p:=by have:=of_decide_eq_true q2;omega
  refine aI (by show(List.replicate i ((-1,0):aB)).length+1≤_;rw[List.length_replicate];omega) ?_;refine aK (i+1) hlt ?_ (by show p-(i+1)<p-i;omega);exact Go.Tr.hd [(20000,20000),(20001,74)] rfl (aI ⟨xq hlt (by omega),rfl⟩ trivial) ⟨trivial,⟨⟨rfl,rfl⟩,⟨rfl,rfl⟩,⟨rfl,rfl⟩,rfl,rfl,trivial⟩,trivial,⟨⟨rfl,rfl⟩,⟨rfl,rfl⟩,⟨rfl,rfl⟩,rfl,rfl,trivial⟩,trivial,⟨rfl,⟨rfl,rfl⟩,rfl,trivial⟩,⟨rfl,nP⟩,⟨(jT i _).symm,nP⟩,trivial⟩
 have q2:decide ((0:Int)<((p:Nat):Int)-((i:Nat):Int))=false:=q2;have hie:i=p:=by have:=of_decide_eq_false q2;omega
 subst hie;refine fin [(10001,20000),(10002,20001)] (aI rfl ?_);exact⟨trivial,⟨rfl,⟨rfl,rfl⟩,rfl,trivial⟩,⟨rfl,nP⟩,⟨rfl,nP⟩,trivial⟩
theorem QN(cs:List Int)(hb:mK cs)(s:Dp)(hs:s.1≤cs.length){k:Int}{s1:Dp}{lv:Int}{s2:Dp}{ds:List Int}{s5:Dp}{p:Nat}(hk:gK cs s=(k,s1))(hL:gK cs s1=(lv,s2))(hD:bO cs 2 s2=(ds,s5))(hp:aL k 0=((p:Nat):Int))(hl:aG k=true)(hv:aM k=false)(e8:(k==8)=false)(e9:(k==9)=false)(e10:(k==10)=false)(e11:(k==11)=true)(e6:(k==6)=false)(e7:(k==7)=false)(e12:(k==12)=false):aC Try.prog 32 [.ptr 10000 0] [cR cs s] (.agg [.int .i64 k,.int .i64 lv,.int .i64 0,.sl 10001,.sl 10002]) [cR cs s5,.row 10001 2 1 (.int .i64) ds [],.row 10002 60 2 aQ (List.replicate p (-1,0)) []]:=by
 have hlen:=hb.len;have w_hk:=pX cs hb (s) (by omega);rw[hk]at w_hk;have z_hk:(s1).1≤cs.length:=by have:=gM (cs:=cs) (s:=s) (by omega);rw[hk]at this;exact this
 have w_hL:=pX cs hb (s1) (by omega);rw[hL]at w_hL;have z_hL:(s2).1≤cs.length:=by have:=gM (cs:=cs) (s:=s1) (by omega);rw[hL]at this;exact this
 have hdl:=mG cs s2;have hdj:=ow (cs:=cs) (s:=s2) (by omega);have z5:s5.1≤cs.length:=by have:=hdj 2;rw[hD]at this;exact this
 have hp4:=cZ k 0;rw[hp]at hp4;refine aC.intro (nt:=77) aS mixed wY Try.func32 rfl rfl rfl rfl rfl rfl ?_;refine Or.inr (eI _ (eI _ (aI w_hk ?_)));refine Or.inl (eI _ (aI (mH k) ?_));refine aI (fun _=> ?_) (fun q=>by have q:(aG k)=false:=q;rw[hl]at q;cases q);refine Or.inr (eI _ (eI _ (aI w_hL ?_)));refine aI (fun q=>by have q:(k==6)=true:=q;rw[e6]at q;cases q) (fun _=> ?_);refine aI (fun q=>by have q:(k==7)=true:=q;rw[e7]at q;cases q) (fun _=> ?_);refine aI (fun q=>by have q:(k==8)=true:=q;rw[e8]at q;cases q) (fun _=> ?_)
 refine aI (fun q=>by have q:(k==12)=true:=q;rw[e12]at q;cases q) (fun _=> ?_);refine aI (fun q=>by have q:(k==9)=true:=q;rw[e9]at q;cases q) (fun _=> ?_);refine aI (fun q=>by have q:(k==10)=true:=q;rw[e10]at q;cases q) (fun _=> ?_);refine aI (fun q=>by have q:(k==8)=true:=q;rw[e8]at q;cases q) (fun _=> ?_);refine aI (fun _=> ?_) (fun q=>by have q:(k==11)=false:=q;rw[e11]at q;cases q);refine lp Nat (fun j=>[(5,.int .i64 (j:Nat))]) (fun j=>[.bT 2 64 [.int .i64 0,.int .i64 0,.int .i64 0,.raw (.slice none 0 0),.raw (.slice none 0 0)],.bT 3 64 [.int .i64 k,.int .i64 lv,.int .i64 0,.sl 20000,.raw (.slice none 0 0)],cR cs (bO cs j s2).2,.row 20000 2 1 (.int .i64) (bO cs j s2).1 []]) (fun j=>2-j) (fun j=>j≤2) 0 (Nat.zero_le _) ?_ ?_
 ·exact vo [⟨4000003,30000,2,1,(.int .i64)⟩] [(20000,30000)] rfl (aI (aI ⟨rfl,rfl⟩ trivial) ⟨trivial,⟨⟨rfl,rfl⟩,⟨rfl,rfl⟩,⟨rfl,rfl⟩,rfl,rfl,trivial⟩,trivial,⟨⟨rfl,rfl⟩,⟨rfl,rfl⟩,⟨rfl,rfl⟩,rfl,rfl,trivial⟩,trivial,⟨rfl,⟨rfl,rfl⟩,rfl,trivial⟩,⟨rfl,nP⟩,trivial⟩)
 intro j hj;have hj1:=hdl j;have hj2:=hdj j;refine aI (fun q=> ?_) (fun q=> ?_)
 ·have q:(bif decide (((j:Nat):Int)<((2:Nat):Int))then !(bO cs j s2).2.2 else false)=true:=q;rw[aY,Bool.and_eq_true,decide_eq_true_eq]at q;have hlt:j<2:=by omega
  have hnb:(bO cs j s2).2.2=false:=by simpa using q.2
  have e:bO cs (j+1) s2=((bO cs j s2).1++[(iE cs (bO cs j s2).2).1],(iE cs (bO cs j s2).2).2):=by rw[bO,hnb];rfl
  have e2:=congrArg Prod.fst e;have e3:=congrArg Prod.snd e;refine Or.inr (eI _ (eI _ (aI (tu cs hb _ (by omega)) ?_)));refine aI (by show(bO cs j s2).1.length+1≤_;omega) ?_;refine aI (by kernel_rfl) ?_;refine aK (j+1) hlt ?_ (by show 2-(j+1)<2-j;omega);exact Go.Tr.hd [(20000,55)] rfl (aI ⟨bD (by omega),rfl⟩ trivial) ⟨trivial,⟨⟨rfl,rfl⟩,⟨rfl,rfl⟩,⟨rfl,rfl⟩,rfl,rfl,trivial⟩,trivial,⟨⟨rfl,rfl⟩,⟨rfl,rfl⟩,⟨rfl,rfl⟩,rfl,rfl,trivial⟩,trivial,⟨rfl,⟨congrArg (fun s:Dp=>((s.1:Nat):Int)) e3.symm,rfl⟩,congrArg Prod.snd e3.symm,trivial⟩,⟨e2.symm,nP⟩,trivial⟩
 have q:(bif decide (((j:Nat):Int)<((2:Nat):Int))then !(bO cs j s2).2.2 else false)=false:=q;rw[aY,Bool.and_eq_false_iff,decide_eq_false_iff_not]at q
 have hfin:bO cs j s2=(ds,s5):=by
  rcases q with q|q
  ·rw[←hD,show j=2 by omega]
  ·have hB:(bO cs j s2).2.2=true:=by simpa using q
   have:=mF hB (2-j);rw[show j+(2-j)=2 by omega,hD]at this;exact this.symm
 have f1:(bO cs j s2).1=ds:=by rw[hfin]
 have f2:(bO cs j s2).2=s5:=by rw[hfin]
 refine aI (fun q=>by have q:(k==9)=true:=q;rw[e9]at q;cases q) (fun _=> ?_);have hprt:=E5 k 0;rw[hp]at hprt;refine Or.inl (eI _ (aI hprt ?_));refine lp Nat (fun i=>[(7,.int .i64 (((p:Nat):Int)-(i:Nat)))]) (fun i=>[.bT 2 64 [.int .i64 0,.int .i64 0,.int .i64 0,.raw (.slice none 0 0),.raw (.slice none 0 0)],.bT 3 64 [.int .i64 k,.int .i64 lv,.int .i64 0,.sl 20000,.sl 20001],cR cs s5,.row 20000 2 1 (.int .i64) ds [],.row 20001 60 2 aQ (List.replicate i (-1,0)) []]) (fun i=>p-i) (fun i=>i≤p) 0 (Nat.zero_le _) ?_ ?_
 ·exact vo [⟨5000003,30000,60,2,aQ⟩] [(20000,20000),(20001,30000)] rfl (aI (aI ⟨(Int.sub_zero _).symm,rfl⟩ trivial) ⟨trivial,⟨⟨rfl,rfl⟩,⟨rfl,rfl⟩,⟨rfl,rfl⟩,rfl,rfl,trivial⟩,trivial,⟨⟨rfl,rfl⟩,⟨rfl,rfl⟩,⟨rfl,rfl⟩,rfl,rfl,trivial⟩,trivial,⟨rfl,⟨congrArg (fun s:Dp=>((s.1:Nat):Int)) f2,rfl⟩,congrArg Prod.snd f2,trivial⟩,⟨f1,nP⟩,⟨rfl,nP⟩,trivial⟩)
 intro i hi;refine aI (fun q2=> ?_) (fun q2=> ?_)
 ·have q2:decide ((0:Int)<((p:Nat):Int)-((i:Nat):Int))=true:=q2;have hlt:i<p:=by have:=of_decide_eq_true q2;omega
  refine aI (by show(List.replicate i ((-1,0):aB)).length+1≤_;rw[List.length_replicate];omega) ?_;refine aK (i+1) hlt ?_ (by show p-(i+1)<p-i;omega);exact Go.Tr.hd [(20000,20000),(20001,74)] rfl (aI ⟨xq hlt (by omega),rfl⟩ trivial) ⟨trivial,⟨⟨rfl,rfl⟩,⟨rfl,rfl⟩,⟨rfl,rfl⟩,rfl,rfl,trivial⟩,trivial,⟨⟨rfl,rfl⟩,⟨rfl,rfl⟩,⟨rfl,rfl⟩,rfl,rfl,trivial⟩,trivial,⟨rfl,⟨rfl,rfl⟩,rfl,trivial⟩,⟨rfl,nP⟩,⟨(jT i _).symm,nP⟩,trivial⟩
 have q2:decide ((0:Int)<((p:Nat):Int)-((i:Nat):Int))=false:=q2;have hie:i=p:=by have:=of_decide_eq_false q2;omega
 subst hie;refine fin [(10001,20000),(10002,20001)] (aI rfl ?_);exact⟨trivial,⟨rfl,⟨rfl,rfl⟩,rfl,trivial⟩,⟨rfl,nP⟩,⟨rfl,nP⟩,trivial⟩
theorem QO(cs:List Int)(hb:mK cs)(s:Dp)(hs:s.1≤cs.length){k:Int}{s1:Dp}{lv:Int}{s2:Dp}{va:Int}{s3:Dp}{ds:List Int}{s5:Dp}{p:Nat}(hk:gK cs s=(k,s1))(hL:gK cs s1=(lv,s2))(hV:iE cs s2=(va,s3))(hD:bO cs 0 s3=(ds,s5))(hp:aL k 0=((p:Nat):Int))(hl:aG k=true)(hv:aM k=true)(e8:(k==8)=false)(e9:(k==9)=false)(e10:(k==10)=false)(e11:(k==11)=false)(e6:(k==6)=false)(e7:(k==7)=false)(e12:(k==12)=true):aC Try.prog 32 [.ptr 10000 0] [cR cs s] (.agg [.int .i64 k,.int .i64 lv,.int .i64 va,.sl 10001,.sl 10002]) [cR cs s5,.row 10001 2 1 (.int .i64) ds [],.row 10002 60 2 aQ (List.replicate p (-1,0)) []]:=by
 have hlen:=hb.len;have w_hk:=pX cs hb (s) (by omega);rw[hk]at w_hk;have z_hk:(s1).1≤cs.length:=by have:=gM (cs:=cs) (s:=s) (by omega);rw[hk]at this;exact this
 have w_hL:=pX cs hb (s1) (by omega);rw[hL]at w_hL;have z_hL:(s2).1≤cs.length:=by have:=gM (cs:=cs) (s:=s1) (by omega);rw[hL]at this;exact this
 have w_hV:=tu cs hb (s2) (by omega);rw[hV]at w_hV;have z_hV:(s3).1≤cs.length:=by have:=nE (cs:=cs) (s:=s2) (by omega);rw[hV]at this;exact this
 have hdl:=mG cs s3;have hdj:=ow (cs:=cs) (s:=s3) (by omega);have z5:s5.1≤cs.length:=by have:=hdj 0;rw[hD]at this;exact this
 have hp4:=cZ k 0;rw[hp]at hp4;refine aC.intro (nt:=77) aS mixed wY Try.func32 rfl rfl rfl rfl rfl rfl ?_;refine Or.inr (eI _ (eI _ (aI w_hk ?_)));refine Or.inl (eI _ (aI (mH k) ?_));refine aI (fun _=> ?_) (fun q=>by have q:(aG k)=false:=q;rw[hl]at q;cases q);refine Or.inr (eI _ (eI _ (aI w_hL ?_)));refine aI (fun q=>by have q:(k==6)=true:=q;rw[e6]at q;cases q) (fun _=> ?_);refine aI (fun q=>by have q:(k==7)=true:=q;rw[e7]at q;cases q) (fun _=> ?_);refine aI (fun q=>by have q:(k==8)=true:=q;rw[e8]at q;cases q) (fun _=> ?_)
 refine aI (fun _=> ?_) (fun q=>by have q:(k==12)=false:=q;rw[e12]at q;cases q);refine aI (fun _=> ?_) (fun q=>by have q:(k==12)=false:=q;rw[e12]at q;cases q);refine Or.inr (eI _ (eI _ (aI w_hV ?_)));refine aI (fun q=>by have q:(k==8)=true:=q;rw[e8]at q;cases q) (fun _=> ?_);refine aI (fun q=>by have q:(k==11)=true:=q;rw[e11]at q;cases q) (fun _=> ?_);refine lp Nat (fun j=>[(5,.int .i64 (j:Nat))]) (fun j=>[.bT 2 64 [.int .i64 0,.int .i64 0,.int .i64 0,.raw (.slice none 0 0),.raw (.slice none 0 0)],.bT 3 64 [.int .i64 k,.int .i64 lv,.int .i64 va,.sl 20000,.raw (.slice none 0 0)],cR cs (bO cs j s3).2,.row 20000 2 1 (.int .i64) (bO cs j s3).1 []]) (fun j=>0-j) (fun j=>j≤0) 0 (Nat.zero_le _) ?_ ?_
 ·exact vo [⟨4000003,30000,2,1,(.int .i64)⟩] [(20000,30000)] rfl (aI (aI ⟨rfl,rfl⟩ trivial) ⟨trivial,⟨⟨rfl,rfl⟩,⟨rfl,rfl⟩,⟨rfl,rfl⟩,rfl,rfl,trivial⟩,trivial,⟨⟨rfl,rfl⟩,⟨rfl,rfl⟩,⟨rfl,rfl⟩,rfl,rfl,trivial⟩,trivial,⟨rfl,⟨rfl,rfl⟩,rfl,trivial⟩,⟨rfl,nP⟩,trivial⟩)
 intro j hj;have hj1:=hdl j;have hj2:=hdj j;refine aI (fun q=> ?_) (fun q=> ?_)
 ·have q:(bif decide (((j:Nat):Int)<((0:Nat):Int))then !(bO cs j s3).2.2 else false)=true:=q;rw[aY,Bool.and_eq_true,decide_eq_true_eq]at q;have hlt:j<0:=by omega
  have hnb:(bO cs j s3).2.2=false:=by simpa using q.2
  have e:bO cs (j+1) s3=((bO cs j s3).1++[(iE cs (bO cs j s3).2).1],(iE cs (bO cs j s3).2).2):=by rw[bO,hnb];rfl
  have e2:=congrArg Prod.fst e;have e3:=congrArg Prod.snd e;refine Or.inr (eI _ (eI _ (aI (tu cs hb _ (by omega)) ?_)));refine aI (by show(bO cs j s3).1.length+1≤_;omega) ?_;refine aI (by kernel_rfl) ?_;refine aK (j+1) hlt ?_ (by show 0-(j+1)<0-j;omega);exact Go.Tr.hd [(20000,55)] rfl (aI ⟨bD (by omega),rfl⟩ trivial) ⟨trivial,⟨⟨rfl,rfl⟩,⟨rfl,rfl⟩,⟨rfl,rfl⟩,rfl,rfl,trivial⟩,trivial,⟨⟨rfl,rfl⟩,⟨rfl,rfl⟩,⟨rfl,rfl⟩,rfl,rfl,trivial⟩,trivial,⟨rfl,⟨congrArg (fun s:Dp=>((s.1:Nat):Int)) e3.symm,rfl⟩,congrArg Prod.snd e3.symm,trivial⟩,⟨e2.symm,nP⟩,trivial⟩
 have q:(bif decide (((j:Nat):Int)<((0:Nat):Int))then !(bO cs j s3).2.2 else false)=false:=q;rw[aY,Bool.and_eq_false_iff,decide_eq_false_iff_not]at q
 have hfin:bO cs j s3=(ds,s5):=by
  rcases q with q|q
  ·rw[←hD,show j=0 by omega]
  ·have hB:(bO cs j s3).2.2=true:=by simpa using q
   have:=mF hB (0-j);rw[show j+(0-j)=0 by omega,hD]at this;exact this.symm
 have f1:(bO cs j s3).1=ds:=by rw[hfin]
 have f2:(bO cs j s3).2=s5:=by rw[hfin]
 refine aI (fun q=>by have q:(k==9)=true:=q;rw[e9]at q;cases q) (fun _=> ?_);have hprt:=E5 k 0;rw[hp]at hprt;refine Or.inl (eI _ (aI hprt ?_));refine lp Nat (fun i=>[(7,.int .i64 (((p:Nat):Int)-(i:Nat)))]) (fun i=>[.bT 2 64 [.int .i64 0,.int .i64 0,.int .i64 0,.raw (.slice none 0 0),.raw (.slice none 0 0)],.bT 3 64 [.int .i64 k,.int .i64 lv,.int .i64 va,.sl 20000,.sl 20001],cR cs s5,.row 20000 2 1 (.int .i64) ds [],.row 20001 60 2 aQ (List.replicate i (-1,0)) []]) (fun i=>p-i) (fun i=>i≤p) 0 (Nat.zero_le _) ?_ ?_
 ·exact vo [⟨5000003,30000,60,2,aQ⟩] [(20000,20000),(20001,30000)] rfl (aI (aI ⟨(Int.sub_zero _).symm,rfl⟩ trivial) ⟨trivial,⟨⟨rfl,rfl⟩,⟨rfl,rfl⟩,⟨rfl,rfl⟩,rfl,rfl,trivial⟩,trivial,⟨⟨rfl,rfl⟩,⟨rfl,rfl⟩,⟨rfl,rfl⟩,rfl,rfl,trivial⟩,trivial,⟨rfl,⟨congrArg (fun s:Dp=>((s.1:Nat):Int)) f2,rfl⟩,congrArg Prod.snd f2,trivial⟩,⟨f1,nP⟩,⟨rfl,nP⟩,trivial⟩)
 intro i hi;refine aI (fun q2=> ?_) (fun q2=> ?_)
 ·have q2:decide ((0:Int)<((p:Nat):Int)-((i:Nat):Int))=true:=q2;have hlt:i<p:=by have:=of_decide_eq_true q2;omega
  refine aI (by show(List.replicate i ((-1,0):aB)).length+1≤_;rw[List.length_replicate];omega) ?_;refine aK (i+1) hlt ?_ (by show p-(i+1)<p-i;omega);exact Go.Tr.hd [(20000,20000),(20001,74)] rfl (aI ⟨xq hlt (by omega),rfl⟩ trivial) ⟨trivial,⟨⟨rfl,rfl⟩,⟨rfl,rfl⟩,⟨rfl,rfl⟩,rfl,rfl,trivial⟩,trivial,⟨⟨rfl,rfl⟩,⟨rfl,rfl⟩,⟨rfl,rfl⟩,rfl,rfl,trivial⟩,trivial,⟨rfl,⟨rfl,rfl⟩,rfl,trivial⟩,⟨rfl,nP⟩,⟨(jT i _).symm,nP⟩,trivial⟩
 have q2:decide ((0:Int)<((p:Nat):Int)-((i:Nat):Int))=false:=q2;have hie:i=p:=by have:=of_decide_eq_false q2;omega
 subst hie;refine fin [(10001,20000),(10002,20001)] (aI rfl ?_);exact⟨trivial,⟨rfl,⟨rfl,rfl⟩,rfl,trivial⟩,⟨rfl,nP⟩,⟨rfl,nP⟩,trivial⟩
theorem X8(cs:List Int)(hb:mK cs)(s:Dp)(hs:s.1≤cs.length):aC Try.prog 32 [.ptr 10000 0] [cR cs s] (XQ (gV cs s).1) (cR cs (gV cs s).2 ::XI (gV cs s).1):=by
 obtain⟨k,s1,hk⟩:∃k s1,gK cs s=(k,s1):=⟨_,_,rfl⟩
 by_cases h6:k=6
 ·subst h6;obtain⟨va,s3,hV⟩:∃k s3,iE cs s1=(k,s3):=⟨_,_,rfl⟩;obtain⟨ds,s5,hD⟩:∃ds s5,bO cs 0 s3=(ds,s5):=⟨_,_,rfl⟩;have:=TW cs hb s hs hk hV hD (Int.toNat_of_nonneg (dG 6 0)).symm (by decide) (by decide) (by decide) (by decide) (by decide) (by decide) (by decide) (by decide) (by decide)
  have e:gV cs s=((6,0,va,ds,List.replicate (aL 6 0).toNat (-1,0)),s5):=by
   unfold gV uw;simp only[hk,o7,pV,qG,sD,show aG 6=false by decide,show aM 6=true by decide,cond_true,cond_false,show((6:Int)==8)=false by decide,show((6:Int)==9)=false by decide,show((6:Int)==10)=false by decide,show((6:Int)==11)=false by decide];simp only[hV,hD,Int.toNat_one,Int.toNat_zero,show(2:Int).toNat=2 from rfl]
   try rfl
  rw[e];exact this
 by_cases h7:k=7
 ·subst h7;obtain⟨lv,s2,hL⟩:∃k s2,gK cs s1=(k,s2):=⟨_,_,rfl⟩;obtain⟨va,s3,hV⟩:∃k s3,iE cs s2=(k,s3):=⟨_,_,rfl⟩;obtain⟨ds,s5,hD⟩:∃ds s5,bO cs 0 s3=(ds,s5):=⟨_,_,rfl⟩;have:=TY cs hb s hs hk hL hV hD (Int.toNat_of_nonneg (dG 7 0)).symm (by decide) (by decide) (by decide) (by decide) (by decide) (by decide) (by decide) (by decide) (by decide)
  have e:gV cs s=((7,lv,va,ds,List.replicate (aL 7 0).toNat (-1,0)),s5):=by
   unfold gV uw;simp only[hk,o7,pV,qG,sD,show aG 7=true by decide,show aM 7=true by decide,cond_true,cond_false,show((7:Int)==8)=false by decide,show((7:Int)==9)=false by decide,show((7:Int)==10)=false by decide,show((7:Int)==11)=false by decide];simp only[hL,hV,hD,Int.toNat_one,Int.toNat_zero,show(2:Int).toNat=2 from rfl]
   try rfl
  rw[e];exact this
 by_cases h8:k=8
 ·subst h8;obtain⟨lv,s2,hL⟩:∃k s2,gK cs s1=(k,s2):=⟨_,_,rfl⟩;obtain⟨va,s3,hV⟩:∃k s3,iE cs s2=(k,s3):=⟨_,_,rfl⟩;obtain⟨ds,s5,hD⟩:∃ds s5,bO cs 1 s3=(ds,s5):=⟨_,_,rfl⟩;have:=T9 cs hb s hs hk hL hV hD (Int.toNat_of_nonneg (dG 8 0)).symm (by decide) (by decide) (by decide) (by decide) (by decide) (by decide) (by decide) (by decide) (by decide)
  have e:gV cs s=((8,lv,va,ds,List.replicate (aL 8 0).toNat (-1,0)),s5):=by
   unfold gV uw;simp only[hk,o7,pV,qG,sD,show aG 8=true by decide,show aM 8=true by decide,cond_true,cond_false,show((8:Int)==8)=true by decide,show((8:Int)==9)=false by decide,show((8:Int)==10)=false by decide,show((8:Int)==11)=false by decide];simp only[hL,hV,hD,Int.toNat_one,Int.toNat_zero,show(2:Int).toNat=2 from rfl]
   try rfl
  rw[e];exact this
 by_cases h9:k=9
 ·subst h9;obtain⟨lv,s2,hL⟩:∃k s2,gK cs s1=(k,s2):=⟨_,_,rfl⟩;obtain⟨va,s3,hV⟩:∃k s3,iE cs s2=(k,s3):=⟨_,_,rfl⟩;obtain⟨ds,s5,hD⟩:∃ds s5,bO cs 0 s3=(ds,s5):=⟨_,_,rfl⟩;obtain⟨fi,s6,hF⟩:∃k s6,gK cs s5=(k,s6):=⟨_,_,rfl⟩;have:=Ua cs hb s hs hk hL hV hD hF (Int.toNat_of_nonneg (dG 9 fi)).symm (by decide) (by decide) (by decide) (by decide) (by decide) (by decide) (by decide) (by decide) (by decide)
  have e:gV cs s=((9,lv,va,ds,List.replicate (aL 9 fi).toNat (-1,0)),s6):=by
   unfold gV uw;simp only[hk,o7,pV,qG,sD,show aG 9=true by decide,show aM 9=true by decide,cond_true,cond_false,show((9:Int)==8)=false by decide,show((9:Int)==9)=true by decide,show((9:Int)==10)=false by decide,show((9:Int)==11)=false by decide];simp only[hL,hV,hD,hF,Int.toNat_one,Int.toNat_zero,show(2:Int).toNat=2 from rfl]
   try rfl
  rw[e];exact this
 by_cases h10:k=10
 ·subst h10;obtain⟨lv,s2,hL⟩:∃k s2,gK cs s1=(k,s2):=⟨_,_,rfl⟩;obtain⟨n,s4,hC⟩:∃(n:Nat) (s4:Dp),gK cs s2=(((n:Nat):Int),s4):=⟨(gK cs s2).1.toNat,(gK cs s2).2,by rw[Int.toNat_of_nonneg (IK hb s2).1]⟩;obtain⟨ds,s5,hD⟩:∃ds s5,bO cs n s4=(ds,s5):=⟨_,_,rfl⟩;have:=QM cs hb s hs hk hL hC hD (Int.toNat_of_nonneg (dG 10 0)).symm (by decide) (by decide) (by decide) (by decide) (by decide) (by decide) (by decide) (by decide) (by decide)
  have e:gV cs s=((10,lv,0,ds,List.replicate (aL 10 0).toNat (-1,0)),s5):=by
   unfold gV uw;simp only[hk,o7,pV,qG,sD,show aG 10=true by decide,show aM 10=false by decide,cond_true,cond_false,show((10:Int)==8)=false by decide,show((10:Int)==9)=false by decide,show((10:Int)==10)=true by decide,show((10:Int)==11)=false by decide];simp only[hL,hC,Int.toNat_natCast,hD,Int.toNat_one,Int.toNat_zero,show(2:Int).toNat=2 from rfl]
   try rfl
  rw[e];exact this
 by_cases h11:k=11
 ·subst h11;obtain⟨lv,s2,hL⟩:∃k s2,gK cs s1=(k,s2):=⟨_,_,rfl⟩;obtain⟨ds,s5,hD⟩:∃ds s5,bO cs 2 s2=(ds,s5):=⟨_,_,rfl⟩;have:=QN cs hb s hs hk hL hD (Int.toNat_of_nonneg (dG 11 0)).symm (by decide) (by decide) (by decide) (by decide) (by decide) (by decide) (by decide) (by decide) (by decide)
  have e:gV cs s=((11,lv,0,ds,List.replicate (aL 11 0).toNat (-1,0)),s5):=by
   unfold gV uw;simp only[hk,o7,pV,qG,sD,show aG 11=true by decide,show aM 11=false by decide,cond_true,cond_false,show((11:Int)==8)=false by decide,show((11:Int)==9)=false by decide,show((11:Int)==10)=false by decide,show((11:Int)==11)=true by decide];simp only[hL,hD,Int.toNat_one,Int.toNat_zero,show(2:Int).toNat=2 from rfl]
   try rfl
  rw[e];exact this
 by_cases h12:k=12
 ·subst h12;obtain⟨lv,s2,hL⟩:∃k s2,gK cs s1=(k,s2):=⟨_,_,rfl⟩;obtain⟨va,s3,hV⟩:∃k s3,iE cs s2=(k,s3):=⟨_,_,rfl⟩;obtain⟨ds,s5,hD⟩:∃ds s5,bO cs 0 s3=(ds,s5):=⟨_,_,rfl⟩;have:=QO cs hb s hs hk hL hV hD (Int.toNat_of_nonneg (dG 12 0)).symm (by decide) (by decide) (by decide) (by decide) (by decide) (by decide) (by decide) (by decide) (by decide)
  have e:gV cs s=((12,lv,va,ds,List.replicate (aL 12 0).toNat (-1,0)),s5):=by
   unfold gV uw;simp only[hk,o7,pV,qG,sD,show aG 12=true by decide,show aM 12=true by decide,cond_true,cond_false,show((12:Int)==8)=false by decide,show((12:Int)==9)=false by decide,show((12:Int)==10)=false by decide,show((12:Int)==11)=false by decide];simp only[hL,hV,hD,Int.toNat_one,Int.toNat_zero,show(2:Int).toNat=2 from rfl]
   try rfl
  rw[e];exact this
 have e8:(k==8)=false:=by simpa using h8
 have e9:(k==9)=false:=by simpa using h9
 have e10:(k==10)=false:=by simpa using h10
 have e11:(k==11)=false:=by simpa using h11
 have e6:(k==6)=false:=by simpa using h6
 have e7:(k==7)=false:=by simpa using h7
 have e12:(k==12)=false:=by simpa using h12
 have hv:aM k=false:=by unfold aM;rw[e6,e7,e8,e12,e9];rfl
 cases hl:aG k with
 |false=>
  obtain⟨ds,s5,hD⟩:∃ds s5,bO cs 0 s1=(ds,s5):=⟨_,_,rfl⟩;have:=Ud cs hb s hs hk hD (Int.toNat_of_nonneg (dG k 0)).symm hl hv e8 e9 e10 e11 e6 e7 e12
  have e:gV cs s=((k,0,0,ds,List.replicate (aL k 0).toNat (-1,0)),s5):=by
   unfold gV uw;simp only[hk,o7,pV,qG,sD,hl,hv,cond_true,cond_false,e8,e9,e10,e11];simp only[hD,Int.toNat_zero]
   try rfl
  rw[e];exact this
 |true=>
  obtain⟨lv,s2,hL⟩:∃k s2,gK cs s1=(k,s2):=⟨_,_,rfl⟩;obtain⟨ds,s5,hD⟩:∃ds s5,bO cs 0 s2=(ds,s5):=⟨_,_,rfl⟩;have:=Ue cs hb s hs hk hL hD (Int.toNat_of_nonneg (dG k 0)).symm hl hv e8 e9 e10 e11 e6 e7 e12
  have e:gV cs s=((k,lv,0,ds,List.replicate (aL k 0).toNat (-1,0)),s5):=by
   unfold gV uw;simp only[hk,o7,pV,qG,sD,hl,hv,cond_true,cond_false,e8,e9,e10,e11];simp only[hL,hD,Int.toNat_zero]
   try rfl
  rw[e];exact this
end Go.Proofs.Ytdpclbjjmhkgiaa
