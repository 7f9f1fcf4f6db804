
/- Nets in bytes: the program's DecodeNet. -/
import Derived.Test.YtdpclbjjmhkgiaaShort
import Derived.Test.YtdpclbjjmhkgiaaTi
import Derived.Test.YtdpclbjjmhkgiaaRs
import Derived.Test.YtdpclbjjmhkgiaaJa
import Derived.Test.YtdpclbjjmhkgiaaBo
set_option maxRecDepth 100000
set_option linter.unusedSimpArgs false
set_option linter.unusedVariables false
set_option linter.unusedSectionVars false
namespace Go.Proofs.Ytdpclbjjmhkgiaa
open Go Go.RowKit Go.Proofs Go.Tr
theorem Rz{b:List Int}{x:Int}(h:x∈midD b):x∈b:=List.mem_of_mem_drop (List.mem_of_mem_take h)
theorem rX{b:List Int}(h:bI b=0):10≤b.length∧b.length≤60000∧bJ (elt 0 b 5) (midD b)=b∧1≤elt 0 b 5∧elt 0 b 5≤3:=by
 unfold bI at h;cases h1:decide (60000<((b.length:Nat):Int))with
 |true=>rw[h1]at h;cases h
 |false=>
  rw[h1]at h;cases h2:decide (((b.length:Nat):Int)<10)with
  |true=>rw[h2]at h;cases h
  |false=>
   rw[h2]at h;cases h3:(bif decide (elt 0 b 5<1)then true else decide (3<elt 0 b 5))with
   |true=>rw[h3]at h;cases h
   |false=>
    rw[h3]at h;cases h4:(!decide (bJ (elt 0 b 5) (midD b)=b))with
    |true=>rw[h4]at h;cases h
    |false=>
     have h1:=of_decide_eq_false h1;have h2:=of_decide_eq_false h2;rw[gG,Bool.or_eq_false_iff,decide_eq_false_iff_not,decide_eq_false_iff_not]at h3;exact⟨by omega,by omega,by simpa using h4,by omega,by omega⟩
theorem nM{b:List Int}(hb:mK b)(h:bI b=0):mK (midD b)∧(midD b).length=b.length-10:=by
 obtain⟨h1,h2,_⟩:=rX h;have hm:(midD b).length=b.length-10:=by rw[EF h1 (by omega),List.length_take,List.length_drop];omega
 exact⟨⟨by omega,fun x hx=>hb.all x (Rz hx)⟩,hm⟩
abbrev nD:SV:=.agg [.raw (.slice none 0 0)]
theorem ET:bY Try.prog 21=true:=by kernel_rfl
theorem Ri(xs:List ah)(us:List Value)(hok:jY xs)(h:(bZ xs).length+10≤60000):aC Try.prog 23 [.agg [.sl 10000]] [.row 10000 64 5 aV xs us] (.tup [.sl 10001,.int .i64 0]) (tB 10001 (bJ 1 (bZ xs))++[.row 10000 64 5 aV xs us]):=
 aC.Jo (r2:=.tup [.sl 10001,.int .i64 0]) (ts2:=tB 10001 (bJ 1 (bZ xs))) aS [25] wZ (Ob xs hok h) rfl rfl rfl
theorem Rj(xs:List ah)(us:List Value)(hok:jY xs)(h:60000<(bZ xs).length+10):aC Try.prog 23 [.agg [.sl 10000]] [.row 10000 64 5 aV xs us] (.tup [.raw (.slice none 0 0),.int .i64 4]) [.row 10000 64 5 aV xs us]:=
 aC.Jo (r2:=.tup [.raw (.slice none 0 0),.int .i64 4]) (ts2:=[]) aS [25] wZ (Mh xs hok h) rfl rfl rfl
section
variable (b:List Int)(hb:mK b)
abbrev dArgs(b:List Int):List SV:=[.rsl bn b,.int .i64 1,.fn 22 [],.fn 23 []]
include hb
theorem WK(h:bI b≠0):aC Try.prog 21 (dArgs b) [] (.tup [nD,.int .i64 (bI b)]) []:=by
 have hR:=yU b hb.len;rw[show(bI b==0)=false by simpa using h]at hR;have hR:aC Try.prog 38 [.rsl bn b] [] (.tup [.int .i64 0,.raw (.slice none 0 0),.int .i64 (bI b)]) []:=hR;refine aC.intro (nt:=59) aS mixed ET Try.func21 rfl rfl rfl rfl rfl rfl ?_;refine Or.inr (eI _ (eI _ (aI hR ?_)));refine aI (fun _=> ?_) (fun q=>by have q:(bI b !=0)=false:=q;exact absurd (by simpa using q) h);exact fin [] (aI rfl trivial)
theorem WL(h:bI b=0)(hk:elt 0 b 5≠1):aC Try.prog 21 (dArgs b) [] (.tup [nD,.int .i64 14]) []:=by
 have hR:=yU b hb.len;rw[show(bI b==0)=true by simpa using h]at hR;have hR:aC Try.prog 38 [.rsl bn b] [] (.tup [.int .i64 (IntKind.i64.wrap (elt 0 b 5)),.rsl bn (midD b),.int .i64 0]) []:=hR;refine aC.intro (nt:=59) aS mixed ET Try.func21 rfl rfl rfl rfl rfl rfl ?_;refine Or.inr (eI _ (eI _ (aI hR ?_)));refine aI (fun q=>absurd q (by decide)) (fun _=> ?_);refine aI (fun _=> ?_) (fun q=>by have q:(IntKind.i64.wrap (elt 0 b 5) !=1)=false:=q;rw[Gx (hb.elt 5)]at q;exact absurd (by simpa using q) hk);exact fin [] (aI rfl trivial)
theorem Ta(hk:elt 0 b 5=1):(IntKind.i64.wrap (elt 0 b 5) !=1)=false:=by rw[Gx (hb.elt 5),hk];rfl
theorem WM(h:bI b=0)(hk:elt 0 b 5=1)(hbad:(jP (midD b) (0,false)).2.2=true):aC Try.prog 21 (dArgs b) [] (.tup [nD,.int .i64 14]) []:=by
 have hR:=yU b hb.len;rw[show(bI b==0)=true by simpa using h]at hR;have hR:aC Try.prog 38 [.rsl bn b] [] (.tup [.int .i64 (IntKind.i64.wrap (elt 0 b 5)),.rsl bn (midD b),.int .i64 0]) []:=hR;have hN:=RB (midD b) (nM hb h).1 (0,false) (Nat.zero_le _);have hk1:=Ta b hb hk;refine aC.intro (nt:=59) aS mixed ET Try.func21 rfl rfl rfl rfl rfl rfl ?_;refine Or.inr (eI _ (eI _ (aI hR ?_)));refine aI (fun q=>absurd q (by decide)) (fun _=> ?_);refine aI (fun q=>absurd (hk1.symm.trans q) (by decide)) (fun _=> ?_);refine Or.inr (eI _ (eI _ (aI hN ?_)))
 refine aI (fun _=> ?_) (fun q=>by have q:(jP (midD b) (0,false)).2.2=false:=q;rw[hbad]at q;cases q);exact fin [] (aI rfl trivial)
theorem Xc{cs:List Int}{s:Dp}(h:(jP cs s).2.2=false):jY (jP cs s).1:=by
 unfold jP at h ⊢;have h:((rM cs (bF (iI cs s).1) (iI cs s).1 [] (iI cs s).2).2.2|| !gW (gN (rM cs (bF (iI cs s).1) (iI cs s).1 [] (iI cs s).2).1))=false:=h;rw[Bool.or_eq_false_iff]at h;exact K3 (by simpa using h.2)
theorem U2(h:bI b=0)(hk:elt 0 b 5=1)(hbad:(jP (midD b) (0,false)).2.2=false):aC Try.prog 21 (dArgs b) [] (bif decide (bJ 1 (bZ (jP (midD b) (0,false)).1)=b)then .tup [.agg [.sl 10000],.int .i64 0]else .tup [nD,.int .i64 14]) (bif decide (bJ 1 (bZ (jP (midD b) (0,false)).1)=b)then[.row 10000 64 5 aV (jP (midD b) (0,false)).1 []]else[]):=by
 have hR:=yU b hb.len;rw[show(bI b==0)=true by simpa using h]at hR;have hR:aC Try.prog 38 [.rsl bn b] [] (.tup [.int .i64 (IntKind.i64.wrap (elt 0 b 5)),.rsl bn (midD b),.int .i64 0]) []:=hR;have hN:=RB (midD b) (nM hb h).1 (0,false) (Nat.zero_le _);have hk1:=Ta b hb hk;have hok:=Xc b hb hbad;have hc:=rX h;have hbl:=hb.len;obtain⟨X,hX⟩:∃X,X=(jP (midD b) (0,false)).1:=⟨_,rfl⟩;rw[←hX]at hN hok ⊢;refine aC.intro (nt:=59) aS mixed ET Try.func21 rfl rfl rfl rfl rfl rfl ?_;refine Or.inr (eI _ (eI _ (aI hR ?_)))
 refine aI (fun q=>absurd q (by decide)) (fun _=> ?_);refine aI (fun q=>absurd (hk1.symm.trans q) (by decide)) (fun _=> ?_);refine Or.inr (eI _ (eI _ (aI hN ?_)));refine aI (fun q=>by have q:(jP (midD b) (0,false)).2.2=true:=q;rw[hbad]at q;cases q) (fun _=> ?_)
 by_cases hl:(bZ X).length+10≤60000
 ·have hE:aC Try.prog 39 [.sl 10000,.rsl bn b] (tB 10000 (bJ 1 (bZ X))) (.bool (decide (bJ 1 (bZ X)=b))) (tB 10000 (bJ 1 (bZ X))):=
   aC.Cg aS [22,22] Lc (U5 _ _ (by rw[lZ];omega)) rfl
  refine Or.inr (eI _ (eI _ (aI (Ri X [] hok hl) ?_)));refine Or.inr (aI (fun _=> ?_) (fun gg=>absurd gg (by decide)));refine eI _ (eI _ (aI hE ?_));refine aI (fun q=> ?_) (fun q=> ?_)
  ·have q:(!decide (bJ 1 (bZ X)=b))=true:=q;have e:decide (bJ 1 (bZ X)=b)=false:=by simpa using q
   rw[e];exact fin [] (aI rfl trivial)
  ·have q:(!decide (bJ 1 (bZ X)=b))=false:=q;have e:decide (bJ 1 (bZ X)=b)=true:=by simpa using q
   rw[e];exact fin [(10000,37)] (aI rfl ⟨⟨rfl,nP⟩,trivial⟩)
 ·have e:decide (bJ 1 (bZ X)=b)=false:=decide_eq_false fun e=>by
   have:=congrArg List.length e;rw[lZ]at this;omega
  rw[e];refine Or.inr (eI _ (eI _ (aI (Rj X [] hok (by omega)) ?_)));refine Or.inl (eI (.bool false) (aI (fun gg=>absurd gg (by decide)) ?_));refine aI (fun _=> ?_) (fun q=>absurd q (by decide));exact fin [] (aI rfl trivial)
end
end Go.Proofs.Ytdpclbjjmhkgiaa
namespace Go.Proofs.Ytdpclbjjmhkgiaa
open Go Go.RowKit Go.Proofs Go.Tr
theorem FP{fb fn:Dp→Int×Dp}{fd:Nat→Dp→List Int×Dp}{e:aB}{B:Dp→Prop}(hb:∀s,B s→B (fb s).2)(hn:∀s,B s→B (fn s).2)(hd:∀n s,B s→B (fd n s).2){s:Dp}(h1:B (fb s).2):B (uw fb fn fd e s).2:=by
 have h2:B (o7 fb (fb s).1 (fb s).2).2:=by unfold o7;cases aG (fb s).1 with|true=>exact hb _ h1|false=>exact h1
 have h3:B (pV fn (fb s).1 (o7 fb (fb s).1 (fb s).2).2).2:=by unfold pV;cases aM (fb s).1 with|true=>exact hn _ h2|false=>exact h2
 have h4:B (qG fb (fb s).1 (pV fn (fb s).1 (o7 fb (fb s).1 (fb s).2).2).2).2:=by
  unfold qG;cases (fb s).1==8 with
  |true=>exact h3
  |false=>
   cases (fb s).1==10 with
   |true=>exact hb _ h3
   |false=>cases (fb s).1==11 with|true=>exact h3|false=>exact h3
 have h5:=hd (qG fb (fb s).1 (pV fn (fb s).1 (o7 fb (fb s).1 (fb s).2).2).2).1.toNat _ h4;show B (sD fb (fb s).1 _).2;unfold sD;cases (fb s).1==9 with|true=>exact hb _ h5|false=>exact h5
theorem wI{cs:List Int}{s:Dp}(h:s.2=true):(gK cs s).2.2=true:=by unfold gK;rw[h];rfl
theorem K6{cs:List Int}:∀{f j:Nat} {z:Int} {s:Dp},s.2=true→(IC cs f j z s).2.2=true
 |0,_,_,_,_=>rfl
 |f+1,j,z,s,h=>by
  unfold IC;cases decide ((gK cs s).1<128)with
  |true=>show((gK cs s).2.2||_||_)=true;rw[wI h];rfl
  |false=>exact K6 (wI h)
theorem K8{cs:List Int}{s:Dp}(h:s.2=true):(iE cs s).2.2=true:=K6 h
theorem Al{cs:List Int}{s:Dp}(h:s.2=true):∀n,(bO cs n s).2.2=true
 |0=>h
 |n+1=>by
  have ih:=Al (cs:=cs) h n;unfold bO;rw[ih];exact ih
theorem K7{cs:List Int}:∀{f j:Nat} {z:Int} {s:Dp},s.1≤(IC cs f j z s).2.1
 |0,_,_,_=>Nat.le_refl _
 |f+1,j,z,s=>by
  have h1:=(Dw (cs:=cs) s).2;unfold IC;cases decide ((gK cs s).1<128)with
  |true=>exact h1
  |false=>exact Nat.le_trans h1 K7
theorem K9{cs:List Int}(s:Dp):s.1≤(iE cs s).2.1:=K7
theorem Kt{cs:List Int}(s:Dp):∀n,s.1≤(bO cs n s).2.1
 |0=>Nat.le_refl _
 |n+1=>by
  have ih:=Kt (cs:=cs) s n;unfold bO;cases (bO cs n s).2.2 with
  |true=>exact ih
  |false=>exact Nat.le_trans ih (K9 _)
theorem JZ{cs:List Int}(s:Dp):(gK cs s).2.1≤(gV cs s).2.1:=FP (B:=fun t:Dp=>(gK cs s).2.1≤t.1) (fun t h=>Nat.le_trans h (Dw t).2) (fun t h=>Nat.le_trans h (K9 t)) (fun n t h=>Nat.le_trans h (Kt t n)) (Nat.le_refl _)
theorem Ub{cs:List Int}{s:Dp}(h:(gV cs s).2.2=false):s.2=false∧s.1+1≤(gV cs s).2.1:=by
 have h1:(gK cs s).2.2=false:=by
  cases hb:(gK cs s).2.2 with
  |false=>rfl
  |true=>
   have:=FP (fb:=gK cs) (fn:=iE cs) (fd:=bO cs) (e:=(-1,0)) (B:=fun s:Dp=>s.2=true) (fun _ h=>wI h) (fun _ h=>K8 h) (fun n _ h=>Al h n) hb;rw[show(uw (gK cs) (iE cs) (bO cs) (-1,0) s).2.2=(gV cs s).2.2 from rfl,h]at this;cases this
 have h2:=JZ (cs:=cs) s;unfold gK at h1 h2;cases hc:(s.2|| !decide (s.1<cs.length))with
 |true=>rw[hc]at h1;cases h1
 |false=>
  rw[hc]at h2;rw[Bool.or_eq_false_iff]at hc;exact⟨hc.1,h2⟩
theorem Lv{cs:List Int}(a0:ah)(s:Dp):∀j,(dS (gV cs) a0 j s).1.length+s.1≤(dS (gV cs) a0 j s).2.1+2∧((dS (gV cs) a0 j s).2.2=false→(dS (gV cs) a0 j s).1.length+s.1≤(dS (gV cs) a0 j s).2.1+1)
 |0=>by show 1+s.1≤s.1+2∧(_→1+s.1≤s.1+1);exact⟨by omega,fun _=>by omega⟩
 |j+1=>by
  have ih:=Lv (cs:=cs) a0 s j;unfold dS;cases hb:(dS (gV cs) a0 j s).2.2 with
  |true=>
   refine⟨ih.1,fun h=> ?_⟩;rw[show(bif true then dS (gV cs) a0 j s else _)=dS (gV cs) a0 j s from rfl,hb]at h;cases h
  |false=>
   have h1:=ih.2 hb;have hp:(dS (gV cs) a0 j s).2.1≤(gV cs (dS (gV cs) a0 j s).2).2.1:=Nat.le_trans (Dw (cs:=cs) _).2 (JZ _);show((dS (gV cs) a0 j s).1++[_]).length+s.1≤(gV cs (dS (gV cs) a0 j s).2).2.1+2∧((gV cs (dS (gV cs) a0 j s).2).2.2=false→((dS (gV cs) a0 j s).1++[_]).length+s.1≤(gV cs (dS (gV cs) a0 j s).2).2.1+1);rw[List.length_append,List.length_singleton];refine⟨by omega,fun h=> ?_⟩;have:=(Ub h).2;omega
theorem Bp{f:Dp→ah×Dp}{a0:ah}{s:Dp}:∀{j:Nat},(dS f a0 j s).2.2=false→(dS f a0 j s).1.length=j+1
 |0,_=>rfl
 |j+1,h=>by
  unfold dS at h ⊢;cases hb:(dS f a0 j s).2.2 with
  |true=>rw[hb]at h;rw[show(bif true then dS f a0 j s else _)=dS f a0 j s from rfl,hb]at h;cases h
  |false=>show((dS f a0 j s).1++[_]).length=_;rw[List.length_append,Bp hb];rfl
def dO:ah:=(1,0,0,[],[(-1,0)])
def lg(cs:List Int)(s:Dp):List ah×Dp:=dS (gV cs) dO ((iE cs s).1.toNat-1) (iE cs s).2
theorem PN{cs:List Int}{s:Dp}(h:s.1≤cs.length)(j:Nat):(∀a∈(dS (gV cs) dO j s).1,a.2.2.2.2.length≤4)∧(dS (gV cs) dO j s).2.1≤cs.length:=
 Fa (A:=fun a=>a.2.2.2.2.length≤4) (B:=fun s:Dp=>s.1≤cs.length) (by decide) (fun s h=>Uc h) h j
def zW(cs:List Int):List aB→List ah→Dp→Option (List ah)×Dp
 |[],xs,s=>(some xs,s)
 |p::ps,xs,s=>bif decide (0≤(aD xs p).1)then zW cs ps xs s else
   let n:=iE cs s
   let b:=gK cs n.2
   bif ((b.2.2|| !hasB xs (n.1,b.1))||bV [n.1,b.1] [p.1,p.2])||decide (0≤(aD xs (n.1,b.1)).1)then(none,(b.2.1,true))else zW cs ps (bf xs p (n.1,b.1)) b.2
def xX(cs:List Int)(s:Dp):Bool:=((lg cs s).2.2||decide ((iE cs s).1<1))|| !bP (gN (lg cs s).1).agents
def yh(cs:List Int)(s:Dp):Option (List ah)×Dp:=bif xX cs s then(none,((lg cs s).2.1,true))else zW cs (bF (lg cs s).1) (lg cs s).1 (lg cs s).2
def XB:Option (List ah)→SV
 |none=>nD
 |some _=>.agg [.sl 10001]
def XO:Option (List ah)→List Tok
 |none=>[]
 |some xs=>[.row 10001 64 5 aV xs []]
theorem Uf(xs:List ah)(us:List Value)(h:FL xs):aC Try.prog 33 [.sl 10000] [.row 10000 64 5 aV xs us] (.bool (bP (gN xs).agents)) [.row 10000 64 5 aV xs us]:=
 aC.Cg aS [23] Pg (X9 xs h) rfl
theorem Xp(xs:List ah)(us:List Value)(h:uQ xs)(p:aB):aC Try.prog 35 [.sl 10000,vP p] [.row 10000 64 5 aV xs us] (.bool (hasB xs p)) [.row 10000 64 5 aV xs us]:=
 aC.Cg aS [23,60] Lf (Xo xs h p) rfl
theorem Eh(i:Nat)(S:List aB)(k:Nat):∀m,zK (fun _=>false) i k S<+:zK (fun _=>false) i (k+m) S
 |0=>pR _
 |m+1=>by
  rw[←Nat.add_assoc,Ef];exact(Eh i S k m).trans (List.prefix_append _ _)
theorem KE(xs:List ah)(i:Nat):∀m,sG (fun _=>false) xs i<+:sG (fun _=>false) xs (i+m)
 |0=>pR _
 |m+1=>by
  rw[←Nat.add_assoc,sG];have:=Eh (i+m) (sG (fun _=>false) xs (i+m)) 0 (ak xs ((i+m:Nat):Int)).2.2.2.2.length;rw[Nat.zero_add]at this;exact(KE xs i m).trans this
theorem Pz{xs:List ah}{i k:Nat}(hi:i<xs.length)(hk:k<(ak xs (i:Nat)).2.2.2.2.length):(bF xs).drop (zK (fun _=>false) i k (sG (fun _=>false) xs i)).length=(((i:Nat):Int),((k:Nat):Int))::(bF xs).drop (zK (fun _=>false) i (k+1) (sG (fun _=>false) xs i)).length:=by
 have h1:=Eh i (sG (fun _=>false) xs i) (k+1) ((ak xs (i:Nat)).2.2.2.2.length-(k+1));rw[show k+1+((ak xs (i:Nat)).2.2.2.2.length-(k+1))=(ak xs (i:Nat)).2.2.2.2.length by omega]at h1;have h2:=KE xs (i+1) (xs.length-(i+1));rw[show i+1+(xs.length-(i+1))=xs.length by omega]at h2;have h3:zK (fun _=>false) i (k+1) (sG (fun _=>false) xs i)<+:bF xs:=h1.trans h2;rw[Ef]at h3 ⊢;obtain⟨t,ht⟩:=h3;rw[←ht,List.drop_left,List.append_assoc,List.drop_left];rfl
theorem RL(xs:List ah):(bF xs).drop (sG (fun _=>false) xs xs.length).length=[]:=List.drop_length
structure QH(x0 xs:List ah):Prop where
 len:xs.length=x0.length
 prt:∀i:Int,(ak xs i).2.2.2.2.length=(ak x0 i).2.2.2.2.length
theorem QH.link{x0 xs:List ah}(h:QH x0 xs)(p q:aB):QH x0 (bf xs p q):=⟨by rw[eG,h.len],fun i=>by rw[Bn,h.prt]⟩
theorem QH.sm{x0 xs:List ah}(h:QH x0 xs)(hs:uQ x0):uQ xs:=⟨by rw[h.len];exact hs.1,fun i hi=>by rw[h.prt];exact hs.2 i (by rw[←h.len];exact hi)⟩
theorem Vf(cs:List Int)(hb:mK cs)(hc6:cs.length≤60000)(s:Dp)(hs:s.1≤cs.length):aC Try.prog 19 [.ptr 10000 0] [cR cs s] (XB (yh cs s).1) (cR cs (yh cs s).2 ::XO (yh cs s).1):=by
 have hw1:=tu cs hb s (by omega);have hs1:(iE cs s).2.1≤cs.length:=nE hs;have hat:=fun j=>PN hs1 j
 have hln:=fun j=>Lv (cs:=cs) dO (iE cs s).2 j
 obtain⟨c,hc⟩:∃c,c=(iE cs s).1:=⟨_,rfl⟩;obtain⟨S,hS⟩:∃S,S=(iE cs s).2:=⟨_,rfl⟩;have hag:lg cs s=dS (gV cs) dO (c.toNat-1) S:=by rw[hc,hS];rfl
 have hbd:xX cs s=(((lg cs s).2.2||decide (c<1))|| !bP (gN (lg cs s).1).agents):=by rw[hc];rfl
 rw[←hc,←hS]at hw1;rw[←hS]at hs1;refine aC.intro (nt:=129) aS mixed (by kernel_rfl) Try.func19 rfl rfl rfl rfl rfl rfl ?_;refine Or.inr (eI _ (eI _ (aI hw1 ?_)));refine lp Nat (fun j=>[(5,.int .i64 ((1+j:Nat):Int))]) (fun j=>[.bT 2 25 [.raw (.slice none 0 0)],.bT 4 25 [.sl 20000],cR cs (dS (gV cs) dO j S).2,.row 20000 64 5 aV (dS (gV cs) dO j S).1 []]) (fun j=>c.toNat-j) (fun j=>j≤c.toNat-1) 0 (Nat.zero_le _) ?_ ?_
 ·exact Go.Tr.hd [(20000,15)] rfl (aI ⟨rfl,rfl⟩ trivial) ⟨trivial,⟨rfl,trivial⟩,trivial,⟨rfl,trivial⟩,trivial,⟨rfl,⟨rfl,rfl⟩,rfl,trivial⟩,⟨rfl,nP⟩,trivial⟩
 intro j hj;have hat:=hat j;have hln:=hln j;rw[←hS]at hat hln;refine aI (fun q=> ?_) (fun q=> ?_)
 ·have q:(bif decide (((1+j:Nat):Int)<c)then !(dS (gV cs) dO j S).2.2 else false)=true:=q;rw[aY,Bool.and_eq_true,decide_eq_true_eq]at q;have hnb:(dS (gV cs) dO j S).2.2=false:=by simpa using q.2
  have hlt:1+j<c.toNat:=by omega
  have hl2:=hln.2 hnb;have e:dS (gV cs) dO (j+1) S=((dS (gV cs) dO j S).1++[(gV cs (dS (gV cs) dO j S).2).1],(gV cs (dS (gV cs) dO j S).2).2):=by rw[dS,hnb];rfl
  have e2:=congrArg Prod.fst e;have e3:=congrArg Prod.snd e;have hjl:=Bp hnb;refine Or.inr (eI _ (eI _ (aI (X8 cs hb _ hat.2) ?_)));refine aI (by show(dS (gV cs) dO j S).1.length+1≤_;omega) ?_;refine aI (by kernel_rfl) ?_;refine aK (j+1) (by show j+1≤c.toNat-1;omega) ?_ (by show c.toNat-(j+1)<c.toNat-j;omega);exact Go.Tr.hd [(20000,34)] rfl (aI ⟨by show IntKind.i64.wrap (((1+j:Nat):Int)+1)=((1+(j+1):Nat):Int);rw[IntWalk.i64_in _ (by omega)];omega,rfl⟩ trivial) ⟨trivial,⟨rfl,trivial⟩,trivial,⟨rfl,trivial⟩,trivial,⟨rfl,⟨congrArg (fun s:Dp=>((s.1:Nat):Int)) e3.symm,rfl⟩,congrArg Prod.snd e3.symm,trivial⟩,⟨e2.symm,nP⟩,trivial⟩
 have q:(bif decide (((1+j:Nat):Int)<c)then !(dS (gV cs) dO j S).2.2 else false)=false:=q;rw[aY,Bool.and_eq_false_iff,decide_eq_false_iff_not]at q
 have hfin:lg cs s=dS (gV cs) dO j S:=by
  rw[hag];rcases q with q|q'
  ·rw[show c.toNat-1=j by omega]
  ·have hB:(dS (gV cs) dO j S).2.2=true:=by simpa using q'
   have:=xA hB (c.toNat-1-j)
   rwa[show j+(c.toNat-1-j)=c.toNat-1 by omega]at this
 have hsm:uQ (dS (gV cs) dO j S).1:=Lm (by omega) hat.1;have hlo:FL (dS (gV cs) dO j S).1:=⟨by have:=hsm.1;omega,fun i hi=>by have:=hsm.2 i hi;omega⟩;have hge:yh cs s=bif xX cs s then(none,((dS (gV cs) dO j S).2.1,true))else zW cs (bF (dS (gV cs) dO j S).1) (dS (gV cs) dO j S).1 (dS (gV cs) dO j S).2:=by unfold yh;rw[hfin]
 rw[hfin]at hbd;have hcA:(bif (dS (gV cs) dO j S).2.2 then true else decide (c<1))=((dS (gV cs) dO j S).2.2||decide (c<1)):=gG _ _;cases hA:((dS (gV cs) dO j S).2.2||decide (c<1))with
 |true=>
  have hB:xX cs s=true:=by rw[hbd,hA];rfl
  rw[hA]at hcA;rw[hge,hB];refine Or.inr (aI (fun gg=>absurd gg (by show ¬(!(bif (dS (gV cs) dO j S).2.2 then true else decide (c<1)))=true;rw[hcA];decide)) (fun _=> ?_));refine eI (.bool false) ?_;refine aI (fun _=> ?_) (fun q=>by have q:(bif (bif (dS (gV cs) dO j S).2.2 then true else decide (c<1))then true else !false)=false:=q;rw[hcA]at q;cases q);exact fin [] (aI rfl ⟨trivial,⟨rfl,⟨rfl,rfl⟩,rfl,trivial⟩,trivial⟩)
 |false=>
 rw[hA]at hcA;have hnb:(dS (gV cs) dO j S).2.2=false:=by rw[Bool.or_eq_false_iff]at hA;exact hA.1
 refine Or.inr (aI (fun _=> ?_) (fun gg=>absurd gg (by show ¬(!(bif (dS (gV cs) dO j S).2.2 then true else decide (c<1)))=false;rw[hcA];decide)));refine eI _ (eI _ (aI (Uf _ [] hlo) ?_));rw[hA]at hbd;refine aI (fun q2=> ?_) (fun q2=> ?_)
 ·have q2:(bif (bif (dS (gV cs) dO j S).2.2 then true else decide (c<1))then true else !bP (gN (dS (gV cs) dO j S).1).agents)=true:=q2;rw[hcA]at q2;have q2:(!bP (gN (dS (gV cs) dO j S).1).agents)=true:=q2;have hB:xX cs s=true:=by rw[hbd,q2];rfl
  rw[hge,hB];exact fin [] (aI rfl ⟨trivial,⟨rfl,⟨rfl,rfl⟩,rfl,trivial⟩,trivial⟩)
 have q2:(bif (bif (dS (gV cs) dO j S).2.2 then true else decide (c<1))then true else !bP (gN (dS (gV cs) dO j S).1).agents)=false:=q2;rw[hcA]at q2;have q2:(!bP (gN (dS (gV cs) dO j S).1).agents)=false:=q2;have hB:xX cs s=false:=by rw[hbd,q2];rfl
 obtain⟨x0,hx0⟩:∃x0,x0=(dS (gV cs) dO j S).1:=⟨_,rfl⟩;obtain⟨R,hR⟩:∃R,R=zW cs (bF x0) x0 (dS (gV cs) dO j S).2:=⟨_,rfl⟩;rw[hB,←hx0,←hR]at hge;have hge:yh cs s=R:=hge;rw[←hx0]at hsm;rw[hge];have hsm1:=hsm.1;refine lp (Nat×List ah×Dp) (fun z=>[(6,.int .i64 (z.1:Nat))]) (fun z=>[.bT 2 25 [.raw (.slice none 0 0)],.bT 4 25 [.sl 20000],cR cs z.2.2,.row 20000 64 5 aV z.2.1 []]) (fun z=>x0.length-z.1) (fun z=>z.1≤x0.length∧QH x0 z.2.1∧z.2.2.2=false∧z.2.2.1≤cs.length∧zW cs ((bF x0).drop (sG (fun _=>false) x0 z.1).length) z.2.1 z.2.2=R) (0,(dS (gV cs) dO j S).1,(dS (gV cs) dO j S).2) ⟨Nat.zero_le _,by rw[hx0];exact⟨rfl,fun _=>rfl⟩,hnb,hat.2,by rw[hR,hx0];rfl⟩ ?_ ?_
 ·exact Go.Tr.hd [(20000,20000)] rfl (aI ⟨rfl,rfl⟩ trivial) ⟨trivial,⟨rfl,trivial⟩,trivial,⟨rfl,trivial⟩,trivial,⟨rfl,⟨rfl,rfl⟩,rfl,trivial⟩,⟨rfl,nP⟩,trivial⟩
 rintro⟨i,ys,t⟩ ⟨hi,hsa,htb,htl,hrun⟩;have hi:i≤x0.length:=hi;have hsa:QH x0 ys:=hsa;have hrun:zW cs ((bF x0).drop (sG (fun _=>false) x0 i).length) ys t=R:=hrun;have hyl:=hsa.len;refine aI (fun q1=> ?_) (fun q1=> ?_)
 ·have hlt:i<ys.length:=qM q1;have hp4:=hsm.2 i (by omega);refine lpG (Nat×List ah×Dp) (fun z=>[(7,.int .i64 (z.1:Nat))]) (fun z=>[.bT 2 25 [.raw (.slice none 0 0)],.bT 4 25 [.sl 20000],cR cs z.2.2,.row 20000 64 5 aV z.2.1 []]) (fun z=>(ak x0 (i:Nat)).2.2.2.2.length-z.1) (fun z=>z.1≤(ak x0 (i:Nat)).2.2.2.2.length∧QH x0 z.2.1∧z.2.2.2=false∧z.2.2.1≤cs.length∧zW cs ((bF x0).drop (zK (fun _=>false) i z.1 (sG (fun _=>false) x0 i)).length) z.2.1 z.2.2=R) (0,ys,t) (fun(z:Nat×List ah×Dp)=>gT 20000 ([.bT 2 25 [.raw (.slice none 0 0)],.bT 4 25 [.sl 20000],cR cs z.2.2,.row 20000 64 5 aV z.2.1 []])) (exB 20000 (fun(z:Nat×List ah×Dp)=>[.bT 2 25 [.raw (.slice none 0 0)],.bT 4 25 [.sl 20000],cR cs z.2.2,.row 20000 64 5 aV z.2.1 []])) ⟨Nat.zero_le _,hsa,htb,htl,hrun⟩ ?_ ?_
  ·exact Go.Tr.hd [(20000,20000)] rfl (aI ⟨rfl,rfl⟩ trivial) ⟨trivial,⟨rfl,trivial⟩,trivial,⟨rfl,trivial⟩,trivial,⟨rfl,⟨rfl,rfl⟩,rfl,trivial⟩,⟨rfl,nP⟩,trivial⟩
  have hi0:i<x0.length:=by omega
  clear hsa htb htl hrun hyl hlt q1;rintro⟨k,xs,s0⟩ ⟨hk,hsa,hsb,hsl,hrun⟩;have hk:k≤(ak x0 (i:Nat)).2.2.2.2.length:=hk;have hsa:QH x0 xs:=hsa;have hsb:s0.2=false:=hsb;have hsl:s0.1≤cs.length:=hsl;have hrun:zW cs ((bF x0).drop (zK (fun _=>false) i k (sG (fun _=>false) x0 i)).length) xs s0=R:=hrun;have hxl:=hsa.len;have hxp:=hsa.prt (i:Nat);refine aI (fun _=> ?_) (fun e=>absurd rfl e);intro us _ hus;have hus:us.length=xs.length*5:=hus;have hil:i<xs.length:=by omega
  have hix:(0:Int)≤((i:Nat):Int)∧((i:Nat):Int)<((xs.length:Nat):Int):=by omega
  refine aI hix ?_;refine aI (Dn hus hix.1 hix.2) ?_;refine aI (fun q2=> ?_) (fun q2=> ?_)
  ·have q2:(bif decide (((k:Nat):Int)<(((ak xs ((i:Nat):Int)).2.2.2.2.length:Nat):Int))then !s0.2 else false)=true:=q2;rw[hxp,aY,Bool.and_eq_true,decide_eq_true_eq]at q2;have hkl:k<(ak x0 (i:Nat)).2.2.2.2.length:=by omega
   have hkx:(0:Int)≤((k:Nat):Int)∧((k:Nat):Int)<(((ak xs ((i:Nat):Int)).2.2.2.2.length:Nat):Int):=by rw[hxp];omega
   have hme:aj xs (((i:Nat):Int),((k:Nat):Int)):=⟨hix.1,hix.2,hkx.1,hkx.2⟩;rw[Pz hi0 hkl]at hrun;refine aI hix ?_;refine aI (Dn hus hix.1 hix.2) ?_;refine aI hkx ?_;refine eI 20000 (aI ⟨⟨hix.1,hix.2,BL hus hix.1 hix.2 (by decide)⟩,hkx.1,hkx.2⟩ ?_);refine aI (fun q3=> ?_) (fun q3=> ?_)
   ·have q3:decide (0≤(aD xs (((i:Nat):Int),((k:Nat):Int))).1)=true:=q3;rw[zW,q3]at hrun;refine GK (k+1,xs,s0) ⟨hkl,hsa,hsb,hsl,hrun⟩ ?_ (by show(ak x0 (i:Nat)).2.2.2.2.length-(k+1)<(ak x0 (i:Nat)).2.2.2.2.length-k;omega);exact Go.Tr.hd [] rfl (aI ⟨bD (by omega),rfl⟩ trivial) ⟨trivial,⟨rfl,trivial⟩,trivial,⟨rfl,trivial⟩,trivial,⟨rfl,⟨rfl,rfl⟩,rfl,trivial⟩,⟨rfl,nP⟩,trivial⟩
   have q3:decide (0≤(aD xs (((i:Nat):Int),((k:Nat):Int))).1)=false:=q3;rw[zW,q3]at hrun;have hw1:=tu cs hb s0 (by omega);have hz1:=nE (cs:=cs) hsl;obtain⟨n,s1,e1⟩:∃n s1,iE cs s0=(n,s1):=⟨_,_,rfl⟩;rw[e1]at hw1 hz1 hrun;have hz1:s1.1≤cs.length:=hz1;have hw2:=pX cs hb s1 (by omega);have hz2:=gM (cs:=cs) hz1;have hrun:(bif (((gK cs s1).2.2|| !hasB xs (n,(gK cs s1).1))||bV [n,(gK cs s1).1] [((i:Nat):Int),((k:Nat):Int)])||decide (0≤(aD xs (n,(gK cs s1).1)).1)then(none,((gK cs s1).2.1,true))else zW cs ((bF x0).drop (zK (fun _=>false) i (k+1) (sG (fun _=>false) x0 i)).length) (bf xs (((i:Nat):Int),((k:Nat):Int)) (n,(gK cs s1).1)) (gK cs s1).2)=R:=hrun
   obtain⟨b,s2,e2⟩:∃b s2,gK cs s1=(b,s2):=⟨_,_,rfl⟩;rw[e2]at hw2 hz2 hrun;have hz2:s2.1≤cs.length:=hz2;have hrun:(bif ((s2.2|| !hasB xs (n,b))||bV [n,b] [((i:Nat):Int),((k:Nat):Int)])||decide (0≤(aD xs (n,b)).1)then(none,(s2.1,true))else zW cs ((bF x0).drop (zK (fun _=>false) i (k+1) (sG (fun _=>false) x0 i)).length) (bf xs (((i:Nat):Int),((k:Nat):Int)) (n,b)) s2)=R:=hrun;have hpx:=hsa.sm hsm;refine Or.inr (eI _ (eI _ (aI hw1 ?_)));refine Or.inr (eI _ (eI _ (aI hw2 ?_)));cases hc1:s2.2 with
   |true=>
    rw[hc1]at hrun;have hrun:(none,(s2.1,true))=R:=hrun;refine Or.inr (aI (fun gg=>absurd gg (by show ¬(!s2.2)=true;rw[hc1];decide)) (fun _=> ?_));refine eI (.bool false) ?_;refine aI (fun _=>⟨by kernel_rfl,rfl⟩) ?_;refine Or.inr (aI (fun gg=>absurd gg (by show ¬(!(bif (bif s2.2 then true else !false)then true else bV [n,b] [((i:Nat):Int),((k:Nat):Int)]))=true;rw[hc1];exact fun h=>by cases h)) (fun _=> ?_));refine eI (vP (0,0)) ?_;refine eI 0 (aI (fun _=>by kernel_rfl) (eI _ (aI rfl ?_)));refine aI (fun _=> ?_) (fun q=>by have q:(bif (bif (bif s2.2 then true else !false)then true else bV [n,b] [((i:Nat):Int),((k:Nat):Int)])then true else decide ((0:Int)≤0))=false:=q;rw[hc1]at q;cases q)
    rw[←hrun];exact fin [] (aI rfl ⟨trivial,⟨rfl,⟨rfl,rfl⟩,rfl,trivial⟩,trivial⟩)
   |false=>
   rw[hc1]at hrun;refine Or.inr (aI (fun _=> ?_) (fun gg=>absurd gg (by show ¬(!s2.2)=false;rw[hc1];decide)));refine eI _ (eI _ (aI (Xp xs us hpx (n,b)) ?_));refine aI (fun _=>⟨by kernel_rfl,rfl⟩) ?_;have hb3:(bif (bif s2.2 then true else !hasB xs (n,b))then true else bV [n,b] [((i:Nat):Int),((k:Nat):Int)])=(!hasB xs (n,b)||bV [n,b] [((i:Nat):Int),((k:Nat):Int)]):=by rw[hc1,gG,gG];rfl
   have hrun:(bif (!hasB xs (n,b)||bV [n,b] [((i:Nat):Int),((k:Nat):Int)])||decide (0≤(aD xs (n,b)).1)then(none,(s2.1,true))else zW cs ((bF x0).drop (zK (fun _=>false) i (k+1) (sG (fun _=>false) x0 i)).length) (bf xs (((i:Nat):Int),((k:Nat):Int)) (n,b)) s2)=R:=hrun;cases hc3:(!hasB xs (n,b)||bV [n,b] [((i:Nat):Int),((k:Nat):Int)])with
   |true=>
    rw[hc3]at hrun hb3;have hrun:(none,(s2.1,true))=R:=hrun;refine Or.inr (aI (fun gg=>absurd gg (by show ¬(!(bif (bif s2.2 then true else !hasB xs (n,b))then true else bV [n,b] [((i:Nat):Int),((k:Nat):Int)]))=true;rw[hb3];decide)) (fun _=> ?_));refine eI (vP (0,0)) ?_;refine eI 0 (aI (fun _=>by kernel_rfl) (eI _ (aI rfl ?_)));refine aI (fun _=> ?_) (fun q=>by have q:(bif (bif (bif s2.2 then true else !hasB xs (n,b))then true else bV [n,b] [((i:Nat):Int),((k:Nat):Int)])then true else decide ((0:Int)≤0))=false:=q;rw[hb3]at q;cases q)
    rw[←hrun];exact fin [] (aI rfl ⟨trivial,⟨rfl,⟨rfl,rfl⟩,rfl,trivial⟩,trivial⟩)
   |false=>
   rw[hc3]at hrun hb3;rw[Bool.or_eq_false_iff]at hc3;have hqi:aj xs (n,b):=sH.1 (by simpa using hc3.1);have hrun:(bif decide (0≤(aD xs (n,b)).1)then(none,(s2.1,true))else zW cs ((bF x0).drop (zK (fun _=>false) i (k+1) (sG (fun _=>false) x0 i)).length) (bf xs (((i:Nat):Int),((k:Nat):Int)) (n,b)) s2)=R:=hrun;refine Or.inr (aI (fun _=> ?_) (fun gg=>absurd gg (by show ¬(!(bif (bif s2.2 then true else !hasB xs (n,b))then true else bV [n,b] [((i:Nat):Int),((k:Nat):Int)]))=false;rw[hb3];decide)));refine eI _ (eI _ (aI (Xk xs us (n,b) hqi) ?_))
   refine eI 0 (aI (fun _=>by kernel_rfl) (eI _ (aI rfl ?_)));refine aI (fun q4=> ?_) (fun q4=> ?_)
   ·have q4:(bif (bif (bif s2.2 then true else !hasB xs (n,b))then true else bV [n,b] [((i:Nat):Int),((k:Nat):Int)])then true else decide (0≤(aD xs (n,b)).1))=true:=q4;rw[hb3]at q4;have q4:decide (0≤(aD xs (n,b)).1)=true:=q4;rw[q4]at hrun;rw[←show(none,(s2.1,true))=R from hrun];exact fin [] (aI rfl ⟨trivial,⟨rfl,⟨rfl,rfl⟩,rfl,trivial⟩,trivial⟩)
   ·have q4:(bif (bif (bif s2.2 then true else !hasB xs (n,b))then true else bV [n,b] [((i:Nat):Int),((k:Nat):Int)])then true else decide (0≤(aD xs (n,b)).1))=false:=q4;rw[hb3]at q4;have q4:decide (0≤(aD xs (n,b)).1)=false:=q4;rw[q4]at hrun;refine Or.inr (eI _ (eI _ (aI (Xa xs us (((i:Nat):Int),((k:Nat):Int)) (n,b) hme hqi) ?_)));refine GK (k+1,bf xs (((i:Nat):Int),((k:Nat):Int)) (n,b),s2) ⟨hkl,hsa.link _ _,hc1,hz2,hrun⟩ ?_ (by show(ak x0 (i:Nat)).2.2.2.2.length-(k+1)<(ak x0 (i:Nat)).2.2.2.2.length-k;omega)
    exact Go.Tr.hd [] rfl (aI ⟨bD (by omega),rfl⟩ trivial) ⟨trivial,⟨rfl,trivial⟩,trivial,⟨rfl,trivial⟩,trivial,⟨rfl,⟨rfl,rfl⟩,rfl,trivial⟩,⟨rfl,nP⟩,trivial⟩
  ·have q2:(bif decide (((k:Nat):Int)<(((ak xs ((i:Nat):Int)).2.2.2.2.length:Nat):Int))then !s0.2 else false)=false:=q2;rw[hxp,hsb,aY,Bool.and_eq_false_iff,decide_eq_false_iff_not]at q2
   have hke:k=(ak x0 (i:Nat)).2.2.2.2.length:=by
    rcases q2 with q2|q2
    ·omega
    ·cases q2
   subst hke;refine aK (i+1,xs,s0) ⟨hi0,hsa,hsb,hsl,hrun⟩ ?_ (by show x0.length-(i+1)<x0.length-i;omega);exact Go.Tr.hd [] rfl (aI ⟨bD (by omega),rfl⟩ trivial) ⟨trivial,⟨rfl,trivial⟩,trivial,⟨rfl,trivial⟩,trivial,⟨rfl,⟨rfl,rfl⟩,rfl,trivial⟩,⟨rfl,nP⟩,trivial⟩
 ·have hge:i=x0.length:=by have:ys.length≤i:=qI q1;omega
  subst hge;rw[RL]at hrun;rw[←show(some ys,t)=R from hrun];exact fin [(10001,20000)] (aI rfl ⟨trivial,⟨rfl,⟨rfl,rfl⟩,rfl,trivial⟩,⟨rfl,nP⟩,trivial⟩)
theorem Sc{b:List Int}(h:10≤b.length):∃x0 x1 x2 x3 x4 x5 m y0 y1 y2 y3,b=x0::x1::x2::x3::x4::x5::(m++[y0,y1,y2,y3]):=by
 match b,h with
 |x0::x1::x2::x3::x4::x5::r,h=>
  have hr:4≤r.length:=by simp only[List.length_cons]at h;omega
  have e:r=r.take (r.length-4)++r.drop (r.length-4):=(List.take_append_drop _ _).symm;have hd:(r.drop (r.length-4)).length=4:=by rw[List.length_drop];omega
  match hq:r.drop (r.length-4),hd with
  |[y0,y1,y2,y3],_=>exact⟨x0,x1,x2,x3,x4,x5,r.take (r.length-4),y0,y1,y2,y3,by rw[←hq,←e]⟩
  |[],hd=>simp at hd
  |[_],hd=>simp at hd
  |[_,_],hd=>simp at hd
  |[_,_,_],hd=>simp at hd
  |_::_::_::_::_::_,hd=>simp at hd
 |[],h=>simp at h
 |[_],h=>simp at h
 |[_,_],h=>simp at h
 |[_,_,_],h=>simp at h
 |[_,_,_,_],h=>simp at h
 |[_,_,_,_,_],h=>simp at h
theorem YJ(a b:Int):bits .xor .u32 a b=bits .xor .u32 b a:=by
 show IntKind.u32.wrap ((BitVec.ofInt 32 a ^^^ BitVec.ofInt 32 b).toNat:Nat)=IntKind.u32.wrap ((BitVec.ofInt 32 b ^^^ BitVec.ofInt 32 a).toNat:Nat);rw[BitVec.xor_comm]
theorem JV(a b:Int):0≤bits .xor .u32 a b∧bits .xor .u32 a b<4294967296:=by
 show 0≤IntKind.u32.wrap _∧IntKind.u32.wrap _<4294967296;unfold IntKind.wrap;simp[IntKind.signed,IntKind.bits];omega
theorem YO(x:Int):IntKind.u8.wrap x=x % 256:=by
 unfold IntKind.wrap;simp[IntKind.signed,IntKind.bits]
def IU(b:List Int):Int:=bits .xor .u32 (zo b b.length) 4294967295
theorem Si(b:List Int):BH b=IU b:=by
 unfold BH IU;rw[YJ];have:=JV (zo b b.length) 4294967295;exact IntWalk.i64_in _ (by omega)
theorem uE(k:Int)(cs:List Int):bJ k cs=hdF k cs++[IU (hdF k cs) % 256,IU (hdF k cs)/256 % 256,IU (hdF k cs)/65536 % 256,IU (hdF k cs)/16777216 % 256]:=by
 have h:=JV (zo (hdF k cs) (hdF k cs).length) 4294967295;unfold bJ;rw[Si];have h0:0≤IU (hdF k cs)∧IU (hdF k cs)<4294967296:=h;obtain⟨v,hv⟩:∃v,v=IU (hdF k cs):=⟨_,rfl⟩;rw[←hv]at h0 ⊢
 have step:∀w:Int,0≤w→w<4294967296→IntKind.u8.wrap (w.tmod 256)=w % 256∧IntKind.i64.wrap (w.tdiv 256)=w/256:=fun w a b=>by
  rw[Int.tmod_eq_emod_of_nonneg a,Int.tdiv_eq_ediv_of_nonneg a,YO,IntWalk.i64_in (w/256) (by omega)];exact⟨by omega,rfl⟩
 obtain⟨a1,b1⟩:=step v h0.1 h0.2;obtain⟨a2,b2⟩:=step (v/256) (by omega) (by omega);obtain⟨a3,b3⟩:=step (v/256/256) (by omega) (by omega);obtain⟨a4,b4⟩:=step (v/256/256/256) (by omega) (by omega);simp only[Mt];rw[b1,b2,b3,a1,a2,a3,a4];simp only[List.append_assoc,List.singleton_append];rw[show v/256/256=v/65536 by omega,show v/65536/256=v/16777216 by omega];rfl
theorem DJ{b:List Int}{i:Nat}(h:i<b.length):elt 0 b ((i:Nat):Int)=b[i]:=by
 unfold elt;rw[show((i:Nat):Int).toNat=i by omega,List.getD_eq_getElem?_getD,List.getElem?_eq_getElem h];rfl
structure X6(b:List Int)(x0 x1 x2 x3 x4 x5:Int)(m:List Int)(y0 y1 y2 y3:Int):Prop where
 eq:b=x0::x1::x2::x3::x4::x5::(m++[y0,y1,y2,y3])
 len:b.length=m.length+10
 mid:midD b=m
 tk:b.take (b.length-4)=x0::x1::x2::x3::x4::x5::m
 e0:elt 0 b 0=x0
 e1:elt 0 b 1=x1
 e2:elt 0 b 2=x2
 e3:elt 0 b 3=x3
 e4:elt 0 b 4=x4
 e5:elt 0 b 5=x5
 f0:elt 0 b (((b.length:Nat):Int)-4)=y0
 f1:elt 0 b (((b.length:Nat):Int)-4+1)=y1
 f2:elt 0 b (((b.length:Nat):Int)-4+2)=y2
 f3:elt 0 b (((b.length:Nat):Int)-4+3)=y3
theorem WS{b:List Int}(h:10≤b.length)(h2:b.length≤1000000):∃x0 x1 x2 x3 x4 x5 m y0 y1 y2 y3,X6 b x0 x1 x2 x3 x4 x5 m y0 y1 y2 y3:=by
 obtain⟨x0,x1,x2,x3,x4,x5,m,y0,y1,y2,y3,e⟩:=Sc h;refine⟨x0,x1,x2,x3,x4,x5,m,y0,y1,y2,y3,?_⟩;have hl:b.length=m.length+10:=by rw[e];simp
 have hm:midD b=m:=by
  rw[EF h h2,hl,e];simp
 have ht:b.take (b.length-4)=x0::x1::x2::x3::x4::x5::m:=by
  rw[hl,e,show m.length+10-4=m.length+6 by omega];simp
 have ff:∀j:Nat,j<4→elt 0 b (((b.length:Nat):Int)-4+(j:Nat))=[y0,y1,y2,y3].getD j 0:=fun j hj=>by
  rw[hl,show(((m.length+10:Nat):Int)-4+(j:Nat))=((m.length+6+j:Nat):Int) by omega];unfold elt;rw[Int.toNat_natCast,e,List.getD_eq_getElem?_getD,List.getD_eq_getElem?_getD]
  congr 1
  rw[show m.length+6+j=(m.length+j)+1+1+1+1+1+1 by omega];simp only[List.getElem?_cons_succ];rw[List.getElem?_append_right (by omega),Nat.add_sub_cancel_left]
 refine⟨e,hl,hm,ht,by rw[e];rfl,by rw[e];rfl,by rw[e];rfl,by rw[e];rfl,by rw[e];rfl,by rw[e];rfl,?_,ff 1 (by decide),ff 2 (by decide),ff 3 (by decide)⟩;have:=ff 0 (by decide);rw[show(((b.length:Nat):Int)-4+((0:Nat):Int))=((b.length:Nat):Int)-4 by omega]at this;exact this
def vw(b:List Int):Bool:=bif (bif (bif (bif (bif (bif (bif decide (IntKind.i64.wrap (((b.length:Nat):Int)-4)<6)then true else elt 0 b 0 !=73)then true else elt 0 b 1 !=78)then true else elt 0 b 2 !=69)then true else elt 0 b 3 !=84)then true else elt 0 b 4 !=1)then true else decide (elt 0 b 5<1))then true else decide (3<elt 0 b 5)
theorem KN{b:List Int}(h2:b.length≤60000)(h:vw b=true):bI b=14:=by
 unfold bI;rw[decide_eq_false (show ¬(60000:Int)<((b.length:Nat):Int) by omega)]
 by_cases h10:b.length<10
 ·rw[decide_eq_true (show((b.length:Nat):Int)<10 by omega)];rfl
 rw[decide_eq_false (show ¬((b.length:Nat):Int)<10 by omega)];simp only[cond_false];obtain⟨x0,x1,x2,x3,x4,x5,m,y0,y1,y2,y3,F⟩:=WS (b:=b) (by omega) (by omega);unfold vw at h;rw[F.e0,F.e1,F.e2,F.e3,F.e4,F.e5,IntWalk.i64_in _ (by omega),decide_eq_false (show ¬((b.length:Nat):Int)-4<6 by omega)]at h;rw[F.e5,F.mid];cases hk:(bif decide (x5<1)then true else decide (3<x5))with
 |true=>rfl
 |false=>
  rw[gG]at hk
  have hne:bJ x5 m≠b:=fun e=>by
   rw[uE,F.eq]at e;unfold hdF at e;simp only[List.cons_append,List.nil_append,List.cons.injEq]at e;obtain⟨g0,g1,g2,g3,g4,_⟩:=e;rw[←g0,←g1,←g2,←g3,←g4]at h;simp only[gG]at h;rw[show(false||((73:Int) !=73)||((78:Int) !=78)||((69:Int) !=69)||((84:Int) !=84)||((1:Int) !=1))=false from rfl,Bool.false_or,hk]at h;cases h
  rw[decide_eq_false hne];rfl
theorem Rq{b:List Int}(h2:b.length≤60000)(h:vw b=false):10≤b.length∧elt 0 b 0=73∧elt 0 b 1=78∧elt 0 b 2=69∧elt 0 b 3=84∧elt 0 b 4=1∧1≤elt 0 b 5∧elt 0 b 5≤3:=by
 unfold vw at h;simp only[gG,Bool.or_eq_false_iff,decide_eq_false_iff_not,bne_eq_false_iff_eq]at h;obtain⟨⟨⟨⟨⟨⟨⟨h0,h1⟩,h3⟩,h4⟩,h5⟩,h6⟩,h7⟩,h8⟩:=h;rw[IntWalk.i64_in _ (by omega)]at h0;exact⟨by omega,h1,h3,h4,h5,h6,by omega,by omega⟩
def Ii(b:List Int)(v:Int):Bool:=bif (bif (bif elt 0 b (IntKind.i64.wrap (((b.length:Nat):Int)-4)) !=IntKind.u8.wrap v then true else elt 0 b (IntKind.i64.wrap (IntKind.i64.wrap (((b.length:Nat):Int)-4)+1)) !=IntKind.u8.wrap (v.fdiv (2 ^ (min (8:Int).toNat IntKind.u32.bits))))then true else elt 0 b (IntKind.i64.wrap (IntKind.i64.wrap (((b.length:Nat):Int)-4)+2)) !=IntKind.u8.wrap (v.fdiv (2 ^ (min (16:Int).toNat IntKind.u32.bits))))then true else elt 0 b (IntKind.i64.wrap (IntKind.i64.wrap (((b.length:Nat):Int)-4)+3)) !=IntKind.u8.wrap (v.fdiv (2 ^ (min (24:Int).toNat IntKind.u32.bits)))
theorem Qd{b:List Int}(h2:b.length≤60000)(h:vw b=false):bI b=bif Ii b (IU (List.take (IntKind.i64.wrap (((b.length:Nat):Int)-4)).toNat b))then 14 else 0:=by
 obtain⟨h10,g0,g1,g2,g3,g4,g5,g6⟩:=Rq h2 h;obtain⟨x0,x1,x2,x3,x4,x5,m,y0,y1,y2,y3,F⟩:=WS h10 (by omega);have ew:IntKind.i64.wrap (((b.length:Nat):Int)-4)=((b.length:Nat):Int)-4:=IntWalk.i64_in _ (by omega);have e5:=F.e5;rw[F.e0]at g0;rw[F.e1]at g1;rw[F.e2]at g2;rw[F.e3]at g3;rw[F.e4]at g4;rw[F.e5]at g5 g6
 have htk:List.take (IntKind.i64.wrap (((b.length:Nat):Int)-4)).toNat b=hdF x5 m:=by
  rw[ew,show(((b.length:Nat):Int)-4).toNat=b.length-4 by omega,F.tk,g0,g1,g2,g3,g4];rfl
 rw[htk];have hv:=JV (zo (hdF x5 m) (hdF x5 m).length) 4294967295;have hv:0≤IU (hdF x5 m)∧IU (hdF x5 m)<4294967296:=hv;have hfr:=uE x5 m;obtain⟨v,hvv⟩:∃v,v=IU (hdF x5 m):=⟨_,rfl⟩;rw[←hvv]at hv hfr ⊢
 have ht:Ii b v=(((y0 !=v % 256||y1 !=v/256 % 256)||y2 !=v/65536 % 256)||y3 !=v/16777216 % 256):=by
  unfold Ii;rw[ew,IntWalk.i64_in (((b.length:Nat):Int)-4+1) (by omega),IntWalk.i64_in (((b.length:Nat):Int)-4+2) (by omega),IntWalk.i64_in (((b.length:Nat):Int)-4+3) (by omega),F.f0,F.f1,F.f2,F.f3];rw[show(2:Int) ^ (min (8:Int).toNat IntKind.u32.bits)=256 by decide,show(2:Int) ^ (min (16:Int).toNat IntKind.u32.bits)=65536 by decide,show(2:Int) ^ (min (24:Int).toNat IntKind.u32.bits)=16777216 by decide];rw[Int.fdiv_eq_ediv_of_nonneg _ (by decide),Int.fdiv_eq_ediv_of_nonneg _ (by decide),Int.fdiv_eq_ediv_of_nonneg _ (by decide)];simp only[gG,YO]
 unfold bI;rw[decide_eq_false (show ¬(60000:Int)<((b.length:Nat):Int) by omega),decide_eq_false (show ¬((b.length:Nat):Int)<10 by omega),e5,F.mid,decide_eq_false (show ¬x5<1 by omega),decide_eq_false (show ¬3<x5 by omega),ht]
 have heq:(decide (bJ x5 m=b))= !(((y0 !=v % 256||y1 !=v/256 % 256)||y2 !=v/65536 % 256)||y3 !=v/16777216 % 256):=by
  rw[Bool.eq_iff_iff,decide_eq_true_eq,Bool.not_eq_true'];simp only[Bool.or_eq_false_iff,bne_eq_false_iff_eq];rw[hfr]
  have hb:b=hdF x5 m++[y0,y1,y2,y3]:=by
   rw[F.eq,g0,g1,g2,g3,g4];rfl
  constructor
  ·intro e;rw[hb]at e;have:=List.append_cancel_left e;simp only[List.cons.injEq,and_true]at this;obtain⟨a1,a2,a3,a4⟩:=this;exact⟨⟨⟨a1.symm,a2.symm⟩,a3.symm⟩,a4.symm⟩
  ·rintro⟨⟨⟨a1,a2⟩,a3⟩,a4⟩;rw[←a1,←a2,←a3,←a4];exact hb.symm
 rw[heq];cases (((y0 !=v % 256||y1 !=v/256 % 256)||y2 !=v/65536 % 256)||y3 !=v/16777216 % 256)<;>rfl
abbrev G9(b:List Int):SV:=bif bI b==0 then .tup [.int .i64 (IntKind.i64.wrap (elt 0 b 5)),.rsl bn (midD b),.int .i64 0]else .tup [.int .i64 0,.raw (.slice none 0 0),.int .i64 (bI b)]
theorem Yw(b:List Int)(hl:b.length≤1048576):aC Try.prog 31 [.rsl bn b] [] (G9 b) []:=by
 refine aC.intro (nt:=108) aS mixed (by kernel_rfl) Try.func31 rfl rfl rfl rfl rfl rfl ?_;refine aI (fun q1=> ?_) (fun q1=> ?_)
 ·have e:bI b=2:=by unfold bI;rw[show decide (60000<((b.length:Nat):Int))=true from q1];rfl
  unfold G9;rw[e];exact fin [] (aI rfl trivial)
 have h2:b.length≤60000:=by have:=of_decide_eq_false (show decide (60000<((b.length:Nat):Int))=false from q1);omega
 have ew:IntKind.i64.wrap (((b.length:Nat):Int)-4)=((b.length:Nat):Int)-4:=IntWalk.i64_in _ (by omega)
 by_cases hs:b.length<10
 ·have e:decide (IntKind.i64.wrap (((b.length:Nat):Int)-4)<6)=true:=by rw[ew];exact decide_eq_true (by omega)
  have hH:vw b=true:=by unfold vw;rw[e];rfl
  refine aI (fun g=>by simp[e]at g) ?_;refine aI (fun g=>by simp[e]at g) ?_;refine aI (fun g=>by simp[e]at g) ?_;refine aI (fun g=>by simp[e]at g) ?_;refine aI (fun g=>by simp[e]at g) ?_;refine aI (fun g=>by simp[e]at g) ?_;refine aI (fun g=>by simp[e]at g) ?_;refine aI (fun _=> ?_) (fun q=>by have q:vw b=false:=q;rw[hH]at q;cases q);unfold G9;rw[KN h2 hH];exact fin [] (aI rfl trivial)
 refine aI (fun _=>⟨by omega,by omega⟩) ?_;refine aI (fun _=>⟨by omega,by omega⟩) ?_;refine aI (fun _=>⟨by omega,by omega⟩) ?_;refine aI (fun _=>⟨by omega,by omega⟩) ?_;refine aI (fun _=>⟨by omega,by omega⟩) ?_;refine aI (fun _=>⟨by omega,by omega⟩) ?_;refine aI (fun _=>⟨by omega,by omega⟩) ?_;refine aI (fun q2=> ?_) (fun q2=> ?_)
 ·have hH:vw b=true:=q2;unfold G9;rw[KN h2 hH];exact fin [] (aI rfl trivial)
 have hH:vw b=false:=q2;have hT:=Qd h2 hH;refine aI (by show _≤IntKind.i64.wrap (((b.length:Nat):Int)-4)∧IntKind.i64.wrap (((b.length:Nat):Int)-4)≤_;rw[ew];omega) ?_;refine Or.inl (eI _ (aI (YC (List.take (IntKind.i64.wrap (((b.length:Nat):Int)-4)).toNat b) (by rw[List.length_take];omega)) ?_));have w1:IntKind.i64.wrap (IntKind.i64.wrap (((b.length:Nat):Int)-4)+1)=((b.length:Nat):Int)-4+1:=by rw[ew];exact IntWalk.i64_in _ (by omega)
 have w2:IntKind.i64.wrap (IntKind.i64.wrap (((b.length:Nat):Int)-4)+2)=((b.length:Nat):Int)-4+2:=by rw[ew];exact IntWalk.i64_in _ (by omega)
 have w3:IntKind.i64.wrap (IntKind.i64.wrap (((b.length:Nat):Int)-4)+3)=((b.length:Nat):Int)-4+3:=by rw[ew];exact IntWalk.i64_in _ (by omega)
 refine aI (by show _≤IntKind.i64.wrap (((b.length:Nat):Int)-4)∧IntKind.i64.wrap (((b.length:Nat):Int)-4)<_;rw[ew];omega) ?_;refine aI (fun _=>by show _≤IntKind.i64.wrap (IntKind.i64.wrap (((b.length:Nat):Int)-4)+1)∧IntKind.i64.wrap (IntKind.i64.wrap (((b.length:Nat):Int)-4)+1)<_;rw[w1];omega) ?_;refine aI (fun _=>by decide) ?_;refine aI (fun _=>by show _≤IntKind.i64.wrap (IntKind.i64.wrap (((b.length:Nat):Int)-4)+2)∧IntKind.i64.wrap (IntKind.i64.wrap (((b.length:Nat):Int)-4)+2)<_;rw[w2];omega) ?_;refine aI (fun _=>by decide) ?_
 refine aI (fun _=>by show _≤IntKind.i64.wrap (IntKind.i64.wrap (((b.length:Nat):Int)-4)+3)∧IntKind.i64.wrap (IntKind.i64.wrap (((b.length:Nat):Int)-4)+3)<_;rw[w3];omega) ?_;refine aI (fun _=>by decide) ?_;refine aI (fun q3=> ?_) (fun q3=> ?_)
 ·have q3:Ii b (IU (List.take (IntKind.i64.wrap (((b.length:Nat):Int)-4)).toNat b))=true:=q3;rw[q3]at hT;unfold G9;rw[hT];exact fin [] (aI rfl trivial)
 ·have q3:Ii b (IU (List.take (IntKind.i64.wrap (((b.length:Nat):Int)-4)).toNat b))=false:=q3;rw[q3]at hT;refine aI ⟨by omega,by omega⟩ ?_;refine aI (by show _≤_∧_≤IntKind.i64.wrap (((b.length:Nat):Int)-4)∧IntKind.i64.wrap (((b.length:Nat):Int)-4)≤_;rw[ew];omega) ?_;refine aI (by kernel_rfl) ?_;unfold G9;rw[hT];exact fin [] (aI rfl trivial)
def seg(cs:List Int)(a b:Nat):List Int:=(cs.drop a).take (b-a)
theorem tL(cs:List Int)(a:Nat):seg cs a a=[]:=by unfold seg;rw[Nat.sub_self,List.take_zero]
theorem jC(cs:List Int){a b c:Nat}(h1:a≤b)(h2:b≤c):seg cs a b++seg cs b c=seg cs a c:=by
 unfold seg;have e:cs.drop b=(cs.drop a).drop (b-a):=by rw[List.drop_drop];congr 1;omega
 rw[e,show c-a=(b-a)+(c-b) by omega,List.take_add]
theorem LD{cs:List Int}{a:Nat}(h:a<cs.length):seg cs a (a+1)=[elt 0 cs (a:Nat)]:=by
 unfold seg;rw[DJ h,show a+1-a=1 by omega,List.drop_eq_getElem_cons h];rfl
theorem Tq(cs:List Int)(b:Nat):seg cs 0 b=cs.take b:=by unfold seg;rw[List.drop_zero,Nat.sub_zero]
theorem Sw{z:Int}(h:0≤z):zig (zag z)=z:=by
 unfold zag;cases hb:(z % 2==1)with
 |true=>
  have:z % 2=1:=by simpa using hb
  simp only[cond_true];unfold zig;rw[decide_eq_true (by omega)];simp only[cond_true];omega
 |false=>
  have:z % 2≠1:=by simpa using hb
  simp only[cond_false];unfold zig;rw[decide_eq_false (by omega)];simp only[cond_false];omega
theorem I6(g:Nat){z:Int}(h:z<128):encZ g z=[z]:=by
 cases g with
 |zero=>rfl
 |succ g=>rw[encZ,decide_eq_false (by omega)];rfl
theorem GZ{cs:List Int}(hb:mK cs){a:Nat}:∀{f j:Nat} {z n:Int} {a':Nat},0≤z→vV cs a f j z=some (n,a')→∃w:Int,0≤w∧(0<j→1≤w)∧zig n=z+128 ^ j*w∧∀g,f≤g+1→encZ g w=seg cs (a+j) a'
 |0,_,_,_,_,_,h=>by cases h
 |f+1,j,z,n,a',z0,h=>by
  unfold vV at h;have hx:=hb.elt ((a+j:Nat):Int);obtain⟨x,ex⟩:∃x,x=elt 0 cs ((a+j:Nat):Int):=⟨_,rfl⟩;rw[←ex]at h hx;have hp:(0:Int)<128 ^ j:=Int.pow_pos (by decide);have hm:0≤x % 128*128 ^ j:=Int.mul_nonneg (Int.emod_nonneg _ (by decide)) (by omega);cases hd:decide (a+j<cs.length)with
  |false=>rw[hd]at h;cases h
  |true=>
   rw[hd]at h;have hlt:=of_decide_eq_true hd;have h1:=LD hlt;rw[←ex]at h1;cases hq:decide (128≤x)with
   |true=>
    rw[hq]at h;have hq:=of_decide_eq_true hq;have h:vV cs a f (j+1) (z+x % 128*128 ^ j)=some (n,a'):=h;obtain⟨w,w0,w1,w2,w3⟩:=GZ hb (by omega) h;have hle:=zN h;refine⟨x % 128+128*w,by omega,fun _=>by have:=w1 (by omega);omega,?_,fun g hg=> ?_⟩
    ·rw[w2,Int.pow_succ,Int.mul_add,Int.mul_comm (128 ^ j) (x % 128),Int.mul_assoc (128 ^ j) 128 w,Int.add_assoc]
    ·match f,h,w3,hg with
     |0,h,_,_=>cases h
     |f+1,_,w3,hg=>
      match g,hg with
      |0,hg=>omega
      |g+1,hg=>
       have hw:=w1 (by omega);rw[encZ,decide_eq_true (by omega)];simp only[cond_true];rw[show(x % 128+128*w) % 128+128=x by omega,show(x % 128+128*w)/128=w by omega,w3 g (by omega)];rw[←jC cs (show a+j≤a+j+1 by omega) (show a+j+1≤a' by omega),h1];rfl
   |false=>
    rw[hq]at h;have hq:=of_decide_eq_false hq;cases hbad:(x==0&&decide (0<j))|| !eH (zag (z+x % 128*128 ^ j))with
    |true=>rw[hbad]at h;cases h
    |false=>
     rw[hbad]at h;simp only[cond_true,cond_false,Option.some.injEq,Prod.mk.injEq]at h;rw[Bool.or_eq_false_iff]at hbad;refine⟨x,hx.1,fun hj=> ?_,?_,fun g _=> ?_⟩
     ·have:=hbad.1;rw[decide_eq_true hj,Bool.and_true]at this;have:x≠0:=by simpa using this
      omega
     ·rw[←h.1,Sw (by omega),show x % 128=x by omega,Int.mul_comm]
     ·rw[I6 g (by omega),←h.2,h1]
theorem Pf{cs:List Int}(hb:mK cs){a a':Nat}{n:Int}(h:rJ cs a=some (n,a')):aX n=seg cs a a'∧a≤a'∧a'≤cs.length∧eH n=true:=by
 obtain⟨w,_,_,w2,w3⟩:=GZ hb (Int.le_refl 0) h;have hl:=zN h;refine⟨?_,by omega,hl.2.1,hl.2.2⟩;have:=w3 5 (by decide);rw[Nat.add_zero]at this;unfold aX;rw[w2,show(0:Int)+128 ^ 0*w=w by omega,this]
theorem NP{cs:List Int}{a:Nat}(h:a<cs.length):gK cs (a,false)=(elt 0 cs (a:Nat),(a+1,false)):=by
 unfold gK;rw[decide_eq_true h];rfl
theorem NM{cs:List Int}{a:Nat}(h:¬a<cs.length):gK cs (a,false)=(0,(a,true)):=by
 unfold gK;rw[decide_eq_false h];rfl
theorem O9{cs:List Int}{a:Nat}:∀{f j:Nat} {z:Int},(∀n a',vV cs a f j z=some (n,a')→IC cs f j z (a+j,false)=(n,(a',false)))∧(vV cs a f j z=none→(IC cs f j z (a+j,false)).2.2=true)
 |0,_,_=>⟨fun _ _ h=>(by cases h),fun _=>rfl⟩
 |f+1,j,z=>by
  unfold vV IC
  by_cases hlt:a+j<cs.length
  ·rw[decide_eq_true hlt,NP hlt];obtain⟨x,ex⟩:∃x,x=elt 0 cs ((a+j:Nat):Int):=⟨_,rfl⟩;rw[←ex];cases hq:decide (128≤x)with
   |true=>
    rw[decide_eq_false (show ¬x<128 by have:=of_decide_eq_true hq;omega)];exact O9 (f:=f) (j:=j+1)
   |false=>
    rw[decide_eq_true (show x<128 by have:=of_decide_eq_false hq;omega)];simp only[cond_true,cond_false];cases hbad:(x==0&&decide (0<j))|| !eH (zag (z+x % 128*128 ^ j))with
    |true=>
     refine⟨fun _ _ h=>(by cases h),fun _=> ?_⟩;rw[Bool.or_assoc,hbad];rfl
    |false=>
     refine⟨fun n a' h=> ?_,fun h=>(by cases h)⟩;simp only[cond_false,Option.some.injEq,Prod.mk.injEq]at h;rw[Bool.or_assoc,hbad,h.1];simp only[Bool.or_false];rw[←h.2]
  ·rw[decide_eq_false hlt,NM hlt];refine⟨fun _ _ h=>(by cases h),fun _=> ?_⟩;rw[decide_eq_true (show(0:Int)<128 by decide)];rfl
structure Nu(cs:List Int)(a:Nat)(n:Int)(a':Nat):Prop where
 i:∀b,jE cs (a,b)=(n,(a',b))
 s:iE cs (a,false)=(n,(a',false))
 e:aX n=seg cs a a'
 le:a≤a'
 len:a'≤cs.length
 int:eH n=true
theorem tC{cs:List Int}(hb:mK cs)(a:Nat):(∃n a',Nu cs a n a')∨((∀b,(jE cs (a,b)).2.2=true)∧(iE cs (a,false)).2.2=true):=by
 have hq:=O9 (cs:=cs) (a:=a) (f:=5) (j:=0) (z:=0);cases hn:rJ cs a with
 |some p=>
  obtain⟨n,a'⟩:=p;obtain⟨h1,h2,h3,h4⟩:=Pf hb hn;exact .inl ⟨n,a',⟨fun b=>by unfold jE;rw[hn],hq.1 n a' hn,h1,h2,h3,h4⟩⟩
 |none=>exact .inr ⟨fun b=>by unfold jE;rw[hn],hq.2 hn⟩
structure By(cs:List Int)(a:Nat)(n:Int)(a':Nat):Prop where
 i:∀b,jw cs (a,b)=(n,(a',b))
 s:gK cs (a,false)=(n,(a',false))
 e:[n]=seg cs a a'
 le:a≤a'
 len:a'≤cs.length
 S9:0≤n∧n≤255
theorem by_cases'{cs:List Int}(hb:mK cs)(a:Nat):(∃n a',By cs a n a')∨((∀b,(jw cs (a,b)).2.2=true)∧(gK cs (a,false)).2.2=true):=by
 by_cases h:a<cs.length
 ·exact .inl ⟨_,a+1,⟨fun b=>by unfold jw;rw[decide_eq_true h];rfl,NP h,(LD h).symm,by omega,h,hb.elt _⟩⟩
 ·exact .inr ⟨fun b=>by unfold jw;rw[decide_eq_false h];rfl,by rw[NM h]⟩
theorem J6{cs:List Int}{s:Dp}(h:s.2=true):(jw cs s).2.2=true:=by
 unfold jw;cases decide (s.1<cs.length)with
 |true=>exact h
 |false=>rfl
theorem ER{cs:List Int}{s:Dp}(h:s.2=true):(jE cs s).2.2=true:=by
 unfold jE;cases rJ cs s.1 with
 |none=>rfl
 |some p=>exact h
theorem Kr{cs:List Int}{s:Dp}(h:s.2=true):∀n,(iZ cs n s).2.2=true
 |0=>h
 |n+1=>ER (Kr h n)
def Stp(cs:List Int)(a:Nat)(f g:Dp→Int×Dp)(E:Int→List Int)(A:Int→Prop):Prop:=
 (∃n a',f (a,false)=(n,(a',false))∧g (a,false)=(n,(a',false))∧E n=seg cs a a'∧a≤a'∧a'≤cs.length∧A n)∨((f (a,false)).2.2=true∧(g (a,false)).2.2=true)
section
variable {cs:List Int}(hb:mK cs)
include hb
theorem Fu(a:Nat):Stp cs a (jw cs) (gK cs) (fun n=>[n]) (fun n=>0≤n∧n≤255):=by
 rcases by_cases' hb a with⟨n,a',h⟩|⟨h1,h2⟩
 ·exact .inl ⟨n,a',h.i _,h.s,h.e,h.le,h.len,h.S9⟩
 ·exact .inr ⟨h1 _,h2⟩
theorem VN(a:Nat):Stp cs a (jE cs) (iE cs) aX (fun _=>True):=by
 rcases tC hb a with⟨n,a',h⟩|⟨h1,h2⟩
 ·exact .inl ⟨n,a',h.i _,h.s,h.e,h.le,h.len,trivial⟩
 ·exact .inr ⟨h1 _,h2⟩
omit hb in
theorem uL{a:Nat}(ha:a≤cs.length)(c:Int){A:Int→Prop}(hA:A c):Stp cs a (fun s=>(c,s)) (fun s=>(c,s)) (fun _=>[]) A:=.inl ⟨c,a,rfl,rfl,(tL cs a).symm,Nat.le_refl _,ha,hA⟩
theorem VL{a:Nat}(ha:a≤cs.length)(k:Int):Stp cs a (o7 (jw cs) k) (o7 (gK cs) k) (fun n=>bif aG k then[n]else[]) (fun n=>0≤n∧n≤255):=by
 cases h:aG k with
 |true=>
  have e1:∀f,o7 f k=f:=fun f=>by funext s;unfold o7;rw[h];rfl
  rw[e1,e1];exact Fu hb a
 |false=>
  have e1:∀f,o7 f k=fun s=>(0,s):=fun f=>by funext s;unfold o7;rw[h];rfl
  rw[e1,e1];exact uL ha 0 (by decide)
theorem VO{a:Nat}(ha:a≤cs.length)(k:Int):Stp cs a (pV (jE cs) k) (pV (iE cs) k) (fun n=>bif aM k then aX n else[]) (fun _=>True):=by
 cases h:aM k with
 |true=>
  have e1:∀f,pV f k=f:=fun f=>by funext s;unfold pV;rw[h];rfl
  rw[e1,e1];exact VN hb a
 |false=>
  have e1:∀f,pV f k=fun s=>(0,s):=fun f=>by funext s;unfold pV;rw[h];rfl
  rw[e1,e1];exact uL ha 0 trivial
theorem VJ{a:Nat}(ha:a≤cs.length)(k:Int):Stp cs a (qG (jw cs) k) (qG (gK cs) k) (fun n=>bif k==10 then[n]else[]) (fun n=>0≤n∧n≤255):=by
 cases h:k==10 with
 |true=>
  have hk:k=10:=by simpa using h
  subst hk;have e1:∀f,qG f 10=f:=fun f=>rfl
  rw[e1,e1];exact Fu hb a
 |false=>
  have e1:∀f,qG f k=fun s=>(bif k==8 then 1 else bif k==11 then 2 else 0,s):=fun f=>by
   funext s;unfold qG;rw[h];cases k==8<;>cases k==11<;>rfl
  rw[e1,e1];exact uL ha _ (by cases k==8<;>cases k==11<;>decide)
theorem VK{a:Nat}(ha:a≤cs.length)(k:Int):Stp cs a (sD (jw cs) k) (sD (gK cs) k) (fun n=>bif k==9 then[n]else[]) (fun n=>0≤n∧n≤255):=by
 cases h:k==9 with
 |true=>
  have e1:∀f,sD f k=f:=fun f=>by funext s;unfold sD;rw[h];rfl
  rw[e1,e1];exact Fu hb a
 |false=>
  have e1:∀f,sD f k=fun s=>(0,s):=fun f=>by funext s;unfold sD;rw[h];rfl
  rw[e1,e1];exact uL ha 0 (by decide)
theorem SL{a:Nat}(ha:a≤cs.length):∀n,(∃ds a',iZ cs n (a,false)=(ds,(a',false))∧bO cs n (a,false)=(ds,(a',false))∧ds.length=n∧ds.flatMap aX=seg cs a a'∧a≤a'∧a'≤cs.length)∨((iZ cs n (a,false)).2.2=true∧(bO cs n (a,false)).2.2=true)
 |0=>.inl ⟨[],a,rfl,rfl,rfl,(tL cs a).symm,Nat.le_refl _,ha⟩
 |n+1=>by
  rcases SL ha n with⟨ds,a',h1,h2,h3,h4,h5,h6⟩|⟨h1,h2⟩
  ·rcases tC hb a' with⟨m,a2,h⟩|⟨g1,g2⟩
   ·refine .inl ⟨ds++[m],a2,?_,?_,?_,?_,by have:=h.le;omega,h.len⟩
    ·rw[iZ,h1,h.i]
    ·rw[bO,h2,h.s];rfl
    ·rw[List.length_append,h3];rfl
    ·rw[List.flatMap_append,h4,List.flatMap_cons,List.flatMap_nil,List.append_nil,h.e,jC cs h5 h.le]
   ·refine .inr ⟨?_,?_⟩
    ·rw[iZ,h1];exact g1 _
    ·rw[bO,h2];exact g2
  ·refine .inr ⟨ER h1,?_⟩;rw[bO,h2];exact h2
end
theorem JY{fb fn:Dp→Int×Dp}{fd:Nat→Dp→List Int×Dp}(e:aB)(hb:∀s,s.2=true→(fb s).2.2=true)(hn:∀s,s.2=true→(fn s).2.2=true)(hd:∀n s,s.2=true→(fd n s).2.2=true){s:Dp}{k lv va c:Int}{ds:List Int}{s1 s2 s3 s4 s5:Dp}(h1:fb s=(k,s1)):
  (s1.2=true→(uw fb fn fd e s).2.2=true)∧(o7 fb k s1=(lv,s2)→(s2.2=true→(uw fb fn fd e s).2.2=true)∧(pV fn k s2=(va,s3)→(s3.2=true→(uw fb fn fd e s).2.2=true)∧(qG fb k s3=(c,s4)→(s4.2=true→(uw fb fn fd e s).2.2=true)∧(fd c.toNat s4=(ds,s5)→(s5.2=true→(uw fb fn fd e s).2.2=true)∧((sD fb k s5).2.2=true→(uw fb fn fd e s).2.2=true))))):=by
 have L:∀s,s.2=true→(o7 fb k s).2.2=true:=fun s h=>by unfold o7;cases aG k with|true=>exact hb _ h|false=>exact h
 have V:∀s,s.2=true→(pV fn k s).2.2=true:=fun s h=>by unfold pV;cases aM k with|true=>exact hn _ h|false=>exact h
 have C:∀s,s.2=true→(qG fb k s).2.2=true:=fun s h=>by
  unfold qG;cases k==8 with
  |true=>exact h
  |false=>cases k==10 with
   |true=>exact hb _ h
   |false=>cases k==11 with|true=>exact h|false=>exact h
 have F:∀s,s.2=true→(sD fb k s).2.2=true:=fun s h=>by unfold sD;cases k==9 with|true=>exact hb _ h|false=>exact h
 have E:(uw fb fn fd e s).2=(sD fb k (fd (qG fb k (pV fn k (o7 fb k s1).2).2).1.toNat (qG fb k (pV fn k (o7 fb k s1).2).2).2).2).2:=by unfold uw;rw[h1]
 rw[E];refine⟨fun h=>F _ (hd _ _ (C _ (V _ (L _ h)))),fun e2=> ?_⟩;rw[e2];refine⟨fun h=>F _ (hd _ _ (C _ (V _ h))),fun e3=> ?_⟩;rw[e3];refine⟨fun h=>F _ (hd _ _ (C _ h)),fun e4=> ?_⟩;rw[e4];refine⟨fun h=>F _ (hd _ _ h),fun e5=> ?_⟩;rw[e5];exact⟨fun h=>F _ h,id⟩
structure Shp(x y:ah):Prop where
 k:y.1=x.1
 l:y.2.1=x.2.1
 v:y.2.2.1=x.2.2.1
 d:y.2.2.2.1=x.2.2.2.1
 p:y.2.2.2.2.length=x.2.2.2.2.length
structure AgE(cs:List Int)(a:Nat)(x y:ah)(a':Nat):Prop where
 i:kJ cs (a,false)=(x,(a',false))
 s:gV cs (a,false)=(y,(a',false))
 shp:Shp x y
 px:∃n,x.2.2.2.2=List.replicate n (0,0)∧y.2.2.2.2=List.replicate n (-1,0)
 e:0<x.2.2.2.2.length→dR x=seg cs a a'
 le:a≤a'
 len:a'≤cs.length
theorem Wm{cs:List Int}(hb:mK cs)(a:Nat):(∃x y a',AgE cs a x y a')∨((kJ cs (a,false)).2.2=true∧(gV cs (a,false)).2.2=true):=by
 have kI:=fun(k lv va c:Int) (ds:List Int) (s1 s2 s3 s4 s5:Dp)=> @JY (jw cs) (jE cs) (iZ cs) (0,0) (fun _ h=>J6 h) (fun _ h=>ER h) (fun n _ h=>Kr h n) (a,false) k lv va c ds s1 s2 s3 s4 s5
 have kS:=fun(k lv va c:Int) (ds:List Int) (s1 s2 s3 s4 s5:Dp)=> @JY (gK cs) (iE cs) (bO cs) (-1,0) (fun _ h=>wI h) (fun _ h=>K8 h) (fun n _ h=>Al h n) (a,false) k lv va c ds s1 s2 s3 s4 s5
 rcases Fu hb a with⟨k,a1,i1,s1,e1,l1,n1,r1⟩|⟨b1,b2⟩
 case inr=>exact .inr ⟨(kI (jw cs (a,false)).1 0 0 0 [] _ (0,true) (0,true) (0,true) (0,true) rfl).1 b1,(kS (gK cs (a,false)).1 0 0 0 [] _ (0,true) (0,true) (0,true) (0,true) rfl).1 b2⟩
 rcases VL hb n1 k with⟨lv,a2,i2,s2,e2,l2,n2,r2⟩|⟨b1,b2⟩
 case inr=>exact .inr ⟨((kI k (o7 (jw cs) k (a1,false)).1 0 0 [] _ _ (0,true) (0,true) (0,true) i1).2 rfl).1 b1,((kS k (o7 (gK cs) k (a1,false)).1 0 0 [] _ _ (0,true) (0,true) (0,true) s1).2 rfl).1 b2⟩
 rcases VO hb n2 k with⟨va,a3,i3,s3,e3,l3,n3,r3⟩|⟨b1,b2⟩
 case inr=>exact .inr ⟨(((kI k lv (pV (jE cs) k (a2,false)).1 0 [] _ _ _ (0,true) (0,true) i1).2 i2).2 rfl).1 b1,(((kS k lv (pV (iE cs) k (a2,false)).1 0 [] _ _ _ (0,true) (0,true) s1).2 s2).2 rfl).1 b2⟩
 rcases VJ hb n3 k with⟨c,a4,i4,s4,e4,l4,n4,r4⟩|⟨b1,b2⟩
 case inr=>exact .inr ⟨((((kI k lv va (qG (jw cs) k (a3,false)).1 [] _ _ _ _ (0,true) i1).2 i2).2 i3).2 rfl).1 b1,((((kS k lv va (qG (gK cs) k (a3,false)).1 [] _ _ _ _ (0,true) s1).2 s2).2 s3).2 rfl).1 b2⟩
 rcases SL hb n4 c.toNat with⟨ds,a5,i5,s5,d5,e5,l5,n5⟩|⟨b1,b2⟩
 case inr=>exact .inr ⟨(((((kI k lv va c (iZ cs c.toNat (a4,false)).1 _ _ _ _ _ i1).2 i2).2 i3).2 i4).2 rfl).1 b1,(((((kS k lv va c (bO cs c.toNat (a4,false)).1 _ _ _ _ _ s1).2 s2).2 s3).2 s4).2 rfl).1 b2⟩
 rcases VK hb n5 k with⟨fi,a6,i6,s6,e6,l6,n6,r6⟩|⟨b1,b2⟩
 case inr=>exact .inr ⟨(((((kI k lv va c ds _ _ _ _ _ i1).2 i2).2 i3).2 i4).2 i5).2 b1,(((((kS k lv va c ds _ _ _ _ _ s1).2 s2).2 s3).2 s4).2 s5).2 b2⟩
 refine .inl ⟨(k,lv,va,ds,List.replicate (aL k fi).toNat (0,0)),(k,lv,va,ds,List.replicate (aL k fi).toNat (-1,0)),a6,?_,?_,⟨rfl,rfl,rfl,rfl,by simp⟩,⟨_,rfl,rfl⟩,fun hp=> ?_,by omega,n6⟩
 ·unfold kJ uw;simp only[i1,i2,i3,i4,i5,i6]
 ·unfold gV uw;simp only[s1,s2,s3,s4,s5,s6]
 ·have hp:0<(aL k fi).toNat:=by simpa using hp
  unfold dR;show[IntKind.u8.wrap k]++((bif aG k then[IntKind.u8.wrap lv]else[])++((bif aM k then aX va else[])++((bif k==10 then[IntKind.u8.wrap ((ds.length:Nat):Int)]else[])++(ds.flatMap aX++(bif k==9 then[IntKind.u8.wrap (IntKind.i64.wrap ((((List.replicate (aL k fi).toNat ((0:Int),(0:Int))).length:Nat):Int)-1))]else[])))))=_;rw[List.length_replicate,Io r1.1 r1.2,Io r2.1 r2.2,d5,Int.toNat_of_nonneg r4.1,Io r4.1 r4.2]
  have e6':(bif k==9 then[IntKind.u8.wrap (IntKind.i64.wrap ((((aL k fi).toNat:Nat):Int)-1))]else[])=seg cs a5 a6:=by
   rw[←e6];cases hk:k==9 with
   |false=>rfl
   |true=>
    have hk:k=9:=by simpa using hk
    subst hk
    have hf:aL 9 fi=fi+1:=by
     unfold aL at hp ⊢;rw[if_pos rfl]at hp ⊢;split at hp
     ·rename_i h;rw[if_pos h]
     ·simp at hp
    rw[hf,IntWalk.i64_in _ (by omega)];simp only[cond_true];rw[show(((fi+1).toNat:Nat):Int)-1=fi by omega,Io r6.1 r6.2]
  have e1:[k]=seg cs a a1:=e1;rw[e6',e5,e1];have e2:(bif aG k then[lv]else[])=seg cs a1 a2:=e2;have e3:(bif aM k then aX va else[])=seg cs a2 a3:=e3;have e4:(bif k==10 then[c]else[])=seg cs a3 a4:=e4;rw[e2,e3,e4,jC cs l5 l6,jC cs l4 (by omega),jC cs l3 (by omega),jC cs l2 (by omega),jC cs l1 (by omega)]
end Go.Proofs.Ytdpclbjjmhkgiaa
namespace Go.Proofs.Ytdpclbjjmhkgiaa
open Go Go.RowKit Go.Proofs Go.Tr
theorem AA(i:Nat)(S:List aB)(h:S.Pairwise fun p q=>jq p q=true)(hS:∀p∈S,p.1<(i:Nat)):∀k,(zK (fun _=>false) i k S).Pairwise fun p q=>jq p q=true
 |0=>h
 |k+1=>by
  rw[Ef,List.pairwise_append];refine⟨AA i S h hS k,List.pairwise_singleton _ _,fun p hp q hq=> ?_⟩;rw[List.mem_singleton.1 hq,rW];rcases(Ee _ i S p k).1 hp with h1|⟨h1,h2,h3,_⟩
  ·exact .inl (hS p h1)
  ·exact .inr ⟨h1,h3⟩
theorem Az(xs:List ah):∀i,(sG (fun _=>false) xs i).Pairwise fun p q=>jq p q=true
 |0=>List.Pairwise.nil
 |i+1=>AA i _ (Az xs i) (fun p hp=>((Ec _ xs p i).1 hp).2.1) _
theorem Hw(xs:List ah):(bF xs).Pairwise fun p q=>jq p q=true:=Az xs _
theorem Cr(p:aB):jq p p=false:=by
 rw[←Bool.not_eq_true,rW];omega
theorem wH{p q:aB}(h:jq p q=true):p≠q:=fun e=>by rw[e,Cr]at h;cases h
theorem NH{p q:aB}(h:jq p q=true):jq q p=false:=by
 rw[←Bool.not_eq_true,rW];rw[rW]at h;omega
theorem Sb{xs ys:List ah}(h:bH xs ys):bH ys xs:=⟨h.1.symm,fun i h0 h1=>(h.2 i h0 (by rw[h.1];exact h1)).symm⟩
theorem P8{xs ys zs:List ah}(h:bH xs ys)(k:bH ys zs):bH xs zs:=⟨h.1.trans k.1,fun i h0 h1=>(h.2 i h0 h1).trans (k.2 i h0 (by rw[←h.1];exact h1))⟩
theorem JG{xs ys:List ah}(h:bH xs ys)(p:aB):aj xs p↔aj ys p:=by
 unfold aj;rw[h.1];constructor
 ·rintro⟨a,b,c,d⟩;have:=congrArg (fun s=>s.2.2.2.2) (h.2 p.1 a (by rw[h.1];exact b));exact⟨a,b,c,by show p.2<((ak ys p.1).2.2.2.2.length:Nat);rw[←show(ak xs p.1).2.2.2.2.length=(ak ys p.1).2.2.2.2.length from this];exact d⟩
 ·rintro⟨a,b,c,d⟩;have:=congrArg (fun s=>s.2.2.2.2) (h.2 p.1 a (by rw[h.1];exact b));exact⟨a,b,c,by show p.2<((ak xs p.1).2.2.2.2.length:Nat);rw[show(ak xs p.1).2.2.2.2.length=(ak ys p.1).2.2.2.2.length from this];exact d⟩
theorem Yz{xs ys:List ah}(h:bH xs ys)(p:aB):hasB xs p=hasB ys p:=by
 rw[Bool.eq_iff_iff,sH,sH];exact JG h p
structure WR(xs ys:List ah)(ld ps:List aB):Prop where
 sg:bH xs ys
 inP:∀p∈ps,aj xs p
 spl:∀p,aj xs p→p∈ld∨p∈ps
 wx:fE (fun p=>p∈ld) xs
 eq:∀p∈ld,aD xs p=aD ys p
 un:∀p,aj ys p→p∉ld→aD ys p=(-1,0)
 bk:∀p∈ps,p∈ld→jq (aD xs p) p=true
theorem WR.tail{xs ys:List ah}{ld ps:List aB}{p:aB}(h:WR xs ys ld (p::ps))(hp:p∈ld):WR xs ys ld ps:=
 ⟨h.sg,fun q hq=>h.inP q (by simp[hq]),fun q hq=>(h.spl q hq).elim .inl fun h=>by
  rcases List.mem_cons.1 h with rfl|h
  ·exact .inl hp
  ·exact .inr h,h.wx,h.eq,h.un,fun q hq=>h.bk q (by simp[hq])⟩
theorem WR.link{xs ys:List ah}{ld ps:List aB}{p q:aB}(h:WR xs ys ld (p::ps))(hs:∀r∈ps,jq p r=true)(hp:p∉ld)(hq:q∉ld)(hqi:aj xs q)(hpq:jq p q=true):WR (bf xs p q) (bf ys p q) (ld++[p]++[q]) ps:=by
 have hpi:=h.inP p (by simp);have hne:=wH hpq;have mem:∀r,r∈ld++[p]++[q]↔r∈ld∨r=p∨r=q:=fun r=>by simp[or_assoc]
 have hpy:=(JG h.sg p).1 hpi;have hqy:=(JG h.sg q).1 hqi;have e:∀r,aj xs r→aD (bf xs p q) r=if q=r then p else if p=r then q else aD xs r:=fun r hr=>eZ hpi hqi hr
 have e':∀r,aj xs r→aD (bf ys p q) r=if q=r then p else if p=r then q else aD ys r:=fun r hr=>eZ hpy hqy ((JG h.sg r).1 hr)
 refine⟨P8 (h.sg.link p q) (Sb ((bH.refl ys).link p q)),fun r hr=>(h.inP r (by simp[hr])).link,fun r hr=> ?_,(h.wx.link hpi hqi hp hq hne).congr mem,fun r hr=> ?_,fun r hr hn=> ?_,fun r hr hl=> ?_⟩
 ·rcases h.spl r hr.unlink with h1|h1
  ·exact .inl ((mem r).2 (.inl h1))
  ·rcases List.mem_cons.1 h1 with h2|h2
   ·exact .inl ((mem r).2 (.inr (.inl h2)))
   ·exact .inr h2
 ·have hri:aj xs r:=by
   rcases(mem r).1 hr with h1|rfl|rfl
   ·exact(h.wx r h1).1
   ·exact hpi
   ·exact hqi
  rw[e r hri,e' r hri];rcases(mem r).1 hr with h1|rfl|rfl
  ·rw[h.eq r h1]
  ·rw[if_neg hne.symm,if_pos rfl,if_neg hne.symm,if_pos rfl]
  ·rw[if_pos rfl,if_pos rfl]
 ·have hr':=hr.unlink;rw[mem]at hn;rw[e' r ((JG h.sg r).2 hr'),if_neg (fun e=>hn (.inr (.inr e.symm))),if_neg (fun e=>hn (.inr (.inl e.symm)))];exact h.un r hr' fun h=>hn (.inl h)
 ·have hri:=h.inP r (by simp[hr]);have hpr:=hs r hr;rw[e r hri];split
  ·rename_i e1;rw[←e1];exact hpq
  ·rename_i e1;rw[if_neg (wH hpr)];rcases(mem r).1 hl with h1|h1|h1
   ·exact h.bk r (by simp[hr]) h1
   ·exact absurd h1.symm (wH hpr)
   ·exact absurd h1.symm e1
theorem Yq(a b c d:Int):bV [a,b] [c,d]=decide ((a,b)=(c,d)):=by
 rw[Bool.eq_iff_iff];simp[bV,Prod.ext_iff]
structure WE(cs:List Int)(a:Nat)(xs:List ah)(ld ps:List aB)(rI:List ah×Dp)(rS:Option (List ah)×Dp)(X:List ah)(a':Nat):Prop where
 i:rI=(X,(a',false))
 s:rS=(some X,(a',false))
 sg:bH X xs
 wi:fE (fun p=>aj X p) X
 pe:∀p∈ld,aD X p=aD xs p
 e:ps.flatMap (kL X)=seg cs a a'
 le:a≤a'
 len:a'≤cs.length
theorem Qv{cs:List Int}(hb:mK cs):∀{ps:List aB} {xs ys:List ah} {ld:List aB} {a:Nat},ps.Pairwise (fun p q=>jq p q=true)→WR xs ys ld ps→a≤cs.length→
  (∃X a',WE cs a xs ld ps (rM cs ps xs ld (a,false)) (zW cs ps ys (a,false)) X a')∨((rM cs ps xs ld (a,false)).2.2=true∧(zW cs ps ys (a,false)).1=none)
 |[],xs,ys,ld,a,_,h,ha=>by
  have hall:∀p,aj xs p→p∈ld:=fun p hp=>(h.spl p hp).elim id fun h=>by cases h
  have hxy:xs=ys:=RD h.sg fun p hp=>h.eq p (hall p hp)
  refine .inl ⟨xs,a,rfl,by rw[←hxy];rfl,bH.refl _,h.wx.congr fun p=>⟨hall p,fun hp=>(h.wx p hp).1⟩,fun _ _=>rfl,(tL cs a).symm,Nat.le_refl _,ha⟩
 |p::ps,xs,ys,ld,a,hs,h,ha=>by
  have hs1:=(List.pairwise_cons.1 hs).1;have hs2:=(List.pairwise_cons.1 hs).2;have hpi:=h.inP p (by simp);unfold rM zW
  by_cases hpl:p∈ld
  ·have hpe:=h.eq p hpl;have hpn:=(h.wx p hpl).2.1;have h0:0≤(aD xs p).1:=((h.wx _ hpn).1).1;rw[decide_eq_true hpl,←hpe,decide_eq_true h0];simp only[Bool.true_or,cond_true];rcases Qv hb hs2 (h.tail hpl) ha with⟨X,a',w⟩|w
   ·refine .inl ⟨X,a',w.i,w.s,w.sg,w.wi,w.pe,?_,w.le,w.len⟩;rw[List.flatMap_cons,w.e]
    have:kL X p=[]:=by
     unfold kL;rw[w.pe p hpl,NH (h.bk p (by simp) hpl)];rfl
    rw[this];rfl
   ·exact .inr w
  ·have hpe:aD ys p=(-1,0):=h.un p ((JG h.sg p).1 hpi) hpl;rw[decide_eq_false hpl,hpe];simp only[Bool.false_or,cond_false];rw[show decide ((0:Int)≤ -1)=false from rfl];simp only[cond_false];rcases tC hb a with⟨n,a1,N⟩|⟨b1,b2⟩
   case inr=>
    refine .inr ⟨?_,?_⟩
    ·rw[J6 (b1 _)];rfl
    ·rw[wI b2];rfl
   rw[N.i,N.s];rcases by_cases' hb a1 with⟨b,a2,B⟩|⟨b1,b2⟩
   case inr=>
    refine .inr ⟨?_,?_⟩
    ·rw[b1 false];rfl
    ·rw[b2];rfl
   rw[B.i,B.s];simp only[Bool.false_or];rw[←Yz h.sg];cases hq:hasB xs (n,b)with
   |false=>exact .inr ⟨by simp,by simp⟩
   |true=>
    have hqi:=sH.1 hq
    by_cases hql:((n,b):aB)∈ld
    ·have hqe:=h.eq _ hql;have h0:0≤(aD ys (n,b)).1:=by rw[←hqe];exact((h.wx _ (h.wx _ hql).2.1).1).1
     rw[decide_eq_true hql,decide_eq_true h0];exact .inr ⟨by simp,by simp⟩
    ·have hqe:aD ys (n,b)=(-1,0):=h.un _ ((JG h.sg _).1 hqi) hql;rw[decide_eq_false hql,hqe,show decide ((0:Int)≤ -1)=false from rfl,Yq];rcases(h.spl _ hqi).elim (fun h=>absurd h hql) List.mem_cons.1 with hq1|hq1
     ·rw[←hq1,Cr];exact .inr ⟨by simp,by simp⟩
     ·have hbf:=hs1 _ hq1;rw[hbf,decide_eq_false (show ¬((n,b):aB)=(p.1,p.2) from fun e=>wH hbf e.symm)];simp only[Bool.not_true,Bool.or_false,cond_false];rcases Qv hb hs2 (h.link hs1 hpl hql hqi hbf) B.len with⟨X,a',w⟩|w
      ·have hX:aD X p=(n,b):=by
        rw[w.pe p (by simp),eZ hpi hqi hpi,if_neg (wH hbf).symm,if_pos rfl]
       have l1:=N.le;have l2:=B.le;have l3:=w.le;refine .inl ⟨X,a',w.i,w.s,P8 w.sg ((bH.refl xs).link _ _),w.wi,fun r hr=> ?_,?_,by omega,w.len⟩
       ·have hri:=(h.wx r hr).1;rw[w.pe r (by simp[hr]),eZ hpi hqi hri,if_neg (fun e:((n,b):aB)=r=>hql (by rw[e];exact hr)),if_neg (fun e:p=r=>hpl (by rw[e];exact hr))]
       ·rw[List.flatMap_cons,w.e]
        have:kL X p=seg cs a a2:=by
         unfold kL;rw[hX,hbf];show aX n++[IntKind.u8.wrap b]=_;rw[Io B.S9.1 B.S9.2,N.e,B.e,jC cs l1 l2]
        rw[this,jC cs (by omega) l3]
      ·exact .inr w
theorem kZ{xs:List ah}{i:Nat}(h:i<xs.length):ak xs ((i:Nat):Int)=xs[i]:=by
 unfold ak elt;rw[show(((i:Nat):Int)).toNat=i by omega,List.getD_eq_getElem?_getD,List.getElem?_eq_getElem h];rfl
theorem LJ{xs ys:List ah}:bH xs ys↔xs.map sig=ys.map sig:=by
 constructor
 ·intro h;refine List.ext_getElem (by rw[List.length_map,List.length_map,h.1]) fun i h1 h2=> ?_
  rw[List.length_map]at h1 h2;rw[List.getElem_map,List.getElem_map,←kZ h1,←kZ h2];exact h.2 _ (by omega) (by omega)
 ·intro h;have hl:xs.length=ys.length:=by have:=congrArg List.length h;rwa[List.length_map,List.length_map]at this
  refine⟨hl,fun i h0 h1=> ?_⟩;have h2:i.toNat<xs.length:=by omega
  have h3:i.toNat<ys.length:=by omega
  have e:((i.toNat:Nat):Int)=i:=by omega
  rw[←e,kZ h2,kZ h3];have:=List.getElem_of_eq h (i:=i.toNat) (by rw[List.length_map];exact h2)
  rwa[List.getElem_map,List.getElem_map]at this
structure Nk(xs:List ah):Prop where
 l1:1≤xs.length
 l2:xs.length≤600
 ok:∀i:Nat,i<xs.length→Wf (ak xs (i:Nat))∧((ak xs (i:Nat)).1=1↔i=0)
theorem oV{xs:List ah}:bP (gN xs).agents=true↔Nk xs:=by
 have hag:(gN xs).agents=xs.map gA:=rfl;rw[hag];unfold bP;rw[Bool.and_eq_true,List.length_map];constructor
 ·rintro⟨h3,h4⟩;have h3:=jl h3;refine⟨by omega,by omega,fun i hi=> ?_⟩;have:=jF h4 hi;unfold eP at this;rw[vk,Bool.and_eq_true]at this;refine⟨this.1,?_⟩;have h5:=this.2;have e:(gA (ak xs (i:Nat))).kind=(ak xs (i:Nat)).1:=rfl;rw[e,beq_iff_eq,Bool.eq_iff_iff,beq_iff_eq,beq_iff_eq]at h5;omega
 ·rintro⟨l1,l2,h⟩;refine⟨by unfold iy;simp;omega,?_⟩
  have key:∀i,i<xs.length→eP (xs.map gA) i=true:=fun i hi=>by
   unfold eP;obtain⟨hw,hr⟩:=h i hi;have hw:eO (gA (ak xs (i:Nat)))=true:=hw;rw[vk,hw];have e:(gA (ak xs (i:Nat))).kind=(ak xs (i:Nat)).1:=rfl;rw[e]
   by_cases h0:i=0
   ·subst h0;rw[hr.2 rfl];rfl
   ·have h1:((ak xs (i:Nat)).1==1)=false:=by
     rw[beq_eq_false_iff_ne];intro e;exact h0 (hr.1 e)
    have h2:(((i:Nat):Int)==0)=false:=by rw[beq_eq_false_iff_ne];omega
    rw[h1,h2];rfl
  simpa[dZ]using key
theorem Nk.sig{xs ys:List ah}(h:Nk xs)(e:bH xs ys):Nk ys:=by
 refine⟨by rw[←e.1];exact h.l1,by rw[←e.1];exact h.l2,fun i hi=> ?_⟩;have hi':i<xs.length:=by rw[e.1];exact hi
 have hs:=e.2 (i:Nat) (by omega) (by omega);have hk:(ak xs (i:Nat)).1=(ak ys (i:Nat)).1:=congrArg (fun s=>s.1) hs;rw[←BO hs,←hk];exact h.ok i hi'
theorem FQ{xs ys:List ah}(e:bH xs ys):bP (gN xs).agents=bP (gN ys).agents:=by
 rw[Bool.eq_iff_iff,oV,oV];exact⟨fun h=>h.sig e,fun h=>h.sig (Sb e)⟩
theorem OY{xs:List ah}(h:Nk xs)(w:fE (fun p=>aj xs p) xs):jY xs:=⟨h.l1,h.l2,fun i h0 h1=>by
 have:=(h.ok i.toNat (by omega)).1
 rwa[show((i.toNat:Nat):Int)=i by omega]at this,fun i h0 h1=>by
 have:=(h.ok i.toNat (by omega)).2;rw[show((i.toNat:Nat):Int)=i by omega]at this;rw[this];omega,w⟩
theorem KF{xs ys:List ah}(e:bH xs ys):∀i,i≤xs.length→sG (fun _=>false) xs i=sG (fun _=>false) ys i
 |0,_=>rfl
 |i+1,h=>by
  have hs:=e.2 (i:Nat) (by omega) (by omega);have hp:(ak xs (i:Nat)).2.2.2.2.length=(ak ys (i:Nat)).2.2.2.2.length:=congrArg (fun s=>s.2.2.2.2) hs;rw[sG,sG,KF e i (by omega),hp]
theorem Hu{xs ys:List ah}(e:bH xs ys):bF xs=bF ys:=by
 unfold bF;rw[KF e xs.length (Nat.le_refl _),e.1]
def encS(s:Int×Int×Int×List Int×Nat):List Int:=[IntKind.u8.wrap s.1]++((bif aG s.1 then[IntKind.u8.wrap s.2.1]else[])++((bif aM s.1 then aX s.2.2.1 else[])++((bif s.1==10 then[IntKind.u8.wrap ((s.2.2.2.1.length:Nat):Int)]else[])++(s.2.2.2.1.flatMap aX++(bif s.1==9 then[IntKind.u8.wrap (IntKind.i64.wrap (((s.2.2.2.2:Nat):Int)-1))]else[])))))
theorem Oa{xs ys:List ah}(e:bH xs ys):(xs.drop 1).flatMap dR=(ys.drop 1).flatMap dR:=by
 have h:∀l:List ah,l.flatMap dR=(l.map sig).flatMap encS:=fun l=>by rw[List.flatMap_map];rfl
 rw[h,h,List.map_drop,List.map_drop,LJ.1 e]
theorem LZ{cs:List Int}:∀{ps:List aB} {xs:List ah} {ld:List aB} {s:Dp},s.2=true→(rM cs ps xs ld s).2.2=true
 |[],_,_,_,h=>h
 |p::ps,xs,ld,s,h=>by
  unfold rM;rw[h,Bool.or_true];exact LZ (ps:=ps) h
theorem FD{cs:List Int}:∀{ps:List aB} {xs:List ah} {ld:List aB} {s:Dp},bH (rM cs ps xs ld s).1 xs
 |[],_,_,_=>bH.refl _
 |p::ps,xs,ld,s=>by
  unfold rM;cases decide (p∈ld)||s.2 with
  |true=>exact FD
  |false=>
   simp only[cond_false];obtain⟨c,hc⟩:∃c,c=((jw cs (jE cs s).2).2.2|| !jq p ((jE cs s).1,(jw cs (jE cs s).2).1)|| !hasB xs ((jE cs s).1,(jw cs (jE cs s).2).1)||decide (((jE cs s).1,(jw cs (jE cs s).2).1)∈ld)):=⟨_,rfl⟩;rw[←hc];cases c with
   |true=>exact bH.refl _
   |false=>exact P8 FD ((bH.refl xs).link _ _)
structure RdE(cs:List Int)(a:Nat)(j:Nat)(xs ys:List ah)(a':Nat):Prop where
 i:dS (kJ cs) fu j (a,false)=(xs,(a',false))
 s:dS (gV cs) dO j (a,false)=(ys,(a',false))
 sg:xs.map sig=ys.map sig
 n:xs.length=j+1
 py:∀y∈ys,∃n,y.2.2.2.2=List.replicate n (-1,0)
 e:(∀x∈xs,0<x.2.2.2.2.length)→(xs.drop 1).flatMap dR=seg cs a a'
 le:a≤a'
 len:a'≤cs.length
theorem Tm{cs:List Int}(hb:mK cs){a:Nat}(ha:a≤cs.length):∀j,(∃xs ys a',RdE cs a j xs ys a')∨((dS (kJ cs) fu j (a,false)).2.2=true∧(dS (gV cs) dO j (a,false)).2.2=true)
 |0=>.inl ⟨[fu],[dO],a,rfl,rfl,rfl,rfl,fun y hy=>by rw[List.mem_singleton.1 hy];exact⟨1,rfl⟩,fun _=>(tL cs a).symm,Nat.le_refl _,ha⟩
 |j+1=>by
  rcases Tm hb ha j with⟨xs,ys,a1,r⟩|⟨b1,b2⟩
  ·rcases Wm hb a1 with⟨x,y,a2,g⟩|⟨b1,b2⟩
   ·have l1:=r.le;have l2:=g.le;refine .inl ⟨xs++[x],ys++[y],a2,?_,?_,?_,?_,fun z hz=> ?_,fun hp=> ?_,by omega,g.len⟩
    ·rw[dS,r.i,g.i];rfl
    ·rw[dS,r.s,g.s];rfl
    ·rw[List.map_append,List.map_append,r.sg,List.map_singleton,List.map_singleton];have:sig x=sig y:=by unfold sig;rw[g.shp.k,g.shp.l,g.shp.v,g.shp.d,g.shp.p]
     rw[this]
    ·rw[List.length_append,r.n];rfl
    ·rcases List.mem_append.1 hz with h|h
     ·exact r.py z h
     ·rw[List.mem_singleton.1 h];obtain⟨n,_,hn⟩:=g.px;exact⟨n,hn⟩
    ·have h1:=r.e fun x hx=>hp x (by simp[hx])
     have hn:=r.n;rw[List.drop_append_of_le_length (by omega),List.flatMap_append,h1,List.flatMap_cons,List.flatMap_nil,List.append_nil,g.e (hp x (by simp)),jC cs l1 l2]
   ·refine .inr ⟨?_,?_⟩
    ·rw[dS,r.i];exact b1
    ·rw[dS,r.s];exact b2
  ·refine .inr ⟨?_,?_⟩
   ·rw[dS,b1];exact b1
   ·rw[dS,b2];exact b2
structure NeE(cs:List Int)(a:Nat)(X:List ah)(a':Nat):Prop where
 i:jP cs (a,false)=(X,(a',false))
 s:yh cs (a,false)=(some X,(a',false))
 ok:jY X
 e:bZ X=seg cs a a'
 le:a≤a'
 len:a'≤cs.length
theorem OU{cs:List Int}{s:Dp}(h:(rM cs (bF (iI cs s).1) (iI cs s).1 [] (iI cs s).2).2.2=true):(jP cs s).2.2=true:=by
 unfold jP;show(_||_)=true;rw[h];rfl
theorem ne_eq{cs:List Int}(hb:mK cs)(a:Nat):(∃X a',NeE cs a X a')∨((jP cs (a,false)).2.2=true∧(yh cs (a,false)).1=none):=by
 have bS:xX cs (a,false)=true→(yh cs (a,false)).1=none:=fun h=>by unfold yh;rw[h];rfl
 have bA:(iI cs (a,false)).2.2=true→(jP cs (a,false)).2.2=true:=fun h=>OU (LZ h)
 rcases tC hb a with⟨c,a1,N⟩|⟨b1,b2⟩
 case inr=>
  have h1:(oK cs (a,false)).2=true:=by
   show((jE cs (a,false)).2.2||_)=true;rw[b1 false];rfl
  refine .inr ⟨bA ?_,bS ?_⟩
  ·unfold iI;rw[qp h1];exact h1
  ·unfold xX lg;rw[qp b2];show(((iE cs (a,false)).2.2||decide ((iE cs (a,false)).1<1))|| !bP (gN [dO]).agents)=true;rw[b2];rfl
 have hst:oK cs (a,false)=(a1,Aa c):=by unfold oK;rw[N.i];rfl
 have hag:iI cs (a,false)=dS (kJ cs) fu (c.toNat-1) (a1,Aa c):=by unfold iI;rw[N.i,hst]
 have hagS:lg cs (a,false)=dS (gV cs) dO (c.toNat-1) (a1,false):=by unfold lg;rw[N.s]
 have hbd:xX cs (a,false)=(((lg cs (a,false)).2.2||decide (c<1))|| !bP (gN (lg cs (a,false)).1).agents):=by unfold xX;rw[N.s]
 cases hc:Aa c with
 |true=>
  refine .inr ⟨bA ?_,bS ?_⟩
  ·rw[hag,hc,qp rfl]
  ·rw[hbd];unfold Aa at hc;rw[Bool.or_eq_true,decide_eq_true_eq,decide_eq_true_eq]at hc;rcases hc with hc|hc
   ·rw[decide_eq_true hc];simp
   ·cases hb2:(lg cs (a,false)).2.2 with
    |true=>rfl
    |false=>
     have hln:(lg cs (a,false)).1.length=c.toNat:=by
      rw[hagS]at hb2 ⊢;rw[Bp hb2];omega
     have:bP (gN (lg cs (a,false)).1).agents=false:=by
      rw[←Bool.not_eq_true,oV];intro h;have:=h.l2;omega
     rw[this];simp
 |false=>
  rw[hc]at hag;have hcr:=II hc;rcases Tm hb N.len (c.toNat-1)with⟨xs,ys,a2,r⟩|⟨b1,b2⟩
  case inr=>
   refine .inr ⟨bA (by rw[hag];exact b1),bS ?_⟩;rw[hbd,hagS,b2];rfl
  rw[r.i]at hag;rw[r.s]at hagS;have hsg:bH xs ys:=LJ.2 r.sg;rw[hagS]at hbd;have hbd:xX cs (a,false)=((false||decide (c<1))|| !bP (gN ys).agents):=hbd;rw[decide_eq_false (show ¬c<1 by omega)]at hbd;have hne:jP cs (a,false)=((rM cs (bF xs) xs [] (a2,false)).1,((rM cs (bF xs) xs [] (a2,false)).2.1,(rM cs (bF xs) xs [] (a2,false)).2.2|| !gW (gN (rM cs (bF xs) xs [] (a2,false)).1))):=by unfold jP;rw[hag]
  cases hA:bP (gN ys).agents with
  |false=>
   refine .inr ⟨?_,bS (by rw[hbd,hA];rfl)⟩;rw[hne]
   have:gW (gN (rM cs (bF xs) xs [] (a2,false)).1)=false:=by
    unfold gW;rw[FQ (P8 FD hsg),hA];rfl
   rw[this];exact Bool.or_true _
  |true=>
   rw[hA]at hbd;have hge:yh cs (a,false)=zW cs (bF ys) ys (a2,false):=by unfold yh;rw[hbd,hagS];rfl
   have hok:=(oV.1 hA).sig (Sb hsg);rw[←Hu hsg]at hge
   have hunl:∀p,aj ys p→aD ys p=(-1,0):=fun p ⟨h0,h1,h2,h3⟩=>by
    have hi:p.1.toNat<ys.length:=by omega
    have e:((p.1.toNat:Nat):Int)=p.1:=by omega
    obtain⟨n,hn⟩:=r.py (ys[p.1.toNat]) (List.getElem_mem hi);have hag:ak ys p.1=ys[p.1.toNat]:=by rw[←kZ hi,e]
    unfold aD;rw[hag]at h3 ⊢;have h3:p.2<((ys[p.1.toNat].2.2.2.2.length:Nat):Int):=h3;show elt (dflt aQ) ys[p.1.toNat].2.2.2.2 p.2=_;rw[hn]at h3 ⊢;rw[List.length_replicate]at h3;unfold elt;rw[List.getD_eq_getElem?_getD,List.getElem?_replicate,if_pos (by omega)];rfl
   have hWR:WR xs ys [] (bF xs):=⟨hsg,fun p hp=>(xu xs p).1 hp,fun p hp=>.inr ((xu xs p).2 hp),fun p hp=>(by cases hp),fun p hp=>(by cases hp),fun p hp _=>hunl p hp,fun p _ hp=>(by cases hp)⟩;rcases Qv hb (Hw xs) hWR r.len with⟨X,a3,w⟩|⟨b1,b2⟩
   ·have hokX:=OY (hok.sig (Sb w.sg)) w.wi;have l1:=N.le;have l2:=r.le;have l3:=w.le;refine .inl ⟨X,a3,?_,by rw[hge,w.s],hokX,?_,by omega,w.len⟩
    ·rw[hne,w.i,zP hokX];rfl
    ·unfold bZ
     have hpos:∀x∈xs,0<x.2.2.2.2.length:=fun x hx=>by
      obtain⟨i,hi,rfl⟩:=List.mem_iff_getElem.1 hx;have:=(oN (hok.ok i hi).1).1
      rwa[kZ hi]at this
     have hXl:((X.length:Nat):Int)=c:=by rw[w.sg.1,r.n];omega
     rw[hXl,Oa w.sg,Hu w.sg,r.e hpos,w.e,N.e,jC cs l2 l3,jC cs l1 (by omega)]
   ·exact .inr ⟨by rw[hne,b1];rfl,by rw[hge];exact b2⟩
theorem Pj:bY Try.prog 18=true:=by kernel_rfl
theorem ES:bY Try.prog 5=true:=by kernel_rfl
theorem Pk:bY Try.prog 7=true:=by kernel_rfl
def iY(b:List Int)(k:Int):Int:=bif bI b !=0 then bI b else bif elt 0 b 5 !=k then 14 else 0
theorem SH(b:List Int)(hb:mK b)(k:Int):aC Try.prog 18 [.rsl bn b,.int .i64 k] [] (bif iY b k !=0 then .tup [.raw (.pointer none),.int .i64 (iY b k)]else .tup [.ptr 10000 0,.int .i64 0]) (bif iY b k !=0 then[]else[cR (midD b) (0,false)]):=by
 have hO:=Yw b hb.len;cases h:bI b==0 with
 |true=>
  have h0:bI b=0:=by simpa using h
  have hO:aC Try.prog 31 [.rsl bn b] [] (.tup [.int .i64 (IntKind.i64.wrap (elt 0 b 5)),.rsl bn (midD b),.int .i64 0]) []:=by unfold G9 at hO;rw[h]at hO;exact hO
  rw[Gx (hb.elt 5)]at hO;refine aC.intro (nt:=28) aS mixed Pj Try.func18 rfl rfl rfl rfl rfl rfl ?_;refine Or.inr (eI _ (eI _ (aI hO ?_)));refine aI (fun q=> ?_) (fun q=> ?_)
  ·have q:(elt 0 b 5 !=k)=true:=q;have e:iY b k=14:=by unfold iY;rw[h0,q];rfl
   rw[e];refine aI (fun _=> ?_) (fun q=>absurd q (by decide));exact fin [] (aI rfl trivial)
  ·have q:(elt 0 b 5 !=k)=false:=q;have e:iY b k=0:=by unfold iY;rw[h0,q];rfl
   rw[e];refine aI (fun q=>absurd q (by decide)) (fun _=> ?_);exact fin [(10000,27)] (aI rfl ⟨trivial,⟨rfl,⟨rfl,rfl⟩,rfl,trivial⟩,trivial⟩)
 |false=>
  have h0:(bI b !=0)=true:=by rw[bne,h];rfl
  have hO:aC Try.prog 31 [.rsl bn b] [] (.tup [.int .i64 0,.raw (.slice none 0 0),.int .i64 (bI b)]) []:=by unfold G9 at hO;rw[h]at hO;exact hO
  have e:iY b k=bI b:=by unfold iY;rw[h0];rfl
  rw[e,h0];refine aC.intro (nt:=28) aS mixed Pj Try.func18 rfl rfl rfl rfl rfl rfl ?_;refine Or.inr (eI _ (eI _ (aI hO ?_)));refine aI (fun q=>by have q:(bif bI b==0 then(0:Int) !=k else false)=true:=q;rw[h]at q;cases q) (fun _=> ?_);refine aI (fun _=> ?_) (fun q=>by have q:(bI b !=0)=false:=q;rw[h0]at q;cases q);exact fin [] (aI rfl trivial)
theorem Oc(cs:List Int)(s:Dp):aC Try.prog 20 [.ptr 10000 0] [cR cs s] (.bool (!s.2&&decide (s.1=cs.length))) [cR cs s]:=by
 refine aC.intro (nt:=20) aS mixed (by kernel_rfl) Try.func20 rfl rfl rfl rfl rfl rfl ?_;refine aI (by kernel_rfl) ?_;refine fin [] (aI ?_ ⟨trivial,⟨rfl,⟨rfl,rfl⟩,rfl,trivial⟩,trivial⟩);show(bif !s.2 then(((s.1:Nat):Int)==((cs.length:Nat):Int))else false)=_;rw[aY]
 congr 1
 rw[Bool.eq_iff_iff,beq_iff_eq,decide_eq_true_eq];omega
noncomputable def dL(b:List Int):List ah×Int:=bif iY b 1 !=0 then([],iY b 1)else
 bif (jP (midD b) (0,false)).2.2|| !decide (bJ 1 (bZ (jP (midD b) (0,false)).1)=b)then([],14)else((jP (midD b) (0,false)).1,0)
def JW(f:FuncId)(args:List SV)(R:List ah×Int):Prop:=
 (R.1=[]∧aC Try.prog f args [] (.tup [nD,.int .i64 R.2]) [])∨aC Try.prog f args [] (.tup [.agg [.sl 10000],.int .i64 R.2]) [.row 10000 64 5 aV R.1 []]
theorem CS{k:Int}{c d:List Int}(h:bJ k c=bJ k d):c=d:=by
 have hl:=congrArg List.length h;rw[lZ,lZ]at hl;rw[uE,uE]at h;have:=(List.append_inj h (by rw[zM,zM];omega)).1;unfold hdF at this;simpa using this
theorem Q7(b:List Int)(hb:mK b):JW 7 [.rsl bn b] (dL b):=by
 have I1:∀c:Int,aC Try.prog 21 (dArgs b) [] (.tup [nD,.int .i64 c]) []→aC Try.prog 7 [.rsl bn b] [] (.tup [nD,.int .i64 c]) []:=fun c h=>by
  refine aC.intro (nt:=8) aS mixed Pk Try.func7 rfl rfl rfl rfl rfl rfl ?_;refine Or.inr (eI _ (eI _ (aI h ?_)));exact fin [] (aI rfl trivial)
 have I2:∀X:List ah,aC Try.prog 21 (dArgs b) [] (.tup [.agg [.sl 10000],.int .i64 0]) [.row 10000 64 5 aV X []]→aC Try.prog 7 [.rsl bn b] [] (.tup [.agg [.sl 10000],.int .i64 0]) [.row 10000 64 5 aV X []]:=fun X h=>by
  refine aC.intro (nt:=8) aS mixed Pk Try.func7 rfl rfl rfl rfl rfl rfl ?_;refine Or.inr (eI _ (eI _ (aI h ?_)));exact fin [(10000,5)] (aI rfl ⟨⟨rfl,nP⟩,trivial⟩)
 by_cases h:bI b=0
 ·by_cases hk:elt 0 b 5=1
  ·have e:iY b 1=0:=by unfold iY;rw[h,hk];rfl
   cases hbad:(jP (midD b) (0,false)).2.2 with
   |true=>
    have eR:dL b=([],14):=by unfold dL;rw[e,hbad];rfl
    rw[eR];exact .inl ⟨rfl,I1 14 (WM b hb h hk hbad)⟩
   |false=>
    have hd:=U2 b hb h hk hbad;cases hf:decide (bJ 1 (bZ (jP (midD b) (0,false)).1)=b)with
    |true=>
     have eR:dL b=((jP (midD b) (0,false)).1,0):=by unfold dL;rw[e,hbad,hf];rfl
     rw[hf]at hd;rw[eR];exact .inr (I2 _ hd)
    |false=>
     have eR:dL b=([],14):=by unfold dL;rw[e,hbad,hf];rfl
     rw[hf]at hd;rw[eR];exact .inl ⟨rfl,I1 14 hd⟩
  ·have e:iY b 1=14:=by unfold iY;rw[h,show(elt 0 b 5 !=1)=true by simpa using hk];rfl
   have eR:dL b=([],14):=by unfold dL;rw[e];rfl
   rw[eR];exact .inl ⟨rfl,I1 14 (WL b hb h hk)⟩
 ·have h1:(bI b !=0)=true:=by simpa using h
  have e:iY b 1=bI b:=by unfold iY;rw[h1];rfl
  have eR:dL b=([],bI b):=by unfold dL;rw[e,h1];rfl
  rw[eR];exact .inl ⟨rfl,I1 _ (WK b hb h)⟩
theorem Gs{cs:List Int}{s:Dp}(h:(yh cs s).1=none):(yh cs s).2.2=true:=by
 have w:∀{ps:List aB} {xs:List ah} {s:Dp},(zW cs ps xs s).1=none→(zW cs ps xs s).2.2=true:=fun {ps}=>by
  induction ps with
  |nil=>intro xs s h;cases h
  |cons p ps ih=>
   intro xs s h;unfold zW at h ⊢;cases hc:decide (0≤(aD xs p).1)with
   |true=>rw[hc]at h;exact ih h
   |false=>
    rw[hc]at h;simp only[cond_false]at h ⊢;obtain⟨c,hc⟩:∃c,c=((((gK cs (iE cs s).2).2.2|| !hasB xs ((iE cs s).1,(gK cs (iE cs s).2).1))||bV [(iE cs s).1,(gK cs (iE cs s).2).1] [p.1,p.2])||decide (0≤(aD xs ((iE cs s).1,(gK cs (iE cs s).2).1)).1)):=⟨_,rfl⟩;rw[←hc]at h ⊢;cases c with
    |true=>rfl
    |false=>exact ih h
 unfold yh at h ⊢;cases hb:xX cs s with
 |true=>rfl
 |false=>rw[hb]at h;exact w h
theorem Q8(b:List Int)(hb:mK b):JW 5 [.rsl bn b] (dL b):=by
 have hC:=SH b hb 1;cases hc:iY b 1 !=0 with
 |true=>
  have eR:dL b=([],iY b 1):=by unfold dL;rw[hc];rfl
  rw[hc]at hC;have hC:aC Try.prog 18 [.rsl bn b,.int .i64 1] [] (.tup [.raw (.pointer none),.int .i64 (iY b 1)]) []:=hC;rw[eR];refine .inl ⟨rfl,?_⟩;refine aC.intro (nt:=23) aS mixed ES Try.func5 rfl rfl rfl rfl rfl rfl ?_;refine Or.inr (eI _ (eI _ (aI hC ?_)));refine aI (fun _=> ?_) (fun q=>by have q:(iY b 1 !=0)=false:=q;rw[hc]at q;cases q);exact fin [] (aI rfl trivial)
 |false=>
  rw[hc]at hC;have hC:aC Try.prog 18 [.rsl bn b,.int .i64 1] [] (.tup [.ptr 10000 0,.int .i64 0]) [cR (midD b) (0,false)]:=hC
  have h0:bI b=0:=by
   unfold iY at hc;cases h:bI b !=0 with
   |true=>rw[h]at hc;rw[show(bif true then bI b else _)=bI b from rfl,h]at hc;cases hc
   |false=>simpa using h
  have hk:elt 0 b 5=1:=by
   unfold iY at hc;rw[h0]at hc;cases h:elt 0 b 5 !=1 with
   |true=>rw[h]at hc;cases hc
   |false=>simpa using h
  obtain⟨hm,hml⟩:=nM hb h0;obtain⟨h10,h60,hfr,_,_⟩:=rX h0;rw[hk]at hfr;have hG:=Vf (midD b) hm (by omega) (0,false) (Nat.zero_le _)
  have bad:(yh (midD b) (0,false)).1=none→JW 5 [.rsl bn b] ([],14):=fun h=>by
   have h2:=Gs h;rw[h]at hG;have hG:aC Try.prog 19 [.ptr 10000 0] [cR (midD b) (0,false)] nD [cR (midD b) (yh (midD b) (0,false)).2]:=hG;refine .inl ⟨rfl,?_⟩;refine aC.intro (nt:=23) aS mixed ES Try.func5 rfl rfl rfl rfl rfl rfl ?_;refine Or.inr (eI _ (eI _ (aI hC ?_)));refine aI (fun q=>absurd q (by decide)) (fun _=> ?_);refine Or.inr (eI _ (eI _ (aI hG ?_)));refine Or.inr (eI _ (eI _ (aI (Oc _ _) ?_)));refine aI (fun _=> ?_) (fun q=>by have q:(!(!(yh (midD b) (0,false)).2.2&&decide ((yh (midD b) (0,false)).2.1=(midD b).length)))=false:=q;rw[h2]at q;cases q)
   exact fin [] (aI rfl trivial)
  rcases ne_eq hm 0 with⟨X,a',n⟩|⟨n1,n2⟩
  ·have hrd:dL b=bif decide (a'=(midD b).length)then(X,0)else([],14):=by
    unfold dL;rw[hc,n.i]
    have e:decide (bJ 1 (bZ X)=b)=decide (a'=(midD b).length):=by
     rw[Bool.eq_iff_iff,decide_eq_true_eq,decide_eq_true_eq,n.e,Tq];constructor
     ·intro h;have h:bJ 1 ((midD b).take a')=bJ 1 (midD b):=h.trans hfr.symm;have:=congrArg List.length (CS h);rw[List.length_take]at this;have:=n.len;omega
     ·intro h;rw[h,List.take_length];exact hfr
    simp only[cond_false,Bool.false_or];rw[e];cases decide (a'=(midD b).length)<;>rfl
   rw[n.s]at hG;have hG:aC Try.prog 19 [.ptr 10000 0] [cR (midD b) (0,false)] (.agg [.sl 10001]) [cR (midD b) (a',false),.row 10001 64 5 aV X []]:=hG;cases hd:decide (a'=(midD b).length)with
   |true=>
    rw[hrd,hd];refine .inr ?_;refine aC.intro (nt:=23) aS mixed ES Try.func5 rfl rfl rfl rfl rfl rfl ?_;refine Or.inr (eI _ (eI _ (aI hC ?_)));refine aI (fun q=>absurd q (by decide)) (fun _=> ?_);refine Or.inr (eI _ (eI _ (aI hG ?_)));refine Or.inr (eI _ (eI _ (aI (Oc _ _) ?_)));refine aI (fun q=>by have q:(!(!false&&decide (a'=(midD b).length)))=true:=q;rw[hd]at q;cases q) (fun _=> ?_);exact fin [(10000,17)] (aI rfl ⟨⟨rfl,nP⟩,trivial⟩)
   |false=>
    rw[hrd,hd];refine .inl ⟨rfl,?_⟩;refine aC.intro (nt:=23) aS mixed ES Try.func5 rfl rfl rfl rfl rfl rfl ?_;refine Or.inr (eI _ (eI _ (aI hC ?_)));refine aI (fun q=>absurd q (by decide)) (fun _=> ?_);refine Or.inr (eI _ (eI _ (aI hG ?_)));refine Or.inr (eI _ (eI _ (aI (Oc _ _) ?_)));refine aI (fun _=> ?_) (fun q=>by have q:(!(!false&&decide (a'=(midD b).length)))=false:=q;rw[hd]at q;cases q);exact fin [] (aI rfl trivial)
  ·have hrd:dL b=([],14):=by
    unfold dL;rw[hc,n1];rfl
   rw[hrd];exact bad n2
end Go.Proofs.Ytdpclbjjmhkgiaa
