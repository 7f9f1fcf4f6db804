
/- Channels: a law's channel. -/
import Derived.Test.YtbakpddomlgjbaaCo
import Derived.Test.YtbakpddomlgjbaaWc
set_option linter.unusedSimpArgs false
set_option linter.unusedVariables false
namespace Go.Proofs.Ytbakpddomlgjbaa
open Go Go.RowKit Go.Proofs Go.Tr
abbrev sNew(w:Int):eB:=⟨w.toNat,0,0,0,[],[]⟩
abbrev cNew(g:Nat)(w:Int):List SV:=[.int .i64 w,.sl g,.int .i64 0,.int .i64 0,.int .i64 0,.raw (.slice none 0 0),.raw (.slice none 0 0),.raw (.slice none 0 0)]
abbrev Bt:List SV:=[.int .i64 0,.raw (.slice none 0 0),.int .i64 0,.int .i64 0,.int .i64 0,.raw (.slice none 0 0),.raw (.slice none 0 0),.raw (.slice none 0 0)]
section
variable {ms:List ByteArray}{w:Int}
theorem MJ(h:pQ w ms):aB Try.prog 25 [.rp eZ (GX w ms)] (.bool true):=by
 obtain⟨h1,h2⟩:=Dz h;rw[h2];exact vk h1
theorem MO(h:pQ w ms):au Try.prog 44 [.rp eZ (GX w ms)] [] (.agg (oO 10000 10001 10002 10003 ms (sNew w))) [rT 10000 ms,rP 10001 [],rT 10002 [],rP 10003 []]:=by
 obtain⟨h1,h2⟩:=Dz h;rw[h2];exact Py h1
set_option maxRecDepth 100000 in
theorem KP(h:pQ w ms):au Try.prog 53 [.sl 10000,.int .i64 w] [rT 10000 ms] (.tup [.agg (oO 10001 10002 10003 10004 ms (sNew w)),.int .i64 0]) [rT 10001 ms,rP 10002 [],rT 10003 [],rP 10004 []]:=by
 refine au.intro (nt:=14) aC mixed G9 Try.func53 rfl rfl rfl rfl rfl rfl ?_;have hq:au Try.prog 25 [.ptr 10000 0] [.bQ 10000 27 (cNew 10001 w),rT 10001 ms] (.bool true) [.bQ 10000 27 (cNew 10001 w),rT 10001 ms]:=au.mo aC [55] sU (MJ h) rfl;refine oY hq ?_;refine aI (fun q=>by cases q) (fun _=> ?_);have ho:au Try.prog 44 [.ptr 10000 0] [.bQ 10000 27 (cNew 10001 w),rT 10001 ms] (.agg (oO 10002 10003 10004 10005 ms (sNew w))) ([rT 10002 ms,rP 10003 [],rT 10004 [],rP 10005 []]++[.bQ 10000 27 (cNew 10001 w),rT 10001 ms]):=au.BU aC [55] BX (MO h) rfl rfl rfl
 refine oY ho ?_;refine fin [(10001,13),(10002,1000013),(10003,2000013),(10004,3000013)] (aI rfl ?_);exact⟨⟨rfl,nP⟩,⟨rfl,nP⟩,⟨rfl,nP⟩,⟨rfl,nP⟩,trivial⟩
set_option maxRecDepth 100000 in
theorem Pj(hl:ms.length<=1000000)(h:¬pQ w ms):au Try.prog 53 [.sl 10000,.int .i64 w] [rT 10000 ms] (.tup [.agg Bt,.int .i64 2]) []:=by
 refine au.intro (nt:=14) aC mixed G9 Try.func53 rfl rfl rfl rfl rfl rfl ?_;have hq:au Try.prog 25 [.ptr 10000 0] [.bQ 10000 27 (cNew 10001 w),rT 10001 ms] (.bool false) [.bQ 10000 27 (cNew 10001 w),rT 10001 ms]:=au.mo aC [55] sU (Mv hl h) rfl;refine oY hq ?_;refine aI (fun _=> ?_) (fun q=>by cases q);refine fin [] (aI rfl ?_);exact trivial
end
abbrev abc:List ByteArray:=[⟨#[97]⟩,⟨#[98]⟩,⟨#[99]⟩]
theorem Fp:pQ 2 abc:=⟨by omega,by decide,fun m hm=>by
 have h:∀m∈abc,m.size<=40:=by
  intro m hm;rcases List.mem_cons.1 hm with rfl|hm
  .decide
  rcases List.mem_cons.1 hm with rfl|hm
  .decide
  rcases List.mem_cons.1 hm with rfl|hm
  .decide
  cases hm
 exact h m hm⟩
def tu(code:List Int)(m:Nat)(x:eB×DS):eB×DS:=
 let e:=elt (dflt bM) (evs m x.1) (pk code x.2 ((evs m x.1).length:Nat)).1
 let d:=(pk code x.2 ((evs m x.1).length:Nat)).2
 bif e.1==5 then(bif (pk code d 6).1==0 then(bJ x.1 e,(pk code d 6).2)else(bJ x.1 (elt (dflt bM) (evs m x.1) 0),(pk code d 6).2))else(bJ x.1 e,d)
def nH(code:List Int)(m:Nat):Nat->eB×DS->eB×DS
 |0,x=>x
 |k+1,x=>bif (evs m x.1).length==0 then x else nH code m k (tu code m x)
section
variable {code:List Int}{ms:List ByteArray}
theorem gq{α:Type}{dd:α}{l:List α}{i:Int}(h0:0<=i)(h1:i<(l.length:Nat)):elt dd l i∈l:=by
 have hk:i.toNat<l.length:=by omega
 unfold elt;rw[qC,qB hk];exact List.getElem_mem hk
theorem vW(hb:Bytes code){x:eB×DS}(h:aW ms x.1)(hne:(evs ms.length x.1).length≠0):aW ms (tu code ms.length x).1/\(tu code ms.length x).2.k<=x.2.k+4:=by
 have p0:=pW hb x.2 ((evs ms.length x.1).length:Nat);have p1:=jI hb x.2 (n:=((evs ms.length x.1).length:Nat)) (by omega);have p2:=kS code x.2 ((evs ms.length x.1).length:Nat);have p3:=kS code (pk code x.2 ((evs ms.length x.1).length:Nat)).2 6;have h1:=l8 h (ak _ (gq (dd:=dflt bM) p0 p1));have h2:=l8 h (ak _ (gq (dd:=dflt bM) (l:=evs ms.length x.1) (i:=0) (Int.le_refl _) (by omega)));unfold tu;simp only;cases (elt (dflt bM) (evs ms.length x.1) (pk code x.2 ((evs ms.length x.1).length:Nat)).1).1==5 with
 |false=>exact⟨h1.1,by show(pk code x.2 ((evs ms.length x.1).length:Nat)).2.k<=_;omega⟩
 |true=>
  simp only[qG];cases (pk code (pk code x.2 ((evs ms.length x.1).length:Nat)).2 6).1==0 with
  |true=>exact⟨h1.1,by show(pk code (pk code x.2 ((evs ms.length x.1).length:Nat)).2 6).2.k<=_;omega⟩
  |false=>exact⟨h2.1,by show(pk code (pk code x.2 ((evs ms.length x.1).length:Nat)).2 6).2.k<=_;omega⟩
theorem zI(hb:Bytes code):∀(k:Nat) {x:eB×DS},aW ms x.1->aW ms (nH code ms.length k x).1/\(nH code ms.length k x).2.k<=x.2.k+4*k
 |0,x,h=>⟨h,Nat.le_refl _⟩
 |k+1,x,h=>by
  unfold nH;cases he:(evs ms.length x.1).length==0 with
  |true=>exact⟨h,by show x.2.k<=_;omega⟩
  |false=>
   have h1:=vW hb h (by simpa using he);have h2:=zI hb k h1.1;simp only[qH];exact⟨h2.1,by omega⟩
theorem yL{s:eB}(h:aW ms s):au Try.prog 26 [.ptr 10000 0] (tS 10002 10003 10004 ms s) (.sl 10005) ([.row 10005 33 2 bM (evs ms.length s) []]++tS 10002 10003 10004 ms s):=
 au.BU (ts2:=[.row 10005 33 2 bM (evs ms.length s) []]) aC [55] MI (OL h) rfl rfl rfl
end
end Go.Proofs.Ytbakpddomlgjbaa
