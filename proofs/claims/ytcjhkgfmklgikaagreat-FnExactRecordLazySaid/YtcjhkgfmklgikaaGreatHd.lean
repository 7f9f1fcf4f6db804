
/- The pair on which a value waits: the program's way. -/
import Derived.Test.YtcjhkgfmklgikaaGreatShort
import Derived.Test.YtcjhkgfmklgikaaGreatHc
import Derived.Test.YtcjhkgfmklgikaaGreatNy
set_option linter.unusedSimpArgs false
set_option linter.unusedVariables false
set_option linter.unusedSectionVars false
namespace Go.Tr
open Go Go.RowKit
theorem Mj(l:List Int)(a:Int):elt 0 (l++[a]) (((l++[a]).length:Nat)-1:Int)=a:=by
 unfold elt;have e:((((l++[a]).length:Nat):Int)-1).toNat=l.length:=by rw[qA,qJ];omega
 rw[e,qC,qL (Nat.le_refl _),Nat.sub_self];rfl
structure Ki(A:List aj)(D:Int→Prop)(q0 q:aD)(kv:List (Int×Bool))(path:List Int):Prop where
 lv:Live D A q
 kvp:∀z,bE false kv z=true↔z∈path
 nd:path.Nodup
 pin:∀z∈path,0≤z∧z<(A.length:Nat)
 emp:path=[]→q=q0
 fst_:path≠[]→(q0.2==0)=false∧q0.1∈path
 con:path≠[]→∀m,gF A (path.length+m) q0.1=vW A q (elt 0 path ((path.length:Nat)-1:Int)) m
 cyc:∀z∈path,au A (z,0)=q∨((au A (z,0)).2==0)=false∧(au A (z,0)).1∈path
 wy:way A q0=path++(bif q.2==0 then[]else Dn A (A.length-path.length) q.1)
section
variable {A:List aj}{D:Int→Prop}{q0 q:aD}{kv:List (Int×Bool)}{path:List Int}
theorem Ki.start(h:Live D A q0):Ki A D q0 q0 [] []:=by
 exact⟨h,fun z=>⟨(fun e=>by cases e),(fun e=>by cases e)⟩,by simp,(fun z hz=>by cases hz),fun _=>rfl,fun e=>absurd rfl e,fun e=>absurd rfl e,(fun z hz=>by cases hz),rfl⟩
theorem Ki.len(h:Ki A D q0 q kv path):path.length≤A.length:=wH A.length h.nd h.pin
theorem Ki.next(W:Wd A D)(h:Ki A D q0 q kv path)(h2:(q.2==0)=false)(hs:bE false kv q.1=false):Ki A D q0 (au A (q.1,0)) (fM kv q.1 true) (path++[q.1])∧path.length+1≤A.length:=by
 have hl:=h.lv;have hp:Live D A (q.1,0):=⟨⟨hl.1.1,hl.1.2.1,Int.le_refl 0,Int.lt_of_le_of_lt hl.1.2.2.1 hl.1.2.2.2⟩,hl.2⟩;obtain⟨_,w2,_,_⟩:=W.wi _ hp
 have hnot:q.1∉path:=fun hm=>by
  have:=(h.kvp q.1).2 hm;rw[hs]at this;cases this
 have nd':(path++[q.1]).Nodup:=List.nodup_append.2 ⟨h.nd,by simp,fun a ha b hb e=>by
  rw[qX]at hb;subst hb e;exact hnot ha⟩
 have pin':∀z∈path++[q.1],0≤z∧z<(A.length:Nat):=fun z hz=>by
  rcases qT.1 hz with hz|hz
  ·exact h.pin z hz
  ·rw[qX]at hz;subst hz;exact⟨hl.1.1,hl.1.2.1⟩
 have hlen:(path++[q.1]).length≤A.length:=wH A.length nd' pin';rw[qA,qJ]at hlen;refine⟨⟨w2,fun z=> ?_,nd',pin',fun e=>absurd e (by simp),fun _=> ?_,fun _ m=> ?_,fun z hz=> ?_,?_⟩,hlen⟩
 ·rw[tL]
  by_cases e:q.1=z
  ·rw[if_pos e];subst e;simp
  ·rw[if_neg e,h.kvp z,qT,qX];constructor
   ·exact .inl
   ·rintro(k|k)
    ·exact k
    ·exact absurd k.symm e
 ·cases hpt:path with
  |nil=>
   have e:=h.emp hpt;rw[←e];exact⟨h2,by simp⟩
  |cons a l=>
   have k:=h.fst_ (by rw[hpt];simp);rw[←hpt];exact⟨k.1,List.mem_append_left _ k.2⟩
 ·rw[Mj,qA,qJ];cases hpt:path with
  |nil=>
   have e:=h.emp hpt;rw[←e,qR,show 0+1+m=m+1 by omega];rfl
  |cons a l=>
   have k:=h.con (by rw[hpt];simp) (m+1);rw[ES A q _ m h2]at k;rw[←hpt,show path.length+1+m=path.length+(m+1) by omega];exact k
 ·rcases qT.1 hz with hz|hz
  ·rcases h.cyc z hz with k|⟨k1,k2⟩
   ·rw[k];exact .inr ⟨h2,by simp⟩
   ·exact .inr ⟨k1,List.mem_append_left _ k2⟩
  ·rw[qX]at hz;subst hz;exact .inl rfl
 ·have k:=h.wy;rw[show A.length-path.length=(A.length-(path.length+1))+1 by omega,Ka A q _ h2]at k;rw[k,qA,qJ,qF];rfl
def zS(A:List aj)(q:aD)(path:List Int):Bool:=bif (bif q.2 !=0 then true else((path.length:Nat):Int)==0)then true else(ah A q.1).1==1
theorem Ki.I6(W:Wd A D)(hk:∀a:Int,0<a→a<(A.length:Nat)→¬D a→(ah A a).1≠1)(h:Ki A D q0 q kv path)(he:(bif q.2 !=0 then !(bE false kv q.1)else false)=false):
  fU A q0=(bif zS A q path then none else some (elt 0 path ((path.length:Nat)-1:Int),q.1))∧(zS A q path=false→path=way A q0∧0<path.length):=by
 have hlen:=h.len;unfold zS;cases h2:q.2==0 with
 |false=>
  have h3:(q.2 !=0)=true:=by simpa using h2
  rw[h3,qG]at he;have hm:q.1∈path:=(h.kvp q.1).1 (by simpa using he);have hne:path≠[]:=List.ne_nil_of_mem hm;obtain⟨f1,f2⟩:=h.fst_ hne;rw[h3];refine⟨?_,fun e=>by cases e⟩;show fU A q0=none;unfold fU;rw[f1,qH];refine Bl (S:=fun z=>z∈path) (fun z hz=> ?_) _ f2;rcases h.cyc z hz with k|k
  ·rw[k];exact⟨h2,hm⟩
  ·exact k
 |true=>
  have h3:(q.2 !=0)=false:=by simpa using h2
  rw[h3,qH];cases hpt:path with
  |nil=>
   have e:=h.emp hpt;refine⟨?_,fun e=>by cases e⟩;show fU A q0=none;unfold fU;rw[←e,h2];rfl
  |cons a l=>
   have hne:path≠[]:=by rw[hpt];simp
   have hz:((((a::l).length:Nat):Int)==0)=false:=by
    rw[qI];have:¬(((l.length+1:Nat):Int)=0):=by omega
    simpa using this
   rw[hz,qH,←hpt];obtain⟨f1,f2⟩:=h.fst_ hne;have hc:=fun m=>h.con hne m
   have hin:=h.pin _ f2
   have hw:fU A q0=vW A q (elt 0 path ((path.length:Nat)-1:Int)) (A.length-path.length):=by
    unfold fU;rw[f1,qH,←hc,show path.length+(A.length-path.length)=A.length by omega]
   have hr:((ah A q.1).1==1)=(q.1==0):=by
    rw[Bool.eq_iff_iff,beq_iff_eq,beq_iff_eq];constructor
    ·intro e
     by_cases h0:q.1=0
     ·exact h0
     ·have:=h.lv.1.1;exact absurd e (hk q.1 (by omega) h.lv.1.2.1 h.lv.2)
    ·intro e;rw[e];exact W.r1
   rw[hr];refine⟨?_,fun _=>⟨?_,by rw[hpt];simp⟩⟩
   ·rw[hw];unfold vW;rw[h2];rfl
   ·have k:=h.wy;rw[h2,qG,qS]at k;exact k.symm
end
end Go.Tr
namespace Go.Proofs.YtcjhkgfmklgikaaGreat
open Go Go.RowKit Go.Proofs Go.Tr
abbrev YD:=aD×List (Int×Bool)×List Int
def ZW(s:YD):List Tok:=[.dD 5 62 [.int .i64 0,.int .i64 0],.dD 8 86 [.int .i64 s.1.1,.int .i64 s.1.2],.map 14 .bool s.2.1,.row 20000 2 1 (.int .i64) s.2.2 []]
section
variable (A:List aj)(D:Int→Prop)(p:aD)(W:Wd A D)(hk:∀a:Int,0<a→a<(A.length:Nat)→¬D a→(ah A a).1≠1)(hp:Live D A p)(hl:A.length≤1000000)
include W hk hp hl
set_option maxRecDepth 100000 in
set_option maxHeartbeats 4000000 in
theorem QB(h:fU A (au A p)=none):aA Tryz.prog 48 [.rp bO A,vP p] [] (.tup [.raw (.slice none 0 0),vP (0,0),.bool false]) []:=by
 obtain⟨_,w2,_,_⟩:=W.wi p hp;refine aA.intro (nt:=75) aJ mixed zy Tryz.func48 rfl rfl rfl rfl rfl rfl ?_;refine Or.inl (eI _ (aI (Bg A p hp.1) ?_));refine lp YD (fun s=>[(7,.sl 20000)]) ZW (fun s=>A.length-s.2.2.length) (fun s=>Ki A D (au A p) s.1 s.2.1 s.2.2) (au A p,[],[]) (Ki.start w2) ?_ ?_
 ·exact Tz [⟨7,30000,2,1,(.int .i64)⟩] [(20000,30000)] rfl (aI (aI rfl trivial) ⟨trivial,⟨⟨rfl,rfl⟩,⟨rfl,rfl⟩,trivial⟩,trivial,⟨⟨rfl,rfl⟩,⟨rfl,rfl⟩,trivial⟩,rfl,⟨rfl,nP⟩,trivial⟩)
 rintro⟨q,kv,path⟩ hI;have hI':Ki A D (au A p) q kv path:=hI;have hpl:=hI'.len;refine aI (fun q1=> ?_) (fun q1=> ?_)
 ·have q2:(bif q.2 !=0 then !(bE false kv q.1)else false)=true:=q1
  have h2:(q.2==0)=false:=by
   cases h3:q.2==0 with
   |false=>rfl
   |true=>rw[show(q.2 !=0)=false by simpa using h3]at q2;cases q2
  have hs:bE false kv q.1=false:=by
   rw[show(q.2 !=0)=true by simpa using h2]at q2;simpa using q2
  obtain⟨hn,hl2⟩:=hI'.next W h2 hs;refine aI (show path.length+1≤1073741824 by omega) ?_;have hq:=hI'.lv.1;refine Or.inl (eI _ (aI (Bg A (q.1,0) ⟨hq.1,hq.2.1,Int.le_refl 0,Int.lt_of_le_of_lt hq.2.2.1 hq.2.2.2⟩) ?_));refine bB (au A (q.1,0),fM kv q.1 true,path++[q.1]) hn ?_ ?_
  ·exact hd [(20000,32)] rfl (aI rfl trivial) ⟨trivial,⟨⟨rfl,rfl⟩,⟨rfl,rfl⟩,trivial⟩,trivial,⟨⟨rfl,rfl⟩,⟨rfl,rfl⟩,trivial⟩,rfl,⟨rfl,nP⟩,trivial⟩
  ·show A.length-(path++[q.1]).length<A.length-path.length;rw[qA,qJ];omega
 ·have q2:(bif q.2 !=0 then !(bE false kv q.1)else false)=false:=q1;obtain⟨e1,_⟩:=hI'.I6 W hk q2;rw[h]at e1;have hq:=hI'.lv.1;refine aI (fun _=>⟨hq.1,hq.2.1⟩) ?_;refine aI (by kernel_rfl) ?_;refine aI (fun q3=> ?_) (fun q3=> ?_)
  ·exact fin [] (aI rfl trivial)
  ·exfalso;have q4:zS A q path=false:=q3;rw[q4]at e1;cases e1
set_option maxRecDepth 100000 in
set_option maxHeartbeats 4000000 in
theorem QD{a b:Int}(h:fU A (au A p)=some (a,b)):aA Tryz.prog 48 [.rp bO A,vP p] [] (.tup [.sl 10000,vP (min a b,max a b),.bool true]) [.row 10000 2 1 (.int .i64) (way A (au A p)) []]:=by
 obtain⟨_,w2,_,_⟩:=W.wi p hp;refine aA.intro (nt:=75) aJ mixed zy Tryz.func48 rfl rfl rfl rfl rfl rfl ?_;refine Or.inl (eI _ (aI (Bg A p hp.1) ?_));refine lp YD (fun s=>[(7,.sl 20000)]) ZW (fun s=>A.length-s.2.2.length) (fun s=>Ki A D (au A p) s.1 s.2.1 s.2.2) (au A p,[],[]) (Ki.start w2) ?_ ?_
 ·exact Tz [⟨7,30000,2,1,(.int .i64)⟩] [(20000,30000)] rfl (aI (aI rfl trivial) ⟨trivial,⟨⟨rfl,rfl⟩,⟨rfl,rfl⟩,trivial⟩,trivial,⟨⟨rfl,rfl⟩,⟨rfl,rfl⟩,trivial⟩,rfl,⟨rfl,nP⟩,trivial⟩)
 rintro⟨q,kv,path⟩ hI;have hI':Ki A D (au A p) q kv path:=hI;have hpl:=hI'.len;refine aI (fun q1=> ?_) (fun q1=> ?_)
 ·have q2:(bif q.2 !=0 then !(bE false kv q.1)else false)=true:=q1
  have h2:(q.2==0)=false:=by
   cases h3:q.2==0 with
   |false=>rfl
   |true=>rw[show(q.2 !=0)=false by simpa using h3]at q2;cases q2
  have hs:bE false kv q.1=false:=by
   rw[show(q.2 !=0)=true by simpa using h2]at q2;simpa using q2
  obtain⟨hn,hl2⟩:=hI'.next W h2 hs;refine aI (show path.length+1≤1073741824 by omega) ?_;have hq:=hI'.lv.1;refine Or.inl (eI _ (aI (Bg A (q.1,0) ⟨hq.1,hq.2.1,Int.le_refl 0,Int.lt_of_le_of_lt hq.2.2.1 hq.2.2.2⟩) ?_));refine bB (au A (q.1,0),fM kv q.1 true,path++[q.1]) hn ?_ ?_
  ·exact hd [(20000,32)] rfl (aI rfl trivial) ⟨trivial,⟨⟨rfl,rfl⟩,⟨rfl,rfl⟩,trivial⟩,trivial,⟨⟨rfl,rfl⟩,⟨rfl,rfl⟩,trivial⟩,rfl,⟨rfl,nP⟩,trivial⟩
  ·show A.length-(path++[q.1]).length<A.length-path.length;rw[qA,qJ];omega
 ·have q2:(bif q.2 !=0 then !(bE false kv q.1)else false)=false:=q1;obtain⟨e1,e2⟩:=hI'.I6 W hk q2;rw[h]at e1;have hq:=hI'.lv.1;refine aI (fun _=>⟨hq.1,hq.2.1⟩) ?_;refine aI (by kernel_rfl) ?_;refine aI (fun q3=> ?_) (fun q3=> ?_)
  ·exfalso;have q4:zS A q path=true:=q3;rw[q4]at e1;cases e1
  ·have q4:zS A q path=false:=q3;obtain⟨e3,e4⟩:=e2 q4;rw[q4,qH]at e1;injection e1 with e1
   injection e1 with ea eb
   have hw:IntKind.i64.wrap (((path.length:Nat):Int)-1)=((path.length:Nat):Int)-1:=qO _ (by omega);refine aI (show 0≤IntKind.i64.wrap (((path.length:Nat):Int)-1)∧IntKind.i64.wrap (((path.length:Nat):Int)-1)<(path.length:Nat) by rw[hw];omega) ?_;refine aI (by kernel_rfl) ?_;subst ea eb;refine fin [(10000,20000)] (aI (congrArg (fun z:Int=>(SV.tup [SV.sl 20000,vP (min (elt 0 path z) q.1,max (elt 0 path z) q.1),SV.bool true])) hw) ⟨⟨e3,nP⟩,trivial⟩)
end
end Go.Proofs.YtcjhkgfmklgikaaGreat
