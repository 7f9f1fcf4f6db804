
/- Channels: slices.Insert of packets, into a new row; the contract. -/
import Derived.Test.YtbakpddomlgjbaaCf
set_option linter.unusedSimpArgs false
set_option linter.unusedVariables false
namespace Go.Proofs.Ytbakpddomlgjbaa
open Go Go.RowKit Go.Proofs Go.Tr Go.Lib
theorem Ez(a pcs new z1 z2:aO)(i m r:Nat)(ha:a.length=i)(hp:pcs.length=m)(hn:new.length=r)(hz:z1.length=m+r):
  (((((a++z1++z2).take i++pcs++(a++z1++z2).drop (i+m)).take (i+m)++new++((a++z1++z2).take i++pcs++(a++z1++z2).drop (i+m)).drop (i+m+r)).drop 0).take (i+m+r))=a++pcs++new:=by
 have h1:(a++z1++z2).take i=a:=by rw[qF];exact List.take_left' ha
 have h2:((a++z1++z2).take i++pcs++(a++z1++z2).drop (i+m)).take (i+m)=a++pcs:=by
  rw[h1];exact List.take_left' (by rw[qA];omega)
 rw[h2,List.drop_zero];exact List.take_left' (by simp only[qA];omega)
set_option maxHeartbeats 4000000 in
set_option maxRecDepth 100000 in
theorem Gs{g off c n i pb vc m:Nat}{cs ps pcs:aO}{w:World}(hg:w.heap[g]? =some (.cells cs.toArray 42 (0,0)))(hs:off+c*3<=cs.length)(hc:c<=maxLen)(hi:i<n)(hnc:n<=c)(hm:0<m)(hroom:c<n+m)(hb:n+m<=1000000)(h1:∀v∈(cs.drop off).take (n*3),v.oneCell'=true)
  (hpb:w.heap[pb]? =some (.cells ps.toArray 42 (0,0))) (hpl:ps.take (m*3)=pcs) (hpn:pcs.length=m*3) (h1p:∀v∈pcs,v.oneCell'=true) (L:List Nat):
  Calls Try.prog 76 #[.slice (some ⟨g,off,none⟩) n c,.int .i64 (i:Nat),.slice (some ⟨pb,0,none⟩) m vc] w fun e w'=>∃v,e=.returned v/\wI L w w' v (n+m) ((cs.drop off).take (i*3)++pcs++((cs.drop off).take (n*3)).drop (i*3)):=by
 have hc63:c<=9223372036854775807:=by unfold maxLen at hc;omega
 obtain⟨i0,z0,hi0,hz0,hi3,hby,hzc⟩:=jl;have hzl:z0.cells.size=3:=by rw[<-Array.length_toList,hzc];rfl
 have hzk:∀k,(Builtin.zeroCells z0.cells k).toList.length=k*3:=fun k=>by
  unfold Builtin.zeroCells;simp[hzl]
 obtain⟨new,hnew⟩:∃new,new=((cs.drop off).take (n*3)).drop (i*3):=⟨_,rfl⟩;obtain⟨old,hold⟩:∃old,old=(cs.drop off).take (i*3):=⟨_,rfl⟩;have hdl:new.length=(n-i)*3:=by rw[hnew];simp;omega
 have hol:old.length=i*3:=by rw[hold];simp;omega
 have hik:i+(n+m-i)=n+m:=by omega
 have hof:(Builtin.firstCells i0.size i (.slice (some ⟨g,off,none⟩) i c)).run Try.prog w.drew=.ok old.toArray w.drew:=by
  rw[hi3];refine run_firstCells_some w.drew 3 i ⟨g,off,none⟩ i c old hol (fun j v hj=> ?_);rw[Addr.add_lit];show w.cell? _=_;rw[eT hg];rw[hold,List.getElem?_take]at hj;split at hj
  .rwa[List.getElem?_drop]at hj
  .cases hj
 obtain⟨G,hG⟩:∃G,G=grownCap w (n+m) c 42:=⟨_,rfl⟩;have hGn:n+m<=G:=by rw[hG];exact grownCap_ge w _ _ _
 have hGm:G<=maxLen:=by rw[hG];exact grownCap_le_maxLen w (n+m) c _ (by unfold maxLen;omega)
 have hG63:G<=9223372036854775807:=by unfold maxLen at hGm;omega
 obtain⟨row,hrow⟩:∃row:List Value,row=old++(Builtin.zeroCells z0.cells (n+m-i)).toList++(Builtin.zeroCells z0.cells (G-(n+m))).toList:=⟨_,rfl⟩
 have hrl:row.length=G*3:=by
  rw[hrow];simp only[qA,hzk,hol];omega
 obtain⟨W1,hW1⟩:∃W1,W1=w.drew.alloc (.cells row.toArray 42):=⟨_,rfl⟩
 have hrz:∀ty,(Builtin.append_ #[25,3] ty #[.slice (some ⟨g,off,none⟩) i c,.int .i64 ((n:Int)+(m:Int)-(i:Int))]).run Try.prog w=.ok (.slice (some ⟨w.heap.size,0,none⟩) (n+m) G) W1:=fun ty=>by
  have h:=Lib.run_append_grow_zeros w 25 3 ty 42 i0 z0 .i64 .i64 Jm.u (by kernel_rfl) hi0 hz0 (some ⟨g,off,none⟩) i c old hof (n+m-i) (by omega) (by omega) (by omega) (by omega) (by
   refine Nat.le_trans (Nat.mul_le_mul (show n+m-i<=1000000 by omega) hby) (by decide)) (by rw[hik];exact growslice_fits hroom (Nat.le_trans (Nat.mul_le_mul hb hby) (by decide)))
  rw[hik,<-hG]at h;rw[show(n:Int)+(m:Int)-(i:Int)=((n+m-i:Nat):Int) by omega,h,hW1];refine congrArg (fun a=>Result.ok _ (w.drew.alloc (Obj.cells a 42 (0,0)))) (Array.ext' ?_);rw[hrow];simp
 have hgw:g<w.heap.size:=(Array.getElem?_eq_some_iff.1 hg).1;have hpw:pb<w.heap.size:=(Array.getElem?_eq_some_iff.1 hpb).1
 have hr1:W1.heap[w.heap.size]? =some (.cells row.toArray 42 (0,0)):=by
  rw[hW1];show(w.drew.alloc _).heap[w.drew.heap.size]? =_;rw[heap_alloc_new]
 have hch1:gW [w.heap.size] w W1:=by
  rw[hW1];exact(l5 _ w).trans (gW.kQ ((Below.refl _ _).alloc (Nat.le_refl _) _))
 have hg1:W1.heap[g]? =some (.cells cs.toArray 42 (0,0)):=(hch1.other g hgw (by simp;omega)).trans hg;have hpb1:W1.heap[pb]? =some (.cells ps.toArray 42 (0,0)):=(hch1.other pb hpw (by simp;omega)).trans hpb
 have hcpA:∀ty dc,(Builtin.copy_ #[25,25] ty #[.slice (some ⟨w.heap.size,i*3,none⟩) (n+m-i) dc,.slice (some ⟨pb,0,none⟩) m vc]).run Try.prog W1=.ok (goInt (Nat.min m (n+m-i))) (W1.setCells w.heap.size (i*3) pcs):=fun ty dc=>
  nA (by rw[hpn];simp only[Nat.min_def];split<;>omega) (fun j v hj=>by
   rw[Addr.add_lit,eT hpb1,Nat.zero_add];rw[<-hpl,List.getElem?_take]at hj;split at hj
   .exact hj
   .cases hj) (fun j hj=>gu hr1 (by omega)) (fun j hj=>cB hr1 _) h1p ty
 obtain⟨W2,hW2⟩:∃W2,W2=W1.setCells w.heap.size (i*3) pcs:=⟨_,rfl⟩;obtain⟨hr2,hch2⟩:=dw (w:=W1) (o:=i*3) (us:=pcs) hr1 (by omega);rw[<-hW2]at hr2 hch2 hcpA;have hg2:W2.drew.heap[g]? =some (.cells cs.toArray 42 (0,0)):=(hch2.other g (qW hgw hch1.size) (by simp;omega)).trans hg1
 have hcpB:∀ty dc sc,(Builtin.copy_ #[25,25] ty #[.slice (some ⟨w.heap.size,(i+m)*3,none⟩) (n+m-(i+m)) dc,.slice (some ⟨g,off+i*3,none⟩) (n-i) sc]).run Try.prog W2.drew=.ok (goInt (Nat.min (n-i) (n+m-(i+m)))) (W2.drew.setCells w.heap.size ((i+m)*3) new):=fun ty dc sc=>
  nA (by rw[hdl];simp only[Nat.min_def];split<;>omega) (fun j v hj=>by
   rw[Addr.add_lit,eT hg2];rw[hnew,List.getElem?_drop,List.getElem?_take]at hj;split at hj
   .rw[List.getElem?_drop]at hj;rw[<-hj];congr 1;omega
   .cases hj) (fun j hj=>gu (w:=W2.drew) hr2 (by simp;omega)) (fun j hj=>cB (w:=W2.drew) hr2 _) (fun v hv=>h1 v (by rw[hnew]at hv;exact List.mem_of_mem_drop hv)) ty
 obtain⟨hr3,hch3⟩:=dw (w:=W2.drew) (o:=(i+m)*3) (us:=new) hr2 (by simp;omega)
 have hfin:Hid (∃v,Ending.returned (Value.slice (some ⟨w.heap.size,0,none⟩) (n+m) G)=.returned v/\wI L w (W2.drew.setCells w.heap.size ((i+m)*3) new) v (n+m) ((cs.drop off).take (i*3)++pcs++((cs.drop off).take (n*3)).drop (i*3))):=by
  have hch:gW [w.heap.size] w (W2.drew.setCells w.heap.size ((i+m)*3) new):=(hch1.trans hch2).trans ((l5 _ W2).trans hch3);refine⟨_,rfl,w.heap.size,0,G,_,rfl,.inr (Nat.le_refl _),hr3,hGn,hGm,?_,?_,hch.os,hch.tape,hch.output,hch.size,fun b hb hn=>hch.other b hb (by simp;omega)⟩
  .simp only[qA,List.length_take,List.length_drop];omega
  .rw[<-hnew,<-hold,hrow,hpn,hdl,show i*3+m*3=(i+m)*3 by omega];have:=Ez old pcs new (Builtin.zeroCells z0.cells (n+m-i)).toList (Builtin.zeroCells z0.cells (G-(n+m))).toList (i*3) (m*3) ((n-i)*3) hol hpn hdl (by rw[hzk];omega);rw[<-Nat.add_mul]at this;rw[show(n+m)*3=(i+m)*3+(n-i)*3 by omega];exact this
 have hz1:¬((m:Int)=0):=by omega
 have hz2:¬((i:Int)=(n:Int)):=by omega
 have hz3:(c:Int)<(n:Int)+(m:Int):=by omega
 have hw1:IntKind.i64.wrap ((i:Int)+(m:Int))=(i:Int)+(m:Int):=by rw[IntKind.wrap_i64];omega
 have hb1:(0:Int)<=(i:Int)+(m:Int):=by omega
 have hin:i<=n:=by omega
 have htn:((i:Int)+(m:Int)).toNat=i+m:=by omega
 have hb3:(i:Int)<=(n:Int):=by omega
 have hGi:¬(G=i):=by omega
 have hGim:¬(G=i+m):=by omega
 have hci:¬(c=i):=by omega
 have krz:Hid _:=hrz;have kcpA:Hid _:=hcpA;have kcpB:Hid _:=hcpB;clear hrz hcpA hcpB hr1 hr2 hr3 hch1 hch2 hch3 hg hpb h1 h1p hdl hnew hpl hpn hs hW1 hW2 hc hg1 hpb1 hg2 hi0 hz0 hi3 hby hzc hzl hzk hold hol hof hG hGm hrow hrl hik hgw hpw;have hax:=krz.out;have hbx:=kcpA.out;have hcx:=kcpB.out
 go_enter Try.func76,Try.ntmps76
 go_wp2_with (first
  |(at_builtin;refine Lib.wpList_append_run _ rfl _ _ _ _ rfl _ _ rfl rfl _ _ (hax _) ?_)
  |(at_builtin;refine wpList_copy_runI _ rfl _ _ 25 25 rfl _ _ rfl rfl (hbx _ _) ?_)
  |(simp only[hbx]))
 go_region_law (refine step_copy_runI rfl _ _ 25 25 rfl (.slice (some ⟨w.heap.size,(i+m)*3,none⟩) (n+m-(i+m)) (G-(i+m))) (.slice (some ⟨g,off+i*3,none⟩) (n-i) (c-i)) (by simp[Act.eval,Act.put]) (by simp[Act.eval,Act.put]) (hcx _ _ _) ?_)
 go_wp2
 go_ret;exact hfin.out
section
variable {cx:Cx}{β:Nat->Value}{w:World}{R:List bn}
theorem SX{k:Nat}{xs:List fF}{F:aG}(h:(Tok.res cx β (.suf k 42 3 aK xs)).p w F):
  (β k=.slice none 0 0/\xs=[]/\F=[])\/∃b off c cs,β k=.slice (some ⟨b,off,none⟩) xs.length c/\F=[b]/\w.heap[b]? =some (.cells (List.toArray cs) 42 (0,0))/\off+c*3<=cs.length/\xs.length<=c/\c<=maxLen/\TN w (xs.flatMap (enc aK)) [] ((cs.drop off).take (xs.length*3)):=by
 obtain⟨_,_,h⟩:=h;rcases h with⟨h1,h2,_,h3⟩|⟨g,off,c,cur,us,h1,rfl,h3,h4,h5,h6,rfl,h8,h9⟩
 .exact .inl ⟨h1,List.eq_nil_of_length_eq_zero h2,h3⟩
 .exact .inr ⟨g,off,c,cur.toList,h1,rfl,by simpa using h3,by simpa using h6,h4,h5,h9⟩
theorem Sd{xs:List fF}{p:fF}{us:aO}{i:Nat}(hi:i<=xs.length)(hx:xs.length<=1000):au Try.prog 76 [.sl 10000,.int .i64 (i:Nat),.sl 10001] [.suf 10000 42 3 aK xs,.row 10001 42 3 aK [p] us] (.sl 10002) [.suf 10002 42 3 aK (xs.take i++[p]++xs.drop i)]:=by
 refine⟨(by kernel_rfl),fun cx β w fr vs H hd=> ?_⟩;obtain⟨F,hS,hF,hback⟩:=Inv.frame (pre:=[Tok.res cx β (.suf 10000 42 3 aK xs),Tok.res cx β (.row 10001 42 3 aK [p] us)]) (rest:=fr) H;obtain⟨F1,G1,rfl,hp,⟨F2,G2,rfl,hq,rfl,_⟩,hdis⟩:=hS;obtain⟨pb,vc,ps,hpbv,rfl,hpb,hpl,hpc,hpm,htp⟩:=PX hq (by simp);unfold aj at hd;obtain⟨v1,l1,rfl,d1,hd⟩:=hd;unfold aj at hd;obtain⟨v2,l2,rfl,d2,hd⟩:=hd;unfold aj at hd;obtain⟨v3,l3,rfl,d3,hd⟩:=hd;unfold aj at hd;subst hd;unfold Den at d1 d2 d3;obtain⟨rfl, -⟩:=d1;obtain⟨rfl, -⟩:=d3
 subst d2;have hp1:∀v∈ps.take (1*3),v.oneCell'=true:=pE htp (nk rfl);have hpn:(ps.take (1*3)).length=1*3:=by rw[List.length_take];simp only[qI,qR]at hpc;omega
 have key:∃pcs olds:List Value,pcs=ps.take (1*3)/\TN w (xs.flatMap (enc aK)) [] olds/\Calls Try.prog 76 #[β 10000,.int .i64 (i:Nat),β 10001] w fun e w'=>∃v,e=.returned v/\wI F1 w w' v (xs.length+1) (olds.take (i*3)++pcs++olds.drop (i*3)):=by
  rw[hpbv];rcases SX hp with⟨e1,rfl,rfl⟩|⟨b,off,c,cs,e1,rfl,hg,hs,hnc,hcm,ht⟩
  .have hi0:i=0:=by simpa using hi
   subst hi0;rw[e1];refine⟨_,[],rfl,TN.done,?_⟩;refine(Aq (g:=0) (off:=0) (n:=0) (c:=0) (m:=1) (olds:=[]) (.inl ⟨rfl,rfl,rfl⟩) rfl (by omega) (by omega) (by omega) (by omega) (by unfold maxLen;omega) hpb rfl hpn hp1 []).mono ?_;rintro e w' ⟨v,he,hr⟩;exact⟨v,he,by simpa using hr⟩
  .rw[e1];have hol:((cs.drop off).take (xs.length*3)).length=xs.length*3:=by rw[List.length_take,List.length_drop];omega
   have h1:=pE ht (nk rfl);have hne:pb≠b:=fun e=>hdis b (by simp) (by simp[e])
   refine⟨_,_,rfl,ht,?_⟩;have htk:((cs.drop off).take (xs.length*3)).take (i*3)=(cs.drop off).take (i*3):=by rw[List.take_take,Nat.min_eq_left (by omega)]
   rw[htk];rcases Nat.lt_or_ge i xs.length with hlt|hge
   .rcases Nat.lt_or_ge c (xs.length+1)with hc|hc
    .exact Gs (m:=1) hg hs hcm hlt hnc (by omega) hc (by omega) h1 hpb rfl hpn hp1 [b]
    .exact EC (m:=1) hg hs hcm hlt (by omega) hc h1 hpb hne rfl hpn hp1
   .have e:i=xs.length:=by omega
    subst e;have hd0:((cs.drop off).take (xs.length*3)).drop (xs.length*3)=[]:=List.drop_of_length_le (by omega);rw[hd0,qS];rcases Nat.lt_or_ge c (xs.length+1)with hc|hc
    .exact Aq (m:=1) (.inr ⟨rfl,cs,hg,rfl⟩) hol hnc (by omega) hc (by omega) hcm hpb rfl hpn hp1 [b]
    .exact JB (m:=1) hg hs hcm (by omega) hc hpb rfl hpn hp1
 obtain⟨pcs,olds,hpcs,hto,hcall⟩:=key;refine hcall.mono ?_;rintro e w' ⟨v,rfl,b,off,c,cs,rfl,hbF,h1,h2,h3,h4,h5,h6⟩;have hxl:(xs.take i++[p]++xs.drop i).length=xs.length+1:=by simp;omega
 refine⟨_,up β 10002 (.slice (some ⟨b,off,none⟩) (xs.length+1) c),rfl,fun g h7 h8=> ?_,?_,?_⟩
 .have:g≠10002:=by simp at h8;omega
  simp[up,this]
 .unfold Den;rw[bN];exact⟨rfl,_,_,_,rfl⟩
 .refine hback w' [Tok.res cx _ _] ⟨⟨h6.os,h6.tape,h6.output,h6.size,fun b hb hn=>h6.other b hb (fun hm=>hn (by simp[hm]))⟩,[b],⟨[b],[],rfl,⟨rfl,rfl,?_⟩,rfl,by simp⟩,fun q hq=> ?_⟩
  .rw[bN]
   have ht':TN w' ((xs.take i++[p]++xs.drop i).flatMap (enc aK)) [] (olds.take (i*3)++pcs++olds.drop (i*3)):=by
    refine KZ (w:=w) (Cc (Cc (zw hto i hi).1 ?_) (zw hto i hi).2);rw[hpcs];exact htp
   refine .inr ⟨b,off,c,cs.toArray,_,by rw[hxl],rfl,h1,by rw[hxl];exact h2,h3,by simpa using h4,?_,by rw[Hg ht'],ht'⟩;rw[<-h5,hxl]
  .have:q=b:=by simpa using hq
   subst this;rcases hbF with h|h
   .exact .inl (by simp[h])
   .exact .inr h
end
end Go.Proofs.Ytbakpddomlgjbaa
