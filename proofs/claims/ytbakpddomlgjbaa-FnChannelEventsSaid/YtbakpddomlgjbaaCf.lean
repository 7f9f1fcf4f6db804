
/- Channels: slices.Insert of packets, by the library's own text. -/
import Derived.Test.YtbakpddomlgjbaaCe
set_option maxHeartbeats 4000000
set_option maxRecDepth 100000
set_option linter.unusedSimpArgs false
set_option linter.unusedVariables false
namespace Go.Proofs.Ytbakpddomlgjbaa
open Go Go.RowKit Go.Proofs Go.Tr Go.Lib
theorem nA{w:World}{g o dLen dCap sLen sCap:Nat}{a:Addr}{new:aO}(hl:new.length=Nat.min sLen dLen*3)(hsrc:∀j v,new[j]? =some v->w.cell? (a.add j)=some v)(hc:∀j,j<new.length->(w.cell? ⟨g,o+j,none⟩).isSome=true)(hf:∀j,j<new.length->w.frozen? ⟨g,o+j,none⟩=false)(h1:∀v∈new,v.oneCell'=true)(ty:TypeId):
  (Builtin.copy_ #[25,25] ty #[.slice (some ⟨g,o,none⟩) dLen dCap,.slice (some a) sLen sCap]).run Try.prog w=.ok (goInt (Nat.min sLen dLen)) (w.setCells g o new):=by
 obtain⟨i,z,hq,_,hi,_,_⟩:=jl;have hl1:=run_loadCells_list (P:=Try.prog) w a new hsrc;have hst:=run_storeCells_cells (P:=Try.prog) g o new 0 w (by simpa using hc) (by simpa using hf) h1;rw[hl]at hl1;simp only[Nat.add_zero]at hst;simp[Builtin.copy_,run_underlying Jm.u,Builtin.lenOf,Builtin.firstCells,sizeOf,typeInfo,hq,hi,hl1,hst]
theorem hov(w:World){g off pb poff m vc lb cb:Nat}{cs ps:aO}(hg:w.heap[g]? =some (.cells cs.toArray 42 (0,0)))(hpb:w.heap[pb]? =some (.cells ps.toArray 42 (0,0)))(hne:pb≠g)(h0:0<cs.length):
  (callFunc 78 #[.slice (some ⟨pb,poff,none⟩) m vc,.slice (some ⟨g,off,none⟩) lb cb]).run Try.prog w=.ok (.value (.bool false)) w:=by
 rw[run_callFunc_extern Try.func78 (by kernel_rfl) (by kernel_rfl) (by kernel_rfl) (e:=Extern.SlicesOverlaps.overlaps #[25,25] #[4]) (by kernel_rfl),
  Lib.run_overlaps_apart w 25 4 42 Jm.u 3 (fun w=>by
   obtain⟨i,z,h1,_,h3,_⟩:=jl;simp[sizeOf,typeInfo,h1,h3]) ⟨pb,poff,none⟩ ⟨g,off,none⟩ m vc lb cb hne 42 42 ps.length cs.length (by simp[World.shape?,hpb]) (by simp[World.shape?,hg]) (by omega) (cB hpb _) (cB hpb _)]
 rfl
def wI(L:List Nat)(w w':World)(v:Value)(n:Nat)(us:List Value):Prop:=∃b off c cs,v=.slice (some ⟨b,off,none⟩) n c/\(b∈L\/w.heap.size<=b)/\w'.heap[b]? =some (.cells (List.toArray cs) 42 (0,0))/\n<=c/\c<=maxLen/\off+c*3<=cs.length/\(cs.drop off).take (n*3)=us/\gW L w w'
theorem Gt(cs pcs new:aO)(p a k r:Nat)(hn:new.length=r)(hp:pcs.length=k)(hl:p+a+k+r<=cs.length):
  (((((cs.take (p+a+k)++new++cs.drop (p+a+k+r)).take (p+a))++pcs++(cs.take (p+a+k)++new++cs.drop (p+a+k+r)).drop (p+a+k)).drop p).take (a+k+r))=(cs.drop p).take a++pcs++new:=by
 have h1:(cs.take (p+a+k)++new++cs.drop (p+a+k+r)).take (p+a)=cs.take (p+a):=by
  rw[qF,List.take_append_of_le_length (by rw[List.length_take];omega),List.take_take,Nat.min_eq_left (by omega)]
 have h2:(cs.take (p+a+k)++new++cs.drop (p+a+k+r)).drop (p+a+k)=new++cs.drop (p+a+k+r):=by
  rw[qF,List.drop_left' (by rw[List.length_take];omega)]
 rw[h1,h2,qF,List.drop_append_of_le_length (by rw[List.length_take];omega),List.drop_take,show p+a-p=a by omega,<-qF,<-qF];exact List.take_left' (by simp only[qA,List.length_take,List.length_drop];omega)
theorem EC{g off c n i pb vc m:Nat}{cs ps pcs:aO}{w:World}(hg:w.heap[g]? =some (.cells cs.toArray 42 (0,0)))(hs:off+c*3<=cs.length)(hc:c<=maxLen)(hi:i<n)(hm:0<m)(hroom:n+m<=c)(h1:∀v∈(cs.drop off).take (n*3),v.oneCell'=true)
  (hpb:w.heap[pb]? =some (.cells ps.toArray 42 (0,0))) (hne:pb≠g) (hpl:ps.take (m*3)=pcs) (hpn:pcs.length=m*3) (h1p:∀v∈pcs,v.oneCell'=true):
  Calls Try.prog 76 #[.slice (some ⟨g,off,none⟩) n c,.int .i64 (i:Nat),.slice (some ⟨pb,0,none⟩) m vc] w fun e w'=>∃v,e=.returned v/\wI [g] w w' v (n+m) ((cs.drop off).take (i*3)++pcs++((cs.drop off).take (n*3)).drop (i*3)):=by
 have hc63:c<=9223372036854775807:=by unfold maxLen at hc;omega
 obtain⟨new,hnew⟩:∃new,new=((cs.drop off).take (n*3)).drop (i*3):=⟨_,rfl⟩;have hdl:new.length=(n-i)*3:=by rw[hnew];simp;omega
 have hcp1:∀ty dc sc,(Builtin.copy_ #[25,25] ty #[.slice (some ⟨g,off+(i+m)*3,none⟩) (n+m-(i+m)) dc,.slice (some ⟨g,off+i*3,none⟩) (n+m-i) sc]).run Try.prog w.drew=.ok (goInt (Nat.min (n+m-i) (n+m-(i+m)))) (w.drew.setCells g (off+(i+m)*3) new):=fun ty dc sc=>
  nA (by rw[hdl];simp only[Nat.min_def];split<;>omega) (fun j v hj=>by
   rw[Addr.add_lit];show w.cell? _=_;rw[eT hg];rw[hnew,List.getElem?_drop,List.getElem?_take]at hj;split at hj
   .rw[List.getElem?_drop]at hj;rw[<-hj];congr 1;omega
   .cases hj) (fun j hj=>gu (w:=w.drew) hg (by omega)) (fun j hj=>cB (w:=w.drew) hg _) (fun v hv=>h1 v (by rw[hnew]at hv;exact List.mem_of_mem_drop hv)) ty
 obtain⟨W1,hW1⟩:∃W1,W1=w.drew.setCells g (off+(i+m)*3) new:=⟨_,rfl⟩;obtain⟨hr1,hch1⟩:=dw (w:=w.drew) (o:=off+(i+m)*3) (us:=new) hg (by omega);rw[<-hW1]at hr1 hch1 hcp1;have hpb1:W1.heap[pb]? =some (.cells ps.toArray 42 (0,0)):=(hch1.other pb (by exact(Array.getElem?_eq_some_iff.1 hpb).1) (by simpa using hne)).trans hpb
 have hcp2:∀ty dc,(Builtin.copy_ #[25,25] ty #[.slice (some ⟨g,off+i*3,none⟩) (n+m-i) dc,.slice (some ⟨pb,0,none⟩) m vc]).run Try.prog W1=.ok (goInt (Nat.min m (n+m-i))) (W1.setCells g (off+i*3) pcs):=fun ty dc=>
  nA (by rw[hpn];simp only[Nat.min_def];split<;>omega) (fun j v hj=>by
   rw[Addr.add_lit,eT hpb1,Nat.zero_add];rw[<-hpl,List.getElem?_take]at hj;split at hj
   .exact hj
   .cases hj) (fun j hj=>gu hr1 (by simp;omega)) (fun j hj=>cB hr1 _) h1p ty
 obtain⟨hr2,hch2⟩:=dw (w:=W1) (o:=off+i*3) (us:=pcs) hr1 (by simp;omega)
 have hfin:Hid (∃v,Ending.returned (Value.slice (some ⟨g,off,none⟩) (n+m) c)=.returned v/\wI [g] w (W1.setCells g (off+i*3) pcs) v (n+m) ((cs.drop off).take (i*3)++pcs++((cs.drop off).take (n*3)).drop (i*3))):=by
  refine⟨_,rfl,g,off,c,_,rfl,.inl (by simp),hr2,hroom,hc,?_,?_,((l5 [g] w).trans hch1).trans hch2⟩
  .simp only[qA,List.length_take,List.length_drop];omega
  .rw[<-hnew];rw[show off+(i+m)*3=off+i*3+m*3 by omega,hdl,hpn,show(n+m)*3=i*3+m*3+(n-i)*3 by omega];exact Gt cs pcs new off (i*3) (m*3) ((n-i)*3) hdl hpn (by omega)
 have hov':Hid (∀lb cb,(callFunc 78 #[.slice (some ⟨pb,0,none⟩) m vc,.slice (some ⟨g,off+(i+m)*3,none⟩) lb cb]).run Try.prog w=.ok (.value (.bool false)) w):=fun lb cb=>hov w hg hpb hne (by omega)
 have hz1:¬((m:Int)=0):=by omega
 have hz2:¬((i:Int)=(n:Int)):=by omega
 have hw1:IntKind.i64.wrap ((i:Int)+(m:Int))=(i:Int)+(m:Int):=by rw[IntKind.wrap_i64];omega
 have hb1:(0:Int)<=(i:Int)+(m:Int):=by omega
 have hin:i<=n:=by omega
 have htn:((i:Int)+(m:Int)).toNat=i+m:=by omega
 have hb2:¬(c=i+m):=by omega
 have hb3:(i:Int)<=(n:Int)+(m:Int):=by omega
 have hb4:¬(c=i):=by omega
 have kcp1:Hid _:=hcp1;have kcp2:Hid _:=hcp2;clear hcp1 hcp2 hr1 hr2 hch1 hch2 hpb1 hg hpb h1 h1p hdl hnew hpl hpn hs hW1 hc;have hvx:∀lb cb,(callFunc 78 #[.slice (some ⟨pb,0,none⟩) m vc,.slice (some ⟨g,off+(i+m)*3,none⟩) lb cb]).run Try.prog w=.ok (.value (.bool false)) w:=hov'.out
 go_enter Try.func76,Try.ntmps76
 go_wp2_with (simp only[hvx])
 go_region_law (refine step_copy_runI rfl _ _ 25 25 rfl (.slice (some ⟨g,off+(i+m)*3,none⟩) (n+m-(i+m)) (c-(i+m))) (.slice (some ⟨g,off+i*3,none⟩) (n+m-i) (c-i)) (by simp[Act.eval,Act.put]) (by simp[Act.eval,Act.put]) (kcp1.out _ _ _) ?_)
 have hc2:=kcp2.out
 go_wp2_with (simp only[hc2])
 go_ret;exact hfin.out
theorem Ic(cs pcs:aO)(p a k:Nat)(hp:pcs.length=k)(hl:p+a+k<=cs.length):((cs.take (p+a)++pcs++cs.drop (p+a+k)).drop p).take (a+k)=(cs.drop p).take a++pcs:=by
 rw[qF,List.drop_append_of_le_length (by rw[List.length_take];omega),List.drop_take,show p+a-p=a by omega,<-qF];exact List.take_left' (by simp only[qA,List.length_take,List.length_drop];omega)
theorem JB{g off c n pb vc m:Nat}{cs ps pcs:aO}{w:World}(hg:w.heap[g]? =some (.cells cs.toArray 42 (0,0)))(hs:off+c*3<=cs.length)(hc:c<=maxLen)(hm:0<m)(hroom:n+m<=c)
  (hpb:w.heap[pb]? =some (.cells ps.toArray 42 (0,0))) (hpl:ps.take (m*3)=pcs) (hpn:pcs.length=m*3) (h1p:∀v∈pcs,v.oneCell'=true):
  Calls Try.prog 76 #[.slice (some ⟨g,off,none⟩) n c,.int .i64 (n:Nat),.slice (some ⟨pb,0,none⟩) m vc] w fun e w'=>∃v,e=.returned v/\wI [g] w w' v (n+m) ((cs.drop off).take (n*3)++pcs):=by
 have hc63:c<=9223372036854775807:=by unfold maxLen at hc;omega
 obtain⟨i0,z0,hi0,hz0,hi3, -, -⟩:=jl;obtain⟨hr1,hch1⟩:=dw (w:=w) (o:=off+n*3) (us:=pcs) hg (by omega)
 have hap:∀ty,(Builtin.append_ #[25,25] ty #[.slice (some ⟨g,off,none⟩) n c,.slice (some ⟨pb,0,none⟩) m vc]).run Try.prog w=.ok (.slice (some ⟨g,off,none⟩) (n+m) c) (w.setCells g (off+n*3) pcs):=fun ty=>by
  have h:=run_append_room_cells (P:=Try.prog) w 25 ty 42 i0 Jm.u hi0 g off n c ⟨pb,0,none⟩ m vc pcs (by rw[hi3];exact hpn) (fun j v hj=>by
   rw[Addr.add_lit,eT hpb,Nat.zero_add];rw[<-hpl,List.getElem?_take]at hj;split at hj
   .exact hj
   .cases hj) h1p hroom (fun j hj=>gu hg (by rw[hi3];omega)) (fun j hj=>cB hg _)
  rwa[hi3]at h
 have hfin:Hid (∃v,Ending.returned (Value.slice (some ⟨g,off,none⟩) (n+m) c)=.returned v/\wI [g] w (w.setCells g (off+n*3) pcs) v (n+m) ((cs.drop off).take (n*3)++pcs)):=by
  refine⟨_,rfl,g,off,c,_,rfl,.inl (by simp),hr1,hroom,hc,?_,?_,hch1⟩
  .simp only[qA,List.length_take,List.length_drop];omega
  .rw[hpn,Nat.add_mul];exact Ic cs pcs off (n*3) (m*3) hpn (by omega)
 have hz1:¬((m:Int)=0):=by omega
 have hap':Hid _:=hap;clear hap hr1 hch1 hi0 hz0 hi3 hg hpb hpl hpn h1p hs hc;have hax:=hap'.out
 go_enter Try.func76,Try.ntmps76
 go_wp2_with (at_builtin;refine Lib.wpList_append_run _ rfl _ _ _ _ rfl _ _ rfl rfl _ _ (hax _) ?_)
 go_ret;exact hfin.out
theorem JR{c pb vc m g n off:Nat}{olds ps pcs:aO}{A:Option Addr}{w:World}(hA:(A=none/\n=0/\olds=[])\/(A=some ⟨g,off,none⟩/\∃cs:aO,w.heap[g]? =some (.cells cs.toArray 42 (0,0))/\(cs.drop off).take (n*3)=olds))(hol:olds.length=n*3)(hnc:n<=c)(hm:0<m)(hroom:c<n+m)(hb:n+m<=1000000)
  (hpb:w.heap[pb]? =some (.cells ps.toArray 42 (0,0))) (hpl:ps.take (m*3)=pcs) (hpn:pcs.length=m*3) (h1p:∀v∈pcs,v.oneCell'=true):∃v w',(∀ty,(Builtin.append_ #[25,25] ty #[.slice A n c,.slice (some ⟨pb,0,none⟩) m vc]).run Try.prog w=.ok v w')/\∀L,wI L w w' v (n+m) (olds++pcs):=by
 obtain⟨i0,z0,hi0,hz0,hi3,hby,hzc⟩:=jl;have hzl:z0.cells.size=3:=by rw[<-Array.length_toList,hzc];rfl
 have hold:(Builtin.firstCells i0.size n (.slice A n c)).run Try.prog w.drew=.ok olds.toArray w.drew:=by
  rw[hi3];rcases hA with⟨rfl,rfl,rfl⟩|⟨rfl,cs,h1,h2⟩
  .exact run_firstCells_none w.drew 3 0 0 c
  .refine run_firstCells_some w.drew 3 n ⟨g,off,none⟩ n c olds hol (fun j v hj=> ?_);rw[Addr.add_lit];show w.cell? _=_;rw[eT h1];rw[<-h2,List.getElem?_take]at hj;split at hj
   .rwa[List.getElem?_drop]at hj
   .cases hj
 have hsrc:Go.Src Try.prog i0.size 25 (.slice (some ⟨pb,0,none⟩) m vc) m pcs w:=by
  rw[hi3];refine Go.Src.ofSlice w Jm.u ⟨pb,0,none⟩ m vc pcs hpn (fun j v hj=> ?_) h1p;rw[Addr.add_lit,eT hpb,Nat.zero_add];rw[<-hpl,List.getElem?_take]at hj;split at hj
  .exact hj
  .cases hj
 have hfit:Builtin.nextslicecap (n+m) c*i0.bytes<=281474976710656:=growslice_fits hroom (Nat.le_trans (Nat.mul_le_mul hb hby) (by decide));refine⟨_,_,fun ty=>run_append_grow_src w 25 25 ty 42 i0 z0 Jm.u hi0 hz0 A n c olds hold _ m pcs hsrc hroom (by omega) hfit,fun L=> ?_⟩;have hGn:n+m<=grownCap w (n+m) c 42:=grownCap_ge w _ _ _;have hG63:grownCap w (n+m) c 42<=maxLen:=grownCap_le_maxLen w (n+m) c _ (by unfold maxLen;omega);refine⟨w.heap.size,0,grownCap w (n+m) c 42,olds++pcs++(Builtin.zeroCells z0.cells (grownCap w (n+m) c 42-(n+m))).toList,rfl,.inr (Nat.le_refl _),?_,hGn,hG63,?_,?_,?_⟩
 .show(w.drew.alloc _).heap[w.drew.heap.size]? =_;rw[heap_alloc_new];refine congrArg (fun a=>some (Obj.cells a 42 (0,0))) (Array.ext' ?_);simp
 .have:(Builtin.zeroCells z0.cells (grownCap w (n+m) c 42-(n+m))).toList.length=(grownCap w (n+m) c 42-(n+m))*3:=by
   unfold Builtin.zeroCells;simp[hzl]
  simp only[qA,hol,hpn,this];omega
 .rw[List.drop_zero];exact List.take_left' (by simp only[qA,hol,hpn];omega)
 .exact(l5 L w).trans (gW.kQ ((Below.refl _ _).alloc (Nat.le_refl _) _))
theorem Aq{c pb vc m g n off:Nat}{olds ps pcs:aO}{A:Option Addr}{w:World}(hA:(A=none/\n=0/\olds=[])\/(A=some ⟨g,off,none⟩/\∃cs:aO,w.heap[g]? =some (.cells cs.toArray 42 (0,0))/\(cs.drop off).take (n*3)=olds))(hol:olds.length=n*3)(hnc:n<=c)(hm:0<m)(hroom:c<n+m)(hb:n+m<=1000000)(hc:c<=maxLen)
  (hpb:w.heap[pb]? =some (.cells ps.toArray 42 (0,0))) (hpl:ps.take (m*3)=pcs) (hpn:pcs.length=m*3) (h1p:∀v∈pcs,v.oneCell'=true) (L:List Nat):
  Calls Try.prog 76 #[.slice A n c,.int .i64 (n:Nat),.slice (some ⟨pb,0,none⟩) m vc] w fun e w'=>∃v,e=.returned v/\wI L w w' v (n+m) (olds++pcs):=by
 have hc63:c<=9223372036854775807:=by unfold maxLen at hc;omega
 obtain⟨v,w',h1,h2⟩:=JR (vc:=vc) hA hol hnc hm hroom hb hpb hpl hpn h1p;have hfin:Hid (∃v',Ending.returned v=.returned v'/\wI L w w' v' (n+m) (olds++pcs)):=⟨v,rfl,h2 L⟩;have hz1:¬((m:Int)=0):=by omega
 have hA2:A=none\/A=some ⟨g,off,none⟩:=by
  rcases hA with h|h
  .exact .inl h.1
  .exact .inr h.1
 have hA3:A=none->n=0:=by
  rintro rfl;rcases hA with h|h
  .exact h.2.1
  .cases h.1
 clear hA hol hpb hpl hpn h1p hc h2;rcases hA2 with rfl|rfl
 .have hn0:=hA3 rfl;clear hA3;subst hn0
  go_enter Try.func76,Try.ntmps76
  go_wp2_with (at_builtin;refine Lib.wpList_append_run _ rfl _ _ _ _ rfl _ _ rfl rfl _ _ (h1 _) ?_)
  all_goals (go_ret;exact hfin.out)
 .clear hA3
  go_enter Try.func76,Try.ntmps76
  go_wp2_with (at_builtin;refine Lib.wpList_append_run _ rfl _ _ _ _ rfl _ _ rfl rfl _ _ (h1 _) ?_)
  all_goals (go_ret;exact hfin.out)
end Go.Proofs.Ytbakpddomlgjbaa
