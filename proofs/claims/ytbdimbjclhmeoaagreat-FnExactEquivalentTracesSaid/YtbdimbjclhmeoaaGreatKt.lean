
/- slices.SortFunc on the events of a round: sorted by the first agent. -/
import Derived.Test.YtbdimbjclhmeoaaGreatKl
import Derived.Shelf.SlSortCmp.NoneTotal
import Derived.Shelf.SlicesG.Cmp
import Derived.Lib.SortBridge
import Derived.Shelf.Bits.Mul64
set_option maxRecDepth 100000
set_option linter.unusedSimpArgs false
set_option linter.unusedVariables false
namespace Go.Proofs.YtbdimbjclhmeoaaGreat
open Go Go.Shelf Go.RowKit Go.Lib Go.Sort Go.Proofs Go.Tr
def Zae:Go.Shelf.Ren:=⟨fun|6=>128|15=>166|14=>165|28=>209|29=>210|20=>201|21=>202|22=>203|23=>204|24=>205|25=>206|26=>207|27=>208|46=>226|47=>227|48=>228|49=>229|50=>230|57=>234|n=>n,fun|22=>178|24=>182|25=>185|3=>3|39=>175|0=>0|53=>209|55=>212|4=>4|46=>237|45=>236|50=>241|5=>5|9=>9|66=>249|70=>253|76=>255|77=>256|n=>n,fun|n=>n⟩
theorem YP:Go.Proofs.SlLaysF0.n6 Tryz.prog Zae where
 mixed:=by kernel_rfl
 f6:=⟨Tryz.f128.name,by kernel_rfl,Tryz.func128.trans (congrArg some (by kernel_rfl))⟩
 f14:=⟨Tryz.f165.name,by kernel_rfl,Tryz.func165.trans (congrArg some (by kernel_rfl))⟩
 f15:=Tryz.func166.trans (congrArg some (by kernel_rfl))
 f20:=⟨Tryz.f201.name,by kernel_rfl,Tryz.func201.trans (congrArg some (by kernel_rfl))⟩
 f21:=⟨Tryz.f202.name,by kernel_rfl,Tryz.func202.trans (congrArg some (by kernel_rfl))⟩
 f22:=⟨Tryz.f203.name,by kernel_rfl,Tryz.func203.trans (congrArg some (by kernel_rfl))⟩
 f23:=⟨Tryz.f204.name,by kernel_rfl,Tryz.func204.trans (congrArg some (by kernel_rfl))⟩
 f24:=⟨Tryz.f205.name,by kernel_rfl,Tryz.func205.trans (congrArg some (by kernel_rfl))⟩
 f25:=⟨Tryz.f206.name,by kernel_rfl,Tryz.func206.trans (congrArg some (by kernel_rfl))⟩
 f26:=⟨Tryz.f207.name,by kernel_rfl,Tryz.func207.trans (congrArg some (by kernel_rfl))⟩
 f27:=⟨Tryz.f208.name,by kernel_rfl,Tryz.func208.trans (congrArg some (by kernel_rfl))⟩
 f28:=Tryz.func209.trans (congrArg some (by kernel_rfl))
 f29:=Tryz.func210.trans (congrArg some (by kernel_rfl))
 f46:=⟨Tryz.f226.name,by kernel_rfl,Tryz.func226.trans (congrArg some (by kernel_rfl))⟩
 f47:=Tryz.func227.trans (congrArg some (by kernel_rfl))
 f48:=Tryz.func228.trans (congrArg some (by kernel_rfl))
 f49:=⟨Tryz.f229.name,by kernel_rfl,Tryz.func229.trans (congrArg some (by kernel_rfl))⟩
 f50:=⟨Tryz.f230.name,by kernel_rfl,Tryz.func230.trans (congrArg some (by kernel_rfl))⟩
 f57:=⟨Tryz.f234.name,by kernel_rfl,Tryz.func234.trans (congrArg some (by kernel_rfl))⟩
 t0:=Tryz.underlying0
 a0:=Tryz.isAgg0
 z0:=Tryz.sizeOf0
 v0:=Tryz.zeroValue0
 t3:=Tryz.underlying3
 a3:=Tryz.isAgg3
 z3:=Tryz.sizeOf3
 v3:=Tryz.zeroValue3
 t4:=Tryz.underlying4
 a4:=Tryz.isAgg4
 z4:=Tryz.sizeOf4
 v4:=Tryz.zeroValue4
 t5:=Tryz.underlying5
 a5:=Tryz.isAgg5
 z5:=Tryz.sizeOf5
 v5:=Tryz.zeroValue5
 t9:=Tryz.underlying9
 a9:=Tryz.isAgg9
 z9:=Tryz.sizeOf9
 v9:=Tryz.zeroValue9
 t22:=Tryz.underlying178
 a22:=Tryz.isAgg178
 z22:=Tryz.sizeOf178
 v22:=Tryz.zeroValue178
 t25:=Tryz.underlying185
 a25:=Tryz.isAgg185
 z25:=Tryz.sizeOf185
 v25:=Tryz.zeroValue185
 t39:=Tryz.underlying175
 a39:=Tryz.isAgg175
 z39:=Tryz.sizeOf175
 v39:=Tryz.zeroValue175
 t45:=Tryz.underlying236
 a45:=Tryz.isAgg236
 z45:=Tryz.sizeOf236
 v45:=Tryz.zeroValue236
 t46:=Tryz.underlying237
 a46:=Tryz.isAgg237
 z46:=Tryz.sizeOf237
 v46:=Tryz.zeroValue237
 t50:=Tryz.underlying241
 a50:=Tryz.isAgg241
 z50:=Tryz.sizeOf241
 v50:=Tryz.zeroValue241
 t53:=Tryz.underlying209
 a53:=Tryz.isAgg209
 z53:=Tryz.sizeOf209
 v53:=Tryz.zeroValue209
 t55:=Tryz.underlying212
 a55:=Tryz.isAgg212
 z55:=Tryz.sizeOf212
 v55:=Tryz.zeroValue212
 t66:=Tryz.underlying249
 a66:=Tryz.isAgg249
 z66:=Tryz.sizeOf249
 v66:=Tryz.zeroValue249
 t70:=Tryz.underlying253
 a70:=Tryz.isAgg253
 z70:=Tryz.sizeOf253
 v70:=Tryz.zeroValue253
 t76:=Tryz.underlying255
 a76:=Tryz.isAgg255
 z76:=Tryz.sizeOf255
 v76:=Tryz.zeroValue255
 t77:=Tryz.underlying256
 a77:=Tryz.isAgg256
 z77:=Tryz.sizeOf256
 v77:=Tryz.zeroValue256
def ZaX:Go.Shelf.Ren:=⟨fun|5=>130|7=>167|n=>n,fun|22=>2|3=>3|4=>4|n=>n,fun|n=>n⟩
theorem cmpL:Go.Proofs.SlLaysC2.n5 Tryz.prog ZaX where
 mixed:=by kernel_rfl
 f5:=⟨Tryz.f130.name,by kernel_rfl,Tryz.func130.trans (congrArg some (by kernel_rfl))⟩
 f7:=⟨Tryz.f167.name,by kernel_rfl,Tryz.func167.trans (congrArg some (by kernel_rfl))⟩
 t3:=Tryz.underlying3
 a3:=Tryz.isAgg3
 z3:=Tryz.sizeOf3
 v3:=Tryz.zeroValue3
 t4:=Tryz.underlying4
 a4:=Tryz.isAgg4
 z4:=Tryz.sizeOf4
 v4:=Tryz.zeroValue4
 t22:=Tryz.underlying2
 a22:=Tryz.isAgg2
 z22:=Tryz.sizeOf2
 v22:=Tryz.zeroValue2
def lF(x:iD):List Value:=[.int .i64 x.1,.int .i64 x.2.1,.int .i64 x.2.2]
def Yp(x y:iD):Int:=Lib.compareInt x.2.1 y.2.1
theorem ltT(x y:iD):ltOf Yp x y=decide (x.2.1<y.2.1):=by
 unfold ltOf Yp Lib.compareInt
 by_cases h1:x.2.1<y.2.1
 .simp[h1]
 .by_cases h2:y.2.1<x.2.1<;>simp[h1,h2]
theorem ZbX:SWO (ltOf Yp) where
 irrefl x:=by rw[ltT];simp
 trans x y z h1 h2:=by rw[ltT]at*;simp at*;omega
 ntrans x y z h1 h2:=by rw[ltT]at*;simp at*;omega
set_option maxHeartbeats 1000000 in
theorem cmpT(x y:iD)(W:World):Calls Tryz.prog 129 #[.agg (lF x).toArray,.agg (lF y).toArray] W fun e w'=>e=.returned (.int .i64 (Yp x y))/\∃q os',w'=grow (W.drewN q) os':=by
 have hcon:=fun W'=>AnyG.cmp_Compare_int cmpL x.2.1 y.2.1 W'
 change ∀W',Calls Tryz.prog 130 _ _ _ at hcon
 unfold Yp lF;generalize Lib.compareInt x.2.1 y.2.1=r at hcon |-
 go_enter Tryz.func129,Tryz.ntmps129
 go_wp2_with (go_at_call 130;refine(hcon _).mono ?_;rintro e w' ⟨rfl,rfl⟩)
 go_ret;exact⟨rfl,0,_,by rw[alloc_eq_grow,alloc_eq_grow,grow_grow];rfl⟩
theorem ou(x:iD):(lF x).length=3:=rfl
theorem zV:∀(l:List iD) (t:Nat),t<l.length*3->(l.flatMap lF)[t]? =some ((lF (l.getD (t/3) default)).getD (t % 3) default)
 |[],t,h=>by simp at h
 |x::l,t,h=>by
  rw[qU]
  by_cases c:t<3
  .rw[qM (by rw[ou];exact c),show t/3=0 by omega,show t % 3=t by omega];show(lF x)[t]? =some ((lF x).getD t default);rw[qC,qB (by rw[ou];exact c)];rfl
  .obtain⟨u,rfl⟩:∃u,t=u+3:=⟨t-3,by omega⟩;rw[qL (by rw[ou];omega),ou,Nat.add_sub_cancel,zV l u (by rw[qI]at h;omega),show(u+3)/3=u/3+1 by omega,show(u+3) % 3=u % 3 by omega];rfl
theorem jA:∀l:List iD,(l.flatMap lF).length=l.length*3
 |[]=>rfl
 |x::l=>by rw[qU,qA,ou,jA l,qI];omega
theorem yZ(l:List iD):flatK lF 3 l.toArray=(l.flatMap lF).toArray:=by
 refine ext_get! (by rw[size_flatK,List.size_toArray,List.size_toArray,jA]) fun t ht=> ?_
 have ht':t<l.length*3:=by rw[size_flatK,List.size_toArray]at ht;exact ht
 rw[get_flatK _ _ _ _ (by rw[List.size_toArray];exact ht')]
 have h1:(l.flatMap lF).toArray[t]! =(lF (l.getD (t/3) default)).getD (t % 3) default:=by
  have hk:t<(l.flatMap lF).length:=by rw[jA];exact ht'
  have:=zV l t ht';rw[qB hk]at this;rw[getElem!_pos _ t (by rw[List.size_toArray];exact hk),List.getElem_toArray];exact Option.some.inj this
 rw[h1]
 have h2:l.toArray[t/3]! =l.getD (t/3) default:=by
  rw[getElem!_pos _ _ (by rw[List.size_toArray];omega),List.getElem_toArray,qC,qB (by omega)];rfl
 rw[h2];generalize l.getD (t/3) default=x;rw[getElem!_pos _ _ (by rw[ou];omega),qC,qB (by rw[ou];omega)];rfl
theorem WR:∀l:List iD,List.flatMap (enc nJ) l=(l.flatMap lF).map D.v
 |[]=>rfl
 |x::l=>by rw[qU,qU,qZ,WR l];rfl
theorem Zk(l:List iD):(l.flatMap lF).all (·.oneCell')=true:=by
 rw[List.all_eq_true];intro v hv;obtain⟨x,_,hx⟩:=List.mem_flatMap.1 hv;simp only[lF,List.mem_cons,List.not_mem_nil,or_false]at hx;rcases hx with rfl|rfl|rfl<;>rfl
theorem YO:R5:=fun l hl=>by
 have hso:=pdq_sorts (ltOf Yp) ZbX l.toArray 0 l.toArray.size (Lib.bitLen l.toArray.size) true true (Nat.zero_le _) (Nat.le_refl _) (Or.inl rfl);generalize hd':pdq (ltOf Yp) l.toArray 0 l.toArray.size (Lib.bitLen l.toArray.size) true true=d' at hso;obtain⟨⟨p1,_,p3⟩,q⟩:=hso
 have pm:d'.toList.Perm l:=by
  rw[<-p1,Array.extract_size]at p3;simpa[p1]using p3
 refine⟨d'.toList,pm,?_,(by kernel_rfl),fun cx β w fr vs hI hd=> ?_⟩
 .rw[List.pairwise_iff_getElem];intro i j hi hj hij;have hj':j<d'.size:=by simpa using hj
  have:=q i j (Nat.zero_le _) hij (by rw[<-p1];exact hj');rw[ltT,getElem!_pos d' j hj',getElem!_pos d' i (by omega)]at this;have:=of_decide_eq_false this;simp only[Array.getElem_toList];omega
 unfold aF at hd;obtain⟨v1,vs1,rfl,k1,hd⟩:=hd;unfold aF at hd;obtain⟨v2,vs2,rfl,k2,hd⟩:=hd;unfold aF at hd;subst hd;unfold Den at k1 k2;obtain⟨rfl, -⟩:=k1;obtain⟨us,rfl,k2⟩:=k2;unfold aF at k2;subst k2;have hI':Inv cx.w0 cx.F0 w (Tok.res cx β (.row 10000 182 3 nJ l [])::fr):=hI;obtain⟨_,hG0⟩:=kG hI';have hG:Inv cx.w0 cx.F0 w (Gr (β 10000) 182 3 l.length (List.flatMap (enc nJ) l)::fr):=hG0.BI;have hfl:(List.flatMap (enc nJ) l).length=l.length*3:=by rw[WR,qV,jA]
 by_cases h0:l.length=0
 .have hl0:l=[]:=List.eq_nil_of_length_eq_zero h0;obtain⟨A,c,bs,hv,_⟩:=hG.Yx 0 rfl hfl;have hdn:d'.toList=[]:=by rw[hl0]at pm;exact List.Perm.eq_nil pm
  have hcon:=AnyF.slices_SortFunc_none YP A c (.func (.func 129) #[] #[]) w
  change Calls Tryz.prog 128 _ _ _ at hcon
  rw[hv,h0];refine hcon.mono ?_;rintro e w' ⟨rfl,rfl⟩;refine⟨.tuple #[],β,rfl,fun _ _ _=>rfl,?_,?_⟩
  .unfold Den;exact⟨[],rfl,by unfold aF;rfl⟩
  .rw[hdn];rw[hl0]at hI;exact hI
 .obtain⟨b,c,hv⟩:=hG.TB 0 rfl (by omega);rw[hv]at hG |-;generalize hus:l.flatMap lF=us at*;have hul:us.length=l.length*3:=by rw[<-hus,jA]
  have hG1:Inv cx.w0 cx.F0 w (Gr (.slice (some ⟨b,0,none⟩) l.length c) 182 3 l.length ([]++(us.map D.v++[]))::fr):=by
   rw[List.nil_append,qS,<-hus,<-WR];exact hG
  have hO:=hG1.Zbp (by omega);obtain⟨cur,hrow,hcs⟩:=hO.Di 0 rfl (k:=0) rfl
  have hH:HoldsK lF 3 w b 0 l.toArray:=by
   unfold HoldsK;rw[yZ,hus];intro j hj;have hj':j<us.length:=by simpa using hj
   refine⟨?_,by simp[World.frozen?,hrow]⟩;have:=hO.U5 0 rfl (k:=0) rfl (j:=j) (u:=us[j]) (qB hj');rw[this,getElem!_pos us.toArray j hj,List.getElem_toArray];rfl
  have hblk:b<w.heap.size:=(Array.getElem?_eq_some_iff.1 hrow).1;have eg:∀args w,(callFunc 129 args).run Tryz.prog w=.ok (.enter 129 args) w:=enters_of Tryz.func129 (by kernel_rfl) rfl;have hcon:=AnyQ.slices_SortFunc_eq YP 3 Tryz.isAgg182 Tryz.sizeOf182 lF ou (fun x v hv=>by simp[lF]at hv;rcases hv with rfl|rfl|rfl<;>rfl) Yp ZbX 129 #[] b 0 c l.toArray w eg (fun _ _ _ _ x y=>cmpT x y _) hH hblk (by rw[List.size_toArray];omega)
  change Calls Tryz.prog 128 _ _ _ at hcon
  rw[hd',List.size_toArray]at hcon;refine hcon.mono ?_;rintro e w' ⟨rfl,n,os,rfl⟩;generalize hys:d'.toList.flatMap lF=ys at*;have hdl:d'.toList.length=l.length:=pm.length_eq;have hyl:ys.length=us.length:=by rw[<-hys,jA,hul,hdl]
  have hyo:ys.all (·.oneCell')=true:=by rw[<-hys];exact Zk _
  have hw:sortWorldK lF 3 w b 0 n d' os=grow ((w.drewN n).setCells b 0 ys) os:=by
   unfold sortWorldK putRowK;unfold HoldsK at hH;rw[yZ,hus]at hH;rw[show flatK lF 3 d'=ys.toArray by rw[<-hys,<-yZ,Array.toArray_toList]];have:=putRow_eq_setCells id w b 0 us.toArray ys n hH (by rw[List.size_toArray];exact hyl);rw[this,List.map_id]
  rw[hw];have hE:Ext w (w.drewN n):=⟨rfl,rfl,rfl,Nat.le_refl _,fun _ _=>rfl⟩;have hO1:=(hO.ext hE).Dh 0 rfl (k:=0) rfl (j:=0) (vs:=ys) (us':=ys) (by rw[Nat.ble_eq];omega) (by rw[List.take_zero,List.nil_append,List.drop_of_length_le (by omega),qS]);have hO2:Inv cx.w0 cx.F0 ((w.drewN n).setCells b 0 ys) (Mw b c 182 3 l.length [] ys []::fr):=hO1;have hO3:=((hO2.flat hyo).perm (List.Perm.swap _ _ _)).shut;rw[List.nil_append,qS,<-hys,<-WR]at hO3;have hO4:=hO3.FR;have hO5:Inv cx.w0 cx.F0 ((w.drewN n).setCells b 0 (d'.toList.flatMap lF)) (Tok.res cx β (.row 10000 182 3 nJ d'.toList [])::fr):=hO4.weak fun F hp=>⟨F,fun _ h=>h,rfl,by rw[hv,<-hdl];rw[<-hdl]at hp;exact hp⟩
  refine⟨.tuple #[],β,rfl,fun _ _ _=>rfl,?_,?_⟩
  .unfold Den;exact⟨[],rfl,by unfold aF;rfl⟩
  .rw[<-hys];exact hO5.ext ⟨rfl,rfl,rfl,by simp[grow],fun k hk=>by simp[grow,Array.getElem?_append_left hk]⟩
end Go.Proofs.YtbdimbjclhmeoaaGreat
namespace Go.Proofs.YtbdimbjclhmeoaaGreat
open Go Go.RowKit Go.Proofs Go.Tr
theorem ZF(n:Nat)(hn:n<=300):aJ Tryz.prog 163 [.int .u64 1,.int .u64 (n:Nat)] (.tup [.int .u64 0,.int .u64 (n:Nat)]):=by
 refine aJ.intro (nt:=51) aG mixed (by kernel_rfl) Tryz.func163 rfl rfl rfl rfl rfl ?_;refine aI (by decide) ?_;refine aI (by decide) ?_;refine aI (by decide) ?_;refine aI (by decide) ?_;refine aI (by decide) ?_;refine Eq.trans (Eq.refl _) ?_;have p:(2 ^ min (Int.toNat 32) IntKind.u64.bits:Int)=4294967296:=by decide
 have m1:bits .and .u64 1 4294967295=1:=Mul64.maskN 1 (by decide);have mn:bits .and .u64 ((n:Nat):Int) 4294967295=((n:Nat):Int):=by rw[Mul64.maskN n (by omega),Nat.mod_eq_of_lt (by omega)]
 have m0:bits .and .u64 0 4294967295=0:=Mul64.maskN 0 (by decide);have fn:Int.fdiv ((n:Nat):Int) 4294967296=0:=by rw[Int.fdiv_eq_ediv_of_nonneg _ (by decide)];omega
 have f1:Int.fdiv 1 4294967296=0:=by decide
 have f0:Int.fdiv 0 4294967296=0:=by decide
 have w0:IntKind.u64.wrap 0=0:=by decide
 have wn:IntKind.u64.wrap ((n:Nat):Int)=((n:Nat):Int):=by rw[IntKind.wrap_u64];omega
 simp only[p,m1,mn,f1,fn,Int.one_mul,Int.zero_mul,Int.add_zero,w0,m0,f0,wn]
def oN(n m:Nat):List Int:=List.replicate m (-1)++List.replicate (n-m) 0
theorem Um{n m:Nat}(h:m<=n):(oN n m).length=n:=by unfold oN;simp;omega
theorem Ni(n:Nat):yC (List.replicate n (0:Int)) 0 [-1] (Nat.min 1 n)=oN n (Nat.min 1 n):=by
 unfold yC oN;cases n with
 |zero=>rfl
 |succ n=>
  rw[show Nat.min 1 (n+1)=1 from Nat.min_eq_left (by omega)];simp
theorem Q5{n m:Nat}(h:m<=n):yC (oN n m) m (List.take m (List.drop 0 (oN n m))) (Nat.min m (n-m))=oN n (m+Nat.min m (n-m)):=by
 have hk:Nat.min m (n-m)<=m:=Nat.min_le_left _ _;have hk2:Nat.min m (n-m)<=n-m:=Nat.min_le_right _ _;generalize Nat.min m (n-m)=k at*;unfold yC oN;have e1:(List.replicate m (-1:Int)).length=m:=List.length_replicate;rw[List.drop_zero,List.take_left' e1,List.take_replicate,Nat.min_eq_left hk,List.drop_append,e1,List.drop_eq_nil_of_le (by omega),List.nil_append,List.drop_replicate,List.replicate_append_replicate,show m+k-m=k by omega,show n-m-k=n-(m+k) by omega]
theorem mulQ(n:Nat)(hn:n<=300):aJ Tryz.prog 126 [.int .u64 1,.int .u64 (n:Nat)] (.tup [.int .u64 0,.int .u64 (n:Nat)]):=by
 refine aJ.intro (nt:=30) aG mixed (by kernel_rfl) Tryz.func126 rfl rfl rfl rfl rfl ?_;refine aI (fun q=>by cases q) (fun _=> ?_);refine oZ (ZF n hn) ?_;exact rfl
theorem u64_in{n:Nat}(h:n<=300):IntKind.u64.wrap ((n:Nat):Int)=((n:Nat):Int):=by rw[IntKind.wrap_u64];omega
theorem repQ(n:Nat)(hn:n<=300):aA Tryz.prog 96 [.rsl (.int .i64) [-1],.int .i64 (n:Nat)] [] (.sl 10000) [.row 10000 2 1 (.int .i64) (List.replicate n (-1)) []]:=by
 have hM:aJ Tryz.prog 126 [.int .u64 (IntKind.u64.wrap ((1:Nat):Int)),.int .u64 (IntKind.u64.wrap ((n:Nat):Int))] (.tup [.int .u64 0,.int .u64 (n:Nat)]):=by
  rw[u64_in hn,u64_in (by omega)];exact mulQ n hn
 have w1:IntKind.i64.wrap ((n:Nat):Int)=((n:Nat):Int):=qO _ (by omega);refine aA.intro (nt:=48) aG mixed YI Tryz.func96 rfl rfl rfl rfl rfl rfl ?_;refine aI (fun q=> ?_) (fun _=> ?_)
 .exfalso;have q2:decide (((n:Nat):Int)<0)=true:=q;have:=of_decide_eq_true q2;omega
 refine oZ hM ?_;refine aI (fun q=> ?_) (fun _=> ?_)
 .exfalso;have q2:(bif decide ((0:Int)<0)then true else decide ((9223372036854775807:Int)<((n:Nat):Int)))=true:=q;have q3:decide ((9223372036854775807:Int)<((n:Nat):Int))=true:=q2;have:=of_decide_eq_true q3;omega
 refine aI (show 0<=IntKind.i64.wrap ((n:Nat):Int)/\IntKind.i64.wrap ((n:Nat):Int)<=IntKind.i64.wrap ((n:Nat):Int)/\IntKind.i64.wrap ((n:Nat):Int)<=2097152 by rw[w1];omega) ?_;refine lp Nat (fun m=>[(8,.int .i64 (m:Nat)),(7,.sl 20000)]) (fun m=>[.row 20000 2 1 (.int .i64) (oN n m) []]) (fun m=>n-m) (fun m=>m<=n/\(0<n->0<m)) (Nat.min 1 n) ⟨Nat.min_le_right _ _,fun h=>Nat.lt_min.2 ⟨by omega,h⟩⟩ ?_ ?_
 .refine hd [(20000,30)] rfl (aI (aI ?_ rfl) (aI rfl trivial)) ⟨⟨?_,nP⟩,trivial⟩
  .show((Nat.min 1 (List.replicate (IntKind.i64.wrap ((n:Nat):Int)).toNat (0:Int)).length:Nat):Int)=((Nat.min 1 n:Nat):Int);rw[w1,qK,List.length_replicate]
  .show yC (List.replicate (IntKind.i64.wrap ((n:Nat):Int)).toNat (0:Int)) 0 [-1] (Nat.min 1 (List.replicate (IntKind.i64.wrap ((n:Nat):Int)).toNat (0:Int)).length)=oN n (Nat.min 1 n);rw[w1,qK,List.length_replicate,Ni]
 rintro m ⟨hm,hp⟩;have hm':m<=n:=hm;have hp':0<n->0<m:=hp;have hl:=Um hm';refine aI (fun q=> ?_) (fun q=> ?_)
 .have hlt:m<n:=by
   have q2:decide (((m:Nat):Int)<((oN n m).length:Nat))=true:=q;have:=of_decide_eq_true q2;omega
  have hk:Nat.min m (n-m)<=n-m:=Nat.min_le_right _ _;have hk2:0<Nat.min m (n-m):=Nat.lt_min.2 ⟨hp' (by omega),by omega⟩;refine aI (show 0<=((m:Nat):Int)/\((m:Nat):Int)<((oN n m).length:Nat) by omega) ?_;refine Or.inl (Or.inr (aI (show 0<=((m:Nat):Int)/\((m:Nat):Int)<=((oN n m).length:Nat)/\0<(oN n m).length by omega) (aI rfl ?_)));refine aI (show((m:Nat):Int).toNat+((oN n m).length-((m:Nat):Int).toNat)<=(oN n m).length/\0+((m:Nat):Int).toNat<=(oN n m).length by omega) ?_;refine aI (by kernel_rfl) ?_;have e1:((m:Nat):Int).toNat=m:=qK m
  refine aY (m+Nat.min m (n-m)) ⟨by omega,by omega⟩ ?_ ?_
  .refine hd [] rfl (aI (aI ?_ rfl) (aI rfl trivial)) ⟨⟨?_,nP⟩,trivial⟩
   .show IntKind.i64.wrap (((m:Nat):Int)+((Nat.min ((m:Nat):Int).toNat ((oN n m).length-((m:Nat):Int).toNat):Nat):Int))=((m+Nat.min m (n-m):Nat):Int);rw[e1,hl,qO _ (by omega)];omega
   .show yC (oN n m) ((m:Nat):Int).toNat (List.take ((m:Nat):Int).toNat (List.drop 0 (oN n m))) (Nat.min ((m:Nat):Int).toNat ((oN n m).length-((m:Nat):Int).toNat))=oN n (m+Nat.min m (n-m));rw[e1,hl,Q5 hm']
  .show n-(m+Nat.min m (n-m))<n-m;omega
 .have hge:n<=m:=by
   have q2:decide (((m:Nat):Int)<((oN n m).length:Nat))=false:=q;have:=of_decide_eq_false q2;omega
  have hmn:m=n:=by omega
  subst hmn;refine fin [(10000,20000)] (aI rfl ⟨⟨?_,nP⟩,trivial⟩);show oN m m=_;unfold oN;rw[Nat.sub_self,List.replicate_zero,qS]
theorem ZbJ:ZaG:=fun n hn=>
 aA.Ey (ts2:=[.row 10001 2 1 (.int .i64) (List.replicate n (-1)) []]) aG [47,0] YI (repQ n hn) rfl rfl rfl
theorem yA.fin{bk:iQ}{y0:aS}{T:List aB}{sT:List oU}{d c:Int}{r rf:RS}(h:yA bk y0 T sT d r c rf):c=0->∃R,Tr.Good bk y0 T sT R rf:=by
 induction h with
 |stop g hd h=>exact fun _=>⟨_,g⟩
 |bad g hd h hc t=>exact fun e=>absurd e hc
 |next g hd h g' hl hne t k ih=>exact ih
inductive ZaD(bk:List (List ak))(xs:List ak)(es:List aB):Prop
 |bad (c:Int) (hc:c≠0) (hI:RY bk xs es c) (hS:SBd bk xs es c\/∃g,SGd bk xs es g/\Ym bk xs es c)
 |ok (r:RS) (g:List ak) (hI:ZaB bk xs es r) (hS:SGd bk xs es g) (hR:ZaF bk xs es r.ev (Zr r) (Zt r)) (hl:es.length<=300) (he:r.ev.length<=300) (hf:r.fr.length<=300) (hd:r.dep=U6 es.length r.fr) (hr:∀p∈r.fr,0<=p.1/\p.1<(es.length:Nat))
theorem ZaV(bk:iQ)(xs:aS)(es:List aB):ZaD bk xs es:=by
 cases hv:(jM (bk.map gN)&&iB (gN xs))with
 |false=>exact .bad 1 (by decide) (Y6 bk xs es (by decide) (MH bk xs es hv)) (.inl (QA bk xs es hv))
 |true=>
  rw[qD]at hv;obtain⟨hB,hN⟩:=hv
  by_cases hl:300<es.length
  .exact .bad 2 (by decide) (Y6 bk xs es (by decide) (Kt bk xs es hB hN hl)) (.inl (MF bk xs es hB hN hl))
  have nb:=(Sl hB).1;have nn:=Px hN;have hl2:=nn.l2;have hs:dK xs:=Dq.small nn;obtain⟨code,k,f,g,R,h,hz,_⟩:=Ii nb es (ev:=[]) nn.twin (by omega) (by rw[qR];omega)
  by_cases hc:code=0
  .subst hc;obtain⟨t1,t2,t3⟩:=h rfl;have hI:=QB bk xs es hB hN hs (by omega) R;have hS:=Sn bk xs es hB hN hs (by omega) R;have C:TC bk xs es (f.map sig):=⟨nb,nn.twin,hz.symm,t3,by omega,by rw[qV];exact t2⟩;obtain⟨c2,rf,H⟩:=LK C es.length _ [] 1 (Good.start C) (by simp) (by simp)
   by_cases hc2:c2=0
   .subst hc2;obtain⟨R2,G⟩:=H.fin rfl;have hle:=G.le;exact .ok rf g (ZaI YO ZbJ C hs hI H _ _ (fun e=>absurd rfl e) (fun _=>⟨rfl,rfl⟩)) hS (Qa C hs H _ _ (fun e=>absurd rfl e) (fun _=>⟨rfl,rfl⟩)) (by omega) (by rw[G.ev];omega) (by rw[G.fr];omega) G.dep G.rng
   .exact .bad c2 hc2 (ZaI YO ZbJ C hs hI H _ _ (fun _=>⟨rfl,rfl⟩) (fun e=>absurd e hc2)) (.inr ⟨g,hS,Qa C hs H _ _ (fun _=>⟨rfl,rfl⟩) (fun e=>absurd e hc2)⟩)
  .exact .bad code hc (Y6 bk xs es hc (MG bk xs es hB hN hs (by omega) hc R)) (.inl (Qz bk xs es hB hN hs (by omega) hc R))
end Go.Proofs.YtbdimbjclhmeoaaGreat
