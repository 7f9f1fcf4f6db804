
/- One interaction told by data alone; renamings answer alike; a state that both sides share. No program in it. -/
import Derived.Test.YtemalpelcdmemaaGreatYc
import Derived.Test.YtemalpelcdmemaaGreatNz
set_option linter.unusedSimpArgs false
set_option linter.unusedVariables false
namespace Go.Tr
open Go Go.RowKit
def Ii(bk:List (List NAgent))(ys:List NAgent)(a b:Int):Int:=
 if(iB bk (ah ys (firstS ys a b).1) (ah ys (firstS ys a b).2)).2≠0 then(iB bk (ah ys (firstS ys a b).1) (ah ys (firstS ys a b).2)).2
 else if 600<IntKind.i64.wrap ((bR ys ys.length:Nat)+(iB bk (ah ys (firstS ys a b).1) (ah ys (firstS ys a b).2)).1)then 4 else 0
def nxC(ys:List NAgent)(a b:Int):Int:=bO (ah ys (firstS ys a b).1) (ah ys (firstS ys a b).2)
def uh(bk:List (List NAgent))(ys:List NAgent)(a b:Int):List NAgent:=gH bk ys (nxC ys a b) (firstS ys a b).1 (firstS ys a b).2
structure Yz(bk:List (List NAgent))(ys:List NAgent)(a b:Int):Prop where
 sp:JF ys (nxC ys a b) (firstS ys a b).1 (firstS ys a b).2
 hc:1≤nxC ys a b∧nxC ys a b≤7
 h7:nxC ys a b=7→0≤(ah ys (firstS ys a b).1).2.2.1∧(ah ys (firstS ys a b).1).2.2.1<(bk.length:Nat)
theorem LB(F:Int→Int)(u v:NAgent):bO (sZ F u) (sZ F v)=bO u v:=rfl
theorem MS(bk:List (List NAgent))(F:Int→Int)(c:Int)(u v:NAgent):sV bk c (sZ F u) (sZ F v)=sV bk c u v:=by
 unfold sV nZ;rw[nJ,nJ];rfl
theorem WI(bk:List (List NAgent))(F:Int→Int)(u v:NAgent):iB bk (sZ F u) (sZ F v)=iB bk u v:=by
 unfold iB;rw[LB,MS,MS];rfl
def pF(f:Nat→Nat)(p:Int×Int):Int×Int:=(fI f p.1,fI f p.2)
section
variable {f g:Nat→Nat}{N P Y:List NAgent}{a b:Int}{bk:List (List NAgent)}
theorem Ren.refl(P:List NAgent):Ren (fun i=>i) P P:=by
 have e:∀z,fI (fun i=>i) z=z:=fun z=>by
  by_cases h:0≤z
  ·rw[kX h];omega
  ·rw[wF h]
 refine⟨fun _ _ h=>h,rfl,fun _=>rfl,fun i _=> ?_,fun k _ h=>absurd rfl (h k)⟩;have e2:nP (fI fun i=>i)=id:=funext fun p=>Prod.ext (e p.1) rfl
 unfold sZ;rw[e2,List.map_id]
theorem WC(z:Int):fI g (fI f z)=fI (fun i=>g (f i)) z:=by
 by_cases h:0≤z
 ·rw[kX h,uE,kX h]
 ·rw[wF h,wF h,wF h]
theorem Vj(a:NAgent):sZ (fI g) (sZ (fI f) a)=sZ (fI fun i=>g (f i)) a:=by
 unfold sZ;simp only[List.map_map];have:(nP (fI g)∘nP (fI f))=nP (fI fun i=>g (f i)):=funext fun p=>Prod.ext (WC p.1) rfl
 rw[this]
theorem Ren.trans(h:Ren f N P)(k:Ren g P Y):Ren (fun i=>g (f i)) N Y:=by
 refine⟨fun i j e=>k.mono _ _ (h.mono _ _ e),by show g (f 0)=0;rw[h.zero,k.zero],fun j=>by show g (f (N.length+j))=_;rw[h.ends,k.ends],fun i hi=> ?_,fun m hm hn=> ?_⟩
 ·rw[k.at_ (f i) (h.YZ.2 hi),h.at_ i hi,Vj]
 ·by_cases e:∃j,g j=m
  ·obtain⟨j,rfl⟩:=e;have hj:=k.YZ.1 hm;rw[k.at_ j hj,h.hole j hj fun i hi=>hn i (by show g (f i)=g j;rw[hi])];rfl
  ·exact k.hole m hm fun j hj=>e ⟨j,hj⟩
theorem Ren.first(h:Ren f N Y)(ha:0≤a∧a<(N.length:Nat))(hb:0≤b∧b<(N.length:Nat)):firstS Y (fI f a) (fI f b)=pF f (firstS N a b):=by
 unfold firstS;rw[h.Ip ha.1 ha.2,h.Ip hb.1 hb.2];show(bif bf (ah N a).1 (ah N a).2.1 (ah N b).1 (ah N b).2.1==2 then _ else _)=_;cases bf (ah N a).1 (ah N a).2.1 (ah N b).1 (ah N b).2.1==2<;>rfl
theorem Ren.Ii(h:Ren f N Y)(ha:0≤a∧a<(N.length:Nat))(hb:0≤b∧b<(N.length:Nat)):Tr.Ii bk Y (fI f a) (fI f b)=Tr.Ii bk N a b:=by
 have hf:=firstS_in (xs:=N) ha hb;unfold Tr.Ii;rw[h.first ha hb];show(if(iB bk (ah Y (fI f (firstS N a b).1)) (ah Y (fI f (firstS N a b).2))).2≠0 then(iB bk (ah Y (fI f (firstS N a b).1)) (ah Y (fI f (firstS N a b).2))).2 else if 600<IntKind.i64.wrap ((Tr.bR Y Y.length:Nat)+(iB bk (ah Y (fI f (firstS N a b).1)) (ah Y (fI f (firstS N a b).2))).1)then 4 else 0)=_;rw[h.Ip hf.1.1 hf.1.2,h.Ip hf.2.1 hf.2.2,WI,h.bR]
theorem Ren.nxC(h:Ren f N Y)(ha:0≤a∧a<(N.length:Nat))(hb:0≤b∧b<(N.length:Nat)):Tr.nxC Y (fI f a) (fI f b)=Tr.nxC N a b:=by
 have hf:=firstS_in (xs:=N) ha hb;unfold Tr.nxC;rw[h.first ha hb];show bO (ah Y (fI f (firstS N a b).1)) (ah Y (fI f (firstS N a b).2))=_;rw[h.Ip hf.1.1 hf.1.2,h.Ip hf.2.1 hf.2.2,LB]
def WW(ys:List NAgent)(a b:Int):Int:=(ah ys (firstS ys a b).1).2.2.1
theorem Ren.WW(h:Ren f N Y)(ha:0≤a∧a<(N.length:Nat))(hb:0≤b∧b<(N.length:Nat)):Tr.WW Y (fI f a) (fI f b)=Tr.WW N a b:=by
 have hf:=firstS_in (xs:=N) ha hb;unfold Tr.WW;rw[h.first ha hb];show(ah Y (fI f (firstS N a b).1)).2.2.1=_;rw[h.Ip hf.1.1 hf.1.2];rfl
theorem Ren.uh(h:Ren f N Y)(ha:0≤a∧a<(N.length:Nat))(hb:0≤b∧b<(N.length:Nat))(hn:Yz bk N a b)(hA:bE N)(h0:ak N (0,0))(hw:BkW bk):Ren f (Tr.uh bk N a b) (Tr.uh bk Y (fI f a) (fI f b)):=by
 have k:=h.done hn.sp hA h0 hn.hc hw hn.h7;unfold Tr.uh;rw[h.nxC ha hb,h.first ha hb];exact k
theorem Ren.le(h:Ren f N Y):N.length≤Y.length:=by
 have k:∀i:Nat,i≤f i:=fun i=>by
  induction i with
  |zero=>exact Nat.zero_le _
  |succ i ih=>have:=h.mono i (i+1) (Nat.lt_succ_self i);omega
 rw[←h.len];exact k _
end
structure RS(kv:List (Int×Bool))(xs N P:List NAgent):Prop where
 tx:∃(Y:List NAgent) (f:Nat→Nat),Twin kv xs Y∧Ren f N Y
 wx:JH (fun _=>False) xs
 tn:∃(k:List (Int×Bool)) (z:List NAgent),Twin k z N
 tp:∃(k:List (Int×Bool)) (z:List NAgent) (g:Nat→Nat),Twin k z P∧Ren g N P
section
variable {kv:List (Int×Bool)}{xs N P:List NAgent}{bk:List (List NAgent)}
theorem Twin.Xe{k:List (Int×Bool)}{z Y:List NAgent}{f:Nat→Nat}(T:Twin k z N)(h:Ren f N Y):prsN Y=(prsN N).map (pF f):=h.prs T.JN T.Va
theorem Ren.Pv{f:Nat→Nat}{l m:List (Int×Int)}(h:l=m.map (pF f)){k:Int}(h0:0≤k)(h1:k<(m.length:Nat)):elt (dflt uPort) l k=pF f (elt (dflt uPort) m k):=by
 have h2:k.toNat<m.length:=by omega
 rw[h];unfold elt;rw[List.getD_eq_getElem?_getD,List.getD_eq_getElem?_getD,List.getElem?_map,List.getElem?_eq_getElem h2];rfl
theorem Twin.U2{k:List (Int×Bool)}{z Y:List NAgent}(T:Twin k z Y):Twin [] (packN Y) (packN Y)∧Ren (XQ k Y) (packN Y) Y:=⟨T.en.2.twin T T.en.1,T.en.1⟩
theorem Twin.wfF{z Y:List NAgent}(T:Twin [] z Y):JH (fun _=>False) z:=fun i h0 h1 _=>T.wf i h0 h1 fun e=>by
 have e':bL false ([]:List (Int×Bool)) i=true:=e;cases e'
theorem RS.Zas(h:RS kv xs N P):RS [] (packN N) (packN N) P∧∃Y,Twin kv xs Y∧packN Y=packN N:=by
 obtain⟨Y,f,TY,rf⟩:=h.tx;obtain⟨k,z,TN⟩:=h.tn;obtain⟨k2,z2,g,TP,rg⟩:=h.tp;have F:=TN.U2;exact⟨⟨⟨_,_,F.1,Ren.refl _⟩,F.1.wfF,⟨_,_,F.1⟩,⟨_,_,_,TP,F.2.trans rg⟩⟩,Y,TY,rf.pack TN.JN⟩
theorem RS.X7(h:RS kv xs N P):RS kv xs (packN N) (packN N)∧packN P=packN N:=by
 obtain⟨Y,f,TY,rf⟩:=h.tx;obtain⟨k,z,TN⟩:=h.tn;obtain⟨k2,z2,g,TP,rg⟩:=h.tp;have F:=TN.U2;exact⟨⟨⟨Y,_,TY,F.2.trans rf⟩,h.wx,⟨_,_,F.1⟩,⟨_,_,_,F.1,Ren.refl _⟩⟩,rg.pack TN.JN⟩
theorem RS.start{xs:List NAgent}(T:Twin [] xs xs):RS [] xs xs xs:=⟨⟨_,_,T,Ren.refl _⟩,T.wfF,⟨_,_,T⟩,⟨_,_,_,T,Ren.refl _⟩⟩
end
theorem uT{p lo hi d:Int}(h0:lo≤p)(h1:p≤hi)(hb: -1000≤lo∧hi≤1000∧ -1000≤d∧d≤1000):(kI p lo hi d).1=p+d:=by
 unfold kI;rw[decide_eq_false (show ¬p<lo by omega),cond_false,decide_eq_false (show ¬hi<p by omega),cond_false];exact IntWalk.i64_in _ (by omega)
theorem Ua{bk:List (List NAgent)}{xs:List NAgent}{c x y:Int}(hc:1≤c∧c≤7)(py:1≤(ah xs y).2.2.2.2.length∧(ah xs y).2.2.2.2.length≤4)(px:1≤(ah xs x).2.2.2.2.length∧(ah xs x).2.2.2.2.length≤4)
  (k6:c=6→(ah xs x).1=6∨(ah xs x).1=9) (k7:c=7→2≤(bQ bk (ah xs x).2.2.1).length∧(bQ bk (ah xs x).2.2.1).length≤600):tQ bk xs c x y+((gI c x y).length:Nat)=((vg bk xs c x y).length:Nat):=by
 have w1:∀n:Nat,1≤n→n≤4→IntKind.i64.wrap ((n:Nat)-1)=(n:Int)-1:=fun n h1 h2=>IntWalk.i64_in _ (by omega)
 have hcs:c=1∨c=2∨c=3∨c=4∨c=5∨c=6∨c=7:=by omega
 rcases hcs with rfl|rfl|rfl|rfl|rfl|rfl|rfl
 ·rfl
 ·rfl
 ·show(kI (IntKind.i64.wrap (((ah xs y).2.2.2.2.length:Nat)-1)) 0 3 0).1+2=(([nO xs y]++[nO xs y]++List.replicate ((ah xs y).2.2.2.2.length-1) (bC 4 (ah xs x).2.1 0 [] 3)).length:Nat);rw[w1 _ py.1 py.2,uT (by omega) (by omega) (by omega)];simp only[List.length_append,List.length_cons,List.length_nil,List.length_replicate];omega
 ·show(kI (IntKind.i64.wrap (((ah xs y).2.2.2.2.length:Nat)-1)) 0 3 (-2)).1+2=((List.replicate ((ah xs y).2.2.2.2.length-1) (bC 5 0 0 [] 1)).length:Nat);rw[w1 _ py.1 py.2,uT (by omega) (by omega) (by omega)];simp only[List.length_replicate];omega
 ·have e:(vg bk xs 5 x y).length=1:=by
   show(bif (ah xs y).1==7 then[bC 8 (ah xs y).2.1 (ah xs y).2.2.1 [(ah xs x).2.2.1] 2]else[bC 6 0 (yB (ah xs y).2.2.1 (jH (ah xs y).2.2.2.1 0) (ah xs x).2.2.1) [] 1]).length=1;cases (ah xs y).1==7<;>rfl
  rw[e];rfl
 ·show(kI (bif (ah xs x).1==9 then IntKind.i64.wrap (((ah xs x).2.2.2.2.length:Nat)-1)else 0) 0 3 (-1)).1+2=((bif (ah xs x).1==6 then[bC 12 (ah xs y).2.1 (jH (ah xs y).2.2.2.1 (bif (ah xs x).2.2.1==0 then 1 else 0)) [] 1]
   else[bC 12 (ah xs y).2.1 (jH (ah xs y).2.2.2.1 (ah xs x).2.2.1) [] 1]++List.replicate ((ah xs x).2.2.2.2.length-1) (bC 3 (ah xs y).2.1 0 [] 3)).length:Nat)
  rcases k6 rfl with e|e
  ·rw[e];rfl
  ·rw[e];show(kI (IntKind.i64.wrap (((ah xs x).2.2.2.2.length:Nat)-1)) 0 3 (-1)).1+2=(([bC 12 (ah xs y).2.1 (jH (ah xs y).2.2.2.1 (ah xs x).2.2.1) [] 1]++List.replicate ((ah xs x).2.2.2.2.length-1) (bC 3 (ah xs y).2.1 0 [] 3)).length:Nat);rw[w1 _ px.1 px.2,uT (by omega) (by omega) (by omega)];simp only[List.length_append,List.length_cons,List.length_nil,List.length_replicate];omega
 ·show(kI ((bQ bk (ah xs x).2.2.1).length:Nat) 2 600 (-2)).1+1=((((nN bk xs x).drop 1).map (dz ((xs.length:Nat)-1))).length:Nat);have:=k7 rfl;have e:(nN bk xs x).length=(bQ bk (ah xs x).2.2.1).length:=by unfold nN;unfold cO;exact List.length_map _
  rw[uT (by omega) (by omega) (by omega),List.length_map,List.length_drop,e];omega
theorem Xo{kv:List (Int×Bool)}(hT:∀e∈kv,e.2=true){c x y:Int}(hx:bL false kv x=false)(hy:bL false kv y=false)(hxy:x≠y):(mI kv (gI c x y)).length=kv.length+(gI c x y).length:=by
 unfold gI;cases c==7 with
 |true=>exact uV hT hx
 |false=>
  show(gT (gT kv x true) y true).length=kv.length+2;rw[uV (Kr hT x) (by rw[yV,if_neg hxy];exact hy),uV hT hx]
end Go.Tr
