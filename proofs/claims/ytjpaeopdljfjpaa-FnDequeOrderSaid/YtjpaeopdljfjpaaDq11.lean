
/- Deques. Printed by gx_dq.py. -/
import Derived.Test.YtjpaeopdljfjpaaShort
import Derived.Test.YtjpaeopdljfjpaaProg
import Derived.Test.YtjpaeopdljfjpaaSc
import Derived.Test.YtjpaeopdljfjpaaDDq
import Derived.Test.YtjpaeopdljfjpaaNet
import Derived.IntWalk
import Derived.Test.YtjpaeopdljfjpaaDq3
set_option maxHeartbeats 1000000
set_option linter.unusedSimpArgs false
set_option linter.unusedVariables false
namespace Go.Proofs.Ytjpaeopdljfjpaa
open Go Go.RowKit Go.Proofs Go.Tr
theorem tq:bI Try.prog 57 0=some 0:=by kernel_rfl
theorem mH:eP Try.prog 24=some false:=by kernel_rfl
theorem oH:cO Try.prog 24=some (2,1):=by kernel_rfl
theorem zB:(Try.prog.info? 57).map (·.size)=some 5:=by kernel_rfl
theorem sZ:bI Try.prog 30 2=some 2:=by kernel_rfl
theorem xZ:bI Try.prog 30 4=some 4:=by kernel_rfl
theorem H6:eP Try.prog 28=some false:=by kernel_rfl
theorem xY:bI Try.prog 30 3=some 3:=by kernel_rfl
theorem Cw:eP Try.prog 27=some false:=by kernel_rfl
theorem CW:cO Try.prog 27=some (57,5):=by kernel_rfl
theorem Eb:bI Try.prog 57 4=some 4:=by kernel_rfl
theorem jI:eP Try.prog 2=some false:=by kernel_rfl
theorem Iw:eU Try.prog 28 36 2:=eU.of Try.underlying28 (by kernel_rfl) (by omega)
theorem Jh:(Try.prog.info? 28).map (·.size)=some 1:=by kernel_rfl
theorem H8:eP Try.prog 57=some true:=by kernel_rfl
theorem Jv:zeroOf Try.prog 57=some [.slice none 0 0,.int .i64 (0),.int .i64 (0),.int .i64 (0),.int .i64 (0)]:=by kernel_rfl
theorem sW:bI Try.prog 30 0=some 0:=by kernel_rfl
theorem oI:bI Try.prog 57 2=some 2:=by kernel_rfl
theorem qx:(Try.prog.info? 2).map (·.size)=some 1:=by kernel_rfl
theorem tu:bI Try.prog 57 1=some 1:=by kernel_rfl
theorem oJ:bI Try.prog 57 3=some 3:=by kernel_rfl
theorem xX:bI Try.prog 30 1=some 1:=by kernel_rfl
theorem Dq:dA Try.prog 83=true:=by kernel_rfl
theorem yg:bI Try.prog 30 5=some 5:=by kernel_rfl
theorem Iu:eU Try.prog 24 2 1:=eU.of Try.underlying24 (by kernel_rfl) (by omega)
theorem Jg:(Try.prog.info? 24).map (·.size)=some 1:=by kernel_rfl
theorem pU(rb cA m k tb to ct:Nat)(n0:Int)(tl:List Int)(pc t b x:Int)(d1 d2:List D)(w0:World){F:List Nat}(hS:Sep w0 [cK rb cA 57 5 m (d1) [.slice (some ⟨tb,to,none⟩) (tl.length+1) ct,.int .i64 (pc),.int .i64 (t),.int .i64 (b),.int .i64 (x)] (d2),Dat (.slice (some ⟨tb,to,none⟩) (tl.length+1) ct) (tl.length+1) ((n0::tl).flatMap au)] F)(hd1:d1.length=k*5)(hl:tl.length≤1000):Calls Try.prog 83 #[.pointer (some ⟨rb,k*5,none⟩)] w0 fun e w'=>∃A' c',e=.returned (.tuple #[])∧Tr.Inv w0 F w' [cK rb cA 57 5 m (d1) [.slice A' tl.length c',.int .i64 (0),.int .i64 (0),.int .i64 (0),.int .i64 (0)] (d2),Dat (.slice A' tl.length c') tl.length (tl.flatMap au)]:=by
 refine bF (args:=[.pointer (some ⟨rb,k*5,none⟩)]) Try.func83 rfl Try.ntmps83 rfl hS (fun a w E H=> ?_)
 have E:Env 10 a [(0,.pointer (some ⟨rb,k*5,none⟩))]:=E
 refine wp_region_lit ?_
 refine vm E rfl rfl fun a E=>vm E rfl rfl fun a E=>wv E rfl (aZ (E.tmp rfl)) fun a E=>wv E rfl (aS (o':=k*5) (E.tmp rfl) tq rfl) fun a E=>wv E rfl (aD (E.tmp rfl) mH (H.bX 0 rfl hd1 (j:=0) rfl)) fun a E=> ?_
 obtain⟨s1A,s1r,s1h⟩:=sl1 (P:=Try.prog) w (E.tmp rfl:a.eval (.tmp 6)=_) (aC (.int .i64 1)) oH
 refine wv E rfl (s1r _ _ _ _ _) fun a E=>wv E rfl (oN (pv (KL (E.tmp rfl) (Gm))) (by kernel_rfl:(Instr.build 57 (List.toArray [(0,.slice s1A tl.length (ct-1))])).run Try.prog _=.ok (.agg #[.slice s1A tl.length (ct-1),.int .i64 (0),.int .i64 (0),.int .i64 (0),.int .i64 (0)]) _)) fun a E=>wv E rfl (aZ (E.tmp rfl)) fun a E=> ?_
 refine dS (vs:=[.slice s1A tl.length (ct-1),.int .i64 (0),.int .i64 (0),.int .i64 (0),.int .i64 (0)]) (us':=[.slice s1A tl.length (ct-1),.int .i64 (0),.int .i64 (0),.int .i64 (0),.int .i64 (0)]) (rs':=[cK _ _ _ _ _ _ [.slice s1A tl.length (ct-1),.int .i64 (0),.int .i64 (0),.int .i64 (0),.int .i64 (0)] _,_]) (j:=0) E (E.tmp rfl) (E.tmp rfl) rfl rfl zB H (i:=0) rfl hd1 rfl rfl rfl rfl (fun a w E H=> ?_)
 refine wpList_nil ?_
 refine(iG E rfl ?_).2
 have H:=H.front 1 rfl
 have H:=H.Fv (s:=1) (d1:=au n0) (d2:=tl.flatMap au) rfl (by rw[bQ au 1 (fun _=>rfl)]) s1h
 have H:=H.front 1 rfl
 exact⟨_,_,rfl,H⟩
theorem wP(b n c bb k:Nat)(i:Int)(w0:World)(hc:Bu w0 [] b 2 (.slice (some ⟨bb,0,none⟩) n c))(hat:Jy i n=((k:Nat):Int))(hkl:k<n):Calls Try.prog 84 #[.pointer (some ⟨b,0,none⟩),.int .i64 (i)] w0 fun e w'=>e=.returned (.pointer (some ⟨bb,k*1,none⟩))∧Ext w0 w':=by
 refine bF (args:=[.pointer (some ⟨b,0,none⟩),.int .i64 (i)]) Try.func84 rfl Try.ntmps84 rfl iI (fun a w E H=> ?_)
 have E:Env 23 a [(0,.pointer (some ⟨b,0,none⟩)),(1,.int .i64 (i))]:=E
 refine wp_seq (wp_region_lit ?_)
 refine wv E rfl (aK (aC _)) fun a E=> ?_
 refine wpList_nil (aj (wp_seq (wp_region_lit ?_)))
 refine vm E rfl rfl fun a E=>wv E rfl (aZ (E.tmp rfl)) fun a E=>wv E rfl (aS (o':=2) (E.tmp rfl) sZ rfl) fun a E=>wv E rfl (aD (E.tmp rfl) mH (hc.get H)) fun a E=> ?_
 refine wv E rfl (dM (E.tmp rfl) oH) (fun a E=> ?_)
 refine va E rfl rfl fun a E=> ?_
 refine wpList_nil (aj (wp_seq ?_))
 let fl2:Flow:=⟨[.c (.pointer (some ⟨b,0,none⟩)),.c (.pointer (some ⟨b,0,none⟩)),.c (.pointer (some ⟨b,2,none⟩)),.c (.slice (some ⟨bb,0,none⟩) n c),.c (.int .i64 (i)),.c (.int .i64 (((n:Nat):Int))),.c (.int .i64 (Int.tmod i ((n:Nat):Int))),.c (.int .i64 (((n:Nat):Int))),.c (.int .i64 (IntKind.i64.wrap ((Int.tmod i ((n:Nat):Int))+((n:Nat):Int)))),.c (.int .i64 (((n:Nat):Int))),.c (.int .i64 (Int.tmod (IntKind.i64.wrap ((Int.tmod i ((n:Nat):Int))+((n:Nat):Int))) ((n:Nat):Int))),.c (.pointer (some ⟨bb,k*1,none⟩)),.c (.pointer (some ⟨bb,k*1,none⟩))],[],[[],[0],[0,1],[0,1,2],[],[],[4,5],[],[4,5,6,7],[],[4,5,6,7,8,9],[0,1,2,3,4,5,6,7,8,9,10],[0,1,2,3,4,5,6,7,8,9,10,11]]⟩
 have E:Env 23 a [(0,.pointer (some ⟨b,0,none⟩)),(1,.int .i64 (i)),(5,.int .i64 (((n:Nat):Int))),(6,.pointer (some ⟨b,0,none⟩)),(7,.pointer (some ⟨b,0,none⟩)),(8,.pointer (some ⟨b,2,none⟩)),(9,.slice (some ⟨bb,0,none⟩) n c),(10,.int .i64 (((n:Nat):Int)))]:=(Env.pick E (Env.pick E (Env.pick E (Env.pick E (Env.pick E (Env.pick E (Env.pick E (Env.pick E E.nil rfl) rfl) rfl) rfl) rfl) rfl) rfl) rfl)
 refine iK (rs:=[]) rfl fl2 E (by rw[qS];exact H) 13 rfl (by kernel_rfl) ?_ ?_
 ·
  refine aB.snoc (aB.snoc (aB.snoc (aB.snoc (aB.snoc (aB.snoc (aB.snoc (aB.snoc (aB.snoc (aB.snoc (aB.snoc (aB.snoc (aB.snoc (aB.zero _) ?_) ?_) ?_) ?_) ?_) ?_) ?_) ?_) ?_) ?_) ?_) ?_) ?_
  ·
   refine⟨_,_,_,rfl,rfl,rfl,fun ν a w rs E hk ht H=> ?_⟩
   exact Gives.val rfl (bN (E.tmp rfl)) ⟨trivial,rfl,H⟩
  ·
   refine⟨_,_,_,rfl,rfl,rfl,fun ν a w rs E hk ht H=> ?_⟩
   have E:=Env.add (v:=.pointer (some ⟨b,0,none⟩)) E (ht 0 (by decide) _ _ 11 rfl rfl rfl)
   exact Gives.val rfl (aZ (E.tmp rfl)) ⟨trivial,rfl,H⟩
  ·
   refine⟨_,_,_,rfl,rfl,rfl,fun ν a w rs E hk ht H=> ?_⟩
   have E:=Env.add (v:=.pointer (some ⟨b,0,none⟩)) E (ht 1 (by decide) _ _ 12 rfl rfl rfl)
   exact Gives.val rfl (aS (o':=2) (E.tmp rfl) sZ rfl) ⟨trivial,rfl,H⟩
  ·
   refine⟨_,_,_,rfl,rfl,rfl,fun ν a w rs E hk ht H=> ?_⟩
   have E:=Env.add (v:=.pointer (some ⟨b,2,none⟩)) E (ht 2 (by decide) _ _ 13 rfl rfl rfl)
   have H:Tr.Inv w0 [] w ([]++([]++rs)):=H
   exact Gives.val rfl (aD (E.tmp rfl) mH (hc.get H)) ⟨trivial,rfl,H⟩
  ·
   refine⟨_,_,_,rfl,rfl,rfl,fun ν a w rs E hk ht H=> ?_⟩
   exact Gives.val rfl (bN (E.tmp rfl)) ⟨trivial,rfl,H⟩
  ·
   refine⟨_,_,_,rfl,rfl,rfl,fun ν a w rs E hk ht H=> ?_⟩
   exact Gives.val rfl (bN (E.tmp rfl)) ⟨trivial,rfl,H⟩
  ·
   refine⟨_,_,_,rfl,rfl,rfl,fun ν a w rs E hk ht H=> ?_⟩
   have E:=Env.add (v:=.int .i64 (i)) E (ht 4 (by decide) _ _ 15 rfl rfl rfl)
   have E:=Env.add (v:=.int .i64 (((n:Nat):Int))) E (ht 5 (by decide) _ _ 16 rfl rfl rfl)
   exact Gives.val rfl (aN (E.tmp rfl) (E.tmp rfl) (xS (by omega) rfl)) ⟨trivial,rfl,H⟩
  ·
   refine⟨_,_,_,rfl,rfl,rfl,fun ν a w rs E hk ht H=> ?_⟩
   exact Gives.val rfl (bN (E.tmp rfl)) ⟨trivial,rfl,H⟩
  ·
   refine⟨_,_,_,rfl,rfl,rfl,fun ν a w rs E hk ht H=> ?_⟩
   have E:=Env.add (v:=.int .i64 (Int.tmod i ((n:Nat):Int))) E (ht 6 (by decide) _ _ 17 rfl rfl rfl)
   have E:=Env.add (v:=.int .i64 (((n:Nat):Int))) E (ht 7 (by decide) _ _ 18 rfl rfl rfl)
   exact Gives.val rfl (aN (E.tmp rfl) (E.tmp rfl) (kP rfl)) ⟨trivial,rfl,H⟩
  ·
   refine⟨_,_,_,rfl,rfl,rfl,fun ν a w rs E hk ht H=> ?_⟩
   exact Gives.val rfl (bN (E.tmp rfl)) ⟨trivial,rfl,H⟩
  ·
   refine⟨_,_,_,rfl,rfl,rfl,fun ν a w rs E hk ht H=> ?_⟩
   have E:=Env.add (v:=.int .i64 (IntKind.i64.wrap ((Int.tmod i ((n:Nat):Int))+((n:Nat):Int)))) E (ht 8 (by decide) _ _ 19 rfl rfl rfl)
   have E:=Env.add (v:=.int .i64 (((n:Nat):Int))) E (ht 9 (by decide) _ _ 20 rfl rfl rfl)
   exact Gives.val rfl (aN (E.tmp rfl) (E.tmp rfl) (xS (by omega) rfl)) ⟨trivial,rfl,H⟩
  ·
   refine⟨_,_,_,rfl,rfl,rfl,fun ν a w rs E hk ht H=> ?_⟩
   have E:=Env.add (v:=.slice (some ⟨bb,0,none⟩) n c) E (ht 3 (by decide) _ _ 14 rfl rfl rfl)
   have E:=Env.add (v:=.int .i64 (Int.tmod (IntKind.i64.wrap ((Int.tmod i ((n:Nat):Int))+((n:Nat):Int))) ((n:Nat):Int))) E (ht 10 (by decide) _ _ 21 rfl rfl rfl)
   exact Gives.val rfl (jX (k:=k) (o':=k*1) (E.tmp rfl) (E.tmp rfl) hat oH hkl (Nat.zero_add _)) ⟨trivial,rfl,H⟩
  ·
   refine⟨_,_,_,rfl,rfl,rfl,fun ν a w rs E hk ht H=> ?_⟩
   have E:=Env.add (v:=.pointer (some ⟨bb,k*1,none⟩)) E (ht 11 (by decide) _ _ 22 rfl rfl rfl)
   exact Gives.val rfl (aK (E.tmp rfl)) ⟨trivial,rfl,H⟩
 ·
  refine fun ν a w E hk ht H=> ?_
  have E:=Env.add E (show a.tmps[4]? =some (.pointer (some ⟨bb,k*1,none⟩)) from ht 12 _ _ 4 rfl rfl rfl)
  have H:Tr.Inv w0 [] w []:=H
  have E:Env 23 a [(0,.pointer (some ⟨b,0,none⟩)),(1,.int .i64 (i)),(4,.pointer (some ⟨bb,k*1,none⟩)),(5,.int .i64 (((n:Nat):Int))),(6,.pointer (some ⟨b,0,none⟩)),(7,.pointer (some ⟨b,0,none⟩)),(8,.pointer (some ⟨b,2,none⟩)),(9,.slice (some ⟨bb,0,none⟩) n c),(10,.int .i64 (((n:Nat):Int)))]:=(Env.pick E (Env.pick E (Env.pick E (Env.pick E (Env.pick E (Env.pick E (Env.pick E (Env.pick E (Env.pick E E.nil rfl) rfl) rfl) rfl) rfl) rfl) rfl) rfl) rfl)
  clear hk ht
  refine aj (wp_ret ?_)
  refine bB E rfl (aY E rfl) ?_
  exact⟨rfl,H.fH⟩
theorem Db(dd n cT:Nat)(AT:Option Addr)(v0 v1 v2 v5:Value)(ds:List D)(rb cA m k ct:Nat)(pc t b x:Int)(A0:Option Addr)(n0:Nat)(d1 d2:List D)(w0:World){F:List Nat}(hS:Sep w0 [bC dd [v0,v1,v2,.slice (some ⟨rb,0,none⟩) m cA,.slice AT n cT,v5] 30,cK rb cA 57 5 m (d1) [.slice A0 n0 ct,.int .i64 (pc),.int .i64 (t),.int .i64 (b),.int .i64 (x)] (d2),Gr (.slice AT n cT) 36 2 n (ds)] F)(hn:n≤1048576)(hkm:k<m)(hd1:d1.length=k*5):Calls Try.prog 85 #[.pointer (some ⟨dd,0,none⟩),.int .i64 (((k:Nat):Int))] w0 fun e w'=>∃A' c',e=.returned (.tuple #[])∧Tr.Inv w0 F w' [bC dd [v0,v1,v2,.slice (some ⟨rb,0,none⟩) m cA,.slice A' (n+1) c',v5] 30,cK rb cA 57 5 m (d1) [.slice A0 n0 ct,.int .i64 (pc),.int .i64 (t),.int .i64 (b),.int .i64 (x)] (d2),Gr (.slice A' (n+1) c') 36 2 (n+1) (ds++[D.v (.int .i64 ((k:Nat):Int)),D.v (.int .i64 x)])]:=by
 refine bF (args:=[.pointer (some ⟨dd,0,none⟩),.int .i64 (((k:Nat):Int))]) Try.func85 rfl Try.ntmps85 rfl hS (fun a w E H=> ?_)
 have E:Env 23 a [(0,.pointer (some ⟨dd,0,none⟩)),(1,.int .i64 (((k:Nat):Int)))]:=E
 let fl0:Flow:=⟨[.c (.pointer (some ⟨dd,0,none⟩)),.c (.pointer (some ⟨dd,0,none⟩)),.c (.pointer (some ⟨dd,0,none⟩)),.c (.pointer (some ⟨dd,4,none⟩)),{ dep:=[],val:=fun _=>.slice AT n cT,rd:=[0]},.c (.int .i64 (((k:Nat):Int))),.c (.pointer (some ⟨dd,0,none⟩)),.c (.pointer (some ⟨dd,0,none⟩)),.c (.pointer (some ⟨dd,3,none⟩)),{ dep:=[],val:=fun _=>.slice (some ⟨rb,0,none⟩) m cA,rd:=[0]},.c (.int .i64 (((k:Nat):Int))),.c (.pointer (some ⟨rb,k*5,none⟩)),.c (.pointer (some ⟨rb,k*5+4,none⟩)),{ dep:=[],val:=fun _=>.int .i64 (x),rd:=[1]},.c (.agg #[.int .i64 (((k:Nat):Int)),.int .i64 (x)]),{ dep:=[15],val:=fun|[x15]=>.slice (some ⟨(vb x15),0,none⟩) 1 1|_=>undef,rd:=[]},{ dep:=[16],val:=fun|[x16]=>.slice (sA x16) (n+1) (sC x16)|_=>undef,rd:=[3]},.c (.pointer (some ⟨dd,0,none⟩)),.c (.pointer (some ⟨dd,4,none⟩)),.c (undef)],[{ dep:=[],res:=fun _=>bC dd [v0,v1,v2,.slice (some ⟨rb,0,none⟩) m cA,.slice AT n cT,v5] 30,prod:=none,cons:=some 19},{ dep:=[],res:=fun _=>cK rb cA 57 5 m (d1) [.slice A0 n0 ct,.int .i64 (pc),.int .i64 (t),.int .i64 (b),.int .i64 (x)] (d2),prod:=none,cons:=none},{ dep:=[],res:=fun _=>Gr (.slice AT n cT) 36 2 n (ds),prod:=none,cons:=some 16},{ dep:=[15],res:=fun|[x15]=>bC (vb x15) [.int .i64 (((k:Nat):Int)),.int .i64 (x)] 36|_=>bV.emp,prod:=some 15,cons:=none},{ dep:=[16],res:=fun|[x16]=>Gr (.slice (sA x16) (n+1) (sC x16)) 36 2 (n+1) (ds++[.int .i64 (((k:Nat):Int)),.int .i64 (x)].map D.v)|_=>bV.emp,prod:=some 16,cons:=none},{ dep:=[16],res:=fun|[x16]=>bC dd [v0,v1,v2,.slice (some ⟨rb,0,none⟩) m cA,.slice (sA x16) (n+1) (sC x16),v5] 30|_=>bV.emp,prod:=some 19,cons:=none}],[[],[],[1],[1,2],[1,2,3],[],[],[6],[6,7],[6,7,8],[],[6,7,8,9,10],[6,7,8,9,10,11],[6,7,8,9,10,11,12],[5,6,7,8,9,10,11,12,13],[5,6,7,8,9,10,11,12,13,14],[1,2,3,4,5,6,7,8,9,10,11,12,13,14,15],[0,1,2,3,4,5,6,7,8,9,10,11,12,13,14,15,16],[0,1,2,3,4,5,6,7,8,9,10,11,12,13,14,15,16,17],[0,1,2,3,4,5,6,7,8,9,10,11,12,13,14,15,16,17,18]]⟩
 have E:Env 23 a [(0,.pointer (some ⟨dd,0,none⟩)),(1,.int .i64 (((k:Nat):Int)))]:=(Env.pick E (Env.pick E E.nil rfl) rfl)
 refine iK (rs:=[]) rfl fl0 E (by rw[qS];exact H) 20 rfl (by kernel_rfl) ?_ ?_
 ·
  refine aB.snoc (aB.snoc (aB.snoc (aB.snoc (aB.snoc (aB.snoc (aB.snoc (aB.snoc (aB.snoc (aB.snoc (aB.snoc (aB.snoc (aB.snoc (aB.snoc (aB.snoc (aB.snoc (aB.snoc (aB.snoc (aB.snoc (aB.snoc (aB.zero _) ?_) ?_) ?_) ?_) ?_) ?_) ?_) ?_) ?_) ?_) ?_) ?_) ?_) ?_) ?_) ?_) ?_) ?_) ?_) ?_
  ·
   refine⟨_,_,_,rfl,rfl,rfl,fun ν a w rs E hk ht H=> ?_⟩
   exact Gives.val rfl (bN (E.tmp rfl)) ⟨trivial,rfl,H⟩
  ·
   refine⟨_,_,_,rfl,rfl,rfl,fun ν a w rs E hk ht H=> ?_⟩
   exact Gives.val rfl (bN (E.tmp rfl)) ⟨trivial,rfl,H⟩
  ·
   refine⟨_,_,_,rfl,rfl,rfl,fun ν a w rs E hk ht H=> ?_⟩
   have E:=Env.add (v:=.pointer (some ⟨dd,0,none⟩)) E (ht 1 (by decide) _ _ 5 rfl rfl rfl)
   exact Gives.val rfl (aZ (E.tmp rfl)) ⟨trivial,rfl,H⟩
  ·
   refine⟨_,_,_,rfl,rfl,rfl,fun ν a w rs E hk ht H=> ?_⟩
   have E:=Env.add (v:=.pointer (some ⟨dd,0,none⟩)) E (ht 2 (by decide) _ _ 6 rfl rfl rfl)
   exact Gives.val rfl (aS (o':=4) (E.tmp rfl) xZ rfl) ⟨trivial,rfl,H⟩
  ·
   refine⟨_,_,_,rfl,rfl,rfl,fun ν a w rs E hk ht H=> ?_⟩
   have E:=Env.add (v:=.pointer (some ⟨dd,4,none⟩)) E (ht 3 (by decide) _ _ 7 rfl rfl rfl)
   have H:Tr.Inv w0 F w ([bC dd [v0,v1,v2,.slice (some ⟨rb,0,none⟩) m cA,.slice AT n cT,v5] 30]++([]++rs)):=H
   exact Gives.val rfl (aD (E.tmp rfl) H6 (H.cell 0 rfl rfl)) ⟨trivial,rfl,H⟩
  ·
   refine⟨_,_,_,rfl,rfl,rfl,fun ν a w rs E hk ht H=> ?_⟩
   exact Gives.val rfl (bN (E.tmp rfl)) ⟨trivial,rfl,H⟩
  ·
   refine⟨_,_,_,rfl,rfl,rfl,fun ν a w rs E hk ht H=> ?_⟩
   exact Gives.val rfl (bN (E.tmp rfl)) ⟨trivial,rfl,H⟩
  ·
   refine⟨_,_,_,rfl,rfl,rfl,fun ν a w rs E hk ht H=> ?_⟩
   have E:=Env.add (v:=.pointer (some ⟨dd,0,none⟩)) E (ht 6 (by decide) _ _ 10 rfl rfl rfl)
   exact Gives.val rfl (aZ (E.tmp rfl)) ⟨trivial,rfl,H⟩
  ·
   refine⟨_,_,_,rfl,rfl,rfl,fun ν a w rs E hk ht H=> ?_⟩
   have E:=Env.add (v:=.pointer (some ⟨dd,0,none⟩)) E (ht 7 (by decide) _ _ 11 rfl rfl rfl)
   exact Gives.val rfl (aS (o':=3) (E.tmp rfl) xY rfl) ⟨trivial,rfl,H⟩
  ·
   refine⟨_,_,_,rfl,rfl,rfl,fun ν a w rs E hk ht H=> ?_⟩
   have E:=Env.add (v:=.pointer (some ⟨dd,3,none⟩)) E (ht 8 (by decide) _ _ 12 rfl rfl rfl)
   have H:Tr.Inv w0 F w ([bC dd [v0,v1,v2,.slice (some ⟨rb,0,none⟩) m cA,.slice AT n cT,v5] 30]++([]++rs)):=H
   exact Gives.val rfl (aD (E.tmp rfl) Cw (H.cell 0 rfl rfl)) ⟨trivial,rfl,H⟩
  ·
   refine⟨_,_,_,rfl,rfl,rfl,fun ν a w rs E hk ht H=> ?_⟩
   exact Gives.val rfl (bN (E.tmp rfl)) ⟨trivial,rfl,H⟩
  ·
   refine⟨_,_,_,rfl,rfl,rfl,fun ν a w rs E hk ht H=> ?_⟩
   have E:=Env.add (v:=.slice (some ⟨rb,0,none⟩) m cA) E (ht 9 (by decide) _ _ 13 rfl rfl rfl)
   have E:=Env.add (v:=.int .i64 (((k:Nat):Int))) E (ht 10 (by decide) _ _ 14 rfl rfl rfl)
   exact Gives.val rfl (jX (k:=k) (o':=k*5) (E.tmp rfl) (E.tmp rfl) rfl CW (by omega) (Nat.zero_add _)) ⟨trivial,rfl,H⟩
  ·
   refine⟨_,_,_,rfl,rfl,rfl,fun ν a w rs E hk ht H=> ?_⟩
   have E:=Env.add (v:=.pointer (some ⟨rb,k*5,none⟩)) E (ht 11 (by decide) _ _ 15 rfl rfl rfl)
   exact Gives.val rfl (aS (o':=k*5+4) (E.tmp rfl) Eb rfl) ⟨trivial,rfl,H⟩
  ·
   refine⟨_,_,_,rfl,rfl,rfl,fun ν a w rs E hk ht H=> ?_⟩
   have E:=Env.add (v:=.pointer (some ⟨rb,k*5+4,none⟩)) E (ht 12 (by decide) _ _ 16 rfl rfl rfl)
   have H:Tr.Inv w0 F w ([cK rb cA 57 5 m (d1) [.slice A0 n0 ct,.int .i64 (pc),.int .i64 (t),.int .i64 (b),.int .i64 (x)] (d2)]++([]++rs)):=H
   exact Gives.val rfl (aD (E.tmp rfl) jI (H.bX 0 rfl hd1 (j:=4) rfl)) ⟨trivial,rfl,H⟩
  ·
   refine⟨_,_,_,rfl,rfl,rfl,fun ν a w rs E hk ht H=> ?_⟩
   have E:=Env.add (v:=.int .i64 (((k:Nat):Int))) E (ht 5 (by decide) _ _ 9 rfl rfl rfl)
   have E:=Env.add (v:=.int .i64 (x)) E (ht 13 (by decide) _ _ 17 rfl rfl rfl)
   exact Gives.val rfl (oN (pv (KL (E.tmp rfl) (KL (E.tmp rfl) (Gm)))) (by kernel_rfl:(Instr.build 36 (List.toArray [(0,.int .i64 (((k:Nat):Int))),(1,.int .i64 (x))])).run Try.prog _=.ok (.agg #[.int .i64 (((k:Nat):Int)),.int .i64 (x)]) _)) ⟨trivial,rfl,H⟩
  ·
   refine⟨_,_,_,rfl,rfl,rfl,fun ν a w rs E hk ht H=> ?_⟩
   have E:=Env.add (v:=.agg #[.int .i64 (((k:Nat):Int)),.int .i64 (x)]) E (ht 14 (by decide) _ _ 18 rfl rfl rfl)
   have H:Tr.Inv w0 F w ([]++([]++rs)):=H
   exact Gives.val rfl (jW (pv (KL (E.tmp rfl) (Gm))) (by kernel_rfl:(Instr.buildSlice 28 1 (List.toArray [(0,.agg #[.int .i64 (((k:Nat):Int)),.int .i64 (x)])])).run Try.prog w=.ok (.slice (some ⟨w.heap.size,0,none⟩) 1 1) (w.alloc (.cells (List.toArray [.int .i64 (((k:Nat):Int)),.int .i64 (x)]) 36)))) ⟨trivial,rfl,H.alloc _ _⟩
  ·
   refine⟨_,_,_,rfl,rfl,rfl,fun ν a w rs E hk ht H=> ?_⟩
   have E:=Env.add (v:=.slice AT n cT) E (ht 4 (by decide) _ _ 8 rfl rfl rfl)
   have E:=Env.add (v:=.slice (some ⟨(vb (ν 15)),0,none⟩) 1 1) E (ht 15 (by decide) _ _ 19 rfl rfl rfl)
   have H:Tr.Inv w0 F w ([bC (vb (ν 15)) [.int .i64 (((k:Nat):Int)),.int .i64 (x)] 36]++([Gr (.slice AT n cT) 36 2 n (ds)]++rs)):=H
   obtain⟨v2,w2,hrun,⟨A2,c2,rfl⟩,hI⟩:=zV (P:=Try.prog) (ty:=28) (q:=1) (c:=1) Iw H rfl rfl (by omega)
   exact Gives.val rfl (Dx (E.tmp rfl) (E.tmp rfl) hrun) ⟨trivial,rfl,hI⟩
  ·
   refine⟨_,_,_,rfl,rfl,rfl,fun ν a w rs E hk ht H=> ?_⟩
   have E:=Env.add (v:=.pointer (some ⟨dd,0,none⟩)) E (ht 0 (by decide) _ _ 4 rfl rfl rfl)
   exact Gives.val rfl (aZ (E.tmp rfl)) ⟨trivial,rfl,H⟩
  ·
   refine⟨_,_,_,rfl,rfl,rfl,fun ν a w rs E hk ht H=> ?_⟩
   have E:=Env.add (v:=.pointer (some ⟨dd,0,none⟩)) E (ht 17 (by decide) _ _ 21 rfl rfl rfl)
   exact Gives.val rfl (aS (o':=4) (E.tmp rfl) xZ rfl) ⟨trivial,rfl,H⟩
  ·
   refine⟨_,_,_,rfl,rfl,rfl,fun ν a w rs E hk ht H=> ?_⟩
   have E:=Env.add (v:=.slice (sA (ν 16)) (n+1) (sC (ν 16))) E (ht 16 (by decide) _ _ 20 rfl rfl rfl)
   have E:=Env.add (v:=.pointer (some ⟨dd,4,none⟩)) E (ht 18 (by decide) _ _ 22 rfl rfl rfl)
   have H:Tr.Inv w0 F w ([]++([bC dd [v0,v1,v2,.slice (some ⟨rb,0,none⟩) m cA,.slice AT n cT,v5] 30]++rs)):=H
   exact Gives.Hu rfl (kF (E.tmp rfl) (E.tmp rfl) rfl rfl Jh (H.gG 0 rfl) (by simp)) ⟨trivial,rfl,H.put (us:=[.slice (sA (ν 16)) (n+1) (sC (ν 16))]) 0 rfl rfl rfl⟩
 ·
  refine fun ν a w E hk ht H=> ?_
  have H:Tr.Inv w0 F w [cK rb cA 57 5 m (d1) [.slice A0 n0 ct,.int .i64 (pc),.int .i64 (t),.int .i64 (b),.int .i64 (x)] (d2),bC (vb (ν 15)) [.int .i64 (((k:Nat):Int)),.int .i64 (x)] 36,Gr (.slice (sA (ν 16)) (n+1) (sC (ν 16))) 36 2 (n+1) (ds++[.int .i64 (((k:Nat):Int)),.int .i64 (x)].map D.v),bC dd [v0,v1,v2,.slice (some ⟨rb,0,none⟩) m cA,.slice (sA (ν 16)) (n+1) (sC (ν 16)),v5] 30]:=H
  have E:Env 23 a [(0,.pointer (some ⟨dd,0,none⟩)),(1,.int .i64 (((k:Nat):Int)))]:=(Env.pick E (Env.pick E E.nil rfl) rfl)
  clear hk ht
  generalize (vb (ν 15))=g1 at E H
  generalize (sA (ν 16))=A2 at E H
  generalize (sC (ν 16))=c3 at E H
  refine(iG E rfl ?_).2
  have H:=H.front 2 rfl
  have H:=H.front 1 rfl
  have H:=H.front 3 rfl
  have H:=H.drop 3 rfl
  exact⟨_,_,rfl,H⟩
theorem zJ(dd n cT:Nat)(AT:Option Addr)(tp:Int)(v1 v2 v5:Value)(ds:List D)(rb cA m k ct:Nat)(pc t b x:Int)(A0:Option Addr)(n0:Nat)(d1 d2:List D)(w0:World){F:List Nat}(hS:Sep w0 [bC dd [.int .i64 (tp),v1,v2,.slice (some ⟨rb,0,none⟩) m cA,.slice AT n cT,v5] 30,cK rb cA 57 5 m (d1) [.slice A0 n0 ct,.int .i64 (pc),.int .i64 (t),.int .i64 (b),.int .i64 (x)] (d2),Gr (.slice AT n cT) 36 2 n (ds)] F)(hn:n≤1048576)(hkm:k<m)(hd1:d1.length=k*5):Calls Try.prog 86 #[.pointer (some ⟨dd,0,none⟩),.int .i64 (((k:Nat):Int))] w0 fun e w'=>∃A' c',e=.returned (.tuple #[])∧((tp==t)=true∧Tr.Inv w0 F w' [bC dd [.int .i64 (IntKind.i64.wrap (t+1)),v1,v2,.slice (some ⟨rb,0,none⟩) m cA,.slice A' (n+1) c',v5] 30,cK rb cA 57 5 m (d1) [.slice A0 n0 ct,.int .i64 (pc),.int .i64 (t),.int .i64 (b),.int .i64 (x)] (d2),Gr (.slice A' (n+1) c') 36 2 (n+1) (ds++[D.v (.int .i64 ((k:Nat):Int)),D.v (.int .i64 x)])]∨(tp==t)=false∧Tr.Inv w0 F w' [bC dd [.int .i64 tp,v1,v2,.slice (some ⟨rb,0,none⟩) m cA,.slice A' n c',v5] 30,cK rb cA 57 5 m (d1) [.slice A0 n0 ct,.int .i64 (pc),.int .i64 (t),.int .i64 (b),.int .i64 (x)] (d2),Gr (.slice A' n c') 36 2 n ds]):=by
 refine bF (args:=[.pointer (some ⟨dd,0,none⟩),.int .i64 (((k:Nat):Int))]) Try.func86 rfl Try.ntmps86 rfl hS (fun a w E H=> ?_)
 have E:Env 28 a [(0,.pointer (some ⟨dd,0,none⟩)),(1,.int .i64 (((k:Nat):Int)))]:=E
 refine wp_seq (wp_region_lit ?_)
 refine vm E rfl rfl fun a E=>wv E rfl (aZ (E.tmp rfl)) fun a E=>wv E rfl (aS (o':=3) (E.tmp rfl) xY rfl) fun a E=>wv E rfl (aD (E.tmp rfl) Cw (H.cell 0 rfl rfl)) fun a E=>vm E rfl rfl fun a E=> ?_
 refine wv E rfl (jX (k:=k) (o':=k*5) (E.tmp rfl) (E.tmp rfl) rfl CW (by omega) (Nat.zero_add _)) fun a E=>wv E rfl (fJ (us:=[.slice A0 n0 ct,.int .i64 (pc),.int .i64 (t),.int .i64 (b),.int .i64 (x)]) (E.tmp rfl) H8 zB (H.Ej 1 rfl hd1)) fun a E=> ?_
 refine oQ E rfl Jv H (fun a w g1 E H=> ?_)
 refine jA (us:=[.slice A0 n0 ct,.int .i64 (pc),.int .i64 (t),.int .i64 (b),.int .i64 (x)]) (cs':=[.slice A0 n0 ct,.int .i64 (pc),.int .i64 (t),.int .i64 (b),.int .i64 (x)]) (rs':=[bC _ [.slice A0 n0 ct,.int .i64 (pc),.int .i64 (t),.int .i64 (b),.int .i64 (x)] _,_,_,_]) E (E.tmp rfl) (E.tmp rfl) rfl zB H (i:=0) rfl rfl rfl rfl (fun a w E H=> ?_)
 refine wpList_nil (aj (wp_seq ?_))
 let fl1:Flow:=⟨[.c (.pointer (some ⟨dd,0,none⟩)),.c (.pointer (some ⟨dd,0,none⟩)),.c (.pointer (some ⟨dd,0,none⟩)),{ dep:=[],val:=fun _=>.int .i64 (tp),rd:=[1]},.c (.pointer (some ⟨g1,2,none⟩)),{ dep:=[],val:=fun _=>.int .i64 (t),rd:=[0]},.c (.bool (tp==t))],[{ dep:=[],res:=fun _=>bC g1 [.slice A0 n0 ct,.int .i64 (pc),.int .i64 (t),.int .i64 (b),.int .i64 (x)] 57,prod:=none,cons:=none},{ dep:=[],res:=fun _=>bC dd [.int .i64 (tp),v1,v2,.slice (some ⟨rb,0,none⟩) m cA,.slice AT n cT,v5] 30,prod:=none,cons:=none},{ dep:=[],res:=fun _=>cK rb cA 57 5 m (d1) [.slice A0 n0 ct,.int .i64 (pc),.int .i64 (t),.int .i64 (b),.int .i64 (x)] (d2),prod:=none,cons:=none},{ dep:=[],res:=fun _=>Gr (.slice AT n cT) 36 2 n (ds),prod:=none,cons:=none}],[[],[0],[0,1],[0,1,2],[],[4],[0,1,2,3,4,5]]⟩
 have E:Env 28 a [(0,.pointer (some ⟨dd,0,none⟩)),(1,.int .i64 (((k:Nat):Int))),(4,.pointer (some ⟨g1,0,none⟩)),(5,.pointer (some ⟨dd,0,none⟩)),(6,.pointer (some ⟨dd,0,none⟩)),(7,.pointer (some ⟨dd,3,none⟩)),(8,.slice (some ⟨rb,0,none⟩) m cA),(9,.int .i64 (((k:Nat):Int))),(10,.pointer (some ⟨rb,k*5,none⟩)),(11,.agg #[.slice A0 n0 ct,.int .i64 (pc),.int .i64 (t),.int .i64 (b),.int .i64 (x)])]:=(Env.pick E (Env.pick E (Env.pick E (Env.pick E (Env.pick E (Env.pick E (Env.pick E (Env.pick E (Env.pick E (Env.pick E E.nil rfl) rfl) rfl) rfl) rfl) rfl) rfl) rfl) rfl) rfl)
 refine iK (rs:=[]) rfl fl1 E (by rw[qS];exact H) 7 rfl (by kernel_rfl) ?_ ?_
 ·
  refine aB.snoc (aB.snoc (aB.snoc (aB.snoc (aB.snoc (aB.snoc (aB.snoc (aB.zero _) ?_) ?_) ?_) ?_) ?_) ?_) ?_
  ·
   refine⟨_,_,_,rfl,rfl,rfl,fun ν a w rs E hk ht H=> ?_⟩
   exact Gives.val rfl (bN (E.tmp rfl)) ⟨trivial,rfl,H⟩
  ·
   refine⟨_,_,_,rfl,rfl,rfl,fun ν a w rs E hk ht H=> ?_⟩
   have E:=Env.add (v:=.pointer (some ⟨dd,0,none⟩)) E (ht 0 (by decide) _ _ 12 rfl rfl rfl)
   exact Gives.val rfl (aZ (E.tmp rfl)) ⟨trivial,rfl,H⟩
  ·
   refine⟨_,_,_,rfl,rfl,rfl,fun ν a w rs E hk ht H=> ?_⟩
   have E:=Env.add (v:=.pointer (some ⟨dd,0,none⟩)) E (ht 1 (by decide) _ _ 13 rfl rfl rfl)
   exact Gives.val rfl (aS (o':=0) (E.tmp rfl) sW rfl) ⟨trivial,rfl,H⟩
  ·
   refine⟨_,_,_,rfl,rfl,rfl,fun ν a w rs E hk ht H=> ?_⟩
   have E:=Env.add (v:=.pointer (some ⟨dd,0,none⟩)) E (ht 2 (by decide) _ _ 14 rfl rfl rfl)
   have H:Tr.Inv w0 F w ([bC dd [.int .i64 (tp),v1,v2,.slice (some ⟨rb,0,none⟩) m cA,.slice AT n cT,v5] 30]++([]++rs)):=H
   exact Gives.val rfl (aD (E.tmp rfl) jI (H.cell 0 rfl rfl)) ⟨trivial,rfl,H⟩
  ·
   refine⟨_,_,_,rfl,rfl,rfl,fun ν a w rs E hk ht H=> ?_⟩
   exact Gives.val rfl (aS (o':=2) (E.tmp rfl) oI rfl) ⟨trivial,rfl,H⟩
  ·
   refine⟨_,_,_,rfl,rfl,rfl,fun ν a w rs E hk ht H=> ?_⟩
   have E:=Env.add (v:=.pointer (some ⟨g1,2,none⟩)) E (ht 4 (by decide) _ _ 16 rfl rfl rfl)
   have H:Tr.Inv w0 F w ([bC g1 [.slice A0 n0 ct,.int .i64 (pc),.int .i64 (t),.int .i64 (b),.int .i64 (x)] 57]++([]++rs)):=H
   exact Gives.val rfl (aD (E.tmp rfl) jI (H.cell 0 rfl rfl)) ⟨trivial,rfl,H⟩
  ·
   refine⟨_,_,_,rfl,rfl,rfl,fun ν a w rs E hk ht H=> ?_⟩
   have E:=Env.add (v:=.int .i64 (tp)) E (ht 3 (by decide) _ _ 15 rfl rfl rfl)
   have E:=Env.add (v:=.int .i64 (t)) E (ht 5 (by decide) _ _ 17 rfl rfl rfl)
   exact Gives.val rfl (aN (E.tmp rfl) (E.tmp rfl) (gV (b:=tp==t) rfl)) ⟨trivial,rfl,H⟩
 ·
  refine fun ν a w E hk ht H=> ?_
  have E:=Env.add E (show a.tmps[18]? =some (.bool (tp==t)) from ht 6 _ _ 18 rfl rfl rfl)
  have H:Tr.Inv w0 F w [bC g1 [.slice A0 n0 ct,.int .i64 (pc),.int .i64 (t),.int .i64 (b),.int .i64 (x)] 57,bC dd [.int .i64 (tp),v1,v2,.slice (some ⟨rb,0,none⟩) m cA,.slice AT n cT,v5] 30,cK rb cA 57 5 m (d1) [.slice A0 n0 ct,.int .i64 (pc),.int .i64 (t),.int .i64 (b),.int .i64 (x)] (d2),Gr (.slice AT n cT) 36 2 n (ds)]:=H
  have E:Env 28 a [(0,.pointer (some ⟨dd,0,none⟩)),(1,.int .i64 (((k:Nat):Int))),(4,.pointer (some ⟨g1,0,none⟩)),(5,.pointer (some ⟨dd,0,none⟩)),(6,.pointer (some ⟨dd,0,none⟩)),(7,.pointer (some ⟨dd,3,none⟩)),(8,.slice (some ⟨rb,0,none⟩) m cA),(9,.int .i64 (((k:Nat):Int))),(10,.pointer (some ⟨rb,k*5,none⟩)),(11,.agg #[.slice A0 n0 ct,.int .i64 (pc),.int .i64 (t),.int .i64 (b),.int .i64 (x)]),(18,.bool (tp==t))]:=(Env.pick E (Env.pick E (Env.pick E (Env.pick E (Env.pick E (Env.pick E (Env.pick E (Env.pick E (Env.pick E (Env.pick E (Env.pick E E.nil rfl) rfl) rfl) rfl) rfl) rfl) rfl) rfl) rfl) rfl) rfl)
  clear hk ht
  refine aj ?_
  rcases aU (tp==t)with ts2|ts2
  ·
   refine bG E rfl ts2 ?_
   refine wp_skip ?_
   refine(iG E rfl ?_).2
   have H:=H.front 3 rfl
   have H:=H.front 3 rfl
   have H:=H.front 3 rfl
   have H:=H.drop 3 rfl
   exact⟨_,_,rfl,.inr ⟨ts2,H⟩⟩
  refine bH E rfl ts2 ?_
  refine wp_seq (wp_region_lit ?_)
  refine vm E rfl rfl fun a E=>wv E rfl (aS (o':=2) (E.tmp rfl) oI rfl) fun a E=>wv E rfl (aD (E.tmp rfl) jI (H.cell 0 rfl rfl)) fun a E=>wv E rfl (aN (E.tmp rfl) (aC _) (kP rfl)) fun a E=>wv E rfl (aZ (E.tmp rfl)) fun a E=> ?_
  refine wv E rfl (aS (o':=0) (E.tmp rfl) sW rfl) fun a E=> ?_
  refine uZ (cs':=[.int .i64 (IntKind.i64.wrap (t+1)),_,_,_,_,_]) (rs':=[_,bC _ [.int .i64 (IntKind.i64.wrap (t+1)),_,_,_,_,_] _,_,_]) E (E.tmp rfl) (E.tmp rfl) rfl rfl qx H (i:=1) rfl rfl rfl rfl (fun a w E H=> ?_)
  refine wpList_nil (aj (wp_region_lit ?_))
  refine vm E rfl rfl fun a E=>vm E rfl rfl fun a E=> ?_
  have H:=H.front 3 rfl
  have H:=H.front 3 rfl
  have H:=H.front 3 rfl
  obtain⟨q3F,q3S,q3I,q3b⟩:=Tr.Inv.frame (pre:=[bC dd [.int .i64 (IntKind.i64.wrap (t+1)),v1,v2,.slice (some ⟨rb,0,none⟩) m cA,.slice AT n cT,v5] 30,cK rb cA 57 5 m (d1) [.slice A0 n0 ct,.int .i64 (pc),.int .i64 (t),.int .i64 (b),.int .i64 (x)] (d2),Gr (.slice AT n cT) 36 2 n (ds)]) (rest:=[bC g1 [.slice A0 n0 ct,.int .i64 (pc),.int .i64 (t),.int .i64 (b),.int .i64 (x)] 57]) H
  refine dR E rfl (aG (E.tmp rfl) (aG (E.tmp rfl) (aX))) (by kernel_rfl) (Db dd n cT AT (.int .i64 (IntKind.i64.wrap (t+1))) (v1) (v2) (v5) ds rb cA m k ct pc t b x A0 n0 d1 d2 w q3S (by omega) hkm hd1) ?_
  rintro _ w ⟨q3A,q3c,rfl,hI⟩
  refine⟨_,rfl,fun a E=> ?_⟩
  have H:=q3b _ _ hI
  clear hI q3S q3I q3b
  have H:Tr.Inv w0 F w [bC dd [.int .i64 (IntKind.i64.wrap (t+1)),v1,v2,.slice (some ⟨rb,0,none⟩) m cA,.slice q3A (n+1) q3c,v5] 30,cK rb cA 57 5 m (d1) [.slice A0 n0 ct,.int .i64 (pc),.int .i64 (t),.int .i64 (b),.int .i64 (x)] (d2),Gr (.slice q3A (n+1) q3c) 36 2 (n+1) (ds++[D.v (.int .i64 (((k:Nat):Int))),D.v (.int .i64 (x))]),bC g1 [.slice A0 n0 ct,.int .i64 (pc),.int .i64 (t),.int .i64 (b),.int .i64 (x)] 57]:=H
  refine wpList_nil ?_
  refine(iG E rfl ?_).2
  have H:=H.front 2 rfl
  have H:=H.front 2 rfl
  have H:=H.front 2 rfl
  have H:=H.drop 3 rfl
  exact⟨_,_,rfl,.inl ⟨ts2,H⟩⟩
theorem I4(y:aQ)(dd bb cB cT cR:Nat)(AT AR:Option Addr)(rb cA m k tb to ct:Nat)(n0:Int)(tl:List Int)(pc t b x:Int)(d1 d2:List D)(z:aQ)(v:ah)(w0:World){F:List Nat}(hS:Sep w0 [bC dd [.int .i64 (y.top),.int .i64 (y.bottom),.slice (some ⟨bb,0,none⟩) y.buffer.length cB,.slice (some ⟨rb,0,none⟩) m cA,.slice AT y.taken.length cT,.slice AR y.refused.length cR] 30,Gr (.slice (some ⟨bb,0,none⟩) y.buffer.length cB) 2 1 y.buffer.length (y.buffer.flatMap au),cK rb cA 57 5 m (d1) [.slice (some ⟨tb,to,none⟩) (tl.length+1) ct,.int .i64 (pc),.int .i64 (t),.int .i64 (b),.int .i64 (x)] (d2),Dat (.slice (some ⟨tb,to,none⟩) (tl.length+1) ct) (tl.length+1) ((n0::tl).flatMap au),Gr (.slice AT y.taken.length cT) 36 2 y.taken.length (y.taken.flatMap ak.enc),Gr (.slice AR y.refused.length cR) 2 1 y.refused.length (y.refused.flatMap au)] F)(hd1:d1.length=k*5)(hl:tl.length≤1000)(hb0:0<y.buffer.length)(hb1:y.buffer.length≤1000)(ht1:y.taken.length≤100000)(hr1:y.refused.length≤100000)(hz:(z,v)=l8 y ⟨n0::tl,pc,t,b,x⟩):Calls Try.prog 66 #[.pointer (some ⟨dd,0,none⟩),.pointer (some ⟨rb,k*5,none⟩)] w0 fun e w'=>∃AT' cT' AR' cR' At' ct',e=.returned (.tuple #[])∧Tr.Inv w0 F w' [bC dd [.int .i64 (z.top),.int .i64 (z.bottom),.slice (some ⟨bb,0,none⟩) y.buffer.length cB,.slice (some ⟨rb,0,none⟩) m cA,.slice AT' z.taken.length cT',.slice AR' z.refused.length cR'] 30,Gr (.slice (some ⟨bb,0,none⟩) y.buffer.length cB) 2 1 y.buffer.length (z.buffer.flatMap au),cK rb cA 57 5 m (d1) [.slice At' v.todo.length ct',.int .i64 (v.pc),.int .i64 (v.t),.int .i64 (v.b),.int .i64 (v.x)] (d2),Dat (.slice At' v.todo.length ct') v.todo.length (v.todo.flatMap au),Gr (.slice AT' z.taken.length cT') 36 2 z.taken.length (z.taken.flatMap ak.enc),Gr (.slice AR' z.refused.length cR') 2 1 z.refused.length (z.refused.flatMap au)]:=by
 refine bF (args:=[.pointer (some ⟨dd,0,none⟩),.pointer (some ⟨rb,k*5,none⟩)]) Try.func66 rfl Try.ntmps66 rfl hS (fun a w E H=> ?_)
 have E:Env 87 a [(0,.pointer (some ⟨dd,0,none⟩)),(1,.pointer (some ⟨rb,k*5,none⟩))]:=E
 refine wp_seq (wp_region_lit ?_)
 refine vm E rfl rfl fun a E=>wv E rfl (aZ (E.tmp rfl)) fun a E=>wv E rfl (aS (o':=k*5+1) (E.tmp rfl) tu rfl) fun a E=>wv E rfl (aD (E.tmp rfl) jI (H.bX 2 rfl hd1 (j:=1) rfl)) fun a E=> ?_
 refine wpList_nil (aj (wp_block (wp_seq (wp_region_lit ?_))))
 refine wv E rfl (aN (E.tmp rfl) (aC _) (gV (b:=pc==0) rfl)) fun a E=>va E rfl rfl fun a E=> ?_
 refine wpList_nil (aj ?_)
 rcases aU (pc==0)with ts1|ts1
 ·
  refine bG E rfl ts1 ?_
  refine wp_seq (wp_region_lit ?_)
  refine wv E rfl (aN (E.tmp rfl) (aC _) (gV (b:=pc==1) rfl)) fun a E=>va E rfl rfl fun a E=> ?_
  refine wpList_nil (aj ?_)
  rcases aU (pc==1)with ts2|ts2
  ·
   refine bG E rfl ts2 ?_
   refine wp_seq (wp_region_lit ?_)
   refine vm E rfl rfl fun a E=>vm E rfl rfl fun a E=>wv E rfl (aZ (E.tmp rfl)) fun a E=>wv E rfl (aS (o':=k*5+3) (E.tmp rfl) oJ rfl) fun a E=>wv E rfl (aD (E.tmp rfl) jI (H.bX 2 rfl hd1 (j:=3) rfl)) fun a E=> ?_
   refine wv E rfl (aN (E.tmp rfl) (aC _) (kP rfl)) fun a E=>wv E rfl (aZ (E.tmp rfl)) fun a E=>wv E rfl (aS (o':=1) (E.tmp rfl) xX rfl) fun a E=> ?_
   refine uZ (cs':=[_,.int .i64 (IntKind.i64.wrap (b+1)),_,_,_,_]) (rs':=[bC _ [_,.int .i64 (IntKind.i64.wrap (b+1)),_,_,_,_] _,_,_,_,_,_]) E (E.tmp rfl) (E.tmp rfl) rfl rfl qx H (i:=0) rfl rfl rfl rfl (fun a w E H=> ?_)
   refine wpList_nil (aj (wp_region_lit ?_))
   refine vm E rfl rfl fun a E=> ?_
   have H:=H.front 3 rfl
   have H:=H.front 3 rfl
   obtain⟨q3F,q3S,q3I,q3b⟩:=Tr.Inv.frame (pre:=[cK rb cA 57 5 m (d1) [.slice (some ⟨tb,to,none⟩) (tl.length+1) ct,.int .i64 (pc),.int .i64 (t),.int .i64 (b),.int .i64 (x)] (d2),Dat (.slice (some ⟨tb,to,none⟩) (tl.length+1) ct) (tl.length+1) ((n0::tl).flatMap au)]) (rest:=[bC dd [.int .i64 (y.top),.int .i64 (IntKind.i64.wrap (b+1)),.slice (some ⟨bb,0,none⟩) y.buffer.length cB,.slice (some ⟨rb,0,none⟩) m cA,.slice AT y.taken.length cT,.slice AR y.refused.length cR] 30,Gr (.slice (some ⟨bb,0,none⟩) y.buffer.length cB) 2 1 y.buffer.length (y.buffer.flatMap au),Gr (.slice AT y.taken.length cT) 36 2 y.taken.length (y.taken.flatMap ak.enc),Gr (.slice AR y.refused.length cR) 2 1 y.refused.length (y.refused.flatMap au)]) H
   refine dR E rfl (aG (E.tmp rfl) (aX)) Dq (pU rb cA m k tb to ct n0 tl pc t b x d1 d2 w q3S hd1 hl) ?_
   rintro _ w ⟨q3A,q3c,rfl,hI⟩
   refine⟨_,rfl,fun a E=> ?_⟩
   have H:=q3b _ _ hI
   clear hI q3S q3I q3b
   have H:Tr.Inv w0 F w [cK rb cA 57 5 m (d1) [.slice q3A tl.length q3c,.int .i64 (0),.int .i64 (0),.int .i64 (0),.int .i64 (0)] (d2),Dat (.slice q3A tl.length q3c) tl.length (tl.flatMap au),bC dd [.int .i64 (y.top),.int .i64 (IntKind.i64.wrap (b+1)),.slice (some ⟨bb,0,none⟩) y.buffer.length cB,.slice (some ⟨rb,0,none⟩) m cA,.slice AT y.taken.length cT,.slice AR y.refused.length cR] 30,Gr (.slice (some ⟨bb,0,none⟩) y.buffer.length cB) 2 1 y.buffer.length (y.buffer.flatMap au),Gr (.slice AT y.taken.length cT) 36 2 y.taken.length (y.taken.flatMap ak.enc),Gr (.slice AR y.refused.length cR) 2 1 y.refused.length (y.refused.flatMap au)]:=H
   refine wpList_nil (fO ?_)
   refine(iG E rfl ?_).2
   have H:=H.front 5 rfl
   have H:=H.front 5 rfl
   have H:=H.front 3 rfl
   have H:=H.front 3 rfl
   have H:=H.front 5 rfl
   have H:=H.front 5 rfl
   simp only[l8,iV,fT,Option.getD_some,qK,List.headD_cons,List.tail_cons,ts1,ts2,B1,B2,B3,B4,B5,B6,B7,B8,B9,B10,B11,dB,dD,dF]at hz
   obtain⟨rfl,rfl⟩:=Prod.mk.inj hz
   exact⟨_,_,_,_,_,_,rfl,H⟩
  refine bH E rfl ts2 ?_
  refine wp_seq ?_
  obtain⟨kk,hkk,hkl⟩:=BA b hb0 hb1
  have H:=H.front 1 rfl
  obtain⟨old,u4u,hold,H⟩:=H.Dr (f:=au) (s:=1) (fun _=>rfl) rfl hkl
  obtain⟨u4v,rfl,H⟩:=(H.front 1 rfl).BH
  obtain⟨rfl,H⟩:=H.Io
  have H:Tr.Inv w0 F w [cK bb cB 2 1 y.buffer.length ((y.buffer.take kk).flatMap au) [.int .i64 (old)] ((y.buffer.drop (kk+1)).flatMap au),bC dd [.int .i64 (y.top),.int .i64 (y.bottom),.slice (some ⟨bb,0,none⟩) y.buffer.length cB,.slice (some ⟨rb,0,none⟩) m cA,.slice AT y.taken.length cT,.slice AR y.refused.length cR] 30,cK rb cA 57 5 m (d1) [.slice (some ⟨tb,to,none⟩) (tl.length+1) ct,.int .i64 (pc),.int .i64 (t),.int .i64 (b),.int .i64 (x)] (d2),Dat (.slice (some ⟨tb,to,none⟩) (tl.length+1) ct) (tl.length+1) ((n0::tl).flatMap au),Gr (.slice AT y.taken.length cT) 36 2 y.taken.length (y.taken.flatMap ak.enc),Gr (.slice AR y.refused.length cR) 2 1 y.refused.length (y.refused.flatMap au)]:=H
  let fl10:Flow:=⟨[.c (.pointer (some ⟨dd,0,none⟩)),.c (.pointer (some ⟨rb,k*5,none⟩)),.c (.pointer (some ⟨rb,k*5,none⟩)),.c (.pointer (some ⟨rb,k*5+3,none⟩)),{ dep:=[],val:=fun _=>.int .i64 (b),rd:=[2]},{ dep:=[],val:=fun _=>.pointer (some ⟨bb,kk*1,none⟩),rd:=[1]},.c (.pointer (some ⟨rb,k*5,none⟩)),.c (.pointer (some ⟨rb,k*5,none⟩)),.c (.pointer (some ⟨rb,k*5,none⟩)),{ dep:=[],val:=fun _=>.slice (some ⟨tb,to,none⟩) (tl.length+1) ct,rd:=[2]},.c (.pointer (some ⟨tb,to,none⟩)),{ dep:=[],val:=fun _=>.int .i64 (n0),rd:=[3]},.c (.pointer (some ⟨bb,kk*1,none⟩)),.c (undef)],[{ dep:=[],res:=fun _=>cK bb cB 2 1 y.buffer.length ((y.buffer.take kk).flatMap au) [.int .i64 (old)] ((y.buffer.drop (kk+1)).flatMap au),prod:=none,cons:=some 13},{ dep:=[],res:=fun _=>bC dd [.int .i64 (y.top),.int .i64 (y.bottom),.slice (some ⟨bb,0,none⟩) y.buffer.length cB,.slice (some ⟨rb,0,none⟩) m cA,.slice AT y.taken.length cT,.slice AR y.refused.length cR] 30,prod:=none,cons:=none},{ dep:=[],res:=fun _=>cK rb cA 57 5 m (d1) [.slice (some ⟨tb,to,none⟩) (tl.length+1) ct,.int .i64 (pc),.int .i64 (t),.int .i64 (b),.int .i64 (x)] (d2),prod:=none,cons:=none},{ dep:=[],res:=fun _=>Dat (.slice (some ⟨tb,to,none⟩) (tl.length+1) ct) (tl.length+1) ((n0::tl).flatMap au),prod:=none,cons:=none},{ dep:=[],res:=fun _=>Gr (.slice AT y.taken.length cT) 36 2 y.taken.length (y.taken.flatMap ak.enc),prod:=none,cons:=none},{ dep:=[],res:=fun _=>Gr (.slice AR y.refused.length cR) 2 1 y.refused.length (y.refused.flatMap au),prod:=none,cons:=none},{ dep:=[],res:=fun _=>cK bb cB 2 1 y.buffer.length ((y.buffer.take kk).flatMap au) [.int .i64 (n0)] ((y.buffer.drop (kk+1)).flatMap au),prod:=some 13,cons:=none}],[[],[],[1],[1,2],[1,2,3],[0,1,2,3,4],[],[6],[6,7],[6,7,8],[6,7,8,9],[6,7,8,9,10],[0,1,2,3,4,5,6,7,8,9,10,11],[0,1,2,3,4,5,6,7,8,9,10,11,12]]⟩
  have E:Env 87 a [(0,.pointer (some ⟨dd,0,none⟩)),(1,.pointer (some ⟨rb,k*5,none⟩)),(4,.pointer (some ⟨rb,k*5,none⟩)),(5,.pointer (some ⟨rb,k*5,none⟩)),(6,.pointer (some ⟨rb,k*5+1,none⟩)),(7,.int .i64 (pc)),(18,.bool (pc==0)),(19,.bool (pc==0)),(69,.bool (pc==1)),(70,.bool (pc==1))]:=(Env.pick E (Env.pick E (Env.pick E (Env.pick E (Env.pick E (Env.pick E (Env.pick E (Env.pick E (Env.pick E (Env.pick E E.nil rfl) rfl) rfl) rfl) rfl) rfl) rfl) rfl) rfl) rfl)
  refine iK (rs:=[]) rfl fl10 E (by rw[qS];exact H) 14 rfl (by kernel_rfl) ?_ ?_
  ·
   refine aB.snoc (aB.snoc (aB.snoc (aB.snoc (aB.snoc (aB.snoc (aB.snoc (aB.snoc (aB.snoc (aB.snoc (aB.snoc (aB.snoc (aB.snoc (aB.snoc (aB.zero _) ?_) ?_) ?_) ?_) ?_) ?_) ?_) ?_) ?_) ?_) ?_) ?_) ?_) ?_
   ·
    refine⟨_,_,_,rfl,rfl,rfl,fun ν a w rs E hk ht H=> ?_⟩
    exact Gives.val rfl (bN (E.tmp rfl)) ⟨trivial,rfl,H⟩
   ·
    refine⟨_,_,_,rfl,rfl,rfl,fun ν a w rs E hk ht H=> ?_⟩
    exact Gives.val rfl (bN (E.tmp rfl)) ⟨trivial,rfl,H⟩
   ·
    refine⟨_,_,_,rfl,rfl,rfl,fun ν a w rs E hk ht H=> ?_⟩
    have E:=Env.add (v:=.pointer (some ⟨rb,k*5,none⟩)) E (ht 1 (by decide) _ _ 72 rfl rfl rfl)
    exact Gives.val rfl (aZ (E.tmp rfl)) ⟨trivial,rfl,H⟩
   ·
    refine⟨_,_,_,rfl,rfl,rfl,fun ν a w rs E hk ht H=> ?_⟩
    have E:=Env.add (v:=.pointer (some ⟨rb,k*5,none⟩)) E (ht 2 (by decide) _ _ 73 rfl rfl rfl)
    exact Gives.val rfl (aS (o':=k*5+3) (E.tmp rfl) oJ rfl) ⟨trivial,rfl,H⟩
   ·
    refine⟨_,_,_,rfl,rfl,rfl,fun ν a w rs E hk ht H=> ?_⟩
    have E:=Env.add (v:=.pointer (some ⟨rb,k*5+3,none⟩)) E (ht 3 (by decide) _ _ 74 rfl rfl rfl)
    have H:Tr.Inv w0 F w ([cK rb cA 57 5 m (d1) [.slice (some ⟨tb,to,none⟩) (tl.length+1) ct,.int .i64 (pc),.int .i64 (t),.int .i64 (b),.int .i64 (x)] (d2)]++([]++rs)):=H
    exact Gives.val rfl (aD (E.tmp rfl) jI (H.bX 0 rfl hd1 (j:=3) rfl)) ⟨trivial,rfl,H⟩
   ·
    refine⟨_,_,_,rfl,rfl,rfl,fun ν a w rs E hk ht H=> ?_⟩
    have E:=Env.add (v:=.pointer (some ⟨dd,0,none⟩)) E (ht 0 (by decide) _ _ 71 rfl rfl rfl)
    have E:=Env.add (v:=.int .i64 (b)) E (ht 4 (by decide) _ _ 75 rfl rfl rfl)
    have H:Tr.Inv w0 F w ([bC dd [.int .i64 (y.top),.int .i64 (y.bottom),.slice (some ⟨bb,0,none⟩) y.buffer.length cB,.slice (some ⟨rb,0,none⟩) m cA,.slice AT y.taken.length cT,.slice AR y.refused.length cR] 30]++([]++rs)):=H
    exact Gives.call (R:=(fun e w'=>e=.returned (.pointer (some ⟨bb,kk*1,none⟩))∧Ext w w')) rfl (nY (aG (E.tmp rfl) (aG (E.tmp rfl) (aX))) (by kernel_rfl)) (wP dd y.buffer.length cB bb kk b w (H.Lc 0 rfl rfl) hkk hkl) fun e w2 ⟨he,hb⟩=>⟨_,he,trivial,rfl,H.ext hb⟩
   ·
    refine⟨_,_,_,rfl,rfl,rfl,fun ν a w rs E hk ht H=> ?_⟩
    exact Gives.val rfl (bN (E.tmp rfl)) ⟨trivial,rfl,H⟩
   ·
    refine⟨_,_,_,rfl,rfl,rfl,fun ν a w rs E hk ht H=> ?_⟩
    have E:=Env.add (v:=.pointer (some ⟨rb,k*5,none⟩)) E (ht 6 (by decide) _ _ 77 rfl rfl rfl)
    exact Gives.val rfl (aZ (E.tmp rfl)) ⟨trivial,rfl,H⟩
   ·
    refine⟨_,_,_,rfl,rfl,rfl,fun ν a w rs E hk ht H=> ?_⟩
    have E:=Env.add (v:=.pointer (some ⟨rb,k*5,none⟩)) E (ht 7 (by decide) _ _ 78 rfl rfl rfl)
    exact Gives.val rfl (aS (o':=k*5) (E.tmp rfl) tq rfl) ⟨trivial,rfl,H⟩
   ·
    refine⟨_,_,_,rfl,rfl,rfl,fun ν a w rs E hk ht H=> ?_⟩
    have E:=Env.add (v:=.pointer (some ⟨rb,k*5,none⟩)) E (ht 8 (by decide) _ _ 79 rfl rfl rfl)
    have H:Tr.Inv w0 F w ([cK rb cA 57 5 m (d1) [.slice (some ⟨tb,to,none⟩) (tl.length+1) ct,.int .i64 (pc),.int .i64 (t),.int .i64 (b),.int .i64 (x)] (d2)]++([]++rs)):=H
    exact Gives.val rfl (aD (E.tmp rfl) mH (H.bX 0 rfl hd1 (j:=0) rfl)) ⟨trivial,rfl,H⟩
   ·
    refine⟨_,_,_,rfl,rfl,rfl,fun ν a w rs E hk ht H=> ?_⟩
    have E:=Env.add (v:=.slice (some ⟨tb,to,none⟩) (tl.length+1) ct) E (ht 9 (by decide) _ _ 80 rfl rfl rfl)
    exact Gives.val rfl (jX (k:=0) (o':=to) (E.tmp rfl) (aC _) rfl oH (by omega) rfl) ⟨trivial,rfl,H⟩
   ·
    refine⟨_,_,_,rfl,rfl,rfl,fun ν a w rs E hk ht H=> ?_⟩
    have E:=Env.add (v:=.pointer (some ⟨tb,to,none⟩)) E (ht 10 (by decide) _ _ 81 rfl rfl rfl)
    have H:Tr.Inv w0 F w ([Dat (.slice (some ⟨tb,to,none⟩) (tl.length+1) ct) (tl.length+1) ((n0::tl).flatMap au)]++([]++rs)):=H
    exact Gives.val rfl (aD (E.tmp rfl) jI (H.vK 0 rfl rfl 0 rfl)) ⟨trivial,rfl,H⟩
   ·
    refine⟨_,_,_,rfl,rfl,rfl,fun ν a w rs E hk ht H=> ?_⟩
    have E:=Env.add (v:=.pointer (some ⟨bb,kk*1,none⟩)) E (ht 5 (by decide) _ _ 76 rfl rfl rfl)
    exact Gives.val rfl (aZ (E.tmp rfl)) ⟨trivial,rfl,H⟩
   ·
    refine⟨_,_,_,rfl,rfl,rfl,fun ν a w rs E hk ht H=> ?_⟩
    have E:=Env.add (v:=.int .i64 (n0)) E (ht 11 (by decide) _ _ 82 rfl rfl rfl)
    have E:=Env.add (v:=.pointer (some ⟨bb,kk*1,none⟩)) E (ht 12 (by decide) _ _ 83 rfl rfl rfl)
    have H:Tr.Inv w0 F w ([]++([cK bb cB 2 1 y.buffer.length ((y.buffer.take kk).flatMap au) [.int .i64 (old)] ((y.buffer.drop (kk+1)).flatMap au)]++rs)):=H
    exact Gives.Hu rfl (rZ (vs:=[.int .i64 (n0)]) (j:=0) (E.tmp rfl) (E.tmp rfl) rfl rfl qx H (i:=0) rfl (take_len au 1 (fun _=>rfl) hkl) rfl rfl) ⟨trivial,rfl,H.oM 0 rfl (take_len au 1 (fun _=>rfl) hkl) rfl rfl⟩
  ·
   refine fun ν a w E hk ht H=> ?_
   have H:Tr.Inv w0 F w [bC dd [.int .i64 (y.top),.int .i64 (y.bottom),.slice (some ⟨bb,0,none⟩) y.buffer.length cB,.slice (some ⟨rb,0,none⟩) m cA,.slice AT y.taken.length cT,.slice AR y.refused.length cR] 30,cK rb cA 57 5 m (d1) [.slice (some ⟨tb,to,none⟩) (tl.length+1) ct,.int .i64 (pc),.int .i64 (t),.int .i64 (b),.int .i64 (x)] (d2),Dat (.slice (some ⟨tb,to,none⟩) (tl.length+1) ct) (tl.length+1) ((n0::tl).flatMap au),Gr (.slice AT y.taken.length cT) 36 2 y.taken.length (y.taken.flatMap ak.enc),Gr (.slice AR y.refused.length cR) 2 1 y.refused.length (y.refused.flatMap au),cK bb cB 2 1 y.buffer.length ((y.buffer.take kk).flatMap au) [.int .i64 (n0)] ((y.buffer.drop (kk+1)).flatMap au)]:=H
   have E:Env 87 a [(0,.pointer (some ⟨dd,0,none⟩)),(1,.pointer (some ⟨rb,k*5,none⟩)),(4,.pointer (some ⟨rb,k*5,none⟩)),(5,.pointer (some ⟨rb,k*5,none⟩)),(6,.pointer (some ⟨rb,k*5+1,none⟩)),(7,.int .i64 (pc)),(18,.bool (pc==0)),(19,.bool (pc==0)),(69,.bool (pc==1)),(70,.bool (pc==1))]:=(Env.pick E (Env.pick E (Env.pick E (Env.pick E (Env.pick E (Env.pick E (Env.pick E (Env.pick E (Env.pick E (Env.pick E E.nil rfl) rfl) rfl) rfl) rfl) rfl) rfl) rfl) rfl) rfl)
   clear hk ht
   refine aj (wp_region_lit ?_)
   refine vm E rfl rfl fun a E=>wv E rfl (aZ (E.tmp rfl)) fun a E=>wv E rfl (aS (o':=k*5+1) (E.tmp rfl) tu rfl) fun a E=> ?_
   refine dS (vs:=[.int .i64 (2)]) (us':=[_,.int .i64 (2),_,_,_]) (rs':=[_,cK _ _ _ _ _ _ [_,.int .i64 (2),_,_,_] _,_,_,_,_]) (j:=1) E (E.tmp rfl) (aC _) rfl rfl qx H (i:=1) rfl hd1 rfl rfl rfl rfl (fun a w E H=> ?_)
   refine wpList_nil (fO ?_)
   refine(iG E rfl ?_).2
   have H:=H.front 5 rfl
   have H:=(H.flat (us:=[.int .i64 (n0)]) rfl).front 1 rfl
   have H:=Tr.Inv.jG (f:=au) (y:=n0) H hkl
   have H:Tr.Inv w0 F w [Gr (.slice (some ⟨bb,0,none⟩) y.buffer.length cB) 2 1 y.buffer.length ((y.buffer.set kk n0).flatMap au),bC dd [.int .i64 (y.top),.int .i64 (y.bottom),.slice (some ⟨bb,0,none⟩) y.buffer.length cB,.slice (some ⟨rb,0,none⟩) m cA,.slice AT y.taken.length cT,.slice AR y.refused.length cR] 30,cK rb cA 57 5 m (d1) [.slice (some ⟨tb,to,none⟩) (tl.length+1) ct,.int .i64 (2),.int .i64 (t),.int .i64 (b),.int .i64 (x)] (d2),Dat (.slice (some ⟨tb,to,none⟩) (tl.length+1) ct) (tl.length+1) ((n0::tl).flatMap au),Gr (.slice AT y.taken.length cT) 36 2 y.taken.length (y.taken.flatMap ak.enc),Gr (.slice AR y.refused.length cR) 2 1 y.refused.length (y.refused.flatMap au)]:=H
   have H:=H.front 5 rfl
   have H:=H.front 5 rfl
   have H:=H.front 5 rfl
   have H:=H.front 5 rfl
   have H:=H.front 4 rfl
   have H:=H.front 5 rfl
   simp only[l8,iV,fT,Option.getD_some,qK,List.headD_cons,List.tail_cons,ts1,ts2,hkk,hold,B1,B2,B3,B4,B5,B6,B7,B8,B9,B10,B11,dB,dD,dF]at hz
   obtain⟨rfl,rfl⟩:=Prod.mk.inj hz
   exact⟨_,_,_,_,_,_,rfl,H⟩
 refine bH E rfl ts1 ?_
 refine wp_seq ?_
 let fl4:Flow:=⟨[.c (.pointer (some ⟨rb,k*5,none⟩)),.c (.pointer (some ⟨rb,k*5,none⟩)),.c (.pointer (some ⟨dd,0,none⟩)),.c (.pointer (some ⟨dd,0,none⟩)),.c (.pointer (some ⟨dd,1,none⟩)),{ dep:=[],val:=fun _=>.int .i64 (y.bottom),rd:=[0]},.c (.pointer (some ⟨dd,0,none⟩)),.c (.pointer (some ⟨dd,0,none⟩)),.c (.pointer (some ⟨dd,0,none⟩)),{ dep:=[],val:=fun _=>.int .i64 (y.top),rd:=[0]},.c (.pointer (some ⟨rb,k*5,none⟩)),.c (.pointer (some ⟨rb,k*5+3,none⟩)),.c (undef),.c (.pointer (some ⟨rb,k*5,none⟩)),.c (.pointer (some ⟨rb,k*5+2,none⟩)),.c (undef)],[{ dep:=[],res:=fun _=>bC dd [.int .i64 (y.top),.int .i64 (y.bottom),.slice (some ⟨bb,0,none⟩) y.buffer.length cB,.slice (some ⟨rb,0,none⟩) m cA,.slice AT y.taken.length cT,.slice AR y.refused.length cR] 30,prod:=none,cons:=none},{ dep:=[],res:=fun _=>Gr (.slice (some ⟨bb,0,none⟩) y.buffer.length cB) 2 1 y.buffer.length (y.buffer.flatMap au),prod:=none,cons:=none},{ dep:=[],res:=fun _=>cK rb cA 57 5 m (d1) [.slice (some ⟨tb,to,none⟩) (tl.length+1) ct,.int .i64 (pc),.int .i64 (t),.int .i64 (b),.int .i64 (x)] (d2),prod:=none,cons:=some 12},{ dep:=[],res:=fun _=>Dat (.slice (some ⟨tb,to,none⟩) (tl.length+1) ct) (tl.length+1) ((n0::tl).flatMap au),prod:=none,cons:=none},{ dep:=[],res:=fun _=>Gr (.slice AT y.taken.length cT) 36 2 y.taken.length (y.taken.flatMap ak.enc),prod:=none,cons:=none},{ dep:=[],res:=fun _=>Gr (.slice AR y.refused.length cR) 2 1 y.refused.length (y.refused.flatMap au),prod:=none,cons:=none},{ dep:=[],res:=fun _=>cK rb cA 57 5 m (d1) [.slice (some ⟨tb,to,none⟩) (tl.length+1) ct,.int .i64 (pc),.int .i64 (t),.int .i64 (y.bottom),.int .i64 (x)] (d2),prod:=some 12,cons:=some 15},{ dep:=[],res:=fun _=>cK rb cA 57 5 m (d1) [.slice (some ⟨tb,to,none⟩) (tl.length+1) ct,.int .i64 (pc),.int .i64 (y.top),.int .i64 (y.bottom),.int .i64 (x)] (d2),prod:=some 15,cons:=none}],[[],[],[],[2],[2,3],[2,3,4],[],[6],[6,7],[6,7,8],[0,2,3,4,5,6,7,8,9],[0,2,3,4,5,6,7,8,9,10],[0,2,3,4,5,6,7,8,9,10,11],[0,1,2,3,4,5,6,7,8,9,10,11,12],[0,1,2,3,4,5,6,7,8,9,10,11,12,13],[0,1,2,3,4,5,6,7,8,9,10,11,12,13,14]]⟩
 have E:Env 87 a [(0,.pointer (some ⟨dd,0,none⟩)),(1,.pointer (some ⟨rb,k*5,none⟩)),(4,.pointer (some ⟨rb,k*5,none⟩)),(5,.pointer (some ⟨rb,k*5,none⟩)),(6,.pointer (some ⟨rb,k*5+1,none⟩)),(7,.int .i64 (pc)),(18,.bool (pc==0)),(19,.bool (pc==0))]:=(Env.pick E (Env.pick E (Env.pick E (Env.pick E (Env.pick E (Env.pick E (Env.pick E (Env.pick E E.nil rfl) rfl) rfl) rfl) rfl) rfl) rfl) rfl)
 refine iK (rs:=[]) rfl fl4 E (by rw[qS];exact H) 16 rfl (by kernel_rfl) ?_ ?_
 ·
  refine aB.snoc (aB.snoc (aB.snoc (aB.snoc (aB.snoc (aB.snoc (aB.snoc (aB.snoc (aB.snoc (aB.snoc (aB.snoc (aB.snoc (aB.snoc (aB.snoc (aB.snoc (aB.snoc (aB.zero _) ?_) ?_) ?_) ?_) ?_) ?_) ?_) ?_) ?_) ?_) ?_) ?_) ?_) ?_) ?_) ?_
  ·
   refine⟨_,_,_,rfl,rfl,rfl,fun ν a w rs E hk ht H=> ?_⟩
   exact Gives.val rfl (bN (E.tmp rfl)) ⟨trivial,rfl,H⟩
  ·
   refine⟨_,_,_,rfl,rfl,rfl,fun ν a w rs E hk ht H=> ?_⟩
   exact Gives.val rfl (bN (E.tmp rfl)) ⟨trivial,rfl,H⟩
  ·
   refine⟨_,_,_,rfl,rfl,rfl,fun ν a w rs E hk ht H=> ?_⟩
   exact Gives.val rfl (bN (E.tmp rfl)) ⟨trivial,rfl,H⟩
  ·
   refine⟨_,_,_,rfl,rfl,rfl,fun ν a w rs E hk ht H=> ?_⟩
   have E:=Env.add (v:=.pointer (some ⟨dd,0,none⟩)) E (ht 2 (by decide) _ _ 22 rfl rfl rfl)
   exact Gives.val rfl (aZ (E.tmp rfl)) ⟨trivial,rfl,H⟩
  ·
   refine⟨_,_,_,rfl,rfl,rfl,fun ν a w rs E hk ht H=> ?_⟩
   have E:=Env.add (v:=.pointer (some ⟨dd,0,none⟩)) E (ht 3 (by decide) _ _ 23 rfl rfl rfl)
   exact Gives.val rfl (aS (o':=1) (E.tmp rfl) xX rfl) ⟨trivial,rfl,H⟩
  ·
   refine⟨_,_,_,rfl,rfl,rfl,fun ν a w rs E hk ht H=> ?_⟩
   have E:=Env.add (v:=.pointer (some ⟨dd,1,none⟩)) E (ht 4 (by decide) _ _ 24 rfl rfl rfl)
   have H:Tr.Inv w0 F w ([bC dd [.int .i64 (y.top),.int .i64 (y.bottom),.slice (some ⟨bb,0,none⟩) y.buffer.length cB,.slice (some ⟨rb,0,none⟩) m cA,.slice AT y.taken.length cT,.slice AR y.refused.length cR] 30]++([]++rs)):=H
   exact Gives.val rfl (aD (E.tmp rfl) jI (H.cell 0 rfl rfl)) ⟨trivial,rfl,H⟩
  ·
   refine⟨_,_,_,rfl,rfl,rfl,fun ν a w rs E hk ht H=> ?_⟩
   exact Gives.val rfl (bN (E.tmp rfl)) ⟨trivial,rfl,H⟩
  ·
   refine⟨_,_,_,rfl,rfl,rfl,fun ν a w rs E hk ht H=> ?_⟩
   have E:=Env.add (v:=.pointer (some ⟨dd,0,none⟩)) E (ht 6 (by decide) _ _ 26 rfl rfl rfl)
   exact Gives.val rfl (aZ (E.tmp rfl)) ⟨trivial,rfl,H⟩
  ·
   refine⟨_,_,_,rfl,rfl,rfl,fun ν a w rs E hk ht H=> ?_⟩
   have E:=Env.add (v:=.pointer (some ⟨dd,0,none⟩)) E (ht 7 (by decide) _ _ 27 rfl rfl rfl)
   exact Gives.val rfl (aS (o':=0) (E.tmp rfl) sW rfl) ⟨trivial,rfl,H⟩
  ·
   refine⟨_,_,_,rfl,rfl,rfl,fun ν a w rs E hk ht H=> ?_⟩
   have E:=Env.add (v:=.pointer (some ⟨dd,0,none⟩)) E (ht 8 (by decide) _ _ 28 rfl rfl rfl)
   have H:Tr.Inv w0 F w ([bC dd [.int .i64 (y.top),.int .i64 (y.bottom),.slice (some ⟨bb,0,none⟩) y.buffer.length cB,.slice (some ⟨rb,0,none⟩) m cA,.slice AT y.taken.length cT,.slice AR y.refused.length cR] 30]++([]++rs)):=H
   exact Gives.val rfl (aD (E.tmp rfl) jI (H.cell 0 rfl rfl)) ⟨trivial,rfl,H⟩
  ·
   refine⟨_,_,_,rfl,rfl,rfl,fun ν a w rs E hk ht H=> ?_⟩
   have E:=Env.add (v:=.pointer (some ⟨rb,k*5,none⟩)) E (ht 0 (by decide) _ _ 20 rfl rfl rfl)
   exact Gives.val rfl (aZ (E.tmp rfl)) ⟨trivial,rfl,H⟩
  ·
   refine⟨_,_,_,rfl,rfl,rfl,fun ν a w rs E hk ht H=> ?_⟩
   have E:=Env.add (v:=.pointer (some ⟨rb,k*5,none⟩)) E (ht 10 (by decide) _ _ 30 rfl rfl rfl)
   exact Gives.val rfl (aS (o':=k*5+3) (E.tmp rfl) oJ rfl) ⟨trivial,rfl,H⟩
  ·
   refine⟨_,_,_,rfl,rfl,rfl,fun ν a w rs E hk ht H=> ?_⟩
   have E:=Env.add (v:=.int .i64 (y.bottom)) E (ht 5 (by decide) _ _ 25 rfl rfl rfl)
   have E:=Env.add (v:=.pointer (some ⟨rb,k*5+3,none⟩)) E (ht 11 (by decide) _ _ 31 rfl rfl rfl)
   have H:Tr.Inv w0 F w ([]++([cK rb cA 57 5 m (d1) [.slice (some ⟨tb,to,none⟩) (tl.length+1) ct,.int .i64 (pc),.int .i64 (t),.int .i64 (b),.int .i64 (x)] (d2)]++rs)):=H
   exact Gives.Hu rfl (rZ (vs:=[.int .i64 (y.bottom)]) (j:=3) (E.tmp rfl) (E.tmp rfl) rfl rfl qx H (i:=0) rfl hd1 rfl rfl) ⟨trivial,rfl,H.oM 0 rfl hd1 rfl rfl⟩
  ·
   refine⟨_,_,_,rfl,rfl,rfl,fun ν a w rs E hk ht H=> ?_⟩
   have E:=Env.add (v:=.pointer (some ⟨rb,k*5,none⟩)) E (ht 1 (by decide) _ _ 21 rfl rfl rfl)
   exact Gives.val rfl (aZ (E.tmp rfl)) ⟨trivial,rfl,H⟩
  ·
   refine⟨_,_,_,rfl,rfl,rfl,fun ν a w rs E hk ht H=> ?_⟩
   have E:=Env.add (v:=.pointer (some ⟨rb,k*5,none⟩)) E (ht 13 (by decide) _ _ 32 rfl rfl rfl)
   exact Gives.val rfl (aS (o':=k*5+2) (E.tmp rfl) oI rfl) ⟨trivial,rfl,H⟩
  ·
   refine⟨_,_,_,rfl,rfl,rfl,fun ν a w rs E hk ht H=> ?_⟩
   have E:=Env.add (v:=.int .i64 (y.top)) E (ht 9 (by decide) _ _ 29 rfl rfl rfl)
   have E:=Env.add (v:=.pointer (some ⟨rb,k*5+2,none⟩)) E (ht 14 (by decide) _ _ 33 rfl rfl rfl)
   have H:Tr.Inv w0 F w ([]++([cK rb cA 57 5 m (d1) [.slice (some ⟨tb,to,none⟩) (tl.length+1) ct,.int .i64 (pc),.int .i64 (t),.int .i64 (y.bottom),.int .i64 (x)] (d2)]++rs)):=H
   exact Gives.Hu rfl (rZ (vs:=[.int .i64 (y.top)]) (j:=2) (E.tmp rfl) (E.tmp rfl) rfl rfl qx H (i:=0) rfl hd1 rfl rfl) ⟨trivial,rfl,H.oM 0 rfl hd1 rfl rfl⟩
 ·
  refine fun ν a w E hk ht H=> ?_
  have H:Tr.Inv w0 F w [bC dd [.int .i64 (y.top),.int .i64 (y.bottom),.slice (some ⟨bb,0,none⟩) y.buffer.length cB,.slice (some ⟨rb,0,none⟩) m cA,.slice AT y.taken.length cT,.slice AR y.refused.length cR] 30,Gr (.slice (some ⟨bb,0,none⟩) y.buffer.length cB) 2 1 y.buffer.length (y.buffer.flatMap au),Dat (.slice (some ⟨tb,to,none⟩) (tl.length+1) ct) (tl.length+1) ((n0::tl).flatMap au),Gr (.slice AT y.taken.length cT) 36 2 y.taken.length (y.taken.flatMap ak.enc),Gr (.slice AR y.refused.length cR) 2 1 y.refused.length (y.refused.flatMap au),cK rb cA 57 5 m (d1) [.slice (some ⟨tb,to,none⟩) (tl.length+1) ct,.int .i64 (pc),.int .i64 (y.top),.int .i64 (y.bottom),.int .i64 (x)] (d2)]:=H
  have E:Env 87 a [(0,.pointer (some ⟨dd,0,none⟩)),(1,.pointer (some ⟨rb,k*5,none⟩)),(4,.pointer (some ⟨rb,k*5,none⟩)),(5,.pointer (some ⟨rb,k*5,none⟩)),(6,.pointer (some ⟨rb,k*5+1,none⟩)),(7,.int .i64 (pc)),(18,.bool (pc==0)),(19,.bool (pc==0))]:=(Env.pick E (Env.pick E (Env.pick E (Env.pick E (Env.pick E (Env.pick E (Env.pick E (Env.pick E E.nil rfl) rfl) rfl) rfl) rfl) rfl) rfl) rfl)
  clear hk ht
  refine aj (wp_seq (wp_seq ?_))
  let fl5:Flow:=⟨[.c (.pointer (some ⟨rb,k*5,none⟩)),.c (.pointer (some ⟨rb,k*5,none⟩)),.c (.pointer (some ⟨rb,k*5+3,none⟩)),{ dep:=[],val:=fun _=>.int .i64 (y.bottom),rd:=[5]},.c (.pointer (some ⟨rb,k*5,none⟩)),.c (.pointer (some ⟨rb,k*5,none⟩)),.c (.pointer (some ⟨rb,k*5+2,none⟩)),{ dep:=[],val:=fun _=>.int .i64 (y.top),rd:=[5]},.c (.int .i64 (IntKind.i64.wrap (y.bottom-y.top))),.c (.pointer (some ⟨dd,0,none⟩)),.c (.pointer (some ⟨dd,0,none⟩)),.c (.pointer (some ⟨dd,2,none⟩)),{ dep:=[],val:=fun _=>.slice (some ⟨bb,0,none⟩) y.buffer.length cB,rd:=[0]},.c (.int .i64 (((y.buffer.length:Nat):Int))),.c (.bool (decide (((y.buffer.length:Nat):Int)≤IntKind.i64.wrap (y.bottom-y.top))))],[{ dep:=[],res:=fun _=>bC dd [.int .i64 (y.top),.int .i64 (y.bottom),.slice (some ⟨bb,0,none⟩) y.buffer.length cB,.slice (some ⟨rb,0,none⟩) m cA,.slice AT y.taken.length cT,.slice AR y.refused.length cR] 30,prod:=none,cons:=none},{ dep:=[],res:=fun _=>Gr (.slice (some ⟨bb,0,none⟩) y.buffer.length cB) 2 1 y.buffer.length (y.buffer.flatMap au),prod:=none,cons:=none},{ dep:=[],res:=fun _=>Dat (.slice (some ⟨tb,to,none⟩) (tl.length+1) ct) (tl.length+1) ((n0::tl).flatMap au),prod:=none,cons:=none},{ dep:=[],res:=fun _=>Gr (.slice AT y.taken.length cT) 36 2 y.taken.length (y.taken.flatMap ak.enc),prod:=none,cons:=none},{ dep:=[],res:=fun _=>Gr (.slice AR y.refused.length cR) 2 1 y.refused.length (y.refused.flatMap au),prod:=none,cons:=none},{ dep:=[],res:=fun _=>cK rb cA 57 5 m (d1) [.slice (some ⟨tb,to,none⟩) (tl.length+1) ct,.int .i64 (pc),.int .i64 (y.top),.int .i64 (y.bottom),.int .i64 (x)] (d2),prod:=none,cons:=none}],[[],[0],[0,1],[0,1,2],[],[4],[4,5],[4,5,6],[0,1,2,3,4,5,6,7],[],[9],[9,10],[9,10,11],[9,10,11,12],[0,1,2,3,4,5,6,7,8,9,10,11,12,13]]⟩
  have E:Env 87 a [(0,.pointer (some ⟨dd,0,none⟩)),(1,.pointer (some ⟨rb,k*5,none⟩)),(4,.pointer (some ⟨rb,k*5,none⟩)),(5,.pointer (some ⟨rb,k*5,none⟩)),(6,.pointer (some ⟨rb,k*5+1,none⟩)),(7,.int .i64 (pc)),(18,.bool (pc==0)),(19,.bool (pc==0))]:=(Env.pick E (Env.pick E (Env.pick E (Env.pick E (Env.pick E (Env.pick E (Env.pick E (Env.pick E E.nil rfl) rfl) rfl) rfl) rfl) rfl) rfl) rfl)
  refine iK (rs:=[]) rfl fl5 E (by rw[qS];exact H) 15 rfl (by kernel_rfl) ?_ ?_
  ·
   refine aB.snoc (aB.snoc (aB.snoc (aB.snoc (aB.snoc (aB.snoc (aB.snoc (aB.snoc (aB.snoc (aB.snoc (aB.snoc (aB.snoc (aB.snoc (aB.snoc (aB.snoc (aB.zero _) ?_) ?_) ?_) ?_) ?_) ?_) ?_) ?_) ?_) ?_) ?_) ?_) ?_) ?_) ?_
   ·
    refine⟨_,_,_,rfl,rfl,rfl,fun ν a w rs E hk ht H=> ?_⟩
    exact Gives.val rfl (bN (E.tmp rfl)) ⟨trivial,rfl,H⟩
   ·
    refine⟨_,_,_,rfl,rfl,rfl,fun ν a w rs E hk ht H=> ?_⟩
    have E:=Env.add (v:=.pointer (some ⟨rb,k*5,none⟩)) E (ht 0 (by decide) _ _ 34 rfl rfl rfl)
    exact Gives.val rfl (aZ (E.tmp rfl)) ⟨trivial,rfl,H⟩
   ·
    refine⟨_,_,_,rfl,rfl,rfl,fun ν a w rs E hk ht H=> ?_⟩
    have E:=Env.add (v:=.pointer (some ⟨rb,k*5,none⟩)) E (ht 1 (by decide) _ _ 35 rfl rfl rfl)
    exact Gives.val rfl (aS (o':=k*5+3) (E.tmp rfl) oJ rfl) ⟨trivial,rfl,H⟩
   ·
    refine⟨_,_,_,rfl,rfl,rfl,fun ν a w rs E hk ht H=> ?_⟩
    have E:=Env.add (v:=.pointer (some ⟨rb,k*5+3,none⟩)) E (ht 2 (by decide) _ _ 36 rfl rfl rfl)
    have H:Tr.Inv w0 F w ([cK rb cA 57 5 m (d1) [.slice (some ⟨tb,to,none⟩) (tl.length+1) ct,.int .i64 (pc),.int .i64 (y.top),.int .i64 (y.bottom),.int .i64 (x)] (d2)]++([]++rs)):=H
    exact Gives.val rfl (aD (E.tmp rfl) jI (H.bX 0 rfl hd1 (j:=3) rfl)) ⟨trivial,rfl,H⟩
   ·
    refine⟨_,_,_,rfl,rfl,rfl,fun ν a w rs E hk ht H=> ?_⟩
    exact Gives.val rfl (bN (E.tmp rfl)) ⟨trivial,rfl,H⟩
   ·
    refine⟨_,_,_,rfl,rfl,rfl,fun ν a w rs E hk ht H=> ?_⟩
    have E:=Env.add (v:=.pointer (some ⟨rb,k*5,none⟩)) E (ht 4 (by decide) _ _ 38 rfl rfl rfl)
    exact Gives.val rfl (aZ (E.tmp rfl)) ⟨trivial,rfl,H⟩
   ·
    refine⟨_,_,_,rfl,rfl,rfl,fun ν a w rs E hk ht H=> ?_⟩
    have E:=Env.add (v:=.pointer (some ⟨rb,k*5,none⟩)) E (ht 5 (by decide) _ _ 39 rfl rfl rfl)
    exact Gives.val rfl (aS (o':=k*5+2) (E.tmp rfl) oI rfl) ⟨trivial,rfl,H⟩
   ·
    refine⟨_,_,_,rfl,rfl,rfl,fun ν a w rs E hk ht H=> ?_⟩
    have E:=Env.add (v:=.pointer (some ⟨rb,k*5+2,none⟩)) E (ht 6 (by decide) _ _ 40 rfl rfl rfl)
    have H:Tr.Inv w0 F w ([cK rb cA 57 5 m (d1) [.slice (some ⟨tb,to,none⟩) (tl.length+1) ct,.int .i64 (pc),.int .i64 (y.top),.int .i64 (y.bottom),.int .i64 (x)] (d2)]++([]++rs)):=H
    exact Gives.val rfl (aD (E.tmp rfl) jI (H.bX 0 rfl hd1 (j:=2) rfl)) ⟨trivial,rfl,H⟩
   ·
    refine⟨_,_,_,rfl,rfl,rfl,fun ν a w rs E hk ht H=> ?_⟩
    have E:=Env.add (v:=.int .i64 (y.bottom)) E (ht 3 (by decide) _ _ 37 rfl rfl rfl)
    have E:=Env.add (v:=.int .i64 (y.top)) E (ht 7 (by decide) _ _ 41 rfl rfl rfl)
    exact Gives.val rfl (aN (E.tmp rfl) (E.tmp rfl) (CK rfl)) ⟨trivial,rfl,H⟩
   ·
    refine⟨_,_,_,rfl,rfl,rfl,fun ν a w rs E hk ht H=> ?_⟩
    exact Gives.val rfl (bN (E.tmp rfl)) ⟨trivial,rfl,H⟩
   ·
    refine⟨_,_,_,rfl,rfl,rfl,fun ν a w rs E hk ht H=> ?_⟩
    have E:=Env.add (v:=.pointer (some ⟨dd,0,none⟩)) E (ht 9 (by decide) _ _ 43 rfl rfl rfl)
    exact Gives.val rfl (aZ (E.tmp rfl)) ⟨trivial,rfl,H⟩
   ·
    refine⟨_,_,_,rfl,rfl,rfl,fun ν a w rs E hk ht H=> ?_⟩
    have E:=Env.add (v:=.pointer (some ⟨dd,0,none⟩)) E (ht 10 (by decide) _ _ 44 rfl rfl rfl)
    exact Gives.val rfl (aS (o':=2) (E.tmp rfl) sZ rfl) ⟨trivial,rfl,H⟩
   ·
    refine⟨_,_,_,rfl,rfl,rfl,fun ν a w rs E hk ht H=> ?_⟩
    have E:=Env.add (v:=.pointer (some ⟨dd,2,none⟩)) E (ht 11 (by decide) _ _ 45 rfl rfl rfl)
    have H:Tr.Inv w0 F w ([bC dd [.int .i64 (y.top),.int .i64 (y.bottom),.slice (some ⟨bb,0,none⟩) y.buffer.length cB,.slice (some ⟨rb,0,none⟩) m cA,.slice AT y.taken.length cT,.slice AR y.refused.length cR] 30]++([]++rs)):=H
    exact Gives.val rfl (aD (E.tmp rfl) mH (H.cell 0 rfl rfl)) ⟨trivial,rfl,H⟩
   ·
    refine⟨_,_,_,rfl,rfl,rfl,fun ν a w rs E hk ht H=> ?_⟩
    have E:=Env.add (v:=.slice (some ⟨bb,0,none⟩) y.buffer.length cB) E (ht 12 (by decide) _ _ 46 rfl rfl rfl)
    exact Gives.val rfl (dM (E.tmp rfl) oH) ⟨trivial,rfl,H⟩
   ·
    refine⟨_,_,_,rfl,rfl,rfl,fun ν a w rs E hk ht H=> ?_⟩
    have E:=Env.add (v:=.int .i64 (IntKind.i64.wrap (y.bottom-y.top))) E (ht 8 (by decide) _ _ 42 rfl rfl rfl)
    have E:=Env.add (v:=.int .i64 (((y.buffer.length:Nat):Int))) E (ht 13 (by decide) _ _ 47 rfl rfl rfl)
    exact Gives.val rfl (aN (E.tmp rfl) (E.tmp rfl) (lq (b:=decide (((y.buffer.length:Nat):Int)≤IntKind.i64.wrap (y.bottom-y.top))) rfl)) ⟨trivial,rfl,H⟩
  ·
   refine fun ν a w E hk ht H=> ?_
   have E:=Env.add E (show a.tmps[48]? =some (.bool (decide (((y.buffer.length:Nat):Int)≤IntKind.i64.wrap (y.bottom-y.top)))) from ht 14 _ _ 48 rfl rfl rfl)
   have H:Tr.Inv w0 F w [bC dd [.int .i64 (y.top),.int .i64 (y.bottom),.slice (some ⟨bb,0,none⟩) y.buffer.length cB,.slice (some ⟨rb,0,none⟩) m cA,.slice AT y.taken.length cT,.slice AR y.refused.length cR] 30,Gr (.slice (some ⟨bb,0,none⟩) y.buffer.length cB) 2 1 y.buffer.length (y.buffer.flatMap au),Dat (.slice (some ⟨tb,to,none⟩) (tl.length+1) ct) (tl.length+1) ((n0::tl).flatMap au),Gr (.slice AT y.taken.length cT) 36 2 y.taken.length (y.taken.flatMap ak.enc),Gr (.slice AR y.refused.length cR) 2 1 y.refused.length (y.refused.flatMap au),cK rb cA 57 5 m (d1) [.slice (some ⟨tb,to,none⟩) (tl.length+1) ct,.int .i64 (pc),.int .i64 (y.top),.int .i64 (y.bottom),.int .i64 (x)] (d2)]:=H
   have E:Env 87 a [(0,.pointer (some ⟨dd,0,none⟩)),(1,.pointer (some ⟨rb,k*5,none⟩)),(4,.pointer (some ⟨rb,k*5,none⟩)),(5,.pointer (some ⟨rb,k*5,none⟩)),(6,.pointer (some ⟨rb,k*5+1,none⟩)),(7,.int .i64 (pc)),(18,.bool (pc==0)),(19,.bool (pc==0)),(48,.bool (decide (((y.buffer.length:Nat):Int)≤IntKind.i64.wrap (y.bottom-y.top))))]:=(Env.pick E (Env.pick E (Env.pick E (Env.pick E (Env.pick E (Env.pick E (Env.pick E (Env.pick E (Env.pick E E.nil rfl) rfl) rfl) rfl) rfl) rfl) rfl) rfl) rfl)
   clear hk ht
   refine aj ?_
   rcases aU (decide (((y.buffer.length:Nat):Int)≤IntKind.i64.wrap (y.bottom-y.top)))with ts5|ts5
   ·
    refine bG E rfl ts5 ?_
    refine wp_skip (aj (wp_region_lit ?_))
    refine vm E rfl rfl fun a E=>wv E rfl (aZ (E.tmp rfl)) fun a E=>wv E rfl (aS (o':=k*5+1) (E.tmp rfl) tu rfl) fun a E=> ?_
    refine dS (vs:=[.int .i64 (1)]) (us':=[_,.int .i64 (1),_,_,_]) (rs':=[_,_,_,_,_,cK _ _ _ _ _ _ [_,.int .i64 (1),_,_,_] _]) (j:=1) E (E.tmp rfl) (aC _) rfl rfl qx H (i:=5) rfl hd1 rfl rfl rfl rfl (fun a w E H=> ?_)
    refine wpList_nil (fO ?_)
    refine(iG E rfl ?_).2
    have H:=H.front 4 rfl
    have H:=H.front 4 rfl
    have H:=H.front 4 rfl
    have H:=H.front 5 rfl
    have H:=H.front 5 rfl
    have H:=H.front 5 rfl
    simp only[l8,iV,fT,Option.getD_some,qK,List.headD_cons,List.tail_cons,ts1,ts5,B1,B2,B3,B4,B5,B6,B7,B8,B9,B10,B11,dB,dD,dF]at hz
    obtain⟨rfl,rfl⟩:=Prod.mk.inj hz
    exact⟨_,_,_,_,_,_,rfl,H⟩
   refine bH E rfl ts5 ?_
   refine wp_seq ?_
   let fl6:Flow:=⟨[.c (.pointer (some ⟨dd,0,none⟩)),.c (.pointer (some ⟨dd,0,none⟩)),.c (.pointer (some ⟨dd,0,none⟩)),.c (.pointer (some ⟨dd,5,none⟩)),{ dep:=[],val:=fun _=>.slice AR y.refused.length cR,rd:=[0]},.c (.pointer (some ⟨rb,k*5,none⟩)),.c (.pointer (some ⟨rb,k*5,none⟩)),.c (.pointer (some ⟨rb,k*5,none⟩)),{ dep:=[],val:=fun _=>.slice (some ⟨tb,to,none⟩) (tl.length+1) ct,rd:=[5]},.c (.pointer (some ⟨tb,to,none⟩)),{ dep:=[],val:=fun _=>.int .i64 (n0),rd:=[2]},{ dep:=[11],val:=fun|[x11]=>.slice (some ⟨(vb x11),0,none⟩) 1 1|_=>undef,rd:=[]},{ dep:=[12],val:=fun|[x12]=>.slice (sA x12) (y.refused.length+1) (sC x12)|_=>undef,rd:=[6]},.c (.pointer (some ⟨dd,0,none⟩)),.c (.pointer (some ⟨dd,5,none⟩)),.c (undef)],[{ dep:=[],res:=fun _=>bC dd [.int .i64 (y.top),.int .i64 (y.bottom),.slice (some ⟨bb,0,none⟩) y.buffer.length cB,.slice (some ⟨rb,0,none⟩) m cA,.slice AT y.taken.length cT,.slice AR y.refused.length cR] 30,prod:=none,cons:=some 15},{ dep:=[],res:=fun _=>Gr (.slice (some ⟨bb,0,none⟩) y.buffer.length cB) 2 1 y.buffer.length (y.buffer.flatMap au),prod:=none,cons:=none},{ dep:=[],res:=fun _=>Dat (.slice (some ⟨tb,to,none⟩) (tl.length+1) ct) (tl.length+1) ((n0::tl).flatMap au),prod:=none,cons:=none},{ dep:=[],res:=fun _=>Gr (.slice AT y.taken.length cT) 36 2 y.taken.length (y.taken.flatMap ak.enc),prod:=none,cons:=none},{ dep:=[],res:=fun _=>Gr (.slice AR y.refused.length cR) 2 1 y.refused.length (y.refused.flatMap au),prod:=none,cons:=some 12},{ dep:=[],res:=fun _=>cK rb cA 57 5 m (d1) [.slice (some ⟨tb,to,none⟩) (tl.length+1) ct,.int .i64 (pc),.int .i64 (y.top),.int .i64 (y.bottom),.int .i64 (x)] (d2),prod:=none,cons:=none},{ dep:=[11],res:=fun|[x11]=>bC (vb x11) [.int .i64 (n0)] 2|_=>bV.emp,prod:=some 11,cons:=none},{ dep:=[12],res:=fun|[x12]=>Gr (.slice (sA x12) (y.refused.length+1) (sC x12)) 2 1 (y.refused.length+1) ((y.refused.flatMap au)++[.int .i64 (n0)].map D.v)|_=>bV.emp,prod:=some 12,cons:=none},{ dep:=[12],res:=fun|[x12]=>bC dd [.int .i64 (y.top),.int .i64 (y.bottom),.slice (some ⟨bb,0,none⟩) y.buffer.length cB,.slice (some ⟨rb,0,none⟩) m cA,.slice AT y.taken.length cT,.slice (sA x12) (y.refused.length+1) (sC x12)] 30|_=>bV.emp,prod:=some 15,cons:=none}],[[],[],[1],[1,2],[1,2,3],[],[5],[5,6],[5,6,7],[5,6,7,8],[5,6,7,8,9],[5,6,7,8,9,10],[1,2,3,4,5,6,7,8,9,10,11],[0,1,2,3,4,5,6,7,8,9,10,11,12],[0,1,2,3,4,5,6,7,8,9,10,11,12,13],[0,1,2,3,4,5,6,7,8,9,10,11,12,13,14]]⟩
   have E:Env 87 a [(0,.pointer (some ⟨dd,0,none⟩)),(1,.pointer (some ⟨rb,k*5,none⟩)),(4,.pointer (some ⟨rb,k*5,none⟩)),(5,.pointer (some ⟨rb,k*5,none⟩)),(6,.pointer (some ⟨rb,k*5+1,none⟩)),(7,.int .i64 (pc)),(18,.bool (pc==0)),(19,.bool (pc==0)),(48,.bool (decide (((y.buffer.length:Nat):Int)≤IntKind.i64.wrap (y.bottom-y.top))))]:=(Env.pick E (Env.pick E (Env.pick E (Env.pick E (Env.pick E (Env.pick E (Env.pick E (Env.pick E (Env.pick E E.nil rfl) rfl) rfl) rfl) rfl) rfl) rfl) rfl) rfl)
   refine iK (rs:=[]) rfl fl6 E (by rw[qS];exact H) 16 rfl (by kernel_rfl) ?_ ?_
   ·
    refine aB.snoc (aB.snoc (aB.snoc (aB.snoc (aB.snoc (aB.snoc (aB.snoc (aB.snoc (aB.snoc (aB.snoc (aB.snoc (aB.snoc (aB.snoc (aB.snoc (aB.snoc (aB.snoc (aB.zero _) ?_) ?_) ?_) ?_) ?_) ?_) ?_) ?_) ?_) ?_) ?_) ?_) ?_) ?_) ?_) ?_
    ·
     refine⟨_,_,_,rfl,rfl,rfl,fun ν a w rs E hk ht H=> ?_⟩
     exact Gives.val rfl (bN (E.tmp rfl)) ⟨trivial,rfl,H⟩
    ·
     refine⟨_,_,_,rfl,rfl,rfl,fun ν a w rs E hk ht H=> ?_⟩
     exact Gives.val rfl (bN (E.tmp rfl)) ⟨trivial,rfl,H⟩
    ·
     refine⟨_,_,_,rfl,rfl,rfl,fun ν a w rs E hk ht H=> ?_⟩
     have E:=Env.add (v:=.pointer (some ⟨dd,0,none⟩)) E (ht 1 (by decide) _ _ 50 rfl rfl rfl)
     exact Gives.val rfl (aZ (E.tmp rfl)) ⟨trivial,rfl,H⟩
    ·
     refine⟨_,_,_,rfl,rfl,rfl,fun ν a w rs E hk ht H=> ?_⟩
     have E:=Env.add (v:=.pointer (some ⟨dd,0,none⟩)) E (ht 2 (by decide) _ _ 51 rfl rfl rfl)
     exact Gives.val rfl (aS (o':=5) (E.tmp rfl) yg rfl) ⟨trivial,rfl,H⟩
    ·
     refine⟨_,_,_,rfl,rfl,rfl,fun ν a w rs E hk ht H=> ?_⟩
     have E:=Env.add (v:=.pointer (some ⟨dd,5,none⟩)) E (ht 3 (by decide) _ _ 52 rfl rfl rfl)
     have H:Tr.Inv w0 F w ([bC dd [.int .i64 (y.top),.int .i64 (y.bottom),.slice (some ⟨bb,0,none⟩) y.buffer.length cB,.slice (some ⟨rb,0,none⟩) m cA,.slice AT y.taken.length cT,.slice AR y.refused.length cR] 30]++([]++rs)):=H
     exact Gives.val rfl (aD (E.tmp rfl) mH (H.cell 0 rfl rfl)) ⟨trivial,rfl,H⟩
    ·
     refine⟨_,_,_,rfl,rfl,rfl,fun ν a w rs E hk ht H=> ?_⟩
     exact Gives.val rfl (bN (E.tmp rfl)) ⟨trivial,rfl,H⟩
    ·
     refine⟨_,_,_,rfl,rfl,rfl,fun ν a w rs E hk ht H=> ?_⟩
     have E:=Env.add (v:=.pointer (some ⟨rb,k*5,none⟩)) E (ht 5 (by decide) _ _ 54 rfl rfl rfl)
     exact Gives.val rfl (aZ (E.tmp rfl)) ⟨trivial,rfl,H⟩
    ·
     refine⟨_,_,_,rfl,rfl,rfl,fun ν a w rs E hk ht H=> ?_⟩
     have E:=Env.add (v:=.pointer (some ⟨rb,k*5,none⟩)) E (ht 6 (by decide) _ _ 55 rfl rfl rfl)
     exact Gives.val rfl (aS (o':=k*5) (E.tmp rfl) tq rfl) ⟨trivial,rfl,H⟩
    ·
     refine⟨_,_,_,rfl,rfl,rfl,fun ν a w rs E hk ht H=> ?_⟩
     have E:=Env.add (v:=.pointer (some ⟨rb,k*5,none⟩)) E (ht 7 (by decide) _ _ 56 rfl rfl rfl)
     have H:Tr.Inv w0 F w ([cK rb cA 57 5 m (d1) [.slice (some ⟨tb,to,none⟩) (tl.length+1) ct,.int .i64 (pc),.int .i64 (y.top),.int .i64 (y.bottom),.int .i64 (x)] (d2)]++([]++rs)):=H
     exact Gives.val rfl (aD (E.tmp rfl) mH (H.bX 0 rfl hd1 (j:=0) rfl)) ⟨trivial,rfl,H⟩
    ·
     refine⟨_,_,_,rfl,rfl,rfl,fun ν a w rs E hk ht H=> ?_⟩
     have E:=Env.add (v:=.slice (some ⟨tb,to,none⟩) (tl.length+1) ct) E (ht 8 (by decide) _ _ 57 rfl rfl rfl)
     exact Gives.val rfl (jX (k:=0) (o':=to) (E.tmp rfl) (aC _) rfl oH (by omega) rfl) ⟨trivial,rfl,H⟩
    ·
     refine⟨_,_,_,rfl,rfl,rfl,fun ν a w rs E hk ht H=> ?_⟩
     have E:=Env.add (v:=.pointer (some ⟨tb,to,none⟩)) E (ht 9 (by decide) _ _ 58 rfl rfl rfl)
     have H:Tr.Inv w0 F w ([Dat (.slice (some ⟨tb,to,none⟩) (tl.length+1) ct) (tl.length+1) ((n0::tl).flatMap au)]++([]++rs)):=H
     exact Gives.val rfl (aD (E.tmp rfl) jI (H.vK 0 rfl rfl 0 rfl)) ⟨trivial,rfl,H⟩
    ·
     refine⟨_,_,_,rfl,rfl,rfl,fun ν a w rs E hk ht H=> ?_⟩
     have E:=Env.add (v:=.int .i64 (n0)) E (ht 10 (by decide) _ _ 59 rfl rfl rfl)
     have H:Tr.Inv w0 F w ([]++([]++rs)):=H
     exact Gives.val rfl (jW (pv (KL (E.tmp rfl) (Gm))) (by kernel_rfl:(Instr.buildSlice 24 1 (List.toArray [(0,.int .i64 (n0))])).run Try.prog w=.ok (.slice (some ⟨w.heap.size,0,none⟩) 1 1) (w.alloc (.cells (List.toArray [.int .i64 (n0)]) 2)))) ⟨trivial,rfl,H.alloc _ _⟩
    ·
     refine⟨_,_,_,rfl,rfl,rfl,fun ν a w rs E hk ht H=> ?_⟩
     have E:=Env.add (v:=.slice AR y.refused.length cR) E (ht 4 (by decide) _ _ 53 rfl rfl rfl)
     have E:=Env.add (v:=.slice (some ⟨(vb (ν 11)),0,none⟩) 1 1) E (ht 11 (by decide) _ _ 60 rfl rfl rfl)
     have H:Tr.Inv w0 F w ([bC (vb (ν 11)) [.int .i64 (n0)] 2]++([Gr (.slice AR y.refused.length cR) 2 1 y.refused.length (y.refused.flatMap au)]++rs)):=H
     obtain⟨v2,w2,hrun,⟨A2,c2,rfl⟩,hI⟩:=zV (P:=Try.prog) (ty:=24) (q:=1) (c:=1) Iu H rfl rfl (by omega)
     exact Gives.val rfl (Dx (E.tmp rfl) (E.tmp rfl) hrun) ⟨trivial,rfl,hI⟩
    ·
     refine⟨_,_,_,rfl,rfl,rfl,fun ν a w rs E hk ht H=> ?_⟩
     have E:=Env.add (v:=.pointer (some ⟨dd,0,none⟩)) E (ht 0 (by decide) _ _ 49 rfl rfl rfl)
     exact Gives.val rfl (aZ (E.tmp rfl)) ⟨trivial,rfl,H⟩
    ·
     refine⟨_,_,_,rfl,rfl,rfl,fun ν a w rs E hk ht H=> ?_⟩
     have E:=Env.add (v:=.pointer (some ⟨dd,0,none⟩)) E (ht 13 (by decide) _ _ 62 rfl rfl rfl)
     exact Gives.val rfl (aS (o':=5) (E.tmp rfl) yg rfl) ⟨trivial,rfl,H⟩
    ·
     refine⟨_,_,_,rfl,rfl,rfl,fun ν a w rs E hk ht H=> ?_⟩
     have E:=Env.add (v:=.slice (sA (ν 12)) (y.refused.length+1) (sC (ν 12))) E (ht 12 (by decide) _ _ 61 rfl rfl rfl)
     have E:=Env.add (v:=.pointer (some ⟨dd,5,none⟩)) E (ht 14 (by decide) _ _ 63 rfl rfl rfl)
     have H:Tr.Inv w0 F w ([]++([bC dd [.int .i64 (y.top),.int .i64 (y.bottom),.slice (some ⟨bb,0,none⟩) y.buffer.length cB,.slice (some ⟨rb,0,none⟩) m cA,.slice AT y.taken.length cT,.slice AR y.refused.length cR] 30]++rs)):=H
     exact Gives.Hu rfl (kF (E.tmp rfl) (E.tmp rfl) rfl rfl Jg (H.gG 0 rfl) (by simp)) ⟨trivial,rfl,H.put (us:=[.slice (sA (ν 12)) (y.refused.length+1) (sC (ν 12))]) 0 rfl rfl rfl⟩
   ·
    refine fun ν a w E hk ht H=> ?_
    have H:Tr.Inv w0 F w [Gr (.slice (some ⟨bb,0,none⟩) y.buffer.length cB) 2 1 y.buffer.length (y.buffer.flatMap au),Dat (.slice (some ⟨tb,to,none⟩) (tl.length+1) ct) (tl.length+1) ((n0::tl).flatMap au),Gr (.slice AT y.taken.length cT) 36 2 y.taken.length (y.taken.flatMap ak.enc),cK rb cA 57 5 m (d1) [.slice (some ⟨tb,to,none⟩) (tl.length+1) ct,.int .i64 (pc),.int .i64 (y.top),.int .i64 (y.bottom),.int .i64 (x)] (d2),bC (vb (ν 11)) [.int .i64 (n0)] 2,Gr (.slice (sA (ν 12)) (y.refused.length+1) (sC (ν 12))) 2 1 (y.refused.length+1) ((y.refused.flatMap au)++[.int .i64 (n0)].map D.v),bC dd [.int .i64 (y.top),.int .i64 (y.bottom),.slice (some ⟨bb,0,none⟩) y.buffer.length cB,.slice (some ⟨rb,0,none⟩) m cA,.slice AT y.taken.length cT,.slice (sA (ν 12)) (y.refused.length+1) (sC (ν 12))] 30]:=H
    have E:Env 87 a [(0,.pointer (some ⟨dd,0,none⟩)),(1,.pointer (some ⟨rb,k*5,none⟩)),(4,.pointer (some ⟨rb,k*5,none⟩)),(5,.pointer (some ⟨rb,k*5,none⟩)),(6,.pointer (some ⟨rb,k*5+1,none⟩)),(7,.int .i64 (pc)),(18,.bool (pc==0)),(19,.bool (pc==0)),(48,.bool (decide (((y.buffer.length:Nat):Int)≤IntKind.i64.wrap (y.bottom-y.top))))]:=(Env.pick E (Env.pick E (Env.pick E (Env.pick E (Env.pick E (Env.pick E (Env.pick E (Env.pick E (Env.pick E E.nil rfl) rfl) rfl) rfl) rfl) rfl) rfl) rfl) rfl)
    clear hk ht
    generalize (vb (ν 11))=g6 at E H
    generalize (sA (ν 12))=A7 at E H
    generalize (sC (ν 12))=c8 at E H
    refine aj (wp_seq ?_)
    have e1:y.refused.flatMap au++[Value.int .i64 n0].map D.v=(y.refused++[n0]).flatMap au:=by simp[au]
    have e2:y.refused.length+1=(y.refused++[n0]).length:=by simp
    rw[e1]at H
    rw[e2]at H
    have H:Tr.Inv w0 F w [Gr (.slice (some ⟨bb,0,none⟩) y.buffer.length cB) 2 1 y.buffer.length (y.buffer.flatMap au),Dat (.slice (some ⟨tb,to,none⟩) (tl.length+1) ct) (tl.length+1) ((n0::tl).flatMap au),Gr (.slice AT y.taken.length cT) 36 2 y.taken.length (y.taken.flatMap ak.enc),cK rb cA 57 5 m (d1) [.slice (some ⟨tb,to,none⟩) (tl.length+1) ct,.int .i64 (pc),.int .i64 (y.top),.int .i64 (y.bottom),.int .i64 (x)] (d2),bC g6 [.int .i64 (n0)] 2,Gr (.slice A7 ((y.refused++[n0]).length) c8) 2 1 ((y.refused++[n0]).length) ((y.refused++[n0]).flatMap au),bC dd [.int .i64 (y.top),.int .i64 (y.bottom),.slice (some ⟨bb,0,none⟩) y.buffer.length cB,.slice (some ⟨rb,0,none⟩) m cA,.slice AT y.taken.length cT,.slice A7 ((y.refused++[n0]).length) c8] 30]:=H
    refine wp_region_lit ?_
    refine vm E rfl rfl fun a E=> ?_
    have H:=H.front 1 rfl
    have H:=H.front 3 rfl
    obtain⟨q9F,q9S,q9I,q9b⟩:=Tr.Inv.frame (pre:=[cK rb cA 57 5 m (d1) [.slice (some ⟨tb,to,none⟩) (tl.length+1) ct,.int .i64 (pc),.int .i64 (y.top),.int .i64 (y.bottom),.int .i64 (x)] (d2),Dat (.slice (some ⟨tb,to,none⟩) (tl.length+1) ct) (tl.length+1) ((n0::tl).flatMap au)]) (rest:=[Gr (.slice (some ⟨bb,0,none⟩) y.buffer.length cB) 2 1 y.buffer.length (y.buffer.flatMap au),Gr (.slice AT y.taken.length cT) 36 2 y.taken.length (y.taken.flatMap ak.enc),bC g6 [.int .i64 (n0)] 2,Gr (.slice A7 ((y.refused++[n0]).length) c8) 2 1 ((y.refused++[n0]).length) ((y.refused++[n0]).flatMap au),bC dd [.int .i64 (y.top),.int .i64 (y.bottom),.slice (some ⟨bb,0,none⟩) y.buffer.length cB,.slice (some ⟨rb,0,none⟩) m cA,.slice AT y.taken.length cT,.slice A7 ((y.refused++[n0]).length) c8] 30]) H
    refine dR E rfl (aG (E.tmp rfl) (aX)) Dq (pU rb cA m k tb to ct n0 tl pc y.top y.bottom x d1 d2 w q9S hd1 hl) ?_
    rintro _ w ⟨q9A,q9c,rfl,hI⟩
    refine⟨_,rfl,fun a E=> ?_⟩
    have H:=q9b _ _ hI
    clear hI q9S q9I q9b
    have H:Tr.Inv w0 F w [cK rb cA 57 5 m (d1) [.slice q9A tl.length q9c,.int .i64 (0),.int .i64 (0),.int .i64 (0),.int .i64 (0)] (d2),Dat (.slice q9A tl.length q9c) tl.length (tl.flatMap au),Gr (.slice (some ⟨bb,0,none⟩) y.buffer.length cB) 2 1 y.buffer.length (y.buffer.flatMap au),Gr (.slice AT y.taken.length cT) 36 2 y.taken.length (y.taken.flatMap ak.enc),bC g6 [.int .i64 (n0)] 2,Gr (.slice A7 ((y.refused++[n0]).length) c8) 2 1 ((y.refused++[n0]).length) ((y.refused++[n0]).flatMap au),bC dd [.int .i64 (y.top),.int .i64 (y.bottom),.slice (some ⟨bb,0,none⟩) y.buffer.length cB,.slice (some ⟨rb,0,none⟩) m cA,.slice AT y.taken.length cT,.slice A7 ((y.refused++[n0]).length) c8] 30]:=H
    refine wpList_nil (aj (wp_ret (bM (iQ ?_))))
    refine(iG E rfl ?_).1
    have H:=H.front 5 rfl
    have H:=H.front 4 rfl
    have H:=H.front 3 rfl
    have H:=H.front 3 rfl
    have H:=H.front 4 rfl
    have H:=H.front 6 rfl
    have H:=H.drop 6 rfl
    simp only[l8,iV,fT,Option.getD_some,qK,List.headD_cons,List.tail_cons,ts1,ts5,B1,B2,B3,B4,B5,B6,B7,B8,B9,B10,B11,dB,dD,dF]at hz
    obtain⟨rfl,rfl⟩:=Prod.mk.inj hz
    exact⟨_,_,_,_,_,_,rfl,H⟩
end Go.Proofs.Ytjpaeopdljfjpaa
