
/- Deques. Printed by gx_dq.py. -/
import Derived.Test.YtjpaeopdljfjpaaShort
import Derived.Test.YtjpaeopdljfjpaaProg
import Derived.Test.YtjpaeopdljfjpaaSc
import Derived.Test.YtjpaeopdljfjpaaDDq
import Derived.Test.YtjpaeopdljfjpaaNet
import Derived.IntWalk
import Derived.Test.YtjpaeopdljfjpaaDq18
set_option maxHeartbeats 1000000
set_option linter.unusedSimpArgs false
set_option linter.unusedVariables false
namespace Go.Tr
theorem Gg{sch:List Int}{n m:Nat}(hm:0<m):nG sch n m<m:=by
 unfold nG;split
 ·exact Nat.mod_lt _ hm
 ·exact hm
end Go.Tr
namespace Go.Proofs.Ytjpaeopdljfjpaa
open Go Go.RowKit Go.Proofs Go.Tr
theorem gJ:cO Try.prog 24=some (2,1):=by kernel_rfl
theorem uQ:eP Try.prog 2=some false:=by kernel_rfl
theorem BM:bI Try.prog 30 3=some 3:=by kernel_rfl
theorem ET:eP Try.prog 27=some false:=by kernel_rfl
theorem Ab:cO Try.prog 27=some (57,5):=by kernel_rfl
theorem EX:eP Try.prog 57=some true:=by kernel_rfl
theorem Bf:(Try.prog.info? 57).map (·.size)=some 5:=by kernel_rfl
theorem Hr:zeroOf Try.prog 57=some [.slice none 0 0,.int .i64 (0),.int .i64 (0),.int .i64 (0),.int .i64 (0)]:=by kernel_rfl
theorem BP:bI Try.prog 57 0=some 0:=by kernel_rfl
theorem EP:eP Try.prog 24=some false:=by kernel_rfl
theorem FI:eU Try.prog 24 2 1:=eU.of Try.underlying24 (by kernel_rfl) (by omega)
theorem Bq:zeroOf Try.prog 30=some [.int .i64 (0),.int .i64 (0),.slice none 0 0,.slice none 0 0,.slice none 0 0,.slice none 0 0]:=by kernel_rfl
theorem kN:eP Try.prog 30=some true:=by kernel_rfl
theorem gL:(Try.prog.info? 30).map (·.size)=some 6:=by kernel_rfl
theorem Ar:dA Try.prog 31=true:=by kernel_rfl
theorem Au:dA Try.prog 32=true:=by kernel_rfl
theorem Lu(n:Int)(w0:World):Calls Try.prog 63 #[.int .i64 (n)] w0 fun e w'=>e=.returned (.bool (!aP n 0 600))∧Ext w0 w':=by
 refine bF (args:=[.int .i64 (n)]) Try.func63 rfl Try.ntmps63 rfl iI (fun a w E H=> ?_)
 have E:Env 9 a [(0,.int .i64 (n))]:=E
 refine wp_seq (wp_region_lit ?_)
 refine wv E rfl (aK (aC _)) fun a E=> ?_
 refine wpList_nil (aj (wp_seq (wp_region_lit ?_)))
 refine vm E rfl rfl fun a E=>wv E rfl (aN (E.tmp rfl) (aC _) (iD (b:=decide (n<0)) rfl)) fun a E=>vm E rfl rfl fun a E=> ?_
 rcases aU (decide (n<0))with ts1|ts1
 ·
  refine bE E rfl rfl rfl ts1 ?_
  refine vm E rfl rfl fun a E=> ?_
  refine bE E rfl rfl rfl ts1 ?_
  refine wv E rfl (aN (E.tmp rfl) (aC _) (gF (b:=decide (600<n)) rfl)) fun a E=>wv E rfl (aJ ((E.tmp rfl).trans (congrArg Value.bool ts1)) (E.tmp rfl)) fun a E=>va E rfl rfl fun a E=> ?_
  refine wpList_nil (aj (wp_ret ?_))
  refine bB E rfl (aY E rfl) ?_
  have hE:(decide (600<n))= !aP n 0 600:=by
   have hts1:=ts1
   rw[Bool.eq_iff_iff]
   simp[aP]at hts1 ⊢
   all_goals first|done|omega|(intros;omega)
  exact rb hE H
 refine bJ (c:=true) E rfl rfl rfl rfl ts1 rfl fun a E=> ?_
 refine bJ (c:=true) E rfl rfl rfl rfl ts1 rfl fun a E=> ?_
 refine wv E rfl (aL ((E.tmp rfl).trans (congrArg Value.bool ts1)) (aC _)) fun a E=>va E rfl rfl fun a E=> ?_
 refine wpList_nil (aj (wp_ret ?_))
 refine bB E rfl (aY E rfl) ?_
 have hE:true= !aP n 0 600:=by
  have hts1:=ts1
  rw[Bool.eq_iff_iff]
  simp[aP]at hts1 ⊢
  all_goals first|done|omega|(intros;omega)
 exact rb hE H
theorem IK(xs:List Int)(c:Nat)(A:Option Addr)(w0:World)(hx:dz w0 [] (.sl xs.length (xs.flatMap au)) (.slice A xs.length c)):Calls Try.prog 55 #[.slice A xs.length c,.func (.func 63) #[] #[]] w0 fun e w'=>∃i:Int,e=.returned (.int .i64 i)∧decide (0≤i)=(!xs.all (fun n=>aP n 0 600))∧Ext w0 w':=by
 refine bF (args:=[.slice A xs.length c,.func (.func 63) #[] #[]]) Try.func55 rfl Try.ntmps55 rfl iI (fun a w E H=> ?_)
 have E:Env 19 a [(0,.slice A xs.length c),(1,.func (.func 63) #[] #[])]:=E
 have hnl:=hx.Ei
 refine wp_seq (wp_region_lit ?_)
 refine wv E rfl (aK (aC _)) fun a E=> ?_
 refine wpList_nil (aj (wp_seq (wp_seq (wp_region_lit ?_))))
 refine vm E rfl rfl fun a E=> ?_
 refine wv E rfl (dM (E.tmp rfl) gJ) (fun a E=> ?_)
 refine wv E rfl (bN (aC _)) fun a E=> ?_
 refine wpList_nil (aj (wp_block ?_))
 refine wp_loop_ghost (fun m a w=>∃(k:Nat),m=xs.length-k∧k≤xs.length∧(xs.take k).all (fun n=>aP n 0 600)=true∧Env 19 a [(0,.slice A xs.length c),(1,.func (.func 63) #[] #[]),(7,.int .i64 (((xs.length:Nat):Int))),(8,.int .i64 (((k:Nat):Int)))]∧Tr.Inv w0 [] w []) _ ⟨0,rfl,Nat.zero_le _,rfl,(Env.pick E (Env.pick E (Env.pick E (Env.pick E E.nil rfl) rfl) rfl) rfl),H⟩ ?_
 rintro _ a w ⟨k,rfl,hk,hall,E,H⟩
 by_cases hlt:k<xs.length
 ·
  skip
  revert E
  revert H
  obtain⟨e1b,e1o,e1y,rfl,e1x,e1q⟩:=dz.elem (f:=au) (s:=1) (fun _=>rfl) hx rfl hlt
  intro H E
  have r2p0:eY w0 [] e1b (e1o+k*1) [.v (.int .i64 (e1y))]:=e1q
  obtain⟨r2k0,r2p1⟩:=eY.vv r2p0
  clear r2p0
  clear r2p1
  refine wp_seq (wp_region_lit ?_)
  refine wv E rfl (aN (E.tmp rfl) (E.tmp rfl) (iD (b:=true) (by simp;exact hlt))) fun a E=> ?_
  refine wpList_nil (aj (wp_seq ?_))
  refine bH E rfl rfl ?_
  refine wp_skip (aj (wp_seq (wp_block (wp_seq (wp_region_lit ?_)))))
  refine vm E rfl rfl fun a E=>va E rfl rfl fun a E=> ?_
  refine wpList_nil (aj (wp_seq (wp_region_lit ?_)))
  refine vm E rfl rfl fun a E=>vm E rfl rfl fun a E=>vm E rfl rfl fun a E=>wv E rfl (jX (k:=k) (o':=e1o+k*1) (E.tmp rfl) (E.tmp rfl) rfl gJ (by omega) rfl) fun a E=>wv E rfl (aD (E.tmp rfl) uQ (r2k0.get H)) fun a E=> ?_
  refine oz (v:=.bool (!aP e1y 0 600)) (cs:=[]) E rfl (E.tmp rfl) (aG (E.tmp rfl) (aX)) (by kernel_rfl) (Lu e1y w) H (fun a w E H=> ?_)
  refine wpList_nil (aj ?_)
  rcases aU (aP e1y 0 600)with ts3|ts3
  ·
   refine bH E rfl (by rw[ts3];rfl) ?_
   refine wp_seq (wp_region_lit ?_)
   refine vm E rfl rfl fun a E=>va E rfl rfl fun a E=> ?_
   refine wpList_nil (aj (wp_ret (iQ (bM (bM (iQ (bM ?_)))))))
   refine bB E rfl (aY E rfl) ?_
   have hp:(fun n=>aP n 0 600) e1y=false:=by show aP e1y 0 600=false;exact ts3
   exact⟨_,rfl,rT e1x hp,H.fH⟩
  refine bG E rfl (by rw[ts3];rfl) ?_
  refine wp_skip (fO (aj (wp_region_lit ?_)))
  refine wv E rfl (aN (E.tmp rfl) (aC _) (kP (fQ (by omega)))) fun a E=>vm E rfl rfl fun a E=> ?_
  refine wpList_nil ?_
  have hp:(fun n=>aP n 0 600) e1y=true:=by show aP e1y 0 600=true;exact ts3
  exact aj ⟨_,by omega,k+1,rfl,by omega,all_succ hall e1x hp,(Env.pick E (Env.pick E (Env.pick E (Env.pick E E.nil rfl) rfl) rfl) rfl),H⟩
 ·
  skip
  refine wp_seq (wp_region_lit ?_)
  refine wv E rfl (aN (E.tmp rfl) (E.tmp rfl) (iD (b:=false) (by simp;omega))) fun a E=> ?_
  refine wpList_nil (aj (wp_seq ?_))
  refine bG E rfl rfl ?_
  refine wp_exit (gQ (gQ (mO (aj (wp_seq (wp_region_lit ?_))))))
  refine wv E rfl (aK (aC _)) fun a E=> ?_
  refine wpList_nil (aj (wp_ret ?_))
  refine bB E rfl (aY E rfl) ?_
  exact⟨_,rfl,nR hall (by omega),H.fH⟩
theorem Il(xs:List Int)(c:Nat)(A:Option Addr)(w0:World)(hx:dz w0 [] (.sl xs.length (xs.flatMap au)) (.slice A xs.length c)):Calls Try.prog 24 #[.slice A xs.length c,.func (.func 63) #[] #[]] w0 fun e w'=>e=.returned (.bool (!xs.all (fun n=>aP n 0 600)))∧Ext w0 w':=by
 refine bF (args:=[.slice A xs.length c,.func (.func 63) #[] #[]]) Try.func24 rfl Try.ntmps24 rfl iI (fun a w E H=> ?_)
 have E:Env 9 a [(0,.slice A xs.length c),(1,.func (.func 63) #[] #[])]:=E
 refine wp_seq (wp_region_lit ?_)
 refine wv E rfl (aK (aC _)) fun a E=> ?_
 refine wpList_nil (aj (wp_seq (wp_region_lit ?_)))
 refine vm E rfl rfl fun a E=>vm E rfl rfl fun a E=> ?_
 refine dR E rfl (aG (E.tmp rfl) (aG (E.tmp rfl) (aX))) (by kernel_rfl) (IK xs c A w (hx.at_ H (F:=[]) (by simp))) ?_
 rintro _ w ⟨i,rfl,hi,hext⟩
 refine⟨_,rfl,fun a E=> ?_⟩
 have H:=Tr.Inv.ext H hext
 clear hext
 refine wv E rfl (aN (E.tmp rfl) (aC _) (lq (b:=decide (0≤i)) rfl)) fun a E=>va E rfl rfl fun a E=> ?_
 refine wpList_nil (aj (wp_ret ?_))
 refine bB E rfl (aY E rfl) ?_
 exact⟨congrArg (fun z=>Ending.returned (Value.bool z)) hi,H.fH⟩
theorem uP(xs:List Int)(c:Nat)(A:Option Addr)(w0:World)(hx:dz w0 [] (.sl xs.length (xs.flatMap au)) (.slice A xs.length c)):Calls Try.prog 30 #[.slice A xs.length c] w0 fun e w'=>e=.returned (.bool (sF xs))∧Ext w0 w':=by
 refine bF (args:=[.slice A xs.length c]) Try.func30 rfl Try.ntmps30 rfl iI (fun a w E H=> ?_)
 have E:Env 11 a [(0,.slice A xs.length c)]:=E
 refine wp_seq (wp_region_lit ?_)
 refine wv E rfl (aK (aC _)) fun a E=> ?_
 refine wpList_nil (aj (wp_seq (wp_region_lit ?_)))
 refine vm E rfl rfl fun a E=> ?_
 refine wv E rfl (dM (E.tmp rfl) gJ) (fun a E=> ?_)
 refine wv E rfl (aN (E.tmp rfl) (aC _) (xR (b:=decide (((xs.length:Nat):Int)≤200)) rfl)) fun a E=>vm E rfl rfl fun a E=> ?_
 rcases aU (decide (((xs.length:Nat):Int)≤200))with ts1|ts1
 ·
  refine bJ (c:=false) E rfl rfl rfl rfl ts1 rfl fun a E=> ?_
  refine bJ (c:=false) E rfl rfl rfl rfl ts1 rfl fun a E=> ?_
  refine bJ (c:=false) E rfl rfl rfl rfl ts1 rfl fun a E=> ?_
  refine wv E rfl (aJ ((E.tmp rfl).trans (congrArg Value.bool ts1)) (aC _)) fun a E=>va E rfl rfl fun a E=> ?_
  refine wpList_nil (aj (wp_ret ?_))
  refine bB E rfl (aY E rfl) ?_
  have hE:false=sF xs:=by
   have e1:decide ((200:Int)<((xs.length:Nat):Int))=true:=by have h:=ts1;simp at h ⊢;omega
   simp only[sF,ts1,e1,B1,B2,B3,B4,B5,B6,B7,B8,B9,B10,B11,dB,dD,dF,Bool.not_not]
  exact rb hE H
 refine bE E rfl rfl rfl ts1 ?_
 refine vm E rfl rfl fun a E=> ?_
 refine bE E rfl rfl rfl ts1 ?_
 refine dx (v:=.bool (!xs.all (fun n=>aP n 0 600))) E rfl (aG (E.tmp rfl) (aG (J9 _) (aX))) (by kernel_rfl) (Il xs c A w (hx.at_ H (F:=[]) (by simp))) H (fun a w E H=> ?_)
 refine bE E rfl rfl rfl ts1 ?_
 refine wv E rfl (kV (c:= !(!xs.all (fun n=>aP n 0 600))) (E.tmp rfl) rfl) fun a E=>wv E rfl (aL ((E.tmp rfl).trans (congrArg Value.bool ts1)) (E.tmp rfl)) fun a E=>va E rfl rfl fun a E=> ?_
 refine wpList_nil (aj (wp_ret ?_))
 refine bB E rfl (aY E rfl) ?_
 have hE:(!(!xs.all (fun n=>aP n 0 600)))=sF xs:=by
  have e1:decide ((200:Int)<((xs.length:Nat):Int))=false:=by have h:=ts1;simp at h ⊢;omega
  simp only[sF,ts1,e1,B1,B2,B3,B4,B5,B6,B7,B8,B9,B10,B11,dB,dD,dF,Bool.not_not]
 exact rb hE H
theorem CP(x:aQ)(b o:Nat)(w0:World)(hp:eY w0 [] b o x.enc)(hn:x.actors.length≤1000):Calls Try.prog 32 #[.pointer (some ⟨b,o,none⟩)] w0 fun e w'=>∃A' c',e=.returned (.slice A' (aW x.actors x.actors.length).length c')∧Tr.Inv w0 [] w' [Gr (.slice A' (aW x.actors x.actors.length).length c') 2 1 (aW x.actors x.actors.length).length ((aW x.actors x.actors.length).flatMap au)]:=by
 refine bF (args:=[.pointer (some ⟨b,o,none⟩)]) Try.func32 rfl Try.ntmps32 rfl iI (fun a w E H=> ?_)
 have E:Env 26 a [(0,.pointer (some ⟨b,o,none⟩))]:=E
 have r1p0:eY w0 [] b o [.v (.int .i64 (x.top)),.v (.int .i64 (x.bottom)),.sl x.buffer.length (x.buffer.flatMap au),.sl x.actors.length (x.actors.flatMap ah.enc),.sl x.taken.length (x.taken.flatMap ak.enc),.sl x.refused.length (x.refused.flatMap au)]:=hp
 obtain⟨r1k0,r1p1⟩:=eY.vv r1p0
 clear r1p0
 obtain⟨r1k1,r1p2⟩:=eY.vv r1p1
 clear r1p1
 obtain⟨r1A2,r1c2,r1k2,r1t2,r1n2,r1p3⟩:=eY.sl r1p2
 clear r1p2
 obtain⟨r1A3,r1c3,r1k3,r1t3,r1n3,r1p4⟩:=eY.sl r1p3
 clear r1p3
 obtain⟨r1A4,r1c4,r1k4,r1t4,r1n4,r1p5⟩:=eY.sl r1p4
 clear r1p4
 obtain⟨r1A5,r1c5,r1k5,r1t5,r1n5,r1p6⟩:=eY.sl r1p5
 clear r1p5
 clear r1p6
 refine wp_seq (wp_region_lit ?_)
 refine wv E rfl (aK (aC _)) fun a E=> ?_
 refine wpList_nil (aj (wp_seq (wp_region_lit ?_)))
 refine wv E rfl (aK (aC _)) fun a E=> ?_
 refine wpList_nil (aj (wp_seq (wp_seq (wp_region_lit ?_))))
 refine vm E rfl rfl fun a E=>wv E rfl (aZ (E.tmp rfl)) fun a E=>wv E rfl (aS (o':=o+3) (E.tmp rfl) BM rfl) fun a E=>wv E rfl (aD (E.tmp rfl) ET (r1k3.get H)) fun a E=> ?_
 refine wv E rfl (dM (E.tmp rfl) Ab) (fun a E=> ?_)
 refine wv E rfl (bN (aC _)) fun a E=> ?_
 refine wpList_nil (aj (wp_block ?_))
 have H:=H.gP 2 1
 refine wp_loop_ghost (fun m a w=>∃(k:Nat) (A:Option Addr) (c:Nat),m=x.actors.length-k∧k≤x.actors.length∧Env 26 a [(2,.slice none 0 0),(9,.slice r1A3 x.actors.length r1c3),(10,.int .i64 (((x.actors.length:Nat):Int))),(11,.int .i64 (((k:Nat):Int))),(3,.slice A ((aW x.actors k).length) c)]∧Tr.Inv w0 [] w [Gr (.slice A ((aW x.actors k).length) c) 2 1 ((aW x.actors k).length) ((aW x.actors k).flatMap au)]) _ ⟨0,_,_,rfl,Nat.zero_le _,(Env.pick E (Env.pick E (Env.pick E (Env.pick E (Env.pick E E.nil rfl) rfl) rfl) rfl) rfl),H⟩ ?_
 rintro _ a w ⟨k,A,c,rfl,hk,E,H⟩
 by_cases hlt:k<x.actors.length
 ·
  skip
  have hbl:=xU x.actors k
  have hnl:=r1t3.Ei
  revert E
  revert H
  obtain⟨e2b,e2o,e2y,rfl,e2x,e2q⟩:=dz.elem (f:=ah.enc) ah.aV r1t3 rfl hlt
  intro H E
  have r3p0:eY w0 [] e2b (e2o+k*5) [.sl e2y.todo.length (e2y.todo.flatMap au),.v (.int .i64 (e2y.pc)),.v (.int .i64 (e2y.t)),.v (.int .i64 (e2y.b)),.v (.int .i64 (e2y.x))]:=e2q
  obtain⟨r3A0,r3c0,r3k0,r3t0,r3n0,r3p1⟩:=eY.sl r3p0
  clear r3p0
  obtain⟨r3k1,r3p2⟩:=eY.vv r3p1
  clear r3p1
  obtain⟨r3k2,r3p3⟩:=eY.vv r3p2
  clear r3p2
  obtain⟨r3k3,r3p4⟩:=eY.vv r3p3
  clear r3p3
  obtain⟨r3k4,r3p5⟩:=eY.vv r3p4
  clear r3p4
  clear r3p5
  refine wp_seq (wp_region_lit ?_)
  refine wv E rfl (aN (E.tmp rfl) (E.tmp rfl) (iD (b:=true) (by simp;exact hlt))) fun a E=> ?_
  refine wpList_nil (aj (wp_seq ?_))
  refine bH E rfl rfl ?_
  refine wp_skip (aj (wp_seq (wp_block (wp_seq (wp_region_lit ?_)))))
  refine vm E rfl rfl fun a E=>wv E rfl (jX (k:=k) (o':=e2o+k*5) (E.tmp rfl) (E.tmp rfl) rfl Ab (by omega) rfl) fun a E=>wv E rfl (fJ (us:=[.slice r3A0 e2y.todo.length r3c0,.int .i64 (e2y.pc),.int .i64 (e2y.t),.int .i64 (e2y.b),.int .i64 (e2y.x)]) (E.tmp rfl) EX Bf (fD (r3k0.get H) (fD (r3k1.get H) (fD (r3k2.get H) (fD (r3k3.get H) (fD (r3k4.get H) (yL _ _ _))))))) fun a E=> ?_
  refine oQ E rfl Hr H (fun a w g4 E H=> ?_)
  refine va E rfl rfl fun a E=> ?_
  refine jA (us:=[.slice r3A0 e2y.todo.length r3c0,.int .i64 (e2y.pc),.int .i64 (e2y.t),.int .i64 (e2y.b),.int .i64 (e2y.x)]) (cs':=[.slice r3A0 e2y.todo.length r3c0,.int .i64 (e2y.pc),.int .i64 (e2y.t),.int .i64 (e2y.b),.int .i64 (e2y.x)]) (rs':=[bC _ [.slice r3A0 e2y.todo.length r3c0,.int .i64 (e2y.pc),.int .i64 (e2y.t),.int .i64 (e2y.b),.int .i64 (e2y.x)] _,_]) E (E.tmp rfl) (E.tmp rfl) rfl Bf H (i:=0) rfl rfl rfl rfl (fun a w E H=> ?_)
  refine wpList_nil (aj (wp_seq (wp_region_lit ?_)))
  refine wv E rfl (aS (o':=0) (E.tmp rfl) BP rfl) fun a E=>wv E rfl (aD (E.tmp rfl) EP (H.cell 0 rfl rfl)) fun a E=> ?_
  refine wv E rfl (dM (E.tmp rfl) gJ) (fun a E=> ?_)
  refine wv E rfl (aN (E.tmp rfl) (aC _) (gF (b:=decide (0<((e2y.todo.length:Nat):Int))) rfl)) fun a E=> ?_
  refine wpList_nil (aj ?_)
  rcases aU (decide (0<((e2y.todo.length:Nat):Int)))with ts5|ts5
  ·
   refine bG E rfl ts5 ?_
   refine wp_skip (fO (aj (wp_region_lit ?_)))
   refine wv E rfl (aN (E.tmp rfl) (aC _) (kP (fQ (by omega)))) fun a E=>vm E rfl rfl fun a E=> ?_
   refine wpList_nil ?_
   have hB:=J2 e2x (by simpa using ts5)
   rw[←hB]at H E
   have H:=H.front 1 rfl
   have H:=H.drop 1 rfl
   exact aj ⟨_,by omega,k+1,A,c,rfl,by omega,(Env.pick E (Env.pick E (Env.pick E (Env.pick E (Env.pick E E.nil rfl) rfl) rfl) rfl) rfl),H⟩
  refine bH E rfl ts5 ?_
  refine wp_region_lit ?_
  refine vm E rfl rfl fun a E=>vm E rfl rfl fun a E=> ?_
  refine wv E rfl (jW (pv (KL (E.tmp rfl) (Gm))) (by kernel_rfl:(Instr.buildSlice 24 1 (List.toArray [(0,.int .i64 (((k:Nat):Int)))])).run Try.prog w=.ok (.slice (some ⟨w.heap.size,0,none⟩) 1 1) (w.alloc (.cells (List.toArray [.int .i64 (((k:Nat):Int))]) 2)))) (fun a E=> ?_)
  have H:=H.alloc [.int .i64 (((k:Nat):Int))] 2
  obtain⟨g6,hgg6⟩:∃g,g=w.heap.size:=⟨_,rfl⟩
  rw[←hgg6]at E H
  clear hgg6
  generalize w.alloc _=w at H ⊢
  have H:=H.front 2 rfl
  have H:=(H.flat (us:=[.int .i64 (((k:Nat):Int))]) rfl).front 1 rfl
  refine DV E rfl (E.tmp rfl) (E.tmp rfl) FI H (H.src (i:=2) rfl rfl rfl) (by omega) (fun a w Aa7 ca7 E H=> ?_)
  refine va E rfl rfl fun a E=> ?_
  refine wpList_nil (fO (aj (wp_region_lit ?_)))
  refine wv E rfl (aN (E.tmp rfl) (aC _) (kP (fQ (by omega)))) fun a E=>vm E rfl rfl fun a E=> ?_
  refine wpList_nil ?_
  have hB:=J3 e2x (by simpa using ts5)
  have e1:(aW x.actors k).flatMap au++[Value.int .i64 (((k:Nat):Int))].map D.v=(aW x.actors (k+1)).flatMap au:=by rw[hB];simp[au]
  have e2:(aW x.actors k).length+1=(aW x.actors (k+1)).length:=by rw[hB];simp
  rw[e1,e2]at H
  rw[e2]at E
  have H:=H.drop 1 rfl
  have H:=H.drop 1 rfl
  exact aj ⟨_,by omega,k+1,Aa7,ca7,rfl,by omega,(Env.pick E (Env.pick E (Env.pick E (Env.pick E (Env.pick E E.nil rfl) rfl) rfl) rfl) rfl),H⟩
 ·
  skip
  have hkn:k=x.actors.length:=by omega
  refine wp_seq (wp_region_lit ?_)
  refine wv E rfl (aN (E.tmp rfl) (E.tmp rfl) (iD (b:=false) (by simp;omega))) fun a E=> ?_
  refine wpList_nil (aj (wp_seq ?_))
  refine bG E rfl rfl ?_
  refine wp_exit (gQ (gQ (mO (aj (wp_seq (wp_region_lit ?_))))))
  refine vm E rfl rfl fun a E=>va E rfl rfl fun a E=> ?_
  refine wpList_nil (aj (wp_ret ?_))
  refine bB E rfl (aY E rfl) ?_
  subst hkn
  exact⟨_,_,rfl,H⟩
theorem BG(xs cs:List Int)(A B:Option Addr)(c d n q:Nat)(v:Int)(w0:World)(hx:dz w0 [] (.sl xs.length (xs.flatMap au)) (.slice A xs.length c))(hc:dz w0 [] (.sl cs.length (cs.flatMap au)) (.slice B cs.length d))(hsb:sF xs=true)(hL:0<cs.length)(hqe:nG xs n cs.length=q)(hv:cs[q]? =some v):Calls Try.prog 34 #[.slice A xs.length c,.slice B cs.length d,.int .i64 (((n:Nat):Int))] w0 fun e w'=>e=.returned (.int .i64 v)∧Ext w0 w':=by
 refine bF (args:=[.slice A xs.length c,.slice B cs.length d,.int .i64 (((n:Nat):Int))]) Try.func34 rfl Try.ntmps34 rfl iI (fun a w E H=> ?_)
 have E:Env 25 a [(0,.slice A xs.length c),(1,.slice B cs.length d),(2,.int .i64 (((n:Nat):Int)))]:=E
 refine wp_seq (wp_region_lit ?_)
 refine wv E rfl (aK (aC _)) fun a E=> ?_
 refine wpList_nil (aj (wp_seq (wp_region_lit ?_)))
 refine wv E rfl (aK (aC _)) fun a E=> ?_
 refine wpList_nil (aj (wp_seq (wp_seq (wp_region_lit ?_))))
 refine vm E rfl rfl fun a E=> ?_
 refine wv E rfl (dM (E.tmp rfl) gJ) (fun a E=> ?_)
 refine wv E rfl (aN (E.tmp rfl) (aC _) (gF (b:=decide (0<((xs.length:Nat):Int))) rfl)) fun a E=> ?_
 refine wpList_nil (aj ?_)
 rcases aU (decide (0<((xs.length:Nat):Int)))with ts1|ts1
 ·
  refine bG E rfl ts1 ?_
  refine wp_skip (aj (wp_seq ?_))
  have hni:nG xs n cs.length=0:=IW (by have h:=ts1;simp only[qP]at h;omega)
  have hq:=hL
  revert E
  revert H
  obtain⟨e2b,e2o,e2y,rfl,e2x,e2q⟩:=dz.elem (f:=au) (s:=1) (fun _=>rfl) hc rfl hq
  intro H E
  have r3p0:eY w0 [] e2b e2o [.v (.int .i64 (e2y))]:=e2q
  obtain⟨r3k0,r3p1⟩:=eY.vv r3p0
  clear r3p0
  clear r3p1
  refine wp_region_lit ?_
  refine vm E rfl rfl fun a E=>vm E rfl rfl fun a E=>vm E rfl rfl fun a E=> ?_
  refine wv E rfl (dM (E.tmp rfl) gJ) (fun a E=> ?_)
  refine wv E rfl (aN (E.tmp rfl) (E.tmp rfl) (xS (by omega) (Int.zero_tmod _))) fun a E=>wv E rfl (jX (k:=0) (o':=e2o) (E.tmp rfl) (E.tmp rfl) rfl gJ (by omega) rfl) fun a E=>wv E rfl (aD (E.tmp rfl) uQ (r3k0.get H)) fun a E=>va E rfl rfl fun a E=> ?_
  refine wpList_nil (aj (wp_ret ?_))
  refine bB E rfl (aY E rfl) ?_
  have hv2:e2y=v:=Option.some.inj (e2x.symm.trans (by rw[←hv,←hqe,hni]))
  rw[hv2]
  exact⟨rfl,H.fH⟩
 refine bH E rfl ts1 ?_
 have hpos:0<xs.length:=by have h:=ts1;simp only[qQ]at h;omega
 have hml:=Nat.mod_lt n hpos
 revert E
 revert H
 obtain⟨e4b,e4o,e4y,rfl,e4x,e4q⟩:=dz.elem (f:=au) (s:=1) (fun _=>rfl) hx rfl hml
 intro H E
 have r5p0:eY w0 [] e4b (e4o+(n % xs.length)*1) [.v (.int .i64 (e4y))]:=e4q
 obtain⟨r5k0,r5p1⟩:=eY.vv r5p0
 clear r5p0
 clear r5p1
 obtain⟨j,hj⟩:=Kz hsb e4x
 have hni:=IX (m:=cs.length) hpos (e4x.trans (congrArg some hj))
 revert E
 revert H
 subst hj
 intro H E
 refine wp_region_lit ?_
 refine vm E rfl rfl fun a E=>vm E rfl rfl fun a E=>vm E rfl rfl fun a E=> ?_
 refine wv E rfl (dM (E.tmp rfl) gJ) (fun a E=> ?_)
 refine wv E rfl (aN (E.tmp rfl) (E.tmp rfl) (xS (by omega) (Int.ofNat_tmod _ _).symm)) fun a E=>wv E rfl (jX (k:=n % xs.length) (o':=e4o+(n % xs.length)*1) (E.tmp rfl) (E.tmp rfl) rfl gJ (by omega) rfl) fun a E=>wv E rfl (aD (E.tmp rfl) uQ (r5k0.get H)) fun a E=>va E rfl rfl fun a E=> ?_
 refine wpList_nil (aj (wp_seq ?_))
 have hq:=Nat.mod_lt j hL
 revert E
 revert H
 obtain⟨e6b,e6o,e6y,rfl,e6x,e6q⟩:=dz.elem (f:=au) (s:=1) (fun _=>rfl) hc rfl hq
 intro H E
 have r7p0:eY w0 [] e6b (e6o+(j % cs.length)*1) [.v (.int .i64 (e6y))]:=e6q
 obtain⟨r7k0,r7p1⟩:=eY.vv r7p0
 clear r7p0
 clear r7p1
 refine wp_region_lit ?_
 refine vm E rfl rfl fun a E=>vm E rfl rfl fun a E=>vm E rfl rfl fun a E=> ?_
 refine wv E rfl (dM (E.tmp rfl) gJ) (fun a E=> ?_)
 refine wv E rfl (aN (E.tmp rfl) (E.tmp rfl) (xS (by omega) (Int.ofNat_tmod _ _).symm)) fun a E=>wv E rfl (jX (k:=j % cs.length) (o':=e6o+(j % cs.length)*1) (E.tmp rfl) (E.tmp rfl) rfl gJ (by omega) rfl) fun a E=>wv E rfl (aD (E.tmp rfl) uQ (r7k0.get H)) fun a E=>va E rfl rfl fun a E=> ?_
 refine wpList_nil (aj (wp_ret ?_))
 refine bB E rfl (aY E rfl) ?_
 have hv2:e6y=v:=Option.some.inj (e6x.symm.trans (by rw[←hv,←hqe,hni]))
 rw[hv2]
 exact⟨rfl,H.fH⟩
theorem AX(a0:aQ)(a1:List Int)(abufferA:Option Addr)(abufferc:Nat)(aactorsA:Option Addr)(aactorsc:Nat)(atakenA:Option Addr)(atakenc:Nat)(arefusedA:Option Addr)(arefusedc:Nat)(sA:Option Addr)(sc:Nat)(r0:aQ)(r1 r2:Int)(hR:(r0,r1,r2)=gM a0 a1)(w0:World)(abufferH:dz w0 [] (.sl a0.buffer.length (a0.buffer.flatMap au)) (.slice abufferA a0.buffer.length abufferc))(aactorsH:dz w0 [] (.sl a0.actors.length (a0.actors.flatMap ah.enc)) (.slice aactorsA a0.actors.length aactorsc))(atakenH:dz w0 [] (.sl a0.taken.length (a0.taken.flatMap ak.enc)) (.slice atakenA a0.taken.length atakenc))(arefusedH:dz w0 [] (.sl a0.refused.length (a0.refused.flatMap au)) (.slice arefusedA a0.refused.length arefusedc))(hsch:dz w0 [] (.sl a1.length (a1.flatMap au)) (.slice sA a1.length sc)):Calls Try.prog 10 #[.agg #[.int .i64 (a0.top),.int .i64 (a0.bottom),.slice abufferA a0.buffer.length abufferc,.slice aactorsA a0.actors.length aactorsc,.slice atakenA a0.taken.length atakenc,.slice arefusedA a0.refused.length arefusedc],.slice sA a1.length sc] w0 fun e w'=>∃us,e=.returned (.tuple #[.agg us.toArray,.int .i64 r1,.int .i64 r2])∧Tr.Inv w0 [] w' [dG us r0.enc]:=by
 refine bF (args:=[.agg #[.int .i64 (a0.top),.int .i64 (a0.bottom),.slice abufferA a0.buffer.length abufferc,.slice aactorsA a0.actors.length aactorsc,.slice atakenA a0.taken.length atakenc,.slice arefusedA a0.refused.length arefusedc],.slice sA a1.length sc]) Try.func10 rfl Try.ntmps10 rfl iI (fun a w E H=> ?_)
 have E:Env 42 a [(0,.agg #[.int .i64 (a0.top),.int .i64 (a0.bottom),.slice abufferA a0.buffer.length abufferc,.slice aactorsA a0.actors.length aactorsc,.slice atakenA a0.taken.length atakenc,.slice arefusedA a0.refused.length arefusedc]),(1,.slice sA a1.length sc)]:=E
 refine wp_seq (wp_region_lit ?_)
 refine xB (us:=[.int .i64 (a0.top),.int .i64 (a0.bottom),.slice abufferA a0.buffer.length abufferc,.slice aactorsA a0.actors.length aactorsc,.slice atakenA a0.taken.length atakenc,.slice arefusedA a0.refused.length arefusedc]) E rfl (E.tmp rfl) rfl H (fun a w g1 E H=> ?_)
 refine oQ E rfl Bq H (fun a w g2 E H=> ?_)
 refine wv E rfl (aK (aC _)) fun a E=>wv E rfl (aK (aC _)) fun a E=> ?_
 refine wpList_nil (aj (wp_seq (wp_block (wp_seq (wp_region_lit ?_)))))
 refine wv E rfl (fJ (us:=[.int .i64 (a0.top),.int .i64 (a0.bottom),.slice abufferA a0.buffer.length abufferc,.slice aactorsA a0.actors.length aactorsc,.slice atakenA a0.taken.length atakenc,.slice arefusedA a0.refused.length arefusedc]) (E.tmp rfl) kN gL (H.bg 1 rfl)) fun a E=> ?_
 refine dx (v:=.bool (okB a0)) E rfl (aG (E.tmp rfl) (aX)) (by kernel_rfl) (zI a0 abufferA abufferc aactorsA aactorsc atakenA atakenc arefusedA arefusedc w (abufferH.at_ H (F:=[]) (by simp)) (aactorsH.at_ H (F:=[]) (by simp)) (atakenH.at_ H (F:=[]) (by simp)) (arefusedH.at_ H (F:=[]) (by simp))) H (fun a w E H=> ?_)
 refine wv E rfl (kV (c:= !(okB a0)) (E.tmp rfl) rfl) fun a E=>va E rfl rfl fun a E=> ?_
 refine wpList_nil (aj ?_)
 rcases aU (okB a0)with ts3|ts3
 ·
  refine bH E rfl (by rw[ts3];rfl) ?_
  refine wp_seq (wp_region_lit ?_)
  refine wv E rfl (oN (pv (Gm)) (by kernel_rfl:(Instr.build 30 (List.toArray [])).run Try.prog _=.ok (.agg #[.int .i64 (0),.int .i64 (0),.slice none 0 0,.slice none 0 0,.slice none 0 0,.slice none 0 0]) _)) fun a E=> ?_
  refine jA (us:=[.int .i64 (0),.int .i64 (0),.slice none 0 0,.slice none 0 0,.slice none 0 0,.slice none 0 0]) (cs':=[.int .i64 (0),.int .i64 (0),.slice none 0 0,.slice none 0 0,.slice none 0 0,.slice none 0 0]) (rs':=[bC _ [.int .i64 (0),.int .i64 (0),.slice none 0 0,.slice none 0 0,.slice none 0 0,.slice none 0 0] _,_]) E (E.tmp rfl) (E.tmp rfl) rfl gL H (i:=0) rfl rfl rfl rfl (fun a w E H=> ?_)
  refine wv E rfl (aK (aC _)) fun a E=>wv E rfl (aK (aC _)) fun a E=> ?_
  refine wpList_nil (aj (wp_ret (iQ (bM ?_))))
  refine Dv E rfl (AL (us:=[.int .i64 (0),.int .i64 (0),.slice none 0 0,.slice none 0 0,.slice none 0 0,.slice none 0 0]) E rfl kN gL (H.bg 0 rfl)) (aY E rfl) (aY E rfl) ?_
  have H:=H.iF
  have H:=H.gP 0 1
  have H:=H.fE rfl
  have H:=H.gX
  have H:=H.gP 0 2
  have H:=H.fE rfl
  have H:=H.gX
  have H:=H.gP 0 5
  have H:=H.fE rfl
  have H:=H.gX
  have H:=H.gP 0 1
  have H:=H.fE rfl
  have H:=H.gX
  have H:=H.bU (x:=.int .i64 (0)) rfl
  have H:=H.bU (x:=.int .i64 (0)) rfl
  have H:=H.drop 1 rfl
  have H:=H.drop 1 rfl
  obtain⟨rfl,rfl,rfl⟩:r0=(⟨0,0,[],[],[],[]⟩:aQ)∧r1=0∧r2=1:=by
   simp only[gM,ts3,B1,B2,B3,B4,B5,B6,B7,B8,B9,B10,B11,dB,dD,dF]at hR
   exact IL hR
  exact⟨_,rfl,H⟩
 refine bG E rfl (by rw[ts3];rfl) ?_
 refine wp_seq ?_
 have hrk:=AY ts3
 have htk:=Jj ts3
 refine wp_region_lit ?_
 refine vm E rfl rfl fun a E=> ?_
 refine dx (v:=.bool (sF a1)) E rfl (aG (E.tmp rfl) (aX)) (by kernel_rfl) (uP a1 sc sA w (hsch.at_ H (F:=[]) (by simp))) H (fun a w E H=> ?_)
 refine wv E rfl (kV (c:= !(sF a1)) (E.tmp rfl) rfl) fun a E=>va E rfl rfl fun a E=> ?_
 refine wpList_nil (aj ?_)
 rcases aU (sF a1)with ts4|ts4
 ·
  refine bH E rfl (by rw[ts4];rfl) ?_
  refine wp_seq (wp_region_lit ?_)
  refine wv E rfl (oN (pv (Gm)) (by kernel_rfl:(Instr.build 30 (List.toArray [])).run Try.prog _=.ok (.agg #[.int .i64 (0),.int .i64 (0),.slice none 0 0,.slice none 0 0,.slice none 0 0,.slice none 0 0]) _)) fun a E=> ?_
  refine jA (us:=[.int .i64 (0),.int .i64 (0),.slice none 0 0,.slice none 0 0,.slice none 0 0,.slice none 0 0]) (cs':=[.int .i64 (0),.int .i64 (0),.slice none 0 0,.slice none 0 0,.slice none 0 0,.slice none 0 0]) (rs':=[bC _ [.int .i64 (0),.int .i64 (0),.slice none 0 0,.slice none 0 0,.slice none 0 0,.slice none 0 0] _,_]) E (E.tmp rfl) (E.tmp rfl) rfl gL H (i:=0) rfl rfl rfl rfl (fun a w E H=> ?_)
  refine wv E rfl (aK (aC _)) fun a E=>wv E rfl (aK (aC _)) fun a E=> ?_
  refine wpList_nil (aj (wp_ret (iQ (bM ?_))))
  refine Dv E rfl (AL (us:=[.int .i64 (0),.int .i64 (0),.slice none 0 0,.slice none 0 0,.slice none 0 0,.slice none 0 0]) E rfl kN gL (H.bg 0 rfl)) (aY E rfl) (aY E rfl) ?_
  have H:=H.iF
  have H:=H.gP 0 1
  have H:=H.fE rfl
  have H:=H.gX
  have H:=H.gP 0 2
  have H:=H.fE rfl
  have H:=H.gX
  have H:=H.gP 0 5
  have H:=H.fE rfl
  have H:=H.gX
  have H:=H.gP 0 1
  have H:=H.fE rfl
  have H:=H.gX
  have H:=H.bU (x:=.int .i64 (0)) rfl
  have H:=H.bU (x:=.int .i64 (0)) rfl
  have H:=H.drop 1 rfl
  have H:=H.drop 1 rfl
  obtain⟨rfl,rfl,rfl⟩:r0=(⟨0,0,[],[],[],[]⟩:aQ)∧r1=0∧r2=2:=by
   simp only[gM,ts3,ts4,B1,B2,B3,B4,B5,B6,B7,B8,B9,B10,B11,dB,dD,dF]at hR
   exact IL hR
  exact⟨_,rfl,H⟩
 refine bG E rfl (by rw[ts4];rfl) ?_
 refine wp_skip (fO (aj (wp_seq ?_)))
 have hM:=HZ (AY ts3)
 refine wp_region_lit ?_
 refine wv E rfl (fJ (us:=[.int .i64 (a0.top),.int .i64 (a0.bottom),.slice abufferA a0.buffer.length abufferc,.slice aactorsA a0.actors.length aactorsc,.slice atakenA a0.taken.length atakenc,.slice arefusedA a0.refused.length arefusedc]) (E.tmp rfl) kN gL (H.bg 1 rfl)) fun a E=> ?_
 refine dR E rfl (aG (E.tmp rfl) (aX)) Ar (uE a0 abufferA abufferc aactorsA aactorsc atakenA atakenc arefusedA arefusedc w (abufferH.at_ H (F:=[]) (by simp)) (aactorsH.at_ H (F:=[]) (by simp)) (atakenH.at_ H (F:=[]) (by simp)) (arefusedH.at_ H (F:=[]) (by simp)) (by have:=hrk.b1;omega) (by have:=hrk.r1;omega) hrk.n1 hrk.n0 (by have:=hrk.h1;omega) (fun k a h=>by have:=(hrk.acts k a h).1;omega)) ?_
 rintro _ w ⟨w5AB,w5cB,w5AA,w5cA,w5AT,w5cT,w5AR,w5cR,rfl,hI⟩
 refine⟨_,rfl,fun a E=> ?_⟩
 have H:=H.new hI
 clear hI
 obtain⟨bb,p6c,p6h⟩:=H.BS 0 rfl hrk.b0
 injection p6h with p6e p6f p6g
 revert E
 revert H
 subst p6e
 subst p6g
 intro H E
 have H:Tr.Inv w0 [] w [Gr (.slice (some ⟨bb,0,none⟩) a0.buffer.length w5cB) 2 1 a0.buffer.length (a0.buffer.flatMap au),Gr (.slice w5AA a0.actors.length w5cA) 57 5 a0.actors.length (a0.actors.flatMap ah.enc),Gr (.slice w5AT a0.taken.length w5cT) 36 2 a0.taken.length (a0.taken.flatMap ak.enc),Gr (.slice w5AR a0.refused.length w5cR) 2 1 a0.refused.length (a0.refused.flatMap au),bC g2 [.int .i64 (0),.int .i64 (0),.slice none 0 0,.slice none 0 0,.slice none 0 0,.slice none 0 0] 30,bC g1 [.int .i64 (a0.top),.int .i64 (a0.bottom),.slice abufferA a0.buffer.length abufferc,.slice aactorsA a0.actors.length aactorsc,.slice atakenA a0.taken.length atakenc,.slice arefusedA a0.refused.length arefusedc] 30]:=H
 obtain⟨rb,p7c,p7h⟩:=H.BS 1 rfl hrk.n0
 injection p7h with p7e p7f p7g
 revert E
 revert H
 subst p7e
 subst p7g
 intro H E
 have H:Tr.Inv w0 [] w [Gr (.slice (some ⟨bb,0,none⟩) a0.buffer.length w5cB) 2 1 a0.buffer.length (a0.buffer.flatMap au),Gr (.slice (some ⟨rb,0,none⟩) a0.actors.length w5cA) 57 5 a0.actors.length (a0.actors.flatMap ah.enc),Gr (.slice w5AT a0.taken.length w5cT) 36 2 a0.taken.length (a0.taken.flatMap ak.enc),Gr (.slice w5AR a0.refused.length w5cR) 2 1 a0.refused.length (a0.refused.flatMap au),bC g2 [.int .i64 (0),.int .i64 (0),.slice none 0 0,.slice none 0 0,.slice none 0 0,.slice none 0 0] 30,bC g1 [.int .i64 (a0.top),.int .i64 (a0.bottom),.slice abufferA a0.buffer.length abufferc,.slice aactorsA a0.actors.length aactorsc,.slice atakenA a0.taken.length atakenc,.slice arefusedA a0.refused.length arefusedc] 30]:=H
 refine oQ E rfl Bq H (fun a w g8 E H=> ?_)
 refine jA (us:=[.int .i64 (a0.top),.int .i64 (a0.bottom),.slice (some ⟨bb,0,none⟩) a0.buffer.length w5cB,.slice (some ⟨rb,0,none⟩) a0.actors.length w5cA,.slice w5AT a0.taken.length w5cT,.slice w5AR a0.refused.length w5cR]) (cs':=[.int .i64 (a0.top),.int .i64 (a0.bottom),.slice (some ⟨bb,0,none⟩) a0.buffer.length w5cB,.slice (some ⟨rb,0,none⟩) a0.actors.length w5cA,.slice w5AT a0.taken.length w5cT,.slice w5AR a0.refused.length w5cR]) (rs':=[bC _ [.int .i64 (a0.top),.int .i64 (a0.bottom),.slice (some ⟨bb,0,none⟩) a0.buffer.length w5cB,.slice (some ⟨rb,0,none⟩) a0.actors.length w5cA,.slice w5AT a0.taken.length w5cT,.slice w5AR a0.refused.length w5cR] _,_,_,_,_,_,_]) E (E.tmp rfl) (E.tmp rfl) rfl gL H (i:=0) rfl rfl rfl rfl (fun a w E H=> ?_)
 refine wpList_nil (aj (wp_seq (wp_region_lit ?_)))
 refine wv E rfl (aK (aC _)) fun a E=> ?_
 refine wpList_nil (aj (wp_seq (wp_seq ?_)))
 rw[show gM a0 a1=jB a1 (xG a0+1) a0 0 by simp only[gM,ts3,ts4,B1,B2,B3,B4,B5,B6,B7,B8,B9,B10,B11,dB,dD,dF]]at hR
 refine wp_region_lit ?_
 obtain⟨w10b5,w10t5⟩:=H.tC 4 rfl (by rw[bQ au 1 (fun _=>rfl)])
 obtain⟨w10b4,w10t4⟩:=H.tC 3 rfl (by rw[bQ ak.enc 2 ak.aV])
 obtain⟨w10b3,w10t3⟩:=H.tC 2 rfl (by rw[bQ ah.enc 5 ah.aV])
 obtain⟨w10b2,w10t2⟩:=H.tC 1 rfl (by rw[bQ au 1 (fun _=>rfl)])
 have w10p:eY w [] g8 0 a0.enc:=H.rop 0 rfl (TN.xP rfl (TN.xP rfl (TN.o8 w10t2 (TN.o8 w10t3 (TN.o8 w10t4 (TN.o8 w10t5 TN.done))))))
 refine dR E rfl (aG (E.tmp rfl) (aX)) Au (CP a0 g8 0 w w10p hrk.n1) ?_
 rintro _ w ⟨u9A,u9c,rfl,hI⟩
 refine⟨_,rfl,fun a E=> ?_⟩
 have H:=H.new hI
 clear hI
 refine va E rfl rfl fun a E=> ?_
 refine wpList_nil (aj (wp_block ?_))
 have H:=H.front 6 rfl
 have H:=H.front 1 rfl
 have H:=H.front 6 rfl
 have H:=H.front 6 rfl
 have H:=H.front 6 rfl
 have H:=H.front 6 rfl
 have H:=H.front 6 rfl
 have H:=H.drop 7 rfl
 refine wp_loop_ghost (fun m a w=>∃(y:aQ) (n f:Nat) (AT:Option Addr) (cT:Nat) (AR:Option Addr) (cR:Nat) (bA:Option Addr) (bc:Nat),m=f+1∧vg y∧HY y∧xG y<f∧n+f≤100000000∧(r0,r1,r2)=jB a1 f y n∧Env 42 a [(1,.slice sA a1.length sc),(4,.pointer (some ⟨g2,0,none⟩)),(7,.pointer (some ⟨g8,0,none⟩)),(8,.int .i64 (((n:Nat):Int))),(9,.slice bA ((aW y.actors y.actors.length).length) bc)]∧Tr.Inv w0 [] w [bC g8 [.int .i64 (y.top),.int .i64 (y.bottom),.slice (some ⟨bb,0,none⟩) y.buffer.length w5cB,.slice (some ⟨rb,0,none⟩) y.actors.length w5cA,.slice AT y.taken.length cT,.slice AR y.refused.length cR] 30,Gr (.slice (some ⟨bb,0,none⟩) y.buffer.length w5cB) 2 1 y.buffer.length (y.buffer.flatMap au),Gr (.slice (some ⟨rb,0,none⟩) y.actors.length w5cA) 57 5 y.actors.length (y.actors.flatMap ah.enc),Gr (.slice AT y.taken.length cT) 36 2 y.taken.length (y.taken.flatMap ak.enc),Gr (.slice AR y.refused.length cR) 2 1 y.refused.length (y.refused.flatMap au),Gr (.slice bA ((aW y.actors y.actors.length).length) bc) 2 1 ((aW y.actors y.actors.length).length) ((aW y.actors y.actors.length).flatMap au),bC g2 [.int .i64 (0),.int .i64 (0),.slice none 0 0,.slice none 0 0,.slice none 0 0,.slice none 0 0] 30]) _ ⟨a0,0,xG a0+1,_,_,_,_,_,_,rfl,hrk,htk,by omega,by omega,hR,(Env.pick E (Env.pick E (Env.pick E (Env.pick E (Env.pick E E.nil rfl) rfl) rfl) rfl) rfl),H⟩ ?_
 rintro _ a w ⟨y,n,f,AT,cT,AR,cR,bA,bc,rfl,hrk,htk,hMf,hnf,hR,E,H⟩
 obtain⟨f,rfl⟩:∃g,f=g+1:=⟨f-1,by omega⟩
 refine wp_seq (wp_seq (wp_region_lit ?_))
 refine vm E rfl rfl fun a E=> ?_
 refine wv E rfl (dM (E.tmp rfl) gJ) (fun a E=> ?_)
 refine wv E rfl (aN (E.tmp rfl) (aC _) (gF (b:=decide (0<(((aW y.actors y.actors.length).length:Nat):Int))) rfl)) fun a E=> ?_
 refine wpList_nil (aj ?_)
 rcases aU (decide (0<(((aW y.actors y.actors.length).length:Nat):Int)))with ts11|ts11
 ·
  refine bG E rfl ts11 ?_
  refine wp_exit (gQ (gQ (mO (aj (wp_seq (wp_region_lit ?_))))))
  refine wv E rfl (fJ (us:=[.int .i64 (y.top),.int .i64 (y.bottom),.slice (some ⟨bb,0,none⟩) y.buffer.length w5cB,.slice (some ⟨rb,0,none⟩) y.actors.length w5cA,.slice AT y.taken.length cT,.slice AR y.refused.length cR]) (E.tmp rfl) kN gL (H.bg 0 rfl)) fun a E=> ?_
  obtain⟨y12b,y12T⟩:=H.tC 1 rfl (by rw[bQ au 1 (fun _=>rfl)])
  obtain⟨y13b,y13T⟩:=H.tC 2 rfl (by rw[bQ ah.enc 5 ah.aV])
  obtain⟨y14b,y14T⟩:=H.tC 3 rfl (by rw[bQ ak.enc 2 ak.aV])
  obtain⟨y15b,y15T⟩:=H.tC 4 rfl (by rw[bQ au 1 (fun _=>rfl)])
  refine dR E rfl (aG (E.tmp rfl) (aX)) Ar (uE y (some ⟨bb,0,none⟩) w5cB (some ⟨rb,0,none⟩) w5cA AT cT AR cR w (dz.of y12T) (dz.of y13T) (dz.of y14T) (dz.of y15T) (by have:=hrk.b1;omega) (by have:=hrk.r1;omega) hrk.n1 hrk.n0 (by have:=hrk.h1;omega) (fun k a h=>by have:=(hrk.acts k a h).1;omega)) ?_
  rintro _ w ⟨w16AB,w16cB,w16AA,w16cA,w16AT,w16cT,w16AR,w16cR,rfl,hI⟩
  refine⟨_,rfl,fun a E=> ?_⟩
  have H:=H.new hI
  clear hI
  refine vm E rfl rfl fun a E=> ?_
  refine jA (us:=[.int .i64 (y.top),.int .i64 (y.bottom),.slice w16AB y.buffer.length w16cB,.slice w16AA y.actors.length w16cA,.slice w16AT y.taken.length w16cT,.slice w16AR y.refused.length w16cR]) (cs':=[.int .i64 (y.top),.int .i64 (y.bottom),.slice w16AB y.buffer.length w16cB,.slice w16AA y.actors.length w16cA,.slice w16AT y.taken.length w16cT,.slice w16AR y.refused.length w16cR]) (rs':=[_,_,_,_,_,_,_,_,_,_,bC _ [.int .i64 (y.top),.int .i64 (y.bottom),.slice w16AB y.buffer.length w16cB,.slice w16AA y.actors.length w16cA,.slice w16AT y.taken.length w16cT,.slice w16AR y.refused.length w16cR] _]) E (E.tmp rfl) (E.tmp rfl) rfl gL H (i:=10) rfl rfl rfl rfl (fun a w E H=> ?_)
  refine va E rfl rfl fun a E=>wv E rfl (aK (aC _)) fun a E=> ?_
  refine wpList_nil (aj (wp_ret ?_))
  refine Dv E rfl (AL (us:=[.int .i64 (y.top),.int .i64 (y.bottom),.slice w16AB y.buffer.length w16cB,.slice w16AA y.actors.length w16cA,.slice w16AT y.taken.length w16cT,.slice w16AR y.refused.length w16cR]) E rfl kN gL (H.bg 10 rfl)) (aY E rfl) (aY E rfl) ?_
  have H:=H.iF
  have H:=H.front 4 rfl
  have H:=H.fE (by rw[bQ au 1 (fun _=>rfl)])
  have H:=H.gX
  have H:=H.front 3 rfl
  have H:=H.fE (by rw[bQ ak.enc 2 ak.aV])
  have H:=H.gX
  have H:=H.front 2 rfl
  have H:=H.fE (by rw[bQ ah.enc 5 ah.aV])
  have H:=H.gX
  have H:=H.front 1 rfl
  have H:=H.fE (by rw[bQ au 1 (fun _=>rfl)])
  have H:=H.gX
  have H:=H.bU (x:=.int .i64 (y.bottom)) rfl
  have H:=H.bU (x:=.int .i64 (y.top)) rfl
  have H:=H.drop 1 rfl
  have H:=H.drop 1 rfl
  have H:=H.drop 1 rfl
  have H:=H.drop 1 rfl
  have H:=H.drop 1 rfl
  have H:=H.drop 1 rfl
  have H:=H.drop 1 rfl
  obtain⟨rfl,rfl,rfl⟩:r0=y∧r1=((n:Nat):Int)∧r2=0:=by
   rw[AV (by have h:=ts11;simp only[qP,beq_iff_eq]at h ⊢;omega)]at hR
   exact IL hR
  exact⟨_,rfl,H⟩
 refine bH E rfl ts11 ?_
 refine wp_skip (aj (wp_seq (wp_block (wp_seq (wp_seq (wp_region_lit ?_))))))
 refine vm E rfl rfl fun a E=>vm E rfl rfl fun a E=>vm E rfl rfl fun a E=> ?_
 have hL:0<(aW y.actors y.actors.length).length:=by have h:=ts11;simp only[qQ]at h;omega
 have hbne:((((aW y.actors y.actors.length).length:Nat):Int)==0)=false:=by simp only[beq_eq_false_iff_ne,ne_eq];omega
 obtain⟨q,hni⟩:∃q,nG a1 n (aW y.actors y.actors.length).length=q:=⟨_,rfl⟩
 have hql:q<(aW y.actors y.actors.length).length:=hni▸Gg hL
 obtain⟨i,ea,hbq,hil,hbx,hbt⟩:=CQ hql
 obtain⟨n0,tl,pc,tt,tb,tx,hye⟩:=EM hbt
 have hk:y.actors[i]? =some ⟨n0::tl,pc,tt,tb,tx⟩:=by rw[hbx,hye]
 have hrs:=hrk.stp hk
 obtain⟨y17b,y17T⟩:=H.tC 5 rfl (by rw[bQ au 1 (fun _=>rfl)])
 refine dx (v:=.int .i64 (((i:Nat):Int))) E rfl (aG (E.tmp rfl) (aG (E.tmp rfl) (aG (E.tmp rfl) (aX)))) (by kernel_rfl) (BG a1 (aW y.actors y.actors.length) sA bA sc bc n q ((i:Nat):Int) w (hsch.at_ H (F:=[]) (by simp)) (dz.of y17T) ts4 hL hni hbq) H (fun a w E H=> ?_)
 have H:=H.front 4 rfl
 have H:=H.front 4 rfl
 have H:=H.front 4 rfl
 have H:=H.front 4 rfl
 have H:=H.front 4 rfl
 obtain⟨q18F,q18S,q18I,q18b⟩:=Tr.Inv.frame (pre:=[bC g8 [.int .i64 (y.top),.int .i64 (y.bottom),.slice (some ⟨bb,0,none⟩) y.buffer.length w5cB,.slice (some ⟨rb,0,none⟩) y.actors.length w5cA,.slice AT y.taken.length cT,.slice AR y.refused.length cR] 30,Gr (.slice (some ⟨bb,0,none⟩) y.buffer.length w5cB) 2 1 y.buffer.length (y.buffer.flatMap au),Gr (.slice (some ⟨rb,0,none⟩) y.actors.length w5cA) 57 5 y.actors.length (y.actors.flatMap ah.enc),Gr (.slice AT y.taken.length cT) 36 2 y.taken.length (y.taken.flatMap ak.enc),Gr (.slice AR y.refused.length cR) 2 1 y.refused.length (y.refused.flatMap au)]) (rest:=[Gr (.slice bA ((aW y.actors y.actors.length).length) bc) 2 1 ((aW y.actors y.actors.length).length) ((aW y.actors y.actors.length).flatMap au),bC g2 [.int .i64 (0),.int .i64 (0),.slice none 0 0,.slice none 0 0,.slice none 0 0,.slice none 0 0] 30]) H
 obtain⟨z,hzz⟩:∃z,z=bP y i ⟨n0::tl,pc,tt,tb,tx⟩:=⟨_,rfl⟩
 have hz2z:z=bP y i ea:=by rw[hye];exact hzz
 refine dR E rfl (aG (E.tmp rfl) (aG (E.tmp rfl) (aX))) (by kernel_rfl) (Jf y g8 bb w5cB cT cR rb w5cA AT AR i n0 tl pc tt tb tx z w q18S hk hrs.1 hrk.b0 hrk.b1 (by have:=hrk.h1;omega) (by have:=hrk.r1;omega) hzz (fun h0=>htk _ _ h0 hk _ (List.mem_cons_self ..)) hrs.2.2.2) ?_
 rintro _ w ⟨q18AT,q18cT,q18AR,q18cR,rfl,hI⟩
 refine⟨_,rfl,fun a E=> ?_⟩
 have H:=q18b _ _ hI
 clear hI q18S q18I q18b
 have H:Tr.Inv w0 [] w [bC g8 [.int .i64 (z.top),.int .i64 (z.bottom),.slice (some ⟨bb,0,none⟩) y.buffer.length w5cB,.slice (some ⟨rb,0,none⟩) y.actors.length w5cA,.slice q18AT z.taken.length q18cT,.slice q18AR z.refused.length q18cR] 30,Gr (.slice (some ⟨bb,0,none⟩) y.buffer.length w5cB) 2 1 y.buffer.length (z.buffer.flatMap au),Gr (.slice (some ⟨rb,0,none⟩) y.actors.length w5cA) 57 5 y.actors.length (z.actors.flatMap ah.enc),Gr (.slice q18AT z.taken.length q18cT) 36 2 z.taken.length (z.taken.flatMap ak.enc),Gr (.slice q18AR z.refused.length q18cR) 2 1 z.refused.length (z.refused.flatMap au),Gr (.slice bA ((aW y.actors y.actors.length).length) bc) 2 1 ((aW y.actors y.actors.length).length) ((aW y.actors y.actors.length).flatMap au),bC g2 [.int .i64 (0),.int .i64 (0),.slice none 0 0,.slice none 0 0,.slice none 0 0,.slice none 0 0] 30]:=H
 have hbl:z.buffer.length=y.buffer.length:=by rw[hzz];exact(um _ _ _).1
 have hal:z.actors.length=y.actors.length:=by rw[hzz];exact(um _ _ _).2
 have H:Tr.Inv w0 [] w [bC g8 [.int .i64 (z.top),.int .i64 (z.bottom),.slice (some ⟨bb,0,none⟩) z.buffer.length w5cB,.slice (some ⟨rb,0,none⟩) z.actors.length w5cA,.slice q18AT z.taken.length q18cT,.slice q18AR z.refused.length q18cR] 30,Gr (.slice (some ⟨bb,0,none⟩) z.buffer.length w5cB) 2 1 z.buffer.length (z.buffer.flatMap au),Gr (.slice (some ⟨rb,0,none⟩) z.actors.length w5cA) 57 5 z.actors.length (z.actors.flatMap ah.enc),Gr (.slice q18AT z.taken.length q18cT) 36 2 z.taken.length (z.taken.flatMap ak.enc),Gr (.slice q18AR z.refused.length q18cR) 2 1 z.refused.length (z.refused.flatMap au),Gr (.slice bA ((aW y.actors y.actors.length).length) bc) 2 1 ((aW y.actors y.actors.length).length) ((aW y.actors y.actors.length).flatMap au),bC g2 [.int .i64 (0),.int .i64 (0),.slice none 0 0,.slice none 0 0,.slice none 0 0,.slice none 0 0] 30]:=by rw[hbl,hal];exact H
 rcases aU (dK z)with ts19|ts19
 ·
  rw[ts19,qH]at E
  have hrz:=Cn hrk hk hrs.2.1 hrs.2.2.1 (by rw[←hzz];exact ts19)
  rw[←hzz]at hrz
  refine va E rfl rfl fun a E=> ?_
  refine wpList_nil (aj (wp_seq (wp_region_lit ?_)))
  refine vm E rfl rfl fun a E=>wv E rfl (aN (E.tmp rfl) (aC _) (uD (b:=false) rfl)) fun a E=> ?_
  refine wpList_nil (aj ?_)
  refine bG E rfl rfl ?_
  refine wp_skip (aj (wp_region_lit ?_))
  refine vm E rfl rfl fun a E=>wv E rfl (aN (E.tmp rfl) (aC _) (kP (fQ (by omega)))) fun a E=>va E rfl rfl fun a E=> ?_
  refine wpList_nil (fO (aj (wp_region_lit ?_)))
  obtain⟨w21b5,w21t5⟩:=H.tC 4 rfl (by rw[bQ au 1 (fun _=>rfl)])
  obtain⟨w21b4,w21t4⟩:=H.tC 3 rfl (by rw[bQ ak.enc 2 ak.aV])
  obtain⟨w21b3,w21t3⟩:=H.tC 2 rfl (by rw[bQ ah.enc 5 ah.aV])
  obtain⟨w21b2,w21t2⟩:=H.tC 1 rfl (by rw[bQ au 1 (fun _=>rfl)])
  have w21p:eY w [] g8 0 z.enc:=H.rop 0 rfl (TN.xP rfl (TN.xP rfl (TN.o8 w21t2 (TN.o8 w21t3 (TN.o8 w21t4 (TN.o8 w21t5 TN.done))))))
  refine dR E rfl (aG (E.tmp rfl) (aX)) Au (CP z g8 0 w w21p hrz.n1) ?_
  rintro _ w ⟨u20A,u20c,rfl,hI⟩
  refine⟨_,rfl,fun a E=> ?_⟩
  have H:=H.new hI
  clear hI
  refine va E rfl rfl fun a E=> ?_
  refine wpList_nil ?_
  have H:=H.front 7 rfl
  have H:=H.front 1 rfl
  have H:=H.front 6 rfl
  have H:=H.front 6 rfl
  have H:=H.front 6 rfl
  have H:=H.front 6 rfl
  have H:=H.front 6 rfl
  have H:=H.front 6 rfl
  have H:=H.front 6 rfl
  have H:=H.front 6 rfl
  have H:=H.front 6 rfl
  have H:=H.front 6 rfl
  have H:=H.front 6 rfl
  have H:=H.front 6 rfl
  have H:=H.drop 7 rfl
  have hMn:=DZ hk hrs.2.1 hrs.2.2.1
  rw[←hzz]at hMn
  have htz:=Ey htk hk hrs.2.1 hrs.2.2.1
  rw[←hzz]at htz
  rw[uY hbne hni hbq hbx,←hz2z,ts19,qH]at hR
  exact aj ⟨_,by omega,z,n+1,f,_,_,_,_,_,_,rfl,hrz,htz,by omega,by omega,hR,(Env.pick E (Env.pick E (Env.pick E (Env.pick E (Env.pick E E.nil rfl) rfl) rfl) rfl) rfl),H⟩
 rw[ts19,qG]at E
 refine va E rfl rfl fun a E=> ?_
 refine wpList_nil (aj (wp_seq (wp_region_lit ?_)))
 refine vm E rfl rfl fun a E=>wv E rfl (aN (E.tmp rfl) (aC _) (uD (b:=true) rfl)) fun a E=> ?_
 refine wpList_nil (aj ?_)
 refine bH E rfl rfl ?_
 refine wp_seq (wp_region_lit ?_)
 refine wv E rfl (oN (pv (Gm)) (by kernel_rfl:(Instr.build 30 (List.toArray [])).run Try.prog _=.ok (.agg #[.int .i64 (0),.int .i64 (0),.slice none 0 0,.slice none 0 0,.slice none 0 0,.slice none 0 0]) _)) fun a E=>vm E rfl rfl fun a E=> ?_
 refine jA (us:=[.int .i64 (0),.int .i64 (0),.slice none 0 0,.slice none 0 0,.slice none 0 0,.slice none 0 0]) (cs':=[.int .i64 (0),.int .i64 (0),.slice none 0 0,.slice none 0 0,.slice none 0 0,.slice none 0 0]) (rs':=[_,_,_,_,_,_,bC _ [.int .i64 (0),.int .i64 (0),.slice none 0 0,.slice none 0 0,.slice none 0 0,.slice none 0 0] _]) E (E.tmp rfl) (E.tmp rfl) rfl gL H (i:=6) rfl rfl rfl rfl (fun a w E H=> ?_)
 refine wv E rfl (aK (aC _)) fun a E=>va E rfl rfl fun a E=> ?_
 refine wpList_nil (aj (wp_ret (bM (iQ (bM (bM (iQ (bM ?_))))))))
 refine Dv E rfl (AL (us:=[.int .i64 (0),.int .i64 (0),.slice none 0 0,.slice none 0 0,.slice none 0 0,.slice none 0 0]) E rfl kN gL (H.bg 6 rfl)) (aY E rfl) (aY E rfl) ?_
 have H:=H.iF
 have H:=H.gP 0 1
 have H:=H.fE rfl
 have H:=H.gX
 have H:=H.gP 0 2
 have H:=H.fE rfl
 have H:=H.gX
 have H:=H.gP 0 5
 have H:=H.fE rfl
 have H:=H.gX
 have H:=H.gP 0 1
 have H:=H.fE rfl
 have H:=H.gX
 have H:=H.bU (x:=.int .i64 (0)) rfl
 have H:=H.bU (x:=.int .i64 (0)) rfl
 have H:=H.drop 1 rfl
 have H:=H.drop 1 rfl
 have H:=H.drop 1 rfl
 have H:=H.drop 1 rfl
 have H:=H.drop 1 rfl
 have H:=H.drop 1 rfl
 have H:=H.drop 1 rfl
 obtain⟨rfl,rfl,rfl⟩:r0=(⟨0,0,[],[],[],[]⟩:aQ)∧r1=0∧r2=4:=by
  rw[uY hbne hni hbq hbx,←hz2z,ts19,qG]at hR
  exact IL hR
 exact⟨_,rfl,H⟩
end Go.Proofs.Ytjpaeopdljfjpaa
