
/- Deques. Printed by gx_dq.py. -/
import Derived.Test.YtjpaeopdljfjpaaShort
import Derived.Test.YtjpaeopdljfjpaaProg
import Derived.Test.YtjpaeopdljfjpaaSc
import Derived.Test.YtjpaeopdljfjpaaDDq
import Derived.Test.YtjpaeopdljfjpaaNet
import Derived.IntWalk
import Derived.Test.YtjpaeopdljfjpaaDq12
import Derived.Test.YtjpaeopdljfjpaaDq6
set_option linter.unusedSimpArgs false
set_option linter.unusedVariables false
namespace Go.Proofs.Ytjpaeopdljfjpaa
open Go Go.RowKit Go.Proofs Go.Tr
theorem BK:bI Try.prog 30 3=some 3:=by kernel_rfl
theorem ER:eP Try.prog 27=some false:=by kernel_rfl
theorem Fz:cO Try.prog 27=some (57,5):=by kernel_rfl
theorem BO:bI Try.prog 57 0=some 0:=by kernel_rfl
theorem rC:eP Try.prog 24=some false:=by kernel_rfl
theorem rJ:cO Try.prog 24=some (2,1):=by kernel_rfl
theorem mI:eP Try.prog 2=some false:=by kernel_rfl
theorem pV:bI Try.prog 30 0=some 0:=by kernel_rfl
theorem pW:bI Try.prog 30 1=some 1:=by kernel_rfl
theorem pY:bI Try.prog 30 4=some 4:=by kernel_rfl
theorem vw:eP Try.prog 28=some false:=by kernel_rfl
theorem vN:cO Try.prog 28=some (36,2):=by kernel_rfl
theorem p8:bI Try.prog 30 5=some 5:=by kernel_rfl
set_option maxHeartbeats 1000000 in
theorem Jf(y:aQ)(dd bb cB cT cR rb cA:Nat)(AT AR:Option Addr)(k:Nat)(n0:Int)(tl:List Int)(pc t b x:Int)(z:aQ)(w0:World){F:List Nat}(hS:Sep w0 [bC dd [.int .i64 (y.top),.int .i64 (y.bottom),.slice (some ⟨bb,0,none⟩) y.buffer.length cB,.slice (some ⟨rb,0,none⟩) y.actors.length cA,.slice AT y.taken.length cT,.slice AR y.refused.length cR] 30,Gr (.slice (some ⟨bb,0,none⟩) y.buffer.length cB) 2 1 y.buffer.length (y.buffer.flatMap au),Gr (.slice (some ⟨rb,0,none⟩) y.actors.length cA) 57 5 y.actors.length (y.actors.flatMap ah.enc),Gr (.slice AT y.taken.length cT) 36 2 y.taken.length (y.taken.flatMap ak.enc),Gr (.slice AR y.refused.length cR) 2 1 y.refused.length (y.refused.flatMap au)] F)(hk:y.actors[k]? =some ⟨n0::tl,pc,t,b,x⟩)(hl:tl.length≤1000)(hb0:0<y.buffer.length)(hb1:y.buffer.length≤1000)(ht1:y.taken.length≤100000)(hr1:y.refused.length≤100000)(hz:z=bP y k ⟨n0::tl,pc,t,b,x⟩)(hth:0<k→n0=0)(hk9:k≤1000):Calls Try.prog 33 #[.pointer (some ⟨dd,0,none⟩),.int .i64 (((k:Nat):Int))] w0 fun e w'=>∃AT' cT' AR' cR',e=.returned (.int .i64 (cond (dK z) 4 0))∧Tr.Inv w0 F w' [bC dd [.int .i64 (z.top),.int .i64 (z.bottom),.slice (some ⟨bb,0,none⟩) y.buffer.length cB,.slice (some ⟨rb,0,none⟩) y.actors.length cA,.slice AT' z.taken.length cT',.slice AR' z.refused.length cR'] 30,Gr (.slice (some ⟨bb,0,none⟩) y.buffer.length cB) 2 1 y.buffer.length (z.buffer.flatMap au),Gr (.slice (some ⟨rb,0,none⟩) y.actors.length cA) 57 5 y.actors.length (z.actors.flatMap ah.enc),Gr (.slice AT' z.taken.length cT') 36 2 z.taken.length (z.taken.flatMap ak.enc),Gr (.slice AR' z.refused.length cR') 2 1 z.refused.length (z.refused.flatMap au)]:=by
 refine bF (args:=[.pointer (some ⟨dd,0,none⟩),.int .i64 (((k:Nat):Int))]) Try.func33 rfl Try.ntmps33 rfl hS (fun a w E H=> ?_)
 have E:Env 61 a [(0,.pointer (some ⟨dd,0,none⟩)),(1,.int .i64 (((k:Nat):Int)))]:=E
 have hkl:k<y.actors.length:=(qE.1 hk).1
 have H:=H.front 2 rfl
 obtain⟨v1y,v1u,v1x,H⟩:=H.Dr (f:=ah.enc) ah.aV rfl hkl
 obtain rfl:v1y=(ah.mk (n0::tl) pc t b x):=Option.some.inj (v1x.symm.trans hk)
 replace H:=H.front 1 rfl
 obtain⟨v1A0,v1c0,v1u0,rfl,v1n0,H⟩:=H.LJ
 replace H:=H.front 1 rfl
 obtain⟨v1u1,rfl,H⟩:=H.BH
 obtain⟨v1u2,rfl,H⟩:=H.BH
 obtain⟨v1u3,rfl,H⟩:=H.BH
 obtain⟨v1u4,rfl,H⟩:=H.BH
 obtain⟨rfl,H⟩:=H.Io
 have H:Tr.Inv w0 F w [Dat (.slice v1A0 (((ah.mk (n0::tl) pc t b x)).todo.length) v1c0) (((ah.mk (n0::tl) pc t b x)).todo.length) (((ah.mk (n0::tl) pc t b x)).todo.flatMap au),cK rb cA 57 5 y.actors.length ((y.actors.take k).flatMap ah.enc) [.slice v1A0 (((ah.mk (n0::tl) pc t b x)).todo.length) v1c0,.int .i64 (((ah.mk (n0::tl) pc t b x)).pc),.int .i64 (((ah.mk (n0::tl) pc t b x)).t),.int .i64 (((ah.mk (n0::tl) pc t b x)).b),.int .i64 (((ah.mk (n0::tl) pc t b x)).x)] ((y.actors.drop (k+1)).flatMap ah.enc),bC dd [.int .i64 (y.top),.int .i64 (y.bottom),.slice (some ⟨bb,0,none⟩) y.buffer.length cB,.slice (some ⟨rb,0,none⟩) y.actors.length cA,.slice AT y.taken.length cT,.slice AR y.refused.length cR] 30,Gr (.slice (some ⟨bb,0,none⟩) y.buffer.length cB) 2 1 y.buffer.length (y.buffer.flatMap au),Gr (.slice AT y.taken.length cT) 36 2 y.taken.length (y.taken.flatMap ak.enc),Gr (.slice AR y.refused.length cR) 2 1 y.refused.length (y.refused.flatMap au)]:=H
 obtain⟨tb,to,hAtb⟩:=H.Im 0 rfl (Nat.succ_pos _)
 revert E
 revert H
 subst hAtb
 intro H E
 have H:Tr.Inv w0 F w [Dat (.slice (some ⟨tb,to,none⟩) (tl.length+1) v1c0) (tl.length+1) ((n0::tl).flatMap au),cK rb cA 57 5 y.actors.length ((y.actors.take k).flatMap ah.enc) [.slice (some ⟨tb,to,none⟩) (tl.length+1) v1c0,.int .i64 (pc),.int .i64 (t),.int .i64 (b),.int .i64 (x)] ((y.actors.drop (k+1)).flatMap ah.enc),bC dd [.int .i64 (y.top),.int .i64 (y.bottom),.slice (some ⟨bb,0,none⟩) y.buffer.length cB,.slice (some ⟨rb,0,none⟩) y.actors.length cA,.slice AT y.taken.length cT,.slice AR y.refused.length cR] 30,Gr (.slice (some ⟨bb,0,none⟩) y.buffer.length cB) 2 1 y.buffer.length (y.buffer.flatMap au),Gr (.slice AT y.taken.length cT) 36 2 y.taken.length (y.taken.flatMap ak.enc),Gr (.slice AR y.refused.length cR) 2 1 y.refused.length (y.refused.flatMap au)]:=H
 refine wp_seq (wp_region_lit ?_)
 refine wv E rfl (aK (aC _)) fun a E=> ?_
 refine wpList_nil (aj (wp_seq (wp_region_lit ?_)))
 refine vm E rfl rfl fun a E=>wv E rfl (aZ (E.tmp rfl)) fun a E=>wv E rfl (aS (o':=3) (E.tmp rfl) BK rfl) fun a E=>wv E rfl (aD (E.tmp rfl) ER (H.cell 2 rfl rfl)) fun a E=>vm E rfl rfl fun a E=> ?_
 refine wv E rfl (jX (k:=k) (o':=k*5) (E.tmp rfl) (E.tmp rfl) rfl Fz (by omega) (Nat.zero_add _)) fun a E=>va E rfl rfl fun a E=> ?_
 refine wpList_nil (aj (wp_seq (wp_block (wp_seq (wp_region_lit ?_)))))
 refine vm E rfl rfl fun a E=>wv E rfl (aZ (E.tmp rfl)) fun a E=>wv E rfl (aS (o':=k*5) (E.tmp rfl) BO rfl) fun a E=>wv E rfl (aD (E.tmp rfl) rC (H.bX 1 rfl (take_len ah.enc 5 ah.aV hkl) (j:=0) rfl)) fun a E=>wv E rfl (jX (k:=0) (o':=to) (E.tmp rfl) (aC _) rfl rJ (by omega) rfl) fun a E=> ?_
 refine wv E rfl (aD (E.tmp rfl) mI (H.vK 0 rfl rfl 0 rfl)) fun a E=>wv E rfl (aN (E.tmp rfl) (aC _) (uD (b:=n0 !=0) rfl)) fun a E=>va E rfl rfl fun a E=> ?_
 refine wpList_nil (aj ?_)
 rcases aU (n0 !=0)with ts2|ts2
 ·
  refine bG E rfl ts2 ?_
  refine wp_seq (wp_region_lit ?_)
  refine vm E rfl rfl fun a E=>wv E rfl (aN (E.tmp rfl) (aC _) (gV (b:=((k:Nat):Int)==0) rfl)) fun a E=>va E rfl rfl fun a E=> ?_
  refine wpList_nil (aj ?_)
  rcases aU (((k:Nat):Int)==0)with ts3|ts3
  ·
   refine bG E rfl ts3 ?_
   refine wp_region_lit ?_
   refine vm E rfl rfl fun a E=>vm E rfl rfl fun a E=>vm E rfl rfl fun a E=> ?_
   have H:=H.front 5 rfl
   have H:=H.front 5 rfl
   have H:=H.front 2 rfl
   have H:=H.front 3 rfl
   have H:=H.front 5 rfl
   have H:=H.front 5 rfl
   obtain⟨q4F,q4S,q4I,q4b⟩:=Tr.Inv.frame (pre:=[bC dd [.int .i64 (y.top),.int .i64 (y.bottom),.slice (some ⟨bb,0,none⟩) y.buffer.length cB,.slice (some ⟨rb,0,none⟩) y.actors.length cA,.slice AT y.taken.length cT,.slice AR y.refused.length cR] 30,Gr (.slice (some ⟨bb,0,none⟩) y.buffer.length cB) 2 1 y.buffer.length (y.buffer.flatMap au),cK rb cA 57 5 y.actors.length ((y.actors.take k).flatMap ah.enc) [.slice (some ⟨tb,to,none⟩) (tl.length+1) v1c0,.int .i64 (pc),.int .i64 (t),.int .i64 (b),.int .i64 (x)] ((y.actors.drop (k+1)).flatMap ah.enc),Dat (.slice (some ⟨tb,to,none⟩) (tl.length+1) v1c0) (tl.length+1) ((n0::tl).flatMap au),Gr (.slice AT y.taken.length cT) 36 2 y.taken.length (y.taken.flatMap ak.enc),Gr (.slice AR y.refused.length cR) 2 1 y.refused.length (y.refused.flatMap au)]) (rest:=[]) H
   obtain⟨z1,v,hzv⟩:∃z1 v,(z1,v)=iO y ⟨n0::tl,pc,t,b,x⟩ ((k:Nat):Int):=⟨_,_,rfl⟩
   refine dR E rfl (aG (E.tmp rfl) (aG (E.tmp rfl) (aG (E.tmp rfl) (aX)))) (by kernel_rfl) (Gy y dd bb cB cT cR AT AR rb cA y.actors.length k tb to v1c0 n0 tl pc t b x ((y.actors.take k).flatMap ah.enc) ((y.actors.drop (k+1)).flatMap ah.enc) z1 v w q4S (take_len ah.enc 5 ah.aV hkl) hl hb0 hb1 ht1 hr1 hzv hkl) ?_
   rintro _ w ⟨AT',cT',AR',cR',At',ct',rfl,hI⟩
   refine⟨_,rfl,fun a E=> ?_⟩
   have H:=q4b _ _ hI
   clear hI q4S q4I q4b
   have H:Tr.Inv w0 F w [bC dd [.int .i64 (z1.top),.int .i64 (z1.bottom),.slice (some ⟨bb,0,none⟩) y.buffer.length cB,.slice (some ⟨rb,0,none⟩) y.actors.length cA,.slice AT' z1.taken.length cT',.slice AR' z1.refused.length cR'] 30,Gr (.slice (some ⟨bb,0,none⟩) y.buffer.length cB) 2 1 y.buffer.length (z1.buffer.flatMap au),cK rb cA 57 5 y.actors.length ((y.actors.take k).flatMap ah.enc) [.slice At' v.todo.length ct',.int .i64 (v.pc),.int .i64 (v.t),.int .i64 (v.b),.int .i64 (v.x)] ((y.actors.drop (k+1)).flatMap ah.enc),Dat (.slice At' v.todo.length ct') v.todo.length (v.todo.flatMap au),Gr (.slice AT' z1.taken.length cT') 36 2 z1.taken.length (z1.taken.flatMap ak.enc),Gr (.slice AR' z1.refused.length cR') 2 1 z1.refused.length (z1.refused.flatMap au)]:=H
   refine wpList_nil (fO (aj (wp_seq (wp_seq ?_))))
   refine ji (fun a w=>Env 61 a [(4,.int .i64 (0)),(60,.bool ((decide (1000<z1.top))||((decide (1000<z1.bottom))||((decide (1000<((z1.taken.length:Nat):Int)))||(decide (1000<((z1.refused.length:Nat):Int)))))))]∧Tr.Inv w0 F w [bC dd [.int .i64 (z1.top),.int .i64 (z1.bottom),.slice (some ⟨bb,0,none⟩) y.buffer.length cB,.slice (some ⟨rb,0,none⟩) y.actors.length cA,.slice AT' z1.taken.length cT',.slice AR' z1.refused.length cR'] 30,Gr (.slice (some ⟨bb,0,none⟩) y.buffer.length cB) 2 1 y.buffer.length (z1.buffer.flatMap au),cK rb cA 57 5 y.actors.length ((y.actors.take k).flatMap ah.enc) [.slice At' v.todo.length ct',.int .i64 (v.pc),.int .i64 (v.t),.int .i64 (v.b),.int .i64 (v.x)] ((y.actors.drop (k+1)).flatMap ah.enc),Dat (.slice At' v.todo.length ct') v.todo.length (v.todo.flatMap au),Gr (.slice AT' z1.taken.length cT') 36 2 z1.taken.length (z1.taken.flatMap ak.enc),Gr (.slice AR' z1.refused.length cR') 2 1 z1.refused.length (z1.refused.flatMap au)]) ?_ (fun a w hj=> ?_)
   ·
    refine wp_region_lit ?_
    refine vm E rfl rfl fun a E=>wv E rfl (aZ (E.tmp rfl)) fun a E=>wv E rfl (aS (o':=0) (E.tmp rfl) pV rfl) fun a E=>wv E rfl (aD (E.tmp rfl) mI (H.cell 0 rfl rfl)) fun a E=>wv E rfl (aN (E.tmp rfl) (aC _) (gF (b:=decide (1000<z1.top)) rfl)) fun a E=> ?_
    refine vm E rfl rfl fun a E=> ?_
    rcases aU (decide (1000<z1.top))with ts5|ts5
    ·
     refine bE E rfl rfl rfl ts5 ?_
     refine vm E rfl rfl fun a E=> ?_
     refine bE E rfl rfl rfl ts5 ?_
     refine wv E rfl (aZ (E.tmp rfl)) fun a E=> ?_
     refine bE E rfl rfl rfl ts5 ?_
     refine wv E rfl (aS (o':=1) (E.tmp rfl) pW rfl) fun a E=> ?_
     refine bE E rfl rfl rfl ts5 ?_
     refine wv E rfl (aD (E.tmp rfl) mI (H.cell 0 rfl rfl)) fun a E=> ?_
     refine bE E rfl rfl rfl ts5 ?_
     refine wv E rfl (aN (E.tmp rfl) (aC _) (gF (b:=decide (1000<z1.bottom)) rfl)) fun a E=>wv E rfl (aJ ((E.tmp rfl).trans (congrArg Value.bool ts5)) (E.tmp rfl)) fun a E=>vm E rfl rfl fun a E=> ?_
     rcases aU (decide (1000<z1.bottom))with ts6|ts6
     ·
      refine bE E rfl rfl rfl ts6 ?_
      refine vm E rfl rfl fun a E=> ?_
      refine bE E rfl rfl rfl ts6 ?_
      refine wv E rfl (aZ (E.tmp rfl)) fun a E=> ?_
      refine bE E rfl rfl rfl ts6 ?_
      refine wv E rfl (aS (o':=4) (E.tmp rfl) pY rfl) fun a E=> ?_
      refine bE E rfl rfl rfl ts6 ?_
      refine wv E rfl (aD (E.tmp rfl) vw (H.cell 0 rfl rfl)) fun a E=> ?_
      refine bE E rfl rfl rfl ts6 ?_
      refine wv E rfl (dM (E.tmp rfl) vN) (fun a E=> ?_)
      refine bE E rfl rfl rfl ts6 ?_
      refine wv E rfl (aN (E.tmp rfl) (aC _) (gF (b:=decide (1000<((z1.taken.length:Nat):Int))) rfl)) fun a E=>wv E rfl (aJ ((E.tmp rfl).trans (congrArg Value.bool ts6)) (E.tmp rfl)) fun a E=>vm E rfl rfl fun a E=> ?_
      rcases aU (decide (1000<((z1.taken.length:Nat):Int)))with ts7|ts7
      ·
       refine bE E rfl rfl rfl ts7 ?_
       refine vm E rfl rfl fun a E=> ?_
       refine bE E rfl rfl rfl ts7 ?_
       refine wv E rfl (aZ (E.tmp rfl)) fun a E=> ?_
       refine bE E rfl rfl rfl ts7 ?_
       refine wv E rfl (aS (o':=5) (E.tmp rfl) p8 rfl) fun a E=> ?_
       refine bE E rfl rfl rfl ts7 ?_
       refine wv E rfl (aD (E.tmp rfl) rC (H.cell 0 rfl rfl)) fun a E=> ?_
       refine bE E rfl rfl rfl ts7 ?_
       refine wv E rfl (dM (E.tmp rfl) rJ) (fun a E=> ?_)
       refine bE E rfl rfl rfl ts7 ?_
       refine wv E rfl (aN (E.tmp rfl) (aC _) (gF (b:=decide (1000<((z1.refused.length:Nat):Int))) rfl)) fun a E=>wv E rfl (aJ ((E.tmp rfl).trans (congrArg Value.bool ts7)) (E.tmp rfl)) fun a E=> ?_
       refine wpList_nil ?_
       have ej8:((decide (1000<z1.top))||((decide (1000<z1.bottom))||((decide (1000<((z1.taken.length:Nat):Int)))||(decide (1000<((z1.refused.length:Nat):Int))))))=(decide (1000<((z1.refused.length:Nat):Int))):=by simp only[ts5,ts6,ts7,B1,B2,B3,B4,B5,B6,B7,B8,B9,B10,B11,dB,dD,dF]
       exact⟨rfl,by rw[ej8];exact(Env.pick E (Env.pick E E.nil rfl) rfl),H⟩
      refine bJ (c:=true) E rfl rfl rfl rfl ts7 rfl fun a E=> ?_
      refine bJ (c:=true) E rfl rfl rfl rfl ts7 rfl fun a E=> ?_
      refine bJ (c:=true) E rfl rfl rfl rfl ts7 rfl fun a E=> ?_
      refine bJ (c:=true) E rfl rfl rfl rfl ts7 rfl fun a E=> ?_
      refine bJ (c:=true) E rfl rfl rfl rfl ts7 rfl fun a E=> ?_
      refine bJ (c:=true) E rfl rfl rfl rfl ts7 rfl fun a E=> ?_
      refine wv E rfl (aL ((E.tmp rfl).trans (congrArg Value.bool ts7)) (aC _)) fun a E=> ?_
      refine wpList_nil ?_
      have ej9:((decide (1000<z1.top))||((decide (1000<z1.bottom))||((decide (1000<((z1.taken.length:Nat):Int)))||(decide (1000<((z1.refused.length:Nat):Int))))))=true:=by simp only[ts5,ts6,ts7,B1,B2,B3,B4,B5,B6,B7,B8,B9,B10,B11,dB,dD,dF]
      exact⟨rfl,by rw[ej9];exact(Env.pick E (Env.pick E E.nil rfl) rfl),H⟩
     refine bJ (c:=true) E rfl rfl rfl rfl ts6 rfl fun a E=> ?_
     refine bJ (c:=true) E rfl rfl rfl rfl ts6 rfl fun a E=> ?_
     refine bJ (c:=true) E rfl rfl rfl rfl ts6 rfl fun a E=> ?_
     refine bJ (c:=true) E rfl rfl rfl rfl ts6 rfl fun a E=> ?_
     refine bJ (c:=true) E rfl rfl rfl rfl ts6 rfl fun a E=> ?_
     refine bJ (c:=true) E rfl rfl rfl rfl ts6 rfl fun a E=> ?_
     refine wv E rfl (aL ((E.tmp rfl).trans (congrArg Value.bool ts6)) (aC _)) fun a E=>vm E rfl rfl fun a E=>wn E rfl rfl rfl rfl rfl fun a E=>wn E rfl rfl rfl rfl rfl fun a E=>wn E rfl rfl rfl rfl rfl fun a E=> ?_
     refine wn E rfl rfl rfl rfl rfl fun a E=>wn E rfl rfl rfl rfl rfl fun a E=>wn E rfl rfl rfl rfl rfl fun a E=>wv E rfl (aL (E.tmp rfl) (aC _)) fun a E=> ?_
     refine wpList_nil ?_
     have ej10:((decide (1000<z1.top))||((decide (1000<z1.bottom))||((decide (1000<((z1.taken.length:Nat):Int)))||(decide (1000<((z1.refused.length:Nat):Int))))))=true:=by simp only[ts5,ts6,B1,B2,B3,B4,B5,B6,B7,B8,B9,B10,B11,dB,dD,dF]
     exact⟨rfl,by rw[ej10];exact(Env.pick E (Env.pick E E.nil rfl) rfl),H⟩
    refine bJ (c:=true) E rfl rfl rfl rfl ts5 rfl fun a E=> ?_
    refine bJ (c:=true) E rfl rfl rfl rfl ts5 rfl fun a E=> ?_
    refine bJ (c:=true) E rfl rfl rfl rfl ts5 rfl fun a E=> ?_
    refine bJ (c:=true) E rfl rfl rfl rfl ts5 rfl fun a E=> ?_
    refine bJ (c:=true) E rfl rfl rfl rfl ts5 rfl fun a E=> ?_
    refine wv E rfl (aL ((E.tmp rfl).trans (congrArg Value.bool ts5)) (aC _)) fun a E=>vm E rfl rfl fun a E=>wn E rfl rfl rfl rfl rfl fun a E=>wn E rfl rfl rfl rfl rfl fun a E=>wn E rfl rfl rfl rfl rfl fun a E=> ?_
    refine wn E rfl rfl rfl rfl rfl fun a E=>wn E rfl rfl rfl rfl rfl fun a E=>wn E rfl rfl rfl rfl rfl fun a E=>wv E rfl (aL (E.tmp rfl) (aC _)) fun a E=>vm E rfl rfl fun a E=> ?_
    refine wn E rfl rfl rfl rfl rfl fun a E=>wn E rfl rfl rfl rfl rfl fun a E=>wn E rfl rfl rfl rfl rfl fun a E=>wn E rfl rfl rfl rfl rfl fun a E=>wn E rfl rfl rfl rfl rfl fun a E=> ?_
    refine wn E rfl rfl rfl rfl rfl fun a E=>wv E rfl (aL (E.tmp rfl) (aC _)) fun a E=> ?_
    refine wpList_nil ?_
    have ej11:((decide (1000<z1.top))||((decide (1000<z1.bottom))||((decide (1000<((z1.taken.length:Nat):Int)))||(decide (1000<((z1.refused.length:Nat):Int))))))=true:=by simp only[ts5,B1,B2,B3,B4,B5,B6,B7,B8,B9,B10,B11,dB,dD,dF]
    exact⟨rfl,by rw[ej11];exact(Env.pick E (Env.pick E E.nil rfl) rfl),H⟩
   obtain⟨E,H⟩:=hj
   refine aj ?_
   rcases aU ((decide (1000<z1.top))||((decide (1000<z1.bottom))||((decide (1000<((z1.taken.length:Nat):Int)))||(decide (1000<((z1.refused.length:Nat):Int))))))with ts12|ts12
   ·
    obtain⟨ts13,ts14⟩:=lC ts12
    obtain⟨ts15,ts16⟩:=lC ts14
    obtain⟨ts17,ts18⟩:=lC ts16
    refine bG E rfl ts12 ?_
    refine wp_skip (aj (wp_seq (wp_region_lit ?_)))
    refine wv E rfl (aK (aC _)) fun a E=> ?_
    refine wpList_nil (aj (wp_ret ?_))
    refine bB E rfl (aY E rfl) ?_
    have H:=H.iF
    have H:=H.bU (x:=.int .i64 (v.x)) rfl
    have H:=H.bU (x:=.int .i64 (v.b)) rfl
    have H:=H.bU (x:=.int .i64 (v.t)) rfl
    have H:=H.bU (x:=.int .i64 (v.pc)) rfl
    have H:=H.front 4 rfl
    have H:=H.gX
    have H:=H.front 3 rfl
    have H:=Tr.Inv.jG (f:=ah.enc) (y:=v) H hkl
    have H:Tr.Inv w0 F w [Gr (.slice (some ⟨rb,0,none⟩) y.actors.length cA) 57 5 y.actors.length ((y.actors.set k v).flatMap ah.enc),bC dd [.int .i64 (z1.top),.int .i64 (z1.bottom),.slice (some ⟨bb,0,none⟩) y.buffer.length cB,.slice (some ⟨rb,0,none⟩) y.actors.length cA,.slice AT' z1.taken.length cT',.slice AR' z1.refused.length cR'] 30,Gr (.slice (some ⟨bb,0,none⟩) y.buffer.length cB) 2 1 y.buffer.length (z1.buffer.flatMap au),Gr (.slice AT' z1.taken.length cT') 36 2 z1.taken.length (z1.taken.flatMap ak.enc),Gr (.slice AR' z1.refused.length cR') 2 1 z1.refused.length (z1.refused.flatMap au)]:=H
    have e2:(n0==0)=true:=by have h:=ts2;simpa using h
    have e1:decide ((0:Int)<((k:Nat):Int))=true:=by have h:=ts3;simp at h ⊢;omega
    simp only[bP,jV,List.headD_cons,ts2,ts3,←hzv,ts13,ts15,ts17,ts18,e1,e2,B1,B2,B3,B4,B5,B6,B7,B8,B9,B10,B11,dB,dD,dF]at hz
    have hcode:cond (dK z) (4:Int) 0=0:=by rw[hz];simp only[dK,ts2,ts3,←hzv,ts13,ts15,ts17,ts18,e1,e2,B1,B2,B3,B4,B5,B6,B7,B8,B9,B10,B11,dB,dD,dF]
    rw[hcode]
    clear hcode
    subst hz
    have H:=H.front 4 rfl
    have H:=H.front 4 rfl
    have H:=H.front 2 rfl
    have H:=H.front 4 rfl
    have H:=H.front 4 rfl
    exact⟨_,_,_,_,rfl,H⟩
   refine bH E rfl ts12 ?_
   refine wp_seq (wp_region_lit ?_)
   refine wv E rfl (aK (aC _)) fun a E=> ?_
   refine wpList_nil (aj (wp_ret (bM ?_)))
   refine bB E rfl (aY E rfl) ?_
   rcases iY ts12 with ts19|⟨ts19,ts20⟩
   ·
    have H:=H.iF
    have H:=H.bU (x:=.int .i64 (v.x)) rfl
    have H:=H.bU (x:=.int .i64 (v.b)) rfl
    have H:=H.bU (x:=.int .i64 (v.t)) rfl
    have H:=H.bU (x:=.int .i64 (v.pc)) rfl
    have H:=H.front 4 rfl
    have H:=H.gX
    have H:=H.front 3 rfl
    have H:=Tr.Inv.jG (f:=ah.enc) (y:=v) H hkl
    have H:Tr.Inv w0 F w [Gr (.slice (some ⟨rb,0,none⟩) y.actors.length cA) 57 5 y.actors.length ((y.actors.set k v).flatMap ah.enc),bC dd [.int .i64 (z1.top),.int .i64 (z1.bottom),.slice (some ⟨bb,0,none⟩) y.buffer.length cB,.slice (some ⟨rb,0,none⟩) y.actors.length cA,.slice AT' z1.taken.length cT',.slice AR' z1.refused.length cR'] 30,Gr (.slice (some ⟨bb,0,none⟩) y.buffer.length cB) 2 1 y.buffer.length (z1.buffer.flatMap au),Gr (.slice AT' z1.taken.length cT') 36 2 z1.taken.length (z1.taken.flatMap ak.enc),Gr (.slice AR' z1.refused.length cR') 2 1 z1.refused.length (z1.refused.flatMap au)]:=H
    have e2:(n0==0)=true:=by have h:=ts2;simpa using h
    have e1:decide ((0:Int)<((k:Nat):Int))=true:=by have h:=ts3;simp at h ⊢;omega
    simp only[bP,jV,List.headD_cons,ts2,ts3,←hzv,ts19,e1,e2,B1,B2,B3,B4,B5,B6,B7,B8,B9,B10,B11,dB,dD,dF]at hz
    have hcode:cond (dK z) (4:Int) 0=4:=by rw[hz];simp only[dK,ts2,ts3,←hzv,ts19,e1,e2,B1,B2,B3,B4,B5,B6,B7,B8,B9,B10,B11,dB,dD,dF]
    rw[hcode]
    clear hcode
    subst hz
    have H:=H.front 4 rfl
    have H:=H.front 4 rfl
    have H:=H.front 2 rfl
    have H:=H.front 4 rfl
    have H:=H.front 4 rfl
    exact⟨_,_,_,_,rfl,H⟩
   rcases iY ts20 with ts21|⟨ts21,ts22⟩
   ·
    have H:=H.iF
    have H:=H.bU (x:=.int .i64 (v.x)) rfl
    have H:=H.bU (x:=.int .i64 (v.b)) rfl
    have H:=H.bU (x:=.int .i64 (v.t)) rfl
    have H:=H.bU (x:=.int .i64 (v.pc)) rfl
    have H:=H.front 4 rfl
    have H:=H.gX
    have H:=H.front 3 rfl
    have H:=Tr.Inv.jG (f:=ah.enc) (y:=v) H hkl
    have H:Tr.Inv w0 F w [Gr (.slice (some ⟨rb,0,none⟩) y.actors.length cA) 57 5 y.actors.length ((y.actors.set k v).flatMap ah.enc),bC dd [.int .i64 (z1.top),.int .i64 (z1.bottom),.slice (some ⟨bb,0,none⟩) y.buffer.length cB,.slice (some ⟨rb,0,none⟩) y.actors.length cA,.slice AT' z1.taken.length cT',.slice AR' z1.refused.length cR'] 30,Gr (.slice (some ⟨bb,0,none⟩) y.buffer.length cB) 2 1 y.buffer.length (z1.buffer.flatMap au),Gr (.slice AT' z1.taken.length cT') 36 2 z1.taken.length (z1.taken.flatMap ak.enc),Gr (.slice AR' z1.refused.length cR') 2 1 z1.refused.length (z1.refused.flatMap au)]:=H
    have e2:(n0==0)=true:=by have h:=ts2;simpa using h
    have e1:decide ((0:Int)<((k:Nat):Int))=true:=by have h:=ts3;simp at h ⊢;omega
    simp only[bP,jV,List.headD_cons,ts2,ts3,←hzv,ts19,ts21,e1,e2,B1,B2,B3,B4,B5,B6,B7,B8,B9,B10,B11,dB,dD,dF]at hz
    have hcode:cond (dK z) (4:Int) 0=4:=by rw[hz];simp only[dK,ts2,ts3,←hzv,ts19,ts21,e1,e2,B1,B2,B3,B4,B5,B6,B7,B8,B9,B10,B11,dB,dD,dF]
    rw[hcode]
    clear hcode
    subst hz
    have H:=H.front 4 rfl
    have H:=H.front 4 rfl
    have H:=H.front 2 rfl
    have H:=H.front 4 rfl
    have H:=H.front 4 rfl
    exact⟨_,_,_,_,rfl,H⟩
   rcases iY ts22 with ts23|⟨ts23,ts24⟩
   ·
    have H:=H.iF
    have H:=H.bU (x:=.int .i64 (v.x)) rfl
    have H:=H.bU (x:=.int .i64 (v.b)) rfl
    have H:=H.bU (x:=.int .i64 (v.t)) rfl
    have H:=H.bU (x:=.int .i64 (v.pc)) rfl
    have H:=H.front 4 rfl
    have H:=H.gX
    have H:=H.front 3 rfl
    have H:=Tr.Inv.jG (f:=ah.enc) (y:=v) H hkl
    have H:Tr.Inv w0 F w [Gr (.slice (some ⟨rb,0,none⟩) y.actors.length cA) 57 5 y.actors.length ((y.actors.set k v).flatMap ah.enc),bC dd [.int .i64 (z1.top),.int .i64 (z1.bottom),.slice (some ⟨bb,0,none⟩) y.buffer.length cB,.slice (some ⟨rb,0,none⟩) y.actors.length cA,.slice AT' z1.taken.length cT',.slice AR' z1.refused.length cR'] 30,Gr (.slice (some ⟨bb,0,none⟩) y.buffer.length cB) 2 1 y.buffer.length (z1.buffer.flatMap au),Gr (.slice AT' z1.taken.length cT') 36 2 z1.taken.length (z1.taken.flatMap ak.enc),Gr (.slice AR' z1.refused.length cR') 2 1 z1.refused.length (z1.refused.flatMap au)]:=H
    have e2:(n0==0)=true:=by have h:=ts2;simpa using h
    have e1:decide ((0:Int)<((k:Nat):Int))=true:=by have h:=ts3;simp at h ⊢;omega
    simp only[bP,jV,List.headD_cons,ts2,ts3,←hzv,ts19,ts21,ts23,e1,e2,B1,B2,B3,B4,B5,B6,B7,B8,B9,B10,B11,dB,dD,dF]at hz
    have hcode:cond (dK z) (4:Int) 0=4:=by rw[hz];simp only[dK,ts2,ts3,←hzv,ts19,ts21,ts23,e1,e2,B1,B2,B3,B4,B5,B6,B7,B8,B9,B10,B11,dB,dD,dF]
    rw[hcode]
    clear hcode
    subst hz
    have H:=H.front 4 rfl
    have H:=H.front 4 rfl
    have H:=H.front 2 rfl
    have H:=H.front 4 rfl
    have H:=H.front 4 rfl
    exact⟨_,_,_,_,rfl,H⟩
   have H:=H.iF
   have H:=H.bU (x:=.int .i64 (v.x)) rfl
   have H:=H.bU (x:=.int .i64 (v.b)) rfl
   have H:=H.bU (x:=.int .i64 (v.t)) rfl
   have H:=H.bU (x:=.int .i64 (v.pc)) rfl
   have H:=H.front 4 rfl
   have H:=H.gX
   have H:=H.front 3 rfl
   have H:=Tr.Inv.jG (f:=ah.enc) (y:=v) H hkl
   have H:Tr.Inv w0 F w [Gr (.slice (some ⟨rb,0,none⟩) y.actors.length cA) 57 5 y.actors.length ((y.actors.set k v).flatMap ah.enc),bC dd [.int .i64 (z1.top),.int .i64 (z1.bottom),.slice (some ⟨bb,0,none⟩) y.buffer.length cB,.slice (some ⟨rb,0,none⟩) y.actors.length cA,.slice AT' z1.taken.length cT',.slice AR' z1.refused.length cR'] 30,Gr (.slice (some ⟨bb,0,none⟩) y.buffer.length cB) 2 1 y.buffer.length (z1.buffer.flatMap au),Gr (.slice AT' z1.taken.length cT') 36 2 z1.taken.length (z1.taken.flatMap ak.enc),Gr (.slice AR' z1.refused.length cR') 2 1 z1.refused.length (z1.refused.flatMap au)]:=H
   have e2:(n0==0)=true:=by have h:=ts2;simpa using h
   have e1:decide ((0:Int)<((k:Nat):Int))=true:=by have h:=ts3;simp at h ⊢;omega
   simp only[bP,jV,List.headD_cons,ts2,ts3,←hzv,ts19,ts21,ts23,ts24,e1,e2,B1,B2,B3,B4,B5,B6,B7,B8,B9,B10,B11,dB,dD,dF]at hz
   have hcode:cond (dK z) (4:Int) 0=4:=by rw[hz];simp only[dK,ts2,ts3,←hzv,ts19,ts21,ts23,ts24,e1,e2,B1,B2,B3,B4,B5,B6,B7,B8,B9,B10,B11,dB,dD,dF]
   rw[hcode]
   clear hcode
   subst hz
   have H:=H.front 4 rfl
   have H:=H.front 4 rfl
   have H:=H.front 2 rfl
   have H:=H.front 4 rfl
   have H:=H.front 4 rfl
   exact⟨_,_,_,_,rfl,H⟩
  refine bH E rfl ts3 ?_
  refine wp_region_lit ?_
  refine vm E rfl rfl fun a E=>vm E rfl rfl fun a E=> ?_
  have H:=H.front 5 rfl
  have H:=H.front 5 rfl
  have H:=H.front 2 rfl
  have H:=H.front 3 rfl
  have H:=H.front 5 rfl
  have H:=H.front 5 rfl
  obtain⟨q25F,q25S,q25I,q25b⟩:=Tr.Inv.frame (pre:=[bC dd [.int .i64 (y.top),.int .i64 (y.bottom),.slice (some ⟨bb,0,none⟩) y.buffer.length cB,.slice (some ⟨rb,0,none⟩) y.actors.length cA,.slice AT y.taken.length cT,.slice AR y.refused.length cR] 30,Gr (.slice (some ⟨bb,0,none⟩) y.buffer.length cB) 2 1 y.buffer.length (y.buffer.flatMap au),cK rb cA 57 5 y.actors.length ((y.actors.take k).flatMap ah.enc) [.slice (some ⟨tb,to,none⟩) (tl.length+1) v1c0,.int .i64 (pc),.int .i64 (t),.int .i64 (b),.int .i64 (x)] ((y.actors.drop (k+1)).flatMap ah.enc),Dat (.slice (some ⟨tb,to,none⟩) (tl.length+1) v1c0) (tl.length+1) ((n0::tl).flatMap au),Gr (.slice AT y.taken.length cT) 36 2 y.taken.length (y.taken.flatMap ak.enc),Gr (.slice AR y.refused.length cR) 2 1 y.refused.length (y.refused.flatMap au)]) (rest:=[]) H
  obtain⟨z1,v,hzv⟩:∃z1 v,(z1,v)=ku y ⟨n0::tl,pc,t,b,x⟩:=⟨_,_,rfl⟩
  refine dR E rfl (aG (E.tmp rfl) (aG (E.tmp rfl) (aX))) (by kernel_rfl) (Ji y dd bb cB cT cR AT AR rb cA y.actors.length k tb to v1c0 n0 tl pc t b x ((y.actors.take k).flatMap ah.enc) ((y.actors.drop (k+1)).flatMap ah.enc) z1 v w q25S (take_len ah.enc 5 ah.aV hkl) hl hb0 hb1 ht1 hr1 hzv hkl (by have h:=ts3;simpa using h)) ?_
  rintro _ w ⟨AT',cT',AR',cR',At',ct',rfl,hI⟩
  refine⟨_,rfl,fun a E=> ?_⟩
  have H:=q25b _ _ hI
  clear hI q25S q25I q25b
  have H:Tr.Inv w0 F w [bC dd [.int .i64 (z1.top),.int .i64 (z1.bottom),.slice (some ⟨bb,0,none⟩) y.buffer.length cB,.slice (some ⟨rb,0,none⟩) y.actors.length cA,.slice AT' z1.taken.length cT',.slice AR' z1.refused.length cR'] 30,Gr (.slice (some ⟨bb,0,none⟩) y.buffer.length cB) 2 1 y.buffer.length (z1.buffer.flatMap au),cK rb cA 57 5 y.actors.length ((y.actors.take k).flatMap ah.enc) [.slice At' v.todo.length ct',.int .i64 (v.pc),.int .i64 (v.t),.int .i64 (v.b),.int .i64 (v.x)] ((y.actors.drop (k+1)).flatMap ah.enc),Dat (.slice At' v.todo.length ct') v.todo.length (v.todo.flatMap au),Gr (.slice AT' z1.taken.length cT') 36 2 z1.taken.length (z1.taken.flatMap ak.enc),Gr (.slice AR' z1.refused.length cR') 2 1 z1.refused.length (z1.refused.flatMap au)]:=H
  refine wpList_nil (fO (aj (wp_seq (wp_seq ?_))))
  refine ji (fun a w=>Env 61 a [(4,.int .i64 (0)),(60,.bool ((decide (1000<z1.top))||((decide (1000<z1.bottom))||((decide (1000<((z1.taken.length:Nat):Int)))||(decide (1000<((z1.refused.length:Nat):Int)))))))]∧Tr.Inv w0 F w [bC dd [.int .i64 (z1.top),.int .i64 (z1.bottom),.slice (some ⟨bb,0,none⟩) y.buffer.length cB,.slice (some ⟨rb,0,none⟩) y.actors.length cA,.slice AT' z1.taken.length cT',.slice AR' z1.refused.length cR'] 30,Gr (.slice (some ⟨bb,0,none⟩) y.buffer.length cB) 2 1 y.buffer.length (z1.buffer.flatMap au),cK rb cA 57 5 y.actors.length ((y.actors.take k).flatMap ah.enc) [.slice At' v.todo.length ct',.int .i64 (v.pc),.int .i64 (v.t),.int .i64 (v.b),.int .i64 (v.x)] ((y.actors.drop (k+1)).flatMap ah.enc),Dat (.slice At' v.todo.length ct') v.todo.length (v.todo.flatMap au),Gr (.slice AT' z1.taken.length cT') 36 2 z1.taken.length (z1.taken.flatMap ak.enc),Gr (.slice AR' z1.refused.length cR') 2 1 z1.refused.length (z1.refused.flatMap au)]) ?_ (fun a w hj=> ?_)
  ·
   refine wp_region_lit ?_
   refine vm E rfl rfl fun a E=>wv E rfl (aZ (E.tmp rfl)) fun a E=>wv E rfl (aS (o':=0) (E.tmp rfl) pV rfl) fun a E=>wv E rfl (aD (E.tmp rfl) mI (H.cell 0 rfl rfl)) fun a E=>wv E rfl (aN (E.tmp rfl) (aC _) (gF (b:=decide (1000<z1.top)) rfl)) fun a E=> ?_
   refine vm E rfl rfl fun a E=> ?_
   rcases aU (decide (1000<z1.top))with ts26|ts26
   ·
    refine bE E rfl rfl rfl ts26 ?_
    refine vm E rfl rfl fun a E=> ?_
    refine bE E rfl rfl rfl ts26 ?_
    refine wv E rfl (aZ (E.tmp rfl)) fun a E=> ?_
    refine bE E rfl rfl rfl ts26 ?_
    refine wv E rfl (aS (o':=1) (E.tmp rfl) pW rfl) fun a E=> ?_
    refine bE E rfl rfl rfl ts26 ?_
    refine wv E rfl (aD (E.tmp rfl) mI (H.cell 0 rfl rfl)) fun a E=> ?_
    refine bE E rfl rfl rfl ts26 ?_
    refine wv E rfl (aN (E.tmp rfl) (aC _) (gF (b:=decide (1000<z1.bottom)) rfl)) fun a E=>wv E rfl (aJ ((E.tmp rfl).trans (congrArg Value.bool ts26)) (E.tmp rfl)) fun a E=>vm E rfl rfl fun a E=> ?_
    rcases aU (decide (1000<z1.bottom))with ts27|ts27
    ·
     refine bE E rfl rfl rfl ts27 ?_
     refine vm E rfl rfl fun a E=> ?_
     refine bE E rfl rfl rfl ts27 ?_
     refine wv E rfl (aZ (E.tmp rfl)) fun a E=> ?_
     refine bE E rfl rfl rfl ts27 ?_
     refine wv E rfl (aS (o':=4) (E.tmp rfl) pY rfl) fun a E=> ?_
     refine bE E rfl rfl rfl ts27 ?_
     refine wv E rfl (aD (E.tmp rfl) vw (H.cell 0 rfl rfl)) fun a E=> ?_
     refine bE E rfl rfl rfl ts27 ?_
     refine wv E rfl (dM (E.tmp rfl) vN) (fun a E=> ?_)
     refine bE E rfl rfl rfl ts27 ?_
     refine wv E rfl (aN (E.tmp rfl) (aC _) (gF (b:=decide (1000<((z1.taken.length:Nat):Int))) rfl)) fun a E=>wv E rfl (aJ ((E.tmp rfl).trans (congrArg Value.bool ts27)) (E.tmp rfl)) fun a E=>vm E rfl rfl fun a E=> ?_
     rcases aU (decide (1000<((z1.taken.length:Nat):Int)))with ts28|ts28
     ·
      refine bE E rfl rfl rfl ts28 ?_
      refine vm E rfl rfl fun a E=> ?_
      refine bE E rfl rfl rfl ts28 ?_
      refine wv E rfl (aZ (E.tmp rfl)) fun a E=> ?_
      refine bE E rfl rfl rfl ts28 ?_
      refine wv E rfl (aS (o':=5) (E.tmp rfl) p8 rfl) fun a E=> ?_
      refine bE E rfl rfl rfl ts28 ?_
      refine wv E rfl (aD (E.tmp rfl) rC (H.cell 0 rfl rfl)) fun a E=> ?_
      refine bE E rfl rfl rfl ts28 ?_
      refine wv E rfl (dM (E.tmp rfl) rJ) (fun a E=> ?_)
      refine bE E rfl rfl rfl ts28 ?_
      refine wv E rfl (aN (E.tmp rfl) (aC _) (gF (b:=decide (1000<((z1.refused.length:Nat):Int))) rfl)) fun a E=>wv E rfl (aJ ((E.tmp rfl).trans (congrArg Value.bool ts28)) (E.tmp rfl)) fun a E=> ?_
      refine wpList_nil ?_
      have ej29:((decide (1000<z1.top))||((decide (1000<z1.bottom))||((decide (1000<((z1.taken.length:Nat):Int)))||(decide (1000<((z1.refused.length:Nat):Int))))))=(decide (1000<((z1.refused.length:Nat):Int))):=by simp only[ts26,ts27,ts28,B1,B2,B3,B4,B5,B6,B7,B8,B9,B10,B11,dB,dD,dF]
      exact⟨rfl,by rw[ej29];exact(Env.pick E (Env.pick E E.nil rfl) rfl),H⟩
     refine bJ (c:=true) E rfl rfl rfl rfl ts28 rfl fun a E=> ?_
     refine bJ (c:=true) E rfl rfl rfl rfl ts28 rfl fun a E=> ?_
     refine bJ (c:=true) E rfl rfl rfl rfl ts28 rfl fun a E=> ?_
     refine bJ (c:=true) E rfl rfl rfl rfl ts28 rfl fun a E=> ?_
     refine bJ (c:=true) E rfl rfl rfl rfl ts28 rfl fun a E=> ?_
     refine bJ (c:=true) E rfl rfl rfl rfl ts28 rfl fun a E=> ?_
     refine wv E rfl (aL ((E.tmp rfl).trans (congrArg Value.bool ts28)) (aC _)) fun a E=> ?_
     refine wpList_nil ?_
     have ej30:((decide (1000<z1.top))||((decide (1000<z1.bottom))||((decide (1000<((z1.taken.length:Nat):Int)))||(decide (1000<((z1.refused.length:Nat):Int))))))=true:=by simp only[ts26,ts27,ts28,B1,B2,B3,B4,B5,B6,B7,B8,B9,B10,B11,dB,dD,dF]
     exact⟨rfl,by rw[ej30];exact(Env.pick E (Env.pick E E.nil rfl) rfl),H⟩
    refine bJ (c:=true) E rfl rfl rfl rfl ts27 rfl fun a E=> ?_
    refine bJ (c:=true) E rfl rfl rfl rfl ts27 rfl fun a E=> ?_
    refine bJ (c:=true) E rfl rfl rfl rfl ts27 rfl fun a E=> ?_
    refine bJ (c:=true) E rfl rfl rfl rfl ts27 rfl fun a E=> ?_
    refine bJ (c:=true) E rfl rfl rfl rfl ts27 rfl fun a E=> ?_
    refine bJ (c:=true) E rfl rfl rfl rfl ts27 rfl fun a E=> ?_
    refine wv E rfl (aL ((E.tmp rfl).trans (congrArg Value.bool ts27)) (aC _)) fun a E=>vm E rfl rfl fun a E=>wn E rfl rfl rfl rfl rfl fun a E=>wn E rfl rfl rfl rfl rfl fun a E=>wn E rfl rfl rfl rfl rfl fun a E=> ?_
    refine wn E rfl rfl rfl rfl rfl fun a E=>wn E rfl rfl rfl rfl rfl fun a E=>wn E rfl rfl rfl rfl rfl fun a E=>wv E rfl (aL (E.tmp rfl) (aC _)) fun a E=> ?_
    refine wpList_nil ?_
    have ej31:((decide (1000<z1.top))||((decide (1000<z1.bottom))||((decide (1000<((z1.taken.length:Nat):Int)))||(decide (1000<((z1.refused.length:Nat):Int))))))=true:=by simp only[ts26,ts27,B1,B2,B3,B4,B5,B6,B7,B8,B9,B10,B11,dB,dD,dF]
    exact⟨rfl,by rw[ej31];exact(Env.pick E (Env.pick E E.nil rfl) rfl),H⟩
   refine bJ (c:=true) E rfl rfl rfl rfl ts26 rfl fun a E=> ?_
   refine bJ (c:=true) E rfl rfl rfl rfl ts26 rfl fun a E=> ?_
   refine bJ (c:=true) E rfl rfl rfl rfl ts26 rfl fun a E=> ?_
   refine bJ (c:=true) E rfl rfl rfl rfl ts26 rfl fun a E=> ?_
   refine bJ (c:=true) E rfl rfl rfl rfl ts26 rfl fun a E=> ?_
   refine wv E rfl (aL ((E.tmp rfl).trans (congrArg Value.bool ts26)) (aC _)) fun a E=>vm E rfl rfl fun a E=>wn E rfl rfl rfl rfl rfl fun a E=>wn E rfl rfl rfl rfl rfl fun a E=>wn E rfl rfl rfl rfl rfl fun a E=> ?_
   refine wn E rfl rfl rfl rfl rfl fun a E=>wn E rfl rfl rfl rfl rfl fun a E=>wn E rfl rfl rfl rfl rfl fun a E=>wv E rfl (aL (E.tmp rfl) (aC _)) fun a E=>vm E rfl rfl fun a E=> ?_
   refine wn E rfl rfl rfl rfl rfl fun a E=>wn E rfl rfl rfl rfl rfl fun a E=>wn E rfl rfl rfl rfl rfl fun a E=>wn E rfl rfl rfl rfl rfl fun a E=>wn E rfl rfl rfl rfl rfl fun a E=> ?_
   refine wn E rfl rfl rfl rfl rfl fun a E=>wv E rfl (aL (E.tmp rfl) (aC _)) fun a E=> ?_
   refine wpList_nil ?_
   have ej32:((decide (1000<z1.top))||((decide (1000<z1.bottom))||((decide (1000<((z1.taken.length:Nat):Int)))||(decide (1000<((z1.refused.length:Nat):Int))))))=true:=by simp only[ts26,B1,B2,B3,B4,B5,B6,B7,B8,B9,B10,B11,dB,dD,dF]
   exact⟨rfl,by rw[ej32];exact(Env.pick E (Env.pick E E.nil rfl) rfl),H⟩
  obtain⟨E,H⟩:=hj
  refine aj ?_
  rcases aU ((decide (1000<z1.top))||((decide (1000<z1.bottom))||((decide (1000<((z1.taken.length:Nat):Int)))||(decide (1000<((z1.refused.length:Nat):Int))))))with ts33|ts33
  ·
   obtain⟨ts34,ts35⟩:=lC ts33
   obtain⟨ts36,ts37⟩:=lC ts35
   obtain⟨ts38,ts39⟩:=lC ts37
   refine bG E rfl ts33 ?_
   refine wp_skip (aj (wp_seq (wp_region_lit ?_)))
   refine wv E rfl (aK (aC _)) fun a E=> ?_
   refine wpList_nil (aj (wp_ret ?_))
   refine bB E rfl (aY E rfl) ?_
   have H:=H.iF
   have H:=H.bU (x:=.int .i64 (v.x)) rfl
   have H:=H.bU (x:=.int .i64 (v.b)) rfl
   have H:=H.bU (x:=.int .i64 (v.t)) rfl
   have H:=H.bU (x:=.int .i64 (v.pc)) rfl
   have H:=H.front 4 rfl
   have H:=H.gX
   have H:=H.front 3 rfl
   have H:=Tr.Inv.jG (f:=ah.enc) (y:=v) H hkl
   have H:Tr.Inv w0 F w [Gr (.slice (some ⟨rb,0,none⟩) y.actors.length cA) 57 5 y.actors.length ((y.actors.set k v).flatMap ah.enc),bC dd [.int .i64 (z1.top),.int .i64 (z1.bottom),.slice (some ⟨bb,0,none⟩) y.buffer.length cB,.slice (some ⟨rb,0,none⟩) y.actors.length cA,.slice AT' z1.taken.length cT',.slice AR' z1.refused.length cR'] 30,Gr (.slice (some ⟨bb,0,none⟩) y.buffer.length cB) 2 1 y.buffer.length (z1.buffer.flatMap au),Gr (.slice AT' z1.taken.length cT') 36 2 z1.taken.length (z1.taken.flatMap ak.enc),Gr (.slice AR' z1.refused.length cR') 2 1 z1.refused.length (z1.refused.flatMap au)]:=H
   have e2:(n0==0)=true:=by have h:=ts2;simpa using h
   have e1:decide ((0:Int)<((k:Nat):Int))=false:=by have h:=ts3;simp at h ⊢;omega
   simp only[bP,jV,List.headD_cons,ts2,ts3,←hzv,ts34,ts36,ts38,ts39,e1,e2,B1,B2,B3,B4,B5,B6,B7,B8,B9,B10,B11,dB,dD,dF]at hz
   have hcode:cond (dK z) (4:Int) 0=0:=by rw[hz];simp only[dK,ts2,ts3,←hzv,ts34,ts36,ts38,ts39,e1,e2,B1,B2,B3,B4,B5,B6,B7,B8,B9,B10,B11,dB,dD,dF]
   rw[hcode]
   clear hcode
   subst hz
   have H:=H.front 4 rfl
   have H:=H.front 4 rfl
   have H:=H.front 2 rfl
   have H:=H.front 4 rfl
   have H:=H.front 4 rfl
   exact⟨_,_,_,_,rfl,H⟩
  refine bH E rfl ts33 ?_
  refine wp_seq (wp_region_lit ?_)
  refine wv E rfl (aK (aC _)) fun a E=> ?_
  refine wpList_nil (aj (wp_ret (bM ?_)))
  refine bB E rfl (aY E rfl) ?_
  rcases iY ts33 with ts40|⟨ts40,ts41⟩
  ·
   have H:=H.iF
   have H:=H.bU (x:=.int .i64 (v.x)) rfl
   have H:=H.bU (x:=.int .i64 (v.b)) rfl
   have H:=H.bU (x:=.int .i64 (v.t)) rfl
   have H:=H.bU (x:=.int .i64 (v.pc)) rfl
   have H:=H.front 4 rfl
   have H:=H.gX
   have H:=H.front 3 rfl
   have H:=Tr.Inv.jG (f:=ah.enc) (y:=v) H hkl
   have H:Tr.Inv w0 F w [Gr (.slice (some ⟨rb,0,none⟩) y.actors.length cA) 57 5 y.actors.length ((y.actors.set k v).flatMap ah.enc),bC dd [.int .i64 (z1.top),.int .i64 (z1.bottom),.slice (some ⟨bb,0,none⟩) y.buffer.length cB,.slice (some ⟨rb,0,none⟩) y.actors.length cA,.slice AT' z1.taken.length cT',.slice AR' z1.refused.length cR'] 30,Gr (.slice (some ⟨bb,0,none⟩) y.buffer.length cB) 2 1 y.buffer.length (z1.buffer.flatMap au),Gr (.slice AT' z1.taken.length cT') 36 2 z1.taken.length (z1.taken.flatMap ak.enc),Gr (.slice AR' z1.refused.length cR') 2 1 z1.refused.length (z1.refused.flatMap au)]:=H
   have e2:(n0==0)=true:=by have h:=ts2;simpa using h
   have e1:decide ((0:Int)<((k:Nat):Int))=false:=by have h:=ts3;simp at h ⊢;omega
   simp only[bP,jV,List.headD_cons,ts2,ts3,←hzv,ts40,e1,e2,B1,B2,B3,B4,B5,B6,B7,B8,B9,B10,B11,dB,dD,dF]at hz
   have hcode:cond (dK z) (4:Int) 0=4:=by rw[hz];simp only[dK,ts2,ts3,←hzv,ts40,e1,e2,B1,B2,B3,B4,B5,B6,B7,B8,B9,B10,B11,dB,dD,dF]
   rw[hcode]
   clear hcode
   subst hz
   have H:=H.front 4 rfl
   have H:=H.front 4 rfl
   have H:=H.front 2 rfl
   have H:=H.front 4 rfl
   have H:=H.front 4 rfl
   exact⟨_,_,_,_,rfl,H⟩
  rcases iY ts41 with ts42|⟨ts42,ts43⟩
  ·
   have H:=H.iF
   have H:=H.bU (x:=.int .i64 (v.x)) rfl
   have H:=H.bU (x:=.int .i64 (v.b)) rfl
   have H:=H.bU (x:=.int .i64 (v.t)) rfl
   have H:=H.bU (x:=.int .i64 (v.pc)) rfl
   have H:=H.front 4 rfl
   have H:=H.gX
   have H:=H.front 3 rfl
   have H:=Tr.Inv.jG (f:=ah.enc) (y:=v) H hkl
   have H:Tr.Inv w0 F w [Gr (.slice (some ⟨rb,0,none⟩) y.actors.length cA) 57 5 y.actors.length ((y.actors.set k v).flatMap ah.enc),bC dd [.int .i64 (z1.top),.int .i64 (z1.bottom),.slice (some ⟨bb,0,none⟩) y.buffer.length cB,.slice (some ⟨rb,0,none⟩) y.actors.length cA,.slice AT' z1.taken.length cT',.slice AR' z1.refused.length cR'] 30,Gr (.slice (some ⟨bb,0,none⟩) y.buffer.length cB) 2 1 y.buffer.length (z1.buffer.flatMap au),Gr (.slice AT' z1.taken.length cT') 36 2 z1.taken.length (z1.taken.flatMap ak.enc),Gr (.slice AR' z1.refused.length cR') 2 1 z1.refused.length (z1.refused.flatMap au)]:=H
   have e2:(n0==0)=true:=by have h:=ts2;simpa using h
   have e1:decide ((0:Int)<((k:Nat):Int))=false:=by have h:=ts3;simp at h ⊢;omega
   simp only[bP,jV,List.headD_cons,ts2,ts3,←hzv,ts40,ts42,e1,e2,B1,B2,B3,B4,B5,B6,B7,B8,B9,B10,B11,dB,dD,dF]at hz
   have hcode:cond (dK z) (4:Int) 0=4:=by rw[hz];simp only[dK,ts2,ts3,←hzv,ts40,ts42,e1,e2,B1,B2,B3,B4,B5,B6,B7,B8,B9,B10,B11,dB,dD,dF]
   rw[hcode]
   clear hcode
   subst hz
   have H:=H.front 4 rfl
   have H:=H.front 4 rfl
   have H:=H.front 2 rfl
   have H:=H.front 4 rfl
   have H:=H.front 4 rfl
   exact⟨_,_,_,_,rfl,H⟩
  rcases iY ts43 with ts44|⟨ts44,ts45⟩
  ·
   have H:=H.iF
   have H:=H.bU (x:=.int .i64 (v.x)) rfl
   have H:=H.bU (x:=.int .i64 (v.b)) rfl
   have H:=H.bU (x:=.int .i64 (v.t)) rfl
   have H:=H.bU (x:=.int .i64 (v.pc)) rfl
   have H:=H.front 4 rfl
   have H:=H.gX
   have H:=H.front 3 rfl
   have H:=Tr.Inv.jG (f:=ah.enc) (y:=v) H hkl
   have H:Tr.Inv w0 F w [Gr (.slice (some ⟨rb,0,none⟩) y.actors.length cA) 57 5 y.actors.length ((y.actors.set k v).flatMap ah.enc),bC dd [.int .i64 (z1.top),.int .i64 (z1.bottom),.slice (some ⟨bb,0,none⟩) y.buffer.length cB,.slice (some ⟨rb,0,none⟩) y.actors.length cA,.slice AT' z1.taken.length cT',.slice AR' z1.refused.length cR'] 30,Gr (.slice (some ⟨bb,0,none⟩) y.buffer.length cB) 2 1 y.buffer.length (z1.buffer.flatMap au),Gr (.slice AT' z1.taken.length cT') 36 2 z1.taken.length (z1.taken.flatMap ak.enc),Gr (.slice AR' z1.refused.length cR') 2 1 z1.refused.length (z1.refused.flatMap au)]:=H
   have e2:(n0==0)=true:=by have h:=ts2;simpa using h
   have e1:decide ((0:Int)<((k:Nat):Int))=false:=by have h:=ts3;simp at h ⊢;omega
   simp only[bP,jV,List.headD_cons,ts2,ts3,←hzv,ts40,ts42,ts44,e1,e2,B1,B2,B3,B4,B5,B6,B7,B8,B9,B10,B11,dB,dD,dF]at hz
   have hcode:cond (dK z) (4:Int) 0=4:=by rw[hz];simp only[dK,ts2,ts3,←hzv,ts40,ts42,ts44,e1,e2,B1,B2,B3,B4,B5,B6,B7,B8,B9,B10,B11,dB,dD,dF]
   rw[hcode]
   clear hcode
   subst hz
   have H:=H.front 4 rfl
   have H:=H.front 4 rfl
   have H:=H.front 2 rfl
   have H:=H.front 4 rfl
   have H:=H.front 4 rfl
   exact⟨_,_,_,_,rfl,H⟩
  have H:=H.iF
  have H:=H.bU (x:=.int .i64 (v.x)) rfl
  have H:=H.bU (x:=.int .i64 (v.b)) rfl
  have H:=H.bU (x:=.int .i64 (v.t)) rfl
  have H:=H.bU (x:=.int .i64 (v.pc)) rfl
  have H:=H.front 4 rfl
  have H:=H.gX
  have H:=H.front 3 rfl
  have H:=Tr.Inv.jG (f:=ah.enc) (y:=v) H hkl
  have H:Tr.Inv w0 F w [Gr (.slice (some ⟨rb,0,none⟩) y.actors.length cA) 57 5 y.actors.length ((y.actors.set k v).flatMap ah.enc),bC dd [.int .i64 (z1.top),.int .i64 (z1.bottom),.slice (some ⟨bb,0,none⟩) y.buffer.length cB,.slice (some ⟨rb,0,none⟩) y.actors.length cA,.slice AT' z1.taken.length cT',.slice AR' z1.refused.length cR'] 30,Gr (.slice (some ⟨bb,0,none⟩) y.buffer.length cB) 2 1 y.buffer.length (z1.buffer.flatMap au),Gr (.slice AT' z1.taken.length cT') 36 2 z1.taken.length (z1.taken.flatMap ak.enc),Gr (.slice AR' z1.refused.length cR') 2 1 z1.refused.length (z1.refused.flatMap au)]:=H
  have e2:(n0==0)=true:=by have h:=ts2;simpa using h
  have e1:decide ((0:Int)<((k:Nat):Int))=false:=by have h:=ts3;simp at h ⊢;omega
  simp only[bP,jV,List.headD_cons,ts2,ts3,←hzv,ts40,ts42,ts44,ts45,e1,e2,B1,B2,B3,B4,B5,B6,B7,B8,B9,B10,B11,dB,dD,dF]at hz
  have hcode:cond (dK z) (4:Int) 0=4:=by rw[hz];simp only[dK,ts2,ts3,←hzv,ts40,ts42,ts44,ts45,e1,e2,B1,B2,B3,B4,B5,B6,B7,B8,B9,B10,B11,dB,dD,dF]
  rw[hcode]
  clear hcode
  subst hz
  have H:=H.front 4 rfl
  have H:=H.front 4 rfl
  have H:=H.front 2 rfl
  have H:=H.front 4 rfl
  have H:=H.front 4 rfl
  exact⟨_,_,_,_,rfl,H⟩
 refine bH E rfl ts2 ?_
 refine wp_region_lit ?_
 refine vm E rfl rfl fun a E=>vm E rfl rfl fun a E=> ?_
 have H:=H.front 5 rfl
 have H:=H.front 5 rfl
 have H:=H.front 2 rfl
 have H:=H.front 3 rfl
 have H:=H.front 5 rfl
 have H:=H.front 5 rfl
 obtain⟨q46F,q46S,q46I,q46b⟩:=Tr.Inv.frame (pre:=[bC dd [.int .i64 (y.top),.int .i64 (y.bottom),.slice (some ⟨bb,0,none⟩) y.buffer.length cB,.slice (some ⟨rb,0,none⟩) y.actors.length cA,.slice AT y.taken.length cT,.slice AR y.refused.length cR] 30,Gr (.slice (some ⟨bb,0,none⟩) y.buffer.length cB) 2 1 y.buffer.length (y.buffer.flatMap au),cK rb cA 57 5 y.actors.length ((y.actors.take k).flatMap ah.enc) [.slice (some ⟨tb,to,none⟩) (tl.length+1) v1c0,.int .i64 (pc),.int .i64 (t),.int .i64 (b),.int .i64 (x)] ((y.actors.drop (k+1)).flatMap ah.enc),Dat (.slice (some ⟨tb,to,none⟩) (tl.length+1) v1c0) (tl.length+1) ((n0::tl).flatMap au),Gr (.slice AT y.taken.length cT) 36 2 y.taken.length (y.taken.flatMap ak.enc),Gr (.slice AR y.refused.length cR) 2 1 y.refused.length (y.refused.flatMap au)]) (rest:=[]) H
 obtain⟨z1,v,hzv⟩:∃z1 v,(z1,v)=l8 y ⟨n0::tl,pc,t,b,x⟩:=⟨_,_,rfl⟩
 refine dR E rfl (aG (E.tmp rfl) (aG (E.tmp rfl) (aX))) (by kernel_rfl) (I4 y dd bb cB cT cR AT AR rb cA y.actors.length k tb to v1c0 n0 tl pc t b x ((y.actors.take k).flatMap ah.enc) ((y.actors.drop (k+1)).flatMap ah.enc) z1 v w q46S (take_len ah.enc 5 ah.aV hkl) hl hb0 hb1 ht1 hr1 hzv) ?_
 rintro _ w ⟨AT',cT',AR',cR',At',ct',rfl,hI⟩
 refine⟨_,rfl,fun a E=> ?_⟩
 have H:=q46b _ _ hI
 clear hI q46S q46I q46b
 have H:Tr.Inv w0 F w [bC dd [.int .i64 (z1.top),.int .i64 (z1.bottom),.slice (some ⟨bb,0,none⟩) y.buffer.length cB,.slice (some ⟨rb,0,none⟩) y.actors.length cA,.slice AT' z1.taken.length cT',.slice AR' z1.refused.length cR'] 30,Gr (.slice (some ⟨bb,0,none⟩) y.buffer.length cB) 2 1 y.buffer.length (z1.buffer.flatMap au),cK rb cA 57 5 y.actors.length ((y.actors.take k).flatMap ah.enc) [.slice At' v.todo.length ct',.int .i64 (v.pc),.int .i64 (v.t),.int .i64 (v.b),.int .i64 (v.x)] ((y.actors.drop (k+1)).flatMap ah.enc),Dat (.slice At' v.todo.length ct') v.todo.length (v.todo.flatMap au),Gr (.slice AT' z1.taken.length cT') 36 2 z1.taken.length (z1.taken.flatMap ak.enc),Gr (.slice AR' z1.refused.length cR') 2 1 z1.refused.length (z1.refused.flatMap au)]:=H
 refine wpList_nil (fO (aj (wp_seq (wp_seq ?_))))
 refine ji (fun a w=>Env 61 a [(4,.int .i64 (0)),(60,.bool ((decide (1000<z1.top))||((decide (1000<z1.bottom))||((decide (1000<((z1.taken.length:Nat):Int)))||(decide (1000<((z1.refused.length:Nat):Int)))))))]∧Tr.Inv w0 F w [bC dd [.int .i64 (z1.top),.int .i64 (z1.bottom),.slice (some ⟨bb,0,none⟩) y.buffer.length cB,.slice (some ⟨rb,0,none⟩) y.actors.length cA,.slice AT' z1.taken.length cT',.slice AR' z1.refused.length cR'] 30,Gr (.slice (some ⟨bb,0,none⟩) y.buffer.length cB) 2 1 y.buffer.length (z1.buffer.flatMap au),cK rb cA 57 5 y.actors.length ((y.actors.take k).flatMap ah.enc) [.slice At' v.todo.length ct',.int .i64 (v.pc),.int .i64 (v.t),.int .i64 (v.b),.int .i64 (v.x)] ((y.actors.drop (k+1)).flatMap ah.enc),Dat (.slice At' v.todo.length ct') v.todo.length (v.todo.flatMap au),Gr (.slice AT' z1.taken.length cT') 36 2 z1.taken.length (z1.taken.flatMap ak.enc),Gr (.slice AR' z1.refused.length cR') 2 1 z1.refused.length (z1.refused.flatMap au)]) ?_ (fun a w hj=> ?_)
 ·
  refine wp_region_lit ?_
  refine vm E rfl rfl fun a E=>wv E rfl (aZ (E.tmp rfl)) fun a E=>wv E rfl (aS (o':=0) (E.tmp rfl) pV rfl) fun a E=>wv E rfl (aD (E.tmp rfl) mI (H.cell 0 rfl rfl)) fun a E=>wv E rfl (aN (E.tmp rfl) (aC _) (gF (b:=decide (1000<z1.top)) rfl)) fun a E=> ?_
  refine vm E rfl rfl fun a E=> ?_
  rcases aU (decide (1000<z1.top))with ts47|ts47
  ·
   refine bE E rfl rfl rfl ts47 ?_
   refine vm E rfl rfl fun a E=> ?_
   refine bE E rfl rfl rfl ts47 ?_
   refine wv E rfl (aZ (E.tmp rfl)) fun a E=> ?_
   refine bE E rfl rfl rfl ts47 ?_
   refine wv E rfl (aS (o':=1) (E.tmp rfl) pW rfl) fun a E=> ?_
   refine bE E rfl rfl rfl ts47 ?_
   refine wv E rfl (aD (E.tmp rfl) mI (H.cell 0 rfl rfl)) fun a E=> ?_
   refine bE E rfl rfl rfl ts47 ?_
   refine wv E rfl (aN (E.tmp rfl) (aC _) (gF (b:=decide (1000<z1.bottom)) rfl)) fun a E=>wv E rfl (aJ ((E.tmp rfl).trans (congrArg Value.bool ts47)) (E.tmp rfl)) fun a E=>vm E rfl rfl fun a E=> ?_
   rcases aU (decide (1000<z1.bottom))with ts48|ts48
   ·
    refine bE E rfl rfl rfl ts48 ?_
    refine vm E rfl rfl fun a E=> ?_
    refine bE E rfl rfl rfl ts48 ?_
    refine wv E rfl (aZ (E.tmp rfl)) fun a E=> ?_
    refine bE E rfl rfl rfl ts48 ?_
    refine wv E rfl (aS (o':=4) (E.tmp rfl) pY rfl) fun a E=> ?_
    refine bE E rfl rfl rfl ts48 ?_
    refine wv E rfl (aD (E.tmp rfl) vw (H.cell 0 rfl rfl)) fun a E=> ?_
    refine bE E rfl rfl rfl ts48 ?_
    refine wv E rfl (dM (E.tmp rfl) vN) (fun a E=> ?_)
    refine bE E rfl rfl rfl ts48 ?_
    refine wv E rfl (aN (E.tmp rfl) (aC _) (gF (b:=decide (1000<((z1.taken.length:Nat):Int))) rfl)) fun a E=>wv E rfl (aJ ((E.tmp rfl).trans (congrArg Value.bool ts48)) (E.tmp rfl)) fun a E=>vm E rfl rfl fun a E=> ?_
    rcases aU (decide (1000<((z1.taken.length:Nat):Int)))with ts49|ts49
    ·
     refine bE E rfl rfl rfl ts49 ?_
     refine vm E rfl rfl fun a E=> ?_
     refine bE E rfl rfl rfl ts49 ?_
     refine wv E rfl (aZ (E.tmp rfl)) fun a E=> ?_
     refine bE E rfl rfl rfl ts49 ?_
     refine wv E rfl (aS (o':=5) (E.tmp rfl) p8 rfl) fun a E=> ?_
     refine bE E rfl rfl rfl ts49 ?_
     refine wv E rfl (aD (E.tmp rfl) rC (H.cell 0 rfl rfl)) fun a E=> ?_
     refine bE E rfl rfl rfl ts49 ?_
     refine wv E rfl (dM (E.tmp rfl) rJ) (fun a E=> ?_)
     refine bE E rfl rfl rfl ts49 ?_
     refine wv E rfl (aN (E.tmp rfl) (aC _) (gF (b:=decide (1000<((z1.refused.length:Nat):Int))) rfl)) fun a E=>wv E rfl (aJ ((E.tmp rfl).trans (congrArg Value.bool ts49)) (E.tmp rfl)) fun a E=> ?_
     refine wpList_nil ?_
     have ej50:((decide (1000<z1.top))||((decide (1000<z1.bottom))||((decide (1000<((z1.taken.length:Nat):Int)))||(decide (1000<((z1.refused.length:Nat):Int))))))=(decide (1000<((z1.refused.length:Nat):Int))):=by simp only[ts47,ts48,ts49,B1,B2,B3,B4,B5,B6,B7,B8,B9,B10,B11,dB,dD,dF]
     exact⟨rfl,by rw[ej50];exact(Env.pick E (Env.pick E E.nil rfl) rfl),H⟩
    refine bJ (c:=true) E rfl rfl rfl rfl ts49 rfl fun a E=> ?_
    refine bJ (c:=true) E rfl rfl rfl rfl ts49 rfl fun a E=> ?_
    refine bJ (c:=true) E rfl rfl rfl rfl ts49 rfl fun a E=> ?_
    refine bJ (c:=true) E rfl rfl rfl rfl ts49 rfl fun a E=> ?_
    refine bJ (c:=true) E rfl rfl rfl rfl ts49 rfl fun a E=> ?_
    refine bJ (c:=true) E rfl rfl rfl rfl ts49 rfl fun a E=> ?_
    refine wv E rfl (aL ((E.tmp rfl).trans (congrArg Value.bool ts49)) (aC _)) fun a E=> ?_
    refine wpList_nil ?_
    have ej51:((decide (1000<z1.top))||((decide (1000<z1.bottom))||((decide (1000<((z1.taken.length:Nat):Int)))||(decide (1000<((z1.refused.length:Nat):Int))))))=true:=by simp only[ts47,ts48,ts49,B1,B2,B3,B4,B5,B6,B7,B8,B9,B10,B11,dB,dD,dF]
    exact⟨rfl,by rw[ej51];exact(Env.pick E (Env.pick E E.nil rfl) rfl),H⟩
   refine bJ (c:=true) E rfl rfl rfl rfl ts48 rfl fun a E=> ?_
   refine bJ (c:=true) E rfl rfl rfl rfl ts48 rfl fun a E=> ?_
   refine bJ (c:=true) E rfl rfl rfl rfl ts48 rfl fun a E=> ?_
   refine bJ (c:=true) E rfl rfl rfl rfl ts48 rfl fun a E=> ?_
   refine bJ (c:=true) E rfl rfl rfl rfl ts48 rfl fun a E=> ?_
   refine bJ (c:=true) E rfl rfl rfl rfl ts48 rfl fun a E=> ?_
   refine wv E rfl (aL ((E.tmp rfl).trans (congrArg Value.bool ts48)) (aC _)) fun a E=>vm E rfl rfl fun a E=>wn E rfl rfl rfl rfl rfl fun a E=>wn E rfl rfl rfl rfl rfl fun a E=>wn E rfl rfl rfl rfl rfl fun a E=> ?_
   refine wn E rfl rfl rfl rfl rfl fun a E=>wn E rfl rfl rfl rfl rfl fun a E=>wn E rfl rfl rfl rfl rfl fun a E=>wv E rfl (aL (E.tmp rfl) (aC _)) fun a E=> ?_
   refine wpList_nil ?_
   have ej52:((decide (1000<z1.top))||((decide (1000<z1.bottom))||((decide (1000<((z1.taken.length:Nat):Int)))||(decide (1000<((z1.refused.length:Nat):Int))))))=true:=by simp only[ts47,ts48,B1,B2,B3,B4,B5,B6,B7,B8,B9,B10,B11,dB,dD,dF]
   exact⟨rfl,by rw[ej52];exact(Env.pick E (Env.pick E E.nil rfl) rfl),H⟩
  refine bJ (c:=true) E rfl rfl rfl rfl ts47 rfl fun a E=> ?_
  refine bJ (c:=true) E rfl rfl rfl rfl ts47 rfl fun a E=> ?_
  refine bJ (c:=true) E rfl rfl rfl rfl ts47 rfl fun a E=> ?_
  refine bJ (c:=true) E rfl rfl rfl rfl ts47 rfl fun a E=> ?_
  refine bJ (c:=true) E rfl rfl rfl rfl ts47 rfl fun a E=> ?_
  refine wv E rfl (aL ((E.tmp rfl).trans (congrArg Value.bool ts47)) (aC _)) fun a E=>vm E rfl rfl fun a E=>wn E rfl rfl rfl rfl rfl fun a E=>wn E rfl rfl rfl rfl rfl fun a E=>wn E rfl rfl rfl rfl rfl fun a E=> ?_
  refine wn E rfl rfl rfl rfl rfl fun a E=>wn E rfl rfl rfl rfl rfl fun a E=>wn E rfl rfl rfl rfl rfl fun a E=>wv E rfl (aL (E.tmp rfl) (aC _)) fun a E=>vm E rfl rfl fun a E=> ?_
  refine wn E rfl rfl rfl rfl rfl fun a E=>wn E rfl rfl rfl rfl rfl fun a E=>wn E rfl rfl rfl rfl rfl fun a E=>wn E rfl rfl rfl rfl rfl fun a E=>wn E rfl rfl rfl rfl rfl fun a E=> ?_
  refine wn E rfl rfl rfl rfl rfl fun a E=>wv E rfl (aL (E.tmp rfl) (aC _)) fun a E=> ?_
  refine wpList_nil ?_
  have ej53:((decide (1000<z1.top))||((decide (1000<z1.bottom))||((decide (1000<((z1.taken.length:Nat):Int)))||(decide (1000<((z1.refused.length:Nat):Int))))))=true:=by simp only[ts47,B1,B2,B3,B4,B5,B6,B7,B8,B9,B10,B11,dB,dD,dF]
  exact⟨rfl,by rw[ej53];exact(Env.pick E (Env.pick E E.nil rfl) rfl),H⟩
 obtain⟨E,H⟩:=hj
 refine aj ?_
 rcases aU ((decide (1000<z1.top))||((decide (1000<z1.bottom))||((decide (1000<((z1.taken.length:Nat):Int)))||(decide (1000<((z1.refused.length:Nat):Int))))))with ts54|ts54
 ·
  obtain⟨ts55,ts56⟩:=lC ts54
  obtain⟨ts57,ts58⟩:=lC ts56
  obtain⟨ts59,ts60⟩:=lC ts58
  refine bG E rfl ts54 ?_
  refine wp_skip (aj (wp_seq (wp_region_lit ?_)))
  refine wv E rfl (aK (aC _)) fun a E=> ?_
  refine wpList_nil (aj (wp_ret ?_))
  refine bB E rfl (aY E rfl) ?_
  have H:=H.iF
  have H:=H.bU (x:=.int .i64 (v.x)) rfl
  have H:=H.bU (x:=.int .i64 (v.b)) rfl
  have H:=H.bU (x:=.int .i64 (v.t)) rfl
  have H:=H.bU (x:=.int .i64 (v.pc)) rfl
  have H:=H.front 4 rfl
  have H:=H.gX
  have H:=H.front 3 rfl
  have H:=Tr.Inv.jG (f:=ah.enc) (y:=v) H hkl
  have H:Tr.Inv w0 F w [Gr (.slice (some ⟨rb,0,none⟩) y.actors.length cA) 57 5 y.actors.length ((y.actors.set k v).flatMap ah.enc),bC dd [.int .i64 (z1.top),.int .i64 (z1.bottom),.slice (some ⟨bb,0,none⟩) y.buffer.length cB,.slice (some ⟨rb,0,none⟩) y.actors.length cA,.slice AT' z1.taken.length cT',.slice AR' z1.refused.length cR'] 30,Gr (.slice (some ⟨bb,0,none⟩) y.buffer.length cB) 2 1 y.buffer.length (z1.buffer.flatMap au),Gr (.slice AT' z1.taken.length cT') 36 2 z1.taken.length (z1.taken.flatMap ak.enc),Gr (.slice AR' z1.refused.length cR') 2 1 z1.refused.length (z1.refused.flatMap au)]:=H
  have hn0:n0≠0:=by have h:=ts2;simpa using h
  have hk0:¬(0<k):=fun h=>hn0 (hth h)
  have e1:decide ((0:Int)<((k:Nat):Int))=false:=by simp;omega
  have e2:(n0==0)=false:=by simpa using hn0
  simp only[bP,jV,List.headD_cons,ts2,←hzv,ts55,ts57,ts59,ts60,e1,e2,B1,B2,B3,B4,B5,B6,B7,B8,B9,B10,B11,dB,dD,dF]at hz
  have hcode:cond (dK z) (4:Int) 0=0:=by rw[hz];simp only[dK,ts2,←hzv,ts55,ts57,ts59,ts60,e1,e2,B1,B2,B3,B4,B5,B6,B7,B8,B9,B10,B11,dB,dD,dF]
  rw[hcode]
  clear hcode
  subst hz
  have H:=H.front 4 rfl
  have H:=H.front 4 rfl
  have H:=H.front 2 rfl
  have H:=H.front 4 rfl
  have H:=H.front 4 rfl
  exact⟨_,_,_,_,rfl,H⟩
 refine bH E rfl ts54 ?_
 refine wp_seq (wp_region_lit ?_)
 refine wv E rfl (aK (aC _)) fun a E=> ?_
 refine wpList_nil (aj (wp_ret (bM ?_)))
 refine bB E rfl (aY E rfl) ?_
 rcases iY ts54 with ts61|⟨ts61,ts62⟩
 ·
  have H:=H.iF
  have H:=H.bU (x:=.int .i64 (v.x)) rfl
  have H:=H.bU (x:=.int .i64 (v.b)) rfl
  have H:=H.bU (x:=.int .i64 (v.t)) rfl
  have H:=H.bU (x:=.int .i64 (v.pc)) rfl
  have H:=H.front 4 rfl
  have H:=H.gX
  have H:=H.front 3 rfl
  have H:=Tr.Inv.jG (f:=ah.enc) (y:=v) H hkl
  have H:Tr.Inv w0 F w [Gr (.slice (some ⟨rb,0,none⟩) y.actors.length cA) 57 5 y.actors.length ((y.actors.set k v).flatMap ah.enc),bC dd [.int .i64 (z1.top),.int .i64 (z1.bottom),.slice (some ⟨bb,0,none⟩) y.buffer.length cB,.slice (some ⟨rb,0,none⟩) y.actors.length cA,.slice AT' z1.taken.length cT',.slice AR' z1.refused.length cR'] 30,Gr (.slice (some ⟨bb,0,none⟩) y.buffer.length cB) 2 1 y.buffer.length (z1.buffer.flatMap au),Gr (.slice AT' z1.taken.length cT') 36 2 z1.taken.length (z1.taken.flatMap ak.enc),Gr (.slice AR' z1.refused.length cR') 2 1 z1.refused.length (z1.refused.flatMap au)]:=H
  have hn0:n0≠0:=by have h:=ts2;simpa using h
  have hk0:¬(0<k):=fun h=>hn0 (hth h)
  have e1:decide ((0:Int)<((k:Nat):Int))=false:=by simp;omega
  have e2:(n0==0)=false:=by simpa using hn0
  simp only[bP,jV,List.headD_cons,ts2,←hzv,ts61,e1,e2,B1,B2,B3,B4,B5,B6,B7,B8,B9,B10,B11,dB,dD,dF]at hz
  have hcode:cond (dK z) (4:Int) 0=4:=by rw[hz];simp only[dK,ts2,←hzv,ts61,e1,e2,B1,B2,B3,B4,B5,B6,B7,B8,B9,B10,B11,dB,dD,dF]
  rw[hcode]
  clear hcode
  subst hz
  have H:=H.front 4 rfl
  have H:=H.front 4 rfl
  have H:=H.front 2 rfl
  have H:=H.front 4 rfl
  have H:=H.front 4 rfl
  exact⟨_,_,_,_,rfl,H⟩
 rcases iY ts62 with ts63|⟨ts63,ts64⟩
 ·
  have H:=H.iF
  have H:=H.bU (x:=.int .i64 (v.x)) rfl
  have H:=H.bU (x:=.int .i64 (v.b)) rfl
  have H:=H.bU (x:=.int .i64 (v.t)) rfl
  have H:=H.bU (x:=.int .i64 (v.pc)) rfl
  have H:=H.front 4 rfl
  have H:=H.gX
  have H:=H.front 3 rfl
  have H:=Tr.Inv.jG (f:=ah.enc) (y:=v) H hkl
  have H:Tr.Inv w0 F w [Gr (.slice (some ⟨rb,0,none⟩) y.actors.length cA) 57 5 y.actors.length ((y.actors.set k v).flatMap ah.enc),bC dd [.int .i64 (z1.top),.int .i64 (z1.bottom),.slice (some ⟨bb,0,none⟩) y.buffer.length cB,.slice (some ⟨rb,0,none⟩) y.actors.length cA,.slice AT' z1.taken.length cT',.slice AR' z1.refused.length cR'] 30,Gr (.slice (some ⟨bb,0,none⟩) y.buffer.length cB) 2 1 y.buffer.length (z1.buffer.flatMap au),Gr (.slice AT' z1.taken.length cT') 36 2 z1.taken.length (z1.taken.flatMap ak.enc),Gr (.slice AR' z1.refused.length cR') 2 1 z1.refused.length (z1.refused.flatMap au)]:=H
  have hn0:n0≠0:=by have h:=ts2;simpa using h
  have hk0:¬(0<k):=fun h=>hn0 (hth h)
  have e1:decide ((0:Int)<((k:Nat):Int))=false:=by simp;omega
  have e2:(n0==0)=false:=by simpa using hn0
  simp only[bP,jV,List.headD_cons,ts2,←hzv,ts61,ts63,e1,e2,B1,B2,B3,B4,B5,B6,B7,B8,B9,B10,B11,dB,dD,dF]at hz
  have hcode:cond (dK z) (4:Int) 0=4:=by rw[hz];simp only[dK,ts2,←hzv,ts61,ts63,e1,e2,B1,B2,B3,B4,B5,B6,B7,B8,B9,B10,B11,dB,dD,dF]
  rw[hcode]
  clear hcode
  subst hz
  have H:=H.front 4 rfl
  have H:=H.front 4 rfl
  have H:=H.front 2 rfl
  have H:=H.front 4 rfl
  have H:=H.front 4 rfl
  exact⟨_,_,_,_,rfl,H⟩
 rcases iY ts64 with ts65|⟨ts65,ts66⟩
 ·
  have H:=H.iF
  have H:=H.bU (x:=.int .i64 (v.x)) rfl
  have H:=H.bU (x:=.int .i64 (v.b)) rfl
  have H:=H.bU (x:=.int .i64 (v.t)) rfl
  have H:=H.bU (x:=.int .i64 (v.pc)) rfl
  have H:=H.front 4 rfl
  have H:=H.gX
  have H:=H.front 3 rfl
  have H:=Tr.Inv.jG (f:=ah.enc) (y:=v) H hkl
  have H:Tr.Inv w0 F w [Gr (.slice (some ⟨rb,0,none⟩) y.actors.length cA) 57 5 y.actors.length ((y.actors.set k v).flatMap ah.enc),bC dd [.int .i64 (z1.top),.int .i64 (z1.bottom),.slice (some ⟨bb,0,none⟩) y.buffer.length cB,.slice (some ⟨rb,0,none⟩) y.actors.length cA,.slice AT' z1.taken.length cT',.slice AR' z1.refused.length cR'] 30,Gr (.slice (some ⟨bb,0,none⟩) y.buffer.length cB) 2 1 y.buffer.length (z1.buffer.flatMap au),Gr (.slice AT' z1.taken.length cT') 36 2 z1.taken.length (z1.taken.flatMap ak.enc),Gr (.slice AR' z1.refused.length cR') 2 1 z1.refused.length (z1.refused.flatMap au)]:=H
  have hn0:n0≠0:=by have h:=ts2;simpa using h
  have hk0:¬(0<k):=fun h=>hn0 (hth h)
  have e1:decide ((0:Int)<((k:Nat):Int))=false:=by simp;omega
  have e2:(n0==0)=false:=by simpa using hn0
  simp only[bP,jV,List.headD_cons,ts2,←hzv,ts61,ts63,ts65,e1,e2,B1,B2,B3,B4,B5,B6,B7,B8,B9,B10,B11,dB,dD,dF]at hz
  have hcode:cond (dK z) (4:Int) 0=4:=by rw[hz];simp only[dK,ts2,←hzv,ts61,ts63,ts65,e1,e2,B1,B2,B3,B4,B5,B6,B7,B8,B9,B10,B11,dB,dD,dF]
  rw[hcode]
  clear hcode
  subst hz
  have H:=H.front 4 rfl
  have H:=H.front 4 rfl
  have H:=H.front 2 rfl
  have H:=H.front 4 rfl
  have H:=H.front 4 rfl
  exact⟨_,_,_,_,rfl,H⟩
 have H:=H.iF
 have H:=H.bU (x:=.int .i64 (v.x)) rfl
 have H:=H.bU (x:=.int .i64 (v.b)) rfl
 have H:=H.bU (x:=.int .i64 (v.t)) rfl
 have H:=H.bU (x:=.int .i64 (v.pc)) rfl
 have H:=H.front 4 rfl
 have H:=H.gX
 have H:=H.front 3 rfl
 have H:=Tr.Inv.jG (f:=ah.enc) (y:=v) H hkl
 have H:Tr.Inv w0 F w [Gr (.slice (some ⟨rb,0,none⟩) y.actors.length cA) 57 5 y.actors.length ((y.actors.set k v).flatMap ah.enc),bC dd [.int .i64 (z1.top),.int .i64 (z1.bottom),.slice (some ⟨bb,0,none⟩) y.buffer.length cB,.slice (some ⟨rb,0,none⟩) y.actors.length cA,.slice AT' z1.taken.length cT',.slice AR' z1.refused.length cR'] 30,Gr (.slice (some ⟨bb,0,none⟩) y.buffer.length cB) 2 1 y.buffer.length (z1.buffer.flatMap au),Gr (.slice AT' z1.taken.length cT') 36 2 z1.taken.length (z1.taken.flatMap ak.enc),Gr (.slice AR' z1.refused.length cR') 2 1 z1.refused.length (z1.refused.flatMap au)]:=H
 have hn0:n0≠0:=by have h:=ts2;simpa using h
 have hk0:¬(0<k):=fun h=>hn0 (hth h)
 have e1:decide ((0:Int)<((k:Nat):Int))=false:=by simp;omega
 have e2:(n0==0)=false:=by simpa using hn0
 simp only[bP,jV,List.headD_cons,ts2,←hzv,ts61,ts63,ts65,ts66,e1,e2,B1,B2,B3,B4,B5,B6,B7,B8,B9,B10,B11,dB,dD,dF]at hz
 have hcode:cond (dK z) (4:Int) 0=4:=by rw[hz];simp only[dK,ts2,←hzv,ts61,ts63,ts65,ts66,e1,e2,B1,B2,B3,B4,B5,B6,B7,B8,B9,B10,B11,dB,dD,dF]
 rw[hcode]
 clear hcode
 subst hz
 have H:=H.front 4 rfl
 have H:=H.front 4 rfl
 have H:=H.front 2 rfl
 have H:=H.front 4 rfl
 have H:=H.front 4 rfl
 exact⟨_,_,_,_,rfl,H⟩
end Go.Proofs.Ytjpaeopdljfjpaa
