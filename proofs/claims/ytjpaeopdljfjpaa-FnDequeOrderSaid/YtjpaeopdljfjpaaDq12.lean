
/- Deques. Printed by gx_dq.py. -/
import Derived.Test.YtjpaeopdljfjpaaShort
import Derived.Test.YtjpaeopdljfjpaaProg
import Derived.Test.YtjpaeopdljfjpaaSc
import Derived.Test.YtjpaeopdljfjpaaDDq
import Derived.Test.YtjpaeopdljfjpaaNet
import Derived.IntWalk
import Derived.Test.YtjpaeopdljfjpaaDq11
set_option linter.unusedSimpArgs false
set_option linter.unusedVariables false
namespace Go.Proofs.Ytjpaeopdljfjpaa
open Go Go.RowKit Go.Proofs Go.Tr
theorem fF:bI Try.prog 57 1=some 1:=by kernel_rfl
theorem eZ:eP Try.prog 2=some false:=by kernel_rfl
theorem iM:bI Try.prog 57 3=some 3:=by kernel_rfl
theorem kS:bI Try.prog 30 1=some 1:=by kernel_rfl
theorem fK:(Try.prog.info? 2).map (·.size)=some 1:=by kernel_rfl
theorem nX:dA Try.prog 83=true:=by kernel_rfl
theorem rY:dA Try.prog 86=true:=by kernel_rfl
theorem vT:bI Try.prog 30 0=some 0:=by kernel_rfl
theorem jM:bI Try.prog 57 2=some 2:=by kernel_rfl
theorem Ay:dA Try.prog 84=true:=by kernel_rfl
theorem wo:bI Try.prog 57 4=some 4:=by kernel_rfl
set_option maxHeartbeats 1000000 in
theorem Ji(y:aQ)(dd bb cB cT cR:Nat)(AT AR:Option Addr)(rb cA m k tb to ct:Nat)(n0:Int)(tl:List Int)(pc t b x:Int)(d1 d2:List D)(z:aQ)(v:ah)(w0:World){F:List Nat}(hS:Sep w0 [bC dd [.int .i64 (y.top),.int .i64 (y.bottom),.slice (some ⟨bb,0,none⟩) y.buffer.length cB,.slice (some ⟨rb,0,none⟩) m cA,.slice AT y.taken.length cT,.slice AR y.refused.length cR] 30,Gr (.slice (some ⟨bb,0,none⟩) y.buffer.length cB) 2 1 y.buffer.length (y.buffer.flatMap au),cK rb cA 57 5 m (d1) [.slice (some ⟨tb,to,none⟩) (tl.length+1) ct,.int .i64 (pc),.int .i64 (t),.int .i64 (b),.int .i64 (x)] (d2),Dat (.slice (some ⟨tb,to,none⟩) (tl.length+1) ct) (tl.length+1) ((n0::tl).flatMap au),Gr (.slice AT y.taken.length cT) 36 2 y.taken.length (y.taken.flatMap ak.enc),Gr (.slice AR y.refused.length cR) 2 1 y.refused.length (y.refused.flatMap au)] F)(hd1:d1.length=k*5)(hl:tl.length≤1000)(hb0:0<y.buffer.length)(hb1:y.buffer.length≤1000)(ht1:y.taken.length≤100000)(hr1:y.refused.length≤100000)(hz:(z,v)=ku y ⟨n0::tl,pc,t,b,x⟩)(hkm:k<m)(hk0:((k:Nat):Int)=0):Calls Try.prog 67 #[.pointer (some ⟨dd,0,none⟩),.pointer (some ⟨rb,k*5,none⟩)] w0 fun e w'=>∃AT' cT' AR' cR' At' ct',e=.returned (.tuple #[])∧Tr.Inv w0 F w' [bC dd [.int .i64 (z.top),.int .i64 (z.bottom),.slice (some ⟨bb,0,none⟩) y.buffer.length cB,.slice (some ⟨rb,0,none⟩) m cA,.slice AT' z.taken.length cT',.slice AR' z.refused.length cR'] 30,Gr (.slice (some ⟨bb,0,none⟩) y.buffer.length cB) 2 1 y.buffer.length (z.buffer.flatMap au),cK rb cA 57 5 m (d1) [.slice At' v.todo.length ct',.int .i64 (v.pc),.int .i64 (v.t),.int .i64 (v.b),.int .i64 (v.x)] (d2),Dat (.slice At' v.todo.length ct') v.todo.length (v.todo.flatMap au),Gr (.slice AT' z.taken.length cT') 36 2 z.taken.length (z.taken.flatMap ak.enc),Gr (.slice AR' z.refused.length cR') 2 1 z.refused.length (z.refused.flatMap au)]:=by
 refine bF (args:=[.pointer (some ⟨dd,0,none⟩),.pointer (some ⟨rb,k*5,none⟩)]) Try.func67 rfl Try.ntmps67 rfl hS (fun a w E H=> ?_)
 have E:Env 92 a [(0,.pointer (some ⟨dd,0,none⟩)),(1,.pointer (some ⟨rb,k*5,none⟩))]:=E
 refine wp_seq (wp_region_lit ?_)
 refine vm E rfl rfl fun a E=>wv E rfl (aZ (E.tmp rfl)) fun a E=>wv E rfl (aS (o':=k*5+1) (E.tmp rfl) fF rfl) fun a E=>wv E rfl (aD (E.tmp rfl) eZ (H.bX 2 rfl hd1 (j:=1) rfl)) fun a E=> ?_
 refine wpList_nil (aj (wp_block (wp_seq (wp_region_lit ?_))))
 refine wv E rfl (aN (E.tmp rfl) (aC _) (gV (b:=pc==0) rfl)) fun a E=>va E rfl rfl fun a E=> ?_
 refine wpList_nil (aj ?_)
 rcases aU (pc==0)with ts1|ts1
 ·
  refine bG E rfl ts1 ?_
  refine wp_seq (wp_region_lit ?_)
  refine wv E rfl (aN (E.tmp rfl) (aC _) (gV (b:=pc==1) rfl)) fun a E=>va E rfl rfl fun a E=> ?_
  refine wpList_nil (aj ?_)
  rcases aU (pc==1)with ts2|ts2
  ·
   refine bG E rfl ts2 ?_
   refine wp_seq (wp_region_lit ?_)
   refine wv E rfl (aN (E.tmp rfl) (aC _) (gV (b:=pc==2) rfl)) fun a E=>va E rfl rfl fun a E=> ?_
   refine wpList_nil (aj ?_)
   rcases aU (pc==2)with ts3|ts3
   ·
    refine bG E rfl ts3 ?_
    refine wp_seq (wp_region_lit ?_)
    refine vm E rfl rfl fun a E=>vm E rfl rfl fun a E=>wv E rfl (aZ (E.tmp rfl)) fun a E=>wv E rfl (aS (o':=k*5+3) (E.tmp rfl) iM rfl) fun a E=>wv E rfl (aD (E.tmp rfl) eZ (H.bX 2 rfl hd1 (j:=3) rfl)) fun a E=> ?_
    refine wv E rfl (aN (E.tmp rfl) (aC _) (kP rfl)) fun a E=>wv E rfl (aZ (E.tmp rfl)) fun a E=>wv E rfl (aS (o':=1) (E.tmp rfl) kS rfl) fun a E=> ?_
    refine uZ (cs':=[_,.int .i64 (IntKind.i64.wrap (b+1)),_,_,_,_]) (rs':=[bC _ [_,.int .i64 (IntKind.i64.wrap (b+1)),_,_,_,_] _,_,_,_,_,_]) E (E.tmp rfl) (E.tmp rfl) rfl rfl fK H (i:=0) rfl rfl rfl rfl (fun a w E H=> ?_)
    refine wpList_nil (aj (wp_region_lit ?_))
    refine vm E rfl rfl fun a E=> ?_
    have H:=H.front 3 rfl
    have H:=H.front 3 rfl
    obtain⟨q4F,q4S,q4I,q4b⟩:=Tr.Inv.frame (pre:=[cK rb cA 57 5 m (d1) [.slice (some ⟨tb,to,none⟩) (tl.length+1) ct,.int .i64 (pc),.int .i64 (t),.int .i64 (b),.int .i64 (x)] (d2),Dat (.slice (some ⟨tb,to,none⟩) (tl.length+1) ct) (tl.length+1) ((n0::tl).flatMap au)]) (rest:=[bC dd [.int .i64 (y.top),.int .i64 (IntKind.i64.wrap (b+1)),.slice (some ⟨bb,0,none⟩) y.buffer.length cB,.slice (some ⟨rb,0,none⟩) m cA,.slice AT y.taken.length cT,.slice AR y.refused.length cR] 30,Gr (.slice (some ⟨bb,0,none⟩) y.buffer.length cB) 2 1 y.buffer.length (y.buffer.flatMap au),Gr (.slice AT y.taken.length cT) 36 2 y.taken.length (y.taken.flatMap ak.enc),Gr (.slice AR y.refused.length cR) 2 1 y.refused.length (y.refused.flatMap au)]) H
    refine dR E rfl (aG (E.tmp rfl) (aX)) nX (pU rb cA m k tb to ct n0 tl pc t b x d1 d2 w q4S hd1 hl) ?_
    rintro _ w ⟨q4A,q4c,rfl,hI⟩
    refine⟨_,rfl,fun a E=> ?_⟩
    have H:=q4b _ _ hI
    clear hI q4S q4I q4b
    have H:Tr.Inv w0 F w [cK rb cA 57 5 m (d1) [.slice q4A tl.length q4c,.int .i64 (0),.int .i64 (0),.int .i64 (0),.int .i64 (0)] (d2),Dat (.slice q4A tl.length q4c) tl.length (tl.flatMap au),bC dd [.int .i64 (y.top),.int .i64 (IntKind.i64.wrap (b+1)),.slice (some ⟨bb,0,none⟩) y.buffer.length cB,.slice (some ⟨rb,0,none⟩) m cA,.slice AT y.taken.length cT,.slice AR y.refused.length cR] 30,Gr (.slice (some ⟨bb,0,none⟩) y.buffer.length cB) 2 1 y.buffer.length (y.buffer.flatMap au),Gr (.slice AT y.taken.length cT) 36 2 y.taken.length (y.taken.flatMap ak.enc),Gr (.slice AR y.refused.length cR) 2 1 y.refused.length (y.refused.flatMap au)]:=H
    refine wpList_nil (fO ?_)
    refine(iG E rfl ?_).2
    have H:=H.front 5 rfl
    have H:=H.front 5 rfl
    have H:=H.front 3 rfl
    have H:=H.front 3 rfl
    have H:=H.front 5 rfl
    have H:=H.front 5 rfl
    simp only[ku,iV,fT,Option.getD_some,qK,List.headD_cons,List.tail_cons,ts1,ts2,ts3,B1,B2,B3,B4,B5,B6,B7,B8,B9,B10,B11,dB,dD,dF]at hz
    obtain⟨rfl,rfl⟩:=Prod.mk.inj hz
    exact⟨_,_,_,_,_,_,rfl,H⟩
   refine bH E rfl ts3 ?_
   refine wp_seq (wp_region_lit ?_)
   refine vm E rfl rfl fun a E=> ?_
   rcases aU (y.top==t)with ts5|ts5
   ·
    have H:=H.front 4 rfl
    have H:=H.front 3 rfl
    have H:=H.front 2 rfl
    obtain⟨q6F,q6S,q6I,q6b⟩:=Tr.Inv.frame (pre:=[bC dd [.int .i64 (y.top),.int .i64 (y.bottom),.slice (some ⟨bb,0,none⟩) y.buffer.length cB,.slice (some ⟨rb,0,none⟩) m cA,.slice AT y.taken.length cT,.slice AR y.refused.length cR] 30,cK rb cA 57 5 m (d1) [.slice (some ⟨tb,to,none⟩) (tl.length+1) ct,.int .i64 (pc),.int .i64 (t),.int .i64 (b),.int .i64 (x)] (d2),Gr (.slice AT y.taken.length cT) 36 2 y.taken.length (y.taken.flatMap ak.enc)]) (rest:=[Gr (.slice (some ⟨bb,0,none⟩) y.buffer.length cB) 2 1 y.buffer.length (y.buffer.flatMap au),Dat (.slice (some ⟨tb,to,none⟩) (tl.length+1) ct) (tl.length+1) ((n0::tl).flatMap au),Gr (.slice AR y.refused.length cR) 2 1 y.refused.length (y.refused.flatMap au)]) H
    refine dR E rfl (aG (E.tmp rfl) (aG (aC _) (aX))) rY (by have h:=zJ dd y.taken.length cT AT y.top (.int .i64 (y.bottom)) (.slice (some ⟨bb,0,none⟩) y.buffer.length cB) (.slice AR y.refused.length cR) (y.taken.flatMap ak.enc) rb cA m k ct pc t b x (some ⟨tb,to,none⟩) (tl.length+1) d1 d2 w q6S (by omega) hkm hd1;rw[hk0]at h;exact h) ?_
    rintro _ w ⟨q6A,q6c,rfl,⟨hw,hI⟩|⟨hw,hI⟩⟩
    ·
     exact absurd (hw.symm.trans ts5) (by decide)
    refine⟨_,rfl,fun a E=> ?_⟩
    have H:=q6b _ _ hI
    clear hI hw q6S q6I q6b
    have H:Tr.Inv w0 F w [bC dd [.int .i64 (y.top),.int .i64 (y.bottom),.slice (some ⟨bb,0,none⟩) y.buffer.length cB,.slice (some ⟨rb,0,none⟩) m cA,.slice q6A y.taken.length q6c,.slice AR y.refused.length cR] 30,cK rb cA 57 5 m (d1) [.slice (some ⟨tb,to,none⟩) (tl.length+1) ct,.int .i64 (pc),.int .i64 (t),.int .i64 (b),.int .i64 (x)] (d2),Gr (.slice q6A y.taken.length q6c) 36 2 y.taken.length (y.taken.flatMap ak.enc),Gr (.slice (some ⟨bb,0,none⟩) y.buffer.length cB) 2 1 y.buffer.length (y.buffer.flatMap au),Dat (.slice (some ⟨tb,to,none⟩) (tl.length+1) ct) (tl.length+1) ((n0::tl).flatMap au),Gr (.slice AR y.refused.length cR) 2 1 y.refused.length (y.refused.flatMap au)]:=H
    refine wpList_nil (aj (wp_region_lit ?_))
    refine vm E rfl rfl fun a E=>wv E rfl (aZ (E.tmp rfl)) fun a E=>wv E rfl (aS (o':=k*5+1) (E.tmp rfl) fF rfl) fun a E=> ?_
    refine dS (vs:=[.int .i64 (3)]) (us':=[_,.int .i64 (3),_,_,_]) (rs':=[_,cK _ _ _ _ _ _ [_,.int .i64 (3),_,_,_] _,_,_,_,_]) (j:=1) E (E.tmp rfl) (aC _) rfl rfl fK H (i:=1) rfl hd1 rfl rfl rfl rfl (fun a w E H=> ?_)
    refine wpList_nil (fO ?_)
    refine(iG E rfl ?_).2
    have H:=H.front 5 rfl
    have H:=H.front 3 rfl
    have H:=H.front 5 rfl
    have H:=H.front 4 rfl
    have H:=H.front 5 rfl
    have H:=H.front 5 rfl
    simp only[ku,iV,fT,Option.getD_some,qK,List.headD_cons,List.tail_cons,ts1,ts2,ts3,ts5,B1,B2,B3,B4,B5,B6,B7,B8,B9,B10,B11,dB,dD,dF]at hz
    obtain⟨rfl,rfl⟩:=Prod.mk.inj hz
    exact⟨_,_,_,_,_,_,rfl,H⟩
   have H:=H.front 4 rfl
   have H:=H.front 3 rfl
   have H:=H.front 2 rfl
   obtain⟨q7F,q7S,q7I,q7b⟩:=Tr.Inv.frame (pre:=[bC dd [.int .i64 (y.top),.int .i64 (y.bottom),.slice (some ⟨bb,0,none⟩) y.buffer.length cB,.slice (some ⟨rb,0,none⟩) m cA,.slice AT y.taken.length cT,.slice AR y.refused.length cR] 30,cK rb cA 57 5 m (d1) [.slice (some ⟨tb,to,none⟩) (tl.length+1) ct,.int .i64 (pc),.int .i64 (t),.int .i64 (b),.int .i64 (x)] (d2),Gr (.slice AT y.taken.length cT) 36 2 y.taken.length (y.taken.flatMap ak.enc)]) (rest:=[Gr (.slice (some ⟨bb,0,none⟩) y.buffer.length cB) 2 1 y.buffer.length (y.buffer.flatMap au),Dat (.slice (some ⟨tb,to,none⟩) (tl.length+1) ct) (tl.length+1) ((n0::tl).flatMap au),Gr (.slice AR y.refused.length cR) 2 1 y.refused.length (y.refused.flatMap au)]) H
   refine dR E rfl (aG (E.tmp rfl) (aG (aC _) (aX))) rY (by have h:=zJ dd y.taken.length cT AT y.top (.int .i64 (y.bottom)) (.slice (some ⟨bb,0,none⟩) y.buffer.length cB) (.slice AR y.refused.length cR) (y.taken.flatMap ak.enc) rb cA m k ct pc t b x (some ⟨tb,to,none⟩) (tl.length+1) d1 d2 w q7S (by omega) hkm hd1;rw[hk0]at h;exact h) ?_
   rintro _ w ⟨q7A,q7c,rfl,⟨hw,hI⟩|⟨hw,hI⟩⟩
   rotate_left
   ·
    exact absurd (hw.symm.trans ts5) (by decide)
   refine⟨_,rfl,fun a E=> ?_⟩
   have H:=q7b _ _ hI
   clear hI hw q7S q7I q7b
   have e1:y.taken.flatMap ak.enc++[D.v (.int .i64 (0)),D.v (.int .i64 (x))]=(y.taken++[ak.mk 0 x]).flatMap ak.enc:=by simp[ak.enc]
   have e2:y.taken.length+1=(y.taken++[ak.mk 0 x]).length:=by simp
   rw[e1,e2]at H
   have H:Tr.Inv w0 F w [bC dd [.int .i64 (IntKind.i64.wrap (t+1)),.int .i64 (y.bottom),.slice (some ⟨bb,0,none⟩) y.buffer.length cB,.slice (some ⟨rb,0,none⟩) m cA,.slice q7A ((y.taken++[ak.mk 0 x]).length) q7c,.slice AR y.refused.length cR] 30,cK rb cA 57 5 m (d1) [.slice (some ⟨tb,to,none⟩) (tl.length+1) ct,.int .i64 (pc),.int .i64 (t),.int .i64 (b),.int .i64 (x)] (d2),Gr (.slice q7A ((y.taken++[ak.mk 0 x]).length) q7c) 36 2 ((y.taken++[ak.mk 0 x]).length) ((y.taken++[ak.mk 0 x]).flatMap ak.enc),Gr (.slice (some ⟨bb,0,none⟩) y.buffer.length cB) 2 1 y.buffer.length (y.buffer.flatMap au),Dat (.slice (some ⟨tb,to,none⟩) (tl.length+1) ct) (tl.length+1) ((n0::tl).flatMap au),Gr (.slice AR y.refused.length cR) 2 1 y.refused.length (y.refused.flatMap au)]:=H
   refine wpList_nil (aj (wp_region_lit ?_))
   refine vm E rfl rfl fun a E=>wv E rfl (aZ (E.tmp rfl)) fun a E=>wv E rfl (aS (o':=k*5+1) (E.tmp rfl) fF rfl) fun a E=> ?_
   refine dS (vs:=[.int .i64 (3)]) (us':=[_,.int .i64 (3),_,_,_]) (rs':=[_,cK _ _ _ _ _ _ [_,.int .i64 (3),_,_,_] _,_,_,_,_]) (j:=1) E (E.tmp rfl) (aC _) rfl rfl fK H (i:=1) rfl hd1 rfl rfl rfl rfl (fun a w E H=> ?_)
   refine wpList_nil (fO ?_)
   refine(iG E rfl ?_).2
   have H:=H.front 5 rfl
   have H:=H.front 3 rfl
   have H:=H.front 5 rfl
   have H:=H.front 4 rfl
   have H:=H.front 5 rfl
   have H:=H.front 5 rfl
   simp only[ku,iV,fT,Option.getD_some,qK,List.headD_cons,List.tail_cons,ts1,ts2,ts3,ts5,B1,B2,B3,B4,B5,B6,B7,B8,B9,B10,B11,dB,dD,dF]at hz
   obtain⟨rfl,rfl⟩:=Prod.mk.inj hz
   exact⟨_,_,_,_,_,_,rfl,H⟩
  refine bH E rfl ts2 ?_
  refine wp_seq (wp_region_lit ?_)
  refine vm E rfl rfl fun a E=>vm E rfl rfl fun a E=>wv E rfl (aZ (E.tmp rfl)) fun a E=>wv E rfl (aS (o':=0) (E.tmp rfl) vT rfl) fun a E=>wv E rfl (aD (E.tmp rfl) eZ (H.cell 0 rfl rfl)) fun a E=> ?_
  refine wv E rfl (aZ (E.tmp rfl)) fun a E=>wv E rfl (aS (o':=k*5+2) (E.tmp rfl) jM rfl) fun a E=> ?_
  refine dS (vs:=[.int .i64 (y.top)]) (us':=[_,_,.int .i64 (y.top),_,_]) (rs':=[_,_,cK _ _ _ _ _ _ [_,_,.int .i64 (y.top),_,_] _,_,_,_]) (j:=2) E (E.tmp rfl) (E.tmp rfl) rfl rfl fK H (i:=2) rfl hd1 rfl rfl rfl rfl (fun a w E H=> ?_)
  refine wpList_nil (aj (wp_seq (wp_seq ?_)))
  let fl8:Flow:=⟨[.c (.pointer (some ⟨rb,k*5,none⟩)),.c (.pointer (some ⟨rb,k*5,none⟩)),.c (.pointer (some ⟨rb,k*5+2,none⟩)),{ dep:=[],val:=fun _=>.int .i64 (y.top),rd:=[2]},.c (.pointer (some ⟨rb,k*5,none⟩)),.c (.pointer (some ⟨rb,k*5,none⟩)),.c (.pointer (some ⟨rb,k*5+3,none⟩)),{ dep:=[],val:=fun _=>.int .i64 (b),rd:=[2]},.c (.bool (decide (b<y.top)))],[{ dep:=[],res:=fun _=>bC dd [.int .i64 (y.top),.int .i64 (y.bottom),.slice (some ⟨bb,0,none⟩) y.buffer.length cB,.slice (some ⟨rb,0,none⟩) m cA,.slice AT y.taken.length cT,.slice AR y.refused.length cR] 30,prod:=none,cons:=none},{ dep:=[],res:=fun _=>Gr (.slice (some ⟨bb,0,none⟩) y.buffer.length cB) 2 1 y.buffer.length (y.buffer.flatMap au),prod:=none,cons:=none},{ dep:=[],res:=fun _=>cK rb cA 57 5 m (d1) [.slice (some ⟨tb,to,none⟩) (tl.length+1) ct,.int .i64 (pc),.int .i64 (y.top),.int .i64 (b),.int .i64 (x)] (d2),prod:=none,cons:=none},{ dep:=[],res:=fun _=>Dat (.slice (some ⟨tb,to,none⟩) (tl.length+1) ct) (tl.length+1) ((n0::tl).flatMap au),prod:=none,cons:=none},{ dep:=[],res:=fun _=>Gr (.slice AT y.taken.length cT) 36 2 y.taken.length (y.taken.flatMap ak.enc),prod:=none,cons:=none},{ dep:=[],res:=fun _=>Gr (.slice AR y.refused.length cR) 2 1 y.refused.length (y.refused.flatMap au),prod:=none,cons:=none}],[[],[0],[0,1],[0,1,2],[],[4],[4,5],[4,5,6],[0,1,2,3,4,5,6,7]]⟩
  have E:Env 92 a [(0,.pointer (some ⟨dd,0,none⟩)),(1,.pointer (some ⟨rb,k*5,none⟩)),(4,.pointer (some ⟨rb,k*5,none⟩)),(5,.pointer (some ⟨rb,k*5,none⟩)),(6,.pointer (some ⟨rb,k*5+1,none⟩)),(7,.int .i64 (pc)),(18,.bool (pc==0)),(19,.bool (pc==0)),(37,.bool (pc==1)),(38,.bool (pc==1)),(39,.pointer (some ⟨rb,k*5,none⟩)),(40,.pointer (some ⟨dd,0,none⟩)),(41,.pointer (some ⟨dd,0,none⟩)),(42,.pointer (some ⟨dd,0,none⟩)),(43,.int .i64 (y.top)),(44,.pointer (some ⟨rb,k*5,none⟩)),(45,.pointer (some ⟨rb,k*5+2,none⟩))]:=(Env.pick E (Env.pick E (Env.pick E (Env.pick E (Env.pick E (Env.pick E (Env.pick E (Env.pick E (Env.pick E (Env.pick E (Env.pick E (Env.pick E (Env.pick E (Env.pick E (Env.pick E (Env.pick E (Env.pick E E.nil rfl) rfl) rfl) rfl) rfl) rfl) rfl) rfl) rfl) rfl) rfl) rfl) rfl) rfl) rfl) rfl) rfl)
  refine iK (rs:=[]) rfl fl8 E (by rw[qS];exact H) 9 rfl (by kernel_rfl) ?_ ?_
  ·
   refine aB.snoc (aB.snoc (aB.snoc (aB.snoc (aB.snoc (aB.snoc (aB.snoc (aB.snoc (aB.snoc (aB.zero _) ?_) ?_) ?_) ?_) ?_) ?_) ?_) ?_) ?_
   ·
    refine⟨_,_,_,rfl,rfl,rfl,fun ν a w rs E hk ht H=> ?_⟩
    exact Gives.val rfl (bN (E.tmp rfl)) ⟨trivial,rfl,H⟩
   ·
    refine⟨_,_,_,rfl,rfl,rfl,fun ν a w rs E hk ht H=> ?_⟩
    have E:=Env.add (v:=.pointer (some ⟨rb,k*5,none⟩)) E (ht 0 (by decide) _ _ 46 rfl rfl rfl)
    exact Gives.val rfl (aZ (E.tmp rfl)) ⟨trivial,rfl,H⟩
   ·
    refine⟨_,_,_,rfl,rfl,rfl,fun ν a w rs E hk ht H=> ?_⟩
    have E:=Env.add (v:=.pointer (some ⟨rb,k*5,none⟩)) E (ht 1 (by decide) _ _ 47 rfl rfl rfl)
    exact Gives.val rfl (aS (o':=k*5+2) (E.tmp rfl) jM rfl) ⟨trivial,rfl,H⟩
   ·
    refine⟨_,_,_,rfl,rfl,rfl,fun ν a w rs E hk ht H=> ?_⟩
    have E:=Env.add (v:=.pointer (some ⟨rb,k*5+2,none⟩)) E (ht 2 (by decide) _ _ 48 rfl rfl rfl)
    have H:Tr.Inv w0 F w ([cK rb cA 57 5 m (d1) [.slice (some ⟨tb,to,none⟩) (tl.length+1) ct,.int .i64 (pc),.int .i64 (y.top),.int .i64 (b),.int .i64 (x)] (d2)]++([]++rs)):=H
    exact Gives.val rfl (aD (E.tmp rfl) eZ (H.bX 0 rfl hd1 (j:=2) rfl)) ⟨trivial,rfl,H⟩
   ·
    refine⟨_,_,_,rfl,rfl,rfl,fun ν a w rs E hk ht H=> ?_⟩
    exact Gives.val rfl (bN (E.tmp rfl)) ⟨trivial,rfl,H⟩
   ·
    refine⟨_,_,_,rfl,rfl,rfl,fun ν a w rs E hk ht H=> ?_⟩
    have E:=Env.add (v:=.pointer (some ⟨rb,k*5,none⟩)) E (ht 4 (by decide) _ _ 50 rfl rfl rfl)
    exact Gives.val rfl (aZ (E.tmp rfl)) ⟨trivial,rfl,H⟩
   ·
    refine⟨_,_,_,rfl,rfl,rfl,fun ν a w rs E hk ht H=> ?_⟩
    have E:=Env.add (v:=.pointer (some ⟨rb,k*5,none⟩)) E (ht 5 (by decide) _ _ 51 rfl rfl rfl)
    exact Gives.val rfl (aS (o':=k*5+3) (E.tmp rfl) iM rfl) ⟨trivial,rfl,H⟩
   ·
    refine⟨_,_,_,rfl,rfl,rfl,fun ν a w rs E hk ht H=> ?_⟩
    have E:=Env.add (v:=.pointer (some ⟨rb,k*5+3,none⟩)) E (ht 6 (by decide) _ _ 52 rfl rfl rfl)
    have H:Tr.Inv w0 F w ([cK rb cA 57 5 m (d1) [.slice (some ⟨tb,to,none⟩) (tl.length+1) ct,.int .i64 (pc),.int .i64 (y.top),.int .i64 (b),.int .i64 (x)] (d2)]++([]++rs)):=H
    exact Gives.val rfl (aD (E.tmp rfl) eZ (H.bX 0 rfl hd1 (j:=3) rfl)) ⟨trivial,rfl,H⟩
   ·
    refine⟨_,_,_,rfl,rfl,rfl,fun ν a w rs E hk ht H=> ?_⟩
    have E:=Env.add (v:=.int .i64 (y.top)) E (ht 3 (by decide) _ _ 49 rfl rfl rfl)
    have E:=Env.add (v:=.int .i64 (b)) E (ht 7 (by decide) _ _ 53 rfl rfl rfl)
    exact Gives.val rfl (aN (E.tmp rfl) (E.tmp rfl) (gF (b:=decide (b<y.top)) rfl)) ⟨trivial,rfl,H⟩
  ·
   refine fun ν a w E hk ht H=> ?_
   have E:=Env.add E (show a.tmps[54]? =some (.bool (decide (b<y.top))) from ht 8 _ _ 54 rfl rfl rfl)
   have H:Tr.Inv w0 F w [bC dd [.int .i64 (y.top),.int .i64 (y.bottom),.slice (some ⟨bb,0,none⟩) y.buffer.length cB,.slice (some ⟨rb,0,none⟩) m cA,.slice AT y.taken.length cT,.slice AR y.refused.length cR] 30,Gr (.slice (some ⟨bb,0,none⟩) y.buffer.length cB) 2 1 y.buffer.length (y.buffer.flatMap au),cK rb cA 57 5 m (d1) [.slice (some ⟨tb,to,none⟩) (tl.length+1) ct,.int .i64 (pc),.int .i64 (y.top),.int .i64 (b),.int .i64 (x)] (d2),Dat (.slice (some ⟨tb,to,none⟩) (tl.length+1) ct) (tl.length+1) ((n0::tl).flatMap au),Gr (.slice AT y.taken.length cT) 36 2 y.taken.length (y.taken.flatMap ak.enc),Gr (.slice AR y.refused.length cR) 2 1 y.refused.length (y.refused.flatMap au)]:=H
   have E:Env 92 a [(0,.pointer (some ⟨dd,0,none⟩)),(1,.pointer (some ⟨rb,k*5,none⟩)),(4,.pointer (some ⟨rb,k*5,none⟩)),(5,.pointer (some ⟨rb,k*5,none⟩)),(6,.pointer (some ⟨rb,k*5+1,none⟩)),(7,.int .i64 (pc)),(18,.bool (pc==0)),(19,.bool (pc==0)),(37,.bool (pc==1)),(38,.bool (pc==1)),(39,.pointer (some ⟨rb,k*5,none⟩)),(40,.pointer (some ⟨dd,0,none⟩)),(41,.pointer (some ⟨dd,0,none⟩)),(42,.pointer (some ⟨dd,0,none⟩)),(43,.int .i64 (y.top)),(44,.pointer (some ⟨rb,k*5,none⟩)),(45,.pointer (some ⟨rb,k*5+2,none⟩)),(54,.bool (decide (b<y.top)))]:=(Env.pick E (Env.pick E (Env.pick E (Env.pick E (Env.pick E (Env.pick E (Env.pick E (Env.pick E (Env.pick E (Env.pick E (Env.pick E (Env.pick E (Env.pick E (Env.pick E (Env.pick E (Env.pick E (Env.pick E (Env.pick E E.nil rfl) rfl) rfl) rfl) rfl) rfl) rfl) rfl) rfl) rfl) rfl) rfl) rfl) rfl) rfl) rfl) rfl) rfl)
   clear hk ht
   refine aj ?_
   rcases aU (decide (b<y.top))with ts8|ts8
   ·
    refine bG E rfl ts8 ?_
    refine wp_skip (aj (wp_seq ?_))
    obtain⟨kk,hkk,hkl⟩:=BA b hb0 hb1
    have H:=H.front 1 rfl
    obtain⟨old,u9u,hold,H⟩:=H.Dr (f:=au) (s:=1) (fun _=>rfl) rfl hkl
    obtain⟨u9v,rfl,H⟩:=(H.front 1 rfl).BH
    obtain⟨rfl,H⟩:=H.Io
    have H:Tr.Inv w0 F w [cK bb cB 2 1 y.buffer.length ((y.buffer.take kk).flatMap au) [.int .i64 (old)] ((y.buffer.drop (kk+1)).flatMap au),bC dd [.int .i64 (y.top),.int .i64 (y.bottom),.slice (some ⟨bb,0,none⟩) y.buffer.length cB,.slice (some ⟨rb,0,none⟩) m cA,.slice AT y.taken.length cT,.slice AR y.refused.length cR] 30,cK rb cA 57 5 m (d1) [.slice (some ⟨tb,to,none⟩) (tl.length+1) ct,.int .i64 (pc),.int .i64 (y.top),.int .i64 (b),.int .i64 (x)] (d2),Dat (.slice (some ⟨tb,to,none⟩) (tl.length+1) ct) (tl.length+1) ((n0::tl).flatMap au),Gr (.slice AT y.taken.length cT) 36 2 y.taken.length (y.taken.flatMap ak.enc),Gr (.slice AR y.refused.length cR) 2 1 y.refused.length (y.refused.flatMap au)]:=H
    refine wp_region_lit ?_
    refine vm E rfl rfl fun a E=>vm E rfl rfl fun a E=>vm E rfl rfl fun a E=>wv E rfl (aZ (E.tmp rfl)) fun a E=>wv E rfl (aS (o':=k*5+3) (E.tmp rfl) iM rfl) fun a E=> ?_
    refine wv E rfl (aD (E.tmp rfl) eZ (H.bX 2 rfl hd1 (j:=3) rfl)) fun a E=> ?_
    refine dx (v:=.pointer (some ⟨bb,kk*1,none⟩)) E rfl (aG (E.tmp rfl) (aG (E.tmp rfl) (aX))) Ay (wP dd y.buffer.length cB bb kk b w (H.Lc 1 rfl rfl) hkk hkl) H (fun a w E H=> ?_)
    refine wv E rfl (aZ (E.tmp rfl)) fun a E=>wv E rfl (aD (E.tmp rfl) eZ (H.bX 0 rfl (take_len au 1 (fun _=>rfl) hkl) (j:=0) rfl)) fun a E=>wv E rfl (aZ (E.tmp rfl)) fun a E=>wv E rfl (aS (o':=k*5+4) (E.tmp rfl) wo rfl) fun a E=> ?_
    refine dS (vs:=[.int .i64 (old)]) (us':=[_,_,_,_,.int .i64 (old)]) (rs':=[_,_,cK _ _ _ _ _ _ [_,_,_,_,.int .i64 (old)] _,_,_,_]) (j:=4) E (E.tmp rfl) (E.tmp rfl) rfl rfl fK H (i:=2) rfl hd1 rfl rfl rfl rfl (fun a w E H=> ?_)
    refine wpList_nil (aj (wp_seq (wp_seq ?_)))
    let fl11:Flow:=⟨[.c (.pointer (some ⟨rb,k*5,none⟩)),.c (.pointer (some ⟨rb,k*5,none⟩)),.c (.pointer (some ⟨rb,k*5+2,none⟩)),{ dep:=[],val:=fun _=>.int .i64 (y.top),rd:=[2]},.c (.pointer (some ⟨rb,k*5,none⟩)),.c (.pointer (some ⟨rb,k*5,none⟩)),.c (.pointer (some ⟨rb,k*5+3,none⟩)),{ dep:=[],val:=fun _=>.int .i64 (b),rd:=[2]},.c (.bool (y.top==b))],[{ dep:=[],res:=fun _=>cK bb cB 2 1 y.buffer.length ((y.buffer.take kk).flatMap au) [.int .i64 (old)] ((y.buffer.drop (kk+1)).flatMap au),prod:=none,cons:=none},{ dep:=[],res:=fun _=>bC dd [.int .i64 (y.top),.int .i64 (y.bottom),.slice (some ⟨bb,0,none⟩) y.buffer.length cB,.slice (some ⟨rb,0,none⟩) m cA,.slice AT y.taken.length cT,.slice AR y.refused.length cR] 30,prod:=none,cons:=none},{ dep:=[],res:=fun _=>cK rb cA 57 5 m (d1) [.slice (some ⟨tb,to,none⟩) (tl.length+1) ct,.int .i64 (pc),.int .i64 (y.top),.int .i64 (b),.int .i64 (old)] (d2),prod:=none,cons:=none},{ dep:=[],res:=fun _=>Dat (.slice (some ⟨tb,to,none⟩) (tl.length+1) ct) (tl.length+1) ((n0::tl).flatMap au),prod:=none,cons:=none},{ dep:=[],res:=fun _=>Gr (.slice AT y.taken.length cT) 36 2 y.taken.length (y.taken.flatMap ak.enc),prod:=none,cons:=none},{ dep:=[],res:=fun _=>Gr (.slice AR y.refused.length cR) 2 1 y.refused.length (y.refused.flatMap au),prod:=none,cons:=none}],[[],[0],[0,1],[0,1,2],[],[4],[4,5],[4,5,6],[0,1,2,3,4,5,6,7]]⟩
    have E:Env 92 a [(0,.pointer (some ⟨dd,0,none⟩)),(1,.pointer (some ⟨rb,k*5,none⟩)),(4,.pointer (some ⟨rb,k*5,none⟩)),(5,.pointer (some ⟨rb,k*5,none⟩)),(6,.pointer (some ⟨rb,k*5+1,none⟩)),(7,.int .i64 (pc)),(18,.bool (pc==0)),(19,.bool (pc==0)),(37,.bool (pc==1)),(38,.bool (pc==1)),(39,.pointer (some ⟨rb,k*5,none⟩)),(40,.pointer (some ⟨dd,0,none⟩)),(41,.pointer (some ⟨dd,0,none⟩)),(42,.pointer (some ⟨dd,0,none⟩)),(43,.int .i64 (y.top)),(44,.pointer (some ⟨rb,k*5,none⟩)),(45,.pointer (some ⟨rb,k*5+2,none⟩)),(54,.bool (decide (b<y.top))),(58,.pointer (some ⟨rb,k*5,none⟩)),(59,.pointer (some ⟨dd,0,none⟩)),(60,.pointer (some ⟨rb,k*5,none⟩)),(61,.pointer (some ⟨rb,k*5,none⟩)),(62,.pointer (some ⟨rb,k*5+3,none⟩)),(63,.int .i64 (b)),(64,.pointer (some ⟨bb,kk*1,none⟩)),(65,.pointer (some ⟨bb,kk*1,none⟩)),(66,.int .i64 (old)),(67,.pointer (some ⟨rb,k*5,none⟩)),(68,.pointer (some ⟨rb,k*5+4,none⟩))]:=(Env.pick E (Env.pick E (Env.pick E (Env.pick E (Env.pick E (Env.pick E (Env.pick E (Env.pick E (Env.pick E (Env.pick E (Env.pick E (Env.pick E (Env.pick E (Env.pick E (Env.pick E (Env.pick E (Env.pick E (Env.pick E (Env.pick E (Env.pick E (Env.pick E (Env.pick E (Env.pick E (Env.pick E (Env.pick E (Env.pick E (Env.pick E (Env.pick E (Env.pick E E.nil rfl) rfl) rfl) rfl) rfl) rfl) rfl) rfl) rfl) rfl) rfl) rfl) rfl) rfl) rfl) rfl) rfl) rfl) rfl) rfl) rfl) rfl) rfl) rfl) rfl) rfl) rfl) rfl) rfl)
    refine iK (rs:=[]) rfl fl11 E (by rw[qS];exact H) 9 rfl (by kernel_rfl) ?_ ?_
    ·
     refine aB.snoc (aB.snoc (aB.snoc (aB.snoc (aB.snoc (aB.snoc (aB.snoc (aB.snoc (aB.snoc (aB.zero _) ?_) ?_) ?_) ?_) ?_) ?_) ?_) ?_) ?_
     ·
      refine⟨_,_,_,rfl,rfl,rfl,fun ν a w rs E hk ht H=> ?_⟩
      exact Gives.val rfl (bN (E.tmp rfl)) ⟨trivial,rfl,H⟩
     ·
      refine⟨_,_,_,rfl,rfl,rfl,fun ν a w rs E hk ht H=> ?_⟩
      have E:=Env.add (v:=.pointer (some ⟨rb,k*5,none⟩)) E (ht 0 (by decide) _ _ 69 rfl rfl rfl)
      exact Gives.val rfl (aZ (E.tmp rfl)) ⟨trivial,rfl,H⟩
     ·
      refine⟨_,_,_,rfl,rfl,rfl,fun ν a w rs E hk ht H=> ?_⟩
      have E:=Env.add (v:=.pointer (some ⟨rb,k*5,none⟩)) E (ht 1 (by decide) _ _ 70 rfl rfl rfl)
      exact Gives.val rfl (aS (o':=k*5+2) (E.tmp rfl) jM rfl) ⟨trivial,rfl,H⟩
     ·
      refine⟨_,_,_,rfl,rfl,rfl,fun ν a w rs E hk ht H=> ?_⟩
      have E:=Env.add (v:=.pointer (some ⟨rb,k*5+2,none⟩)) E (ht 2 (by decide) _ _ 71 rfl rfl rfl)
      have H:Tr.Inv w0 F w ([cK rb cA 57 5 m (d1) [.slice (some ⟨tb,to,none⟩) (tl.length+1) ct,.int .i64 (pc),.int .i64 (y.top),.int .i64 (b),.int .i64 (old)] (d2)]++([]++rs)):=H
      exact Gives.val rfl (aD (E.tmp rfl) eZ (H.bX 0 rfl hd1 (j:=2) rfl)) ⟨trivial,rfl,H⟩
     ·
      refine⟨_,_,_,rfl,rfl,rfl,fun ν a w rs E hk ht H=> ?_⟩
      exact Gives.val rfl (bN (E.tmp rfl)) ⟨trivial,rfl,H⟩
     ·
      refine⟨_,_,_,rfl,rfl,rfl,fun ν a w rs E hk ht H=> ?_⟩
      have E:=Env.add (v:=.pointer (some ⟨rb,k*5,none⟩)) E (ht 4 (by decide) _ _ 73 rfl rfl rfl)
      exact Gives.val rfl (aZ (E.tmp rfl)) ⟨trivial,rfl,H⟩
     ·
      refine⟨_,_,_,rfl,rfl,rfl,fun ν a w rs E hk ht H=> ?_⟩
      have E:=Env.add (v:=.pointer (some ⟨rb,k*5,none⟩)) E (ht 5 (by decide) _ _ 74 rfl rfl rfl)
      exact Gives.val rfl (aS (o':=k*5+3) (E.tmp rfl) iM rfl) ⟨trivial,rfl,H⟩
     ·
      refine⟨_,_,_,rfl,rfl,rfl,fun ν a w rs E hk ht H=> ?_⟩
      have E:=Env.add (v:=.pointer (some ⟨rb,k*5+3,none⟩)) E (ht 6 (by decide) _ _ 75 rfl rfl rfl)
      have H:Tr.Inv w0 F w ([cK rb cA 57 5 m (d1) [.slice (some ⟨tb,to,none⟩) (tl.length+1) ct,.int .i64 (pc),.int .i64 (y.top),.int .i64 (b),.int .i64 (old)] (d2)]++([]++rs)):=H
      exact Gives.val rfl (aD (E.tmp rfl) eZ (H.bX 0 rfl hd1 (j:=3) rfl)) ⟨trivial,rfl,H⟩
     ·
      refine⟨_,_,_,rfl,rfl,rfl,fun ν a w rs E hk ht H=> ?_⟩
      have E:=Env.add (v:=.int .i64 (y.top)) E (ht 3 (by decide) _ _ 72 rfl rfl rfl)
      have E:=Env.add (v:=.int .i64 (b)) E (ht 7 (by decide) _ _ 76 rfl rfl rfl)
      exact Gives.val rfl (aN (E.tmp rfl) (E.tmp rfl) (gV (b:=y.top==b) rfl)) ⟨trivial,rfl,H⟩
    ·
     refine fun ν a w E hk ht H=> ?_
     have E:=Env.add E (show a.tmps[77]? =some (.bool (y.top==b)) from ht 8 _ _ 77 rfl rfl rfl)
     have H:Tr.Inv w0 F w [cK bb cB 2 1 y.buffer.length ((y.buffer.take kk).flatMap au) [.int .i64 (old)] ((y.buffer.drop (kk+1)).flatMap au),bC dd [.int .i64 (y.top),.int .i64 (y.bottom),.slice (some ⟨bb,0,none⟩) y.buffer.length cB,.slice (some ⟨rb,0,none⟩) m cA,.slice AT y.taken.length cT,.slice AR y.refused.length cR] 30,cK rb cA 57 5 m (d1) [.slice (some ⟨tb,to,none⟩) (tl.length+1) ct,.int .i64 (pc),.int .i64 (y.top),.int .i64 (b),.int .i64 (old)] (d2),Dat (.slice (some ⟨tb,to,none⟩) (tl.length+1) ct) (tl.length+1) ((n0::tl).flatMap au),Gr (.slice AT y.taken.length cT) 36 2 y.taken.length (y.taken.flatMap ak.enc),Gr (.slice AR y.refused.length cR) 2 1 y.refused.length (y.refused.flatMap au)]:=H
     have E:Env 92 a [(0,.pointer (some ⟨dd,0,none⟩)),(1,.pointer (some ⟨rb,k*5,none⟩)),(4,.pointer (some ⟨rb,k*5,none⟩)),(5,.pointer (some ⟨rb,k*5,none⟩)),(6,.pointer (some ⟨rb,k*5+1,none⟩)),(7,.int .i64 (pc)),(18,.bool (pc==0)),(19,.bool (pc==0)),(37,.bool (pc==1)),(38,.bool (pc==1)),(39,.pointer (some ⟨rb,k*5,none⟩)),(40,.pointer (some ⟨dd,0,none⟩)),(41,.pointer (some ⟨dd,0,none⟩)),(42,.pointer (some ⟨dd,0,none⟩)),(43,.int .i64 (y.top)),(44,.pointer (some ⟨rb,k*5,none⟩)),(45,.pointer (some ⟨rb,k*5+2,none⟩)),(54,.bool (decide (b<y.top))),(58,.pointer (some ⟨rb,k*5,none⟩)),(59,.pointer (some ⟨dd,0,none⟩)),(60,.pointer (some ⟨rb,k*5,none⟩)),(61,.pointer (some ⟨rb,k*5,none⟩)),(62,.pointer (some ⟨rb,k*5+3,none⟩)),(63,.int .i64 (b)),(64,.pointer (some ⟨bb,kk*1,none⟩)),(65,.pointer (some ⟨bb,kk*1,none⟩)),(66,.int .i64 (old)),(67,.pointer (some ⟨rb,k*5,none⟩)),(68,.pointer (some ⟨rb,k*5+4,none⟩)),(77,.bool (y.top==b))]:=(Env.pick E (Env.pick E (Env.pick E (Env.pick E (Env.pick E (Env.pick E (Env.pick E (Env.pick E (Env.pick E (Env.pick E (Env.pick E (Env.pick E (Env.pick E (Env.pick E (Env.pick E (Env.pick E (Env.pick E (Env.pick E (Env.pick E (Env.pick E (Env.pick E (Env.pick E (Env.pick E (Env.pick E (Env.pick E (Env.pick E (Env.pick E (Env.pick E (Env.pick E (Env.pick E E.nil rfl) rfl) rfl) rfl) rfl) rfl) rfl) rfl) rfl) rfl) rfl) rfl) rfl) rfl) rfl) rfl) rfl) rfl) rfl) rfl) rfl) rfl) rfl) rfl) rfl) rfl) rfl) rfl) rfl) rfl)
     clear hk ht
     refine aj ?_
     rcases aU (y.top==b)with ts10|ts10
     ·
      refine bG E rfl ts10 ?_
      refine wp_skip (aj (wp_seq (wp_region_lit ?_)))
      refine vm E rfl rfl fun a E=> ?_
      have H:=H.front 4 rfl
      have H:=H.front 3 rfl
      have H:=H.front 3 rfl
      obtain⟨q11F,q11S,q11I,q11b⟩:=Tr.Inv.frame (pre:=[bC dd [.int .i64 (y.top),.int .i64 (y.bottom),.slice (some ⟨bb,0,none⟩) y.buffer.length cB,.slice (some ⟨rb,0,none⟩) m cA,.slice AT y.taken.length cT,.slice AR y.refused.length cR] 30,cK rb cA 57 5 m (d1) [.slice (some ⟨tb,to,none⟩) (tl.length+1) ct,.int .i64 (pc),.int .i64 (y.top),.int .i64 (b),.int .i64 (old)] (d2),Gr (.slice AT y.taken.length cT) 36 2 y.taken.length (y.taken.flatMap ak.enc)]) (rest:=[cK bb cB 2 1 y.buffer.length ((y.buffer.take kk).flatMap au) [.int .i64 (old)] ((y.buffer.drop (kk+1)).flatMap au),Dat (.slice (some ⟨tb,to,none⟩) (tl.length+1) ct) (tl.length+1) ((n0::tl).flatMap au),Gr (.slice AR y.refused.length cR) 2 1 y.refused.length (y.refused.flatMap au)]) H
      refine dR E rfl (aG (E.tmp rfl) (aG (aC _) (aX))) (by kernel_rfl) (by have h:=Db dd y.taken.length cT AT (.int .i64 (y.top)) (.int .i64 (y.bottom)) (.slice (some ⟨bb,0,none⟩) y.buffer.length cB) (.slice AR y.refused.length cR) (y.taken.flatMap ak.enc) rb cA m k ct pc y.top b old (some ⟨tb,to,none⟩) (tl.length+1) d1 d2 w q11S (by omega) hkm hd1;rw[hk0]at h;exact h) ?_
      rintro _ w ⟨q11A,q11c,rfl,hI⟩
      refine⟨_,rfl,fun a E=> ?_⟩
      have H:=q11b _ _ hI
      clear hI q11S q11I q11b
      have e1:y.taken.flatMap ak.enc++[D.v (.int .i64 (0)),D.v (.int .i64 (old))]=(y.taken++[ak.mk 0 old]).flatMap ak.enc:=by simp[ak.enc]
      have e2:y.taken.length+1=(y.taken++[ak.mk 0 old]).length:=by simp
      rw[e1,e2]at H
      have H:Tr.Inv w0 F w [bC dd [.int .i64 (y.top),.int .i64 (y.bottom),.slice (some ⟨bb,0,none⟩) y.buffer.length cB,.slice (some ⟨rb,0,none⟩) m cA,.slice q11A ((y.taken++[ak.mk 0 old]).length) q11c,.slice AR y.refused.length cR] 30,cK rb cA 57 5 m (d1) [.slice (some ⟨tb,to,none⟩) (tl.length+1) ct,.int .i64 (pc),.int .i64 (y.top),.int .i64 (b),.int .i64 (old)] (d2),Gr (.slice q11A ((y.taken++[ak.mk 0 old]).length) q11c) 36 2 ((y.taken++[ak.mk 0 old]).length) ((y.taken++[ak.mk 0 old]).flatMap ak.enc),cK bb cB 2 1 y.buffer.length ((y.buffer.take kk).flatMap au) [.int .i64 (old)] ((y.buffer.drop (kk+1)).flatMap au),Dat (.slice (some ⟨tb,to,none⟩) (tl.length+1) ct) (tl.length+1) ((n0::tl).flatMap au),Gr (.slice AR y.refused.length cR) 2 1 y.refused.length (y.refused.flatMap au)]:=H
      refine wpList_nil (aj (wp_region_lit ?_))
      refine vm E rfl rfl fun a E=> ?_
      have H:=H.front 4 rfl
      have H:=H.front 2 rfl
      obtain⟨q12F,q12S,q12I,q12b⟩:=Tr.Inv.frame (pre:=[cK rb cA 57 5 m (d1) [.slice (some ⟨tb,to,none⟩) (tl.length+1) ct,.int .i64 (pc),.int .i64 (y.top),.int .i64 (b),.int .i64 (old)] (d2),Dat (.slice (some ⟨tb,to,none⟩) (tl.length+1) ct) (tl.length+1) ((n0::tl).flatMap au)]) (rest:=[bC dd [.int .i64 (y.top),.int .i64 (y.bottom),.slice (some ⟨bb,0,none⟩) y.buffer.length cB,.slice (some ⟨rb,0,none⟩) m cA,.slice q11A ((y.taken++[ak.mk 0 old]).length) q11c,.slice AR y.refused.length cR] 30,Gr (.slice q11A ((y.taken++[ak.mk 0 old]).length) q11c) 36 2 ((y.taken++[ak.mk 0 old]).length) ((y.taken++[ak.mk 0 old]).flatMap ak.enc),cK bb cB 2 1 y.buffer.length ((y.buffer.take kk).flatMap au) [.int .i64 (old)] ((y.buffer.drop (kk+1)).flatMap au),Gr (.slice AR y.refused.length cR) 2 1 y.refused.length (y.refused.flatMap au)]) H
      refine dR E rfl (aG (E.tmp rfl) (aX)) nX (pU rb cA m k tb to ct n0 tl pc y.top b old d1 d2 w q12S hd1 hl) ?_
      rintro _ w ⟨q12A,q12c,rfl,hI⟩
      refine⟨_,rfl,fun a E=> ?_⟩
      have H:=q12b _ _ hI
      clear hI q12S q12I q12b
      have H:Tr.Inv w0 F w [cK rb cA 57 5 m (d1) [.slice q12A tl.length q12c,.int .i64 (0),.int .i64 (0),.int .i64 (0),.int .i64 (0)] (d2),Dat (.slice q12A tl.length q12c) tl.length (tl.flatMap au),bC dd [.int .i64 (y.top),.int .i64 (y.bottom),.slice (some ⟨bb,0,none⟩) y.buffer.length cB,.slice (some ⟨rb,0,none⟩) m cA,.slice q11A ((y.taken++[ak.mk 0 old]).length) q11c,.slice AR y.refused.length cR] 30,Gr (.slice q11A ((y.taken++[ak.mk 0 old]).length) q11c) 36 2 ((y.taken++[ak.mk 0 old]).length) ((y.taken++[ak.mk 0 old]).flatMap ak.enc),cK bb cB 2 1 y.buffer.length ((y.buffer.take kk).flatMap au) [.int .i64 (old)] ((y.buffer.drop (kk+1)).flatMap au),Gr (.slice AR y.refused.length cR) 2 1 y.refused.length (y.refused.flatMap au)]:=H
      refine wpList_nil (fO ?_)
      refine(iG E rfl ?_).2
      have hlt:decide (y.top<b)=true:=by have h1:=ts10;have h2:=ts8;simp at h1 h2 ⊢;omega
      have H:=H.front 4 rfl
      have H:=(H.flat (us:=[.int .i64 (old)]) rfl).front 1 rfl
      have H:=Tr.Inv.Gu (f:=au) (y:=old) H hold
      have H:Tr.Inv w0 F w [Gr (.slice (some ⟨bb,0,none⟩) y.buffer.length cB) 2 1 y.buffer.length (y.buffer.flatMap au),cK rb cA 57 5 m (d1) [.slice q12A tl.length q12c,.int .i64 (0),.int .i64 (0),.int .i64 (0),.int .i64 (0)] (d2),Dat (.slice q12A tl.length q12c) tl.length (tl.flatMap au),bC dd [.int .i64 (y.top),.int .i64 (y.bottom),.slice (some ⟨bb,0,none⟩) y.buffer.length cB,.slice (some ⟨rb,0,none⟩) m cA,.slice q11A ((y.taken++[ak.mk 0 old]).length) q11c,.slice AR y.refused.length cR] 30,Gr (.slice q11A ((y.taken++[ak.mk 0 old]).length) q11c) 36 2 ((y.taken++[ak.mk 0 old]).length) ((y.taken++[ak.mk 0 old]).flatMap ak.enc),Gr (.slice AR y.refused.length cR) 2 1 y.refused.length (y.refused.flatMap au)]:=H
      have H:=H.front 5 rfl
      have H:=H.front 5 rfl
      have H:=H.front 4 rfl
      have H:=H.front 4 rfl
      have H:=H.front 4 rfl
      have H:=H.front 5 rfl
      simp only[ku,iV,fT,Option.getD_some,qK,List.headD_cons,List.tail_cons,ts1,ts2,ts8,hkk,hold,ts10,hlt,B1,B2,B3,B4,B5,B6,B7,B8,B9,B10,B11,dB,dD,dF]at hz
      obtain⟨rfl,rfl⟩:=Prod.mk.inj hz
      exact⟨_,_,_,_,_,_,rfl,H⟩
     refine bH E rfl ts10 ?_
     refine wp_seq (wp_region_lit ?_)
     refine vm E rfl rfl fun a E=>wv E rfl (aZ (E.tmp rfl)) fun a E=>wv E rfl (aS (o':=k*5+1) (E.tmp rfl) fF rfl) fun a E=> ?_
     refine dS (vs:=[.int .i64 (2)]) (us':=[_,.int .i64 (2),_,_,_]) (rs':=[_,_,cK _ _ _ _ _ _ [_,.int .i64 (2),_,_,_] _,_,_,_]) (j:=1) E (E.tmp rfl) (aC _) rfl rfl fK H (i:=2) rfl hd1 rfl rfl rfl rfl (fun a w E H=> ?_)
     refine wpList_nil (aj (wp_ret (bM (iQ ?_))))
     refine(iG E rfl ?_).1
     have hlt:decide (y.top<b)=false:=by have h1:=ts10;have h2:=ts8;simp at h1 h2 ⊢;omega
     have H:=(H.flat (us:=[.int .i64 (old)]) rfl).front 1 rfl
     have H:=Tr.Inv.Gu (f:=au) (y:=old) H hold
     have H:Tr.Inv w0 F w [Gr (.slice (some ⟨bb,0,none⟩) y.buffer.length cB) 2 1 y.buffer.length (y.buffer.flatMap au),bC dd [.int .i64 (y.top),.int .i64 (y.bottom),.slice (some ⟨bb,0,none⟩) y.buffer.length cB,.slice (some ⟨rb,0,none⟩) m cA,.slice AT y.taken.length cT,.slice AR y.refused.length cR] 30,cK rb cA 57 5 m (d1) [.slice (some ⟨tb,to,none⟩) (tl.length+1) ct,.int .i64 (2),.int .i64 (y.top),.int .i64 (b),.int .i64 (old)] (d2),Dat (.slice (some ⟨tb,to,none⟩) (tl.length+1) ct) (tl.length+1) ((n0::tl).flatMap au),Gr (.slice AT y.taken.length cT) 36 2 y.taken.length (y.taken.flatMap ak.enc),Gr (.slice AR y.refused.length cR) 2 1 y.refused.length (y.refused.flatMap au)]:=H
     have H:=H.front 5 rfl
     have H:=H.front 5 rfl
     have H:=H.front 5 rfl
     have H:=H.front 5 rfl
     have H:=H.front 4 rfl
     have H:=H.front 5 rfl
     simp only[ku,iV,fT,Option.getD_some,qK,List.headD_cons,List.tail_cons,ts1,ts2,ts8,hkk,hold,ts10,hlt,B1,B2,B3,B4,B5,B6,B7,B8,B9,B10,B11,dB,dD,dF]at hz
     obtain⟨rfl,rfl⟩:=Prod.mk.inj hz
     exact⟨_,_,_,_,_,_,rfl,H⟩
   refine bH E rfl ts8 ?_
   refine wp_seq (wp_region_lit ?_)
   refine vm E rfl rfl fun a E=>wv E rfl (aZ (E.tmp rfl)) fun a E=>wv E rfl (aS (o':=k*5+1) (E.tmp rfl) fF rfl) fun a E=> ?_
   refine dS (vs:=[.int .i64 (3)]) (us':=[_,.int .i64 (3),_,_,_]) (rs':=[_,_,cK _ _ _ _ _ _ [_,.int .i64 (3),_,_,_] _,_,_,_]) (j:=1) E (E.tmp rfl) (aC _) rfl rfl fK H (i:=2) rfl hd1 rfl rfl rfl rfl (fun a w E H=> ?_)
   refine wpList_nil (aj (wp_ret (bM (iQ ?_))))
   refine(iG E rfl ?_).1
   have H:=H.front 5 rfl
   have H:=H.front 5 rfl
   have H:=H.front 5 rfl
   have H:=H.front 5 rfl
   have H:=H.front 5 rfl
   have H:=H.front 5 rfl
   simp only[ku,iV,fT,Option.getD_some,qK,List.headD_cons,List.tail_cons,ts1,ts2,ts8,B1,B2,B3,B4,B5,B6,B7,B8,B9,B10,B11,dB,dD,dF]at hz
   obtain⟨rfl,rfl⟩:=Prod.mk.inj hz
   exact⟨_,_,_,_,_,_,rfl,H⟩
 refine bH E rfl ts1 ?_
 refine wp_seq (wp_region_lit ?_)
 refine vm E rfl rfl fun a E=>wv E rfl (aZ (E.tmp rfl)) fun a E=>wv E rfl (aS (o':=1) (E.tmp rfl) kS rfl) fun a E=>wv E rfl (aD (E.tmp rfl) eZ (H.cell 0 rfl rfl)) fun a E=>wv E rfl (aN (E.tmp rfl) (aC _) (CK rfl)) fun a E=> ?_
 refine wv E rfl (aZ (E.tmp rfl)) fun a E=>wv E rfl (aS (o':=1) (E.tmp rfl) kS rfl) fun a E=> ?_
 refine uZ (cs':=[_,.int .i64 (IntKind.i64.wrap (y.bottom-1)),_,_,_,_]) (rs':=[bC _ [_,.int .i64 (IntKind.i64.wrap (y.bottom-1)),_,_,_,_] _,_,_,_,_,_]) E (E.tmp rfl) (E.tmp rfl) rfl rfl fK H (i:=0) rfl rfl rfl rfl (fun a w E H=> ?_)
 refine wpList_nil (aj (wp_region_lit ?_))
 refine vm E rfl rfl fun a E=>vm E rfl rfl fun a E=>vm E rfl rfl fun a E=>wv E rfl (aZ (E.tmp rfl)) fun a E=>wv E rfl (aS (o':=1) (E.tmp rfl) kS rfl) fun a E=> ?_
 refine wv E rfl (aD (E.tmp rfl) eZ (H.cell 0 rfl rfl)) fun a E=>wv E rfl (aZ (E.tmp rfl)) fun a E=>wv E rfl (aS (o':=k*5+3) (E.tmp rfl) iM rfl) fun a E=> ?_
 refine dS (vs:=[.int .i64 (IntKind.i64.wrap (y.bottom-1))]) (us':=[_,_,_,.int .i64 (IntKind.i64.wrap (y.bottom-1)),_]) (rs':=[_,_,cK _ _ _ _ _ _ [_,_,_,.int .i64 (IntKind.i64.wrap (y.bottom-1)),_] _,_,_,_]) (j:=3) E (E.tmp rfl) (E.tmp rfl) rfl rfl fK H (i:=2) rfl hd1 rfl rfl rfl rfl (fun a w E H=> ?_)
 refine wv E rfl (aZ (E.tmp rfl)) fun a E=>wv E rfl (aS (o':=k*5+1) (E.tmp rfl) fF rfl) fun a E=> ?_
 refine dS (vs:=[.int .i64 (1)]) (us':=[_,.int .i64 (1),_,_,_]) (rs':=[_,_,cK _ _ _ _ _ _ [_,.int .i64 (1),_,_,_] _,_,_,_]) (j:=1) E (E.tmp rfl) (aC _) rfl rfl fK H (i:=2) rfl hd1 rfl rfl rfl rfl (fun a w E H=> ?_)
 refine wpList_nil (fO ?_)
 refine(iG E rfl ?_).2
 have H:=H.front 5 rfl
 have H:=H.front 5 rfl
 have H:=H.front 5 rfl
 have H:=H.front 5 rfl
 have H:=H.front 5 rfl
 have H:=H.front 5 rfl
 simp only[ku,iV,fT,Option.getD_some,qK,List.headD_cons,List.tail_cons,ts1,B1,B2,B3,B4,B5,B6,B7,B8,B9,B10,B11,dB,dD,dF]at hz
 obtain⟨rfl,rfl⟩:=Prod.mk.inj hz
 exact⟨_,_,_,_,_,_,rfl,H⟩
set_option maxHeartbeats 1000000 in
theorem Gy(y:aQ)(dd bb cB cT cR:Nat)(AT AR:Option Addr)(rb cA m k tb to ct:Nat)(n0:Int)(tl:List Int)(pc t b x:Int)(d1 d2:List D)(z:aQ)(v:ah)(w0:World){F:List Nat}(hS:Sep w0 [bC dd [.int .i64 (y.top),.int .i64 (y.bottom),.slice (some ⟨bb,0,none⟩) y.buffer.length cB,.slice (some ⟨rb,0,none⟩) m cA,.slice AT y.taken.length cT,.slice AR y.refused.length cR] 30,Gr (.slice (some ⟨bb,0,none⟩) y.buffer.length cB) 2 1 y.buffer.length (y.buffer.flatMap au),cK rb cA 57 5 m (d1) [.slice (some ⟨tb,to,none⟩) (tl.length+1) ct,.int .i64 (pc),.int .i64 (t),.int .i64 (b),.int .i64 (x)] (d2),Dat (.slice (some ⟨tb,to,none⟩) (tl.length+1) ct) (tl.length+1) ((n0::tl).flatMap au),Gr (.slice AT y.taken.length cT) 36 2 y.taken.length (y.taken.flatMap ak.enc),Gr (.slice AR y.refused.length cR) 2 1 y.refused.length (y.refused.flatMap au)] F)(hd1:d1.length=k*5)(hl:tl.length≤1000)(hb0:0<y.buffer.length)(hb1:y.buffer.length≤1000)(ht1:y.taken.length≤100000)(hr1:y.refused.length≤100000)(hz:(z,v)=iO y ⟨n0::tl,pc,t,b,x⟩ ((k:Nat):Int))(hkm:k<m):Calls Try.prog 68 #[.pointer (some ⟨dd,0,none⟩),.pointer (some ⟨rb,k*5,none⟩),.int .i64 (((k:Nat):Int))] w0 fun e w'=>∃AT' cT' AR' cR' At' ct',e=.returned (.tuple #[])∧Tr.Inv w0 F w' [bC dd [.int .i64 (z.top),.int .i64 (z.bottom),.slice (some ⟨bb,0,none⟩) y.buffer.length cB,.slice (some ⟨rb,0,none⟩) m cA,.slice AT' z.taken.length cT',.slice AR' z.refused.length cR'] 30,Gr (.slice (some ⟨bb,0,none⟩) y.buffer.length cB) 2 1 y.buffer.length (z.buffer.flatMap au),cK rb cA 57 5 m (d1) [.slice At' v.todo.length ct',.int .i64 (v.pc),.int .i64 (v.t),.int .i64 (v.b),.int .i64 (v.x)] (d2),Dat (.slice At' v.todo.length ct') v.todo.length (v.todo.flatMap au),Gr (.slice AT' z.taken.length cT') 36 2 z.taken.length (z.taken.flatMap ak.enc),Gr (.slice AR' z.refused.length cR') 2 1 z.refused.length (z.refused.flatMap au)]:=by
 refine bF (args:=[.pointer (some ⟨dd,0,none⟩),.pointer (some ⟨rb,k*5,none⟩),.int .i64 (((k:Nat):Int))]) Try.func68 rfl Try.ntmps68 rfl hS (fun a w E H=> ?_)
 have E:Env 66 a [(0,.pointer (some ⟨dd,0,none⟩)),(1,.pointer (some ⟨rb,k*5,none⟩)),(2,.int .i64 (((k:Nat):Int)))]:=E
 refine wp_seq (wp_region_lit ?_)
 refine vm E rfl rfl fun a E=>wv E rfl (aZ (E.tmp rfl)) fun a E=>wv E rfl (aS (o':=k*5+1) (E.tmp rfl) fF rfl) fun a E=>wv E rfl (aD (E.tmp rfl) eZ (H.bX 2 rfl hd1 (j:=1) rfl)) fun a E=> ?_
 refine wpList_nil (aj (wp_block (wp_seq (wp_region_lit ?_))))
 refine wv E rfl (aN (E.tmp rfl) (aC _) (gV (b:=pc==0) rfl)) fun a E=>va E rfl rfl fun a E=> ?_
 refine wpList_nil (aj ?_)
 rcases aU (pc==0)with ts1|ts1
 ·
  refine bG E rfl ts1 ?_
  refine wp_seq (wp_region_lit ?_)
  refine wv E rfl (aN (E.tmp rfl) (aC _) (gV (b:=pc==1) rfl)) fun a E=>va E rfl rfl fun a E=> ?_
  refine wpList_nil (aj ?_)
  rcases aU (pc==1)with ts2|ts2
  ·
   refine bG E rfl ts2 ?_
   refine wp_seq (wp_region_lit ?_)
   refine wv E rfl (aN (E.tmp rfl) (aC _) (gV (b:=pc==2) rfl)) fun a E=>va E rfl rfl fun a E=> ?_
   refine wpList_nil (aj ?_)
   rcases aU (pc==2)with ts3|ts3
   ·
    refine bG E rfl ts3 ?_
    refine wp_seq (wp_region_lit ?_)
    refine vm E rfl rfl fun a E=>vm E rfl rfl fun a E=> ?_
    rcases aU (y.top==t)with ts4|ts4
    ·
     have H:=H.front 4 rfl
     have H:=H.front 3 rfl
     have H:=H.front 2 rfl
     obtain⟨q5F,q5S,q5I,q5b⟩:=Tr.Inv.frame (pre:=[bC dd [.int .i64 (y.top),.int .i64 (y.bottom),.slice (some ⟨bb,0,none⟩) y.buffer.length cB,.slice (some ⟨rb,0,none⟩) m cA,.slice AT y.taken.length cT,.slice AR y.refused.length cR] 30,cK rb cA 57 5 m (d1) [.slice (some ⟨tb,to,none⟩) (tl.length+1) ct,.int .i64 (pc),.int .i64 (t),.int .i64 (b),.int .i64 (x)] (d2),Gr (.slice AT y.taken.length cT) 36 2 y.taken.length (y.taken.flatMap ak.enc)]) (rest:=[Gr (.slice (some ⟨bb,0,none⟩) y.buffer.length cB) 2 1 y.buffer.length (y.buffer.flatMap au),Dat (.slice (some ⟨tb,to,none⟩) (tl.length+1) ct) (tl.length+1) ((n0::tl).flatMap au),Gr (.slice AR y.refused.length cR) 2 1 y.refused.length (y.refused.flatMap au)]) H
     refine dR E rfl (aG (E.tmp rfl) (aG (E.tmp rfl) (aX))) rY (zJ dd y.taken.length cT AT y.top (.int .i64 (y.bottom)) (.slice (some ⟨bb,0,none⟩) y.buffer.length cB) (.slice AR y.refused.length cR) (y.taken.flatMap ak.enc) rb cA m k ct pc t b x (some ⟨tb,to,none⟩) (tl.length+1) d1 d2 w q5S (by omega) hkm hd1) ?_
     rintro _ w ⟨q5A,q5c,rfl,⟨hw,hI⟩|⟨hw,hI⟩⟩
     ·
      exact absurd (hw.symm.trans ts4) (by decide)
     refine⟨_,rfl,fun a E=> ?_⟩
     have H:=q5b _ _ hI
     clear hI hw q5S q5I q5b
     have H:Tr.Inv w0 F w [bC dd [.int .i64 (y.top),.int .i64 (y.bottom),.slice (some ⟨bb,0,none⟩) y.buffer.length cB,.slice (some ⟨rb,0,none⟩) m cA,.slice q5A y.taken.length q5c,.slice AR y.refused.length cR] 30,cK rb cA 57 5 m (d1) [.slice (some ⟨tb,to,none⟩) (tl.length+1) ct,.int .i64 (pc),.int .i64 (t),.int .i64 (b),.int .i64 (x)] (d2),Gr (.slice q5A y.taken.length q5c) 36 2 y.taken.length (y.taken.flatMap ak.enc),Gr (.slice (some ⟨bb,0,none⟩) y.buffer.length cB) 2 1 y.buffer.length (y.buffer.flatMap au),Dat (.slice (some ⟨tb,to,none⟩) (tl.length+1) ct) (tl.length+1) ((n0::tl).flatMap au),Gr (.slice AR y.refused.length cR) 2 1 y.refused.length (y.refused.flatMap au)]:=H
     refine wpList_nil (aj (wp_region_lit ?_))
     refine vm E rfl rfl fun a E=> ?_
     have H:=H.front 4 rfl
     have H:=H.front 2 rfl
     obtain⟨q6F,q6S,q6I,q6b⟩:=Tr.Inv.frame (pre:=[cK rb cA 57 5 m (d1) [.slice (some ⟨tb,to,none⟩) (tl.length+1) ct,.int .i64 (pc),.int .i64 (t),.int .i64 (b),.int .i64 (x)] (d2),Dat (.slice (some ⟨tb,to,none⟩) (tl.length+1) ct) (tl.length+1) ((n0::tl).flatMap au)]) (rest:=[bC dd [.int .i64 (y.top),.int .i64 (y.bottom),.slice (some ⟨bb,0,none⟩) y.buffer.length cB,.slice (some ⟨rb,0,none⟩) m cA,.slice q5A y.taken.length q5c,.slice AR y.refused.length cR] 30,Gr (.slice q5A y.taken.length q5c) 36 2 y.taken.length (y.taken.flatMap ak.enc),Gr (.slice (some ⟨bb,0,none⟩) y.buffer.length cB) 2 1 y.buffer.length (y.buffer.flatMap au),Gr (.slice AR y.refused.length cR) 2 1 y.refused.length (y.refused.flatMap au)]) H
     refine dR E rfl (aG (E.tmp rfl) (aX)) nX (pU rb cA m k tb to ct n0 tl pc t b x d1 d2 w q6S hd1 hl) ?_
     rintro _ w ⟨q6A,q6c,rfl,hI⟩
     refine⟨_,rfl,fun a E=> ?_⟩
     have H:=q6b _ _ hI
     clear hI q6S q6I q6b
     have H:Tr.Inv w0 F w [cK rb cA 57 5 m (d1) [.slice q6A tl.length q6c,.int .i64 (0),.int .i64 (0),.int .i64 (0),.int .i64 (0)] (d2),Dat (.slice q6A tl.length q6c) tl.length (tl.flatMap au),bC dd [.int .i64 (y.top),.int .i64 (y.bottom),.slice (some ⟨bb,0,none⟩) y.buffer.length cB,.slice (some ⟨rb,0,none⟩) m cA,.slice q5A y.taken.length q5c,.slice AR y.refused.length cR] 30,Gr (.slice q5A y.taken.length q5c) 36 2 y.taken.length (y.taken.flatMap ak.enc),Gr (.slice (some ⟨bb,0,none⟩) y.buffer.length cB) 2 1 y.buffer.length (y.buffer.flatMap au),Gr (.slice AR y.refused.length cR) 2 1 y.refused.length (y.refused.flatMap au)]:=H
     refine wpList_nil (fO ?_)
     refine(iG E rfl ?_).2
     have H:=H.front 5 rfl
     have H:=H.front 4 rfl
     have H:=H.front 3 rfl
     have H:=H.front 3 rfl
     have H:=H.front 5 rfl
     have H:=H.front 5 rfl
     simp only[iO,iV,fT,Option.getD_some,qK,List.headD_cons,List.tail_cons,ts1,ts2,ts3,ts4,B1,B2,B3,B4,B5,B6,B7,B8,B9,B10,B11,dB,dD,dF]at hz
     obtain⟨rfl,rfl⟩:=Prod.mk.inj hz
     exact⟨_,_,_,_,_,_,rfl,H⟩
    have H:=H.front 4 rfl
    have H:=H.front 3 rfl
    have H:=H.front 2 rfl
    obtain⟨q7F,q7S,q7I,q7b⟩:=Tr.Inv.frame (pre:=[bC dd [.int .i64 (y.top),.int .i64 (y.bottom),.slice (some ⟨bb,0,none⟩) y.buffer.length cB,.slice (some ⟨rb,0,none⟩) m cA,.slice AT y.taken.length cT,.slice AR y.refused.length cR] 30,cK rb cA 57 5 m (d1) [.slice (some ⟨tb,to,none⟩) (tl.length+1) ct,.int .i64 (pc),.int .i64 (t),.int .i64 (b),.int .i64 (x)] (d2),Gr (.slice AT y.taken.length cT) 36 2 y.taken.length (y.taken.flatMap ak.enc)]) (rest:=[Gr (.slice (some ⟨bb,0,none⟩) y.buffer.length cB) 2 1 y.buffer.length (y.buffer.flatMap au),Dat (.slice (some ⟨tb,to,none⟩) (tl.length+1) ct) (tl.length+1) ((n0::tl).flatMap au),Gr (.slice AR y.refused.length cR) 2 1 y.refused.length (y.refused.flatMap au)]) H
    refine dR E rfl (aG (E.tmp rfl) (aG (E.tmp rfl) (aX))) rY (zJ dd y.taken.length cT AT y.top (.int .i64 (y.bottom)) (.slice (some ⟨bb,0,none⟩) y.buffer.length cB) (.slice AR y.refused.length cR) (y.taken.flatMap ak.enc) rb cA m k ct pc t b x (some ⟨tb,to,none⟩) (tl.length+1) d1 d2 w q7S (by omega) hkm hd1) ?_
    rintro _ w ⟨q7A,q7c,rfl,⟨hw,hI⟩|⟨hw,hI⟩⟩
    rotate_left
    ·
     exact absurd (hw.symm.trans ts4) (by decide)
    refine⟨_,rfl,fun a E=> ?_⟩
    have H:=q7b _ _ hI
    clear hI hw q7S q7I q7b
    have e1:y.taken.flatMap ak.enc++[D.v (.int .i64 (((k:Nat):Int))),D.v (.int .i64 (x))]=(y.taken++[ak.mk ((k:Nat):Int) x]).flatMap ak.enc:=by simp[ak.enc]
    have e2:y.taken.length+1=(y.taken++[ak.mk ((k:Nat):Int) x]).length:=by simp
    rw[e1,e2]at H
    have H:Tr.Inv w0 F w [bC dd [.int .i64 (IntKind.i64.wrap (t+1)),.int .i64 (y.bottom),.slice (some ⟨bb,0,none⟩) y.buffer.length cB,.slice (some ⟨rb,0,none⟩) m cA,.slice q7A ((y.taken++[ak.mk ((k:Nat):Int) x]).length) q7c,.slice AR y.refused.length cR] 30,cK rb cA 57 5 m (d1) [.slice (some ⟨tb,to,none⟩) (tl.length+1) ct,.int .i64 (pc),.int .i64 (t),.int .i64 (b),.int .i64 (x)] (d2),Gr (.slice q7A ((y.taken++[ak.mk ((k:Nat):Int) x]).length) q7c) 36 2 ((y.taken++[ak.mk ((k:Nat):Int) x]).length) ((y.taken++[ak.mk ((k:Nat):Int) x]).flatMap ak.enc),Gr (.slice (some ⟨bb,0,none⟩) y.buffer.length cB) 2 1 y.buffer.length (y.buffer.flatMap au),Dat (.slice (some ⟨tb,to,none⟩) (tl.length+1) ct) (tl.length+1) ((n0::tl).flatMap au),Gr (.slice AR y.refused.length cR) 2 1 y.refused.length (y.refused.flatMap au)]:=H
    refine wpList_nil (aj (wp_region_lit ?_))
    refine vm E rfl rfl fun a E=> ?_
    have H:=H.front 4 rfl
    have H:=H.front 2 rfl
    obtain⟨q8F,q8S,q8I,q8b⟩:=Tr.Inv.frame (pre:=[cK rb cA 57 5 m (d1) [.slice (some ⟨tb,to,none⟩) (tl.length+1) ct,.int .i64 (pc),.int .i64 (t),.int .i64 (b),.int .i64 (x)] (d2),Dat (.slice (some ⟨tb,to,none⟩) (tl.length+1) ct) (tl.length+1) ((n0::tl).flatMap au)]) (rest:=[bC dd [.int .i64 (IntKind.i64.wrap (t+1)),.int .i64 (y.bottom),.slice (some ⟨bb,0,none⟩) y.buffer.length cB,.slice (some ⟨rb,0,none⟩) m cA,.slice q7A ((y.taken++[ak.mk ((k:Nat):Int) x]).length) q7c,.slice AR y.refused.length cR] 30,Gr (.slice q7A ((y.taken++[ak.mk ((k:Nat):Int) x]).length) q7c) 36 2 ((y.taken++[ak.mk ((k:Nat):Int) x]).length) ((y.taken++[ak.mk ((k:Nat):Int) x]).flatMap ak.enc),Gr (.slice (some ⟨bb,0,none⟩) y.buffer.length cB) 2 1 y.buffer.length (y.buffer.flatMap au),Gr (.slice AR y.refused.length cR) 2 1 y.refused.length (y.refused.flatMap au)]) H
    refine dR E rfl (aG (E.tmp rfl) (aX)) nX (pU rb cA m k tb to ct n0 tl pc t b x d1 d2 w q8S hd1 hl) ?_
    rintro _ w ⟨q8A,q8c,rfl,hI⟩
    refine⟨_,rfl,fun a E=> ?_⟩
    have H:=q8b _ _ hI
    clear hI q8S q8I q8b
    have H:Tr.Inv w0 F w [cK rb cA 57 5 m (d1) [.slice q8A tl.length q8c,.int .i64 (0),.int .i64 (0),.int .i64 (0),.int .i64 (0)] (d2),Dat (.slice q8A tl.length q8c) tl.length (tl.flatMap au),bC dd [.int .i64 (IntKind.i64.wrap (t+1)),.int .i64 (y.bottom),.slice (some ⟨bb,0,none⟩) y.buffer.length cB,.slice (some ⟨rb,0,none⟩) m cA,.slice q7A ((y.taken++[ak.mk ((k:Nat):Int) x]).length) q7c,.slice AR y.refused.length cR] 30,Gr (.slice q7A ((y.taken++[ak.mk ((k:Nat):Int) x]).length) q7c) 36 2 ((y.taken++[ak.mk ((k:Nat):Int) x]).length) ((y.taken++[ak.mk ((k:Nat):Int) x]).flatMap ak.enc),Gr (.slice (some ⟨bb,0,none⟩) y.buffer.length cB) 2 1 y.buffer.length (y.buffer.flatMap au),Gr (.slice AR y.refused.length cR) 2 1 y.refused.length (y.refused.flatMap au)]:=H
    refine wpList_nil (fO ?_)
    refine(iG E rfl ?_).2
    have H:=H.front 5 rfl
    have H:=H.front 4 rfl
    have H:=H.front 3 rfl
    have H:=H.front 3 rfl
    have H:=H.front 5 rfl
    have H:=H.front 5 rfl
    simp only[iO,iV,fT,Option.getD_some,qK,List.headD_cons,List.tail_cons,ts1,ts2,ts3,ts4,B1,B2,B3,B4,B5,B6,B7,B8,B9,B10,B11,dB,dD,dF]at hz
    obtain⟨rfl,rfl⟩:=Prod.mk.inj hz
    exact⟨_,_,_,_,_,_,rfl,H⟩
   refine bH E rfl ts3 ?_
   refine wp_seq ?_
   obtain⟨kk,hkk,hkl⟩:=BA t hb0 hb1
   have H:=H.front 1 rfl
   obtain⟨old,u9u,hold,H⟩:=H.Dr (f:=au) (s:=1) (fun _=>rfl) rfl hkl
   obtain⟨u9v,rfl,H⟩:=(H.front 1 rfl).BH
   obtain⟨rfl,H⟩:=H.Io
   have H:Tr.Inv w0 F w [cK bb cB 2 1 y.buffer.length ((y.buffer.take kk).flatMap au) [.int .i64 (old)] ((y.buffer.drop (kk+1)).flatMap au),bC dd [.int .i64 (y.top),.int .i64 (y.bottom),.slice (some ⟨bb,0,none⟩) y.buffer.length cB,.slice (some ⟨rb,0,none⟩) m cA,.slice AT y.taken.length cT,.slice AR y.refused.length cR] 30,cK rb cA 57 5 m (d1) [.slice (some ⟨tb,to,none⟩) (tl.length+1) ct,.int .i64 (pc),.int .i64 (t),.int .i64 (b),.int .i64 (x)] (d2),Dat (.slice (some ⟨tb,to,none⟩) (tl.length+1) ct) (tl.length+1) ((n0::tl).flatMap au),Gr (.slice AT y.taken.length cT) 36 2 y.taken.length (y.taken.flatMap ak.enc),Gr (.slice AR y.refused.length cR) 2 1 y.refused.length (y.refused.flatMap au)]:=H
   refine wp_region_lit ?_
   refine vm E rfl rfl fun a E=>vm E rfl rfl fun a E=>vm E rfl rfl fun a E=>wv E rfl (aZ (E.tmp rfl)) fun a E=>wv E rfl (aS (o':=k*5+2) (E.tmp rfl) jM rfl) fun a E=> ?_
   refine wv E rfl (aD (E.tmp rfl) eZ (H.bX 2 rfl hd1 (j:=2) rfl)) fun a E=> ?_
   refine dx (v:=.pointer (some ⟨bb,kk*1,none⟩)) E rfl (aG (E.tmp rfl) (aG (E.tmp rfl) (aX))) Ay (wP dd y.buffer.length cB bb kk t w (H.Lc 1 rfl rfl) hkk hkl) H (fun a w E H=> ?_)
   refine wv E rfl (aZ (E.tmp rfl)) fun a E=>wv E rfl (aD (E.tmp rfl) eZ (H.bX 0 rfl (take_len au 1 (fun _=>rfl) hkl) (j:=0) rfl)) fun a E=>wv E rfl (aZ (E.tmp rfl)) fun a E=>wv E rfl (aS (o':=k*5+4) (E.tmp rfl) wo rfl) fun a E=> ?_
   refine dS (vs:=[.int .i64 (old)]) (us':=[_,_,_,_,.int .i64 (old)]) (rs':=[_,_,cK _ _ _ _ _ _ [_,_,_,_,.int .i64 (old)] _,_,_,_]) (j:=4) E (E.tmp rfl) (E.tmp rfl) rfl rfl fK H (i:=2) rfl hd1 rfl rfl rfl rfl (fun a w E H=> ?_)
   refine wpList_nil (aj (wp_region_lit ?_))
   refine vm E rfl rfl fun a E=>wv E rfl (aZ (E.tmp rfl)) fun a E=>wv E rfl (aS (o':=k*5+1) (E.tmp rfl) fF rfl) fun a E=> ?_
   refine dS (vs:=[.int .i64 (3)]) (us':=[_,.int .i64 (3),_,_,_]) (rs':=[_,_,cK _ _ _ _ _ _ [_,.int .i64 (3),_,_,_] _,_,_,_]) (j:=1) E (E.tmp rfl) (aC _) rfl rfl fK H (i:=2) rfl hd1 rfl rfl rfl rfl (fun a w E H=> ?_)
   refine wpList_nil (fO ?_)
   refine(iG E rfl ?_).2
   have H:=(H.flat (us:=[.int .i64 (old)]) rfl).front 1 rfl
   have H:=Tr.Inv.Gu (f:=au) (y:=old) H hold
   have H:Tr.Inv w0 F w [Gr (.slice (some ⟨bb,0,none⟩) y.buffer.length cB) 2 1 y.buffer.length (y.buffer.flatMap au),bC dd [.int .i64 (y.top),.int .i64 (y.bottom),.slice (some ⟨bb,0,none⟩) y.buffer.length cB,.slice (some ⟨rb,0,none⟩) m cA,.slice AT y.taken.length cT,.slice AR y.refused.length cR] 30,cK rb cA 57 5 m (d1) [.slice (some ⟨tb,to,none⟩) (tl.length+1) ct,.int .i64 (3),.int .i64 (t),.int .i64 (b),.int .i64 (old)] (d2),Dat (.slice (some ⟨tb,to,none⟩) (tl.length+1) ct) (tl.length+1) ((n0::tl).flatMap au),Gr (.slice AT y.taken.length cT) 36 2 y.taken.length (y.taken.flatMap ak.enc),Gr (.slice AR y.refused.length cR) 2 1 y.refused.length (y.refused.flatMap au)]:=H
   have H:=H.front 5 rfl
   have H:=H.front 5 rfl
   have H:=H.front 5 rfl
   have H:=H.front 5 rfl
   have H:=H.front 4 rfl
   have H:=H.front 5 rfl
   simp only[iO,iV,fT,Option.getD_some,qK,List.headD_cons,List.tail_cons,ts1,ts2,ts3,hkk,hold,B1,B2,B3,B4,B5,B6,B7,B8,B9,B10,B11,dB,dD,dF]at hz
   obtain⟨rfl,rfl⟩:=Prod.mk.inj hz
   exact⟨_,_,_,_,_,_,rfl,H⟩
  refine bH E rfl ts2 ?_
  refine wp_seq (wp_region_lit ?_)
  refine vm E rfl rfl fun a E=>vm E rfl rfl fun a E=>wv E rfl (aZ (E.tmp rfl)) fun a E=>wv E rfl (aS (o':=1) (E.tmp rfl) kS rfl) fun a E=>wv E rfl (aD (E.tmp rfl) eZ (H.cell 0 rfl rfl)) fun a E=> ?_
  refine wv E rfl (aZ (E.tmp rfl)) fun a E=>wv E rfl (aS (o':=k*5+3) (E.tmp rfl) iM rfl) fun a E=> ?_
  refine dS (vs:=[.int .i64 (y.bottom)]) (us':=[_,_,_,.int .i64 (y.bottom),_]) (rs':=[_,_,cK _ _ _ _ _ _ [_,_,_,.int .i64 (y.bottom),_] _,_,_,_]) (j:=3) E (E.tmp rfl) (E.tmp rfl) rfl rfl fK H (i:=2) rfl hd1 rfl rfl rfl rfl (fun a w E H=> ?_)
  refine wpList_nil (aj (wp_seq (wp_seq ?_)))
  let fl7:Flow:=⟨[.c (.pointer (some ⟨rb,k*5,none⟩)),.c (.pointer (some ⟨rb,k*5,none⟩)),.c (.pointer (some ⟨rb,k*5+2,none⟩)),{ dep:=[],val:=fun _=>.int .i64 (t),rd:=[2]},.c (.pointer (some ⟨rb,k*5,none⟩)),.c (.pointer (some ⟨rb,k*5,none⟩)),.c (.pointer (some ⟨rb,k*5+3,none⟩)),{ dep:=[],val:=fun _=>.int .i64 (y.bottom),rd:=[2]},.c (.bool (decide (y.bottom≤t)))],[{ dep:=[],res:=fun _=>bC dd [.int .i64 (y.top),.int .i64 (y.bottom),.slice (some ⟨bb,0,none⟩) y.buffer.length cB,.slice (some ⟨rb,0,none⟩) m cA,.slice AT y.taken.length cT,.slice AR y.refused.length cR] 30,prod:=none,cons:=none},{ dep:=[],res:=fun _=>Gr (.slice (some ⟨bb,0,none⟩) y.buffer.length cB) 2 1 y.buffer.length (y.buffer.flatMap au),prod:=none,cons:=none},{ dep:=[],res:=fun _=>cK rb cA 57 5 m (d1) [.slice (some ⟨tb,to,none⟩) (tl.length+1) ct,.int .i64 (pc),.int .i64 (t),.int .i64 (y.bottom),.int .i64 (x)] (d2),prod:=none,cons:=none},{ dep:=[],res:=fun _=>Dat (.slice (some ⟨tb,to,none⟩) (tl.length+1) ct) (tl.length+1) ((n0::tl).flatMap au),prod:=none,cons:=none},{ dep:=[],res:=fun _=>Gr (.slice AT y.taken.length cT) 36 2 y.taken.length (y.taken.flatMap ak.enc),prod:=none,cons:=none},{ dep:=[],res:=fun _=>Gr (.slice AR y.refused.length cR) 2 1 y.refused.length (y.refused.flatMap au),prod:=none,cons:=none}],[[],[0],[0,1],[0,1,2],[],[4],[4,5],[4,5,6],[0,1,2,3,4,5,6,7]]⟩
  have E:Env 66 a [(0,.pointer (some ⟨dd,0,none⟩)),(1,.pointer (some ⟨rb,k*5,none⟩)),(2,.int .i64 (((k:Nat):Int))),(6,.pointer (some ⟨rb,k*5,none⟩)),(7,.pointer (some ⟨rb,k*5,none⟩)),(8,.pointer (some ⟨rb,k*5+1,none⟩)),(9,.int .i64 (pc)),(15,.bool (pc==0)),(16,.bool (pc==0)),(27,.bool (pc==1)),(28,.bool (pc==1)),(29,.pointer (some ⟨rb,k*5,none⟩)),(30,.pointer (some ⟨dd,0,none⟩)),(31,.pointer (some ⟨dd,0,none⟩)),(32,.pointer (some ⟨dd,1,none⟩)),(33,.int .i64 (y.bottom)),(34,.pointer (some ⟨rb,k*5,none⟩)),(35,.pointer (some ⟨rb,k*5+3,none⟩))]:=(Env.pick E (Env.pick E (Env.pick E (Env.pick E (Env.pick E (Env.pick E (Env.pick E (Env.pick E (Env.pick E (Env.pick E (Env.pick E (Env.pick E (Env.pick E (Env.pick E (Env.pick E (Env.pick E (Env.pick E (Env.pick E E.nil rfl) rfl) rfl) rfl) rfl) rfl) rfl) rfl) rfl) rfl) rfl) rfl) rfl) rfl) rfl) rfl) rfl) rfl)
  refine iK (rs:=[]) rfl fl7 E (by rw[qS];exact H) 9 rfl (by kernel_rfl) ?_ ?_
  ·
   refine aB.snoc (aB.snoc (aB.snoc (aB.snoc (aB.snoc (aB.snoc (aB.snoc (aB.snoc (aB.snoc (aB.zero _) ?_) ?_) ?_) ?_) ?_) ?_) ?_) ?_) ?_
   ·
    refine⟨_,_,_,rfl,rfl,rfl,fun ν a w rs E hk ht H=> ?_⟩
    exact Gives.val rfl (bN (E.tmp rfl)) ⟨trivial,rfl,H⟩
   ·
    refine⟨_,_,_,rfl,rfl,rfl,fun ν a w rs E hk ht H=> ?_⟩
    have E:=Env.add (v:=.pointer (some ⟨rb,k*5,none⟩)) E (ht 0 (by decide) _ _ 36 rfl rfl rfl)
    exact Gives.val rfl (aZ (E.tmp rfl)) ⟨trivial,rfl,H⟩
   ·
    refine⟨_,_,_,rfl,rfl,rfl,fun ν a w rs E hk ht H=> ?_⟩
    have E:=Env.add (v:=.pointer (some ⟨rb,k*5,none⟩)) E (ht 1 (by decide) _ _ 37 rfl rfl rfl)
    exact Gives.val rfl (aS (o':=k*5+2) (E.tmp rfl) jM rfl) ⟨trivial,rfl,H⟩
   ·
    refine⟨_,_,_,rfl,rfl,rfl,fun ν a w rs E hk ht H=> ?_⟩
    have E:=Env.add (v:=.pointer (some ⟨rb,k*5+2,none⟩)) E (ht 2 (by decide) _ _ 38 rfl rfl rfl)
    have H:Tr.Inv w0 F w ([cK rb cA 57 5 m (d1) [.slice (some ⟨tb,to,none⟩) (tl.length+1) ct,.int .i64 (pc),.int .i64 (t),.int .i64 (y.bottom),.int .i64 (x)] (d2)]++([]++rs)):=H
    exact Gives.val rfl (aD (E.tmp rfl) eZ (H.bX 0 rfl hd1 (j:=2) rfl)) ⟨trivial,rfl,H⟩
   ·
    refine⟨_,_,_,rfl,rfl,rfl,fun ν a w rs E hk ht H=> ?_⟩
    exact Gives.val rfl (bN (E.tmp rfl)) ⟨trivial,rfl,H⟩
   ·
    refine⟨_,_,_,rfl,rfl,rfl,fun ν a w rs E hk ht H=> ?_⟩
    have E:=Env.add (v:=.pointer (some ⟨rb,k*5,none⟩)) E (ht 4 (by decide) _ _ 40 rfl rfl rfl)
    exact Gives.val rfl (aZ (E.tmp rfl)) ⟨trivial,rfl,H⟩
   ·
    refine⟨_,_,_,rfl,rfl,rfl,fun ν a w rs E hk ht H=> ?_⟩
    have E:=Env.add (v:=.pointer (some ⟨rb,k*5,none⟩)) E (ht 5 (by decide) _ _ 41 rfl rfl rfl)
    exact Gives.val rfl (aS (o':=k*5+3) (E.tmp rfl) iM rfl) ⟨trivial,rfl,H⟩
   ·
    refine⟨_,_,_,rfl,rfl,rfl,fun ν a w rs E hk ht H=> ?_⟩
    have E:=Env.add (v:=.pointer (some ⟨rb,k*5+3,none⟩)) E (ht 6 (by decide) _ _ 42 rfl rfl rfl)
    have H:Tr.Inv w0 F w ([cK rb cA 57 5 m (d1) [.slice (some ⟨tb,to,none⟩) (tl.length+1) ct,.int .i64 (pc),.int .i64 (t),.int .i64 (y.bottom),.int .i64 (x)] (d2)]++([]++rs)):=H
    exact Gives.val rfl (aD (E.tmp rfl) eZ (H.bX 0 rfl hd1 (j:=3) rfl)) ⟨trivial,rfl,H⟩
   ·
    refine⟨_,_,_,rfl,rfl,rfl,fun ν a w rs E hk ht H=> ?_⟩
    have E:=Env.add (v:=.int .i64 (t)) E (ht 3 (by decide) _ _ 39 rfl rfl rfl)
    have E:=Env.add (v:=.int .i64 (y.bottom)) E (ht 7 (by decide) _ _ 43 rfl rfl rfl)
    exact Gives.val rfl (aN (E.tmp rfl) (E.tmp rfl) (lq (b:=decide (y.bottom≤t)) rfl)) ⟨trivial,rfl,H⟩
  ·
   refine fun ν a w E hk ht H=> ?_
   have E:=Env.add E (show a.tmps[44]? =some (.bool (decide (y.bottom≤t))) from ht 8 _ _ 44 rfl rfl rfl)
   have H:Tr.Inv w0 F w [bC dd [.int .i64 (y.top),.int .i64 (y.bottom),.slice (some ⟨bb,0,none⟩) y.buffer.length cB,.slice (some ⟨rb,0,none⟩) m cA,.slice AT y.taken.length cT,.slice AR y.refused.length cR] 30,Gr (.slice (some ⟨bb,0,none⟩) y.buffer.length cB) 2 1 y.buffer.length (y.buffer.flatMap au),cK rb cA 57 5 m (d1) [.slice (some ⟨tb,to,none⟩) (tl.length+1) ct,.int .i64 (pc),.int .i64 (t),.int .i64 (y.bottom),.int .i64 (x)] (d2),Dat (.slice (some ⟨tb,to,none⟩) (tl.length+1) ct) (tl.length+1) ((n0::tl).flatMap au),Gr (.slice AT y.taken.length cT) 36 2 y.taken.length (y.taken.flatMap ak.enc),Gr (.slice AR y.refused.length cR) 2 1 y.refused.length (y.refused.flatMap au)]:=H
   have E:Env 66 a [(0,.pointer (some ⟨dd,0,none⟩)),(1,.pointer (some ⟨rb,k*5,none⟩)),(2,.int .i64 (((k:Nat):Int))),(6,.pointer (some ⟨rb,k*5,none⟩)),(7,.pointer (some ⟨rb,k*5,none⟩)),(8,.pointer (some ⟨rb,k*5+1,none⟩)),(9,.int .i64 (pc)),(15,.bool (pc==0)),(16,.bool (pc==0)),(27,.bool (pc==1)),(28,.bool (pc==1)),(29,.pointer (some ⟨rb,k*5,none⟩)),(30,.pointer (some ⟨dd,0,none⟩)),(31,.pointer (some ⟨dd,0,none⟩)),(32,.pointer (some ⟨dd,1,none⟩)),(33,.int .i64 (y.bottom)),(34,.pointer (some ⟨rb,k*5,none⟩)),(35,.pointer (some ⟨rb,k*5+3,none⟩)),(44,.bool (decide (y.bottom≤t)))]:=(Env.pick E (Env.pick E (Env.pick E (Env.pick E (Env.pick E (Env.pick E (Env.pick E (Env.pick E (Env.pick E (Env.pick E (Env.pick E (Env.pick E (Env.pick E (Env.pick E (Env.pick E (Env.pick E (Env.pick E (Env.pick E (Env.pick E E.nil rfl) rfl) rfl) rfl) rfl) rfl) rfl) rfl) rfl) rfl) rfl) rfl) rfl) rfl) rfl) rfl) rfl) rfl) rfl)
   clear hk ht
   refine aj ?_
   rcases aU (decide (y.bottom≤t))with ts10|ts10
   ·
    refine bG E rfl ts10 ?_
    refine wp_skip (aj (wp_region_lit ?_))
    refine vm E rfl rfl fun a E=>wv E rfl (aZ (E.tmp rfl)) fun a E=>wv E rfl (aS (o':=k*5+1) (E.tmp rfl) fF rfl) fun a E=> ?_
    refine dS (vs:=[.int .i64 (2)]) (us':=[_,.int .i64 (2),_,_,_]) (rs':=[_,_,cK _ _ _ _ _ _ [_,.int .i64 (2),_,_,_] _,_,_,_]) (j:=1) E (E.tmp rfl) (aC _) rfl rfl fK H (i:=2) rfl hd1 rfl rfl rfl rfl (fun a w E H=> ?_)
    refine wpList_nil (fO ?_)
    refine(iG E rfl ?_).2
    have H:=H.front 5 rfl
    have H:=H.front 5 rfl
    have H:=H.front 5 rfl
    have H:=H.front 5 rfl
    have H:=H.front 5 rfl
    have H:=H.front 5 rfl
    simp only[iO,iV,fT,Option.getD_some,qK,List.headD_cons,List.tail_cons,ts1,ts2,ts10,B1,B2,B3,B4,B5,B6,B7,B8,B9,B10,B11,dB,dD,dF]at hz
    obtain⟨rfl,rfl⟩:=Prod.mk.inj hz
    exact⟨_,_,_,_,_,_,rfl,H⟩
   refine bH E rfl ts10 ?_
   refine wp_seq (wp_region_lit ?_)
   refine vm E rfl rfl fun a E=> ?_
   have H:=H.front 3 rfl
   have H:=H.front 3 rfl
   obtain⟨q11F,q11S,q11I,q11b⟩:=Tr.Inv.frame (pre:=[cK rb cA 57 5 m (d1) [.slice (some ⟨tb,to,none⟩) (tl.length+1) ct,.int .i64 (pc),.int .i64 (t),.int .i64 (y.bottom),.int .i64 (x)] (d2),Dat (.slice (some ⟨tb,to,none⟩) (tl.length+1) ct) (tl.length+1) ((n0::tl).flatMap au)]) (rest:=[bC dd [.int .i64 (y.top),.int .i64 (y.bottom),.slice (some ⟨bb,0,none⟩) y.buffer.length cB,.slice (some ⟨rb,0,none⟩) m cA,.slice AT y.taken.length cT,.slice AR y.refused.length cR] 30,Gr (.slice (some ⟨bb,0,none⟩) y.buffer.length cB) 2 1 y.buffer.length (y.buffer.flatMap au),Gr (.slice AT y.taken.length cT) 36 2 y.taken.length (y.taken.flatMap ak.enc),Gr (.slice AR y.refused.length cR) 2 1 y.refused.length (y.refused.flatMap au)]) H
   refine dR E rfl (aG (E.tmp rfl) (aX)) nX (pU rb cA m k tb to ct n0 tl pc t y.bottom x d1 d2 w q11S hd1 hl) ?_
   rintro _ w ⟨q11A,q11c,rfl,hI⟩
   refine⟨_,rfl,fun a E=> ?_⟩
   have H:=q11b _ _ hI
   clear hI q11S q11I q11b
   have H:Tr.Inv w0 F w [cK rb cA 57 5 m (d1) [.slice q11A tl.length q11c,.int .i64 (0),.int .i64 (0),.int .i64 (0),.int .i64 (0)] (d2),Dat (.slice q11A tl.length q11c) tl.length (tl.flatMap au),bC dd [.int .i64 (y.top),.int .i64 (y.bottom),.slice (some ⟨bb,0,none⟩) y.buffer.length cB,.slice (some ⟨rb,0,none⟩) m cA,.slice AT y.taken.length cT,.slice AR y.refused.length cR] 30,Gr (.slice (some ⟨bb,0,none⟩) y.buffer.length cB) 2 1 y.buffer.length (y.buffer.flatMap au),Gr (.slice AT y.taken.length cT) 36 2 y.taken.length (y.taken.flatMap ak.enc),Gr (.slice AR y.refused.length cR) 2 1 y.refused.length (y.refused.flatMap au)]:=H
   refine wpList_nil (aj (wp_ret (bM (iQ ?_))))
   refine(iG E rfl ?_).1
   have H:=H.front 5 rfl
   have H:=H.front 5 rfl
   have H:=H.front 3 rfl
   have H:=H.front 3 rfl
   have H:=H.front 5 rfl
   have H:=H.front 5 rfl
   simp only[iO,iV,fT,Option.getD_some,qK,List.headD_cons,List.tail_cons,ts1,ts2,ts10,B1,B2,B3,B4,B5,B6,B7,B8,B9,B10,B11,dB,dD,dF]at hz
   obtain⟨rfl,rfl⟩:=Prod.mk.inj hz
   exact⟨_,_,_,_,_,_,rfl,H⟩
 refine bH E rfl ts1 ?_
 refine wp_region_lit ?_
 refine vm E rfl rfl fun a E=>vm E rfl rfl fun a E=>vm E rfl rfl fun a E=>wv E rfl (aZ (E.tmp rfl)) fun a E=>wv E rfl (aS (o':=0) (E.tmp rfl) vT rfl) fun a E=> ?_
 refine wv E rfl (aD (E.tmp rfl) eZ (H.cell 0 rfl rfl)) fun a E=>wv E rfl (aZ (E.tmp rfl)) fun a E=>wv E rfl (aS (o':=k*5+2) (E.tmp rfl) jM rfl) fun a E=> ?_
 refine dS (vs:=[.int .i64 (y.top)]) (us':=[_,_,.int .i64 (y.top),_,_]) (rs':=[_,_,cK _ _ _ _ _ _ [_,_,.int .i64 (y.top),_,_] _,_,_,_]) (j:=2) E (E.tmp rfl) (E.tmp rfl) rfl rfl fK H (i:=2) rfl hd1 rfl rfl rfl rfl (fun a w E H=> ?_)
 refine wv E rfl (aZ (E.tmp rfl)) fun a E=>wv E rfl (aS (o':=k*5+1) (E.tmp rfl) fF rfl) fun a E=> ?_
 refine dS (vs:=[.int .i64 (1)]) (us':=[_,.int .i64 (1),_,_,_]) (rs':=[_,_,cK _ _ _ _ _ _ [_,.int .i64 (1),_,_,_] _,_,_,_]) (j:=1) E (E.tmp rfl) (aC _) rfl rfl fK H (i:=2) rfl hd1 rfl rfl rfl rfl (fun a w E H=> ?_)
 refine wpList_nil (fO ?_)
 refine(iG E rfl ?_).2
 have H:=H.front 5 rfl
 have H:=H.front 5 rfl
 have H:=H.front 5 rfl
 have H:=H.front 5 rfl
 have H:=H.front 5 rfl
 have H:=H.front 5 rfl
 simp only[iO,iV,fT,Option.getD_some,qK,List.headD_cons,List.tail_cons,ts1,B1,B2,B3,B4,B5,B6,B7,B8,B9,B10,B11,dB,dD,dF]at hz
 obtain⟨rfl,rfl⟩:=Prod.mk.inj hz
 exact⟨_,_,_,_,_,_,rfl,H⟩
end Go.Proofs.Ytjpaeopdljfjpaa
