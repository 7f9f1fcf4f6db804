
/- Deques. Printed by gx_dq.py. -/
import Derived.Test.YtjpaeopdljfjpaaProg
import Derived.Test.YtjpaeopdljfjpaaSc
import Derived.Test.YtjpaeopdljfjpaaDDq
import Derived.Test.YtjpaeopdljfjpaaNet
import Derived.IntWalk
import Derived.Test.YtjpaeopdljfjpaaDq14
set_option linter.unusedSimpArgs false
set_option linter.unusedVariables false
namespace Go.Tr
def ay(a:ah):Bool:=decide ((0:Int)<((a.todo.length:Nat):Int))&&bZ a&&decide (1≤a.pc)
end Go.Tr
namespace Go.Proofs.Ytjpaeopdljfjpaa
open Go Go.RowKit Go.Proofs Go.Tr
theorem jL:bI Try.prog 57 0=some 0:=by kernel_rfl
theorem lJ:eP Try.prog 24=some false:=by kernel_rfl
theorem nN:cO Try.prog 24=some (2,1):=by kernel_rfl
theorem dV:eP Try.prog 2=some false:=by kernel_rfl
theorem iL:bI Try.prog 57 1=some 1:=by kernel_rfl
theorem kU:bI Try.prog 57 3=some 3:=by kernel_rfl
theorem lX:dA Try.prog 57=true:=by kernel_rfl
theorem Cy:eP Try.prog 4=some false:=by kernel_rfl
theorem zR:eP Try.prog 57=some true:=by kernel_rfl
theorem Bd:(Try.prog.info? 57).map (·.size)=some 5:=by kernel_rfl
theorem Aw:dA Try.prog 59=true:=by kernel_rfl
theorem p9:bI Try.prog 57 2=some 2:=by kernel_rfl
theorem qb:bI Try.prog 57 4=some 4:=by kernel_rfl
set_option maxHeartbeats 1000000 in
theorem xu(x:ah)(aA:Option Addr)(ac:Nat)(w0:World)(aH:dz w0 [] (.sl x.todo.length (x.todo.flatMap au)) (.slice aA x.todo.length ac)):Calls Try.prog 59 #[.agg #[.slice aA x.todo.length ac,.int .i64 (x.pc),.int .i64 (x.t),.int .i64 (x.b),.int .i64 (x.x)]] w0 fun e w'=>e=.returned (.bool (ay x))∧Ext w0 w':=by
 refine bF (args:=[.agg #[.slice aA x.todo.length ac,.int .i64 (x.pc),.int .i64 (x.t),.int .i64 (x.b),.int .i64 (x.x)]]) Try.func59 rfl Try.ntmps59 rfl iI (fun a w E H=> ?_)
 have E:Env 19 a [(0,.agg #[.slice aA x.todo.length ac,.int .i64 (x.pc),.int .i64 (x.t),.int .i64 (x.b),.int .i64 (x.x)])]:=E
 refine wp_seq (wp_region_lit ?_)
 refine xB (us:=[.slice aA x.todo.length ac,.int .i64 (x.pc),.int .i64 (x.t),.int .i64 (x.b),.int .i64 (x.x)]) E rfl (E.tmp rfl) rfl H (fun a w g1 E H=> ?_)
 refine wv E rfl (aK (aC _)) fun a E=> ?_
 refine wpList_nil (aj (wp_seq (wp_region_lit ?_)))
 refine wv E rfl (aS (o':=0) (E.tmp rfl) jL rfl) fun a E=>wv E rfl (aD (E.tmp rfl) lJ (H.cell 0 rfl rfl)) fun a E=> ?_
 refine wv E rfl (dM (E.tmp rfl) nN) (fun a E=> ?_)
 refine wv E rfl (aN (E.tmp rfl) (aC _) (gF (b:=decide (0<((x.todo.length:Nat):Int))) rfl)) fun a E=>vm E rfl rfl fun a E=> ?_
 rcases aU (decide (0<((x.todo.length:Nat):Int)))with ts2|ts2
 ·
  refine bJ (c:=false) E rfl rfl rfl rfl ts2 rfl fun a E=> ?_
  refine bJ (c:=false) E rfl rfl rfl rfl ts2 rfl fun a E=> ?_
  refine bJ (c:=false) E rfl rfl rfl rfl ts2 rfl fun a E=> ?_
  refine bJ (c:=false) E rfl rfl rfl rfl ts2 rfl fun a E=> ?_
  refine bJ (c:=false) E rfl rfl rfl rfl ts2 rfl fun a E=> ?_
  refine wv E rfl (aJ ((E.tmp rfl).trans (congrArg Value.bool ts2)) (aC _)) fun a E=>vm E rfl rfl fun a E=>wn E rfl rfl rfl rfl rfl fun a E=>wn E rfl rfl rfl rfl rfl fun a E=>wn E rfl rfl rfl rfl rfl fun a E=> ?_
  refine wv E rfl (aJ (E.tmp rfl) (aC _)) fun a E=>va E rfl rfl fun a E=> ?_
  refine wpList_nil (aj (wp_ret ?_))
  refine bB E rfl (aY E rfl) ?_
  have hE:false=ay x:=by
   first|(simp only[ay,bZ,ts2,B1,B2,B3,B4,B5,B6,B7,B8,B9,B10,B11,dB,dD,dF];done)|(simp only[ay,bZ,ts2,B1,B2,B3,B4,B5,B6,B7,B8,B9,B10,B11,dB,dD,dF];rfl)|(simp only[ay,bZ,ts2];simp)
  exact rb hE H
 refine bE E rfl rfl rfl ts2 ?_
 refine wv E rfl (aS (o':=0) (E.tmp rfl) jL rfl) fun a E=> ?_
 refine bE E rfl rfl rfl ts2 ?_
 refine wv E rfl (aD (E.tmp rfl) lJ (H.cell 0 rfl rfl)) fun a E=> ?_
 refine bE E rfl rfl rfl ts2 ?_
 have hpos:0<x.todo.length:=by have h:=ts2;simp at h;first|omega|exact List.length_pos_iff.2 h
 revert E
 revert H
 obtain⟨e3b,e3o,e3y,rfl,e3x,e3q⟩:=dz.elem (f:=au) (s:=1) (fun _=>rfl) aH rfl hpos
 intro H E
 have r4p0:eY w0 [] e3b e3o [.v (.int .i64 (e3y))]:=e3q
 obtain⟨r4k0,r4p1⟩:=eY.vv r4p0
 clear r4p0
 clear r4p1
 refine wv E rfl (jX (k:=0) (o':=e3o) (E.tmp rfl) (aC _) rfl nN (by omega) rfl) fun a E=> ?_
 refine bE E rfl rfl rfl ts2 ?_
 refine wv E rfl (aD (E.tmp rfl) dV (r4k0.get H)) fun a E=> ?_
 refine bE E rfl rfl rfl ts2 ?_
 refine wv E rfl (aN (E.tmp rfl) (aC _) (gV (b:=e3y==0) rfl)) fun a E=>wv E rfl (aL ((E.tmp rfl).trans (congrArg Value.bool ts2)) (E.tmp rfl)) fun a E=>vm E rfl rfl fun a E=> ?_
 rcases aU (e3y==0)with ts5|ts5
 ·
  refine bJ (c:=false) E rfl rfl rfl rfl ts5 rfl fun a E=> ?_
  refine bJ (c:=false) E rfl rfl rfl rfl ts5 rfl fun a E=> ?_
  refine bJ (c:=false) E rfl rfl rfl rfl ts5 rfl fun a E=> ?_
  refine wv E rfl (aJ ((E.tmp rfl).trans (congrArg Value.bool ts5)) (aC _)) fun a E=>va E rfl rfl fun a E=> ?_
  refine wpList_nil (aj (wp_ret ?_))
  refine bB E rfl (aY E rfl) ?_
  have hE:false=ay x:=by
   first|(simp only[ay,bZ,ts2,e3x,ts5,B1,B2,B3,B4,B5,B6,B7,B8,B9,B10,B11,dB,dD,dF];done)|(simp only[ay,bZ,ts2,e3x,ts5,B1,B2,B3,B4,B5,B6,B7,B8,B9,B10,B11,dB,dD,dF];rfl)|(simp only[ay,bZ,ts2,e3x,ts5];simp)
  exact rb hE H
 refine bE E rfl rfl rfl ts5 ?_
 refine wv E rfl (aS (o':=1) (E.tmp rfl) iL rfl) fun a E=> ?_
 refine bE E rfl rfl rfl ts5 ?_
 refine wv E rfl (aD (E.tmp rfl) dV (H.cell 0 rfl rfl)) fun a E=> ?_
 refine bE E rfl rfl rfl ts5 ?_
 refine wv E rfl (aN (E.tmp rfl) (aC _) (lq (b:=decide (1≤x.pc)) rfl)) fun a E=>wv E rfl (aL ((E.tmp rfl).trans (congrArg Value.bool ts5)) (E.tmp rfl)) fun a E=>va E rfl rfl fun a E=> ?_
 refine wpList_nil (aj (wp_ret ?_))
 refine bB E rfl (aY E rfl) ?_
 have hE:(decide (1≤x.pc))=ay x:=by
  first|(simp only[ay,bZ,ts2,e3x,ts5,B1,B2,B3,B4,B5,B6,B7,B8,B9,B10,B11,dB,dD,dF];done)|(simp only[ay,bZ,ts2,e3x,ts5,B1,B2,B3,B4,B5,B6,B7,B8,B9,B10,B11,dB,dD,dF];rfl)|(simp only[ay,bZ,ts2,e3x,ts5];simp)
 exact rb hE H
set_option maxHeartbeats 1000000 in
theorem zH(x:ah)(ow:Bool)(aA:Option Addr)(ac:Nat)(w0:World)(aH:dz w0 [] (.sl x.todo.length (x.todo.flatMap au)) (.slice aA x.todo.length ac)):Calls Try.prog 58 #[.agg #[.slice aA x.todo.length ac,.int .i64 (x.pc),.int .i64 (x.t),.int .i64 (x.b),.int .i64 (x.x)],.bool (ow)] w0 fun e w'=>e=.returned (.bool (aT x ow))∧Ext w0 w':=by
 refine bF (args:=[.agg #[.slice aA x.todo.length ac,.int .i64 (x.pc),.int .i64 (x.t),.int .i64 (x.b),.int .i64 (x.x)],.bool (ow)]) Try.func58 rfl Try.ntmps58 rfl iI (fun a w E H=> ?_)
 have E:Env 86 a [(0,.agg #[.slice aA x.todo.length ac,.int .i64 (x.pc),.int .i64 (x.t),.int .i64 (x.b),.int .i64 (x.x)]),(1,.bool (ow))]:=E
 refine wp_seq (wp_region_lit ?_)
 refine xB (us:=[.slice aA x.todo.length ac,.int .i64 (x.pc),.int .i64 (x.t),.int .i64 (x.b),.int .i64 (x.x)]) E rfl (E.tmp rfl) rfl H (fun a w g1 E H=> ?_)
 refine xB (us:=[.bool (ow)]) E rfl (E.tmp rfl) rfl H (fun a w g2 E H=> ?_)
 refine wv E rfl (aK (aC _)) fun a E=> ?_
 refine wpList_nil (aj (wp_seq (wp_seq ?_)))
 refine ji (fun a w=>Env 86 a [(2,.pointer (some ⟨g1,0,none⟩)),(3,.pointer (some ⟨g2,0,none⟩)),(4,.bool (false)),(16,.bool ((decide (10<((x.todo.length:Nat):Int)))||(!x.todo.all (fun n=>bS n ow))))]∧Tr.Inv w0 [] w [bC g2 [.bool (ow)] 4,bC g1 [.slice aA x.todo.length ac,.int .i64 (x.pc),.int .i64 (x.t),.int .i64 (x.b),.int .i64 (x.x)] 57]) ?_ (fun a w hj=> ?_)
 ·
  refine wp_region_lit ?_
  refine wv E rfl (aS (o':=0) (E.tmp rfl) jL rfl) fun a E=>wv E rfl (aD (E.tmp rfl) lJ (H.cell 1 rfl rfl)) fun a E=> ?_
  refine wv E rfl (dM (E.tmp rfl) nN) (fun a E=> ?_)
  refine wv E rfl (aN (E.tmp rfl) (aC _) (gF (b:=decide (10<((x.todo.length:Nat):Int))) rfl)) fun a E=>vm E rfl rfl fun a E=> ?_
  rcases aU (decide (10<((x.todo.length:Nat):Int)))with ts3|ts3
  ·
   refine bE E rfl rfl rfl ts3 ?_
   refine wv E rfl (aS (o':=0) (E.tmp rfl) jL rfl) fun a E=> ?_
   refine bE E rfl rfl rfl ts3 ?_
   refine wv E rfl (aD (E.tmp rfl) lJ (H.cell 1 rfl rfl)) fun a E=> ?_
   refine bE E rfl rfl rfl ts3 ?_
   refine wv E rfl (Gp (aG (E.tmp rfl) (aX))) fun a E=> ?_
   refine bE E rfl rfl rfl ts3 ?_
   refine dx (v:=.bool (!x.todo.all (fun n=>bS n ow))) E rfl (aG (E.tmp rfl) (aG (E.tmp rfl) (aX))) (by kernel_rfl) (Ih x.todo ac aA g2 ow w (H.Lc 0 rfl rfl) (aH.at_ H (F:=[]) (by simp))) H (fun a w E H=> ?_)
   refine wv E rfl (aJ ((E.tmp rfl).trans (congrArg Value.bool ts3)) (E.tmp rfl)) fun a E=> ?_
   refine wpList_nil ?_
   have ej4:((decide (10<((x.todo.length:Nat):Int)))||(!x.todo.all (fun n=>bS n ow)))=(!x.todo.all (fun n=>bS n ow)):=by simp only[ts3,B1,B2,B3,B4,B5,B6,B7,B8,B9,B10,B11,dB,dD,dF]
   exact⟨rfl,by rw[ej4];exact(Env.pick E (Env.pick E (Env.pick E (Env.pick E E.nil rfl) rfl) rfl) rfl),H⟩
  refine bJ (c:=true) E rfl rfl rfl rfl ts3 rfl fun a E=> ?_
  refine bJ (c:=true) E rfl rfl rfl rfl ts3 rfl fun a E=> ?_
  refine bJ (c:=true) E rfl rfl rfl rfl ts3 rfl fun a E=> ?_
  refine bJ (c:=true) E rfl rfl rfl rfl ts3 rfl fun a E=> ?_
  refine wv E rfl (aL ((E.tmp rfl).trans (congrArg Value.bool ts3)) (aC _)) fun a E=> ?_
  refine wpList_nil ?_
  have ej5:((decide (10<((x.todo.length:Nat):Int)))||(!x.todo.all (fun n=>bS n ow)))=true:=by simp only[ts3,B1,B2,B3,B4,B5,B6,B7,B8,B9,B10,B11,dB,dD,dF]
  exact⟨rfl,by rw[ej5];exact(Env.pick E (Env.pick E (Env.pick E (Env.pick E E.nil rfl) rfl) rfl) rfl),H⟩
 obtain⟨E,H⟩:=hj
 refine aj ?_
 rcases aU ((decide (10<((x.todo.length:Nat):Int)))||(!x.todo.all (fun n=>bS n ow)))with ts6|ts6
 ·
  obtain⟨ts7,ts8⟩:=lC ts6
  have ts9:=pO ts8
  refine bG E rfl ts6 ?_
  refine wp_skip (aj (wp_seq (wp_seq ?_)))
  refine ji (fun a w=>Env 86 a [(2,.pointer (some ⟨g1,0,none⟩)),(3,.pointer (some ⟨g2,0,none⟩)),(4,.bool (false)),(25,.bool ((((x.todo.length:Nat):Int)==0)||(x.pc==0)))]∧Tr.Inv w0 [] w [bC g2 [.bool (ow)] 4,bC g1 [.slice aA x.todo.length ac,.int .i64 (x.pc),.int .i64 (x.t),.int .i64 (x.b),.int .i64 (x.x)] 57]) ?_ (fun a w hj=> ?_)
  ·
   refine wp_region_lit ?_
   refine wv E rfl (aS (o':=0) (E.tmp rfl) jL rfl) fun a E=>wv E rfl (aD (E.tmp rfl) lJ (H.cell 1 rfl rfl)) fun a E=> ?_
   refine wv E rfl (dM (E.tmp rfl) nN) (fun a E=> ?_)
   refine wv E rfl (aN (E.tmp rfl) (aC _) (gV (b:=((x.todo.length:Nat):Int)==0) rfl)) fun a E=>vm E rfl rfl fun a E=> ?_
   rcases aU (((x.todo.length:Nat):Int)==0)with ts10|ts10
   ·
    refine bE E rfl rfl rfl ts10 ?_
    refine wv E rfl (aS (o':=1) (E.tmp rfl) iL rfl) fun a E=> ?_
    refine bE E rfl rfl rfl ts10 ?_
    refine wv E rfl (aD (E.tmp rfl) dV (H.cell 1 rfl rfl)) fun a E=> ?_
    refine bE E rfl rfl rfl ts10 ?_
    refine wv E rfl (aN (E.tmp rfl) (aC _) (gV (b:=x.pc==0) rfl)) fun a E=>wv E rfl (aJ ((E.tmp rfl).trans (congrArg Value.bool ts10)) (E.tmp rfl)) fun a E=> ?_
    refine wpList_nil ?_
    have ej11:((((x.todo.length:Nat):Int)==0)||(x.pc==0))=(x.pc==0):=by simp only[ts10,B1,B2,B3,B4,B5,B6,B7,B8,B9,B10,B11,dB,dD,dF]
    exact⟨rfl,by rw[ej11];exact(Env.pick E (Env.pick E (Env.pick E (Env.pick E E.nil rfl) rfl) rfl) rfl),H⟩
   refine bJ (c:=true) E rfl rfl rfl rfl ts10 rfl fun a E=> ?_
   refine bJ (c:=true) E rfl rfl rfl rfl ts10 rfl fun a E=> ?_
   refine bJ (c:=true) E rfl rfl rfl rfl ts10 rfl fun a E=> ?_
   refine wv E rfl (aL ((E.tmp rfl).trans (congrArg Value.bool ts10)) (aC _)) fun a E=> ?_
   refine wpList_nil ?_
   have ej12:((((x.todo.length:Nat):Int)==0)||(x.pc==0))=true:=by simp only[ts10,B1,B2,B3,B4,B5,B6,B7,B8,B9,B10,B11,dB,dD,dF]
   exact⟨rfl,by rw[ej12];exact(Env.pick E (Env.pick E (Env.pick E (Env.pick E E.nil rfl) rfl) rfl) rfl),H⟩
  obtain⟨E,H⟩:=hj
  refine aj ?_
  rcases aU ((((x.todo.length:Nat):Int)==0)||(x.pc==0))with ts13|ts13
  ·
   obtain⟨ts14,ts15⟩:=lC ts13
   refine bG E rfl ts13 ?_
   refine wp_skip (aj (wp_seq (wp_region_lit ?_)))
   refine wv E rfl (aK (aC _)) fun a E=> ?_
   refine wpList_nil (aj (wp_seq (wp_seq ?_)))
   have hpos:0<x.todo.length:=by have h:=ts14;simp at h;exact List.length_pos_iff.2 h
   revert E
   revert H
   obtain⟨e16b,e16o,e16y,rfl,e16x,e16q⟩:=dz.elem (f:=au) (s:=1) (fun _=>rfl) aH rfl hpos
   intro H E
   have r17p0:eY w0 [] e16b e16o [.v (.int .i64 (e16y))]:=e16q
   obtain⟨r17k0,r17p1⟩:=eY.vv r17p0
   clear r17p0
   clear r17p1
   refine wp_region_lit ?_
   refine wv E rfl (aS (o':=0) (E.tmp rfl) jL rfl) fun a E=>wv E rfl (aD (E.tmp rfl) lJ (H.cell 1 rfl rfl)) fun a E=>wv E rfl (jX (k:=0) (o':=e16o) (E.tmp rfl) (aC _) rfl nN (by omega) rfl) fun a E=>wv E rfl (aD (E.tmp rfl) dV (r17k0.get H)) fun a E=>wv E rfl (aN (E.tmp rfl) (aC _) (uD (b:=e16y !=0) rfl)) fun a E=> ?_
   refine wpList_nil (aj ?_)
   rcases aU (e16y !=0)with ts18|ts18
   ·
    refine bG E rfl ts18 ?_
    refine wp_skip (aj (wp_seq ?_))
    refine ji (fun a w=>Env 86 a [(2,.pointer (some ⟨g1,0,none⟩)),(4,.bool (false)),(5,.int .i64 (3)),(6,.bool ((aP x.b 0 1000)||((x.b==(-1))&&(ow&&(ay x)))))]∧Tr.Inv w0 [] w [bC g2 [.bool (ow)] 4,bC g1 [.slice (some ⟨e16b,e16o,none⟩) x.todo.length ac,.int .i64 (x.pc),.int .i64 (x.t),.int .i64 (x.b),.int .i64 (x.x)] 57]) ?_ (fun a w hj=> ?_)
    ·
     refine wp_region_lit ?_
     refine wv E rfl (aS (o':=3) (E.tmp rfl) kU rfl) fun a E=>wv E rfl (aD (E.tmp rfl) dV (H.cell 1 rfl rfl)) fun a E=> ?_
     refine dx (v:=.bool (aP x.b 0 1000)) E rfl (aG (E.tmp rfl) (aX)) lX (kE x.b w) H (fun a w E H=> ?_)
     refine vm E rfl rfl fun a E=> ?_
     rcases aU (aP x.b 0 1000)with ts19|ts19
     ·
      refine bE E rfl rfl rfl ts19 ?_
      refine wv E rfl (aS (o':=3) (E.tmp rfl) kU rfl) fun a E=> ?_
      refine bE E rfl rfl rfl ts19 ?_
      refine wv E rfl (aD (E.tmp rfl) dV (H.cell 1 rfl rfl)) fun a E=> ?_
      refine bE E rfl rfl rfl ts19 ?_
      refine wv E rfl (aN (E.tmp rfl) (aC _) (gV (b:=x.b==(-1)) rfl)) fun a E=> ?_
      refine bE E rfl rfl rfl ts19 ?_
      refine vm E rfl rfl fun a E=> ?_
      rcases aU (x.b==(-1))with ts20|ts20
      ·
       refine bJ (c:=false) E rfl rfl rfl rfl ts20 rfl fun a E=> ?_
       refine bE E rfl rfl rfl ts19 ?_
       refine wv E rfl (aJ ((E.tmp rfl).trans (congrArg Value.bool ts20)) (aC _)) fun a E=> ?_
       refine bE E rfl rfl rfl ts19 ?_
       refine vm E rfl rfl fun a E=>wn E rfl rfl rfl rfl rfl fun a E=>wn E rfl rfl rfl rfl rfl fun a E=> ?_
       refine bE E rfl rfl rfl ts19 ?_
       refine wv E rfl (aJ (E.tmp rfl) (aC _)) fun a E=>wv E rfl (aJ ((E.tmp rfl).trans (congrArg Value.bool ts19)) (E.tmp rfl)) fun a E=>va E rfl rfl fun a E=> ?_
       refine wpList_nil ?_
       have ej21:((aP x.b 0 1000)||((x.b==(-1))&&(ow&&(ay x))))=false:=by simp only[ts19,ts20,B1,B2,B3,B4,B5,B6,B7,B8,B9,B10,B11,dB,dD,dF]
       exact⟨rfl,by rw[ej21];exact(Env.pick E (Env.pick E (Env.pick E (Env.pick E E.nil rfl) rfl) rfl) rfl),H⟩
      refine bE E rfl rfl rfl ts20 ?_
      refine wv E rfl (aD (E.tmp rfl) Cy (H.cell 0 rfl rfl)) fun a E=> ?_
      refine bE E rfl rfl rfl ts19 ?_
      refine wv E rfl (aL ((E.tmp rfl).trans (congrArg Value.bool ts20)) (E.tmp rfl)) fun a E=> ?_
      refine bE E rfl rfl rfl ts19 ?_
      refine vm E rfl rfl fun a E=> ?_
      rcases aU (ow)with ts22|ts22
      ·
       refine bJ (c:=false) E rfl rfl rfl rfl ts22 rfl fun a E=> ?_
       refine bJ (c:=false) E rfl rfl rfl rfl ts22 rfl fun a E=> ?_
       refine bE E rfl rfl rfl ts19 ?_
       refine wv E rfl (aJ ((E.tmp rfl).trans (congrArg Value.bool ts22)) (aC _)) fun a E=>wv E rfl (aJ ((E.tmp rfl).trans (congrArg Value.bool ts19)) (E.tmp rfl)) fun a E=>va E rfl rfl fun a E=> ?_
       refine wpList_nil ?_
       have ej23:((aP x.b 0 1000)||((x.b==(-1))&&(ow&&(ay x))))=false:=by simp only[ts19,ts20,ts22,B1,B2,B3,B4,B5,B6,B7,B8,B9,B10,B11,dB,dD,dF]
       exact⟨rfl,by rw[ej23];exact(Env.pick E (Env.pick E (Env.pick E (Env.pick E E.nil rfl) rfl) rfl) rfl),H⟩
      refine bE E rfl rfl rfl ts22 ?_
      refine wv E rfl (fJ (us:=[.slice (some ⟨e16b,e16o,none⟩) x.todo.length ac,.int .i64 (x.pc),.int .i64 (x.t),.int .i64 (x.b),.int .i64 (x.x)]) (E.tmp rfl) zR Bd (H.bg 1 rfl)) fun a E=> ?_
      refine bE E rfl rfl rfl ts22 ?_
      refine dx (v:=.bool (ay x)) E rfl (aG (E.tmp rfl) (aX)) Aw (xu x (some ⟨e16b,e16o,none⟩) ac w (aH.at_ H (F:=[]) (by simp))) H (fun a w E H=> ?_)
      refine bE E rfl rfl rfl ts19 ?_
      refine wv E rfl (aL ((E.tmp rfl).trans (congrArg Value.bool ts22)) (E.tmp rfl)) fun a E=>wv E rfl (aJ ((E.tmp rfl).trans (congrArg Value.bool ts19)) (E.tmp rfl)) fun a E=>va E rfl rfl fun a E=> ?_
      refine wpList_nil ?_
      have ej24:((aP x.b 0 1000)||((x.b==(-1))&&(ow&&(ay x))))=(ay x):=by simp only[ts19,ts20,ts22,B1,B2,B3,B4,B5,B6,B7,B8,B9,B10,B11,dB,dD,dF]
      exact⟨rfl,by rw[ej24];exact(Env.pick E (Env.pick E (Env.pick E (Env.pick E E.nil rfl) rfl) rfl) rfl),H⟩
     refine bJ (c:=true) E rfl rfl rfl rfl ts19 rfl fun a E=> ?_
     refine bJ (c:=true) E rfl rfl rfl rfl ts19 rfl fun a E=> ?_
     refine bJ (c:=true) E rfl rfl rfl rfl ts19 rfl fun a E=> ?_
     refine bJ (c:=true) E rfl rfl rfl rfl ts19 rfl fun a E=> ?_
     refine oU E rfl rfl rfl rfl fun a E=> ?_
     refine bJ (c:=true) E rfl rfl rfl rfl ts19 rfl fun a E=> ?_
     refine bJ (c:=true) E rfl rfl rfl rfl ts19 rfl fun a E=> ?_
     refine oU E rfl rfl rfl rfl fun a E=>oU E rfl rfl rfl rfl fun a E=> ?_
     refine bJ (c:=true) E rfl rfl rfl rfl ts19 rfl fun a E=> ?_
     refine wv E rfl (aL ((E.tmp rfl).trans (congrArg Value.bool ts19)) (aC _)) fun a E=>va E rfl rfl fun a E=> ?_
     refine wpList_nil ?_
     have ej25:((aP x.b 0 1000)||((x.b==(-1))&&(ow&&(ay x))))=true:=by simp only[ts19,B1,B2,B3,B4,B5,B6,B7,B8,B9,B10,B11,dB,dD,dF]
     exact⟨rfl,by rw[ej25];exact(Env.pick E (Env.pick E (Env.pick E (Env.pick E E.nil rfl) rfl) rfl) rfl),H⟩
    obtain⟨E,H⟩:=hj
    refine aj (wp_seq (wp_region_lit ?_))
    refine wv E rfl (aS (o':=1) (E.tmp rfl) iL rfl) fun a E=>wv E rfl (aD (E.tmp rfl) dV (H.cell 1 rfl rfl)) fun a E=>wv E rfl (aN (E.tmp rfl) (aC _) (lq (b:=decide (1≤x.pc)) rfl)) fun a E=>vm E rfl rfl fun a E=> ?_
    rcases aU (decide (1≤x.pc))with ts26|ts26
    ·
     refine bJ (c:=false) E rfl rfl rfl rfl ts26 rfl fun a E=> ?_
     refine bJ (c:=false) E rfl rfl rfl rfl ts26 rfl fun a E=> ?_
     refine bJ (c:=false) E rfl rfl rfl rfl ts26 rfl fun a E=> ?_
     refine bJ (c:=false) E rfl rfl rfl rfl ts26 rfl fun a E=> ?_
     refine wv E rfl (aJ ((E.tmp rfl).trans (congrArg Value.bool ts26)) (aC _)) fun a E=>vm E rfl rfl fun a E=>wn E rfl rfl rfl rfl rfl fun a E=>wn E rfl rfl rfl rfl rfl fun a E=>wn E rfl rfl rfl rfl rfl fun a E=> ?_
     refine wv E rfl (aJ (E.tmp rfl) (aC _)) fun a E=>vm E rfl rfl fun a E=>wn E rfl rfl rfl rfl rfl fun a E=>wn E rfl rfl rfl rfl rfl fun a E=>wn E rfl rfl rfl rfl rfl fun a E=> ?_
     refine wv E rfl (aJ (E.tmp rfl) (aC _)) fun a E=>vm E rfl rfl fun a E=>wn E rfl rfl rfl rfl rfl fun a E=>wv E rfl (aJ (E.tmp rfl) (aC _)) fun a E=>va E rfl rfl fun a E=> ?_
     refine wpList_nil (aj (wp_ret ?_))
     refine bB E rfl (aY E rfl) ?_
     have hE:false=aT x ow:=by
      have hd0:bZ x=(e16y==0):=by simp only[bZ,e16x]
      have hok:bW x ow=cond (e16y !=0) (decide (x.pc<3)&&decide (0≤x.b)) (ow||decide (0≤x.b)):=by simp only[bW,e16x]
      have hts7:=ts7
      have hts9:=ts9
      have hts14:=ts14
      have hts15:=ts15
      have hts18:=ts18
      have hts26:=ts26
      simp only[aT,hok,ts7,ts9,ts14,ts15,ts18,ts26]
      first|done|rfl|(simp;done)|(clear E H;simp[ay,aP,hd0]at hts7 hts9 hts14 hts15 hts18 hts26 ⊢;first|done|omega)|(clear E H;rw[Bool.eq_iff_iff];simp[ay,aP,hd0]at hts7 hts9 hts14 hts15 hts18 hts26 ⊢;omega)
     exact rb hE H
    refine bE E rfl rfl rfl ts26 ?_
    refine wv E rfl (aS (o':=1) (E.tmp rfl) iL rfl) fun a E=> ?_
    refine bE E rfl rfl rfl ts26 ?_
    refine wv E rfl (aD (E.tmp rfl) dV (H.cell 1 rfl rfl)) fun a E=> ?_
    refine bE E rfl rfl rfl ts26 ?_
    refine vm E rfl rfl fun a E=> ?_
    refine bE E rfl rfl rfl ts26 ?_
    refine wv E rfl (aN (E.tmp rfl) (E.tmp rfl) (xR (b:=decide (x.pc≤3)) rfl)) fun a E=>wv E rfl (aL ((E.tmp rfl).trans (congrArg Value.bool ts26)) (E.tmp rfl)) fun a E=>vm E rfl rfl fun a E=> ?_
    rcases aU (decide (x.pc≤3))with ts27|ts27
    ·
     refine bJ (c:=false) E rfl rfl rfl rfl ts27 rfl fun a E=> ?_
     refine bJ (c:=false) E rfl rfl rfl rfl ts27 rfl fun a E=> ?_
     refine bJ (c:=false) E rfl rfl rfl rfl ts27 rfl fun a E=> ?_
     refine wv E rfl (aJ ((E.tmp rfl).trans (congrArg Value.bool ts27)) (aC _)) fun a E=>vm E rfl rfl fun a E=>wn E rfl rfl rfl rfl rfl fun a E=>wn E rfl rfl rfl rfl rfl fun a E=>wn E rfl rfl rfl rfl rfl fun a E=> ?_
     refine wv E rfl (aJ (E.tmp rfl) (aC _)) fun a E=>vm E rfl rfl fun a E=>wn E rfl rfl rfl rfl rfl fun a E=>wv E rfl (aJ (E.tmp rfl) (aC _)) fun a E=>va E rfl rfl fun a E=> ?_
     refine wpList_nil (aj (wp_ret ?_))
     refine bB E rfl (aY E rfl) ?_
     have hE:false=aT x ow:=by
      have hd0:bZ x=(e16y==0):=by simp only[bZ,e16x]
      have hok:bW x ow=cond (e16y !=0) (decide (x.pc<3)&&decide (0≤x.b)) (ow||decide (0≤x.b)):=by simp only[bW,e16x]
      have hts7:=ts7
      have hts9:=ts9
      have hts14:=ts14
      have hts15:=ts15
      have hts18:=ts18
      have hts26:=ts26
      have hts27:=ts27
      simp only[aT,hok,ts7,ts9,ts14,ts15,ts18,ts26,ts27]
      first|done|rfl|(simp;done)|(clear E H;simp[ay,aP,hd0]at hts7 hts9 hts14 hts15 hts18 hts26 hts27 ⊢;first|done|omega)|(clear E H;rw[Bool.eq_iff_iff];simp[ay,aP,hd0]at hts7 hts9 hts14 hts15 hts18 hts26 hts27 ⊢;omega)
     exact rb hE H
    refine bE E rfl rfl rfl ts27 ?_
    refine wv E rfl (aS (o':=2) (E.tmp rfl) p9 rfl) fun a E=> ?_
    refine bE E rfl rfl rfl ts27 ?_
    refine wv E rfl (aD (E.tmp rfl) dV (H.cell 1 rfl rfl)) fun a E=> ?_
    refine bE E rfl rfl rfl ts27 ?_
    refine dx (v:=.bool (aP x.t 0 1000)) E rfl (aG (E.tmp rfl) (aX)) lX (kE x.t w) H (fun a w E H=> ?_)
    refine wv E rfl (aL ((E.tmp rfl).trans (congrArg Value.bool ts27)) (E.tmp rfl)) fun a E=>vm E rfl rfl fun a E=> ?_
    rcases aU (aP x.t 0 1000)with ts28|ts28
    ·
     refine bJ (c:=false) E rfl rfl rfl rfl ts28 rfl fun a E=> ?_
     refine bJ (c:=false) E rfl rfl rfl rfl ts28 rfl fun a E=> ?_
     refine bJ (c:=false) E rfl rfl rfl rfl ts28 rfl fun a E=> ?_
     refine wv E rfl (aJ ((E.tmp rfl).trans (congrArg Value.bool ts28)) (aC _)) fun a E=>vm E rfl rfl fun a E=>wn E rfl rfl rfl rfl rfl fun a E=>wv E rfl (aJ (E.tmp rfl) (aC _)) fun a E=>va E rfl rfl fun a E=> ?_
     refine wpList_nil (aj (wp_ret ?_))
     refine bB E rfl (aY E rfl) ?_
     have hE:false=aT x ow:=by
      have hd0:bZ x=(e16y==0):=by simp only[bZ,e16x]
      have hok:bW x ow=cond (e16y !=0) (decide (x.pc<3)&&decide (0≤x.b)) (ow||decide (0≤x.b)):=by simp only[bW,e16x]
      have hts7:=ts7
      have hts9:=ts9
      have hts14:=ts14
      have hts15:=ts15
      have hts18:=ts18
      have hts26:=ts26
      have hts27:=ts27
      have hts28:=ts28
      simp only[aT,hok,ts7,ts9,ts14,ts15,ts18,ts26,ts27,ts28]
      first|done|rfl|(simp;done)|(clear E H;simp[ay,aP,hd0]at hts7 hts9 hts14 hts15 hts18 hts26 hts27 hts28 ⊢;first|done|omega)|(clear E H;rw[Bool.eq_iff_iff];simp[ay,aP,hd0]at hts7 hts9 hts14 hts15 hts18 hts26 hts27 hts28 ⊢;omega)
     exact rb hE H
    refine bE E rfl rfl rfl ts28 ?_
    refine wv E rfl (aS (o':=4) (E.tmp rfl) qb rfl) fun a E=> ?_
    refine bE E rfl rfl rfl ts28 ?_
    refine wv E rfl (aD (E.tmp rfl) dV (H.cell 1 rfl rfl)) fun a E=> ?_
    refine bE E rfl rfl rfl ts28 ?_
    refine dx (v:=.bool (aP x.x 0 1000)) E rfl (aG (E.tmp rfl) (aX)) lX (kE x.x w) H (fun a w E H=> ?_)
    refine wv E rfl (aL ((E.tmp rfl).trans (congrArg Value.bool ts28)) (E.tmp rfl)) fun a E=>vm E rfl rfl fun a E=> ?_
    rcases aU (aP x.x 0 1000)with ts29|ts29
    ·
     refine bJ (c:=false) E rfl rfl rfl rfl ts29 rfl fun a E=> ?_
     refine wv E rfl (aJ ((E.tmp rfl).trans (congrArg Value.bool ts29)) (aC _)) fun a E=>va E rfl rfl fun a E=> ?_
     refine wpList_nil (aj (wp_ret ?_))
     refine bB E rfl (aY E rfl) ?_
     have hE:false=aT x ow:=by
      have hd0:bZ x=(e16y==0):=by simp only[bZ,e16x]
      have hok:bW x ow=cond (e16y !=0) (decide (x.pc<3)&&decide (0≤x.b)) (ow||decide (0≤x.b)):=by simp only[bW,e16x]
      have hts7:=ts7
      have hts9:=ts9
      have hts14:=ts14
      have hts15:=ts15
      have hts18:=ts18
      have hts26:=ts26
      have hts27:=ts27
      have hts28:=ts28
      have hts29:=ts29
      simp only[aT,hok,ts7,ts9,ts14,ts15,ts18,ts26,ts27,ts28,ts29]
      first|done|rfl|(simp;done)|(clear E H;simp[ay,aP,hd0]at hts7 hts9 hts14 hts15 hts18 hts26 hts27 hts28 hts29 ⊢;first|done|omega)|(clear E H;rw[Bool.eq_iff_iff];simp[ay,aP,hd0]at hts7 hts9 hts14 hts15 hts18 hts26 hts27 hts28 hts29 ⊢;omega)
     exact rb hE H
    refine bE E rfl rfl rfl ts29 ?_
    refine vm E rfl rfl fun a E=>wv E rfl (aL ((E.tmp rfl).trans (congrArg Value.bool ts29)) (E.tmp rfl)) fun a E=>va E rfl rfl fun a E=> ?_
    refine wpList_nil (aj (wp_ret ?_))
    refine bB E rfl (aY E rfl) ?_
    rcases aU ((aP x.b 0 1000)||((x.b==(-1))&&(ow&&(ay x))))with ts30|ts30
    ·
     obtain⟨ts31,ts32⟩:=lC ts30
     rw[show((aP x.b 0 1000)||((x.b==(-1))&&(ow&&(ay x))))=false from ts30]
     rcases pK ts32 with ts33|⟨ts33,ts34⟩
     ·
      have hE:false=aT x ow:=by
       have hd0:bZ x=(e16y==0):=by simp only[bZ,e16x]
       have hok:bW x ow=cond (e16y !=0) (decide (x.pc<3)&&decide (0≤x.b)) (ow||decide (0≤x.b)):=by simp only[bW,e16x]
       have hts7:=ts7
       have hts9:=ts9
       have hts14:=ts14
       have hts15:=ts15
       have hts18:=ts18
       have hts26:=ts26
       have hts27:=ts27
       have hts28:=ts28
       have hts29:=ts29
       have hts31:=ts31
       have hts33:=ts33
       simp only[aT,hok,ts7,ts9,ts14,ts15,ts18,ts26,ts27,ts28,ts29,ts31,ts33]
       first|done|rfl|(simp;done)|(clear E H;simp[ay,aP,hd0]at hts7 hts9 hts14 hts15 hts18 hts26 hts27 hts28 hts29 hts31 hts33 ⊢;first|done|omega)|(clear E H;rw[Bool.eq_iff_iff];simp[ay,aP,hd0]at hts7 hts9 hts14 hts15 hts18 hts26 hts27 hts28 hts29 hts31 hts33 ⊢;omega)
      exact rb hE H
     rcases pK ts34 with ts35|⟨ts35,ts36⟩
     ·
      have hE:false=aT x ow:=by
       subst ts35
       have hd0:bZ x=(e16y==0):=by simp only[bZ,e16x]
       have hok:bW x false=cond (e16y !=0) (decide (x.pc<3)&&decide (0≤x.b)) (false||decide (0≤x.b)):=by simp only[bW,e16x]
       have hts7:=ts7
       have hts9:=ts9
       have hts14:=ts14
       have hts15:=ts15
       have hts18:=ts18
       have hts26:=ts26
       have hts27:=ts27
       have hts28:=ts28
       have hts29:=ts29
       have hts31:=ts31
       have hts33:=ts33
       simp only[aT,hok,ts7,ts9,ts14,ts15,ts18,ts26,ts27,ts28,ts29,ts31,ts33]
       first|done|rfl|(simp;done)|(clear E H;simp[ay,aP,hd0]at hts7 hts9 hts14 hts15 hts18 hts26 hts27 hts28 hts29 hts31 hts33 ⊢;first|done|omega)|(clear E H;rw[Bool.eq_iff_iff];simp[ay,aP,hd0]at hts7 hts9 hts14 hts15 hts18 hts26 hts27 hts28 hts29 hts31 hts33 ⊢;omega)
      exact rb hE H
     have hE:false=aT x ow:=by
      subst ts35
      have hd0:bZ x=(e16y==0):=by simp only[bZ,e16x]
      have hok:bW x true=cond (e16y !=0) (decide (x.pc<3)&&decide (0≤x.b)) (true||decide (0≤x.b)):=by simp only[bW,e16x]
      have hts7:=ts7
      have hts9:=ts9
      have hts14:=ts14
      have hts15:=ts15
      have hts18:=ts18
      have hts26:=ts26
      have hts27:=ts27
      have hts28:=ts28
      have hts29:=ts29
      have hts31:=ts31
      have hts33:=ts33
      have hts36:=ts36
      simp only[aT,hok,ts7,ts9,ts14,ts15,ts18,ts26,ts27,ts28,ts29,ts31,ts33,ts36]
      first|done|rfl|(simp;done)|(clear E H;simp[ay,aP,hd0]at hts7 hts9 hts14 hts15 hts18 hts26 hts27 hts28 hts29 hts31 hts33 hts36 ⊢;first|done|omega)|(clear E H;rw[Bool.eq_iff_iff];simp[ay,aP,hd0]at hts7 hts9 hts14 hts15 hts18 hts26 hts27 hts28 hts29 hts31 hts33 hts36 ⊢;omega)
     exact rb hE H
    rw[show((aP x.b 0 1000)||((x.b==(-1))&&(ow&&(ay x))))=true from ts30]
    rcases iY ts30 with ts37|⟨ts37,ts38⟩
    ·
     have hE:true=aT x ow:=by
      have hd0:bZ x=(e16y==0):=by simp only[bZ,e16x]
      have hok:bW x ow=cond (e16y !=0) (decide (x.pc<3)&&decide (0≤x.b)) (ow||decide (0≤x.b)):=by simp only[bW,e16x]
      have hts7:=ts7
      have hts9:=ts9
      have hts14:=ts14
      have hts15:=ts15
      have hts18:=ts18
      have hts26:=ts26
      have hts27:=ts27
      have hts28:=ts28
      have hts29:=ts29
      have hts37:=ts37
      simp only[aT,hok,ts7,ts9,ts14,ts15,ts18,ts26,ts27,ts28,ts29,ts37]
      first|done|rfl|(simp;done)|(clear E H;simp[ay,aP,hd0]at hts7 hts9 hts14 hts15 hts18 hts26 hts27 hts28 hts29 hts37 ⊢;first|done|omega)|(clear E H;rw[Bool.eq_iff_iff];simp[ay,aP,hd0]at hts7 hts9 hts14 hts15 hts18 hts26 hts27 hts28 hts29 hts37 ⊢;omega)
     exact rb hE H
    obtain⟨ts39,ts40⟩:=BD ts38
    obtain⟨ts41,ts42⟩:=BD ts40
    have hE:true=aT x ow:=by
     subst ts41
     have hd0:bZ x=(e16y==0):=by simp only[bZ,e16x]
     have hok:bW x true=cond (e16y !=0) (decide (x.pc<3)&&decide (0≤x.b)) (true||decide (0≤x.b)):=by simp only[bW,e16x]
     have hts7:=ts7
     have hts9:=ts9
     have hts14:=ts14
     have hts15:=ts15
     have hts18:=ts18
     have hts26:=ts26
     have hts27:=ts27
     have hts28:=ts28
     have hts29:=ts29
     have hts37:=ts37
     have hts39:=ts39
     have hts42:=ts42
     simp only[aT,hok,ts7,ts9,ts14,ts15,ts18,ts26,ts27,ts28,ts29,ts37,ts39,ts42]
     first|done|rfl|(simp;done)|(clear E H;simp[ay,aP,hd0]at hts7 hts9 hts14 hts15 hts18 hts26 hts27 hts28 hts29 hts37 hts39 hts42 ⊢;first|done|omega)|(clear E H;rw[Bool.eq_iff_iff];simp[ay,aP,hd0]at hts7 hts9 hts14 hts15 hts18 hts26 hts27 hts28 hts29 hts37 hts39 hts42 ⊢;omega)
    exact rb hE H
   refine bH E rfl ts18 ?_
   refine wp_region_lit ?_
   refine wv E rfl (aK (aC _)) fun a E=> ?_
   refine wpList_nil (aj (wp_seq ?_))
   refine ji (fun a w=>Env 86 a [(2,.pointer (some ⟨g1,0,none⟩)),(4,.bool (false)),(5,.int .i64 (2)),(6,.bool ((aP x.b 0 1000)||((x.b==(-1))&&(ow&&(ay x)))))]∧Tr.Inv w0 [] w [bC g2 [.bool (ow)] 4,bC g1 [.slice (some ⟨e16b,e16o,none⟩) x.todo.length ac,.int .i64 (x.pc),.int .i64 (x.t),.int .i64 (x.b),.int .i64 (x.x)] 57]) ?_ (fun a w hj=> ?_)
   ·
    refine wp_region_lit ?_
    refine wv E rfl (aS (o':=3) (E.tmp rfl) kU rfl) fun a E=>wv E rfl (aD (E.tmp rfl) dV (H.cell 1 rfl rfl)) fun a E=> ?_
    refine dx (v:=.bool (aP x.b 0 1000)) E rfl (aG (E.tmp rfl) (aX)) lX (kE x.b w) H (fun a w E H=> ?_)
    refine vm E rfl rfl fun a E=> ?_
    rcases aU (aP x.b 0 1000)with ts43|ts43
    ·
     refine bE E rfl rfl rfl ts43 ?_
     refine wv E rfl (aS (o':=3) (E.tmp rfl) kU rfl) fun a E=> ?_
     refine bE E rfl rfl rfl ts43 ?_
     refine wv E rfl (aD (E.tmp rfl) dV (H.cell 1 rfl rfl)) fun a E=> ?_
     refine bE E rfl rfl rfl ts43 ?_
     refine wv E rfl (aN (E.tmp rfl) (aC _) (gV (b:=x.b==(-1)) rfl)) fun a E=> ?_
     refine bE E rfl rfl rfl ts43 ?_
     refine vm E rfl rfl fun a E=> ?_
     rcases aU (x.b==(-1))with ts44|ts44
     ·
      refine bJ (c:=false) E rfl rfl rfl rfl ts44 rfl fun a E=> ?_
      refine bE E rfl rfl rfl ts43 ?_
      refine wv E rfl (aJ ((E.tmp rfl).trans (congrArg Value.bool ts44)) (aC _)) fun a E=> ?_
      refine bE E rfl rfl rfl ts43 ?_
      refine vm E rfl rfl fun a E=>wn E rfl rfl rfl rfl rfl fun a E=>wn E rfl rfl rfl rfl rfl fun a E=> ?_
      refine bE E rfl rfl rfl ts43 ?_
      refine wv E rfl (aJ (E.tmp rfl) (aC _)) fun a E=>wv E rfl (aJ ((E.tmp rfl).trans (congrArg Value.bool ts43)) (E.tmp rfl)) fun a E=>va E rfl rfl fun a E=> ?_
      refine wpList_nil ?_
      have ej45:((aP x.b 0 1000)||((x.b==(-1))&&(ow&&(ay x))))=false:=by simp only[ts43,ts44,B1,B2,B3,B4,B5,B6,B7,B8,B9,B10,B11,dB,dD,dF]
      exact⟨rfl,by rw[ej45];exact(Env.pick E (Env.pick E (Env.pick E (Env.pick E E.nil rfl) rfl) rfl) rfl),H⟩
     refine bE E rfl rfl rfl ts44 ?_
     refine wv E rfl (aD (E.tmp rfl) Cy (H.cell 0 rfl rfl)) fun a E=> ?_
     refine bE E rfl rfl rfl ts43 ?_
     refine wv E rfl (aL ((E.tmp rfl).trans (congrArg Value.bool ts44)) (E.tmp rfl)) fun a E=> ?_
     refine bE E rfl rfl rfl ts43 ?_
     refine vm E rfl rfl fun a E=> ?_
     rcases aU (ow)with ts46|ts46
     ·
      refine bJ (c:=false) E rfl rfl rfl rfl ts46 rfl fun a E=> ?_
      refine bJ (c:=false) E rfl rfl rfl rfl ts46 rfl fun a E=> ?_
      refine bE E rfl rfl rfl ts43 ?_
      refine wv E rfl (aJ ((E.tmp rfl).trans (congrArg Value.bool ts46)) (aC _)) fun a E=>wv E rfl (aJ ((E.tmp rfl).trans (congrArg Value.bool ts43)) (E.tmp rfl)) fun a E=>va E rfl rfl fun a E=> ?_
      refine wpList_nil ?_
      have ej47:((aP x.b 0 1000)||((x.b==(-1))&&(ow&&(ay x))))=false:=by simp only[ts43,ts44,ts46,B1,B2,B3,B4,B5,B6,B7,B8,B9,B10,B11,dB,dD,dF]
      exact⟨rfl,by rw[ej47];exact(Env.pick E (Env.pick E (Env.pick E (Env.pick E E.nil rfl) rfl) rfl) rfl),H⟩
     refine bE E rfl rfl rfl ts46 ?_
     refine wv E rfl (fJ (us:=[.slice (some ⟨e16b,e16o,none⟩) x.todo.length ac,.int .i64 (x.pc),.int .i64 (x.t),.int .i64 (x.b),.int .i64 (x.x)]) (E.tmp rfl) zR Bd (H.bg 1 rfl)) fun a E=> ?_
     refine bE E rfl rfl rfl ts46 ?_
     refine dx (v:=.bool (ay x)) E rfl (aG (E.tmp rfl) (aX)) Aw (xu x (some ⟨e16b,e16o,none⟩) ac w (aH.at_ H (F:=[]) (by simp))) H (fun a w E H=> ?_)
     refine bE E rfl rfl rfl ts43 ?_
     refine wv E rfl (aL ((E.tmp rfl).trans (congrArg Value.bool ts46)) (E.tmp rfl)) fun a E=>wv E rfl (aJ ((E.tmp rfl).trans (congrArg Value.bool ts43)) (E.tmp rfl)) fun a E=>va E rfl rfl fun a E=> ?_
     refine wpList_nil ?_
     have ej48:((aP x.b 0 1000)||((x.b==(-1))&&(ow&&(ay x))))=(ay x):=by simp only[ts43,ts44,ts46,B1,B2,B3,B4,B5,B6,B7,B8,B9,B10,B11,dB,dD,dF]
     exact⟨rfl,by rw[ej48];exact(Env.pick E (Env.pick E (Env.pick E (Env.pick E E.nil rfl) rfl) rfl) rfl),H⟩
    refine bJ (c:=true) E rfl rfl rfl rfl ts43 rfl fun a E=> ?_
    refine bJ (c:=true) E rfl rfl rfl rfl ts43 rfl fun a E=> ?_
    refine bJ (c:=true) E rfl rfl rfl rfl ts43 rfl fun a E=> ?_
    refine bJ (c:=true) E rfl rfl rfl rfl ts43 rfl fun a E=> ?_
    refine oU E rfl rfl rfl rfl fun a E=> ?_
    refine bJ (c:=true) E rfl rfl rfl rfl ts43 rfl fun a E=> ?_
    refine bJ (c:=true) E rfl rfl rfl rfl ts43 rfl fun a E=> ?_
    refine oU E rfl rfl rfl rfl fun a E=>oU E rfl rfl rfl rfl fun a E=> ?_
    refine bJ (c:=true) E rfl rfl rfl rfl ts43 rfl fun a E=> ?_
    refine wv E rfl (aL ((E.tmp rfl).trans (congrArg Value.bool ts43)) (aC _)) fun a E=>va E rfl rfl fun a E=> ?_
    refine wpList_nil ?_
    have ej49:((aP x.b 0 1000)||((x.b==(-1))&&(ow&&(ay x))))=true:=by simp only[ts43,B1,B2,B3,B4,B5,B6,B7,B8,B9,B10,B11,dB,dD,dF]
    exact⟨rfl,by rw[ej49];exact(Env.pick E (Env.pick E (Env.pick E (Env.pick E E.nil rfl) rfl) rfl) rfl),H⟩
   obtain⟨E,H⟩:=hj
   refine aj (wp_seq (wp_region_lit ?_))
   refine wv E rfl (aS (o':=1) (E.tmp rfl) iL rfl) fun a E=>wv E rfl (aD (E.tmp rfl) dV (H.cell 1 rfl rfl)) fun a E=>wv E rfl (aN (E.tmp rfl) (aC _) (lq (b:=decide (1≤x.pc)) rfl)) fun a E=>vm E rfl rfl fun a E=> ?_
   rcases aU (decide (1≤x.pc))with ts50|ts50
   ·
    refine bJ (c:=false) E rfl rfl rfl rfl ts50 rfl fun a E=> ?_
    refine bJ (c:=false) E rfl rfl rfl rfl ts50 rfl fun a E=> ?_
    refine bJ (c:=false) E rfl rfl rfl rfl ts50 rfl fun a E=> ?_
    refine bJ (c:=false) E rfl rfl rfl rfl ts50 rfl fun a E=> ?_
    refine wv E rfl (aJ ((E.tmp rfl).trans (congrArg Value.bool ts50)) (aC _)) fun a E=>vm E rfl rfl fun a E=>wn E rfl rfl rfl rfl rfl fun a E=>wn E rfl rfl rfl rfl rfl fun a E=>wn E rfl rfl rfl rfl rfl fun a E=> ?_
    refine wv E rfl (aJ (E.tmp rfl) (aC _)) fun a E=>vm E rfl rfl fun a E=>wn E rfl rfl rfl rfl rfl fun a E=>wn E rfl rfl rfl rfl rfl fun a E=>wn E rfl rfl rfl rfl rfl fun a E=> ?_
    refine wv E rfl (aJ (E.tmp rfl) (aC _)) fun a E=>vm E rfl rfl fun a E=>wn E rfl rfl rfl rfl rfl fun a E=>wv E rfl (aJ (E.tmp rfl) (aC _)) fun a E=>va E rfl rfl fun a E=> ?_
    refine wpList_nil (aj (wp_ret ?_))
    refine bB E rfl (aY E rfl) ?_
    have hE:false=aT x ow:=by
     have hd0:bZ x=(e16y==0):=by simp only[bZ,e16x]
     have hok:bW x ow=cond (e16y !=0) (decide (x.pc<3)&&decide (0≤x.b)) (ow||decide (0≤x.b)):=by simp only[bW,e16x]
     have hts7:=ts7
     have hts9:=ts9
     have hts14:=ts14
     have hts15:=ts15
     have hts18:=ts18
     have hts50:=ts50
     simp only[aT,hok,ts7,ts9,ts14,ts15,ts18,ts50]
     first|done|rfl|(simp;done)|(clear E H;simp[ay,aP,hd0]at hts7 hts9 hts14 hts15 hts18 hts50 ⊢;first|done|omega)|(clear E H;rw[Bool.eq_iff_iff];simp[ay,aP,hd0]at hts7 hts9 hts14 hts15 hts18 hts50 ⊢;omega)
    exact rb hE H
   refine bE E rfl rfl rfl ts50 ?_
   refine wv E rfl (aS (o':=1) (E.tmp rfl) iL rfl) fun a E=> ?_
   refine bE E rfl rfl rfl ts50 ?_
   refine wv E rfl (aD (E.tmp rfl) dV (H.cell 1 rfl rfl)) fun a E=> ?_
   refine bE E rfl rfl rfl ts50 ?_
   refine vm E rfl rfl fun a E=> ?_
   refine bE E rfl rfl rfl ts50 ?_
   refine wv E rfl (aN (E.tmp rfl) (E.tmp rfl) (xR (b:=decide (x.pc≤2)) rfl)) fun a E=>wv E rfl (aL ((E.tmp rfl).trans (congrArg Value.bool ts50)) (E.tmp rfl)) fun a E=>vm E rfl rfl fun a E=> ?_
   rcases aU (decide (x.pc≤2))with ts51|ts51
   ·
    refine bJ (c:=false) E rfl rfl rfl rfl ts51 rfl fun a E=> ?_
    refine bJ (c:=false) E rfl rfl rfl rfl ts51 rfl fun a E=> ?_
    refine bJ (c:=false) E rfl rfl rfl rfl ts51 rfl fun a E=> ?_
    refine wv E rfl (aJ ((E.tmp rfl).trans (congrArg Value.bool ts51)) (aC _)) fun a E=>vm E rfl rfl fun a E=>wn E rfl rfl rfl rfl rfl fun a E=>wn E rfl rfl rfl rfl rfl fun a E=>wn E rfl rfl rfl rfl rfl fun a E=> ?_
    refine wv E rfl (aJ (E.tmp rfl) (aC _)) fun a E=>vm E rfl rfl fun a E=>wn E rfl rfl rfl rfl rfl fun a E=>wv E rfl (aJ (E.tmp rfl) (aC _)) fun a E=>va E rfl rfl fun a E=> ?_
    refine wpList_nil (aj (wp_ret ?_))
    refine bB E rfl (aY E rfl) ?_
    have hE:false=aT x ow:=by
     have hd0:bZ x=(e16y==0):=by simp only[bZ,e16x]
     have hok:bW x ow=cond (e16y !=0) (decide (x.pc<3)&&decide (0≤x.b)) (ow||decide (0≤x.b)):=by simp only[bW,e16x]
     have hts7:=ts7
     have hts9:=ts9
     have hts14:=ts14
     have hts15:=ts15
     have hts18:=ts18
     have hts50:=ts50
     have hts51:=ts51
     simp only[aT,hok,ts7,ts9,ts14,ts15,ts18,ts50,ts51]
     first|done|rfl|(simp;done)|(clear E H;simp[ay,aP,hd0]at hts7 hts9 hts14 hts15 hts18 hts50 hts51 ⊢;first|done|omega)|(clear E H;rw[Bool.eq_iff_iff];simp[ay,aP,hd0]at hts7 hts9 hts14 hts15 hts18 hts50 hts51 ⊢;omega)
    exact rb hE H
   refine bE E rfl rfl rfl ts51 ?_
   refine wv E rfl (aS (o':=2) (E.tmp rfl) p9 rfl) fun a E=> ?_
   refine bE E rfl rfl rfl ts51 ?_
   refine wv E rfl (aD (E.tmp rfl) dV (H.cell 1 rfl rfl)) fun a E=> ?_
   refine bE E rfl rfl rfl ts51 ?_
   refine dx (v:=.bool (aP x.t 0 1000)) E rfl (aG (E.tmp rfl) (aX)) lX (kE x.t w) H (fun a w E H=> ?_)
   refine wv E rfl (aL ((E.tmp rfl).trans (congrArg Value.bool ts51)) (E.tmp rfl)) fun a E=>vm E rfl rfl fun a E=> ?_
   rcases aU (aP x.t 0 1000)with ts52|ts52
   ·
    refine bJ (c:=false) E rfl rfl rfl rfl ts52 rfl fun a E=> ?_
    refine bJ (c:=false) E rfl rfl rfl rfl ts52 rfl fun a E=> ?_
    refine bJ (c:=false) E rfl rfl rfl rfl ts52 rfl fun a E=> ?_
    refine wv E rfl (aJ ((E.tmp rfl).trans (congrArg Value.bool ts52)) (aC _)) fun a E=>vm E rfl rfl fun a E=>wn E rfl rfl rfl rfl rfl fun a E=>wv E rfl (aJ (E.tmp rfl) (aC _)) fun a E=>va E rfl rfl fun a E=> ?_
    refine wpList_nil (aj (wp_ret ?_))
    refine bB E rfl (aY E rfl) ?_
    have hE:false=aT x ow:=by
     have hd0:bZ x=(e16y==0):=by simp only[bZ,e16x]
     have hok:bW x ow=cond (e16y !=0) (decide (x.pc<3)&&decide (0≤x.b)) (ow||decide (0≤x.b)):=by simp only[bW,e16x]
     have hts7:=ts7
     have hts9:=ts9
     have hts14:=ts14
     have hts15:=ts15
     have hts18:=ts18
     have hts50:=ts50
     have hts51:=ts51
     have hts52:=ts52
     simp only[aT,hok,ts7,ts9,ts14,ts15,ts18,ts50,ts51,ts52]
     first|done|rfl|(simp;done)|(clear E H;simp[ay,aP,hd0]at hts7 hts9 hts14 hts15 hts18 hts50 hts51 hts52 ⊢;first|done|omega)|(clear E H;rw[Bool.eq_iff_iff];simp[ay,aP,hd0]at hts7 hts9 hts14 hts15 hts18 hts50 hts51 hts52 ⊢;omega)
    exact rb hE H
   refine bE E rfl rfl rfl ts52 ?_
   refine wv E rfl (aS (o':=4) (E.tmp rfl) qb rfl) fun a E=> ?_
   refine bE E rfl rfl rfl ts52 ?_
   refine wv E rfl (aD (E.tmp rfl) dV (H.cell 1 rfl rfl)) fun a E=> ?_
   refine bE E rfl rfl rfl ts52 ?_
   refine dx (v:=.bool (aP x.x 0 1000)) E rfl (aG (E.tmp rfl) (aX)) lX (kE x.x w) H (fun a w E H=> ?_)
   refine wv E rfl (aL ((E.tmp rfl).trans (congrArg Value.bool ts52)) (E.tmp rfl)) fun a E=>vm E rfl rfl fun a E=> ?_
   rcases aU (aP x.x 0 1000)with ts53|ts53
   ·
    refine bJ (c:=false) E rfl rfl rfl rfl ts53 rfl fun a E=> ?_
    refine wv E rfl (aJ ((E.tmp rfl).trans (congrArg Value.bool ts53)) (aC _)) fun a E=>va E rfl rfl fun a E=> ?_
    refine wpList_nil (aj (wp_ret ?_))
    refine bB E rfl (aY E rfl) ?_
    have hE:false=aT x ow:=by
     have hd0:bZ x=(e16y==0):=by simp only[bZ,e16x]
     have hok:bW x ow=cond (e16y !=0) (decide (x.pc<3)&&decide (0≤x.b)) (ow||decide (0≤x.b)):=by simp only[bW,e16x]
     have hts7:=ts7
     have hts9:=ts9
     have hts14:=ts14
     have hts15:=ts15
     have hts18:=ts18
     have hts50:=ts50
     have hts51:=ts51
     have hts52:=ts52
     have hts53:=ts53
     simp only[aT,hok,ts7,ts9,ts14,ts15,ts18,ts50,ts51,ts52,ts53]
     first|done|rfl|(simp;done)|(clear E H;simp[ay,aP,hd0]at hts7 hts9 hts14 hts15 hts18 hts50 hts51 hts52 hts53 ⊢;first|done|omega)|(clear E H;rw[Bool.eq_iff_iff];simp[ay,aP,hd0]at hts7 hts9 hts14 hts15 hts18 hts50 hts51 hts52 hts53 ⊢;omega)
    exact rb hE H
   refine bE E rfl rfl rfl ts53 ?_
   refine vm E rfl rfl fun a E=>wv E rfl (aL ((E.tmp rfl).trans (congrArg Value.bool ts53)) (E.tmp rfl)) fun a E=>va E rfl rfl fun a E=> ?_
   refine wpList_nil (aj (wp_ret ?_))
   refine bB E rfl (aY E rfl) ?_
   rcases aU ((aP x.b 0 1000)||((x.b==(-1))&&(ow&&(ay x))))with ts54|ts54
   ·
    obtain⟨ts55,ts56⟩:=lC ts54
    rw[show((aP x.b 0 1000)||((x.b==(-1))&&(ow&&(ay x))))=false from ts54]
    rcases pK ts56 with ts57|⟨ts57,ts58⟩
    ·
     have hE:false=aT x ow:=by
      have hd0:bZ x=(e16y==0):=by simp only[bZ,e16x]
      have hok:bW x ow=cond (e16y !=0) (decide (x.pc<3)&&decide (0≤x.b)) (ow||decide (0≤x.b)):=by simp only[bW,e16x]
      have hts7:=ts7
      have hts9:=ts9
      have hts14:=ts14
      have hts15:=ts15
      have hts18:=ts18
      have hts50:=ts50
      have hts51:=ts51
      have hts52:=ts52
      have hts53:=ts53
      have hts55:=ts55
      have hts57:=ts57
      simp only[aT,hok,ts7,ts9,ts14,ts15,ts18,ts50,ts51,ts52,ts53,ts55,ts57]
      first|done|rfl|(simp;done)|(clear E H;simp[ay,aP,hd0]at hts7 hts9 hts14 hts15 hts18 hts50 hts51 hts52 hts53 hts55 hts57 ⊢;first|done|omega)|(clear E H;rw[Bool.eq_iff_iff];simp[ay,aP,hd0]at hts7 hts9 hts14 hts15 hts18 hts50 hts51 hts52 hts53 hts55 hts57 ⊢;omega)
     exact rb hE H
    rcases pK ts58 with ts59|⟨ts59,ts60⟩
    ·
     have hE:false=aT x ow:=by
      subst ts59
      have hd0:bZ x=(e16y==0):=by simp only[bZ,e16x]
      have hok:bW x false=cond (e16y !=0) (decide (x.pc<3)&&decide (0≤x.b)) (false||decide (0≤x.b)):=by simp only[bW,e16x]
      have hts7:=ts7
      have hts9:=ts9
      have hts14:=ts14
      have hts15:=ts15
      have hts18:=ts18
      have hts50:=ts50
      have hts51:=ts51
      have hts52:=ts52
      have hts53:=ts53
      have hts55:=ts55
      have hts57:=ts57
      simp only[aT,hok,ts7,ts9,ts14,ts15,ts18,ts50,ts51,ts52,ts53,ts55,ts57]
      first|done|rfl|(simp;done)|(clear E H;simp[ay,aP,hd0]at hts7 hts9 hts14 hts15 hts18 hts50 hts51 hts52 hts53 hts55 hts57 ⊢;first|done|omega)|(clear E H;rw[Bool.eq_iff_iff];simp[ay,aP,hd0]at hts7 hts9 hts14 hts15 hts18 hts50 hts51 hts52 hts53 hts55 hts57 ⊢;omega)
     exact rb hE H
    have hE:false=aT x ow:=by
     subst ts59
     have hd0:bZ x=(e16y==0):=by simp only[bZ,e16x]
     have hok:bW x true=cond (e16y !=0) (decide (x.pc<3)&&decide (0≤x.b)) (true||decide (0≤x.b)):=by simp only[bW,e16x]
     have hts7:=ts7
     have hts9:=ts9
     have hts14:=ts14
     have hts15:=ts15
     have hts18:=ts18
     have hts50:=ts50
     have hts51:=ts51
     have hts52:=ts52
     have hts53:=ts53
     have hts55:=ts55
     have hts57:=ts57
     have hts60:=ts60
     simp only[aT,hok,ts7,ts9,ts14,ts15,ts18,ts50,ts51,ts52,ts53,ts55,ts57,ts60]
     first|done|rfl|(simp;done)|(clear E H;simp[ay,aP,hd0]at hts7 hts9 hts14 hts15 hts18 hts50 hts51 hts52 hts53 hts55 hts57 hts60 ⊢;first|done|omega)|(clear E H;rw[Bool.eq_iff_iff];simp[ay,aP,hd0]at hts7 hts9 hts14 hts15 hts18 hts50 hts51 hts52 hts53 hts55 hts57 hts60 ⊢;omega)
    exact rb hE H
   rw[show((aP x.b 0 1000)||((x.b==(-1))&&(ow&&(ay x))))=true from ts54]
   rcases iY ts54 with ts61|⟨ts61,ts62⟩
   ·
    have hE:true=aT x ow:=by
     have hd0:bZ x=(e16y==0):=by simp only[bZ,e16x]
     have hok:bW x ow=cond (e16y !=0) (decide (x.pc<3)&&decide (0≤x.b)) (ow||decide (0≤x.b)):=by simp only[bW,e16x]
     have hts7:=ts7
     have hts9:=ts9
     have hts14:=ts14
     have hts15:=ts15
     have hts18:=ts18
     have hts50:=ts50
     have hts51:=ts51
     have hts52:=ts52
     have hts53:=ts53
     have hts61:=ts61
     simp only[aT,hok,ts7,ts9,ts14,ts15,ts18,ts50,ts51,ts52,ts53,ts61]
     first|done|rfl|(simp;done)|(clear E H;simp[ay,aP,hd0]at hts7 hts9 hts14 hts15 hts18 hts50 hts51 hts52 hts53 hts61 ⊢;first|done|omega)|(clear E H;rw[Bool.eq_iff_iff];simp[ay,aP,hd0]at hts7 hts9 hts14 hts15 hts18 hts50 hts51 hts52 hts53 hts61 ⊢;omega)
    exact rb hE H
   obtain⟨ts63,ts64⟩:=BD ts62
   obtain⟨ts65,ts66⟩:=BD ts64
   have hE:true=aT x ow:=by
    subst ts65
    have hd0:bZ x=(e16y==0):=by simp only[bZ,e16x]
    have hok:bW x true=cond (e16y !=0) (decide (x.pc<3)&&decide (0≤x.b)) (true||decide (0≤x.b)):=by simp only[bW,e16x]
    have hts7:=ts7
    have hts9:=ts9
    have hts14:=ts14
    have hts15:=ts15
    have hts18:=ts18
    have hts50:=ts50
    have hts51:=ts51
    have hts52:=ts52
    have hts53:=ts53
    have hts61:=ts61
    have hts63:=ts63
    have hts66:=ts66
    simp only[aT,hok,ts7,ts9,ts14,ts15,ts18,ts50,ts51,ts52,ts53,ts61,ts63,ts66]
    first|done|rfl|(simp;done)|(clear E H;simp[ay,aP,hd0]at hts7 hts9 hts14 hts15 hts18 hts50 hts51 hts52 hts53 hts61 hts63 hts66 ⊢;first|done|omega)|(clear E H;rw[Bool.eq_iff_iff];simp[ay,aP,hd0]at hts7 hts9 hts14 hts15 hts18 hts50 hts51 hts52 hts53 hts61 hts63 hts66 ⊢;omega)
   exact rb hE H
  refine bH E rfl ts13 ?_
  refine wp_seq (wp_region_lit ?_)
  refine wv E rfl (aS (o':=1) (E.tmp rfl) iL rfl) fun a E=>wv E rfl (aD (E.tmp rfl) dV (H.cell 1 rfl rfl)) fun a E=>wv E rfl (aN (E.tmp rfl) (aC _) (gV (b:=x.pc==0) rfl)) fun a E=>vm E rfl rfl fun a E=> ?_
  rcases aU (x.pc==0)with ts67|ts67
  ·
   refine bJ (c:=false) E rfl rfl rfl rfl ts67 rfl fun a E=> ?_
   refine bJ (c:=false) E rfl rfl rfl rfl ts67 rfl fun a E=> ?_
   refine bJ (c:=false) E rfl rfl rfl rfl ts67 rfl fun a E=> ?_
   refine wv E rfl (aJ ((E.tmp rfl).trans (congrArg Value.bool ts67)) (aC _)) fun a E=>vm E rfl rfl fun a E=>wn E rfl rfl rfl rfl rfl fun a E=>wn E rfl rfl rfl rfl rfl fun a E=>wn E rfl rfl rfl rfl rfl fun a E=> ?_
   refine wv E rfl (aJ (E.tmp rfl) (aC _)) fun a E=>vm E rfl rfl fun a E=>wn E rfl rfl rfl rfl rfl fun a E=>wn E rfl rfl rfl rfl rfl fun a E=>wn E rfl rfl rfl rfl rfl fun a E=> ?_
   refine wv E rfl (aJ (E.tmp rfl) (aC _)) fun a E=>va E rfl rfl fun a E=> ?_
   refine wpList_nil (aj (wp_ret (bM ?_)))
   refine bB E rfl (aY E rfl) ?_
   rcases iY ts13 with ts68|⟨ts68,ts69⟩
   ·
    have hE:false=aT x ow:=by
     have hts7:=ts7
     have hts9:=ts9
     have hts67:=ts67
     have hts68:=ts68
     simp only[aT,ts7,ts9,ts67,ts68]
     first|done|rfl|(simp;done)|(clear E H;simp[ay,aP]at hts7 hts9 hts67 hts68 ⊢;first|done|omega)|(clear E H;rw[Bool.eq_iff_iff];simp[ay,aP]at hts7 hts9 hts67 hts68 ⊢;omega)
    exact rb hE H
   have hE:false=aT x ow:=by
    have hts7:=ts7
    have hts9:=ts9
    have hts67:=ts67
    have hts68:=ts68
    have hts69:=ts69
    simp only[aT,ts7,ts9,ts67,ts68,ts69]
    first|done|rfl|(simp;done)|(clear E H;simp[ay,aP]at hts7 hts9 hts67 hts68 hts69 ⊢;first|done|omega)|(clear E H;rw[Bool.eq_iff_iff];simp[ay,aP]at hts7 hts9 hts67 hts68 hts69 ⊢;omega)
   exact rb hE H
  refine bE E rfl rfl rfl ts67 ?_
  refine wv E rfl (aS (o':=2) (E.tmp rfl) p9 rfl) fun a E=> ?_
  refine bE E rfl rfl rfl ts67 ?_
  refine wv E rfl (aD (E.tmp rfl) dV (H.cell 1 rfl rfl)) fun a E=> ?_
  refine bE E rfl rfl rfl ts67 ?_
  refine wv E rfl (aN (E.tmp rfl) (aC _) (gV (b:=x.t==0) rfl)) fun a E=>wv E rfl (aL ((E.tmp rfl).trans (congrArg Value.bool ts67)) (E.tmp rfl)) fun a E=>vm E rfl rfl fun a E=> ?_
  rcases aU (x.t==0)with ts70|ts70
  ·
   refine bJ (c:=false) E rfl rfl rfl rfl ts70 rfl fun a E=> ?_
   refine bJ (c:=false) E rfl rfl rfl rfl ts70 rfl fun a E=> ?_
   refine bJ (c:=false) E rfl rfl rfl rfl ts70 rfl fun a E=> ?_
   refine wv E rfl (aJ ((E.tmp rfl).trans (congrArg Value.bool ts70)) (aC _)) fun a E=>vm E rfl rfl fun a E=>wn E rfl rfl rfl rfl rfl fun a E=>wn E rfl rfl rfl rfl rfl fun a E=>wn E rfl rfl rfl rfl rfl fun a E=> ?_
   refine wv E rfl (aJ (E.tmp rfl) (aC _)) fun a E=>va E rfl rfl fun a E=> ?_
   refine wpList_nil (aj (wp_ret (bM ?_)))
   refine bB E rfl (aY E rfl) ?_
   rcases iY ts13 with ts71|⟨ts71,ts72⟩
   ·
    have hE:false=aT x ow:=by
     have hts7:=ts7
     have hts9:=ts9
     have hts67:=ts67
     have hts70:=ts70
     have hts71:=ts71
     simp only[aT,ts7,ts9,ts67,ts70,ts71]
     first|done|rfl|(simp;done)|(clear E H;simp[ay,aP]at hts7 hts9 hts67 hts70 hts71 ⊢;first|done|omega)|(clear E H;rw[Bool.eq_iff_iff];simp[ay,aP]at hts7 hts9 hts67 hts70 hts71 ⊢;omega)
    exact rb hE H
   have hE:false=aT x ow:=by
    have hts7:=ts7
    have hts9:=ts9
    have hts67:=ts67
    have hts70:=ts70
    have hts71:=ts71
    have hts72:=ts72
    simp only[aT,ts7,ts9,ts67,ts70,ts71,ts72]
    first|done|rfl|(simp;done)|(clear E H;simp[ay,aP]at hts7 hts9 hts67 hts70 hts71 hts72 ⊢;first|done|omega)|(clear E H;rw[Bool.eq_iff_iff];simp[ay,aP]at hts7 hts9 hts67 hts70 hts71 hts72 ⊢;omega)
   exact rb hE H
  refine bE E rfl rfl rfl ts70 ?_
  refine wv E rfl (aS (o':=3) (E.tmp rfl) kU rfl) fun a E=> ?_
  refine bE E rfl rfl rfl ts70 ?_
  refine wv E rfl (aD (E.tmp rfl) dV (H.cell 1 rfl rfl)) fun a E=> ?_
  refine bE E rfl rfl rfl ts70 ?_
  refine wv E rfl (aN (E.tmp rfl) (aC _) (gV (b:=x.b==0) rfl)) fun a E=>wv E rfl (aL ((E.tmp rfl).trans (congrArg Value.bool ts70)) (E.tmp rfl)) fun a E=>vm E rfl rfl fun a E=> ?_
  rcases aU (x.b==0)with ts73|ts73
  ·
   refine bJ (c:=false) E rfl rfl rfl rfl ts73 rfl fun a E=> ?_
   refine bJ (c:=false) E rfl rfl rfl rfl ts73 rfl fun a E=> ?_
   refine bJ (c:=false) E rfl rfl rfl rfl ts73 rfl fun a E=> ?_
   refine wv E rfl (aJ ((E.tmp rfl).trans (congrArg Value.bool ts73)) (aC _)) fun a E=>va E rfl rfl fun a E=> ?_
   refine wpList_nil (aj (wp_ret (bM ?_)))
   refine bB E rfl (aY E rfl) ?_
   rcases iY ts13 with ts74|⟨ts74,ts75⟩
   ·
    have hE:false=aT x ow:=by
     have hts7:=ts7
     have hts9:=ts9
     have hts67:=ts67
     have hts70:=ts70
     have hts73:=ts73
     have hts74:=ts74
     simp only[aT,ts7,ts9,ts67,ts70,ts73,ts74]
     first|done|rfl|(simp;done)|(clear E H;simp[ay,aP]at hts7 hts9 hts67 hts70 hts73 hts74 ⊢;first|done|omega)|(clear E H;rw[Bool.eq_iff_iff];simp[ay,aP]at hts7 hts9 hts67 hts70 hts73 hts74 ⊢;omega)
    exact rb hE H
   have hE:false=aT x ow:=by
    have hts7:=ts7
    have hts9:=ts9
    have hts67:=ts67
    have hts70:=ts70
    have hts73:=ts73
    have hts74:=ts74
    have hts75:=ts75
    simp only[aT,ts7,ts9,ts67,ts70,ts73,ts74,ts75]
    first|done|rfl|(simp;done)|(clear E H;simp[ay,aP]at hts7 hts9 hts67 hts70 hts73 hts74 hts75 ⊢;first|done|omega)|(clear E H;rw[Bool.eq_iff_iff];simp[ay,aP]at hts7 hts9 hts67 hts70 hts73 hts74 hts75 ⊢;omega)
   exact rb hE H
  refine bE E rfl rfl rfl ts73 ?_
  refine wv E rfl (aS (o':=4) (E.tmp rfl) qb rfl) fun a E=> ?_
  refine bE E rfl rfl rfl ts73 ?_
  refine wv E rfl (aD (E.tmp rfl) dV (H.cell 1 rfl rfl)) fun a E=> ?_
  refine bE E rfl rfl rfl ts73 ?_
  refine wv E rfl (aN (E.tmp rfl) (aC _) (gV (b:=x.x==0) rfl)) fun a E=>wv E rfl (aL ((E.tmp rfl).trans (congrArg Value.bool ts73)) (E.tmp rfl)) fun a E=>va E rfl rfl fun a E=> ?_
  refine wpList_nil (aj (wp_ret (bM ?_)))
  refine bB E rfl (aY E rfl) ?_
  rcases iY ts13 with ts76|⟨ts76,ts77⟩
  ·
   have hE:(x.x==0)=aT x ow:=by
    have hts7:=ts7
    have hts9:=ts9
    have hts67:=ts67
    have hts70:=ts70
    have hts73:=ts73
    have hts76:=ts76
    simp only[aT,ts7,ts9,ts67,ts70,ts73,ts76]
    first|done|rfl|(simp;done)|(clear E H;simp[ay,aP]at hts7 hts9 hts67 hts70 hts73 hts76 ⊢;first|done|omega)|(clear E H;rw[Bool.eq_iff_iff];simp[ay,aP]at hts7 hts9 hts67 hts70 hts73 hts76 ⊢;omega)
   exact rb hE H
  have hE:(x.x==0)=aT x ow:=by
   have hts7:=ts7
   have hts9:=ts9
   have hts67:=ts67
   have hts70:=ts70
   have hts73:=ts73
   have hts76:=ts76
   have hts77:=ts77
   simp only[aT,ts7,ts9,ts67,ts70,ts73,ts76,ts77]
   first|done|rfl|(simp;done)|(clear E H;simp[ay,aP]at hts7 hts9 hts67 hts70 hts73 hts76 hts77 ⊢;first|done|omega)|(clear E H;rw[Bool.eq_iff_iff];simp[ay,aP]at hts7 hts9 hts67 hts70 hts73 hts76 hts77 ⊢;omega)
  exact rb hE H
 refine bH E rfl ts6 ?_
 refine wp_seq (wp_region_lit ?_)
 refine wv E rfl (aK (aC _)) fun a E=> ?_
 refine wpList_nil (aj (wp_ret (bM ?_)))
 refine bB E rfl (aY E rfl) ?_
 rcases iY ts6 with ts78|⟨ts78,ts79⟩
 ·
  have hE:false=aT x ow:=by
   have hts78:=ts78
   simp only[aT,ts78]
   first|done|rfl|(simp;done)|(clear E H;simp[ay,aP]at hts78 ⊢;first|done|omega)|(clear E H;rw[Bool.eq_iff_iff];simp[ay,aP]at hts78 ⊢;omega)
  exact rb hE H
 have ts80:=D7 ts79
 have hE:false=aT x ow:=by
  have hts78:=ts78
  have hts80:=ts80
  simp only[aT,ts78,ts80]
  first|done|rfl|(simp;done)|(clear E H;simp[ay,aP]at hts78 hts80 ⊢;first|done|omega)|(clear E H;rw[Bool.eq_iff_iff];simp[ay,aP]at hts78 hts80 ⊢;omega)
 exact rb hE H
end Go.Proofs.Ytjpaeopdljfjpaa
