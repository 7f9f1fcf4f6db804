
/- Deques. Printed by gx_dq.py. -/
import Derived.Test.YtjpaeopdljfjpaaShort
import Derived.Test.YtjpaeopdljfjpaaProg
import Derived.Test.YtjpaeopdljfjpaaSc
import Derived.Test.YtjpaeopdljfjpaaDDq
import Derived.Test.YtjpaeopdljfjpaaNet
import Derived.IntWalk
import Derived.Test.YtjpaeopdljfjpaaDq15
set_option linter.unusedSimpArgs false
set_option linter.unusedVariables false
namespace Go.Tr
structure Mf(x:aQ):Prop where
 h1:aP ((x.buffer.length:Nat):Int) 1 8=true
 h2:aP x.top 0 1000=true
 h3:aP x.bottom (-1) 1000=true
 h4:aP ((x.actors.length:Nat):Int) 1 4=true
 h5:decide ((1000:Int)<((x.taken.length:Nat):Int))=false
 h6:decide ((1000:Int)<((x.refused.length:Nat):Int))=false
 h7:x.buffer.all eG=true
 acts:kg x.actors.length (pJ x.actors)=true
 h9:x.taken.all (lg x.actors.length)=true
 h10:x.refused.all (fun n=>aP n 1 1000)=true
 room:∀a,x.actors[0]? =some a→uK x a=true
theorem zf(x:aQ):okB x=true↔Mf x:=by
 constructor
 ·intro h;simp only[okB,qD,Bool.not_eq_true']at h;obtain⟨⟨⟨⟨⟨⟨⟨⟨⟨⟨h1,h2⟩,h3⟩,h4⟩,h5⟩,h6⟩,h7⟩,h8⟩,h9⟩,h10⟩,h11⟩:=h;exact⟨h1,h2,h3,h4,h5,h6,h7,h8,h9,h10,fun a ha=>by rw[ha]at h11;exact h11⟩
 ·intro h
  have h11:(match x.actors[0]? with|some a=>uK x a|none=>true)=true:=by
   cases ha:x.actors[0]? with
   |none=>rfl
   |some a=>exact h.room a ha
  simp only[okB,h.h1,h.h2,h.h3,h.h4,h.h5,h.h6,h.h7,h.acts,h.h9,h.h10,Bool.true_and,Bool.not_false];exact h11
theorem cZ{x:aQ}(h:¬Mf x):false=okB x:=by
 cases hb:okB x with
 |false=>rfl
 |true=>exact absurd ((zf x).1 hb) h
theorem rX{x:aQ}(h1:aP ((x.buffer.length:Nat):Int) 1 8=true)(h2:aP x.top 0 1000=true)(h3:aP x.bottom (-1) 1000=true)(h4:aP ((x.actors.length:Nat):Int) 1 4=true)(h5:decide ((1000:Int)<((x.taken.length:Nat):Int))=false)(h6:decide ((1000:Int)<((x.refused.length:Nat):Int))=false)(h7:x.buffer.all eG=true)
  (h8:kg x.actors.length (pJ x.actors)=true) (h9:x.taken.all (lg x.actors.length)=true) (h11:∀a,x.actors[0]? =some a→uK x a=true):okB x=x.refused.all (fun n=>aP n 1 1000):=by
 cases hb:x.refused.all (fun n=>aP n 1 1000)with
 |true=>exact(zf x).2 ⟨h1,h2,h3,h4,h5,h6,h7,h8,h9,hb,h11⟩
 |false=>exact(cZ fun h=>absurd (hb.symm.trans h.h10) (by decide)).symm
theorem dn(x:aQ)(a:ah):uK x a=aP (IntKind.i64.wrap (x.bottom-x.top)) (cond (ay a) (-1) 0) ((x.buffer.length:Nat):Int):=by
 have:y5 a=cond (ay a) (-1) 0:=by
  obtain⟨td,pc,t,b,v⟩:=a;unfold y5 ay bZ;cases td with
  |nil=>simp
  |cons n tl=>
   have e1:decide ((0:Int)<(((n::tl).length:Nat):Int))=true:=by rw[qQ,qI];omega
   rw[e1];simp only[List.getElem?_cons_zero,Bool.true_and,Bool.and_comm];have e2:decide (0<pc)=decide (1≤pc):=by rw[decide_eq_decide];omega
   rw[e2]
 unfold uK;rw[this]
end Go.Tr
namespace Go.Proofs.Ytjpaeopdljfjpaa
open Go Go.RowKit Go.Proofs Go.Tr
theorem mK:bI Try.prog 30 2=some 2:=by kernel_rfl
theorem lK:eP Try.prog 24=some false:=by kernel_rfl
theorem rM:cO Try.prog 24=some (2,1):=by kernel_rfl
theorem Aq:dA Try.prog 24=true:=by kernel_rfl
theorem mM:bI Try.prog 30 3=some 3:=by kernel_rfl
theorem rD:eP Try.prog 27=some false:=by kernel_rfl
theorem nO:cO Try.prog 27=some (57,5):=by kernel_rfl
theorem vU:bI Try.prog 30 0=some 0:=by kernel_rfl
theorem rF:eP Try.prog 2=some false:=by kernel_rfl
theorem Av:dA Try.prog 57=true:=by kernel_rfl
theorem pX:bI Try.prog 30 1=some 1:=by kernel_rfl
theorem vB:eP Try.prog 57=some true:=by kernel_rfl
theorem sJ:(Try.prog.info? 57).map (·.size)=some 5:=by kernel_rfl
theorem Hq:zeroOf Try.prog 57=some [.slice none 0 0,.int .i64 (0),.int .i64 (0),.int .i64 (0),.int .i64 (0)]:=by kernel_rfl
theorem vW:bI Try.prog 30 4=some 4:=by kernel_rfl
theorem zP:eP Try.prog 28=some false:=by kernel_rfl
theorem FC:cO Try.prog 28=some (36,2):=by kernel_rfl
theorem vY:bI Try.prog 30 5=some 5:=by kernel_rfl
set_option maxHeartbeats 4000000 in
theorem zI(x:aQ)(abufferA:Option Addr)(abufferc:Nat)(aactorsA:Option Addr)(aactorsc:Nat)(atakenA:Option Addr)(atakenc:Nat)(arefusedA:Option Addr)(arefusedc:Nat)(w0:World)(abufferH:dz w0 [] (.sl x.buffer.length (x.buffer.flatMap au)) (.slice abufferA x.buffer.length abufferc))(aactorsH:dz w0 [] (.sl x.actors.length (x.actors.flatMap ah.enc)) (.slice aactorsA x.actors.length aactorsc))(atakenH:dz w0 [] (.sl x.taken.length (x.taken.flatMap ak.enc)) (.slice atakenA x.taken.length atakenc))(arefusedH:dz w0 [] (.sl x.refused.length (x.refused.flatMap au)) (.slice arefusedA x.refused.length arefusedc)):Calls Try.prog 29 #[.agg #[.int .i64 (x.top),.int .i64 (x.bottom),.slice abufferA x.buffer.length abufferc,.slice aactorsA x.actors.length aactorsc,.slice atakenA x.taken.length atakenc,.slice arefusedA x.refused.length arefusedc]] w0 fun e w'=>e=.returned (.bool (okB x))∧Ext w0 w':=by
 refine bF (args:=[.agg #[.int .i64 (x.top),.int .i64 (x.bottom),.slice abufferA x.buffer.length abufferc,.slice aactorsA x.actors.length aactorsc,.slice atakenA x.taken.length atakenc,.slice arefusedA x.refused.length arefusedc]]) Try.func29 rfl Try.ntmps29 rfl iI (fun a w E H=> ?_)
 have E:Env 109 a [(0,.agg #[.int .i64 (x.top),.int .i64 (x.bottom),.slice abufferA x.buffer.length abufferc,.slice aactorsA x.actors.length aactorsc,.slice atakenA x.taken.length atakenc,.slice arefusedA x.refused.length arefusedc])]:=E
 have hnlA:=aactorsH.Ei
 refine wp_seq (wp_region_lit ?_)
 refine xB (us:=[.int .i64 (x.top),.int .i64 (x.bottom),.slice abufferA x.buffer.length abufferc,.slice aactorsA x.actors.length aactorsc,.slice atakenA x.taken.length atakenc,.slice arefusedA x.refused.length arefusedc]) E rfl (E.tmp rfl) rfl H (fun a w g1 E H=> ?_)
 refine wv E rfl (aK (aC _)) fun a E=> ?_
 refine wpList_nil (aj (wp_seq (wp_seq ?_)))
 refine ji (fun a w=>Env 109 a [(1,.pointer (some ⟨g1,0,none⟩)),(2,.bool (false)),(20,.bool ((decide (((x.buffer.length:Nat):Int)<1))||((decide (8<((x.buffer.length:Nat):Int)))||(!x.buffer.all (eG)))))]∧Tr.Inv w0 [] w [bC g1 [.int .i64 (x.top),.int .i64 (x.bottom),.slice abufferA x.buffer.length abufferc,.slice aactorsA x.actors.length aactorsc,.slice atakenA x.taken.length atakenc,.slice arefusedA x.refused.length arefusedc] 30]) ?_ (fun a w hj=> ?_)
 ·
  refine wp_region_lit ?_
  refine wv E rfl (aS (o':=2) (E.tmp rfl) mK rfl) fun a E=>wv E rfl (aD (E.tmp rfl) lK (H.cell 0 rfl rfl)) fun a E=> ?_
  refine wv E rfl (dM (E.tmp rfl) rM) (fun a E=> ?_)
  refine wv E rfl (aN (E.tmp rfl) (aC _) (iD (b:=decide (((x.buffer.length:Nat):Int)<1)) rfl)) fun a E=>vm E rfl rfl fun a E=> ?_
  rcases aU (decide (((x.buffer.length:Nat):Int)<1))with ts2|ts2
  ·
   refine bE E rfl rfl rfl ts2 ?_
   refine wv E rfl (aS (o':=2) (E.tmp rfl) mK rfl) fun a E=> ?_
   refine bE E rfl rfl rfl ts2 ?_
   refine wv E rfl (aD (E.tmp rfl) lK (H.cell 0 rfl rfl)) fun a E=> ?_
   refine bE E rfl rfl rfl ts2 ?_
   refine wv E rfl (dM (E.tmp rfl) rM) (fun a E=> ?_)
   refine bE E rfl rfl rfl ts2 ?_
   refine wv E rfl (aN (E.tmp rfl) (aC _) (gF (b:=decide (8<((x.buffer.length:Nat):Int))) rfl)) fun a E=>wv E rfl (aJ ((E.tmp rfl).trans (congrArg Value.bool ts2)) (E.tmp rfl)) fun a E=>vm E rfl rfl fun a E=> ?_
   rcases aU (decide (8<((x.buffer.length:Nat):Int)))with ts3|ts3
   ·
    refine bE E rfl rfl rfl ts3 ?_
    refine wv E rfl (aS (o':=2) (E.tmp rfl) mK rfl) fun a E=> ?_
    refine bE E rfl rfl rfl ts3 ?_
    refine wv E rfl (aD (E.tmp rfl) lK (H.cell 0 rfl rfl)) fun a E=> ?_
    refine bE E rfl rfl rfl ts3 ?_
    refine dx (v:=.bool (!x.buffer.all (eG))) E rfl (aG (E.tmp rfl) (aG (J9 _) (aX))) Aq (Ii x.buffer abufferc abufferA w (abufferH.at_ H (F:=[]) (by simp))) H (fun a w E H=> ?_)
    refine wv E rfl (aJ ((E.tmp rfl).trans (congrArg Value.bool ts3)) (E.tmp rfl)) fun a E=> ?_
    refine wpList_nil ?_
    have ej4:((decide (((x.buffer.length:Nat):Int)<1))||((decide (8<((x.buffer.length:Nat):Int)))||(!x.buffer.all (eG))))=(!x.buffer.all (eG)):=by simp only[ts2,ts3,B1,B2,B3,B4,B5,B6,B7,B8,B9,B10,B11,dB,dD,dF]
    exact⟨rfl,by rw[ej4];exact(Env.pick E (Env.pick E (Env.pick E E.nil rfl) rfl) rfl),H⟩
   refine bJ (c:=true) E rfl rfl rfl rfl ts3 rfl fun a E=> ?_
   refine bJ (c:=true) E rfl rfl rfl rfl ts3 rfl fun a E=> ?_
   refine bJ (c:=true) E rfl rfl rfl rfl ts3 rfl fun a E=> ?_
   refine wv E rfl (aL ((E.tmp rfl).trans (congrArg Value.bool ts3)) (aC _)) fun a E=> ?_
   refine wpList_nil ?_
   have ej5:((decide (((x.buffer.length:Nat):Int)<1))||((decide (8<((x.buffer.length:Nat):Int)))||(!x.buffer.all (eG))))=true:=by simp only[ts2,ts3,B1,B2,B3,B4,B5,B6,B7,B8,B9,B10,B11,dB,dD,dF]
   exact⟨rfl,by rw[ej5];exact(Env.pick E (Env.pick E (Env.pick E E.nil rfl) rfl) rfl),H⟩
  refine bJ (c:=true) E rfl rfl rfl rfl ts2 rfl fun a E=> ?_
  refine bJ (c:=true) E rfl rfl rfl rfl ts2 rfl fun a E=> ?_
  refine bJ (c:=true) E rfl rfl rfl rfl ts2 rfl fun a E=> ?_
  refine bJ (c:=true) E rfl rfl rfl rfl ts2 rfl fun a E=> ?_
  refine wv E rfl (aL ((E.tmp rfl).trans (congrArg Value.bool ts2)) (aC _)) fun a E=>vm E rfl rfl fun a E=>wn E rfl rfl rfl rfl rfl fun a E=>wn E rfl rfl rfl rfl rfl fun a E=>wn E rfl rfl rfl rfl rfl fun a E=> ?_
  refine wv E rfl (aL (E.tmp rfl) (aC _)) fun a E=> ?_
  refine wpList_nil ?_
  have ej6:((decide (((x.buffer.length:Nat):Int)<1))||((decide (8<((x.buffer.length:Nat):Int)))||(!x.buffer.all (eG))))=true:=by simp only[ts2,B1,B2,B3,B4,B5,B6,B7,B8,B9,B10,B11,dB,dD,dF]
  exact⟨rfl,by rw[ej6];exact(Env.pick E (Env.pick E (Env.pick E E.nil rfl) rfl) rfl),H⟩
 obtain⟨E,H⟩:=hj
 refine aj ?_
 rcases aU ((decide (((x.buffer.length:Nat):Int)<1))||((decide (8<((x.buffer.length:Nat):Int)))||(!x.buffer.all (eG))))with ts7|ts7
 ·
  obtain⟨ts8,ts9⟩:=lC ts7
  obtain⟨ts10,ts11⟩:=lC ts9
  have ts12:=pO ts11
  refine bG E rfl ts7 ?_
  refine wp_skip (aj (wp_seq (wp_seq ?_)))
  refine ji (fun a w=>Env 109 a [(1,.pointer (some ⟨g1,0,none⟩)),(2,.bool (false)),(47,.bool ((decide (((x.actors.length:Nat):Int)<1))||((decide (4<((x.actors.length:Nat):Int)))||((!(aP x.top 0 1000))||((x.bottom !=(-1))&&(!(aP x.bottom 0 1000)))))))]∧Tr.Inv w0 [] w [bC g1 [.int .i64 (x.top),.int .i64 (x.bottom),.slice abufferA x.buffer.length abufferc,.slice aactorsA x.actors.length aactorsc,.slice atakenA x.taken.length atakenc,.slice arefusedA x.refused.length arefusedc] 30]) ?_ (fun a w hj=> ?_)
  ·
   refine wp_region_lit ?_
   refine wv E rfl (aS (o':=3) (E.tmp rfl) mM rfl) fun a E=>wv E rfl (aD (E.tmp rfl) rD (H.cell 0 rfl rfl)) fun a E=> ?_
   refine wv E rfl (dM (E.tmp rfl) nO) (fun a E=> ?_)
   refine wv E rfl (aN (E.tmp rfl) (aC _) (iD (b:=decide (((x.actors.length:Nat):Int)<1)) rfl)) fun a E=>vm E rfl rfl fun a E=> ?_
   rcases aU (decide (((x.actors.length:Nat):Int)<1))with ts13|ts13
   ·
    refine bE E rfl rfl rfl ts13 ?_
    refine wv E rfl (aS (o':=3) (E.tmp rfl) mM rfl) fun a E=> ?_
    refine bE E rfl rfl rfl ts13 ?_
    refine wv E rfl (aD (E.tmp rfl) rD (H.cell 0 rfl rfl)) fun a E=> ?_
    refine bE E rfl rfl rfl ts13 ?_
    refine wv E rfl (dM (E.tmp rfl) nO) (fun a E=> ?_)
    refine bE E rfl rfl rfl ts13 ?_
    refine wv E rfl (aN (E.tmp rfl) (aC _) (gF (b:=decide (4<((x.actors.length:Nat):Int))) rfl)) fun a E=>wv E rfl (aJ ((E.tmp rfl).trans (congrArg Value.bool ts13)) (E.tmp rfl)) fun a E=>vm E rfl rfl fun a E=> ?_
    rcases aU (decide (4<((x.actors.length:Nat):Int)))with ts14|ts14
    ·
     refine bE E rfl rfl rfl ts14 ?_
     refine wv E rfl (aS (o':=0) (E.tmp rfl) vU rfl) fun a E=> ?_
     refine bE E rfl rfl rfl ts14 ?_
     refine wv E rfl (aD (E.tmp rfl) rF (H.cell 0 rfl rfl)) fun a E=> ?_
     refine bE E rfl rfl rfl ts14 ?_
     refine dx (v:=.bool (aP x.top 0 1000)) E rfl (aG (E.tmp rfl) (aX)) Av (kE x.top w) H (fun a w E H=> ?_)
     refine bE E rfl rfl rfl ts14 ?_
     refine wv E rfl (kV (c:= !(aP x.top 0 1000)) (E.tmp rfl) rfl) fun a E=>wv E rfl (aJ ((E.tmp rfl).trans (congrArg Value.bool ts14)) (E.tmp rfl)) fun a E=>vm E rfl rfl fun a E=> ?_
     rcases aU (aP x.top 0 1000)with ts15|ts15
     ·
      refine bJ (c:=true) E rfl rfl rfl rfl (by rw[ts15];rfl) rfl fun a E=> ?_
      refine bJ (c:=true) E rfl rfl rfl rfl (by rw[ts15];rfl) rfl fun a E=> ?_
      refine bJ (c:=true) E rfl rfl rfl rfl (by rw[ts15];rfl) rfl fun a E=> ?_
      refine bJ (c:=true) E rfl rfl rfl rfl (by rw[ts15];rfl) rfl fun a E=> ?_
      refine oU E rfl rfl rfl rfl fun a E=>oU E rfl rfl rfl rfl fun a E=>oU E rfl rfl rfl rfl fun a E=>oU E rfl rfl rfl rfl fun a E=> ?_
      refine bJ (c:=true) E rfl rfl rfl rfl (by rw[ts15];rfl) rfl fun a E=> ?_
      refine wv E rfl (aL ((E.tmp rfl).trans (congrArg Value.bool (by rw[ts15];rfl))) (aC _)) fun a E=> ?_
      refine wpList_nil ?_
      have ej16:((decide (((x.actors.length:Nat):Int)<1))||((decide (4<((x.actors.length:Nat):Int)))||((!(aP x.top 0 1000))||((x.bottom !=(-1))&&(!(aP x.bottom 0 1000))))))=true:=by simp only[ts13,ts14,ts15,B1,B2,B3,B4,B5,B6,B7,B8,B9,B10,B11,dB,dD,dF]
      exact⟨rfl,by rw[ej16];exact(Env.pick E (Env.pick E (Env.pick E E.nil rfl) rfl) rfl),H⟩
     refine bE E rfl rfl rfl (by rw[ts15];rfl) ?_
     refine wv E rfl (aS (o':=1) (E.tmp rfl) pX rfl) fun a E=> ?_
     refine bE E rfl rfl rfl (by rw[ts15];rfl) ?_
     refine wv E rfl (aD (E.tmp rfl) rF (H.cell 0 rfl rfl)) fun a E=> ?_
     refine bE E rfl rfl rfl (by rw[ts15];rfl) ?_
     refine wv E rfl (aN (E.tmp rfl) (aC _) (uD (b:=x.bottom !=(-1)) rfl)) fun a E=> ?_
     refine bE E rfl rfl rfl (by rw[ts15];rfl) ?_
     refine vm E rfl rfl fun a E=> ?_
     rcases aU (x.bottom !=(-1))with ts17|ts17
     ·
      refine bJ (c:=false) E rfl rfl rfl rfl ts17 rfl fun a E=> ?_
      refine bJ (c:=false) E rfl rfl rfl rfl ts17 rfl fun a E=> ?_
      refine bJ (c:=false) E rfl rfl rfl rfl ts17 rfl fun a E=> ?_
      refine bJ (c:=false) E rfl rfl rfl rfl ts17 rfl fun a E=> ?_
      refine bE E rfl rfl rfl (by rw[ts15];rfl) ?_
      refine wv E rfl (aJ ((E.tmp rfl).trans (congrArg Value.bool ts17)) (aC _)) fun a E=>wv E rfl (aJ ((E.tmp rfl).trans (congrArg Value.bool (by rw[ts15];rfl))) (E.tmp rfl)) fun a E=> ?_
      refine wpList_nil ?_
      have ej18:((decide (((x.actors.length:Nat):Int)<1))||((decide (4<((x.actors.length:Nat):Int)))||((!(aP x.top 0 1000))||((x.bottom !=(-1))&&(!(aP x.bottom 0 1000))))))=false:=by simp only[ts13,ts14,ts15,ts17,B1,B2,B3,B4,B5,B6,B7,B8,B9,B10,B11,dB,dD,dF]
      exact⟨rfl,by rw[ej18];exact(Env.pick E (Env.pick E (Env.pick E E.nil rfl) rfl) rfl),H⟩
     refine bE E rfl rfl rfl ts17 ?_
     refine wv E rfl (aS (o':=1) (E.tmp rfl) pX rfl) fun a E=> ?_
     refine bE E rfl rfl rfl ts17 ?_
     refine wv E rfl (aD (E.tmp rfl) rF (H.cell 0 rfl rfl)) fun a E=> ?_
     refine bE E rfl rfl rfl ts17 ?_
     refine dx (v:=.bool (aP x.bottom 0 1000)) E rfl (aG (E.tmp rfl) (aX)) Av (kE x.bottom w) H (fun a w E H=> ?_)
     refine bE E rfl rfl rfl ts17 ?_
     refine wv E rfl (kV (c:= !(aP x.bottom 0 1000)) (E.tmp rfl) rfl) fun a E=> ?_
     refine bE E rfl rfl rfl (by rw[ts15];rfl) ?_
     refine wv E rfl (aL ((E.tmp rfl).trans (congrArg Value.bool ts17)) (E.tmp rfl)) fun a E=>wv E rfl (aJ ((E.tmp rfl).trans (congrArg Value.bool (by rw[ts15];rfl))) (E.tmp rfl)) fun a E=> ?_
     refine wpList_nil ?_
     have ej19:((decide (((x.actors.length:Nat):Int)<1))||((decide (4<((x.actors.length:Nat):Int)))||((!(aP x.top 0 1000))||((x.bottom !=(-1))&&(!(aP x.bottom 0 1000))))))=(!(aP x.bottom 0 1000)):=by simp only[ts13,ts14,ts15,ts17,B1,B2,B3,B4,B5,B6,B7,B8,B9,B10,B11,dB,dD,dF]
     exact⟨rfl,by rw[ej19];exact(Env.pick E (Env.pick E (Env.pick E E.nil rfl) rfl) rfl),H⟩
    refine bJ (c:=true) E rfl rfl rfl rfl ts14 rfl fun a E=> ?_
    refine bJ (c:=true) E rfl rfl rfl rfl ts14 rfl fun a E=> ?_
    refine bJ (c:=true) E rfl rfl rfl rfl ts14 rfl fun a E=> ?_
    refine bJ (c:=true) E rfl rfl rfl rfl ts14 rfl fun a E=> ?_
    refine wv E rfl (aL ((E.tmp rfl).trans (congrArg Value.bool ts14)) (aC _)) fun a E=>vm E rfl rfl fun a E=>wn E rfl rfl rfl rfl rfl fun a E=>wn E rfl rfl rfl rfl rfl fun a E=>wn E rfl rfl rfl rfl rfl fun a E=> ?_
    refine wn E rfl rfl rfl rfl rfl fun a E=>oU E rfl rfl rfl rfl fun a E=>oU E rfl rfl rfl rfl fun a E=>oU E rfl rfl rfl rfl fun a E=>oU E rfl rfl rfl rfl fun a E=> ?_
    refine wn E rfl rfl rfl rfl rfl fun a E=>wv E rfl (aL (E.tmp rfl) (aC _)) fun a E=> ?_
    refine wpList_nil ?_
    have ej20:((decide (((x.actors.length:Nat):Int)<1))||((decide (4<((x.actors.length:Nat):Int)))||((!(aP x.top 0 1000))||((x.bottom !=(-1))&&(!(aP x.bottom 0 1000))))))=true:=by simp only[ts13,ts14,B1,B2,B3,B4,B5,B6,B7,B8,B9,B10,B11,dB,dD,dF]
    exact⟨rfl,by rw[ej20];exact(Env.pick E (Env.pick E (Env.pick E E.nil rfl) rfl) rfl),H⟩
   refine bJ (c:=true) E rfl rfl rfl rfl ts13 rfl fun a E=> ?_
   refine bJ (c:=true) E rfl rfl rfl rfl ts13 rfl fun a E=> ?_
   refine bJ (c:=true) E rfl rfl rfl rfl ts13 rfl fun a E=> ?_
   refine bJ (c:=true) E rfl rfl rfl rfl ts13 rfl fun a E=> ?_
   refine wv E rfl (aL ((E.tmp rfl).trans (congrArg Value.bool ts13)) (aC _)) fun a E=>vm E rfl rfl fun a E=>wn E rfl rfl rfl rfl rfl fun a E=>wn E rfl rfl rfl rfl rfl fun a E=>wn E rfl rfl rfl rfl rfl fun a E=> ?_
   refine wn E rfl rfl rfl rfl rfl fun a E=>wv E rfl (aL (E.tmp rfl) (aC _)) fun a E=>vm E rfl rfl fun a E=>wn E rfl rfl rfl rfl rfl fun a E=>wn E rfl rfl rfl rfl rfl fun a E=> ?_
   refine wn E rfl rfl rfl rfl rfl fun a E=>wn E rfl rfl rfl rfl rfl fun a E=>oU E rfl rfl rfl rfl fun a E=>oU E rfl rfl rfl rfl fun a E=>oU E rfl rfl rfl rfl fun a E=> ?_
   refine oU E rfl rfl rfl rfl fun a E=>wn E rfl rfl rfl rfl rfl fun a E=>wv E rfl (aL (E.tmp rfl) (aC _)) fun a E=> ?_
   refine wpList_nil ?_
   have ej21:((decide (((x.actors.length:Nat):Int)<1))||((decide (4<((x.actors.length:Nat):Int)))||((!(aP x.top 0 1000))||((x.bottom !=(-1))&&(!(aP x.bottom 0 1000))))))=true:=by simp only[ts13,B1,B2,B3,B4,B5,B6,B7,B8,B9,B10,B11,dB,dD,dF]
   exact⟨rfl,by rw[ej21];exact(Env.pick E (Env.pick E (Env.pick E E.nil rfl) rfl) rfl),H⟩
  obtain⟨E,H⟩:=hj
  refine aj ?_
  rcases aU ((decide (((x.actors.length:Nat):Int)<1))||((decide (4<((x.actors.length:Nat):Int)))||((!(aP x.top 0 1000))||((x.bottom !=(-1))&&(!(aP x.bottom 0 1000))))))with ts22|ts22
  ·
   obtain⟨ts23,ts24⟩:=lC ts22
   obtain⟨ts25,ts26⟩:=lC ts24
   obtain⟨ts27,ts28⟩:=lC ts26
   have ts29:=pO ts27
   refine bG E rfl ts22 ?_
   refine wp_skip (aj (wp_seq (wp_seq (wp_region_lit ?_))))
   refine wv E rfl (aS (o':=3) (E.tmp rfl) mM rfl) fun a E=>wv E rfl (aD (E.tmp rfl) rD (H.cell 0 rfl rfl)) fun a E=> ?_
   refine wv E rfl (dM (E.tmp rfl) nO) (fun a E=> ?_)
   refine wv E rfl (bN (aC _)) fun a E=> ?_
   refine wpList_nil (aj (wp_block ?_))
   refine wp_loop_ghost (fun m a w=>∃(k:Nat),m=x.actors.length-k∧k≤x.actors.length∧kg k (pJ x.actors)=true∧Env 109 a [(1,.pointer (some ⟨g1,0,none⟩)),(49,.slice aactorsA x.actors.length aactorsc),(50,.int .i64 (((x.actors.length:Nat):Int))),(51,.int .i64 (((k:Nat):Int)))]∧Tr.Inv w0 [] w [bC g1 [.int .i64 (x.top),.int .i64 (x.bottom),.slice abufferA x.buffer.length abufferc,.slice aactorsA x.actors.length aactorsc,.slice atakenA x.taken.length atakenc,.slice arefusedA x.refused.length arefusedc] 30]) _ ⟨0,rfl,Nat.zero_le _,rfl,(Env.pick E (Env.pick E (Env.pick E (Env.pick E E.nil rfl) rfl) rfl) rfl),H⟩ ?_
   rintro _ a w ⟨k,rfl,hk,hallA,E,H⟩
   by_cases hlt:k<x.actors.length
   ·
    skip
    revert E
    revert H
    obtain⟨e30b,e30o,e30y,rfl,e30x,e30q⟩:=dz.elem (f:=ah.enc) ah.aV aactorsH rfl hlt
    intro H E
    have r31p0:eY w0 [] e30b (e30o+k*5) [.sl e30y.todo.length (e30y.todo.flatMap au),.v (.int .i64 (e30y.pc)),.v (.int .i64 (e30y.t)),.v (.int .i64 (e30y.b)),.v (.int .i64 (e30y.x))]:=e30q
    obtain⟨r31A0,r31c0,r31k0,r31t0,r31n0,r31p1⟩:=eY.sl r31p0
    clear r31p0
    obtain⟨r31k1,r31p2⟩:=eY.vv r31p1
    clear r31p1
    obtain⟨r31k2,r31p3⟩:=eY.vv r31p2
    clear r31p2
    obtain⟨r31k3,r31p4⟩:=eY.vv r31p3
    clear r31p3
    obtain⟨r31k4,r31p5⟩:=eY.vv r31p4
    clear r31p4
    clear r31p5
    refine wp_seq (wp_region_lit ?_)
    refine wv E rfl (aN (E.tmp rfl) (E.tmp rfl) (iD (b:=true) (by simp;exact hlt))) fun a E=> ?_
    refine wpList_nil (aj (wp_seq ?_))
    refine bH E rfl rfl ?_
    refine wp_skip (aj (wp_seq (wp_block (wp_seq (wp_region_lit ?_)))))
    refine vm E rfl rfl fun a E=>wv E rfl (jX (k:=k) (o':=e30o+k*5) (E.tmp rfl) (E.tmp rfl) rfl nO (by omega) rfl) fun a E=>wv E rfl (fJ (us:=[.slice r31A0 e30y.todo.length r31c0,.int .i64 (e30y.pc),.int .i64 (e30y.t),.int .i64 (e30y.b),.int .i64 (e30y.x)]) (E.tmp rfl) vB sJ (fD (r31k0.get H) (fD (r31k1.get H) (fD (r31k2.get H) (fD (r31k3.get H) (fD (r31k4.get H) (yL _ _ _))))))) fun a E=> ?_
    refine oQ E rfl Hq H (fun a w g32 E H=> ?_)
    refine va E rfl rfl fun a E=> ?_
    refine jA (us:=[.slice r31A0 e30y.todo.length r31c0,.int .i64 (e30y.pc),.int .i64 (e30y.t),.int .i64 (e30y.b),.int .i64 (e30y.x)]) (cs':=[.slice r31A0 e30y.todo.length r31c0,.int .i64 (e30y.pc),.int .i64 (e30y.t),.int .i64 (e30y.b),.int .i64 (e30y.x)]) (rs':=[bC _ [.slice r31A0 e30y.todo.length r31c0,.int .i64 (e30y.pc),.int .i64 (e30y.t),.int .i64 (e30y.b),.int .i64 (e30y.x)] _,_]) E (E.tmp rfl) (E.tmp rfl) rfl sJ H (i:=0) rfl rfl rfl rfl (fun a w E H=> ?_)
    refine wpList_nil (aj (wp_seq (wp_region_lit ?_)))
    refine wv E rfl (fJ (us:=[.slice r31A0 e30y.todo.length r31c0,.int .i64 (e30y.pc),.int .i64 (e30y.t),.int .i64 (e30y.b),.int .i64 (e30y.x)]) (E.tmp rfl) vB sJ (H.bg 0 rfl)) fun a E=>vm E rfl rfl fun a E=>wv E rfl (aN (E.tmp rfl) (aC _) (gV (b:=((k:Nat):Int)==0) rfl)) fun a E=> ?_
    refine dx (v:=.bool (aT e30y (((k:Nat):Int)==0))) E rfl (aG (E.tmp rfl) (aG (E.tmp rfl) (aX))) (by kernel_rfl) (zH e30y (((k:Nat):Int)==0) r31A0 r31c0 w (r31t0.at_ H (F:=[]) (by simp))) H (fun a w E H=> ?_)
    refine wv E rfl (kV (c:= !(aT e30y (((k:Nat):Int)==0))) (E.tmp rfl) rfl) fun a E=> ?_
    refine wpList_nil (aj ?_)
    rcases aU (aT e30y (((k:Nat):Int)==0))with ts33|ts33
    ·
     refine bH E rfl (by rw[ts33];rfl) ?_
     refine wp_seq (wp_region_lit ?_)
     refine wv E rfl (aK (aC _)) fun a E=> ?_
     refine wpList_nil (aj (wp_ret (iQ (bM (bM (iQ (bM ?_)))))))
     refine bB E rfl (aY E rfl) ?_
     rcases pK ts28 with ts34|⟨ts34,ts35⟩
     ·
      have hbadA:kg x.actors.length (pJ x.actors)=false:=CB hlt (by simp only[pJ,e30x,ts33])
      have hE:false=okB x:=cZ (fun h=>absurd (hbadA.symm.trans h.acts) (by decide))
      exact rb hE H
     have ts36:=pO ts35
     have hbadA:kg x.actors.length (pJ x.actors)=false:=CB hlt (by simp only[pJ,e30x,ts33])
     have hE:false=okB x:=cZ (fun h=>absurd (hbadA.symm.trans h.acts) (by decide))
     exact rb hE H
    refine bG E rfl (by rw[ts33];rfl) ?_
    refine wp_skip (fO (aj (wp_region_lit ?_)))
    refine wv E rfl (aN (E.tmp rfl) (aC _) (kP (fQ (by omega)))) fun a E=>vm E rfl rfl fun a E=> ?_
    refine wpList_nil ?_
    have hF:pJ x.actors k=true:=by simp only[pJ,e30x,ts33]
    have H:=H.front 1 rfl
    have H:=H.drop 1 rfl
    exact aj ⟨_,by omega,k+1,rfl,by omega,Bz hallA hF,(Env.pick E (Env.pick E (Env.pick E (Env.pick E E.nil rfl) rfl) rfl) rfl),H⟩
   ·
    skip
    have hkn:k=x.actors.length:=by omega
    have hacts:kg x.actors.length (pJ x.actors)=true:=by rw[←hkn];exact hallA
    refine wp_seq (wp_region_lit ?_)
    refine wv E rfl (aN (E.tmp rfl) (E.tmp rfl) (iD (b:=false) (by simp;omega))) fun a E=> ?_
    refine wpList_nil (aj (wp_seq ?_))
    refine bG E rfl rfl ?_
    refine wp_exit (gQ (gQ (mO (aj (wp_seq (wp_region_lit ?_))))))
    refine wv E rfl (aS (o':=1) (E.tmp rfl) pX rfl) fun a E=>wv E rfl (aD (E.tmp rfl) rF (H.cell 0 rfl rfl)) fun a E=>wv E rfl (aS (o':=0) (E.tmp rfl) vU rfl) fun a E=>wv E rfl (aD (E.tmp rfl) rF (H.cell 0 rfl rfl)) fun a E=>wv E rfl (aN (E.tmp rfl) (E.tmp rfl) (CK rfl)) fun a E=> ?_
    refine va E rfl rfl fun a E=> ?_
    refine wpList_nil (aj (wp_seq (wp_seq ?_)))
    have hpos:0<x.actors.length:=by have h:=ts22;simp at h;first|omega|exact List.length_pos_iff.2 h
    revert E
    revert H
    obtain⟨e37b,e37o,e37y,rfl,e37x,e37q⟩:=dz.elem (f:=ah.enc) ah.aV aactorsH rfl hpos
    intro H E
    have r38p0:eY w0 [] e37b e37o [.sl e37y.todo.length (e37y.todo.flatMap au),.v (.int .i64 (e37y.pc)),.v (.int .i64 (e37y.t)),.v (.int .i64 (e37y.b)),.v (.int .i64 (e37y.x))]:=e37q
    obtain⟨r38A0,r38c0,r38k0,r38t0,r38n0,r38p1⟩:=eY.sl r38p0
    clear r38p0
    obtain⟨r38k1,r38p2⟩:=eY.vv r38p1
    clear r38p1
    obtain⟨r38k2,r38p3⟩:=eY.vv r38p2
    clear r38p2
    obtain⟨r38k3,r38p4⟩:=eY.vv r38p3
    clear r38p3
    obtain⟨r38k4,r38p5⟩:=eY.vv r38p4
    clear r38p4
    clear r38p5
    refine ji (fun a w=>Env 109 a [(1,.pointer (some ⟨g1,0,none⟩)),(87,.bool ((decide (((x.buffer.length:Nat):Int)<IntKind.i64.wrap (x.bottom-x.top)))||((decide (IntKind.i64.wrap (x.bottom-x.top)<(-1)))||(((IntKind.i64.wrap (x.bottom-x.top))==(-1))&&(!(ay e37y))))))]∧Tr.Inv w0 [] w [bC g1 [.int .i64 (x.top),.int .i64 (x.bottom),.slice abufferA x.buffer.length abufferc,.slice (some ⟨e37b,e37o,none⟩) x.actors.length aactorsc,.slice atakenA x.taken.length atakenc,.slice arefusedA x.refused.length arefusedc] 30]) ?_ (fun a w hj=> ?_)
    ·
     refine wp_region_lit ?_
     refine vm E rfl rfl fun a E=>wv E rfl (aS (o':=2) (E.tmp rfl) mK rfl) fun a E=>wv E rfl (aD (E.tmp rfl) lK (H.cell 0 rfl rfl)) fun a E=> ?_
     refine wv E rfl (dM (E.tmp rfl) rM) (fun a E=> ?_)
     refine wv E rfl (aN (E.tmp rfl) (E.tmp rfl) (gF (b:=decide (((x.buffer.length:Nat):Int)<IntKind.i64.wrap (x.bottom-x.top))) rfl)) fun a E=>vm E rfl rfl fun a E=> ?_
     rcases aU (decide (((x.buffer.length:Nat):Int)<IntKind.i64.wrap (x.bottom-x.top)))with ts39|ts39
     ·
      refine bE E rfl rfl rfl ts39 ?_
      refine vm E rfl rfl fun a E=> ?_
      refine bE E rfl rfl rfl ts39 ?_
      refine wv E rfl (aN (E.tmp rfl) (aC _) (iD (b:=decide (IntKind.i64.wrap (x.bottom-x.top)<(-1))) rfl)) fun a E=>wv E rfl (aJ ((E.tmp rfl).trans (congrArg Value.bool ts39)) (E.tmp rfl)) fun a E=>vm E rfl rfl fun a E=> ?_
      rcases aU (decide (IntKind.i64.wrap (x.bottom-x.top)<(-1)))with ts40|ts40
      ·
       refine bE E rfl rfl rfl ts40 ?_
       refine vm E rfl rfl fun a E=> ?_
       refine bE E rfl rfl rfl ts40 ?_
       refine wv E rfl (aN (E.tmp rfl) (aC _) (gV (b:=(IntKind.i64.wrap (x.bottom-x.top))==(-1)) rfl)) fun a E=> ?_
       refine bE E rfl rfl rfl ts40 ?_
       refine vm E rfl rfl fun a E=> ?_
       rcases aU ((IntKind.i64.wrap (x.bottom-x.top))==(-1))with ts41|ts41
       ·
        refine bJ (c:=false) E rfl rfl rfl rfl ts41 rfl fun a E=> ?_
        refine bJ (c:=false) E rfl rfl rfl rfl ts41 rfl fun a E=> ?_
        refine bJ (c:=false) E rfl rfl rfl rfl ts41 rfl fun a E=> ?_
        refine bJ (c:=false) E rfl rfl rfl rfl ts41 rfl fun a E=> ?_
        refine bJ (c:=false) E rfl rfl rfl rfl ts41 rfl fun a E=> ?_
        refine bJ (c:=false) E rfl rfl rfl rfl ts41 rfl fun a E=> ?_
        refine bE E rfl rfl rfl ts40 ?_
        refine wv E rfl (aJ ((E.tmp rfl).trans (congrArg Value.bool ts41)) (aC _)) fun a E=>wv E rfl (aJ ((E.tmp rfl).trans (congrArg Value.bool ts40)) (E.tmp rfl)) fun a E=> ?_
        refine wpList_nil ?_
        have ej42:((decide (((x.buffer.length:Nat):Int)<IntKind.i64.wrap (x.bottom-x.top)))||((decide (IntKind.i64.wrap (x.bottom-x.top)<(-1)))||(((IntKind.i64.wrap (x.bottom-x.top))==(-1))&&(!(ay e37y)))))=false:=by simp only[ts39,ts40,ts41,B1,B2,B3,B4,B5,B6,B7,B8,B9,B10,B11,dB,dD,dF]
        exact⟨rfl,by rw[ej42];exact(Env.pick E (Env.pick E E.nil rfl) rfl),H⟩
       refine bE E rfl rfl rfl ts41 ?_
       refine wv E rfl (aS (o':=3) (E.tmp rfl) mM rfl) fun a E=> ?_
       refine bE E rfl rfl rfl ts41 ?_
       refine wv E rfl (aD (E.tmp rfl) rD (H.cell 0 rfl rfl)) fun a E=> ?_
       refine bE E rfl rfl rfl ts41 ?_
       refine wv E rfl (jX (k:=0) (o':=e37o) (E.tmp rfl) (aC _) rfl nO (by omega) rfl) fun a E=> ?_
       refine bE E rfl rfl rfl ts41 ?_
       refine wv E rfl (fJ (us:=[.slice r38A0 e37y.todo.length r38c0,.int .i64 (e37y.pc),.int .i64 (e37y.t),.int .i64 (e37y.b),.int .i64 (e37y.x)]) (E.tmp rfl) vB sJ (fD (r38k0.get H) (fD (r38k1.get H) (fD (r38k2.get H) (fD (r38k3.get H) (fD (r38k4.get H) (yL _ _ _))))))) fun a E=> ?_
       refine bE E rfl rfl rfl ts41 ?_
       refine dx (v:=.bool (ay e37y)) E rfl (aG (E.tmp rfl) (aX)) (by kernel_rfl) (xu e37y r38A0 r38c0 w (r38t0.at_ H (F:=[]) (by simp))) H (fun a w E H=> ?_)
       refine bE E rfl rfl rfl ts41 ?_
       refine wv E rfl (kV (c:= !(ay e37y)) (E.tmp rfl) rfl) fun a E=> ?_
       refine bE E rfl rfl rfl ts40 ?_
       refine wv E rfl (aL ((E.tmp rfl).trans (congrArg Value.bool ts41)) (E.tmp rfl)) fun a E=>wv E rfl (aJ ((E.tmp rfl).trans (congrArg Value.bool ts40)) (E.tmp rfl)) fun a E=> ?_
       refine wpList_nil ?_
       have ej43:((decide (((x.buffer.length:Nat):Int)<IntKind.i64.wrap (x.bottom-x.top)))||((decide (IntKind.i64.wrap (x.bottom-x.top)<(-1)))||(((IntKind.i64.wrap (x.bottom-x.top))==(-1))&&(!(ay e37y)))))=(!(ay e37y)):=by simp only[ts39,ts40,ts41,B1,B2,B3,B4,B5,B6,B7,B8,B9,B10,B11,dB,dD,dF]
       exact⟨rfl,by rw[ej43];exact(Env.pick E (Env.pick E E.nil rfl) rfl),H⟩
      refine bJ (c:=true) E rfl rfl rfl rfl ts40 rfl fun a E=> ?_
      refine bJ (c:=true) E rfl rfl rfl rfl ts40 rfl fun a E=> ?_
      refine bJ (c:=true) E rfl rfl rfl rfl ts40 rfl fun a E=> ?_
      refine oU E rfl rfl rfl rfl fun a E=>oU E rfl rfl rfl rfl fun a E=>oU E rfl rfl rfl rfl fun a E=>oU E rfl rfl rfl rfl fun a E=>oU E rfl rfl rfl rfl fun a E=> ?_
      refine oU E rfl rfl rfl rfl fun a E=> ?_
      refine bJ (c:=true) E rfl rfl rfl rfl ts40 rfl fun a E=> ?_
      refine wv E rfl (aL ((E.tmp rfl).trans (congrArg Value.bool ts40)) (aC _)) fun a E=> ?_
      refine wpList_nil ?_
      have ej44:((decide (((x.buffer.length:Nat):Int)<IntKind.i64.wrap (x.bottom-x.top)))||((decide (IntKind.i64.wrap (x.bottom-x.top)<(-1)))||(((IntKind.i64.wrap (x.bottom-x.top))==(-1))&&(!(ay e37y)))))=true:=by simp only[ts39,ts40,B1,B2,B3,B4,B5,B6,B7,B8,B9,B10,B11,dB,dD,dF]
      exact⟨rfl,by rw[ej44];exact(Env.pick E (Env.pick E E.nil rfl) rfl),H⟩
     refine bJ (c:=true) E rfl rfl rfl rfl ts39 rfl fun a E=> ?_
     refine bJ (c:=true) E rfl rfl rfl rfl ts39 rfl fun a E=> ?_
     refine wv E rfl (aL ((E.tmp rfl).trans (congrArg Value.bool ts39)) (aC _)) fun a E=>vm E rfl rfl fun a E=>wn E rfl rfl rfl rfl rfl fun a E=>wn E rfl rfl rfl rfl rfl fun a E=>wn E rfl rfl rfl rfl rfl fun a E=> ?_
     refine oU E rfl rfl rfl rfl fun a E=>oU E rfl rfl rfl rfl fun a E=>oU E rfl rfl rfl rfl fun a E=>oU E rfl rfl rfl rfl fun a E=>oU E rfl rfl rfl rfl fun a E=> ?_
     refine oU E rfl rfl rfl rfl fun a E=>wn E rfl rfl rfl rfl rfl fun a E=>wv E rfl (aL (E.tmp rfl) (aC _)) fun a E=> ?_
     refine wpList_nil ?_
     have ej45:((decide (((x.buffer.length:Nat):Int)<IntKind.i64.wrap (x.bottom-x.top)))||((decide (IntKind.i64.wrap (x.bottom-x.top)<(-1)))||(((IntKind.i64.wrap (x.bottom-x.top))==(-1))&&(!(ay e37y)))))=true:=by simp only[ts39,B1,B2,B3,B4,B5,B6,B7,B8,B9,B10,B11,dB,dD,dF]
     exact⟨rfl,by rw[ej45];exact(Env.pick E (Env.pick E E.nil rfl) rfl),H⟩
    obtain⟨E,H⟩:=hj
    refine aj ?_
    rcases aU ((decide (((x.buffer.length:Nat):Int)<IntKind.i64.wrap (x.bottom-x.top)))||((decide (IntKind.i64.wrap (x.bottom-x.top)<(-1)))||(((IntKind.i64.wrap (x.bottom-x.top))==(-1))&&(!(ay e37y)))))with ts46|ts46
    ·
     obtain⟨ts47,ts48⟩:=lC ts46
     obtain⟨ts49,ts50⟩:=lC ts48
     refine bG E rfl ts46 ?_
     refine wp_skip (aj (wp_seq (wp_seq ?_)))
     refine ji (fun a w=>Env 109 a [(1,.pointer (some ⟨g1,0,none⟩)),(97,.bool ((decide (1000<((x.taken.length:Nat):Int)))||(decide (1000<((x.refused.length:Nat):Int)))))]∧Tr.Inv w0 [] w [bC g1 [.int .i64 (x.top),.int .i64 (x.bottom),.slice abufferA x.buffer.length abufferc,.slice (some ⟨e37b,e37o,none⟩) x.actors.length aactorsc,.slice atakenA x.taken.length atakenc,.slice arefusedA x.refused.length arefusedc] 30]) ?_ (fun a w hj=> ?_)
     ·
      refine wp_region_lit ?_
      refine wv E rfl (aS (o':=4) (E.tmp rfl) vW rfl) fun a E=>wv E rfl (aD (E.tmp rfl) zP (H.cell 0 rfl rfl)) fun a E=> ?_
      refine wv E rfl (dM (E.tmp rfl) FC) (fun a E=> ?_)
      refine wv E rfl (aN (E.tmp rfl) (aC _) (gF (b:=decide (1000<((x.taken.length:Nat):Int))) rfl)) fun a E=>vm E rfl rfl fun a E=> ?_
      rcases aU (decide (1000<((x.taken.length:Nat):Int)))with ts51|ts51
      ·
       refine bE E rfl rfl rfl ts51 ?_
       refine wv E rfl (aS (o':=5) (E.tmp rfl) vY rfl) fun a E=> ?_
       refine bE E rfl rfl rfl ts51 ?_
       refine wv E rfl (aD (E.tmp rfl) lK (H.cell 0 rfl rfl)) fun a E=> ?_
       refine bE E rfl rfl rfl ts51 ?_
       refine wv E rfl (dM (E.tmp rfl) rM) (fun a E=> ?_)
       refine bE E rfl rfl rfl ts51 ?_
       refine wv E rfl (aN (E.tmp rfl) (aC _) (gF (b:=decide (1000<((x.refused.length:Nat):Int))) rfl)) fun a E=>wv E rfl (aJ ((E.tmp rfl).trans (congrArg Value.bool ts51)) (E.tmp rfl)) fun a E=> ?_
       refine wpList_nil ?_
       have ej52:((decide (1000<((x.taken.length:Nat):Int)))||(decide (1000<((x.refused.length:Nat):Int))))=(decide (1000<((x.refused.length:Nat):Int))):=by simp only[ts51,B1,B2,B3,B4,B5,B6,B7,B8,B9,B10,B11,dB,dD,dF]
       exact⟨rfl,by rw[ej52];exact(Env.pick E (Env.pick E E.nil rfl) rfl),H⟩
      refine bJ (c:=true) E rfl rfl rfl rfl ts51 rfl fun a E=> ?_
      refine bJ (c:=true) E rfl rfl rfl rfl ts51 rfl fun a E=> ?_
      refine bJ (c:=true) E rfl rfl rfl rfl ts51 rfl fun a E=> ?_
      refine bJ (c:=true) E rfl rfl rfl rfl ts51 rfl fun a E=> ?_
      refine wv E rfl (aL ((E.tmp rfl).trans (congrArg Value.bool ts51)) (aC _)) fun a E=> ?_
      refine wpList_nil ?_
      have ej53:((decide (1000<((x.taken.length:Nat):Int)))||(decide (1000<((x.refused.length:Nat):Int))))=true:=by simp only[ts51,B1,B2,B3,B4,B5,B6,B7,B8,B9,B10,B11,dB,dD,dF]
      exact⟨rfl,by rw[ej53];exact(Env.pick E (Env.pick E E.nil rfl) rfl),H⟩
     obtain⟨E,H⟩:=hj
     refine aj ?_
     rcases aU ((decide (1000<((x.taken.length:Nat):Int)))||(decide (1000<((x.refused.length:Nat):Int))))with ts54|ts54
     ·
      obtain⟨ts55,ts56⟩:=lC ts54
      refine bG E rfl ts54 ?_
      refine wp_skip (aj (wp_seq (wp_region_lit ?_)))
      refine wv E rfl (aS (o':=4) (E.tmp rfl) vW rfl) fun a E=>wv E rfl (aD (E.tmp rfl) zP (H.cell 0 rfl rfl)) fun a E=>wv E rfl (Gp (aG (E.tmp rfl) (aX))) fun a E=> ?_
      refine dx (v:=.bool (!x.taken.all (lg x.actors.length))) E rfl (aG (E.tmp rfl) (aG (E.tmp rfl) (aX))) (by kernel_rfl) (Ij x.taken atakenc atakenA g1 x.actors.length aactorsc (some ⟨e37b,e37o,none⟩) w aactorsH.Ei (H.Lc 0 rfl rfl) (atakenH.at_ H (F:=[]) (by simp))) H (fun a w E H=> ?_)
      refine wv E rfl (kV (c:= !(!x.taken.all (lg x.actors.length))) (E.tmp rfl) rfl) fun a E=>vm E rfl rfl fun a E=> ?_
      rcases aU (x.taken.all (lg x.actors.length))with ts57|ts57
      ·
       refine bJ (c:=false) E rfl rfl rfl rfl (by rw[ts57];rfl) rfl fun a E=> ?_
       refine bJ (c:=false) E rfl rfl rfl rfl (by rw[ts57];rfl) rfl fun a E=> ?_
       refine bJ (c:=false) E rfl rfl rfl rfl (by rw[ts57];rfl) rfl fun a E=> ?_
       refine bJ (c:=false) E rfl rfl rfl rfl (by rw[ts57];rfl) rfl fun a E=> ?_
       refine wv E rfl (aJ ((E.tmp rfl).trans (congrArg Value.bool (by rw[ts57];rfl))) (aC _)) fun a E=>va E rfl rfl fun a E=> ?_
       refine wpList_nil (aj (wp_ret ?_))
       refine bB E rfl (aY E rfl) ?_
       rcases pK ts28 with ts58|⟨ts58,ts59⟩
       ·
        rcases pK ts50 with ts60|⟨ts60,ts61⟩
        ·
         have hE:false=okB x:=cZ fun h=>by
          obtain⟨h1,h2,h3,h4,h5,h6,h7,h8,h9,h10,h11⟩:=h
          have hts8:=ts8
          have hts10:=ts10
          have hts12:=ts12
          have hts23:=ts23
          have hts25:=ts25
          have hts29:=ts29
          have hhacts:=hacts
          have hts47:=ts47
          have hts49:=ts49
          have hts55:=ts55
          have hts56:=ts56
          have hts57:=ts57
          have hts58:=ts58
          have hts60:=ts60
          have h11:=h11 _ e37x
          rw[dn]at h11
          clear E H
          first|(simp[h7,h8,h9,h10]at hts8 hts10 hts12 hts23 hts25 hts29 hhacts hts47 hts49 hts55 hts56 hts57 hts58 hts60;done)|(simp only[aP,qQ,qP,qD,Bool.and_eq_false_iff,beq_iff_eq,beq_eq_false_iff_ne,bne_iff_ne,ne_eq,bne_eq_false_iff_eq]at h1 h2 h3 h4 hts8 hts10 hts12 hts23 hts25 hts29 hhacts hts47 hts49 hts55 hts56 hts57 hts58 hts60;omega)|(simp[aP]at h1 h2 h3 h4 hts8 hts10 hts12 hts23 hts25 hts29 hhacts hts47 hts49 hts55 hts56 hts57 hts58 hts60 h11;omega)|(simp_all [aP];omega)|simp_all [aP]
         exact rb hE H
        have ts62:=pO ts61
        have hE:false=okB x:=cZ fun h=>by
         obtain⟨h1,h2,h3,h4,h5,h6,h7,h8,h9,h10,h11⟩:=h
         have hts8:=ts8
         have hts10:=ts10
         have hts12:=ts12
         have hts23:=ts23
         have hts25:=ts25
         have hts29:=ts29
         have hhacts:=hacts
         have hts47:=ts47
         have hts49:=ts49
         have hts55:=ts55
         have hts56:=ts56
         have hts57:=ts57
         have hts58:=ts58
         have hts60:=ts60
         have hts62:=ts62
         have h11:=h11 _ e37x
         rw[dn]at h11
         clear E H
         first|(simp[h7,h8,h9,h10]at hts8 hts10 hts12 hts23 hts25 hts29 hhacts hts47 hts49 hts55 hts56 hts57 hts58 hts60 hts62;done)|(simp only[aP,qQ,qP,qD,Bool.and_eq_false_iff,beq_iff_eq,beq_eq_false_iff_ne,bne_iff_ne,ne_eq,bne_eq_false_iff_eq]at h1 h2 h3 h4 hts8 hts10 hts12 hts23 hts25 hts29 hhacts hts47 hts49 hts55 hts56 hts57 hts58 hts60 hts62;omega)|(simp[aP]at h1 h2 h3 h4 hts8 hts10 hts12 hts23 hts25 hts29 hhacts hts47 hts49 hts55 hts56 hts57 hts58 hts60 hts62 h11;omega)|(simp_all [aP];omega)|simp_all [aP]
        exact rb hE H
       have ts63:=pO ts59
       rcases pK ts50 with ts64|⟨ts64,ts65⟩
       ·
        have hE:false=okB x:=cZ fun h=>by
         obtain⟨h1,h2,h3,h4,h5,h6,h7,h8,h9,h10,h11⟩:=h
         have hts8:=ts8
         have hts10:=ts10
         have hts12:=ts12
         have hts23:=ts23
         have hts25:=ts25
         have hts29:=ts29
         have hhacts:=hacts
         have hts47:=ts47
         have hts49:=ts49
         have hts55:=ts55
         have hts56:=ts56
         have hts57:=ts57
         have hts58:=ts58
         have hts63:=ts63
         have hts64:=ts64
         have h11:=h11 _ e37x
         rw[dn]at h11
         clear E H
         first|(simp[h7,h8,h9,h10]at hts8 hts10 hts12 hts23 hts25 hts29 hhacts hts47 hts49 hts55 hts56 hts57 hts58 hts63 hts64;done)|(simp only[aP,qQ,qP,qD,Bool.and_eq_false_iff,beq_iff_eq,beq_eq_false_iff_ne,bne_iff_ne,ne_eq,bne_eq_false_iff_eq]at h1 h2 h3 h4 hts8 hts10 hts12 hts23 hts25 hts29 hhacts hts47 hts49 hts55 hts56 hts57 hts58 hts63 hts64;omega)|(simp[aP]at h1 h2 h3 h4 hts8 hts10 hts12 hts23 hts25 hts29 hhacts hts47 hts49 hts55 hts56 hts57 hts58 hts63 hts64 h11;omega)|(simp_all [aP];omega)|simp_all [aP]
        exact rb hE H
       have ts66:=pO ts65
       have hE:false=okB x:=cZ fun h=>by
        obtain⟨h1,h2,h3,h4,h5,h6,h7,h8,h9,h10,h11⟩:=h
        have hts8:=ts8
        have hts10:=ts10
        have hts12:=ts12
        have hts23:=ts23
        have hts25:=ts25
        have hts29:=ts29
        have hhacts:=hacts
        have hts47:=ts47
        have hts49:=ts49
        have hts55:=ts55
        have hts56:=ts56
        have hts57:=ts57
        have hts58:=ts58
        have hts63:=ts63
        have hts64:=ts64
        have hts66:=ts66
        have h11:=h11 _ e37x
        rw[dn]at h11
        clear E H
        first|(simp[h7,h8,h9,h10]at hts8 hts10 hts12 hts23 hts25 hts29 hhacts hts47 hts49 hts55 hts56 hts57 hts58 hts63 hts64 hts66;done)|(simp only[aP,qQ,qP,qD,Bool.and_eq_false_iff,beq_iff_eq,beq_eq_false_iff_ne,bne_iff_ne,ne_eq,bne_eq_false_iff_eq]at h1 h2 h3 h4 hts8 hts10 hts12 hts23 hts25 hts29 hhacts hts47 hts49 hts55 hts56 hts57 hts58 hts63 hts64 hts66;omega)|(simp[aP]at h1 h2 h3 h4 hts8 hts10 hts12 hts23 hts25 hts29 hhacts hts47 hts49 hts55 hts56 hts57 hts58 hts63 hts64 hts66 h11;omega)|(simp_all [aP];omega)|simp_all [aP]
       exact rb hE H
      refine bE E rfl rfl rfl (by rw[ts57];rfl) ?_
      refine wv E rfl (aS (o':=5) (E.tmp rfl) vY rfl) fun a E=> ?_
      refine bE E rfl rfl rfl (by rw[ts57];rfl) ?_
      refine wv E rfl (aD (E.tmp rfl) lK (H.cell 0 rfl rfl)) fun a E=> ?_
      refine bE E rfl rfl rfl (by rw[ts57];rfl) ?_
      refine dx (v:=.bool (!x.refused.all (fun n=>aP n 1 1000))) E rfl (aG (E.tmp rfl) (aG (J9 _) (aX))) Aq (Ik x.refused arefusedc arefusedA w (arefusedH.at_ H (F:=[]) (by simp))) H (fun a w E H=> ?_)
      refine bE E rfl rfl rfl (by rw[ts57];rfl) ?_
      refine wv E rfl (kV (c:= !(!x.refused.all (fun n=>aP n 1 1000))) (E.tmp rfl) rfl) fun a E=>wv E rfl (aL ((E.tmp rfl).trans (congrArg Value.bool (by rw[ts57];rfl))) (E.tmp rfl)) fun a E=>va E rfl rfl fun a E=> ?_
      refine wpList_nil (aj (wp_ret ?_))
      refine bB E rfl (aY E rfl) ?_
      rcases pK ts28 with ts67|⟨ts67,ts68⟩
      ·
       rcases pK ts50 with ts69|⟨ts69,ts70⟩
       ·
        have hE:(!(!x.refused.all (fun n=>aP n 1 1000)))=okB x:=by
         rw[Bool.not_not]
         have hts8:=ts8
         have hts10:=ts10
         have hts12:=ts12
         have hts23:=ts23
         have hts25:=ts25
         have hts29:=ts29
         have hhacts:=hacts
         have hts47:=ts47
         have hts49:=ts49
         have hts55:=ts55
         have hts56:=ts56
         have hts57:=ts57
         have hts67:=ts67
         have hts69:=ts69
         clear E H
         refine(rX (x:=x) ?_ ?_ ?_ ?_ ?_ ?_ ?_ hacts ?_ ?_).symm
         all_goals first|assumption|(intro a ha;obtain rfl:e37y=a:=Option.some.inj (e37x.symm.trans ha);rw[dn];simp[aP]at hts8 hts10 hts12 hts23 hts25 hts29 hts47 hts49 hts55 hts56 hts57 hts67 hts69 ⊢;first|done|(rcases Bool.eq_false_or_eq_true (ay e37y)with ht|ht<;>simp[ht]at* <;>omega))|(simp[aP]at hts8 hts10 hts12 hts23 hts25 hts29 hts47 hts49 hts55 hts56 hts57 hts67 hts69 ⊢;first|done|omega|assumption)
        exact rb hE H
       have ts71:=pO ts70
       have hE:(!(!x.refused.all (fun n=>aP n 1 1000)))=okB x:=by
        rw[Bool.not_not]
        have hts8:=ts8
        have hts10:=ts10
        have hts12:=ts12
        have hts23:=ts23
        have hts25:=ts25
        have hts29:=ts29
        have hhacts:=hacts
        have hts47:=ts47
        have hts49:=ts49
        have hts55:=ts55
        have hts56:=ts56
        have hts57:=ts57
        have hts67:=ts67
        have hts69:=ts69
        have hts71:=ts71
        clear E H
        refine(rX (x:=x) ?_ ?_ ?_ ?_ ?_ ?_ ?_ hacts ?_ ?_).symm
        all_goals first|assumption|(intro a ha;obtain rfl:e37y=a:=Option.some.inj (e37x.symm.trans ha);rw[dn];simp[aP]at hts8 hts10 hts12 hts23 hts25 hts29 hts47 hts49 hts55 hts56 hts57 hts67 hts69 hts71 ⊢;first|done|(rcases Bool.eq_false_or_eq_true (ay e37y)with ht|ht<;>simp[ht]at* <;>omega))|(simp[aP]at hts8 hts10 hts12 hts23 hts25 hts29 hts47 hts49 hts55 hts56 hts57 hts67 hts69 hts71 ⊢;first|done|omega|assumption)
       exact rb hE H
      have ts72:=pO ts68
      rcases pK ts50 with ts73|⟨ts73,ts74⟩
      ·
       have hE:(!(!x.refused.all (fun n=>aP n 1 1000)))=okB x:=by
        rw[Bool.not_not]
        have hts8:=ts8
        have hts10:=ts10
        have hts12:=ts12
        have hts23:=ts23
        have hts25:=ts25
        have hts29:=ts29
        have hhacts:=hacts
        have hts47:=ts47
        have hts49:=ts49
        have hts55:=ts55
        have hts56:=ts56
        have hts57:=ts57
        have hts67:=ts67
        have hts72:=ts72
        have hts73:=ts73
        clear E H
        refine(rX (x:=x) ?_ ?_ ?_ ?_ ?_ ?_ ?_ hacts ?_ ?_).symm
        all_goals first|assumption|(intro a ha;obtain rfl:e37y=a:=Option.some.inj (e37x.symm.trans ha);rw[dn];simp[aP]at hts8 hts10 hts12 hts23 hts25 hts29 hts47 hts49 hts55 hts56 hts57 hts67 hts72 hts73 ⊢;first|done|(rcases Bool.eq_false_or_eq_true (ay e37y)with ht|ht<;>simp[ht]at* <;>omega))|(simp[aP]at hts8 hts10 hts12 hts23 hts25 hts29 hts47 hts49 hts55 hts56 hts57 hts67 hts72 hts73 ⊢;first|done|omega|assumption)
       exact rb hE H
      have ts75:=pO ts74
      have hE:(!(!x.refused.all (fun n=>aP n 1 1000)))=okB x:=by
       rw[Bool.not_not]
       have hts8:=ts8
       have hts10:=ts10
       have hts12:=ts12
       have hts23:=ts23
       have hts25:=ts25
       have hts29:=ts29
       have hhacts:=hacts
       have hts47:=ts47
       have hts49:=ts49
       have hts55:=ts55
       have hts56:=ts56
       have hts57:=ts57
       have hts67:=ts67
       have hts72:=ts72
       have hts73:=ts73
       have hts75:=ts75
       clear E H
       refine(rX (x:=x) ?_ ?_ ?_ ?_ ?_ ?_ ?_ hacts ?_ ?_).symm
       all_goals first|assumption|(intro a ha;obtain rfl:e37y=a:=Option.some.inj (e37x.symm.trans ha);rw[dn];simp[aP]at hts8 hts10 hts12 hts23 hts25 hts29 hts47 hts49 hts55 hts56 hts57 hts67 hts72 hts73 hts75 ⊢;first|done|(rcases Bool.eq_false_or_eq_true (ay e37y)with ht|ht<;>simp[ht]at* <;>omega))|(simp[aP]at hts8 hts10 hts12 hts23 hts25 hts29 hts47 hts49 hts55 hts56 hts57 hts67 hts72 hts73 hts75 ⊢;first|done|omega|assumption)
      exact rb hE H
     refine bH E rfl ts54 ?_
     refine wp_seq (wp_region_lit ?_)
     refine wv E rfl (aK (aC _)) fun a E=> ?_
     refine wpList_nil (aj (wp_ret (bM ?_)))
     refine bB E rfl (aY E rfl) ?_
     rcases pK ts28 with ts76|⟨ts76,ts77⟩
     ·
      rcases pK ts50 with ts78|⟨ts78,ts79⟩
      ·
       rcases iY ts54 with ts80|⟨ts80,ts81⟩
       ·
        have hE:false=okB x:=cZ fun h=>by
         obtain⟨h1,h2,h3,h4,h5,h6,h7,h8,h9,h10,h11⟩:=h
         have hts8:=ts8
         have hts10:=ts10
         have hts12:=ts12
         have hts23:=ts23
         have hts25:=ts25
         have hts29:=ts29
         have hhacts:=hacts
         have hts47:=ts47
         have hts49:=ts49
         have hts76:=ts76
         have hts78:=ts78
         have hts80:=ts80
         have h11:=h11 _ e37x
         rw[dn]at h11
         clear E H
         first|(simp[h7,h8,h9,h10]at hts8 hts10 hts12 hts23 hts25 hts29 hhacts hts47 hts49 hts76 hts78 hts80;done)|(simp only[aP,qQ,qP,qD,Bool.and_eq_false_iff,beq_iff_eq,beq_eq_false_iff_ne,bne_iff_ne,ne_eq,bne_eq_false_iff_eq]at h1 h2 h3 h4 hts8 hts10 hts12 hts23 hts25 hts29 hhacts hts47 hts49 hts76 hts78 hts80;omega)|(simp[aP]at h1 h2 h3 h4 hts8 hts10 hts12 hts23 hts25 hts29 hhacts hts47 hts49 hts76 hts78 hts80 h11;omega)|(simp_all [aP];omega)|simp_all [aP]
        exact rb hE H
       have hE:false=okB x:=cZ fun h=>by
        obtain⟨h1,h2,h3,h4,h5,h6,h7,h8,h9,h10,h11⟩:=h
        have hts8:=ts8
        have hts10:=ts10
        have hts12:=ts12
        have hts23:=ts23
        have hts25:=ts25
        have hts29:=ts29
        have hhacts:=hacts
        have hts47:=ts47
        have hts49:=ts49
        have hts76:=ts76
        have hts78:=ts78
        have hts80:=ts80
        have hts81:=ts81
        have h11:=h11 _ e37x
        rw[dn]at h11
        clear E H
        first|(simp[h7,h8,h9,h10]at hts8 hts10 hts12 hts23 hts25 hts29 hhacts hts47 hts49 hts76 hts78 hts80 hts81;done)|(simp only[aP,qQ,qP,qD,Bool.and_eq_false_iff,beq_iff_eq,beq_eq_false_iff_ne,bne_iff_ne,ne_eq,bne_eq_false_iff_eq]at h1 h2 h3 h4 hts8 hts10 hts12 hts23 hts25 hts29 hhacts hts47 hts49 hts76 hts78 hts80 hts81;omega)|(simp[aP]at h1 h2 h3 h4 hts8 hts10 hts12 hts23 hts25 hts29 hhacts hts47 hts49 hts76 hts78 hts80 hts81 h11;omega)|(simp_all [aP];omega)|simp_all [aP]
       exact rb hE H
      have ts82:=pO ts79
      rcases iY ts54 with ts83|⟨ts83,ts84⟩
      ·
       have hE:false=okB x:=cZ fun h=>by
        obtain⟨h1,h2,h3,h4,h5,h6,h7,h8,h9,h10,h11⟩:=h
        have hts8:=ts8
        have hts10:=ts10
        have hts12:=ts12
        have hts23:=ts23
        have hts25:=ts25
        have hts29:=ts29
        have hhacts:=hacts
        have hts47:=ts47
        have hts49:=ts49
        have hts76:=ts76
        have hts78:=ts78
        have hts82:=ts82
        have hts83:=ts83
        have h11:=h11 _ e37x
        rw[dn]at h11
        clear E H
        first|(simp[h7,h8,h9,h10]at hts8 hts10 hts12 hts23 hts25 hts29 hhacts hts47 hts49 hts76 hts78 hts82 hts83;done)|(simp only[aP,qQ,qP,qD,Bool.and_eq_false_iff,beq_iff_eq,beq_eq_false_iff_ne,bne_iff_ne,ne_eq,bne_eq_false_iff_eq]at h1 h2 h3 h4 hts8 hts10 hts12 hts23 hts25 hts29 hhacts hts47 hts49 hts76 hts78 hts82 hts83;omega)|(simp[aP]at h1 h2 h3 h4 hts8 hts10 hts12 hts23 hts25 hts29 hhacts hts47 hts49 hts76 hts78 hts82 hts83 h11;omega)|(simp_all [aP];omega)|simp_all [aP]
       exact rb hE H
      have hE:false=okB x:=cZ fun h=>by
       obtain⟨h1,h2,h3,h4,h5,h6,h7,h8,h9,h10,h11⟩:=h
       have hts8:=ts8
       have hts10:=ts10
       have hts12:=ts12
       have hts23:=ts23
       have hts25:=ts25
       have hts29:=ts29
       have hhacts:=hacts
       have hts47:=ts47
       have hts49:=ts49
       have hts76:=ts76
       have hts78:=ts78
       have hts82:=ts82
       have hts83:=ts83
       have hts84:=ts84
       have h11:=h11 _ e37x
       rw[dn]at h11
       clear E H
       first|(simp[h7,h8,h9,h10]at hts8 hts10 hts12 hts23 hts25 hts29 hhacts hts47 hts49 hts76 hts78 hts82 hts83 hts84;done)|(simp only[aP,qQ,qP,qD,Bool.and_eq_false_iff,beq_iff_eq,beq_eq_false_iff_ne,bne_iff_ne,ne_eq,bne_eq_false_iff_eq]at h1 h2 h3 h4 hts8 hts10 hts12 hts23 hts25 hts29 hhacts hts47 hts49 hts76 hts78 hts82 hts83 hts84;omega)|(simp[aP]at h1 h2 h3 h4 hts8 hts10 hts12 hts23 hts25 hts29 hhacts hts47 hts49 hts76 hts78 hts82 hts83 hts84 h11;omega)|(simp_all [aP];omega)|simp_all [aP]
      exact rb hE H
     have ts85:=pO ts77
     rcases pK ts50 with ts86|⟨ts86,ts87⟩
     ·
      rcases iY ts54 with ts88|⟨ts88,ts89⟩
      ·
       have hE:false=okB x:=cZ fun h=>by
        obtain⟨h1,h2,h3,h4,h5,h6,h7,h8,h9,h10,h11⟩:=h
        have hts8:=ts8
        have hts10:=ts10
        have hts12:=ts12
        have hts23:=ts23
        have hts25:=ts25
        have hts29:=ts29
        have hhacts:=hacts
        have hts47:=ts47
        have hts49:=ts49
        have hts76:=ts76
        have hts85:=ts85
        have hts86:=ts86
        have hts88:=ts88
        have h11:=h11 _ e37x
        rw[dn]at h11
        clear E H
        first|(simp[h7,h8,h9,h10]at hts8 hts10 hts12 hts23 hts25 hts29 hhacts hts47 hts49 hts76 hts85 hts86 hts88;done)|(simp only[aP,qQ,qP,qD,Bool.and_eq_false_iff,beq_iff_eq,beq_eq_false_iff_ne,bne_iff_ne,ne_eq,bne_eq_false_iff_eq]at h1 h2 h3 h4 hts8 hts10 hts12 hts23 hts25 hts29 hhacts hts47 hts49 hts76 hts85 hts86 hts88;omega)|(simp[aP]at h1 h2 h3 h4 hts8 hts10 hts12 hts23 hts25 hts29 hhacts hts47 hts49 hts76 hts85 hts86 hts88 h11;omega)|(simp_all [aP];omega)|simp_all [aP]
       exact rb hE H
      have hE:false=okB x:=cZ fun h=>by
       obtain⟨h1,h2,h3,h4,h5,h6,h7,h8,h9,h10,h11⟩:=h
       have hts8:=ts8
       have hts10:=ts10
       have hts12:=ts12
       have hts23:=ts23
       have hts25:=ts25
       have hts29:=ts29
       have hhacts:=hacts
       have hts47:=ts47
       have hts49:=ts49
       have hts76:=ts76
       have hts85:=ts85
       have hts86:=ts86
       have hts88:=ts88
       have hts89:=ts89
       have h11:=h11 _ e37x
       rw[dn]at h11
       clear E H
       first|(simp[h7,h8,h9,h10]at hts8 hts10 hts12 hts23 hts25 hts29 hhacts hts47 hts49 hts76 hts85 hts86 hts88 hts89;done)|(simp only[aP,qQ,qP,qD,Bool.and_eq_false_iff,beq_iff_eq,beq_eq_false_iff_ne,bne_iff_ne,ne_eq,bne_eq_false_iff_eq]at h1 h2 h3 h4 hts8 hts10 hts12 hts23 hts25 hts29 hhacts hts47 hts49 hts76 hts85 hts86 hts88 hts89;omega)|(simp[aP]at h1 h2 h3 h4 hts8 hts10 hts12 hts23 hts25 hts29 hhacts hts47 hts49 hts76 hts85 hts86 hts88 hts89 h11;omega)|(simp_all [aP];omega)|simp_all [aP]
      exact rb hE H
     have ts90:=pO ts87
     rcases iY ts54 with ts91|⟨ts91,ts92⟩
     ·
      have hE:false=okB x:=cZ fun h=>by
       obtain⟨h1,h2,h3,h4,h5,h6,h7,h8,h9,h10,h11⟩:=h
       have hts8:=ts8
       have hts10:=ts10
       have hts12:=ts12
       have hts23:=ts23
       have hts25:=ts25
       have hts29:=ts29
       have hhacts:=hacts
       have hts47:=ts47
       have hts49:=ts49
       have hts76:=ts76
       have hts85:=ts85
       have hts86:=ts86
       have hts90:=ts90
       have hts91:=ts91
       have h11:=h11 _ e37x
       rw[dn]at h11
       clear E H
       first|(simp[h7,h8,h9,h10]at hts8 hts10 hts12 hts23 hts25 hts29 hhacts hts47 hts49 hts76 hts85 hts86 hts90 hts91;done)|(simp only[aP,qQ,qP,qD,Bool.and_eq_false_iff,beq_iff_eq,beq_eq_false_iff_ne,bne_iff_ne,ne_eq,bne_eq_false_iff_eq]at h1 h2 h3 h4 hts8 hts10 hts12 hts23 hts25 hts29 hhacts hts47 hts49 hts76 hts85 hts86 hts90 hts91;omega)|(simp[aP]at h1 h2 h3 h4 hts8 hts10 hts12 hts23 hts25 hts29 hhacts hts47 hts49 hts76 hts85 hts86 hts90 hts91 h11;omega)|(simp_all [aP];omega)|simp_all [aP]
      exact rb hE H
     have hE:false=okB x:=cZ fun h=>by
      obtain⟨h1,h2,h3,h4,h5,h6,h7,h8,h9,h10,h11⟩:=h
      have hts8:=ts8
      have hts10:=ts10
      have hts12:=ts12
      have hts23:=ts23
      have hts25:=ts25
      have hts29:=ts29
      have hhacts:=hacts
      have hts47:=ts47
      have hts49:=ts49
      have hts76:=ts76
      have hts85:=ts85
      have hts86:=ts86
      have hts90:=ts90
      have hts91:=ts91
      have hts92:=ts92
      have h11:=h11 _ e37x
      rw[dn]at h11
      clear E H
      first|(simp[h7,h8,h9,h10]at hts8 hts10 hts12 hts23 hts25 hts29 hhacts hts47 hts49 hts76 hts85 hts86 hts90 hts91 hts92;done)|(simp only[aP,qQ,qP,qD,Bool.and_eq_false_iff,beq_iff_eq,beq_eq_false_iff_ne,bne_iff_ne,ne_eq,bne_eq_false_iff_eq]at h1 h2 h3 h4 hts8 hts10 hts12 hts23 hts25 hts29 hhacts hts47 hts49 hts76 hts85 hts86 hts90 hts91 hts92;omega)|(simp[aP]at h1 h2 h3 h4 hts8 hts10 hts12 hts23 hts25 hts29 hhacts hts47 hts49 hts76 hts85 hts86 hts90 hts91 hts92 h11;omega)|(simp_all [aP];omega)|simp_all [aP]
     exact rb hE H
    refine bH E rfl ts46 ?_
    refine wp_seq (wp_region_lit ?_)
    refine wv E rfl (aK (aC _)) fun a E=> ?_
    refine wpList_nil (aj (wp_ret (bM ?_)))
    refine bB E rfl (aY E rfl) ?_
    rcases pK ts28 with ts93|⟨ts93,ts94⟩
    ·
     rcases iY ts46 with ts95|⟨ts95,ts96⟩
     ·
      have hE:false=okB x:=cZ fun h=>by
       obtain⟨h1,h2,h3,h4,h5,h6,h7,h8,h9,h10,h11⟩:=h
       have hts8:=ts8
       have hts10:=ts10
       have hts12:=ts12
       have hts23:=ts23
       have hts25:=ts25
       have hts29:=ts29
       have hhacts:=hacts
       have hts93:=ts93
       have hts95:=ts95
       clear E H
       have h11:=h11 _ e37x
       rw[dn]at h11
       have h12:=oZ h11
       have hc:(-1:Int)≤cond (ay e37y) (-1) 0:=by cases ay e37y<;>decide
       try simp only[qQ,qP,beq_iff_eq,beq_eq_false_iff_ne,ne_eq]at hts8
       try simp only[qQ,qP,beq_iff_eq,beq_eq_false_iff_ne,ne_eq]at hts10
       try simp only[qQ,qP,beq_iff_eq,beq_eq_false_iff_ne,ne_eq]at hts12
       try simp only[qQ,qP,beq_iff_eq,beq_eq_false_iff_ne,ne_eq]at hts23
       try simp only[qQ,qP,beq_iff_eq,beq_eq_false_iff_ne,ne_eq]at hts25
       try simp only[qQ,qP,beq_iff_eq,beq_eq_false_iff_ne,ne_eq]at hts29
       try simp only[qQ,qP,beq_iff_eq,beq_eq_false_iff_ne,ne_eq]at hhacts
       try simp only[qQ,qP,beq_iff_eq,beq_eq_false_iff_ne,ne_eq]at hts93
       try simp only[qQ,qP,beq_iff_eq,beq_eq_false_iff_ne,ne_eq]at hts95
       omega
      exact rb hE H
     rcases iY ts96 with ts97|⟨ts97,ts98⟩
     ·
      have hE:false=okB x:=cZ fun h=>by
       obtain⟨h1,h2,h3,h4,h5,h6,h7,h8,h9,h10,h11⟩:=h
       have hts8:=ts8
       have hts10:=ts10
       have hts12:=ts12
       have hts23:=ts23
       have hts25:=ts25
       have hts29:=ts29
       have hhacts:=hacts
       have hts93:=ts93
       have hts95:=ts95
       have hts97:=ts97
       clear E H
       have h11:=h11 _ e37x
       rw[dn]at h11
       have h12:=oZ h11
       have hc:(-1:Int)≤cond (ay e37y) (-1) 0:=by cases ay e37y<;>decide
       try simp only[qQ,qP,beq_iff_eq,beq_eq_false_iff_ne,ne_eq]at hts8
       try simp only[qQ,qP,beq_iff_eq,beq_eq_false_iff_ne,ne_eq]at hts10
       try simp only[qQ,qP,beq_iff_eq,beq_eq_false_iff_ne,ne_eq]at hts12
       try simp only[qQ,qP,beq_iff_eq,beq_eq_false_iff_ne,ne_eq]at hts23
       try simp only[qQ,qP,beq_iff_eq,beq_eq_false_iff_ne,ne_eq]at hts25
       try simp only[qQ,qP,beq_iff_eq,beq_eq_false_iff_ne,ne_eq]at hts29
       try simp only[qQ,qP,beq_iff_eq,beq_eq_false_iff_ne,ne_eq]at hhacts
       try simp only[qQ,qP,beq_iff_eq,beq_eq_false_iff_ne,ne_eq]at hts93
       try simp only[qQ,qP,beq_iff_eq,beq_eq_false_iff_ne,ne_eq]at hts95
       try simp only[qQ,qP,beq_iff_eq,beq_eq_false_iff_ne,ne_eq]at hts97
       omega
      exact rb hE H
     obtain⟨ts99,ts100⟩:=BD ts98
     have ts101:=D7 ts100
     have hE:false=okB x:=cZ fun h=>by
      obtain⟨h1,h2,h3,h4,h5,h6,h7,h8,h9,h10,h11⟩:=h
      have hts8:=ts8
      have hts10:=ts10
      have hts12:=ts12
      have hts23:=ts23
      have hts25:=ts25
      have hts29:=ts29
      have hhacts:=hacts
      have hts93:=ts93
      have hts95:=ts95
      have hts97:=ts97
      have hts99:=ts99
      have hts101:=ts101
      clear E H
      have h11:=h11 _ e37x
      rw[dn]at h11
      have h12:=oZ h11
      have hc:(-1:Int)≤cond (ay e37y) (-1) 0:=by cases ay e37y<;>decide
      have hc2:cond (ay e37y) (-1:Int) 0=0:=by rw[ts101];rfl
      try simp only[qQ,qP,beq_iff_eq,beq_eq_false_iff_ne,ne_eq]at hts8
      try simp only[qQ,qP,beq_iff_eq,beq_eq_false_iff_ne,ne_eq]at hts10
      try simp only[qQ,qP,beq_iff_eq,beq_eq_false_iff_ne,ne_eq]at hts12
      try simp only[qQ,qP,beq_iff_eq,beq_eq_false_iff_ne,ne_eq]at hts23
      try simp only[qQ,qP,beq_iff_eq,beq_eq_false_iff_ne,ne_eq]at hts25
      try simp only[qQ,qP,beq_iff_eq,beq_eq_false_iff_ne,ne_eq]at hts29
      try simp only[qQ,qP,beq_iff_eq,beq_eq_false_iff_ne,ne_eq]at hhacts
      try simp only[qQ,qP,beq_iff_eq,beq_eq_false_iff_ne,ne_eq]at hts93
      try simp only[qQ,qP,beq_iff_eq,beq_eq_false_iff_ne,ne_eq]at hts95
      try simp only[qQ,qP,beq_iff_eq,beq_eq_false_iff_ne,ne_eq]at hts97
      try simp only[qQ,qP,beq_iff_eq,beq_eq_false_iff_ne,ne_eq]at hts99
      try simp only[qQ,qP,beq_iff_eq,beq_eq_false_iff_ne,ne_eq]at hts101
      omega
     exact rb hE H
    have ts102:=pO ts94
    rcases iY ts46 with ts103|⟨ts103,ts104⟩
    ·
     have hE:false=okB x:=cZ fun h=>by
      obtain⟨h1,h2,h3,h4,h5,h6,h7,h8,h9,h10,h11⟩:=h
      have hts8:=ts8
      have hts10:=ts10
      have hts12:=ts12
      have hts23:=ts23
      have hts25:=ts25
      have hts29:=ts29
      have hhacts:=hacts
      have hts93:=ts93
      have hts102:=ts102
      have hts103:=ts103
      clear E H
      have h11:=h11 _ e37x
      rw[dn]at h11
      have h12:=oZ h11
      have hc:(-1:Int)≤cond (ay e37y) (-1) 0:=by cases ay e37y<;>decide
      try simp only[qQ,qP,beq_iff_eq,beq_eq_false_iff_ne,ne_eq]at hts8
      try simp only[qQ,qP,beq_iff_eq,beq_eq_false_iff_ne,ne_eq]at hts10
      try simp only[qQ,qP,beq_iff_eq,beq_eq_false_iff_ne,ne_eq]at hts12
      try simp only[qQ,qP,beq_iff_eq,beq_eq_false_iff_ne,ne_eq]at hts23
      try simp only[qQ,qP,beq_iff_eq,beq_eq_false_iff_ne,ne_eq]at hts25
      try simp only[qQ,qP,beq_iff_eq,beq_eq_false_iff_ne,ne_eq]at hts29
      try simp only[qQ,qP,beq_iff_eq,beq_eq_false_iff_ne,ne_eq]at hhacts
      try simp only[qQ,qP,beq_iff_eq,beq_eq_false_iff_ne,ne_eq]at hts93
      try simp only[qQ,qP,beq_iff_eq,beq_eq_false_iff_ne,ne_eq]at hts102
      try simp only[qQ,qP,beq_iff_eq,beq_eq_false_iff_ne,ne_eq]at hts103
      omega
     exact rb hE H
    rcases iY ts104 with ts105|⟨ts105,ts106⟩
    ·
     have hE:false=okB x:=cZ fun h=>by
      obtain⟨h1,h2,h3,h4,h5,h6,h7,h8,h9,h10,h11⟩:=h
      have hts8:=ts8
      have hts10:=ts10
      have hts12:=ts12
      have hts23:=ts23
      have hts25:=ts25
      have hts29:=ts29
      have hhacts:=hacts
      have hts93:=ts93
      have hts102:=ts102
      have hts103:=ts103
      have hts105:=ts105
      clear E H
      have h11:=h11 _ e37x
      rw[dn]at h11
      have h12:=oZ h11
      have hc:(-1:Int)≤cond (ay e37y) (-1) 0:=by cases ay e37y<;>decide
      try simp only[qQ,qP,beq_iff_eq,beq_eq_false_iff_ne,ne_eq]at hts8
      try simp only[qQ,qP,beq_iff_eq,beq_eq_false_iff_ne,ne_eq]at hts10
      try simp only[qQ,qP,beq_iff_eq,beq_eq_false_iff_ne,ne_eq]at hts12
      try simp only[qQ,qP,beq_iff_eq,beq_eq_false_iff_ne,ne_eq]at hts23
      try simp only[qQ,qP,beq_iff_eq,beq_eq_false_iff_ne,ne_eq]at hts25
      try simp only[qQ,qP,beq_iff_eq,beq_eq_false_iff_ne,ne_eq]at hts29
      try simp only[qQ,qP,beq_iff_eq,beq_eq_false_iff_ne,ne_eq]at hhacts
      try simp only[qQ,qP,beq_iff_eq,beq_eq_false_iff_ne,ne_eq]at hts93
      try simp only[qQ,qP,beq_iff_eq,beq_eq_false_iff_ne,ne_eq]at hts102
      try simp only[qQ,qP,beq_iff_eq,beq_eq_false_iff_ne,ne_eq]at hts103
      try simp only[qQ,qP,beq_iff_eq,beq_eq_false_iff_ne,ne_eq]at hts105
      omega
     exact rb hE H
    obtain⟨ts107,ts108⟩:=BD ts106
    have ts109:=D7 ts108
    have hE:false=okB x:=cZ fun h=>by
     obtain⟨h1,h2,h3,h4,h5,h6,h7,h8,h9,h10,h11⟩:=h
     have hts8:=ts8
     have hts10:=ts10
     have hts12:=ts12
     have hts23:=ts23
     have hts25:=ts25
     have hts29:=ts29
     have hhacts:=hacts
     have hts93:=ts93
     have hts102:=ts102
     have hts103:=ts103
     have hts105:=ts105
     have hts107:=ts107
     have hts109:=ts109
     clear E H
     have h11:=h11 _ e37x
     rw[dn]at h11
     have h12:=oZ h11
     have hc:(-1:Int)≤cond (ay e37y) (-1) 0:=by cases ay e37y<;>decide
     have hc2:cond (ay e37y) (-1:Int) 0=0:=by rw[ts109];rfl
     try simp only[qQ,qP,beq_iff_eq,beq_eq_false_iff_ne,ne_eq]at hts8
     try simp only[qQ,qP,beq_iff_eq,beq_eq_false_iff_ne,ne_eq]at hts10
     try simp only[qQ,qP,beq_iff_eq,beq_eq_false_iff_ne,ne_eq]at hts12
     try simp only[qQ,qP,beq_iff_eq,beq_eq_false_iff_ne,ne_eq]at hts23
     try simp only[qQ,qP,beq_iff_eq,beq_eq_false_iff_ne,ne_eq]at hts25
     try simp only[qQ,qP,beq_iff_eq,beq_eq_false_iff_ne,ne_eq]at hts29
     try simp only[qQ,qP,beq_iff_eq,beq_eq_false_iff_ne,ne_eq]at hhacts
     try simp only[qQ,qP,beq_iff_eq,beq_eq_false_iff_ne,ne_eq]at hts93
     try simp only[qQ,qP,beq_iff_eq,beq_eq_false_iff_ne,ne_eq]at hts102
     try simp only[qQ,qP,beq_iff_eq,beq_eq_false_iff_ne,ne_eq]at hts103
     try simp only[qQ,qP,beq_iff_eq,beq_eq_false_iff_ne,ne_eq]at hts105
     try simp only[qQ,qP,beq_iff_eq,beq_eq_false_iff_ne,ne_eq]at hts107
     try simp only[qQ,qP,beq_iff_eq,beq_eq_false_iff_ne,ne_eq]at hts109
     omega
    exact rb hE H
  refine bH E rfl ts22 ?_
  refine wp_seq (wp_region_lit ?_)
  refine wv E rfl (aK (aC _)) fun a E=> ?_
  refine wpList_nil (aj (wp_ret (bM ?_)))
  refine bB E rfl (aY E rfl) ?_
  rcases iY ts22 with ts110|⟨ts110,ts111⟩
  ·
   have hE:false=okB x:=cZ fun h=>by
    obtain⟨h1,h2,h3,h4,h5,h6,h7,h8,h9,h10,h11⟩:=h
    have hts8:=ts8
    have hts10:=ts10
    have hts12:=ts12
    have hts110:=ts110
    clear E H
    first|(simp[h7,h8,h9,h10]at hts8 hts10 hts12 hts110;done)|(simp only[aP,qQ,qP,qD,Bool.and_eq_false_iff,beq_iff_eq,beq_eq_false_iff_ne,bne_iff_ne,ne_eq,bne_eq_false_iff_eq]at h1 h2 h3 h4 hts8 hts10 hts12 hts110;omega)|(simp[aP]at h1 h2 h3 h4 hts8 hts10 hts12 hts110;omega)|(simp_all [aP];omega)|simp_all [aP]
   exact rb hE H
  rcases iY ts111 with ts112|⟨ts112,ts113⟩
  ·
   have hE:false=okB x:=cZ fun h=>by
    obtain⟨h1,h2,h3,h4,h5,h6,h7,h8,h9,h10,h11⟩:=h
    have hts8:=ts8
    have hts10:=ts10
    have hts12:=ts12
    have hts110:=ts110
    have hts112:=ts112
    clear E H
    first|(simp[h7,h8,h9,h10]at hts8 hts10 hts12 hts110 hts112;done)|(simp only[aP,qQ,qP,qD,Bool.and_eq_false_iff,beq_iff_eq,beq_eq_false_iff_ne,bne_iff_ne,ne_eq,bne_eq_false_iff_eq]at h1 h2 h3 h4 hts8 hts10 hts12 hts110 hts112;omega)|(simp[aP]at h1 h2 h3 h4 hts8 hts10 hts12 hts110 hts112;omega)|(simp_all [aP];omega)|simp_all [aP]
   exact rb hE H
  rcases iY ts113 with ts114|⟨ts114,ts115⟩
  ·
   have ts116:=D7 ts114
   have hE:false=okB x:=cZ fun h=>by
    obtain⟨h1,h2,h3,h4,h5,h6,h7,h8,h9,h10,h11⟩:=h
    have hts8:=ts8
    have hts10:=ts10
    have hts12:=ts12
    have hts110:=ts110
    have hts112:=ts112
    have hts116:=ts116
    clear E H
    first|(simp[h7,h8,h9,h10]at hts8 hts10 hts12 hts110 hts112 hts116;done)|(simp only[aP,qQ,qP,qD,Bool.and_eq_false_iff,beq_iff_eq,beq_eq_false_iff_ne,bne_iff_ne,ne_eq,bne_eq_false_iff_eq]at h1 h2 h3 h4 hts8 hts10 hts12 hts110 hts112 hts116;omega)|(simp[aP]at h1 h2 h3 h4 hts8 hts10 hts12 hts110 hts112 hts116;omega)|(simp_all [aP];omega)|simp_all [aP]
   exact rb hE H
  have ts117:=pO ts114
  obtain⟨ts118,ts119⟩:=BD ts115
  have ts120:=D7 ts119
  have hE:false=okB x:=cZ fun h=>by
   obtain⟨h1,h2,h3,h4,h5,h6,h7,h8,h9,h10,h11⟩:=h
   have hts8:=ts8
   have hts10:=ts10
   have hts12:=ts12
   have hts110:=ts110
   have hts112:=ts112
   have hts117:=ts117
   have hts118:=ts118
   have hts120:=ts120
   clear E H
   first|(simp[h7,h8,h9,h10]at hts8 hts10 hts12 hts110 hts112 hts117 hts118 hts120;done)|(simp only[aP,qQ,qP,qD,Bool.and_eq_false_iff,beq_iff_eq,beq_eq_false_iff_ne,bne_iff_ne,ne_eq,bne_eq_false_iff_eq]at h1 h2 h3 h4 hts8 hts10 hts12 hts110 hts112 hts117 hts118 hts120;omega)|(simp[aP]at h1 h2 h3 h4 hts8 hts10 hts12 hts110 hts112 hts117 hts118 hts120;omega)|(simp_all [aP];omega)|simp_all [aP]
  exact rb hE H
 refine bH E rfl ts7 ?_
 refine wp_seq (wp_region_lit ?_)
 refine wv E rfl (aK (aC _)) fun a E=> ?_
 refine wpList_nil (aj (wp_ret (bM ?_)))
 refine bB E rfl (aY E rfl) ?_
 rcases iY ts7 with ts121|⟨ts121,ts122⟩
 ·
  have hE:false=okB x:=cZ fun h=>by
   obtain⟨h1,h2,h3,h4,h5,h6,h7,h8,h9,h10,h11⟩:=h
   have hts121:=ts121
   clear E H
   first|(simp[h7,h8,h9,h10]at hts121;done)|(simp only[aP,qQ,qP,qD,Bool.and_eq_false_iff,beq_iff_eq,beq_eq_false_iff_ne,bne_iff_ne,ne_eq,bne_eq_false_iff_eq]at h1 h2 h3 h4 hts121;omega)|(simp[aP]at h1 h2 h3 h4 hts121;omega)|(simp_all [aP];omega)|simp_all [aP]
  exact rb hE H
 rcases iY ts122 with ts123|⟨ts123,ts124⟩
 ·
  have hE:false=okB x:=cZ fun h=>by
   obtain⟨h1,h2,h3,h4,h5,h6,h7,h8,h9,h10,h11⟩:=h
   have hts121:=ts121
   have hts123:=ts123
   clear E H
   first|(simp[h7,h8,h9,h10]at hts121 hts123;done)|(simp only[aP,qQ,qP,qD,Bool.and_eq_false_iff,beq_iff_eq,beq_eq_false_iff_ne,bne_iff_ne,ne_eq,bne_eq_false_iff_eq]at h1 h2 h3 h4 hts121 hts123;omega)|(simp[aP]at h1 h2 h3 h4 hts121 hts123;omega)|(simp_all [aP];omega)|simp_all [aP]
  exact rb hE H
 have ts125:=D7 ts124
 have hE:false=okB x:=cZ fun h=>by
  obtain⟨h1,h2,h3,h4,h5,h6,h7,h8,h9,h10,h11⟩:=h
  have hts121:=ts121
  have hts123:=ts123
  have hts125:=ts125
  clear E H
  first|(simp[h7,h8,h9,h10]at hts121 hts123 hts125;done)|(simp only[aP,qQ,qP,qD,Bool.and_eq_false_iff,beq_iff_eq,beq_eq_false_iff_ne,bne_iff_ne,ne_eq,bne_eq_false_iff_eq]at h1 h2 h3 h4 hts121 hts123 hts125;omega)|(simp[aP]at h1 h2 h3 h4 hts121 hts123 hts125;omega)|(simp_all [aP];omega)|simp_all [aP]
 exact rb hE H
end Go.Proofs.Ytjpaeopdljfjpaa
