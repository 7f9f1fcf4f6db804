
/- Deques. Printed by gx_dq.py. -/
import Derived.Test.YtjpaeopdljfjpaaShort
import Derived.Test.YtjpaeopdljfjpaaProg
import Derived.Test.YtjpaeopdljfjpaaSc
import Derived.Test.YtjpaeopdljfjpaaDDq
import Derived.Test.YtjpaeopdljfjpaaNet
import Derived.IntWalk
import Derived.Test.YtjpaeopdljfjpaaDq7
set_option maxHeartbeats 1000000
set_option linter.unusedSimpArgs false
set_option linter.unusedVariables false
namespace Go.Tr
theorem rT{α:Type}{q:α→Bool}{xs:List α}{k:Nat}{x:α}(hx:xs[k]? =some x)(hp:q x=false):decide ((0:Int)≤((k:Nat):Int))=(!xs.all q):=by
 rw[H9 hx hp];simp
theorem nR{α:Type}{q:α→Bool}{xs:List α}{k:Nat}(h:(xs.take k).all q=true)(hk:xs.length≤k):decide ((0:Int)≤ -1)=(!xs.all q):=by
 rw[qN hk]at h;rw[h];rfl
end Go.Tr
namespace Go.Proofs.Ytjpaeopdljfjpaa
open Go Go.RowKit Go.Proofs Go.Tr
theorem wK:dA Try.prog 26=true:=by kernel_rfl
theorem H7:eP Try.prog 4=some false:=by kernel_rfl
theorem wh:bI Try.prog 36 0=some 0:=by kernel_rfl
theorem oG:eP Try.prog 2=some false:=by kernel_rfl
theorem BL:bI Try.prog 30 3=some 3:=by kernel_rfl
theorem ES:eP Try.prog 27=some false:=by kernel_rfl
theorem FB:cO Try.prog 27=some (57,5):=by kernel_rfl
theorem BN:bI Try.prog 36 1=some 1:=by kernel_rfl
theorem lT:cO Try.prog 24=some (2,1):=by kernel_rfl
theorem wM:dA Try.prog 55=true:=by kernel_rfl
theorem Ac:cO Try.prog 28=some (36,2):=by kernel_rfl
theorem EW:eP Try.prog 36=some true:=by kernel_rfl
theorem GI:(Try.prog.info? 36).map (·.size)=some 2:=by kernel_rfl
theorem wB(n:Int)(w0:World):Calls Try.prog 26 #[.int .i64 (n)] w0 fun e w'=>e=.returned (.bool (aP n 1 1000))∧Ext w0 w':=by
 refine bF (args:=[.int .i64 (n)]) Try.func26 rfl Try.ntmps26 rfl iI (fun a w E H=> ?_)
 have E:Env 9 a [(0,.int .i64 (n))]:=E
 refine wp_seq (wp_region_lit ?_)
 refine wv E rfl (aK (aC _)) fun a E=> ?_
 refine wpList_nil (aj (wp_seq (wp_region_lit ?_)))
 refine vm E rfl rfl fun a E=>wv E rfl (aN (E.tmp rfl) (aC _) (lq (b:=decide (1≤n)) rfl)) fun a E=>vm E rfl rfl fun a E=> ?_
 rcases aU (decide (1≤n))with ts1|ts1
 ·
  refine bJ (c:=false) E rfl rfl rfl rfl ts1 rfl fun a E=> ?_
  refine bJ (c:=false) E rfl rfl rfl rfl ts1 rfl fun a E=> ?_
  refine wv E rfl (aJ ((E.tmp rfl).trans (congrArg Value.bool ts1)) (aC _)) fun a E=>va E rfl rfl fun a E=> ?_
  refine wpList_nil (aj (wp_ret ?_))
  refine bB E rfl (aY E rfl) ?_
  have hE:false=aP n 1 1000:=by first|rfl|(simp only[aP,ts1,B1,B2,B3,B4,B5,B6,B7,B8,B9,B10,B11,dB,dD,dF];done)|(simp only[aP,ts1,B1,B2,B3,B4,B5,B6,B7,B8,B9,B10,B11,dB,dD,dF];rfl)|(simp[aP,ts1,B1,B2,B3,B4,B5,B6,B7,B8,B9,B10,B11,dB,dD,dF];done)|((try simp[aP,aP]at ts1);simp[aP,aP];omega)
  exact rb hE H
 refine bE E rfl rfl rfl ts1 ?_
 refine vm E rfl rfl fun a E=> ?_
 refine bE E rfl rfl rfl ts1 ?_
 refine wv E rfl (aN (E.tmp rfl) (aC _) (xR (b:=decide (n≤1000)) rfl)) fun a E=>wv E rfl (aL ((E.tmp rfl).trans (congrArg Value.bool ts1)) (E.tmp rfl)) fun a E=>va E rfl rfl fun a E=> ?_
 refine wpList_nil (aj (wp_ret ?_))
 refine bB E rfl (aY E rfl) ?_
 have hE:(decide (n≤1000))=aP n 1 1000:=by first|rfl|(simp only[aP,ts1,B1,B2,B3,B4,B5,B6,B7,B8,B9,B10,B11,dB,dD,dF];done)|(simp only[aP,ts1,B1,B2,B3,B4,B5,B6,B7,B8,B9,B10,B11,dB,dD,dF];rfl)|(simp[aP,ts1,B1,B2,B3,B4,B5,B6,B7,B8,B9,B10,B11,dB,dD,dF];done)|((try simp[aP,aP]at ts1);simp[aP,aP];omega)
 exact rb hE H
theorem kE(n:Int)(w0:World):Calls Try.prog 57 #[.int .i64 (n)] w0 fun e w'=>e=.returned (.bool (aP n 0 1000))∧Ext w0 w':=by
 refine bF (args:=[.int .i64 (n)]) Try.func57 rfl Try.ntmps57 rfl iI (fun a w E H=> ?_)
 have E:Env 9 a [(0,.int .i64 (n))]:=E
 refine wp_seq (wp_region_lit ?_)
 refine wv E rfl (aK (aC _)) fun a E=> ?_
 refine wpList_nil (aj (wp_seq (wp_region_lit ?_)))
 refine vm E rfl rfl fun a E=>wv E rfl (aN (E.tmp rfl) (aC _) (lq (b:=decide (0≤n)) rfl)) fun a E=>vm E rfl rfl fun a E=> ?_
 rcases aU (decide (0≤n))with ts1|ts1
 ·
  refine bJ (c:=false) E rfl rfl rfl rfl ts1 rfl fun a E=> ?_
  refine bJ (c:=false) E rfl rfl rfl rfl ts1 rfl fun a E=> ?_
  refine wv E rfl (aJ ((E.tmp rfl).trans (congrArg Value.bool ts1)) (aC _)) fun a E=>va E rfl rfl fun a E=> ?_
  refine wpList_nil (aj (wp_ret ?_))
  refine bB E rfl (aY E rfl) ?_
  have hE:false=aP n 0 1000:=by first|rfl|(simp only[aP,ts1,B1,B2,B3,B4,B5,B6,B7,B8,B9,B10,B11,dB,dD,dF];done)|(simp only[aP,ts1,B1,B2,B3,B4,B5,B6,B7,B8,B9,B10,B11,dB,dD,dF];rfl)|(simp[aP,ts1,B1,B2,B3,B4,B5,B6,B7,B8,B9,B10,B11,dB,dD,dF];done)|((try simp[aP,aP]at ts1);simp[aP,aP];omega)
  exact rb hE H
 refine bE E rfl rfl rfl ts1 ?_
 refine vm E rfl rfl fun a E=> ?_
 refine bE E rfl rfl rfl ts1 ?_
 refine wv E rfl (aN (E.tmp rfl) (aC _) (xR (b:=decide (n≤1000)) rfl)) fun a E=>wv E rfl (aL ((E.tmp rfl).trans (congrArg Value.bool ts1)) (E.tmp rfl)) fun a E=>va E rfl rfl fun a E=> ?_
 refine wpList_nil (aj (wp_ret ?_))
 refine bB E rfl (aY E rfl) ?_
 have hE:(decide (n≤1000))=aP n 0 1000:=by first|rfl|(simp only[aP,ts1,B1,B2,B3,B4,B5,B6,B7,B8,B9,B10,B11,dB,dD,dF];done)|(simp only[aP,ts1,B1,B2,B3,B4,B5,B6,B7,B8,B9,B10,B11,dB,dD,dF];rfl)|(simp[aP,ts1,B1,B2,B3,B4,B5,B6,B7,B8,B9,B10,B11,dB,dD,dF];done)|((try simp[aP,aP]at ts1);simp[aP,aP];omega)
 exact rb hE H
theorem Lm(n:Int)(w0:World):Calls Try.prog 56 #[.int .i64 (n)] w0 fun e w'=>e=.returned (.bool (!eG n))∧Ext w0 w':=by
 refine bF (args:=[.int .i64 (n)]) Try.func56 rfl Try.ntmps56 rfl iI (fun a w E H=> ?_)
 have E:Env 10 a [(0,.int .i64 (n))]:=E
 refine wp_seq (wp_region_lit ?_)
 refine wv E rfl (aK (aC _)) fun a E=> ?_
 refine wpList_nil (aj (wp_seq (wp_region_lit ?_)))
 refine vm E rfl rfl fun a E=>wv E rfl (aN (E.tmp rfl) (aC _) (uD (b:=n !=0) rfl)) fun a E=>vm E rfl rfl fun a E=> ?_
 rcases aU (n !=0)with ts1|ts1
 ·
  refine bJ (c:=false) E rfl rfl rfl rfl ts1 rfl fun a E=> ?_
  refine bJ (c:=false) E rfl rfl rfl rfl ts1 rfl fun a E=> ?_
  refine bJ (c:=false) E rfl rfl rfl rfl ts1 rfl fun a E=> ?_
  refine wv E rfl (aJ ((E.tmp rfl).trans (congrArg Value.bool ts1)) (aC _)) fun a E=>va E rfl rfl fun a E=> ?_
  refine wpList_nil (aj (wp_ret ?_))
  refine bB E rfl (aY E rfl) ?_
  have hE:false= !eG n:=by first|rfl|(simp only[eG,ts1,B1,B2,B3,B4,B5,B6,B7,B8,B9,B10,B11,dB,dD,dF];done)|(simp only[eG,ts1,B1,B2,B3,B4,B5,B6,B7,B8,B9,B10,B11,dB,dD,dF];rfl)|(simp[eG,ts1,B1,B2,B3,B4,B5,B6,B7,B8,B9,B10,B11,dB,dD,dF];done)|((try simp[eG,aP]at ts1);simp[eG,aP];omega)
  exact rb hE H
 refine bE E rfl rfl rfl ts1 ?_
 refine vm E rfl rfl fun a E=> ?_
 refine bE E rfl rfl rfl ts1 ?_
 refine dx (v:=.bool (aP n 1 1000)) E rfl (aG (E.tmp rfl) (aX)) wK (wB n w) H (fun a w E H=> ?_)
 refine bE E rfl rfl rfl ts1 ?_
 refine wv E rfl (kV (c:= !(aP n 1 1000)) (E.tmp rfl) rfl) fun a E=>wv E rfl (aL ((E.tmp rfl).trans (congrArg Value.bool ts1)) (E.tmp rfl)) fun a E=>va E rfl rfl fun a E=> ?_
 refine wpList_nil (aj (wp_ret ?_))
 refine bB E rfl (aY E rfl) ?_
 have hE:(!(aP n 1 1000))= !eG n:=by first|rfl|(simp only[eG,ts1,B1,B2,B3,B4,B5,B6,B7,B8,B9,B10,B11,dB,dD,dF];done)|(simp only[eG,ts1,B1,B2,B3,B4,B5,B6,B7,B8,B9,B10,B11,dB,dD,dF];rfl)|(simp[eG,ts1,B1,B2,B3,B4,B5,B6,B7,B8,B9,B10,B11,dB,dD,dF];done)|((try simp[eG,aP]at ts1);simp[eG,aP];omega)
 exact rb hE H
theorem Ls(n:Int)(w0:World):Calls Try.prog 62 #[.int .i64 (n)] w0 fun e w'=>e=.returned (.bool (!aP n 1 1000))∧Ext w0 w':=by
 refine bF (args:=[.int .i64 (n)]) Try.func62 rfl Try.ntmps62 rfl iI (fun a w E H=> ?_)
 have E:Env 6 a [(0,.int .i64 (n))]:=E
 refine wp_seq (wp_region_lit ?_)
 refine wv E rfl (aK (aC _)) fun a E=> ?_
 refine wpList_nil (aj (wp_seq (wp_region_lit ?_)))
 refine vm E rfl rfl fun a E=> ?_
 refine dx (v:=.bool (aP n 1 1000)) E rfl (aG (E.tmp rfl) (aX)) wK (wB n w) H (fun a w E H=> ?_)
 refine wv E rfl (kV (c:= !(aP n 1 1000)) (E.tmp rfl) rfl) fun a E=>va E rfl rfl fun a E=> ?_
 refine wpList_nil (aj (wp_ret ?_))
 refine bB E rfl (aY E rfl) ?_
 have hE:(!(aP n 1 1000))= !aP n 1 1000:=by first|rfl|(simp only[B1,B2,B3,B4,B5,B6,B7,B8,B9,B10,B11,dB,dD,dF];done)|(simp only[B1,B2,B3,B4,B5,B6,B7,B8,B9,B10,B11,dB,dD,dF];rfl)|(simp[B1,B2,B3,B4,B5,B6,B7,B8,B9,B10,B11,dB,dD,dF];done)|(skip;simp[aP];omega)
 exact rb hE H
theorem Lj(n:Int)(gb:Nat)(ow:Bool)(w0:World)(hcap:Bu w0 [] gb 0 (.bool ow)):Calls Try.prog 81 #[.int .i64 (n),.pointer (some ⟨gb,0,none⟩)] w0 fun e w'=>e=.returned (.bool (!bS n ow))∧Ext w0 w':=by
 refine bF (args:=[.int .i64 (n),.pointer (some ⟨gb,0,none⟩)]) Try.func81 rfl Try.ntmps81 rfl iI (fun a w E H=> ?_)
 have E:Env 15 a [(0,.int .i64 (n)),(1,.pointer (some ⟨gb,0,none⟩))]:=E
 refine wp_seq (wp_region_lit ?_)
 refine wv E rfl (aK (aC _)) fun a E=> ?_
 refine wpList_nil (aj (wp_seq (wp_region_lit ?_)))
 refine vm E rfl rfl fun a E=>wv E rfl (aN (E.tmp rfl) (aC _) (uD (b:=n !=0) rfl)) fun a E=>vm E rfl rfl fun a E=> ?_
 rcases aU (n !=0)with ts1|ts1
 ·
  refine bJ (c:=false) E rfl rfl rfl rfl ts1 rfl fun a E=> ?_
  refine bJ (c:=false) E rfl rfl rfl rfl ts1 rfl fun a E=> ?_
  refine bJ (c:=false) E rfl rfl rfl rfl ts1 rfl fun a E=> ?_
  refine oU E rfl rfl rfl rfl fun a E=>oU E rfl rfl rfl rfl fun a E=>oU E rfl rfl rfl rfl fun a E=> ?_
  refine bJ (c:=false) E rfl rfl rfl rfl ts1 rfl fun a E=> ?_
  refine wv E rfl (aJ ((E.tmp rfl).trans (congrArg Value.bool ts1)) (aC _)) fun a E=>va E rfl rfl fun a E=> ?_
  refine wpList_nil (aj (wp_ret ?_))
  refine bB E rfl (aY E rfl) ?_
  have hE:false= !bS n ow:=by first|rfl|(simp only[bS,ts1,B1,B2,B3,B4,B5,B6,B7,B8,B9,B10,B11,dB,dD,dF];done)|(simp only[bS,ts1,B1,B2,B3,B4,B5,B6,B7,B8,B9,B10,B11,dB,dD,dF];rfl)|(simp[bS,ts1,B1,B2,B3,B4,B5,B6,B7,B8,B9,B10,B11,dB,dD,dF];done)|((try simp[bS,aP]at ts1);simp[bS,aP];omega)
  exact rb hE H
 refine bE E rfl rfl rfl ts1 ?_
 refine wv E rfl (aD (E.tmp rfl) H7 (hcap.get H)) fun a E=> ?_
 refine bE E rfl rfl rfl ts1 ?_
 refine wv E rfl (kV (c:= !ow) (E.tmp rfl) rfl) fun a E=> ?_
 refine bE E rfl rfl rfl ts1 ?_
 refine vm E rfl rfl fun a E=> ?_
 rcases aU (ow)with ts2|ts2
 ·
  refine bJ (c:=true) E rfl rfl rfl rfl (by rw[ts2];rfl) rfl fun a E=> ?_
  refine bJ (c:=true) E rfl rfl rfl rfl (by rw[ts2];rfl) rfl fun a E=> ?_
  refine bJ (c:=true) E rfl rfl rfl rfl (by rw[ts2];rfl) rfl fun a E=> ?_
  refine bE E rfl rfl rfl ts1 ?_
  refine wv E rfl (aL ((E.tmp rfl).trans (congrArg Value.bool (by rw[ts2];rfl))) (aC _)) fun a E=>wv E rfl (aL ((E.tmp rfl).trans (congrArg Value.bool ts1)) (E.tmp rfl)) fun a E=>va E rfl rfl fun a E=> ?_
  refine wpList_nil (aj (wp_ret ?_))
  refine bB E rfl (aY E rfl) ?_
  have hE:true= !bS n ow:=by subst ts2;first|rfl|(simp only[bS,ts1,B1,B2,B3,B4,B5,B6,B7,B8,B9,B10,B11,dB,dD,dF];done)|(simp only[bS,ts1,B1,B2,B3,B4,B5,B6,B7,B8,B9,B10,B11,dB,dD,dF];rfl)|(simp[bS,ts1,B1,B2,B3,B4,B5,B6,B7,B8,B9,B10,B11,dB,dD,dF];done)|((try simp[bS,aP]at ts1);simp[bS,aP];omega)
  exact rb hE H
 refine bE E rfl rfl rfl (by rw[ts2];rfl) ?_
 refine vm E rfl rfl fun a E=> ?_
 refine bE E rfl rfl rfl (by rw[ts2];rfl) ?_
 refine dx (v:=.bool (aP n 1 1000)) E rfl (aG (E.tmp rfl) (aX)) wK (wB n w) H (fun a w E H=> ?_)
 refine bE E rfl rfl rfl (by rw[ts2];rfl) ?_
 refine wv E rfl (kV (c:= !(aP n 1 1000)) (E.tmp rfl) rfl) fun a E=> ?_
 refine bE E rfl rfl rfl ts1 ?_
 refine wv E rfl (aJ ((E.tmp rfl).trans (congrArg Value.bool (by rw[ts2];rfl))) (E.tmp rfl)) fun a E=>wv E rfl (aL ((E.tmp rfl).trans (congrArg Value.bool ts1)) (E.tmp rfl)) fun a E=>va E rfl rfl fun a E=> ?_
 refine wpList_nil (aj (wp_ret ?_))
 refine bB E rfl (aY E rfl) ?_
 have hE:(!(aP n 1 1000))= !bS n ow:=by subst ts2;first|rfl|(simp only[bS,ts1,B1,B2,B3,B4,B5,B6,B7,B8,B9,B10,B11,dB,dD,dF];done)|(simp only[bS,ts1,B1,B2,B3,B4,B5,B6,B7,B8,B9,B10,B11,dB,dD,dF];rfl)|(simp[bS,ts1,B1,B2,B3,B4,B5,B6,B7,B8,B9,B10,B11,dB,dD,dF];done)|((try simp[bS,aP]at ts1);simp[bS,aP];omega)
 exact rb hE H
theorem Lr(h:ak)(gb m c:Nat)(A:Option Addr)(w0:World)(hm:m≤9223372036854775807)(hcap:Bu w0 [] gb 3 (.slice A m c)):Calls Try.prog 61 #[.agg #[.int .i64 (h.actor),.int .i64 (h.value)],.pointer (some ⟨gb,0,none⟩)] w0 fun e w'=>e=.returned (.bool (!lg m h))∧Ext w0 w':=by
 refine bF (args:=[.agg #[.int .i64 (h.actor),.int .i64 (h.value)],.pointer (some ⟨gb,0,none⟩)]) Try.func61 rfl Try.ntmps61 rfl iI (fun a w E H=> ?_)
 have E:Env 21 a [(0,.agg #[.int .i64 (h.actor),.int .i64 (h.value)]),(1,.pointer (some ⟨gb,0,none⟩))]:=E
 have hmw:IntKind.i64.wrap (((m:Nat):Int)-1)=((m:Nat):Int)-1:=qO _ (by omega)
 refine wp_seq (wp_region_lit ?_)
 refine xB (us:=[.int .i64 (h.actor),.int .i64 (h.value)]) E rfl (E.tmp rfl) rfl H (fun a w g1 E H=> ?_)
 refine wv E rfl (aK (aC _)) fun a E=> ?_
 refine wpList_nil (aj (wp_seq (wp_region_lit ?_)))
 refine wv E rfl (aS (o':=0) (E.tmp rfl) wh rfl) fun a E=>wv E rfl (aD (E.tmp rfl) oG (H.cell 0 rfl rfl)) fun a E=>wv E rfl (aN (E.tmp rfl) (aC _) (iD (b:=decide (h.actor<0)) rfl)) fun a E=>vm E rfl rfl fun a E=> ?_
 rcases aU (decide (h.actor<0))with ts2|ts2
 ·
  refine bE E rfl rfl rfl ts2 ?_
  refine wv E rfl (aS (o':=0) (E.tmp rfl) wh rfl) fun a E=> ?_
  refine bE E rfl rfl rfl ts2 ?_
  refine wv E rfl (aD (E.tmp rfl) oG (H.cell 0 rfl rfl)) fun a E=> ?_
  refine bE E rfl rfl rfl ts2 ?_
  refine wv E rfl (aS (o':=3) (E.tmp rfl) BL rfl) fun a E=> ?_
  refine bE E rfl rfl rfl ts2 ?_
  refine wv E rfl (aD (E.tmp rfl) ES (hcap.get H)) fun a E=> ?_
  refine bE E rfl rfl rfl ts2 ?_
  refine wv E rfl (dM (E.tmp rfl) FB) (fun a E=> ?_)
  refine bE E rfl rfl rfl ts2 ?_
  refine wv E rfl (aN (E.tmp rfl) (E.tmp rfl) (lq (b:=decide (((m:Nat):Int)≤h.actor)) rfl)) fun a E=>wv E rfl (aJ ((E.tmp rfl).trans (congrArg Value.bool ts2)) (E.tmp rfl)) fun a E=>vm E rfl rfl fun a E=> ?_
  rcases aU (decide (((m:Nat):Int)≤h.actor))with ts3|ts3
  ·
   refine bE E rfl rfl rfl ts3 ?_
   refine wv E rfl (aS (o':=1) (E.tmp rfl) BN rfl) fun a E=> ?_
   refine bE E rfl rfl rfl ts3 ?_
   refine wv E rfl (aD (E.tmp rfl) oG (H.cell 0 rfl rfl)) fun a E=> ?_
   refine bE E rfl rfl rfl ts3 ?_
   refine dx (v:=.bool (aP h.value 0 1000)) E rfl (aG (E.tmp rfl) (aX)) (by kernel_rfl) (kE h.value w) H (fun a w E H=> ?_)
   refine bE E rfl rfl rfl ts3 ?_
   refine wv E rfl (kV (c:= !(aP h.value 0 1000)) (E.tmp rfl) rfl) fun a E=>wv E rfl (aJ ((E.tmp rfl).trans (congrArg Value.bool ts3)) (E.tmp rfl)) fun a E=>va E rfl rfl fun a E=> ?_
   refine wpList_nil (aj (wp_ret ?_))
   refine bB E rfl (aY E rfl) ?_
   have hE:(!(aP h.value 0 1000))= !lg m h:=by
    simp only[lg,hmw]
    have hts2:=ts2;have hts3:=ts3
    first|(simp only[ts2,ts3,B1,B2,B3,B4,B5,B6,B7,B8,B9,B10,B11,dB,dD,dF];rw[Bool.eq_iff_iff];simp[aP,ts2,ts3];omega)|(simp[aP]at hts2;simp[aP]at hts3;rw[Bool.eq_iff_iff];simp[aP,ts2,ts3];omega)
   exact rb hE H
  refine bJ (c:=true) E rfl rfl rfl rfl ts3 rfl fun a E=> ?_
  refine bJ (c:=true) E rfl rfl rfl rfl ts3 rfl fun a E=> ?_
  refine bJ (c:=true) E rfl rfl rfl rfl ts3 rfl fun a E=> ?_
  refine bJ (c:=true) E rfl rfl rfl rfl ts3 rfl fun a E=> ?_
  refine wv E rfl (aL ((E.tmp rfl).trans (congrArg Value.bool ts3)) (aC _)) fun a E=>va E rfl rfl fun a E=> ?_
  refine wpList_nil (aj (wp_ret ?_))
  refine bB E rfl (aY E rfl) ?_
  have hE:true= !lg m h:=by
   simp only[lg,hmw]
   have hts2:=ts2;have hts3:=ts3
   first|(simp only[ts2,ts3,B1,B2,B3,B4,B5,B6,B7,B8,B9,B10,B11,dB,dD,dF];rw[Bool.eq_iff_iff];simp[aP,ts2,ts3];omega)|(simp[aP]at hts2;simp[aP]at hts3;rw[Bool.eq_iff_iff];simp[aP,ts2,ts3];omega)
  exact rb hE H
 refine bJ (c:=true) E rfl rfl rfl rfl ts2 rfl fun a E=> ?_
 refine bJ (c:=true) E rfl rfl rfl rfl ts2 rfl fun a E=> ?_
 refine bJ (c:=true) E rfl rfl rfl rfl ts2 rfl fun a E=> ?_
 refine bJ (c:=true) E rfl rfl rfl rfl ts2 rfl fun a E=> ?_
 refine bJ (c:=true) E rfl rfl rfl rfl ts2 rfl fun a E=> ?_
 refine bJ (c:=true) E rfl rfl rfl rfl ts2 rfl fun a E=> ?_
 refine wv E rfl (aL ((E.tmp rfl).trans (congrArg Value.bool ts2)) (aC _)) fun a E=>vm E rfl rfl fun a E=>wn E rfl rfl rfl rfl rfl fun a E=>wn E rfl rfl rfl rfl rfl fun a E=>wn E rfl rfl rfl rfl rfl fun a E=> ?_
 refine wn E rfl rfl rfl rfl rfl fun a E=>wv E rfl (aL (E.tmp rfl) (aC _)) fun a E=>va E rfl rfl fun a E=> ?_
 refine wpList_nil (aj (wp_ret ?_))
 refine bB E rfl (aY E rfl) ?_
 have hE:true= !lg m h:=by
  simp only[lg,hmw]
  have hts2:=ts2
  first|(simp only[ts2,B1,B2,B3,B4,B5,B6,B7,B8,B9,B10,B11,dB,dD,dF];rw[Bool.eq_iff_iff];simp[aP,ts2];omega)|(simp[aP]at hts2;rw[Bool.eq_iff_iff];simp[aP,ts2];omega)
 exact rb hE H
theorem IG(xs:List Int)(c:Nat)(A:Option Addr)(w0:World)(hx:dz w0 [] (.sl xs.length (xs.flatMap au)) (.slice A xs.length c)):Calls Try.prog 55 #[.slice A xs.length c,.func (.func 56) #[] #[]] w0 fun e w'=>∃i:Int,e=.returned (.int .i64 i)∧decide (0≤i)=(!xs.all (eG))∧Ext w0 w':=by
 refine bF (args:=[.slice A xs.length c,.func (.func 56) #[] #[]]) Try.func55 rfl Try.ntmps55 rfl iI (fun a w E H=> ?_)
 have E:Env 19 a [(0,.slice A xs.length c),(1,.func (.func 56) #[] #[])]:=E
 have hnl:=hx.Ei
 refine wp_seq (wp_region_lit ?_)
 refine wv E rfl (aK (aC _)) fun a E=> ?_
 refine wpList_nil (aj (wp_seq (wp_seq (wp_region_lit ?_))))
 refine vm E rfl rfl fun a E=> ?_
 refine wv E rfl (dM (E.tmp rfl) lT) (fun a E=> ?_)
 refine wv E rfl (bN (aC _)) fun a E=> ?_
 refine wpList_nil (aj (wp_block ?_))
 refine wp_loop_ghost (fun m a w=>∃(k:Nat),m=xs.length-k∧k≤xs.length∧(xs.take k).all (eG)=true∧Env 19 a [(0,.slice A xs.length c),(1,.func (.func 56) #[] #[]),(7,.int .i64 (((xs.length:Nat):Int))),(8,.int .i64 (((k:Nat):Int)))]∧Tr.Inv w0 [] w []) _ ⟨0,rfl,Nat.zero_le _,rfl,(Env.pick E (Env.pick E (Env.pick E (Env.pick E E.nil rfl) rfl) rfl) rfl),H⟩ ?_
 rintro _ a w ⟨k,rfl,hk,hall,E,H⟩
 by_cases hlt:k<xs.length
 ·
  skip
  revert E
  revert H
  obtain⟨e1b,e1o,e1y,rfl,e1x,e1q⟩:=dz.elem (f:=au) (s:=1) (fun _=>rfl) hx rfl hlt
  intro H E
  have r2p0:eY w0 [] e1b (e1o+k*1) [.v (.int .i64 (e1y))]:=e1q
  obtain⟨r2k0,r2p1⟩:=eY.vv r2p0
  clear r2p0
  clear r2p1
  refine wp_seq (wp_region_lit ?_)
  refine wv E rfl (aN (E.tmp rfl) (E.tmp rfl) (iD (b:=true) (by simp;exact hlt))) fun a E=> ?_
  refine wpList_nil (aj (wp_seq ?_))
  refine bH E rfl rfl ?_
  refine wp_skip (aj (wp_seq (wp_block (wp_seq (wp_region_lit ?_)))))
  refine vm E rfl rfl fun a E=>va E rfl rfl fun a E=> ?_
  refine wpList_nil (aj (wp_seq (wp_region_lit ?_)))
  refine vm E rfl rfl fun a E=>vm E rfl rfl fun a E=>vm E rfl rfl fun a E=>wv E rfl (jX (k:=k) (o':=e1o+k*1) (E.tmp rfl) (E.tmp rfl) rfl lT (by omega) rfl) fun a E=>wv E rfl (aD (E.tmp rfl) oG (r2k0.get H)) fun a E=> ?_
  refine oz (v:=.bool (!eG e1y)) (cs:=[]) E rfl (E.tmp rfl) (aG (E.tmp rfl) (aX)) (by kernel_rfl) (Lm e1y w) H (fun a w E H=> ?_)
  refine wpList_nil (aj ?_)
  rcases aU (eG e1y)with ts3|ts3
  ·
   refine bH E rfl (by rw[ts3];rfl) ?_
   refine wp_seq (wp_region_lit ?_)
   refine vm E rfl rfl fun a E=>va E rfl rfl fun a E=> ?_
   refine wpList_nil (aj (wp_ret (iQ (bM (bM (iQ (bM ?_)))))))
   refine bB E rfl (aY E rfl) ?_
   have hp:(eG) e1y=false:=by show eG e1y=false;exact ts3
   exact⟨_,rfl,rT e1x hp,H.fH⟩
  refine bG E rfl (by rw[ts3];rfl) ?_
  refine wp_skip (fO (aj (wp_region_lit ?_)))
  refine wv E rfl (aN (E.tmp rfl) (aC _) (kP (fQ (by omega)))) fun a E=>vm E rfl rfl fun a E=> ?_
  refine wpList_nil ?_
  have hp:(eG) e1y=true:=by show eG e1y=true;exact ts3
  exact aj ⟨_,by omega,k+1,rfl,by omega,all_succ hall e1x hp,(Env.pick E (Env.pick E (Env.pick E (Env.pick E E.nil rfl) rfl) rfl) rfl),H⟩
 ·
  skip
  refine wp_seq (wp_region_lit ?_)
  refine wv E rfl (aN (E.tmp rfl) (E.tmp rfl) (iD (b:=false) (by simp;omega))) fun a E=> ?_
  refine wpList_nil (aj (wp_seq ?_))
  refine bG E rfl rfl ?_
  refine wp_exit (gQ (gQ (mO (aj (wp_seq (wp_region_lit ?_))))))
  refine wv E rfl (aK (aC _)) fun a E=> ?_
  refine wpList_nil (aj (wp_ret ?_))
  refine bB E rfl (aY E rfl) ?_
  exact⟨_,rfl,nR hall (by omega),H.fH⟩
theorem Ii(xs:List Int)(c:Nat)(A:Option Addr)(w0:World)(hx:dz w0 [] (.sl xs.length (xs.flatMap au)) (.slice A xs.length c)):Calls Try.prog 24 #[.slice A xs.length c,.func (.func 56) #[] #[]] w0 fun e w'=>e=.returned (.bool (!xs.all (eG)))∧Ext w0 w':=by
 refine bF (args:=[.slice A xs.length c,.func (.func 56) #[] #[]]) Try.func24 rfl Try.ntmps24 rfl iI (fun a w E H=> ?_)
 have E:Env 9 a [(0,.slice A xs.length c),(1,.func (.func 56) #[] #[])]:=E
 refine wp_seq (wp_region_lit ?_)
 refine wv E rfl (aK (aC _)) fun a E=> ?_
 refine wpList_nil (aj (wp_seq (wp_region_lit ?_)))
 refine vm E rfl rfl fun a E=>vm E rfl rfl fun a E=> ?_
 refine dR E rfl (aG (E.tmp rfl) (aG (E.tmp rfl) (aX))) wM (IG xs c A w (hx.at_ H (F:=[]) (by simp))) ?_
 rintro _ w ⟨i,rfl,hi,hext⟩
 refine⟨_,rfl,fun a E=> ?_⟩
 have H:=Tr.Inv.ext H hext
 clear hext
 refine wv E rfl (aN (E.tmp rfl) (aC _) (lq (b:=decide (0≤i)) rfl)) fun a E=>va E rfl rfl fun a E=> ?_
 refine wpList_nil (aj (wp_ret ?_))
 refine bB E rfl (aY E rfl) ?_
 exact⟨congrArg (fun z=>Ending.returned (Value.bool z)) hi,H.fH⟩
theorem IJ(xs:List Int)(c:Nat)(A:Option Addr)(w0:World)(hx:dz w0 [] (.sl xs.length (xs.flatMap au)) (.slice A xs.length c)):Calls Try.prog 55 #[.slice A xs.length c,.func (.func 62) #[] #[]] w0 fun e w'=>∃i:Int,e=.returned (.int .i64 i)∧decide (0≤i)=(!xs.all (fun n=>aP n 1 1000))∧Ext w0 w':=by
 refine bF (args:=[.slice A xs.length c,.func (.func 62) #[] #[]]) Try.func55 rfl Try.ntmps55 rfl iI (fun a w E H=> ?_)
 have E:Env 19 a [(0,.slice A xs.length c),(1,.func (.func 62) #[] #[])]:=E
 have hnl:=hx.Ei
 refine wp_seq (wp_region_lit ?_)
 refine wv E rfl (aK (aC _)) fun a E=> ?_
 refine wpList_nil (aj (wp_seq (wp_seq (wp_region_lit ?_))))
 refine vm E rfl rfl fun a E=> ?_
 refine wv E rfl (dM (E.tmp rfl) lT) (fun a E=> ?_)
 refine wv E rfl (bN (aC _)) fun a E=> ?_
 refine wpList_nil (aj (wp_block ?_))
 refine wp_loop_ghost (fun m a w=>∃(k:Nat),m=xs.length-k∧k≤xs.length∧(xs.take k).all (fun n=>aP n 1 1000)=true∧Env 19 a [(0,.slice A xs.length c),(1,.func (.func 62) #[] #[]),(7,.int .i64 (((xs.length:Nat):Int))),(8,.int .i64 (((k:Nat):Int)))]∧Tr.Inv w0 [] w []) _ ⟨0,rfl,Nat.zero_le _,rfl,(Env.pick E (Env.pick E (Env.pick E (Env.pick E E.nil rfl) rfl) rfl) rfl),H⟩ ?_
 rintro _ a w ⟨k,rfl,hk,hall,E,H⟩
 by_cases hlt:k<xs.length
 ·
  skip
  revert E
  revert H
  obtain⟨e1b,e1o,e1y,rfl,e1x,e1q⟩:=dz.elem (f:=au) (s:=1) (fun _=>rfl) hx rfl hlt
  intro H E
  have r2p0:eY w0 [] e1b (e1o+k*1) [.v (.int .i64 (e1y))]:=e1q
  obtain⟨r2k0,r2p1⟩:=eY.vv r2p0
  clear r2p0
  clear r2p1
  refine wp_seq (wp_region_lit ?_)
  refine wv E rfl (aN (E.tmp rfl) (E.tmp rfl) (iD (b:=true) (by simp;exact hlt))) fun a E=> ?_
  refine wpList_nil (aj (wp_seq ?_))
  refine bH E rfl rfl ?_
  refine wp_skip (aj (wp_seq (wp_block (wp_seq (wp_region_lit ?_)))))
  refine vm E rfl rfl fun a E=>va E rfl rfl fun a E=> ?_
  refine wpList_nil (aj (wp_seq (wp_region_lit ?_)))
  refine vm E rfl rfl fun a E=>vm E rfl rfl fun a E=>vm E rfl rfl fun a E=>wv E rfl (jX (k:=k) (o':=e1o+k*1) (E.tmp rfl) (E.tmp rfl) rfl lT (by omega) rfl) fun a E=>wv E rfl (aD (E.tmp rfl) oG (r2k0.get H)) fun a E=> ?_
  refine oz (v:=.bool (!aP e1y 1 1000)) (cs:=[]) E rfl (E.tmp rfl) (aG (E.tmp rfl) (aX)) (by kernel_rfl) (Ls e1y w) H (fun a w E H=> ?_)
  refine wpList_nil (aj ?_)
  rcases aU (aP e1y 1 1000)with ts3|ts3
  ·
   refine bH E rfl (by rw[ts3];rfl) ?_
   refine wp_seq (wp_region_lit ?_)
   refine vm E rfl rfl fun a E=>va E rfl rfl fun a E=> ?_
   refine wpList_nil (aj (wp_ret (iQ (bM (bM (iQ (bM ?_)))))))
   refine bB E rfl (aY E rfl) ?_
   have hp:(fun n=>aP n 1 1000) e1y=false:=by show aP e1y 1 1000=false;exact ts3
   exact⟨_,rfl,rT e1x hp,H.fH⟩
  refine bG E rfl (by rw[ts3];rfl) ?_
  refine wp_skip (fO (aj (wp_region_lit ?_)))
  refine wv E rfl (aN (E.tmp rfl) (aC _) (kP (fQ (by omega)))) fun a E=>vm E rfl rfl fun a E=> ?_
  refine wpList_nil ?_
  have hp:(fun n=>aP n 1 1000) e1y=true:=by show aP e1y 1 1000=true;exact ts3
  exact aj ⟨_,by omega,k+1,rfl,by omega,all_succ hall e1x hp,(Env.pick E (Env.pick E (Env.pick E (Env.pick E E.nil rfl) rfl) rfl) rfl),H⟩
 ·
  skip
  refine wp_seq (wp_region_lit ?_)
  refine wv E rfl (aN (E.tmp rfl) (E.tmp rfl) (iD (b:=false) (by simp;omega))) fun a E=> ?_
  refine wpList_nil (aj (wp_seq ?_))
  refine bG E rfl rfl ?_
  refine wp_exit (gQ (gQ (mO (aj (wp_seq (wp_region_lit ?_))))))
  refine wv E rfl (aK (aC _)) fun a E=> ?_
  refine wpList_nil (aj (wp_ret ?_))
  refine bB E rfl (aY E rfl) ?_
  exact⟨_,rfl,nR hall (by omega),H.fH⟩
theorem Ik(xs:List Int)(c:Nat)(A:Option Addr)(w0:World)(hx:dz w0 [] (.sl xs.length (xs.flatMap au)) (.slice A xs.length c)):Calls Try.prog 24 #[.slice A xs.length c,.func (.func 62) #[] #[]] w0 fun e w'=>e=.returned (.bool (!xs.all (fun n=>aP n 1 1000)))∧Ext w0 w':=by
 refine bF (args:=[.slice A xs.length c,.func (.func 62) #[] #[]]) Try.func24 rfl Try.ntmps24 rfl iI (fun a w E H=> ?_)
 have E:Env 9 a [(0,.slice A xs.length c),(1,.func (.func 62) #[] #[])]:=E
 refine wp_seq (wp_region_lit ?_)
 refine wv E rfl (aK (aC _)) fun a E=> ?_
 refine wpList_nil (aj (wp_seq (wp_region_lit ?_)))
 refine vm E rfl rfl fun a E=>vm E rfl rfl fun a E=> ?_
 refine dR E rfl (aG (E.tmp rfl) (aG (E.tmp rfl) (aX))) wM (IJ xs c A w (hx.at_ H (F:=[]) (by simp))) ?_
 rintro _ w ⟨i,rfl,hi,hext⟩
 refine⟨_,rfl,fun a E=> ?_⟩
 have H:=Tr.Inv.ext H hext
 clear hext
 refine wv E rfl (aN (E.tmp rfl) (aC _) (lq (b:=decide (0≤i)) rfl)) fun a E=>va E rfl rfl fun a E=> ?_
 refine wpList_nil (aj (wp_ret ?_))
 refine bB E rfl (aY E rfl) ?_
 exact⟨congrArg (fun z=>Ending.returned (Value.bool z)) hi,H.fH⟩
theorem IE(xs:List Int)(c:Nat)(A:Option Addr)(gb:Nat)(ow:Bool)(w0:World)(hcap:Bu w0 [] gb 0 (.bool ow))(hx:dz w0 [] (.sl xs.length (xs.flatMap au)) (.slice A xs.length c)):Calls Try.prog 55 #[.slice A xs.length c,.func (.func 81) #[] #[.pointer (some ⟨gb,0,none⟩)]] w0 fun e w'=>∃i:Int,e=.returned (.int .i64 i)∧decide (0≤i)=(!xs.all (fun n=>bS n ow))∧Ext w0 w':=by
 refine bF (args:=[.slice A xs.length c,.func (.func 81) #[] #[.pointer (some ⟨gb,0,none⟩)]]) Try.func55 rfl Try.ntmps55 rfl iI (fun a w E H=> ?_)
 have E:Env 19 a [(0,.slice A xs.length c),(1,.func (.func 81) #[] #[.pointer (some ⟨gb,0,none⟩)])]:=E
 have hnl:=hx.Ei
 refine wp_seq (wp_region_lit ?_)
 refine wv E rfl (aK (aC _)) fun a E=> ?_
 refine wpList_nil (aj (wp_seq (wp_seq (wp_region_lit ?_))))
 refine vm E rfl rfl fun a E=> ?_
 refine wv E rfl (dM (E.tmp rfl) lT) (fun a E=> ?_)
 refine wv E rfl (bN (aC _)) fun a E=> ?_
 refine wpList_nil (aj (wp_block ?_))
 refine wp_loop_ghost (fun m a w=>∃(k:Nat),m=xs.length-k∧k≤xs.length∧(xs.take k).all (fun n=>bS n ow)=true∧Env 19 a [(0,.slice A xs.length c),(1,.func (.func 81) #[] #[.pointer (some ⟨gb,0,none⟩)]),(7,.int .i64 (((xs.length:Nat):Int))),(8,.int .i64 (((k:Nat):Int)))]∧Tr.Inv w0 [] w []) _ ⟨0,rfl,Nat.zero_le _,rfl,(Env.pick E (Env.pick E (Env.pick E (Env.pick E E.nil rfl) rfl) rfl) rfl),H⟩ ?_
 rintro _ a w ⟨k,rfl,hk,hall,E,H⟩
 by_cases hlt:k<xs.length
 ·
  skip
  revert E
  revert H
  obtain⟨e1b,e1o,e1y,rfl,e1x,e1q⟩:=dz.elem (f:=au) (s:=1) (fun _=>rfl) hx rfl hlt
  intro H E
  have r2p0:eY w0 [] e1b (e1o+k*1) [.v (.int .i64 (e1y))]:=e1q
  obtain⟨r2k0,r2p1⟩:=eY.vv r2p0
  clear r2p0
  clear r2p1
  refine wp_seq (wp_region_lit ?_)
  refine wv E rfl (aN (E.tmp rfl) (E.tmp rfl) (iD (b:=true) (by simp;exact hlt))) fun a E=> ?_
  refine wpList_nil (aj (wp_seq ?_))
  refine bH E rfl rfl ?_
  refine wp_skip (aj (wp_seq (wp_block (wp_seq (wp_region_lit ?_)))))
  refine vm E rfl rfl fun a E=>va E rfl rfl fun a E=> ?_
  refine wpList_nil (aj (wp_seq (wp_region_lit ?_)))
  refine vm E rfl rfl fun a E=>vm E rfl rfl fun a E=>vm E rfl rfl fun a E=>wv E rfl (jX (k:=k) (o':=e1o+k*1) (E.tmp rfl) (E.tmp rfl) rfl lT (by omega) rfl) fun a E=>wv E rfl (aD (E.tmp rfl) oG (r2k0.get H)) fun a E=> ?_
  refine oz (v:=.bool (!bS e1y ow)) (cs:=[.pointer (some ⟨gb,0,none⟩)]) E rfl (E.tmp rfl) (aG (E.tmp rfl) (aX)) (by kernel_rfl) (Lj e1y gb ow w (hcap.at_ H (F:=[]) (by simp))) H (fun a w E H=> ?_)
  refine wpList_nil (aj ?_)
  rcases aU (bS e1y ow)with ts3|ts3
  ·
   refine bH E rfl (by rw[ts3];rfl) ?_
   refine wp_seq (wp_region_lit ?_)
   refine vm E rfl rfl fun a E=>va E rfl rfl fun a E=> ?_
   refine wpList_nil (aj (wp_ret (iQ (bM (bM (iQ (bM ?_)))))))
   refine bB E rfl (aY E rfl) ?_
   have hp:(fun n=>bS n ow) e1y=false:=by show bS e1y ow=false;exact ts3
   exact⟨_,rfl,rT e1x hp,H.fH⟩
  refine bG E rfl (by rw[ts3];rfl) ?_
  refine wp_skip (fO (aj (wp_region_lit ?_)))
  refine wv E rfl (aN (E.tmp rfl) (aC _) (kP (fQ (by omega)))) fun a E=>vm E rfl rfl fun a E=> ?_
  refine wpList_nil ?_
  have hp:(fun n=>bS n ow) e1y=true:=by show bS e1y ow=true;exact ts3
  exact aj ⟨_,by omega,k+1,rfl,by omega,all_succ hall e1x hp,(Env.pick E (Env.pick E (Env.pick E (Env.pick E E.nil rfl) rfl) rfl) rfl),H⟩
 ·
  skip
  refine wp_seq (wp_region_lit ?_)
  refine wv E rfl (aN (E.tmp rfl) (E.tmp rfl) (iD (b:=false) (by simp;omega))) fun a E=> ?_
  refine wpList_nil (aj (wp_seq ?_))
  refine bG E rfl rfl ?_
  refine wp_exit (gQ (gQ (mO (aj (wp_seq (wp_region_lit ?_))))))
  refine wv E rfl (aK (aC _)) fun a E=> ?_
  refine wpList_nil (aj (wp_ret ?_))
  refine bB E rfl (aY E rfl) ?_
  exact⟨_,rfl,nR hall (by omega),H.fH⟩
theorem Ih(xs:List Int)(c:Nat)(A:Option Addr)(gb:Nat)(ow:Bool)(w0:World)(hcap:Bu w0 [] gb 0 (.bool ow))(hx:dz w0 [] (.sl xs.length (xs.flatMap au)) (.slice A xs.length c)):Calls Try.prog 24 #[.slice A xs.length c,.func (.func 81) #[] #[.pointer (some ⟨gb,0,none⟩)]] w0 fun e w'=>e=.returned (.bool (!xs.all (fun n=>bS n ow)))∧Ext w0 w':=by
 refine bF (args:=[.slice A xs.length c,.func (.func 81) #[] #[.pointer (some ⟨gb,0,none⟩)]]) Try.func24 rfl Try.ntmps24 rfl iI (fun a w E H=> ?_)
 have E:Env 9 a [(0,.slice A xs.length c),(1,.func (.func 81) #[] #[.pointer (some ⟨gb,0,none⟩)])]:=E
 refine wp_seq (wp_region_lit ?_)
 refine wv E rfl (aK (aC _)) fun a E=> ?_
 refine wpList_nil (aj (wp_seq (wp_region_lit ?_)))
 refine vm E rfl rfl fun a E=>vm E rfl rfl fun a E=> ?_
 refine dR E rfl (aG (E.tmp rfl) (aG (E.tmp rfl) (aX))) wM (IE xs c A gb ow w (hcap.at_ H (F:=[]) (by simp)) (hx.at_ H (F:=[]) (by simp))) ?_
 rintro _ w ⟨i,rfl,hi,hext⟩
 refine⟨_,rfl,fun a E=> ?_⟩
 have H:=Tr.Inv.ext H hext
 clear hext
 refine wv E rfl (aN (E.tmp rfl) (aC _) (lq (b:=decide (0≤i)) rfl)) fun a E=>va E rfl rfl fun a E=> ?_
 refine wpList_nil (aj (wp_ret ?_))
 refine bB E rfl (aY E rfl) ?_
 exact⟨congrArg (fun z=>Ending.returned (Value.bool z)) hi,H.fH⟩
theorem II(xs:List ak)(c:Nat)(A:Option Addr)(gb mm cc:Nat)(AA:Option Addr)(w0:World)(hm:mm≤9223372036854775807)(hcap:Bu w0 [] gb 3 (.slice AA mm cc))(hx:dz w0 [] (.sl xs.length (xs.flatMap ak.enc)) (.slice A xs.length c)):Calls Try.prog 82 #[.slice A xs.length c,.func (.func 61) #[] #[.pointer (some ⟨gb,0,none⟩)]] w0 fun e w'=>∃i:Int,e=.returned (.int .i64 i)∧decide (0≤i)=(!xs.all (lg mm))∧Ext w0 w':=by
 refine bF (args:=[.slice A xs.length c,.func (.func 61) #[] #[.pointer (some ⟨gb,0,none⟩)]]) Try.func82 rfl Try.ntmps82 rfl iI (fun a w E H=> ?_)
 have E:Env 19 a [(0,.slice A xs.length c),(1,.func (.func 61) #[] #[.pointer (some ⟨gb,0,none⟩)])]:=E
 have hnl:=hx.Ei
 refine wp_seq (wp_region_lit ?_)
 refine wv E rfl (aK (aC _)) fun a E=> ?_
 refine wpList_nil (aj (wp_seq (wp_seq (wp_region_lit ?_))))
 refine vm E rfl rfl fun a E=> ?_
 refine wv E rfl (dM (E.tmp rfl) Ac) (fun a E=> ?_)
 refine wv E rfl (bN (aC _)) fun a E=> ?_
 refine wpList_nil (aj (wp_block ?_))
 refine wp_loop_ghost (fun m a w=>∃(k:Nat),m=xs.length-k∧k≤xs.length∧(xs.take k).all (lg mm)=true∧Env 19 a [(0,.slice A xs.length c),(1,.func (.func 61) #[] #[.pointer (some ⟨gb,0,none⟩)]),(7,.int .i64 (((xs.length:Nat):Int))),(8,.int .i64 (((k:Nat):Int)))]∧Tr.Inv w0 [] w []) _ ⟨0,rfl,Nat.zero_le _,rfl,(Env.pick E (Env.pick E (Env.pick E (Env.pick E E.nil rfl) rfl) rfl) rfl),H⟩ ?_
 rintro _ a w ⟨k,rfl,hk,hall,E,H⟩
 by_cases hlt:k<xs.length
 ·
  skip
  revert E
  revert H
  obtain⟨e1b,e1o,e1y,rfl,e1x,e1q⟩:=dz.elem (f:=ak.enc) ak.aV hx rfl hlt
  intro H E
  have r2p0:eY w0 [] e1b (e1o+k*2) [.v (.int .i64 (e1y.actor)),.v (.int .i64 (e1y.value))]:=e1q
  obtain⟨r2k0,r2p1⟩:=eY.vv r2p0
  clear r2p0
  obtain⟨r2k1,r2p2⟩:=eY.vv r2p1
  clear r2p1
  clear r2p2
  refine wp_seq (wp_region_lit ?_)
  refine wv E rfl (aN (E.tmp rfl) (E.tmp rfl) (iD (b:=true) (by simp;exact hlt))) fun a E=> ?_
  refine wpList_nil (aj (wp_seq ?_))
  refine bH E rfl rfl ?_
  refine wp_skip (aj (wp_seq (wp_block (wp_seq (wp_region_lit ?_)))))
  refine vm E rfl rfl fun a E=>va E rfl rfl fun a E=> ?_
  refine wpList_nil (aj (wp_seq (wp_region_lit ?_)))
  refine vm E rfl rfl fun a E=>vm E rfl rfl fun a E=>vm E rfl rfl fun a E=>wv E rfl (jX (k:=k) (o':=e1o+k*2) (E.tmp rfl) (E.tmp rfl) rfl Ac (by omega) rfl) fun a E=>wv E rfl (fJ (us:=[.int .i64 (e1y.actor),.int .i64 (e1y.value)]) (E.tmp rfl) EW GI (fD (r2k0.get H) (fD (r2k1.get H) (yL _ _ _)))) fun a E=> ?_
  refine oz (v:=.bool (!lg mm e1y)) (cs:=[.pointer (some ⟨gb,0,none⟩)]) E rfl (E.tmp rfl) (aG (E.tmp rfl) (aX)) (by kernel_rfl) (Lr e1y gb mm cc AA w hm (hcap.at_ H (F:=[]) (by simp))) H (fun a w E H=> ?_)
  refine wpList_nil (aj ?_)
  rcases aU (lg mm e1y)with ts3|ts3
  ·
   refine bH E rfl (by rw[ts3];rfl) ?_
   refine wp_seq (wp_region_lit ?_)
   refine vm E rfl rfl fun a E=>va E rfl rfl fun a E=> ?_
   refine wpList_nil (aj (wp_ret (iQ (bM (bM (iQ (bM ?_)))))))
   refine bB E rfl (aY E rfl) ?_
   have hp:(lg mm) e1y=false:=by show lg mm e1y=false;exact ts3
   exact⟨_,rfl,rT e1x hp,H.fH⟩
  refine bG E rfl (by rw[ts3];rfl) ?_
  refine wp_skip (fO (aj (wp_region_lit ?_)))
  refine wv E rfl (aN (E.tmp rfl) (aC _) (kP (fQ (by omega)))) fun a E=>vm E rfl rfl fun a E=> ?_
  refine wpList_nil ?_
  have hp:(lg mm) e1y=true:=by show lg mm e1y=true;exact ts3
  exact aj ⟨_,by omega,k+1,rfl,by omega,all_succ hall e1x hp,(Env.pick E (Env.pick E (Env.pick E (Env.pick E E.nil rfl) rfl) rfl) rfl),H⟩
 ·
  skip
  refine wp_seq (wp_region_lit ?_)
  refine wv E rfl (aN (E.tmp rfl) (E.tmp rfl) (iD (b:=false) (by simp;omega))) fun a E=> ?_
  refine wpList_nil (aj (wp_seq ?_))
  refine bG E rfl rfl ?_
  refine wp_exit (gQ (gQ (mO (aj (wp_seq (wp_region_lit ?_))))))
  refine wv E rfl (aK (aC _)) fun a E=> ?_
  refine wpList_nil (aj (wp_ret ?_))
  refine bB E rfl (aY E rfl) ?_
  exact⟨_,rfl,nR hall (by omega),H.fH⟩
theorem Ij(xs:List ak)(c:Nat)(A:Option Addr)(gb mm cc:Nat)(AA:Option Addr)(w0:World)(hm:mm≤9223372036854775807)(hcap:Bu w0 [] gb 3 (.slice AA mm cc))(hx:dz w0 [] (.sl xs.length (xs.flatMap ak.enc)) (.slice A xs.length c)):Calls Try.prog 60 #[.slice A xs.length c,.func (.func 61) #[] #[.pointer (some ⟨gb,0,none⟩)]] w0 fun e w'=>e=.returned (.bool (!xs.all (lg mm)))∧Ext w0 w':=by
 refine bF (args:=[.slice A xs.length c,.func (.func 61) #[] #[.pointer (some ⟨gb,0,none⟩)]]) Try.func60 rfl Try.ntmps60 rfl iI (fun a w E H=> ?_)
 have E:Env 9 a [(0,.slice A xs.length c),(1,.func (.func 61) #[] #[.pointer (some ⟨gb,0,none⟩)])]:=E
 refine wp_seq (wp_region_lit ?_)
 refine wv E rfl (aK (aC _)) fun a E=> ?_
 refine wpList_nil (aj (wp_seq (wp_region_lit ?_)))
 refine vm E rfl rfl fun a E=>vm E rfl rfl fun a E=> ?_
 refine dR E rfl (aG (E.tmp rfl) (aG (E.tmp rfl) (aX))) (by kernel_rfl) (II xs c A gb mm cc AA w hm (hcap.at_ H (F:=[]) (by simp)) (hx.at_ H (F:=[]) (by simp))) ?_
 rintro _ w ⟨i,rfl,hi,hext⟩
 refine⟨_,rfl,fun a E=> ?_⟩
 have H:=Tr.Inv.ext H hext
 clear hext
 refine wv E rfl (aN (E.tmp rfl) (aC _) (lq (b:=decide (0≤i)) rfl)) fun a E=>va E rfl rfl fun a E=> ?_
 refine wpList_nil (aj (wp_ret ?_))
 refine bB E rfl (aY E rfl) ?_
 exact⟨congrArg (fun z=>Ending.returned (Value.bool z)) hi,H.fH⟩
end Go.Proofs.Ytjpaeopdljfjpaa
