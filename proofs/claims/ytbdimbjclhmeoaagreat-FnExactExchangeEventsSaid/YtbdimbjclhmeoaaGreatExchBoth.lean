
/- ExchangeEvents: both sides; the contracts for the law. -/
import Derived.Test.YtbdimbjclhmeoaaGreatShort
import Derived.Test.YtbdimbjclhmeoaaGreatZy
import Derived.Test.YtbdimbjclhmeoaaGreatEvR
set_option linter.unusedSimpArgs false
set_option linter.unusedVariables false
set_option linter.unusedSectionVars false
namespace Go.Proofs.YtbdimbjclhmeoaaGreat
open Go Go.RowKit Go.Proofs Go.Tr
section
variable (bk:List (List aj))(xs:List aj)(es:List aB)
inductive CkZ(es:List aB):Prop
 |bad (c:Int) (hc:c≠0) (hz:c=oG bk xs es) (hI:UY bk xs es c) (hS:XC bk xs es c)
 |ok (k:List (Int×Bool)) (f:List aj) (hz:oG bk xs es=0) (hI:EF bk xs es k f) (hS:U4 bk xs es (sP bk xs es))
  (tw:Tr.Twin k f (sP bk xs es)) (l1:f.length≤3000) (run:nk bk (xs.map sig) es (f.map sig))
variable (hB:jq (bk.map gN)=true)(hN:gZ (gN xs)=true)
include hB hN
theorem G5(hl:es.length≤300):CkZ bk xs es:=by
 have nb:=(Jo hB).1;have nn:=Ir hN;have hl2:=nn.l2;have hs:dO xs:=Cj.small nn;obtain⟨code,k,f,g,R,h,hz,hg⟩:=Gp nb es (ev:=[]) nn.twin (by omega) (by rw[qR];omega)
 by_cases hc:code=0
 ·subst hc;obtain⟨t1,t2,t3⟩:=h rfl;have g1:=hg rfl;subst g1;exact .ok k f hz.symm (Pv bk xs es hB hN hs (by omega) R) (Q7 bk xs es hB hN hs (by omega) R) t1 t2 t3
 ·exact .bad code hc hz (Lj bk xs es hB hN hs (by omega) hc R) (Pq bk xs es hB hN hs (by omega) hc R)
end
theorem YU{bk:List (List aj)}{s s':List vK}{es:List aB}(h:nk bk s es s')(hl:s'.length≤3000)(hle:es.length≤300):XD es:=by
 obtain⟨h1,h2⟩:=YR h hl
 exact⟨hle,fun e he=>by
  obtain⟨⟨a1,a2⟩,b1,b2⟩:=h1 e he;have a1':0≤e.2.2.2.1:=a1;have a2':e.2.2.2.1≤1000000:=a2;have b1':0≤e.2.2.2.2:=b1;have b2':e.2.2.2.2≤1000000:=b2;exact⟨⟨by omega,a2'⟩,⟨by omega,b2'⟩,b1'⟩,fun e he=>h2 e he⟩
theorem Yq{f c c':Int}(h1:0≤f)(h2:0≤c)(h3:0≤c'):Mh f c c'=kD f.toNat c.toNat c'.toNat:=by
 rw[←SE,show((f.toNat:Nat):Int)=f by omega,show((c.toNat:Nat):Int)=c by omega,show((c'.toNat:Nat):Int)=c' by omega]
abbrev Ho(bk:List (List aj))(xs:List aj)(es:List aB)(k:Int):List SV:=[.rsl aZ bk,.agg [.rsl aF xs],.rsl aP es,.int .i64 k]
theorem yZ(bk:List (List aj))(xs:List aj)(es:List aB)(k:Int):∃(out:List aB) (c:Int),out.length≤300∧Jb 15 (Ho bk xs es k) out c∧Jb 11 (Ho bk xs es k) out c:=by
 cases hv:(jq (bk.map gN)&&gZ (gN xs))with
 |false=>exact⟨[],1,by simp,.inl ⟨rfl,X9 bk xs es (by decide) (Ll bk xs es hv)⟩,.inl ⟨rfl,Yb bk xs es (by decide) (Pt bk xs es hv)⟩⟩
 |true=>
  rw[qD]at hv;obtain⟨hB,hN⟩:=hv
  by_cases hl:300<es.length
  ·exact⟨[],2,by simp,.inl ⟨rfl,X9 bk xs es (by decide) (Jq bk xs es hB hN hl)⟩,.inl ⟨rfl,Yb bk xs es (by decide) (Li bk xs es hB hN hl)⟩⟩
  have nb:=(Jo hB).1;have nn:=Ir hN;cases G5 bk xs es hB hN (by omega)with
  |bad c hc hz hI hS=>exact⟨[],c,by simp,.inl ⟨rfl,X9 bk xs es hc hI⟩,.inl ⟨rfl,Yb bk xs es hc hS⟩⟩
  |ok kv f hz hI hS tw l1 run=>
   by_cases hk:0≤k∧k≤(es.length:Int)-2
   ·obtain⟨k,rfl⟩:∃n:Nat,k=(n:Int):=⟨k.toNat,by omega⟩;have hk2:k+1<es.length:=by omega
    have hs:=YU run (by rw[qV];exact l1) (by omega);have sp:=JI hk2
    have ey:yW es k=fO es (k+1):=by
     show elt (dflt aP) es (IntKind.i64.wrap (((k:Nat):Int)+1))=_;rw[dH (by omega)]
    have hz2:=hz;rw[sp]at hz2;have hpre:=DZ hz2;cases G5 bk xs (es.take k) hB hN (by rw[List.length_take];omega)with
    |bad c hc hzb _ _=>exact absurd (hzb.trans hpre) hc
    |ok kb fb hzb hIb hSb twb l1b runb=>
     have ht1:=zC twb (yW es k).1;have ht2:=zC twb (yW es k).2.1
     have hpp:∀z:Int,dX fb kb z=true→0<(ah fb z).2.2.2.2.length:=fun z hz=>by
      have la:=kE hz;exact(jc (twb.wf z la.1.1 la.1.2 la.2)).1
     have hat:∀z:Int,dX fb kb z=true→ah (sP bk xs (es.take k)) z=ah fb z:=fun z hz=>by
      have la:=kE hz;exact twb.at_ la.1.1 la.1.2 la.2
     have hlb:(sP bk xs (es.take k)).length≤1000000:=by rw[←twb.len];omega
     have hppS:fQ (sP bk xs (es.take k)) (yW es k).1=true→0<(ah (sP bk xs (es.take k)) (yW es k).1).2.2.2.2.length:=fun h=>by
      rw[ht1]at h;rw[hat _ h];exact hpp _ h
     by_cases hr:(dX fb kb (yW es k).1&&(dX fb kb (yW es k).2.1&&kH fb (yW es k).1 (yW es k).2.1))=true
     ·rw[qD,qD]at hr;obtain⟨ra,rb,rc⟩:=hr;have ac:=zP twb ra rb;have RI:Lc fb kb (yW es k):=⟨ra,rb,rc,hpp _ ra⟩;have RS:Ready (sP bk xs (es.take k)) (yW es k):=⟨by rw[ht1];exact ra,by rw[ht2];exact rb,by rw[ac];exact rc,hppS (by rw[ht1];exact ra)⟩;have hz3:=hz2;rw[zy hpre]at hz3;obtain⟨p1,hz4⟩:=mq hz3;obtain⟨p2,_⟩:=mq hz4;have v1:=(lF.1 p1).ev;have v2:=(lF.1 p2).ev;have f1:(((sP bk xs (es.take k)).length:Nat):Int)=(fO es k).2.2.2.1:=congrArg (fun e:aB=>e.2.2.2.1) v1
      have c1:(((bN bk (sP bk xs (es.take k)) (fO es k).1 (fO es k).2.1).length:Nat):Int)-(((sP bk xs (es.take k)).length:Nat):Int)=(fO es k).2.2.2.2:=congrArg (fun e:aB=>e.2.2.2.2) v1;have f2:(((bN bk (sP bk xs (es.take k)) (fO es k).1 (fO es k).2.1).length:Nat):Int)=(fO es (k+1)).2.2.2.1:=congrArg (fun e:aB=>e.2.2.2.1) v2;have hab:(fO es (k+1)).2.2.2.1=(fO es k).2.2.2.1+(fO es k).2.2.2.2:=by omega
      have m0:=hs.f _ (su (show k<es.length by omega));have m1:=hs.f _ (su hk2);have hc:=EM nn.twin nb hz2 (by rw[←ey];exact mE.1 RS.ta) (by rw[←ey];exact mE.1 RS.tb) (by rw[←ey];exact xX.1 RS.ac)
      have et:es.take k++Tr.EC (fO es k) (fO es (k+1))::Tr.CQ (fO es k) (fO es (k+1))::(es.drop (k+2)).map (SL (kD (fO es k).2.2.2.1.toNat (fO es k).2.2.2.2.toNat (fO es (k+1)).2.2.2.2.toNat))=lU es k:=by
       unfold lU SC;rw[Yq (by omega) m0.2.2 m1.2.2]
      rw[et]at hc;have hll:(lU es k).length≤300:=by rw[rM hk2];omega
      cases G5 bk xs (lU es k) hB hN hll with
      |bad c hc0 hzc hIc hSc=>
       have h4:c=4:=by omega
       subst h4;exact⟨[],4,by simp,.inl ⟨rfl,exI4 bk xs es k hk2 (by omega) hs hab hI hIb RI hc0 hIc⟩,.inl ⟨rfl,exS4 bk xs es k hk2 (by omega) hs hS hSb hlb RS hc0 hSc⟩⟩
      |ok kc d hzc hIc hSc _ _ _=>
       exact⟨lU es k,0,hll,.inr (exI5 bk xs es k hk2 (by omega) hs hab hI hIb RI hIc),.inr (exS5 bk xs es k hk2 (by omega) hs hS hSb hlb RS hSc)⟩
     ·have hr2:(dX fb kb (yW es k).1&&(dX fb kb (yW es k).2.1&&kH fb (yW es k).1 (yW es k).2.1))=false:=by simpa using hr
      have hr3:(fQ (sP bk xs (es.take k)) (yW es k).1&&(fQ (sP bk xs (es.take k)) (yW es k).2.1&&lI (sP bk xs (es.take k)) (yW es k).1 (yW es k).2.1))=false:=by
       rw[ht1,ht2];cases ra:dX fb kb (yW es k).1 with
       |false=>rfl
       |true=>
        cases rb:dX fb kb (yW es k).2.1 with
        |false=>rfl
        |true=>rw[zP twb ra rb];rw[ra,rb]at hr2;exact hr2
      exact⟨[],5,by simp,.inl ⟨rfl,exI3 bk xs es k hk2 (by omega) hI hIb hr2 (hpp _)⟩,.inl ⟨rfl,exS3 bk xs es k hk2 (by omega) hS hSb hlb hr3 hppS⟩⟩
   ·exact⟨[],2,by simp,.inl ⟨rfl,exI2 bk xs es hI (by omega) hk⟩,.inl ⟨rfl,exS2 bk xs es hS (by omega) hk⟩⟩
noncomputable def jT(x0:List aW)(x1:aW)(x2:List aK)(x3:Int):List aK×Int:=
 ((Classical.choose (yZ (x0.map rV) (rV x1) (x2.map SS) x3)).map VG,Classical.choose (Classical.choose_spec (yZ (x0.map rV) (rV x1) (x2.map SS) x3)))
theorem kT(x0:List aW)(x1:aW)(x2:List aK)(x3:Int)(r0:List aK)(r1:Int)(h:(r0,r1)=jT x0 x1 x2 x3):
  ∃es,r0=es.map VG∧es.length≤300∧Jb 15 (Ho (x0.map rV) (rV x1) (x2.map SS) x3) es r1∧Jb 11 (Ho (x0.map rV) (rV x1) (x2.map SS) x3) es r1:=by
 have k:=Classical.choose_spec (Classical.choose_spec (yZ (x0.map rV) (rV x1) (x2.map SS) x3));have h1:r0=(Classical.choose (yZ (x0.map rV) (rV x1) (x2.map SS) x3)).map VG:=congrArg Prod.fst h;have h2:r1=Classical.choose (Classical.choose_spec (yZ (x0.map rV) (rV x1) (x2.map SS) x3)):=congrArg Prod.snd h;subst h2;exact⟨_,h1,k⟩
section
variable (a0:List aW){A0:Option Addr}{c0:Nat}{p0:List Nat}(a1:aW){p1:List Nat}{u1:List Value}(a2:List aK){A2:Option Addr}{c2:Nat}{p2:List Nat}(a3:Int)(r0:List aK)(r1:Int)
theorem xL(hR:(r0,r1)=jT a0 a1 a2 a3)(w:World)(h0:T1 w (.sl a0.length (a0.flatMap aW.enc)) p0 (.slice A0 a0.length c0))(h1:TN w a1.enc p1 u1)(h2:T1 w (.sl a2.length (a2.flatMap aK.enc)) p2 (.slice A2 a2.length c2)):
  Calls Tryz.prog 11 #[.slice A0 a0.length c0,.agg u1.toArray,.slice A2 a2.length c2,.int .i64 a3] w fun e w'=>∃(B0:Option Addr) (d0:Nat) (q0:List Nat),e=.returned (.tuple #[.slice B0 r0.length d0,.int .i64 r1])∧Ext w w'∧T1 w' (.sl r0.length (r0.flatMap aK.enc)) q0 (.slice B0 r0.length d0):=by
 obtain⟨es,rfl,_,_,h⟩:=kT a0 a1 a2 a3 r0 r1 hR;exact(NR (vs:=[.slice A0 a0.length c0,.agg u1.toArray,.slice A2 a2.length c2,.int .i64 a3]) h (fun _=>lW (Jw h0) (lW (NJ h1) (lW (NI h2) (lW (Ju _) Jy))))).mono fun _ _ ⟨B,d,q,k1,k2,k3,_⟩=>⟨B,d,q,k1,k2,k3⟩
theorem oP(hR:(r0,r1)=jT a0 a1 a2 a3)(w:World)(h0:T1 w (.sl a0.length (a0.flatMap aW.enc)) p0 (.slice A0 a0.length c0))(h1:TN w a1.enc p1 u1)(h2:T1 w (.sl a2.length (a2.flatMap aK.enc)) p2 (.slice A2 a2.length c2)):
  Calls Tryz.prog 15 #[.slice A0 a0.length c0,.agg u1.toArray,.slice A2 a2.length c2,.int .i64 a3] w fun e w'=>∃(B0:Option Addr) (d0:Nat) (q0:List Nat),e=.returned (.tuple #[.slice B0 r0.length d0,.int .i64 r1])∧Ext w w'∧T1 w' (.sl r0.length (r0.flatMap aK.enc)) q0 (.slice B0 r0.length d0)∧Own w.heap.size w' (q0):=by
 obtain⟨es,rfl,_,h,_⟩:=kT a0 a1 a2 a3 r0 r1 hR;exact NR (vs:=[.slice A0 a0.length c0,.agg u1.toArray,.slice A2 a2.length c2,.int .i64 a3]) h (fun _=>lW (Jw h0) (lW (NJ h1) (lW (NI h2) (lW (Ju _) Jy))))
theorem vV{Q0 Q1 Q2:Prop}(hR:(r0,r1)=jT a0 a1 a2 a3)(_:Q0)(_:Q1)(_:Q2):cN (r0.flatMap aK.enc)≤1099511627776:=by
 obtain⟨es,rfl,h,_⟩:=kT a0 a1 a2 a3 r0 r1 hR;exact PI (by omega)
end
end Go.Proofs.YtbdimbjclhmeoaaGreat
