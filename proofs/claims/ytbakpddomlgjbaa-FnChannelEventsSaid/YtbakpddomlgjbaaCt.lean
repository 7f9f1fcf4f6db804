
/- Channels: the law of events, walked. -/
import Derived.Test.YtbakpddomlgjbaaCs
import Derived.Test.YtbakpddomlgjbaaLb
set_option linter.unusedSimpArgs false
set_option linter.unusedVariables false
namespace Go.Proofs.Ytbakpddomlgjbaa
open Go Go.RowKit Go.Proofs Go.Tr
theorem FP{α:Type}{dd:α}{l:List α}{i:Nat}(hi:i<l.length):elt dd l ((i:Nat):Int)=l[i]:=by
 unfold elt;rw[qC,qK,qB hi];rfl
theorem Io{α:Type}{l:List α}{a b:Nat}(h:a<=b):l.take a<+:l.take b:=by
 refine⟨(l.take b).drop a,?_⟩;have:=List.take_append_drop a (l.take b)
 rwa[List.take_take,Nat.min_eq_left h]at this
set_option maxHeartbeats 8000000 in
set_option maxRecDepth 100000 in
theorem Ma(code:List Int)(hr:∀x∈code,0<=x/\x<=255):bI Try.prog 3 [.rsl iK code] [] (.bool true) []:=by
 refine bI.intro (nt:=146) aC mixed (by kernel_rfl) Try.func3 rfl rfl rfl rfl rfl rfl ?_;refine oZ (Lv code) ?_;refine aI (fun _=> ?_) (fun q0=> ?_)
 .refine fin [] (aI rfl ?_);exact trivial
 have q0':decide ((4096:Int)<(code.length:Nat))=false:=q0;have hbc:Bytes code:=⟨by have:=of_decide_eq_false q0';omega,hr⟩;clear q0 q0';obtain⟨ms,s,h,hG⟩:=Gz hbc;have h2:=h.en;have h3:=h.nm;have h5:=h.m30;have hl:=Dc h;obtain⟨L,hL⟩:∃L,L=evs ms.length s:=⟨_,rfl⟩;have cI:=Ot h;have cS:=Ou h;rw[<-hL]at cI cS hl;refine Or.inr (oY hG ?_);refine Or.inr (oY (bI.fz (au.g cI) (r:=.tup [.rsl bM L,.int .i64 0]) rfl) ?_);refine Or.inr (oY (bI.fz (au.g cS) (r:=.tup [.rsl bM L,.int .i64 0]) rfl) ?_);refine aI (fun q=> ?_) (fun _=> ?_)
 .exfalso;have q':(bif (bif ((0:Int) !=0)then true else((((L.length:Nat):Int)) !=((L.length:Nat):Int)))then true else((0:Int) !=0))=true:=q;simp at q'
 refine lp Nat (fun i=>[(8,.int .i64 (i:Nat))]) (fun _=>[.bQ 3 27 (Er (toN ms s))]) (fun i=>L.length-i) (fun i=>i<=L.length) 0 (Nat.zero_le _) ?_ ?_
 .exact Go.Tr.hd [] rfl (aI (aI rfl rfl) trivial) (aI trivial (aI ah trivial))
 intro i hi;have hi:i<=L.length:=hi;refine aI (fun q1=> ?_) (fun q1=> ?_)
 .have hlt:i<L.length:=sQ q1;have hi3:(0:Int)<=((i:Nat):Int)/\((i:Nat):Int)<(L.length:Nat):=⟨by omega,by omega⟩;refine aI hi3 ?_;refine aI hi3 ?_;refine aI ⟨by kernel_rfl,rfl⟩ ?_;refine aI (by kernel_rfl) ?_;refine aI (fun q=> ?_) (fun _=> ?_)
  .exfalso;have q':(!bX [(elt (dflt bM) L ((i:Nat):Int)).1,(elt (dflt bM) L ((i:Nat):Int)).2] [(elt (dflt bM) L ((i:Nat):Int)).1,(elt (dflt bM) L ((i:Nat):Int)).2])=true:=q;simp[bX]at q'
  refine aI hi3 ?_;obtain⟨ev,hev⟩:∃ev,ev=elt (dflt bM) L ((i:Nat):Int):=⟨_,rfl⟩;have hmem:ev∈evs ms.length s:=by rw[hev,FP hlt,<-hL];exact List.getElem_mem hlt
  have hdo:=OG h hmem;obtain⟨k1,k2,k3,k4⟩:=l8 h (ak _ hmem);obtain⟨s',hs'⟩:∃s',s'=bJ s ev:=⟨_,rfl⟩;rw[<-hs']at hdo k1 k2 k3 k4;subst hev;have g2:=k1.en;have g3:=k1.nm;refine Or.inr (oY (bI.fz (au.g hdo) (r:=.tup [yt (toN ms s'),.int .i64 0]) rfl) ?_);refine aI (by kernel_rfl) ?_;refine oZ (fun _=>Nh k1) ?_;refine oZ (fun _=>mG k1) ?_;refine oZ (fun _=>RQ (ms.take s.e) (ms.take s'.e) (Io k2) (by rw[List.length_take];omega)) ?_;refine aI (fun q=> ?_) (fun _=> ?_)
  .exfalso;have q':(bif (bif (bif (bif (bif ((0:Int) !=0)then true else !true)then true else !true)then true else !true)then true else decide (((s'.b:Nat):Int)<((s.b:Nat):Int)))then true else decide (((s'.n:Nat):Int)<((s.n:Nat):Int)))=true:=q;rw[decide_eq_false (show ¬((s'.b:Nat):Int)<((s.b:Nat):Int) by omega),decide_eq_false (show ¬((s'.n:Nat):Int)<((s.n:Nat):Int) by omega)]at q';simp at q'
  obtain⟨M,hM⟩:∃M,M=kP s' (s'.n-s'.e):=⟨_,rfl⟩;have cM:=Si k1;rw[<-hM]at cM;have hMl:=GK k1;rw[<-hM]at hMl;have hkm:(s'.ks.map (bV ms)).length=s'.ks.length:=qV _;refine Or.inr (oY (bI.fz (au.g cM) (r:=.tup [.rsl (.int .i64) M,.int .i64 0]) rfl) ?_);refine aI (fun q=> ?_) (fun _=> ?_)
  .exfalso;have q':(bif ((0:Int) !=0)then true else(IntKind.i64.wrap (((M.length:Nat):Int)+(((s'.ks.map (bV ms)).length:Nat):Int)) !=IntKind.i64.wrap (((s'.n:Nat):Int)-((s'.e:Nat):Int))))=true:=q;rw[hkm,oJ (by omega),oJ (by omega),show((M.length:Nat):Int)+((s'.ks.length:Nat):Int)=((s'.n:Nat):Int)-((s'.e:Nat):Int) by omega]at q';simp at q'
  refine lp Nat (fun k=>[(13,.int .i64 (k:Nat))]) (fun _=>[.bQ 9 27 (Er (toN ms s')),.bQ 3 27 (Er (toN ms s))]) (fun k=>M.length-k) (fun k=>k<=M.length) 0 (Nat.zero_le _) ?_ ?_
  .exact Go.Tr.hd [] rfl (aI (aI rfl rfl) trivial) (aI trivial (aI ah (aI trivial (aI ah trivial))))
  intro k hk;have hk:k<=M.length:=hk;refine aI (fun q2=> ?_) (fun q2=> ?_)
  .have hklt:k<M.length:=sQ q2;have hk3:(0:Int)<=((k:Nat):Int)/\((k:Nat):Int)<(M.length:Nat):=⟨by omega,by omega⟩;refine lp Nat (fun j=>[(14,.int .i64 (j:Nat))]) (fun _=>[.bQ 9 27 (Er (toN ms s')),.bQ 3 27 (Er (toN ms s))]) (fun j=>s'.ks.length-j) (fun j=>j<=s'.ks.length) 0 (Nat.zero_le _) ?_ ?_
   .exact Go.Tr.hd [] rfl (aI (aI rfl rfl) trivial) (aI trivial (aI ah (aI trivial (aI ah trivial))))
   intro j hj;have hj:j<=s'.ks.length:=hj;refine aI (fun q3=> ?_) (fun q3=> ?_)
   .have hjlt:j<s'.ks.length:=by have:j<(s'.ks.map (bV ms)).length:=sQ q3;omega
    refine aI (show(0:Int)<=((j:Nat):Int)/\((j:Nat):Int)<((s'.ks.map (bV ms)).length:Nat) by omega) ?_;refine aI hk3 ?_;refine aI (by kernel_rfl) ?_;refine aI (fun q4=> ?_) (fun _=> ?_)
    .exfalso;have q5:((elt (dflt aK) (s'.ks.map (bV ms)) ((j:Nat):Int)).2.1==elt (0:Int) M ((k:Nat):Int))=true:=q4;rw[jO hjlt]at q5;have q6:((s'.ks[j]:Nat):Int)=elt (0:Int) M ((k:Nat):Int):=eq_of_beq q5;rw[FP hklt]at q6;refine GL (s:=s') (List.getElem_mem hjlt) (s'.n-s'.e) ?_;rw[<-hM,q6];exact List.getElem_mem hklt
    refine aF (j+1) hjlt ?_ (by show s'.ks.length-(j+1)<s'.ks.length-j;omega);exact Go.Tr.hd [] rfl (aI (aI (iM (by have:=jP k1;omega)) rfl) trivial) (aI trivial (aI ah (aI trivial (aI ah trivial))))
   .refine aF (k+1) hklt ?_ (by show M.length-(k+1)<M.length-k;omega);exact Go.Tr.hd [] rfl (aI (aI (iM (by omega)) rfl) trivial) (aI trivial (aI ah (aI trivial (aI ah trivial))))
  .refine aF (i+1) hlt ?_ (by show L.length-(i+1)<L.length-i;omega);exact Go.Tr.hd [] rfl (aI (aI (iM (by omega)) rfl) trivial) (aI trivial (aI ah trivial))
 .refine fin [] (aI rfl ?_);exact trivial
theorem RO(code:List Int)(hr:∀x∈code,0<=x/\x<=255):aB Try.prog 3 [.rsl iK code] (.bool true):=(Ma code hr).q rfl
end Go.Proofs.Ytbakpddomlgjbaa
