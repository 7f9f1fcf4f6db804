
/- Channels: whether a channel is valid; the reference. -/
import Derived.Test.YtbakpddomlgjbaaCc
set_option maxRecDepth 100000
set_option linter.unusedSimpArgs false
set_option linter.unusedVariables false
namespace Go.Proofs.Ytbakpddomlgjbaa
open Go Go.RowKit Go.Proofs Go.Tr
theorem sU:aU Try.prog 25=true:=by kernel_rfl
section
variable {ms:List ByteArray}{s:eB}
theorem TT(hm:s.n<=ms.length)(h30:ms.length<=30)(p:Bool×Nat)(hp:Bq s p):aB Try.prog 55 [.rp eZ (toN ms s),.rp aK (bC ms p)] (.bool true):=by
 refine aB.intro (nt:=52) aC mixed (by kernel_rfl) Try.func55 rfl rfl rfl rfl rfl ?_;obtain⟨a,k⟩:=p;cases a with
 |true=>
  have hk:k<=s.e:=hp.1 rfl;refine aI (fun _=> ?_) (fun q=>by cases q);refine oZ (EB _ _ _) ?_;refine aI (by kernel_rfl) ?_;show(bif decide ((0:Int)<=(k:Nat)/\((k:Nat):Int)<=(s.e:Nat))then decide (jY=jY)else false)=true;have h1:(0:Int)<=(k:Nat)/\((k:Nat):Int)<=(s.e:Nat):=by omega
  rw[decide_eq_true h1,decide_eq_true rfl];rfl
 |false=>
  have hk:k<s.n:=hp.2 rfl;refine aI (fun q=>by cases q) (fun _=> ?_);refine oZ (EB _ _ _) ?_;refine aI (fun _=> ?_) ?_
  .exact⟨by show(0:Int)<=(k:Nat);omega,by show((k:Nat):Int)<(ms.length:Nat);omega⟩
  refine aI (by kernel_rfl) ?_;show(bif decide ((0:Int)<=(k:Nat)/\((k:Nat):Int)<=IntKind.i64.wrap (((s.n:Nat):Int)-1))then decide (txt ms k=txt ms k)else false)=true;rw[oJ (by omega)];have h1:(0:Int)<=(k:Nat)/\((k:Nat):Int)<=(s.n:Nat)-1:=by omega
  rw[decide_eq_true h1,decide_eq_true rfl];rfl
theorem RV(h:aW ms s){i:Nat}(hi:i<s.ks.length):aB Try.prog 55 [.rp eZ (toN ms s),.rp aK (elt (dflt aK) (s.ks.map (bV ms)) ((i:Nat):Int))] (.bool true):=by
 rw[jO hi];exact TT h.nm h.m30 (false,s.ks[i]) ⟨fun q=>(by cases q),fun _=>(h.ks2 _ (List.getElem_mem hi)).2⟩
theorem RX(h:aW ms s){i:Nat}(hi:i<s.fl.length):aB Try.prog 55 [.rp eZ (toN ms s),.rp aK (elt (dflt aK) (s.fl.map (bC ms)) ((i:Nat):Int))] (.bool true):=by
 rw[uY hi];exact TT h.nm h.m30 _ (h.flk _ (List.getElem_mem hi))
theorem JQ(h:aW ms s){i:Nat}(hi:i<ms.length):(elt (dflt .str) ms ((i:Nat):Int)).size<=40:=by
 refine h.m40 _ ?_;unfold elt;rw[qC,qK,qB hi];exact List.getElem_mem hi
theorem Jl{i:Nat}(hi:i<s.e):elt (dflt .str) (ms.take s.e) ((i:Nat):Int)=elt (dflt .str) ms ((i:Nat):Int):=by
 unfold elt;rw[qC,qC,qK,List.getElem?_take,if_pos hi]
set_option maxHeartbeats 4000000 in
theorem vk(h:aW ms s):aB Try.prog 25 [.rp eZ (toN ms s)] (.bool true):=by
 have h1:=h.be;have h2:=h.en;have h3:=h.nm;have h4:=h.nw;have h5:=h.m30;have h6:=h.w8;have h7:=h.w1;have h8:=h.fl60;have hk30:s.ks.length<=30:=jP h;have hkl:(s.ks.map (bV ms)).length=s.ks.length:=qV _;have hfl:(s.fl.map (bC ms)).length=s.fl.length:=qV _;have hdl:(ms.take s.e).length=s.e:=by rw[List.length_take];omega
 refine aB.intro (nt:=194) aC mixed sU Try.func25 rfl rfl rfl rfl rfl ?_;refine oZ (EB _ _ _) ?_;refine oZ (fun _=>EB _ _ _) ?_;refine oZ (fun _=>EB _ _ _) ?_;refine oZ (fun _=>EB _ _ _) ?_;refine aI (by kernel_rfl) ?_;refine aI (fun q=> ?_) (fun _=> ?_)
 .exfalso;have q2:(bif (bif (bif (bif (bif (bif (!decide ((1:Int)<=(s.w:Nat)/\((s.w:Nat):Int)<=8))then true else decide ((30:Int)<(ms.length:Nat)))then true else(!decide ((0:Int)<=(s.b:Nat)/\((s.b:Nat):Int)<=(ms.length:Nat))))then true else(!decide (((s.b:Nat):Int)<=(s.n:Nat)/\((s.n:Nat):Int)<=(ms.length:Nat))))then true else decide (((s.w:Nat):Int)<IntKind.i64.wrap (((s.n:Nat):Int)-((s.b:Nat):Int))))then true else(!decide (((s.b:Nat):Int)<=(s.e:Nat)/\((s.e:Nat):Int)<=(s.n:Nat))))then true else decide ((60:Int)<((s.fl.map (bC ms)).length:Nat)))=true:=q
  rw[oJ (by omega),hfl,decide_eq_true (show(1:Int)<=(s.w:Nat)/\((s.w:Nat):Int)<=8 by omega),decide_eq_false (show ¬(30:Int)<(ms.length:Nat) by omega),decide_eq_true (show(0:Int)<=(s.b:Nat)/\((s.b:Nat):Int)<=(ms.length:Nat) by omega),decide_eq_true (show((s.b:Nat):Int)<=(s.n:Nat)/\((s.n:Nat):Int)<=(ms.length:Nat) by omega),decide_eq_false (show ¬((s.w:Nat):Int)<((s.n:Nat):Int)-((s.b:Nat):Int) by omega),decide_eq_true (show((s.b:Nat):Int)<=(s.e:Nat)/\((s.e:Nat):Int)<=(s.n:Nat) by omega),decide_eq_false (show ¬(60:Int)<(s.fl.length:Nat) by omega)]at q2
  cases q2
 refine lp Nat (fun i=>[(4,.int .i64 (i:Nat))]) (fun _=>[]) (fun i=>ms.length-i) (fun i=>i<=ms.length) 0 (Nat.zero_le _) ?_ ?_
 .exact Go.Tr.hd [] rfl (aI (aI rfl rfl) trivial) trivial
 intro i hi;refine aI (fun q1=> ?_) (fun q1=> ?_)
 .have hlt:i<ms.length:=sQ q1;have hsz:=JQ h hlt;refine aI (show(0:Int)<=((i:Nat):Int)/\((i:Nat):Int)<(ms.length:Nat) by omega) ?_;refine aI (fun q2=> ?_) (fun _=> ?_)
  .exfalso;have q3:decide ((40:Int)<((elt (dflt .str) ms ((i:Nat):Int)).size:Nat))=true:=q2;rw[decide_eq_false (by omega)]at q3;cases q3
  refine aF (i+1) hlt ?_ (by show ms.length-(i+1)<ms.length-i;omega);exact Go.Tr.hd [] rfl (aI (aI (iM (by omega)) rfl) trivial) trivial
 refine aI (by kernel_rfl) ?_;refine aI (fun q=> ?_) (fun _=> ?_)
 .exfalso;have q2:((((ms.take s.e).length:Nat):Int) !=((s.e:Nat):Int))=true:=q;rw[hdl]at q2;simp at q2
 clear q1 hi;refine lp Nat (fun i=>[(5,.int .i64 (i:Nat))]) (fun _=>[]) (fun i=>s.e-i) (fun i=>i<=s.e) 0 (Nat.zero_le _) ?_ ?_
 .exact Go.Tr.hd [] rfl (aI (aI rfl rfl) trivial) trivial
 intro i hi;refine aI (fun q1=> ?_) (fun q1=> ?_)
 .have hlt:i<s.e:=by have:i<(ms.take s.e).length:=sQ q1;omega
  refine aI (show(0:Int)<=((i:Nat):Int)/\((i:Nat):Int)<((ms.take s.e).length:Nat) by omega) ?_;refine aI (show(0:Int)<=((i:Nat):Int)/\((i:Nat):Int)<(ms.length:Nat) by omega) ?_;refine aI (by kernel_rfl) ?_;refine aI (fun q2=> ?_) (fun _=> ?_)
  .exfalso;have q3:(!decide (elt (dflt .str) (ms.take s.e) ((i:Nat):Int)=elt (dflt .str) ms ((i:Nat):Int)))=true:=q2;rw[Jl hlt,decide_eq_true rfl]at q3;cases q3
  refine aF (i+1) hlt ?_ (by show s.e-(i+1)<s.e-i;omega);exact Go.Tr.hd [] rfl (aI (aI (iM (by omega)) rfl) trivial) trivial
 clear q1 hi;refine lp Nat (fun i=>[(7,.int .i64 (i:Nat)),(6,.int .i64 (nM s i:Nat))]) (fun _=>[]) (fun i=>s.ks.length-i) (fun i=>i<=s.ks.length) 0 (Nat.zero_le _) ?_ ?_
 .exact Go.Tr.hd [] rfl (aI (aI rfl rfl) (aI (aI rfl rfl) trivial)) trivial
 intro i hi;refine aI (fun q1=> ?_) (fun q1=> ?_)
 .have hlt:i<s.ks.length:=by have:i<(s.ks.map (bV ms)).length:=sQ q1;omega
  have he:=jO (ms:=ms) hlt;have hl:=Au h hlt;refine aI (show(0:Int)<=((i:Nat):Int)/\((i:Nat):Int)<((s.ks.map (bV ms)).length:Nat) by omega) ?_;refine oZ (fun _=>RV h hlt) ?_;refine aI (fun q=> ?_) (fun _=> ?_)
  .exfalso;have q2:(bif (bif (elt (dflt aK) (s.ks.map (bV ms)) ((i:Nat):Int)).1 then true else decide ((elt (dflt aK) (s.ks.map (bV ms)) ((i:Nat):Int)).2.1<=((nM s i:Nat):Int)))then true else !true)=true:=q;rw[he]at q2;have q3:(bif decide (((s.ks[i]:Nat):Int)<=((nM s i:Nat):Int))then true else false)=true:=q2;rw[decide_eq_false (by omega)]at q3;cases q3
  refine aF (i+1) hlt ?_ (by show s.ks.length-(i+1)<s.ks.length-i;omega);refine Go.Tr.hd [] rfl (aI (aI (iM (by omega)) rfl) (aI (aI ?_ rfl) trivial)) trivial;show(elt (dflt aK) (s.ks.map (bV ms)) ((i:Nat):Int)).2.1=((s.ks.getD i 0:Nat):Int);rw[he,qC,qB hlt];rfl
 clear q1 hi;refine lp Nat (fun i=>[(9,.int .i64 (i:Nat))]) (fun _=>[]) (fun i=>s.fl.length-i) (fun i=>i<=s.fl.length) 0 (Nat.zero_le _) ?_ ?_
 .exact Go.Tr.hd [] rfl (aI (aI rfl rfl) trivial) trivial
 intro i hi;refine aI (fun q1=> ?_) (fun q1=> ?_)
 .have hlt:i<s.fl.length:=by have:i<(s.fl.map (bC ms)).length:=sQ q1;omega
  refine aI (show(0:Int)<=((i:Nat):Int)/\((i:Nat):Int)<((s.fl.map (bC ms)).length:Nat) by omega) ?_;refine oZ (RX h hlt) ?_;refine aI (fun q=>by cases q) (fun _=> ?_);refine aF (i+1) hlt ?_ (by show s.fl.length-(i+1)<s.fl.length-i;omega);exact Go.Tr.hd [] rfl (aI (aI (iM (by omega)) rfl) trivial) trivial
 exact rfl
def GX(w:Int)(ms:List ByteArray):w9:=(w,ms,0,0,0,[],[],[])
def pQ(w:Int)(ms:List ByteArray):Prop:=(1<=w/\w<=8)/\ms.length<=30/\∀m∈ms,m.size<=40
theorem Dz{w:Int}(h:pQ w ms):aW ms ⟨w.toNat,0,0,0,[],[]⟩/\GX w ms=toN ms ⟨w.toNat,0,0,0,[],[]⟩:=by
 obtain⟨h1,h2,h3⟩:=h;refine⟨⟨by show 1<=w.toNat;omega,by show w.toNat<=8;omega,h2,h3,Nat.le_refl _,Nat.le_refl _,Nat.zero_le _,Nat.zero_le _,.nil,by simp,by simp,by simp⟩,?_⟩;have:((w.toNat:Nat):Int)=w:=by omega
 unfold GX toN;rw[this];rfl
set_option maxHeartbeats 4000000 in
theorem Mv{w:Int}(hl:ms.length<=1000000)(h:¬pQ w ms):aB Try.prog 25 [.rp eZ (GX w ms)] (.bool false):=by
 refine aB.intro (nt:=194) aC mixed sU Try.func25 rfl rfl rfl rfl rfl ?_;refine oZ (EB _ _ _) ?_;refine oZ (fun _=>EB _ _ _) ?_;refine oZ (fun _=>EB _ _ _) ?_;refine oZ (fun _=>EB _ _ _) ?_;refine aI (by kernel_rfl) ?_;refine aI (fun _=>rfl) (fun q=> ?_);have q2:(bif (bif (bif (bif (bif (bif (!decide ((1:Int)<=w/\w<=8))then true else decide ((30:Int)<(ms.length:Nat)))then true else(!decide ((0:Int)<=0/\(0:Int)<=(ms.length:Nat))))then true else(!decide ((0:Int)<=0/\(0:Int)<=(ms.length:Nat))))then true else decide (w<IntKind.i64.wrap ((0:Int)-0)))then true else(!decide ((0:Int)<=0/\(0:Int)<=0)))then true else decide ((60:Int)<(0:Nat)))=false:=q
 have hw:1<=w/\w<=8:=by
  by_cases hw:1<=w/\w<=8
  .exact hw
  .rw[decide_eq_false hw]at q2;cases q2
 have hm:ms.length<=30:=by
  by_cases hm:(30:Int)<(ms.length:Nat)
  .rw[decide_eq_true hw,decide_eq_true hm]at q2;cases q2
  .omega
 have hb:∃m∈ms,¬m.size<=40:=by
  by_cases hb:∃m∈ms,¬m.size<=40
  .exact hb
  .exact absurd ⟨hw,hm,fun m hmm=>by
    by_cases hs:m.size<=40
    .exact hs
    .exact absurd ⟨m,hmm,hs⟩ hb⟩ h
 refine lp Nat (fun i=>[(4,.int .i64 (i:Nat))]) (fun _=>[]) (fun i=>ms.length-i) (fun i=>i<=ms.length/\∀m∈ms.take i,m.size<=40) 0 ⟨Nat.zero_le _,by simp⟩ ?_ ?_
 .exact Go.Tr.hd [] rfl (aI (aI rfl rfl) trivial) trivial
 rintro i ⟨hi,hI⟩;have hi':i<=ms.length:=hi;have hI':∀m∈ms.take i,m.size<=40:=hI;refine aI (fun q1=> ?_) (fun q1=> ?_)
 .have hlt:i<ms.length:=sQ q1;refine aI (show(0:Int)<=((i:Nat):Int)/\((i:Nat):Int)<(ms.length:Nat) by omega) ?_;refine aI (fun _=>rfl) (fun q2=> ?_);have q3:decide ((40:Int)<((elt (dflt .str) ms ((i:Nat):Int)).size:Nat))=false:=q2
  have he:elt (dflt .str) ms ((i:Nat):Int)=ms[i]:=by
   unfold elt;rw[qC,qK,qB hlt];rfl
  have q4:=of_decide_eq_false q3;rw[he]at q4;refine aF (i+1) ⟨hlt,?_⟩ ?_ (by show ms.length-(i+1)<ms.length-i;omega)
  .intro m hm2;rw[List.take_succ_eq_append_getElem hlt]at hm2;rcases qT.1 hm2 with hm2|hm2
   .exact hI' m hm2
   .rw[qX.1 hm2];omega
  .exact Go.Tr.hd [] rfl (aI (aI (iM (by omega)) rfl) trivial) trivial
 .exfalso;have hge:ms.length<=i:=Gf q1;rw[qN hge]at hI';obtain⟨m,h1,h2⟩:=hb;exact h2 (hI' m h1)
end
end Go.Proofs.Ytbakpddomlgjbaa
