
/- The law of deques' order, walked. -/
import Derived.Test.YtjpaeopdljfjpaaShort
import Derived.Test.YtjpaeopdljfjpaaDo
set_option linter.unusedSimpArgs false
set_option linter.unusedVariables false
namespace Go.Tr
open Go Go.RowKit
def kG(xs:List Int)(i:Nat):List Int:=(xs.take i).map (· +1)++xs.drop i
theorem GX(xs:List Int):kG xs xs.length=xs.map (· +1):=by unfold kG;rw[List.take_length,List.drop_length,qS]
theorem mq(xs:List Int)(i:Nat):(kG xs i).length=xs.length:=by unfold kG;simp;omega
theorem FE{xs:List Int}{i:Nat}{v:Int}(h:xs[i]? =some v):elt 0 xs (i:Nat)=v:=by
 unfold elt;rw[qK,qC,h];rfl
theorem Jl{xs:List Int}{i:Nat}(h:i<xs.length):(kG xs i)[i]? =some xs[i]:=by
 unfold kG;rw[qL (by simp;omega)];simp only[qV,List.length_take];rw[show i-min i xs.length=0 by omega,List.drop_eq_getElem_cons h];rfl
theorem Bl{xs:List Int}{i:Nat}(h:i<xs.length):(kG xs i).set i (xs[i]+1)=kG xs (i+1):=by
 unfold kG;rw[List.set_append_right _ _ (by simp;omega)];simp only[qV,List.length_take];rw[show i-min i xs.length=0 by omega,List.drop_eq_getElem_cons h,List.take_succ_eq_append_getElem h,qZ,qF];rfl
theorem GY{xs:List Int}{i:Nat}(h:i<xs.length):(kG xs (i+1))[i]? =some (xs[i]+1):=by
 rw[←Bl h,List.getElem?_set_self (by rw[mq];exact h)]
end Go.Tr
namespace Go.Proofs.Ytjpaeopdljfjpaa
open Go Go.RowKit Go.Proofs Go.Tr
theorem oV.IY{P:Program}{f:Nat}{a b:Int}{xs:List (El (.int .i64))}{ys:List (El gZ)}{s r:SV}(h:oV P f [.agg [.int .i64 a,.int .i64 b,.rsl (.int .i64) xs,.rsl gZ ys,.rsl jy [],.rsl (.int .i64) []],s] r):
  oV P f [.agg [.int .i64 a,.int .i64 b,.rsl (.int .i64) xs,.rsl gZ ys,.raw (.slice none 0 0),.raw (.slice none 0 0)],s] r:=by
 refine⟨h.1,fun β w vs hd=>h.2 β w vs ?_⟩;unfold aF at hd ⊢;obtain⟨v1,vs1,rfl,hd1,hd⟩:=hd;refine⟨v1,vs1,rfl,?_,hd⟩;unfold Den at hd1 ⊢;obtain⟨us,rfl,hd1⟩:=hd1;refine⟨us,rfl,?_⟩;unfold aF at hd1 ⊢;obtain⟨u1,us1,rfl,k1,hd1⟩:=hd1;refine⟨u1,us1,rfl,k1,?_⟩;unfold aF at hd1 ⊢;obtain⟨u2,us2,rfl,k2,hd1⟩:=hd1;refine⟨u2,us2,rfl,k2,?_⟩;unfold aF at hd1 ⊢;obtain⟨u3,us3,rfl,k3,hd1⟩:=hd1;refine⟨u3,us3,rfl,k3,?_⟩;unfold aF at hd1 ⊢;obtain⟨u4,us4,rfl,k4,hd1⟩:=hd1;refine⟨u4,us4,rfl,k4,?_⟩;unfold aF at hd1 ⊢;obtain⟨u5,us5,rfl,k5,hd1⟩:=hd1
 refine⟨u5,us5,rfl,?_,?_⟩
 ·unfold Den at k5 ⊢;obtain⟨rfl,_⟩:=k5;exact⟨[],T1.empty none,by simp⟩
 unfold aF at hd1 ⊢;obtain⟨u6,us6,rfl,k6,hd1⟩:=hd1;refine⟨u6,us6,rfl,?_,hd1⟩;unfold Den at k6 ⊢;obtain⟨rfl,_⟩:=k6;exact⟨[],T1.empty none,by simp⟩
set_option maxHeartbeats 4000000 in
set_option maxRecDepth 100000 in
theorem LV(code:List Int)(hr:∀x∈code,0≤x∧x≤255):iW Try.prog 3 [.rsl pF code] [] (.bool true) []:=by
 refine iW.intro (nt:=164) jv mixed (by kernel_rfl) Try.func3 rfl rfl rfl rfl rfl rfl ?_;refine Or.inl (eI _ (aI (LH code) ?_));refine aI (fun _=> ?_) (fun q0=> ?_)
 ·refine fin [] (aI rfl ?_);exact trivial
 have hb:Bytes code:=⟨by have h0:¬4096<((code.length:Nat):Int):=of_decide_eq_false q0;omega,hr⟩;refine Or.inl (eI _ (aI (F6 code hb 5) ?_));obtain⟨m,hm⟩:∃m:Nat,(pk code ⟨0,0⟩ 5).1=(m:Nat):=⟨(pk code ⟨0,0⟩ 5).1.toNat,by have:=K4 hb ⟨0,0⟩ 5;omega⟩;have hm5:m<5:=by have:=JG hb ⟨0,0⟩ (n:=5) (by omega);omega
 have hw:IntKind.i64.wrap (1+((m:Nat):Int))=((m+1:Nat):Int):=by rw[Hy (by omega)];omega
 have hc:=Ed code hb (m+1) (by omega) 900;rw[←hw,←hm]at hc;have hin:=Gl hb (n:=900) (by omega) (m+1) ⟨0,0⟩;have hlen:=zk code 900 (m+1) ⟨0,0⟩;revert hc hin hlen;generalize EG code 900 (m+1) ⟨0,0⟩=xs;intro hc hin hlen;refine Or.inr (Or.inl (eI _ (eI _ (aI hc ?_))));refine lp Nat (fun i=>[(5,.int .i64 (i:Nat)),(4,.sl 20000)]) (fun i=>[.row 24 2 1 (.int .i64) (kG xs i) [],.row 20000 2 1 (.int .i64) ((xs.take i).map (· +1)) []]) (fun i=>xs.length-i) (fun i=>i≤xs.length) 0 (Nat.zero_le _) ?_ ?_
 ·exact hd [(20000,25)] rfl (aI ⟨rfl,rfl⟩ (aI rfl trivial)) ⟨⟨rfl,nP⟩,⟨rfl,nP⟩,trivial⟩
 intro i hi;refine aI (fun q1=> ?_) (fun q1=> ?_)
 ·have q1':((i:Nat):Int)<((kG xs i).length:Nat):=of_decide_eq_true q1;rw[mq]at q1';have hlt:i<xs.length:=by omega
  have hv:=hin xs[i] (List.getElem_mem hlt);have e1:elt 0 (kG xs i) (i:Nat)=xs[i]:=FE (Jl hlt);have e2:IntKind.i64.wrap (elt 0 (kG xs i) (i:Nat)+1)=xs[i]+1:=by rw[e1,Hy (by omega)]
  have hb1:0≤((i:Nat):Int)∧((i:Nat):Int)<((kG xs i).length:Nat):=by rw[mq];omega
  refine aI hb1 ?_;refine aI hb1 ?_
  have e3:(kG xs i).set ((i:Nat):Int).toNat (IntKind.i64.wrap (elt 0 (kG xs i) (i:Nat)+1))=kG xs (i+1):=by
   rw[e2,qK,Bl hlt]
  refine aI (show 0≤((i:Nat):Int)∧((i:Nat):Int)<(((kG xs i).set ((i:Nat):Int).toNat (IntKind.i64.wrap (elt 0 (kG xs i) (i:Nat)+1))).length:Nat) by rw[e3,mq];omega) ?_;refine aI (show((xs.take i).map (· +1)).length+1≤1073741824 by simp;omega) ?_;refine oL (i+1) hlt ?_ (by show xs.length-(i+1)<xs.length-i;omega);refine hd [(20000,44)] rfl (aI ⟨Bp (by omega),rfl⟩ (aI rfl trivial)) ⟨⟨e3,nP⟩,⟨?_,nP⟩,trivial⟩;show(xs.take i).map (· +1)++[elt 0 ((kG xs i).set ((i:Nat):Int).toNat (IntKind.i64.wrap (elt 0 (kG xs i) (i:Nat)+1))) (i:Nat)]=(xs.take (i+1)).map (· +1)
  rw[e3,FE (GY hlt),List.take_succ_eq_append_getElem hlt,qZ];rfl
 have hge:i=xs.length:=by
  have q1':¬((i:Nat):Int)<((kG xs i).length:Nat):=of_decide_eq_false q1;rw[mq]at q1';omega
 subst hge;obtain⟨ts,hts⟩:∃ts,ts=xs.map (· +1):=⟨_,rfl⟩;have hl5:ts.length=m+1:=by rw[hts,qV,hlen]
 have hti:∀t∈ts,1≤t∧t≤900:=fun t ht=>by
  rw[hts,List.mem_map]at ht;obtain⟨x,hx,rfl⟩:=ht;have:=hin x hx;omega
 have hu:kG xs xs.length=ts:=by rw[GX,hts]
 refine lp Nat (fun i=>[(6,.int .i64 ((ts.length-i:Nat):Int)),(4,.sl 20000)]) (fun i=>[.row 24 2 1 (.int .i64) ts [],.row 20000 2 1 (.int .i64) (ts++List.replicate i 0) []]) (fun i=>ts.length-i) (fun i=>i≤ts.length) 0 (Nat.zero_le _) ?_ ?_
 ·refine hd [] rfl (aI ⟨?_,rfl⟩ (aI rfl trivial)) ⟨⟨hu,nP⟩,⟨?_,nP⟩,trivial⟩
  ·rw[mq,hlen,hl5];rfl
  ·show(xs.take xs.length).map (· +1)=ts++List.replicate 0 0;rw[List.take_length,hts];simp
 intro i hi;refine aI (fun q2=> ?_) (fun q2=> ?_)
 ·have q2':0<((ts.length-i:Nat):Int):=of_decide_eq_true q2;refine aI (show(ts++List.replicate i (0:Int)).length+1≤1073741824 by simp;omega) ?_;refine oL (i+1) (by omega) ?_ (by show ts.length-(i+1)<ts.length-i;omega);refine hd [(20000,53)] rfl (aI ⟨?_,rfl⟩ (aI rfl trivial)) ⟨⟨rfl,nP⟩,⟨?_,nP⟩,trivial⟩
  ·show IntKind.i64.wrap (((ts.length-i:Nat):Int)-1)=_;rw[Hy (by omega)];omega
  ·show(ts++List.replicate i (0:Int))++[0]=ts++List.replicate (i+1) 0;rw[List.replicate_succ',qF]
 have hge:i=ts.length:=by
  have q2':¬0<((ts.length-i:Nat):Int):=of_decide_eq_false q2;omega
 subst hge;have hpos:0<ts.length:=by omega
 have hl5':ts.length≤5:=by omega
 have hok:∀t∈ts,1≤t∧t≤1000:=fun t ht=>by have:=hti t ht;omega
 obtain⟨e1,s1,hr1,ht1⟩:=Em hpos hl5' hok;obtain⟨e2,s2,hr2,ht2⟩:=Ez hl5' hok
 have tb:∀t∈ts,wN t=false:=fun t ht=>by
  have:=hok t ht;unfold wN GL;rw[decide_eq_true this.1,decide_eq_true this.2];cases (t !=0)<;>rfl
 have ob:(ts++List.replicate ts.length (0:Int)).any wN=false:=by
  rw[List.any_eq_false];intro t ht;rcases qT.1 ht with ht|ht
  ·rw[tb t ht];simp
  ·rw[List.eq_of_mem_replicate ht];decide
 have f1:eX Try.prog 9 [.int .i64 8,.sl 10000,.sl 10001] [.row 10000 2 1 (.int .i64) (ts++List.replicate ts.length (0:Int)) [],.row 10001 2 1 (.int .i64) [] []] _ _:=eX.KY (r2:=.tup [.agg [.int .i64 0,.int .i64 0,.sl 10002,.sl 10003,.raw (.slice none 0 0),.raw (.slice none 0 0)],.int .i64 0])
  (ts2:=[.row 10002 2 1 (.int .i64) (List.replicate 8 (0:Int)) [],.row 10003 57 5 gZ ((ts++List.replicate ts.length (0:Int),0,0,0,0)::iJ []) []]) jv [0,0,0] Cc (JD (ts++List.replicate ts.length (0:Int)) [] (by simp;omega) (by simp) ob rfl) rfl rfl rfl
 refine Or.inr (Or.inl (eI _ (eI _ (aI f1 ?_))))
 have g1:iW Try.prog 10 [.agg [.int .i64 0,.int .i64 0,.sl 10000,.sl 10001,.raw (.slice none 0 0),.raw (.slice none 0 0)],.sl 10002] [.row 10000 2 1 (.int .i64) (List.replicate 8 (0:Int)) [],.row 10001 57 5 gZ ((ts++List.replicate ts.length (0:Int),0,0,0,0)::iJ []) [],.row 10002 2 1 (.int .i64) [] []] _ _:=
  oV.g jv [0,0] Ce (oV.IY (yx (wH (ts++List.replicate ts.length (0:Int)) []) [] e1 s1 0 hr1))
 refine Or.inr (Or.inr (eI _ (eI _ (aI g1 ?_))))
 have f2:eX Try.prog 9 [.int .i64 8,.sl 10000,.sl 10001] [.row 10000 2 1 (.int .i64) ts [],.row 10001 2 1 (.int .i64) [((ts.length:Nat):Int)] []] _ _:=eX.KY (r2:=.tup [.agg [.int .i64 0,.int .i64 0,.sl 10002,.sl 10003,.raw (.slice none 0 0),.raw (.slice none 0 0)],.int .i64 0])
  (ts2:=[.row 10002 2 1 (.int .i64) (List.replicate 8 (0:Int)) [],.row 10003 57 5 gZ ((ts,0,0,0,0)::iJ [((ts.length:Nat):Int)]) []]) jv [0,0,0] Cc (JD ts [((ts.length:Nat):Int)] (by omega) (by simp) (by
   rw[List.any_eq_false];intro t ht;rw[tb t ht];simp) (by
   rw[List.any_eq_false];intro t ht;rw[qX.1 ht];unfold mW;rw[decide_eq_false (by omega),decide_eq_false (by omega)];simp)) rfl rfl rfl
 refine Or.inr (Or.inl (eI _ (eI _ (aI f2 ?_))))
 have g2:iW Try.prog 10 [.agg [.int .i64 0,.int .i64 0,.sl 10000,.sl 10001,.raw (.slice none 0 0),.raw (.slice none 0 0)],.sl 10002] [.row 10000 2 1 (.int .i64) (List.replicate 8 (0:Int)) [],.row 10001 57 5 gZ ((ts,0,0,0,0)::iJ [((ts.length:Nat):Int)]) [],.row 10002 2 1 (.int .i64) [] []] _ _:=
  oV.g jv [0,0] Ce (oV.IY (yx (wH ts [idle (List.replicate ts.length (0:Int))]) [] e2 s2 0 hr2))
 refine Or.inr (Or.inr (eI _ (eI _ (aI g2 ?_))));have l1:(e1.taken.map fI).length=ts.length:=by rw[ht1];simp
 have l2:(e2.taken.map fI).length=ts.length:=by rw[ht2];simp
 have a1:∀i,i<ts.length→elt (dflt jy) (e1.taken.map fI) ((i:Nat):Int)=((0:Int),ts.getD (ts.length-1-i) 0):=fun i hi=>by
  unfold elt;rw[qK,ht1,List.map_map,qC,qY,List.getElem?_reverse hi,qB (by omega),qC,qB (by omega)];rfl
 have a2:∀i,i<ts.length→elt (dflt jy) (e2.taken.map fI) ((i:Nat):Int)=((1:Int),ts.getD i 0):=fun i hi=>by
  unfold elt;rw[qK,ht2,List.map_map,qC,qY,qB hi,qC,qB hi];rfl
 refine aI (fun q3=> ?_) (fun _=> ?_)
 ·exfalso;have q3':(bif (bif (bif (bif (bif ((0:Int) !=0)then true else(0:Int) !=0)then true else(0:Int) !=0)then true else(0:Int) !=0)then true else(((e1.taken.map fI).length:Nat):Int) !=(ts.length:Nat))then true else(((e2.taken.map fI).length:Nat):Int) !=(ts.length:Nat))=true:=q3;rw[l1,l2]at q3';simp at q3'
 refine lp Nat (fun i=>[(17,.int .i64 (i:Nat))]) (fun _=>[.row 24 2 1 (.int .i64) ts [],.gG 9 30 (iB qz (sU e1)),.gG 14 30 (iB qz (sU e2))]) (fun i=>ts.length-i) (fun i=>i≤ts.length) 0 (Nat.zero_le _) ?_ ?_
 ·refine hd [] rfl (aI ⟨rfl,rfl⟩ trivial) ⟨⟨rfl,nP⟩,trivial,⟨⟨rfl,rfl⟩,⟨rfl,rfl⟩,rfl,rfl,rfl,rfl,trivial⟩,trivial,⟨⟨rfl,rfl⟩,⟨rfl,rfl⟩,rfl,rfl,rfl,rfl,trivial⟩,trivial⟩
 intro i hi;refine aI (fun q4=> ?_) (fun q4=> ?_)
 ·have q4':((i:Nat):Int)<((ts.length:Nat):Int):=of_decide_eq_true q4;have hlt:i<ts.length:=by omega
  have hw1:IntKind.i64.wrap (IntKind.i64.wrap (((ts.length:Nat):Int)-1)-((i:Nat):Int))=((ts.length-1-i:Nat):Int):=by
   rw[Hy (x:=((ts.length:Nat):Int)-1) (by omega),Hy (by omega)];omega
  have b1:0≤((i:Nat):Int)∧((i:Nat):Int)<(((e1.taken.map fI).length:Nat):Int):=by rw[l1];omega
  have b2:0≤((i:Nat):Int)∧((i:Nat):Int)<(((e2.taken.map fI).length:Nat):Int):=by rw[l2];omega
  refine aI b1 ?_;refine aI (fun _=>b1) ?_;refine aI (fun _=>show 0≤IntKind.i64.wrap (IntKind.i64.wrap (((ts.length:Nat):Int)-1)-((i:Nat):Int))∧IntKind.i64.wrap (IntKind.i64.wrap (((ts.length:Nat):Int)-1)-((i:Nat):Int))<((ts.length:Nat):Int) by rw[hw1];omega) ?_;refine aI (fun _=>b2) ?_;refine aI (fun _=>b2) ?_;refine aI (fun _=>show 0≤((i:Nat):Int)∧((i:Nat):Int)<((ts.length:Nat):Int) by omega) ?_;refine aI (by kernel_rfl) ?_;refine aI (fun q5=> ?_) (fun _=> ?_)
  ·exfalso;have q5':(bif (bif (bif ((elt (dflt jy) (e1.taken.map fI) ((i:Nat):Int)).1 !=0)then true else((elt (dflt jy) (e1.taken.map fI) ((i:Nat):Int)).2 !=elt 0 ts (IntKind.i64.wrap (IntKind.i64.wrap (((ts.length:Nat):Int)-1)-((i:Nat):Int)))))then true else((elt (dflt jy) (e2.taken.map fI) ((i:Nat):Int)).1 !=1))then true else((elt (dflt jy) (e2.taken.map fI) ((i:Nat):Int)).2 !=elt 0 ts ((i:Nat):Int)))=true:=q5;rw[a1 i hlt,a2 i hlt,hw1]at q5';simp[elt]at q5'
  ·refine oL (i+1) (by omega) ?_ (by show ts.length-(i+1)<ts.length-i;omega);refine hd [] rfl (aI ⟨Bp (by omega),rfl⟩ trivial) ⟨⟨rfl,nP⟩,trivial,⟨⟨rfl,rfl⟩,⟨rfl,rfl⟩,rfl,rfl,rfl,rfl,trivial⟩,trivial,⟨⟨rfl,rfl⟩,⟨rfl,rfl⟩,rfl,rfl,rfl,rfl,trivial⟩,trivial⟩
 refine fin [] (aI rfl ?_);exact trivial
theorem LU(code:List Int)(hr:∀x∈code,0≤x∧x≤255):gD Try.prog 3 [.rsl pF code] (.bool true):=(LV code hr).q rfl
end Go.Proofs.Ytjpaeopdljfjpaa
