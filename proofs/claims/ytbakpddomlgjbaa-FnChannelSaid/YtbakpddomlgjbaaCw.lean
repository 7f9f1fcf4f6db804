
/- Channels: runs to the end, both sides; comparing channels; a law's schedule. -/
import Derived.Test.YtbakpddomlgjbaaCv
set_option maxRecDepth 100000
set_option linter.unusedSimpArgs false
set_option linter.unusedVariables false
namespace Go.Proofs.Ytbakpddomlgjbaa
open Go Go.RowKit Go.Proofs Go.Tr
theorem G6:aU Try.prog 38=true:=by kernel_rfl
def iy(m:Nat):Nat->eB->eB
 |0,s=>s
 |t+1,s=>bJ (iy m t s) (qx m (iy m t s))
theorem ze(m:Nat)(s:eB):∀t,iy m t s=Ar m t s
 |0=>rfl
 |t+1=>by rw[Gy,<-ze m s t];rfl
section
variable {ms:List ByteArray}{s:eB}
theorem Es(h:aW ms s):∃T,T<=2*s.fl.length+3*ms.length/\(iy ms.length T s).b=ms.length/\(∀i,i<T->(iy ms.length i s).b≠ms.length)/\∀i,i<=T->aW ms (iy ms.length i s):=by
 obtain⟨T,h1,h2,h3,h4⟩:=FM h;exact⟨T,h1,by rw[ze];exact h2,fun i hi=>by rw[ze];exact h3 i hi,fun i hi=>by rw[ze];exact h4 i hi⟩
theorem KJ(ms:List ByteArray)(s:eB):aB Try.prog 48 [.rp eZ (toN ms s)] (.bool (decide (s.b=ms.length))):=by
 refine aB.intro (nt:=13) aC mixed G7 Try.func48 rfl rfl rfl rfl rfl ?_;refine aI (by kernel_rfl) ?_;show(((s.b:Nat):Int)==((ms.length:Nat):Int))=decide (s.b=ms.length)
 by_cases h:s.b=ms.length
 .rw[decide_eq_true h,h];simp
 .rw[decide_eq_false h];exact beq_false_of_ne (by omega)
theorem OH(ms:List ByteArray)(s:eB):aB Try.prog 50 [.rp eZ (toN ms s)] (.bool (decide (s.b=ms.length))):=by
 refine aB.intro (nt:=13) aC mixed KV Try.func50 rfl rfl rfl rfl rfl ?_;refine aI (by kernel_rfl) ?_;show(((s.b:Nat):Int)==((ms.length:Nat):Int))=decide (s.b=ms.length)
 by_cases h:s.b=ms.length
 .rw[decide_eq_true h,h];simp
 .rw[decide_eq_false h];exact beq_false_of_ne (by omega)
theorem Pm(h:aW ms s):aB Try.prog 51 [.rp eZ (toN ms s)] (.agg [.int .i64 (qx ms.length s).1,.int .i64 (qx ms.length s).2]):=by
 have hfl:=xH (ms:=ms) (s:=s);refine aB.intro (nt:=14) aC mixed KW Try.func51 rfl rfl rfl rfl rfl ?_;refine aI (fun q=> ?_) (fun q=> ?_)
 .have q':decide ((0:Int)<((s.fl.map (bC ms)).length:Nat))=true:=q;have hp:0<s.fl.length:=by have:=of_decide_eq_true q';omega
  have e:qx ms.length s=(3,0):=by unfold qx;rw[if_pos hp]
  rw[e];exact rfl
 .have q':decide ((0:Int)<((s.fl.map (bC ms)).length:Nat))=false:=q;have hp:¬0<s.fl.length:=by have:=of_decide_eq_false q';omega
  refine oZ (CV h) ?_;refine aI (fun q2=> ?_) (fun q2=> ?_)
  .have q2:iU ms.length s=true:=q2;have e:qx ms.length s=(1,0):=by unfold qx;rw[if_neg hp,if_pos q2]
   rw[e];exact rfl
  .have q2:iU ms.length s=false:=q2;have e:qx ms.length s=(2,0):=by unfold qx;rw[if_neg hp,if_neg (by rw[q2];decide)]
   rw[e];exact rfl
theorem LY(ms:List ByteArray)(s:eB):au Try.prog 48 [.ptr 10000 0] (tI 10002 10003 10004 ms s) (.bool (decide (s.b=ms.length))) (tI 10002 10003 10004 ms s):=au.mo aC [55] G7 (KJ ms s) rfl
theorem Jg(h:aW ms s):au Try.prog 49 [.ptr 10000 0] (tI 10002 10003 10004 ms s) (.bool (iU ms.length s)) (tI 10002 10003 10004 ms s):=au.mo aC [55] G5 (CU h) rfl
theorem LZ(ms:List ByteArray)(s:eB):au Try.prog 50 [.ptr 10000 0] (tS 10002 10003 10004 ms s) (.bool (decide (s.b=ms.length))) (tS 10002 10003 10004 ms s):=au.mo aC [55] KV (OH ms s) rfl
theorem MG(h:aW ms s):au Try.prog 51 [.ptr 10000 0] (tS 10002 10003 10004 ms s) (.agg [.int .i64 (qx ms.length s).1,.int .i64 (qx ms.length s).2]) (tS 10002 10003 10004 ms s):=au.mo aC [55] KW (Pm h) rfl
set_option maxHeartbeats 4000000 in
theorem L6(h:aW ms s)(T:Nat)(hT:T<=1000)(hb:(iy ms.length T s).b=ms.length)(hn:∀i,i<T->(iy ms.length i s).b≠ms.length)(hok:∀i,i<=T->aW ms (iy ms.length i s)):au Try.prog 19 [yt (toN ms s),.int .i64 2000] [] (.tup [.agg (oO 10000 10001 10002 10003 ms (iy ms.length T s)),.int .i64 (T:Nat),.int .i64 0]) [rT 10000 ms,rP 10001 ((iy ms.length T s).ks.map (bV ms)),rT 10002 (ms.take (iy ms.length T s).e),rP 10003 ((iy ms.length T s).fl.map (bC ms))]:=by
 refine au.intro (nt:=45) aC mixed (by kernel_rfl) Try.func19 rfl rfl rfl rfl rfl rfl ?_;refine oZ (mG h) ?_;refine aI (fun q=>by cases q) (fun _=> ?_);refine oZ (Ow 2000 (by omega)) ?_;refine aI (fun q=>by cases q) (fun _=> ?_);refine oY (CW h) ?_;refine lp Nat (fun i=>[(8,.int .i64 (i:Nat))]) (fun i=>[.bQ 7 27 (oO 20000 20001 20002 20003 ms (iy ms.length i s)),rT 20000 ms,rK 20001 ((iy ms.length i s).ks.map (bV ms)),rT 20002 (ms.take (iy ms.length i s).e),rP 20003 ((iy ms.length i s).fl.map (bC ms)),.bQ 4 27 Bt]) (fun i=>T-i) (fun i=>i<=T) 0 (Nat.zero_le _) ?_ ?_
 .refine Go.Tr.hd [(20000,20),(20001,1000020),(20002,2000020),(20003,3000020)] rfl (aI ⟨rfl,rfl⟩ trivial) ?_;exact⟨trivial,ah,⟨rfl,nP⟩,rfl,⟨rfl,nP⟩,⟨rfl,nP⟩,trivial,ah,trivial⟩
 intro i hi;have hi:i<=T:=hi;have hx:=hok i hi;have hfl:=xH (ms:=ms) (s:=(iy ms.length i s));refine oY (LY ms (iy ms.length i s)) ?_;refine aI (fun q1=> ?_) (fun q1=> ?_)
 .have q2:(!decide ((iy ms.length i s).b=ms.length))=true:=q1;have hnb:(iy ms.length i s).b≠ms.length:=by simpa using q2
  have hlt:i<T:=by
   rcases Nat.lt_or_ge i T with h1|h1
   .exact h1
   .have:i=T:=by omega
    subst this;exact absurd hb hnb
  refine aI (fun q3=> ?_) (fun _=> ?_)
  .exfalso;have q4:(((i:Nat):Int)==2000)=true:=q3;have:=eq_of_beq q4;omega
  have hev:=GZ hx hnb;refine aI (fun q3=> ?_) (fun q3=> ?_)
  .have q4:decide ((0:Int)<(((iy ms.length i s).fl.map (bC ms)).length:Nat))=true:=q3;have hp:0<(iy ms.length i s).fl.length:=by have:=of_decide_eq_true q4;omega
   have e:qx ms.length (iy ms.length i s)=(3,0):=by unfold qx;rw[if_pos hp]
   have hE:iy ms.length (i+1) s=bJ (iy ms.length i s) (3,0):=by show bJ _ (qx _ _)=_;rw[e]
   rw[e]at hev;have hh:=Gm hx hev;rw[<-hE]at hh;refine oY hh ?_;refine aF (i+1) hlt ?_ (by show T-(i+1)<T-i;omega);refine Go.Tr.hd [(20001,37),(20002,1000037),(20003,2000037)] rfl (aI ⟨iM (by omega),rfl⟩ trivial) ?_;exact⟨trivial,ah,⟨rfl,nP⟩,rfl,⟨rfl,nP⟩,⟨rfl,nP⟩,trivial,ah,trivial⟩
  .have q4:decide ((0:Int)<(((iy ms.length i s).fl.map (bC ms)).length:Nat))=false:=q3;have hp:¬0<(iy ms.length i s).fl.length:=by have:=of_decide_eq_false q4;omega
   refine oY (Jg hx) ?_;refine aI (fun q5=> ?_) (fun q5=> ?_)
   .have q5:iU ms.length (iy ms.length i s)=true:=q5;have e:qx ms.length (iy ms.length i s)=(1,0):=by unfold qx;rw[if_neg hp,if_pos q5]
    have hE:iy ms.length (i+1) s=bJ (iy ms.length i s) (1,0):=by show bJ _ (qx _ _)=_;rw[e]
    rw[e]at hev;have hh:=Gm hx hev;rw[<-hE]at hh;refine oY hh ?_;refine aF (i+1) hlt ?_ (by show T-(i+1)<T-i;omega);refine Go.Tr.hd [(20001,41),(20002,1000041),(20003,2000041)] rfl (aI ⟨iM (by omega),rfl⟩ trivial) ?_;exact⟨trivial,ah,⟨rfl,nP⟩,rfl,⟨rfl,nP⟩,⟨rfl,nP⟩,trivial,ah,trivial⟩
   .have q5:iU ms.length (iy ms.length i s)=false:=q5;have e:qx ms.length (iy ms.length i s)=(2,0):=by unfold qx;rw[if_neg hp,if_neg (by rw[q5];decide)]
    have hE:iy ms.length (i+1) s=bJ (iy ms.length i s) (2,0):=by show bJ _ (qx _ _)=_;rw[e]
    rw[e]at hev;have hh:=Gm hx hev;rw[<-hE]at hh;refine oY hh ?_;refine aF (i+1) hlt ?_ (by show T-(i+1)<T-i;omega);refine Go.Tr.hd [(20001,30),(20002,1000030),(20003,2000030)] rfl (aI ⟨iM (by omega),rfl⟩ trivial) ?_;exact⟨trivial,ah,⟨rfl,nP⟩,rfl,⟨rfl,nP⟩,⟨rfl,nP⟩,trivial,ah,trivial⟩
 .have q2:(!decide ((iy ms.length i s).b=ms.length))=false:=q1;have hbb:(iy ms.length i s).b=ms.length:=by simpa using q2
  have hiT:i=T:=by
   rcases Nat.lt_or_ge i T with h1|h1
   .exact absurd hbb (hn i h1)
   .omega
  subst hiT;refine oY (lZ hx) ?_;refine fin [(10000,43),(10001,1000043),(10002,2000043),(10003,3000043)] (aI rfl ?_);exact⟨⟨rfl,nP⟩,⟨rfl,nP⟩,⟨rfl,nP⟩,⟨rfl,nP⟩,trivial⟩
set_option maxHeartbeats 4000000 in
theorem L8(h:aW ms s)(T:Nat)(hT:T<=1000)(hb:(iy ms.length T s).b=ms.length)(hn:∀i,i<T->(iy ms.length i s).b≠ms.length)(hok:∀i,i<=T->aW ms (iy ms.length i s)):au Try.prog 20 [yt (toN ms s),.int .i64 2000] [] (.tup [.agg (oO 10000 10001 10002 10003 ms (iy ms.length T s)),.int .i64 (T:Nat),.int .i64 0]) [rT 10000 ms,rP 10001 ((iy ms.length T s).ks.map (bV ms)),rT 10002 (ms.take (iy ms.length T s).e),rP 10003 ((iy ms.length T s).fl.map (bC ms))]:=by
 refine au.intro (nt:=29) aC mixed (by kernel_rfl) Try.func20 rfl rfl rfl rfl rfl rfl ?_;refine oY (au.mo aC [55] sU (vk h) rfl) ?_;refine aI (fun q=>by cases q) (fun _=> ?_);refine oZ (EB _ _ _) ?_;refine aI (fun q=>absurd (show(!decide ((0:Int)<=2000/\(2000:Int)<=2000))=true from q) (by decide)) (fun _=> ?_);refine oY (Dt h) ?_;refine lp Nat (fun i=>[(8,.int .i64 (i:Nat))]) (fun i=>[.bQ 7 27 (oO 20000 20001 20002 20003 ms (iy ms.length i s)),rT 20000 ms,rP 20001 ((iy ms.length i s).ks.map (bV ms)),rT 20002 (ms.take (iy ms.length i s).e),rP 20003 ((iy ms.length i s).fl.map (bC ms)),.bQ 4 27 Bt]) (fun i=>T-i) (fun i=>i<=T) 0 (Nat.zero_le _) ?_ ?_
 .refine Go.Tr.hd [(20000,16),(20001,1000016),(20002,2000016),(20003,3000016)] rfl (aI ⟨rfl,rfl⟩ trivial) ?_;exact⟨trivial,ah,⟨rfl,nP⟩,⟨rfl,nP⟩,⟨rfl,nP⟩,⟨rfl,nP⟩,trivial,ah,trivial⟩
 intro i hi;have hi:i<=T:=hi;have hx:=hok i hi;refine oY (LZ ms (iy ms.length i s)) ?_;refine aI (fun q1=> ?_) (fun q1=> ?_)
 .have q2:(!decide ((iy ms.length i s).b=ms.length))=true:=q1;have hnb:(iy ms.length i s).b≠ms.length:=by simpa using q2
  have hlt:i<T:=by
   rcases Nat.lt_or_ge i T with h1|h1
   .exact h1
   .have:i=T:=by omega
    subst this;exact absurd hb hnb
  refine aI (fun q3=> ?_) (fun _=> ?_)
  .exfalso;have q4:(((i:Nat):Int)==2000)=true:=q3;have:=eq_of_beq q4;omega
  have hev:=GZ hx hnb;refine oY (MG hx) ?_;refine oY (xB hx hev) ?_;refine aF (i+1) hlt ?_ (by show T-(i+1)<T-i;omega);refine Go.Tr.hd [(20001,24),(20002,1000024),(20003,2000024)] rfl (aI ⟨iM (by omega),rfl⟩ trivial) ?_;exact⟨trivial,ah,⟨rfl,nP⟩,⟨rfl,nP⟩,⟨rfl,nP⟩,⟨rfl,nP⟩,trivial,ah,trivial⟩
 .have q2:(!decide ((iy ms.length i s).b=ms.length))=false:=q1;have hbb:(iy ms.length i s).b=ms.length:=by simpa using q2
  have hiT:i=T:=by
   rcases Nat.lt_or_ge i T with h1|h1
   .exact absurd hbb (hn i h1)
   .omega
  subst hiT;refine fin [(10000,20000),(10001,20001),(10002,20002),(10003,20003)] (aI rfl ?_);exact⟨⟨rfl,nP⟩,⟨rfl,nP⟩,⟨rfl,nP⟩,⟨rfl,nP⟩,trivial⟩
theorem Ur(m:List ByteArray)(hl:m.length<=1000000):aB Try.prog 46 [.rsl .str m,.rsl .str m] (.bool true):=by
 refine aB.intro (nt:=26) aC mixed (by kernel_rfl) Try.func46 rfl rfl rfl rfl rfl ?_;refine aI (fun q=> ?_) (fun _=> ?_)
 .exfalso;have q2:(((m.length:Nat):Int) !=((m.length:Nat):Int))=true:=q;simp at q2
 refine lp Nat (fun i=>[(5,.int .i64 (i:Nat))]) (fun _=>[]) (fun i=>m.length-i) (fun i=>i<=m.length) 0 (Nat.zero_le _) ?_ ?_
 .exact Go.Tr.hd [] rfl (aI (aI rfl rfl) trivial) trivial
 intro i hi;refine aI (fun q1=> ?_) (fun q1=> ?_)
 .have hlt:i<m.length:=sQ q1;have hi3:(0:Int)<=((i:Nat):Int)/\((i:Nat):Int)<(m.length:Nat):=⟨by omega,by omega⟩;refine aI hi3 ?_;refine aI hi3 ?_;refine aI (by kernel_rfl) ?_;refine aI (fun q2=> ?_) (fun _=> ?_)
  .exfalso;have q3:(!decide (elt (dflt .str) m ((i:Nat):Int)=elt (dflt .str) m ((i:Nat):Int)))=true:=q2;simp at q3
  refine aF (i+1) hlt ?_ (by show m.length-(i+1)<m.length-i;omega);exact Go.Tr.hd [] rfl (aI (aI (iM (by omega)) rfl) trivial) trivial
 .exact rfl
theorem Uq(m:List fF)(hl:m.length<=1000000):aB Try.prog 47 [.rsl aK m,.rsl aK m] (.bool true):=by
 refine aB.intro (nt:=26) aC mixed (by kernel_rfl) Try.func47 rfl rfl rfl rfl rfl ?_;refine aI (fun q=> ?_) (fun _=> ?_)
 .exfalso;have q2:(((m.length:Nat):Int) !=((m.length:Nat):Int))=true:=q;simp at q2
 refine lp Nat (fun i=>[(5,.int .i64 (i:Nat))]) (fun _=>[]) (fun i=>m.length-i) (fun i=>i<=m.length) 0 (Nat.zero_le _) ?_ ?_
 .exact Go.Tr.hd [] rfl (aI (aI rfl rfl) trivial) trivial
 intro i hi;refine aI (fun q1=> ?_) (fun q1=> ?_)
 .have hlt:i<m.length:=sQ q1;have hi3:(0:Int)<=((i:Nat):Int)/\((i:Nat):Int)<(m.length:Nat):=⟨by omega,by omega⟩;refine aI hi3 ?_;refine aI hi3 ?_;refine aI (show Am Try.prog 42 [1,0,2]=true by kernel_rfl) ?_;refine aI (by kernel_rfl) ?_;refine aI (fun q2=> ?_) (fun _=> ?_)
  .exfalso;have q3:(!(((elt (dflt aK) m ((i:Nat):Int)).1==(elt (dflt aK) m ((i:Nat):Int)).1)&&(((elt (dflt aK) m ((i:Nat):Int)).2.1==(elt (dflt aK) m ((i:Nat):Int)).2.1)&&(decide ((elt (dflt aK) m ((i:Nat):Int)).2.2=(elt (dflt aK) m ((i:Nat):Int)).2.2)&&true))))=true:=q2;simp at q3
  refine aF (i+1) hlt ?_ (by show m.length-(i+1)<m.length-i;omega);exact Go.Tr.hd [] rfl (aI (aI (iM (by omega)) rfl) trivial) trivial
 .exact rfl
theorem Uo(h:aW ms s):aB Try.prog 18 [yt (toN ms s),yt (toN ms s)] (.bool true):=by
 have h5:=h.m30;have h8:=h.fl60;have hk:=jP h;refine aB.intro (nt:=59) aC mixed (by kernel_rfl) Try.func18 rfl rfl rfl rfl rfl ?_;refine oZ (fun _=>Ur ms (by omega)) ?_;refine oZ (fun _=>Ur (ms.take s.e) (by rw[List.length_take];omega)) ?_;refine oZ (fun _=>Uq (s.ks.map (bV ms)) (by rw[qV];omega)) ?_;refine oZ (fun _=>Uq (s.fl.map (bC ms)) (by rw[qV];omega)) ?_;show(bif (bif (bif (bif (bif (bif (bif (((s.w:Nat):Int)==((s.w:Nat):Int))then(((s.b:Nat):Int)==((s.b:Nat):Int))else false)then(((s.n:Nat):Int)==((s.n:Nat):Int))else false)then(((s.e:Nat):Int)==((s.e:Nat):Int))else false)then true else false)then true else false)then true else false)then true else false)=true
 simp
theorem O8(h:aW ms s)(hb:s.b=ms.length):aB Try.prog 21 [yt (toN ms s)] (.bool true):=by
 refine aB.intro (nt:=8) aC mixed (by kernel_rfl) Try.func21 rfl rfl rfl rfl rfl ?_;refine oZ (mG h) ?_;refine Or.inr (aI (fun _=>eI _ (eI _ (aI (au.mo aC [55] G7 (KJ ms s) rfl) ?_))) (fun gg=>absurd (show(true:Bool)=false from gg) (by decide)));show(bif true then decide (s.b=ms.length)else false)=true;rw[decide_eq_true hb];rfl
end
def I5(code:List Int):Nat->List Int×DS->List Int×DS
 |0,x=>x
 |k+1,x=>I5 code k (x.1++[(pk code x.2 40).1],(pk code x.2 40).2)
theorem Ig{code:List Int}(hb:Bytes code):∀(k:Nat) (x:List Int×DS),(∀y∈x.1,0<=y/\y<=600)->(I5 code k x).1.length=x.1.length+k/\(∀y∈(I5 code k x).1,0<=y/\y<=600)
 |0,x,h=>⟨rfl,h⟩
 |k+1,x,h=>by
  unfold I5;have p0:=pW hb x.2 40;have p1:=jI hb x.2 (n:=40) (by decide)
  have h1:=Ig hb k (x.1++[(pk code x.2 40).1],(pk code x.2 40).2) (fun y hy=>by
   have hy:y∈x.1++[(pk code x.2 40).1]:=hy;rcases qT.1 hy with hy|hy
   .exact h y hy
   .have:y=(pk code x.2 40).1:=by simpa using hy
    subst this;omega)
  simp only[qA,qI,qR]at h1;exact⟨by omega,h1.2⟩
theorem JG{code:List Int}(hb:Bytes code):∃S,nJ S/\au Try.prog 14 [.rsl iK code] [] (.sl 10000) [.row 10000 2 1 (.int .i64) S []]:=by
 have key:∃S D,nJ S/\au Try.prog 38 [.ptr 10000 0] (iX code ⟨0,0⟩) (.sl 10001) (iX code D++[.row 10001 2 1 (.int .i64) S []]):=by
  have o1:=kS code ⟨0,0⟩ 4;cases ho:(pk code ⟨0,0⟩ 4).1==0 with
  |true=>
   refine⟨[],(pk code ⟨0,0⟩ 4).2,⟨Nat.zero_le _,by simp⟩,?_⟩;refine au.intro (nt:=22) aC mixed G6 Try.func38 rfl rfl rfl rfl rfl rfl ?_;refine oY (JU code ⟨0,0⟩ hb (by decide) 4) ?_;refine aI (fun _=> ?_) (fun q=>absurd (ho.symm.trans q) (by decide));refine fin [(10001,5)] (aI rfl ?_);exact⟨trivial,⟨rfl,⟨rfl,rfl⟩,⟨rfl,rfl⟩,trivial⟩,⟨rfl,nP⟩,trivial⟩
  |false=>
   have p0:=pW hb (pk code ⟨0,0⟩ 4).2 12;have p1:=jI hb (pk code ⟨0,0⟩ 4).2 (n:=12) (by decide);have p2:=kS code (pk code ⟨0,0⟩ 4).2 12;obtain⟨d1,hd1⟩:∃e,e=(pk code (pk code ⟨0,0⟩ 4).2 12).2:=⟨_,rfl⟩;obtain⟨M,hM⟩:∃n:Nat,(pk code (pk code ⟨0,0⟩ 4).2 12).1=(n:Nat):=⟨(pk code (pk code ⟨0,0⟩ 4).2 12).1.toNat,by omega⟩;have hd1k:d1.k<=4:=by rw[hd1];simp only at o1;omega
   have hso:=Ig hb (1+M) ([],d1) (by simp);obtain⟨S,hS⟩:∃S,S=(I5 code (1+M) ([],d1)).1:=⟨_,rfl⟩;obtain⟨D,hD⟩:∃D,D=(I5 code (1+M) ([],d1)).2:=⟨_,rfl⟩;have hSl:S.length=1+M:=by rw[hS,hso.1];simp
   refine⟨S,D,⟨by omega,by rw[hS];exact hso.2⟩,?_⟩;refine au.intro (nt:=22) aC mixed G6 Try.func38 rfl rfl rfl rfl rfl rfl ?_;refine oY (JU code ⟨0,0⟩ hb (by decide) 4) ?_;refine aI (fun q=>absurd (ho.symm.trans q) (by decide)) (fun _=> ?_);refine oY (fB code (pk code ⟨0,0⟩ 4).2 hb (by simp only at o1;omega) 12) ?_;refine lp (Nat×List Int×DS) (fun p=>[(4,.int .i64 (p.1:Nat)),(3,.sl 20000)]) (fun p=>iX code p.2.2++[.row 20000 2 1 (.int .i64) p.2.1 []]) (fun p=>p.1) (fun p=>p.1+p.2.1.length=1+M/\p.2.2.k<=d1.k+2*p.2.1.length/\I5 code p.1 (p.2.1,p.2.2)=I5 code (1+M) ([],d1)) (1+M,[],d1) ⟨rfl,Nat.le_refl _,rfl⟩ ?_ ?_
   .refine Go.Tr.hd [(20000,5)] rfl (aI ⟨?_,rfl⟩ (aI rfl trivial)) ?_
    .show IntKind.i64.wrap (1+(pk code (pk code ⟨0,0⟩ 4).2 12).1)=((1+M:Nat):Int);rw[hM,oJ (by omega)];omega
    .rw[hd1];exact⟨trivial,⟨rfl,⟨rfl,rfl⟩,⟨rfl,rfl⟩,trivial⟩,⟨rfl,nP⟩,trivial⟩
   rintro⟨k,l,e⟩ ⟨hkl,hek,htx⟩;have hkl:k+l.length=1+M:=hkl;have hek:e.k<=d1.k+2*l.length:=hek;have htx:I5 code k (l,e)=I5 code (1+M) ([],d1):=htx;refine aI (fun q1=> ?_) (fun q1=> ?_)
   .obtain⟨k,rfl⟩:∃j,k=j+1:=⟨k-1,by have:=JJ q1;omega⟩;refine oY (fB code e hb (by omega) 40) ?_;refine aI (by show l.length+1<=1073741824;omega) ?_;have h9:=kS code e 40;refine aF (k,l++[(pk code e 40).1],(pk code e 40).2) ⟨by show k+(l++[(pk code e 40).1]).length=1+M;rw[qA];simp only[qI,qR];omega,by show(pk code e 40).2.k<=d1.k+2*(l++[(pk code e 40).1]).length;rw[qA];simp only[qI,qR];omega,htx⟩ ?_ (by show k<k+1;omega);refine Go.Tr.hd [(20000,20)] rfl (aI ⟨rC (by omega),rfl⟩ (aI rfl trivial)) ?_
    exact⟨trivial,⟨rfl,⟨rfl,rfl⟩,⟨rfl,rfl⟩,trivial⟩,⟨rfl,nP⟩,trivial⟩
   have hk0:=JA q1;subst hk0;have hLe:S=l:=by rw[hS,<-htx];rfl
   have hDe:D=e:=by rw[hD,<-htx];rfl
   subst hLe hDe;refine fin [(10001,20000)] (aI rfl ?_);exact⟨trivial,⟨rfl,⟨rfl,rfl⟩,⟨rfl,rfl⟩,trivial⟩,⟨rfl,nP⟩,trivial⟩
 obtain⟨S,D,h1,h2⟩:=key;refine⟨S,h1,?_⟩;refine au.intro (nt:=6) aC mixed (by kernel_rfl) Try.func14 rfl rfl rfl rfl rfl rfl ?_;refine oY (Ga code) ?_;refine oY h2 ?_;refine fin [(10000,5)] (aI rfl ?_);exact⟨⟨rfl,nP⟩,trivial⟩
theorem JF{code:List Int}(hb:Bytes code):∃S,nJ S/\bI Try.prog 14 [.rsl iK code] [] (.rsl (.int .i64) S) []:=by
 obtain⟨S,h1,h2⟩:=JG hb;exact⟨S,h1,bI.fz (au.g h2) rfl⟩
end Go.Proofs.Ytbakpddomlgjbaa
