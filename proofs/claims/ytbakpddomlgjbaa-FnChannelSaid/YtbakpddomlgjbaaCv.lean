
/- Channels: runs by a schedule, runs to the end; both sides. -/
import Derived.Test.YtbakpddomlgjbaaCu
set_option linter.unusedSimpArgs false
set_option linter.unusedVariables false
namespace Go.Proofs.Ytbakpddomlgjbaa
open Go Go.RowKit Go.Proofs Go.Tr
theorem G7:aU Try.prog 48=true:=by kernel_rfl
theorem KV:aU Try.prog 50=true:=by kernel_rfl
theorem KW:aU Try.prog 51=true:=by kernel_rfl
theorem Ow(n:Int)(h:0<=n/\n<=2000):aB Try.prog 41 [.int .i64 n] (.bool true):=by
 refine aB.intro (nt:=9) aC mixed (by kernel_rfl) Try.func41 rfl rfl rfl rfl rfl ?_;show(bif decide ((0:Int)<=n)then decide (n<=2000)else false)=true;rw[decide_eq_true h.1,decide_eq_true h.2];rfl
def nJ(S:List Int):Prop:=S.length<=200/\∀x∈S,0<=x/\x<=600
theorem Tk(x:Int)(h:0<=x/\x<=600):aB Try.prog 67 [.int .i64 x] (.bool false):=by
 refine aB.intro (nt:=9) aC mixed (by kernel_rfl) Try.func67 rfl rfl rfl rfl rfl ?_;show(bif decide (x<0)then true else decide ((600:Int)<x))=false;rw[decide_eq_false (by omega),decide_eq_false (by omega)];rfl
theorem R5(m:List Int)(hl:m.length<=1000000)(hm:∀x∈m,0<=x/\x<=600):aB Try.prog 77 [.rsl (.int .i64) m,.fn 67 []] (.int .i64 (-1)):=by
 refine aB.intro (nt:=19) aC mixed (by kernel_rfl) Try.func77 rfl rfl rfl rfl rfl ?_;refine lp Nat (fun i=>[(8,.int .i64 (i:Nat))]) (fun _=>[]) (fun i=>m.length-i) (fun i=>i<=m.length) 0 (Nat.zero_le _) ?_ ?_
 .exact Go.Tr.hd [] rfl (aI (aI rfl rfl) trivial) trivial
 intro i hi;refine aI (fun q1=> ?_) (fun q1=> ?_)
 .have hlt:i<m.length:=sQ q1;have hi3:(0:Int)<=((i:Nat):Int)/\((i:Nat):Int)<(m.length:Nat):=⟨by omega,by omega⟩;refine aI hi3 ?_;refine oZ (Tk _ (hm _ (gq (dd:=(0:Int)) hi3.1 hi3.2))) ?_;refine aI (fun q2=>by cases q2) (fun _=> ?_);refine aF (i+1) hlt ?_ (by show m.length-(i+1)<m.length-i;omega);exact Go.Tr.hd [] rfl (aI (aI (iM (by omega)) rfl) trivial) trivial
 .exact⟨rfl,rfl⟩
theorem Rx(m:List Int)(hl:m.length<=1000000)(hm:∀x∈m,0<=x/\x<=600):aB Try.prog 66 [.rsl (.int .i64) m,.fn 67 []] (.bool false):=by
 refine aB.intro (nt:=9) aC mixed (by kernel_rfl) Try.func66 rfl rfl rfl rfl rfl ?_;refine oZ (R5 m hl hm) ?_;exact rfl
theorem Tm(S:List Int)(h:nJ S):aB Try.prog 40 [.rsl (.int .i64) S] (.bool true):=by
 have h1:=h.1;refine aB.intro (nt:=11) aC mixed (by kernel_rfl) Try.func40 rfl rfl rfl rfl rfl ?_;refine oZ (fun _=>Rx S (by omega) h.2) ?_;show(bif decide (((S.length:Nat):Int)<=200)then !false else false)=true;rw[decide_eq_true (by omega)];rfl
theorem Tn(S:List Int)(h:nJ S):aB Try.prog 42 [.rsl (.int .i64) S] (.bool true):=by
 have h1:=h.1;refine aB.intro (nt:=19) aC mixed (by kernel_rfl) Try.func42 rfl rfl rfl rfl rfl ?_;refine aI (fun q=> ?_) (fun _=> ?_)
 .exfalso;have q':decide ((200:Int)<(S.length:Nat))=true:=q;have:=of_decide_eq_true q';omega
 refine lp Nat (fun i=>[(3,.int .i64 (i:Nat))]) (fun _=>[]) (fun i=>S.length-i) (fun i=>i<=S.length) 0 (Nat.zero_le _) ?_ ?_
 .exact Go.Tr.hd [] rfl (aI (aI rfl rfl) trivial) trivial
 intro i hi;refine aI (fun q1=> ?_) (fun q1=> ?_)
 .have hlt:i<S.length:=sQ q1;have hi3:(0:Int)<=((i:Nat):Int)/\((i:Nat):Int)<(S.length:Nat):=⟨by omega,by omega⟩;have hx:=h.2 _ (gq (dd:=(0:Int)) hi3.1 hi3.2);refine aI hi3 ?_;refine oZ (EB _ _ _) ?_;refine aI (fun q2=> ?_) (fun _=> ?_)
  .exfalso;have q3:(!decide ((0:Int)<=elt (0:Int) S ((i:Nat):Int)/\elt (0:Int) S ((i:Nat):Int)<=600))=true:=q2;rw[decide_eq_true hx]at q3;cases q3
  refine aF (i+1) hlt ?_ (by show S.length-(i+1)<S.length-i;omega);exact Go.Tr.hd [] rfl (aI (aI (iM (by omega)) rfl) trivial) trivial
 .exact rfl
def DT(m:Nat)(S:List Int)(i:Nat)(s:eB):Int:=(bif decide (0<S.length)then elt (0:Int) S (((i:Nat):Int).tmod ((S.length:Nat):Int))else 0).tmod (((evs m s).length:Nat):Int)
def iV(m:Nat)(S:List Int):Nat->Nat->eB->eB
 |0,_,s=>s
 |k+1,i,s=>bif (evs m s).length==0 then s else iV m S k (i+1) (bJ s (elt (dflt bM) (evs m s) (DT m S i s)))
theorem Cm{S:List Int}(h:nJ S)(hp:0<S.length)(i:Nat):(0:Int)<=((i:Nat):Int).tmod ((S.length:Nat):Int)/\((i:Nat):Int).tmod ((S.length:Nat):Int)<(S.length:Nat)/\0<=elt (0:Int) S (((i:Nat):Int).tmod ((S.length:Nat):Int)):=by
 have h1:(0:Int)<=((i:Nat):Int).tmod ((S.length:Nat):Int):=Int.tmod_nonneg _ (by omega);have h2:((i:Nat):Int).tmod ((S.length:Nat):Int)<(S.length:Nat):=Int.tmod_lt_of_pos _ (by omega);exact⟨h1,h2,(h.2 _ (gq (dd:=(0:Int)) h1 h2)).1⟩
theorem Cb{m:Nat}{S:List Int}(h:nJ S)(i:Nat){s:eB}(hne:(evs m s).length≠0):0<=DT m S i s/\DT m S i s<((evs m s).length:Nat):=by
 unfold DT;refine⟨Int.tmod_nonneg _ ?_,Int.tmod_lt_of_pos _ (by omega)⟩;cases hd:decide (0<S.length)with
 |false=>exact Int.le_refl _
 |true=>exact(Cm h (of_decide_eq_true hd) i).2.2
section
variable {ms:List ByteArray}{s:eB}{S:List Int}
theorem uF(hS:nJ S):∀(k i:Nat) {s:eB},aW ms s->aW ms (iV ms.length S k i s)
 |0,_,_,h=>h
 |k+1,i,s,h=>by
  unfold iV;cases he:(evs ms.length s).length==0 with
  |true=>exact h
  |false=>
   have hne:(evs ms.length s).length≠0:=by simpa using he
   have hp:=Cb hS i hne;exact uF hS k (i+1) (l8 h (ak _ (gq hp.1 hp.2))).1
theorem Jv(h:aW ms s):au Try.prog 24 [.ptr 10000 0] (tI 10002 10003 10004 ms s) (.sl 10005) ([.row 10005 33 2 bM (evs ms.length s) []]++tI 10002 10003 10004 ms s):=
 au.BU (ts2:=[.row 10005 33 2 bM (evs ms.length s) []]) aC [55] MH (OJ h) rfl rfl rfl
set_option maxHeartbeats 4000000 in
set_option maxRecDepth 100000 in
theorem SF(h:aW ms s)(hS:nJ S)(N:Nat)(hN:N<=2000):au Try.prog 16 [yt (toN ms s),.rsl (.int .i64) S,.int .i64 (N:Nat)] [] (.tup [.agg (oO 10000 10001 10002 10003 ms (iV ms.length S N 0 s)),.int .i64 0]) [rT 10000 ms,rP 10001 ((iV ms.length S N 0 s).ks.map (bV ms)),rT 10002 (ms.take (iV ms.length S N 0 s).e),rP 10003 ((iV ms.length S N 0 s).fl.map (bC ms))]:=by
 have hS1:=hS.1;have hRok:=uF hS N 0 h;obtain⟨R,hR⟩:∃R,R=iV ms.length S N 0 s:=⟨_,rfl⟩;rw[<-hR]at hRok |-;refine au.intro (nt:=58) aC mixed (by kernel_rfl) Try.func16 rfl rfl rfl rfl rfl rfl ?_;refine oZ (mG h) ?_;refine aI (fun q=>by cases q) (fun _=> ?_);refine oZ (Tm S hS) ?_;refine oZ (fun _=>Ow _ (by omega)) ?_;refine aI (fun q=>by cases q) (fun _=> ?_);refine oY (CW h) ?_;refine lp (Nat×eB) (fun p=>[(30,.int .i64 (p.1:Nat))]) (fun p=>[.bQ 8 27 (oO 20000 20001 20002 20003 ms p.2),rT 20000 ms,rK 20001 (p.2.ks.map (bV ms)),rT 20002 (ms.take p.2.e),rP 20003 (p.2.fl.map (bC ms)),.bQ 6 27 Bt]) (fun p=>N-p.1) (fun p=>p.1<=N/\aW ms p.2/\iV ms.length S (N-p.1) p.1 p.2=R) (0,s) ⟨Nat.zero_le _,h,hR.symm⟩ ?_ ?_
 .refine Go.Tr.hd [(20000,28),(20001,1000028),(20002,2000028),(20003,3000028)] rfl (aI ⟨rfl,rfl⟩ trivial) ?_;exact⟨trivial,ah,⟨rfl,nP⟩,rfl,⟨rfl,nP⟩,⟨rfl,nP⟩,trivial,ah,trivial⟩
 rintro⟨i,x⟩ ⟨hi,hx,hrun⟩;have hi:i<=N:=hi;have hx:aW ms x:=hx;have hrun:iV ms.length S (N-i) i x=R:=hrun;have hend:x=R->au Try.prog 28 [.agg (oO 10000 10001 10002 10003 ms x)] [rT 10000 ms,rK 10001 (x.ks.map (bV ms)),rT 10002 (ms.take x.e),rP 10003 (x.fl.map (bC ms))] (.agg (oO 10004 10005 10006 10007 ms x)) ([rT 10004 ms,rP 10005 (x.ks.map (bV ms)),rT 10006 (ms.take x.e),rP 10007 (x.fl.map (bC ms))]++[rT 10000 ms,rK 10001 (x.ks.map (bV ms)),rT 10002 (ms.take x.e),rP 10003 (x.fl.map (bC ms))]):=fun _=>lZ hx
 refine aI (fun q1=> ?_) (fun q1=> ?_)
 .have hlt:i<N:=sQ q1;refine oY (Jv hx) ?_;refine aI (fun q2=> ?_) (fun q2=> ?_)
  .have q2':((((evs ms.length x).length:Nat):Int)==0)=true:=q2;have hl0:((evs ms.length x).length==0)=true:=by simpa using q2'
   have hxR:x=R:=by rw[<-hrun,show N-i=(N-(i+1))+1 by omega];unfold iV;rw[hl0];rfl
   subst hxR;refine oY (lZ hx) ?_;refine fin [(10000,57),(10001,1000057),(10002,2000057),(10003,3000057)] (aI rfl ?_);exact⟨⟨rfl,nP⟩,⟨rfl,nP⟩,⟨rfl,nP⟩,⟨rfl,nP⟩,trivial⟩
  have q2':((((evs ms.length x).length:Nat):Int)==0)=false:=q2;have hl0:((evs ms.length x).length==0)=false:=by simpa using q2'
  have hne:(evs ms.length x).length≠0:=by simpa using hl0
  have hp:=Cb hS i hne
  have hRs:iV ms.length S (N-(i+1)) (i+1) (bJ x (elt (dflt bM) (evs ms.length x) (DT ms.length S i x)))=R:=by
   rw[<-hrun,show N-i=(N-(i+1))+1 by omega]
   conv=>rhs;unfold iV
   rw[hl0];rfl
  have hev:=ak _ (gq (dd:=dflt bM) hp.1 hp.2);have hhap:=Gm hx hev;have hok:=(l8 hx hev).1;refine aI (fun q3=> ?_) (fun q3=> ?_)
  .have q3':decide ((0:Int)<(S.length:Nat))=true:=q3;have hpos:0<S.length:=by have:=of_decide_eq_true q3';omega
   obtain⟨s1,s2,s3⟩:=Cm hS hpos i;have hpk:DT ms.length S i x=(elt (0:Int) S (((i:Nat):Int).tmod ((S.length:Nat):Int))).tmod (((evs ms.length x).length:Nat):Int):=by unfold DT;rw[decide_eq_true hpos];rfl
   rw[hpk]at hhap hRs hp hok;refine aI (by show((S.length:Nat):Int)≠0;omega) ?_;refine aI ⟨s1,s2⟩ ?_;refine aI (by show(((evs ms.length x).length:Nat):Int)≠0;omega) ?_;refine aI hp ?_;refine oY hhap ?_;refine aF (i+1,_) ⟨hlt,hok,hRs⟩ ?_ (by show N-(i+1)<N-i;omega);refine Go.Tr.hd [(20001,54),(20002,1000054),(20003,2000054)] rfl (aI ⟨iM (by omega),rfl⟩ trivial) ?_;exact⟨trivial,ah,⟨rfl,nP⟩,rfl,⟨rfl,nP⟩,⟨rfl,nP⟩,trivial,ah,trivial⟩
  .have q3':decide ((0:Int)<(S.length:Nat))=false:=q3;have hpos:¬0<S.length:=by have:=of_decide_eq_false q3';omega
   have hpk:DT ms.length S i x=(0:Int).tmod (((evs ms.length x).length:Nat):Int):=by unfold DT;rw[decide_eq_false hpos];rfl
   rw[hpk]at hhap hRs hp hok;refine aI (by show(((evs ms.length x).length:Nat):Int)≠0;omega) ?_;refine aI hp ?_;refine oY hhap ?_;refine aF (i+1,_) ⟨hlt,hok,hRs⟩ ?_ (by show N-(i+1)<N-i;omega);refine Go.Tr.hd [(20001,54),(20002,1000054),(20003,2000054)] rfl (aI ⟨iM (by omega),rfl⟩ trivial) ?_;exact⟨trivial,ah,⟨rfl,nP⟩,rfl,⟨rfl,nP⟩,⟨rfl,nP⟩,trivial,ah,trivial⟩
 .have hge:N<=i:=Gf q1;have hxR:x=R:=by rw[<-hrun,show N-i=0 by omega];rfl
  subst hxR;refine oY (lZ hx) ?_;refine fin [(10000,57),(10001,1000057),(10002,2000057),(10003,3000057)] (aI rfl ?_);exact⟨⟨rfl,nP⟩,⟨rfl,nP⟩,⟨rfl,nP⟩,⟨rfl,nP⟩,trivial⟩
theorem Dt(h:aW ms s):au Try.prog 44 [.ptr 10000 0] [.bQ 10000 27 (Er (toN ms s))] (.agg (oO 10001 10002 10003 10004 ms s)) ([rT 10001 ms,rP 10002 (s.ks.map (bV ms)),rT 10003 (ms.take s.e),rP 10004 (s.fl.map (bC ms))]++[.bQ 10000 27 (Er (toN ms s))]):=
 au.BU aC [55] BX (Py h) rfl rfl rfl
set_option maxHeartbeats 4000000 in
set_option maxRecDepth 100000 in
theorem SG(h:aW ms s)(hS:nJ S)(N:Nat)(hN:N<=2000):au Try.prog 17 [yt (toN ms s),.rsl (.int .i64) S,.int .i64 (N:Nat)] [] (.tup [.agg (oO 10000 10001 10002 10003 ms (iV ms.length S N 0 s)),.int .i64 0]) [rT 10000 ms,rP 10001 ((iV ms.length S N 0 s).ks.map (bV ms)),rT 10002 (ms.take (iV ms.length S N 0 s).e),rP 10003 ((iV ms.length S N 0 s).fl.map (bC ms))]:=by
 have hS1:=hS.1;have hRok:=uF hS N 0 h;obtain⟨R,hR⟩:∃R,R=iV ms.length S N 0 s:=⟨_,rfl⟩;rw[<-hR]at hRok |-;refine au.intro (nt:=54) aC mixed (by kernel_rfl) Try.func17 rfl rfl rfl rfl rfl rfl ?_;refine oY (au.mo aC [55] sU (vk h) rfl) ?_;refine aI (fun q=>by cases q) (fun _=> ?_);refine oZ (Tn S hS) ?_;refine oZ (fun _=>EB _ _ _) ?_;refine aI (fun q=> ?_) (fun _=> ?_)
 .exfalso;have q':(bif !true then true else !decide ((0:Int)<=((N:Nat):Int)/\((N:Nat):Int)<=2000))=true:=q;rw[decide_eq_true (by omega)]at q';cases q'
 refine oY (Dt h) ?_;refine lp (Nat×eB) (fun p=>[(9,.int .i64 (p.1:Nat))]) (fun p=>[.bQ 8 27 (oO 20000 20001 20002 20003 ms p.2),rT 20000 ms,rP 20001 (p.2.ks.map (bV ms)),rT 20002 (ms.take p.2.e),rP 20003 (p.2.fl.map (bC ms)),.bQ 6 27 Bt]) (fun p=>N-p.1) (fun p=>p.1<=N/\aW ms p.2/\iV ms.length S (N-p.1) p.1 p.2=R) (0,s) ⟨Nat.zero_le _,h,hR.symm⟩ ?_ ?_
 .refine Go.Tr.hd [(20000,24),(20001,1000024),(20002,2000024),(20003,3000024)] rfl (aI ⟨rfl,rfl⟩ trivial) ?_;exact⟨trivial,ah,⟨rfl,nP⟩,⟨rfl,nP⟩,⟨rfl,nP⟩,⟨rfl,nP⟩,trivial,ah,trivial⟩
 rintro⟨i,x⟩ ⟨hi,hx,hrun⟩;have hi:i<=N:=hi;have hx:aW ms x:=hx;have hrun:iV ms.length S (N-i) i x=R:=hrun;refine aI (fun q1=> ?_) (fun q1=> ?_)
 .have hlt:i<N:=sQ q1;refine oY (yL hx) ?_;refine aI (fun q2=> ?_) (fun q2=> ?_)
  .have q2':((((evs ms.length x).length:Nat):Int)==0)=true:=q2;have hl0:((evs ms.length x).length==0)=true:=by simpa using q2'
   have hxR:x=R:=by rw[<-hrun,show N-i=(N-(i+1))+1 by omega];unfold iV;rw[hl0];rfl
   subst hxR;refine fin [(10000,20000),(10001,20001),(10002,20002),(10003,20003)] (aI rfl ?_);exact⟨⟨rfl,nP⟩,⟨rfl,nP⟩,⟨rfl,nP⟩,⟨rfl,nP⟩,trivial⟩
  have q2':((((evs ms.length x).length:Nat):Int)==0)=false:=q2;have hl0:((evs ms.length x).length==0)=false:=by simpa using q2'
  have hne:(evs ms.length x).length≠0:=by simpa using hl0
  have hp:=Cb hS i hne
  have hRs:iV ms.length S (N-(i+1)) (i+1) (bJ x (elt (dflt bM) (evs ms.length x) (DT ms.length S i x)))=R:=by
   rw[<-hrun,show N-i=(N-(i+1))+1 by omega]
   conv=>rhs;unfold iV
   rw[hl0];rfl
  have hev:=ak _ (gq (dd:=dflt bM) hp.1 hp.2);have hhap:=xB hx hev;have hok:=(l8 hx hev).1;refine aI (fun q3=> ?_) (fun q3=> ?_)
  .have q3':decide ((0:Int)<(S.length:Nat))=true:=q3;have hpos:0<S.length:=by have:=of_decide_eq_true q3';omega
   obtain⟨s1,s2,s3⟩:=Cm hS hpos i;have hpk:DT ms.length S i x=(elt (0:Int) S (((i:Nat):Int).tmod ((S.length:Nat):Int))).tmod (((evs ms.length x).length:Nat):Int):=by unfold DT;rw[decide_eq_true hpos];rfl
   rw[hpk]at hhap hRs hp hok;refine aI (by show((S.length:Nat):Int)≠0;omega) ?_;refine aI ⟨s1,s2⟩ ?_;refine aI (by show(((evs ms.length x).length:Nat):Int)≠0;omega) ?_;refine aI hp ?_;refine oY hhap ?_;refine aF (i+1,_) ⟨hlt,hok,hRs⟩ ?_ (by show N-(i+1)<N-i;omega);refine Go.Tr.hd [(20001,52),(20002,1000052),(20003,2000052)] rfl (aI ⟨iM (by omega),rfl⟩ trivial) ?_;exact⟨trivial,ah,⟨rfl,nP⟩,⟨rfl,nP⟩,⟨rfl,nP⟩,⟨rfl,nP⟩,trivial,ah,trivial⟩
  .have q3':decide ((0:Int)<(S.length:Nat))=false:=q3;have hpos:¬0<S.length:=by have:=of_decide_eq_false q3';omega
   have hpk:DT ms.length S i x=0:=by unfold DT;rw[decide_eq_false hpos];exact Int.zero_tmod _
   rw[hpk]at hhap hRs hp hok;refine aI hp ?_;refine oY hhap ?_;refine aF (i+1,_) ⟨hlt,hok,hRs⟩ ?_ (by show N-(i+1)<N-i;omega);refine Go.Tr.hd [(20001,52),(20002,1000052),(20003,2000052)] rfl (aI ⟨iM (by omega),rfl⟩ trivial) ?_;exact⟨trivial,ah,⟨rfl,nP⟩,⟨rfl,nP⟩,⟨rfl,nP⟩,⟨rfl,nP⟩,trivial,ah,trivial⟩
 .have hge:N<=i:=Gf q1;have hxR:x=R:=by rw[<-hrun,show N-i=0 by omega];rfl
  subst hxR;refine fin [(10000,20000),(10001,20001),(10002,20002),(10003,20003)] (aI rfl ?_);exact⟨⟨rfl,nP⟩,⟨rfl,nP⟩,⟨rfl,nP⟩,⟨rfl,nP⟩,trivial⟩
end
end Go.Proofs.Ytbakpddomlgjbaa
