
/- What the laws number and look for again in these types. Printed by gen_mk.py. -/
import Derived.Test.YtbdimbjclhmeoaaGreatProg
import Derived.Test.YtbdimbjclhmeoaaGreatValid
import Derived.BigGuardPart
import Derived.Outline
import Derived.Deep.CutBlock
set_option maxHeartbeats 4000000
set_option linter.unusedSimpArgs false
set_option linter.unusedVariables false
namespace Go.Tr
open Go Go.RowKit
def bC.Zbk(x:bC)(k:Int):List D:=[.sl x.agents.length (jQ (x.agents.flatMap aH.enc) (k))]
def bC.cnt(x:bC):Nat:=cN (x.agents.flatMap aH.enc)
theorem aU.Yr(x:aU):cN x.enc<=32*(1+(fun _=>0) x):=by
 have hc:cN x.enc=1+1:=by show cN [.v (.int .i64 x.agent),.v (.int .i64 x.slot)]=_;simp only[iY,tN,nG,gJ]<;>omega
 omega
theorem aH.Yr(x:aH):cN x.enc<=32*(1+x.wt):=by
 have h3:=lU (f:=dJ) (g:=(fun _=>0)) Xj x.data;have h4:=lU (f:=aU.enc) (g:=(fun _=>0)) aU.Yr x.aO;have hw:x.wt=Ka (fun _=>0) x.data+Ka (fun _=>0) x.aO:=rfl;have hc:cN x.enc=1+1+1+cN (x.data.flatMap dJ)+cN (x.aO.flatMap aU.enc):=by show cN [.v (.int .i64 x.kind),.v (.int .i64 x.level),.v (.int .i64 x.value),.sl x.data.length (x.data.flatMap dJ),.sl x.aO.length (x.aO.flatMap aU.enc)]=_;simp only[iY,tN,nG,gJ]<;>omega
 omega
theorem bC.Yr(x:bC):cN x.enc<=32*(1+x.wt):=by
 have h0:=lU (f:=aH.enc) (g:=aH.wt) aH.Yr x.agents;have hw:x.wt=Ka aH.wt x.agents:=rfl;have hc:cN x.enc=cN (x.agents.flatMap aH.enc):=by show cN [.sl x.agents.length (x.agents.flatMap aH.enc)]=_;simp only[iY,tN,nG,gJ]<;>omega
 omega
theorem bC.Zf(x:bC):x.cnt<=32*x.wt:=by
 have h0:=lU (f:=aH.enc) (g:=aH.wt) aH.Yr x.agents;have hw:x.wt=Ka aH.wt x.agents:=rfl;have hc:x.cnt=cN (x.agents.flatMap aH.enc):=rfl;omega
end Go.Tr
namespace Go.Proofs.YtbdimbjclhmeoaaGreat
open Go Go.RowKit Go.Proofs Go.Tr
theorem En(xs:List Int)(k:Int){A:Option Addr}{c lo:Nat}{bs}(w:World)(hx:T1 w (.sl xs.length (xs.flatMap dJ)) bs (.slice A xs.length c))(ho:Own lo w bs)(hn':xs.length<=maxLen)(hk0:0<=k)(hk1:k+(cN (xs.flatMap dJ):Nat)<=4611686018427387904):
  Calls Tryz.prog 27 #[.slice A xs.length c,.int .i64 k] w fun e w'=>∃r:Int,e=.returned (.int .i64 r)/\Hid (r=k+(cN (xs.flatMap dJ):Nat))/\T1 w' (.sl xs.length (jQ (xs.flatMap dJ) k)) bs (.slice A xs.length c)/\oK bs w w'/\Own lo w' bs:=by
 unfold maxLen at hn';obtain⟨n,hn⟩:∃n,xs.length=n:=⟨_,rfl⟩;rw[hn]at hx hn' |-;have Hn:Hid (xs.length=n):=hn;clear hn;have hkk:=Lib.hid hk1;clear hk1
 go_enter Tryz.func27,Tryz.ntmps27
 go_wp2_with fail
 go_loopw [1,5] (fun l i w'=>∃(j:Nat) (m:Int),j<=n/\i=.int .i64 j/\l=.int .i64 m/\Hid (m=k+(cN ((xs.take j).flatMap dJ):Nat))/\0<=m/\T1 w' (.sl n (jQ ((xs.take j).flatMap dJ) k++(xs.drop j).flatMap dJ)) bs (.slice A n c)/\oK bs w w'/\Own lo w' bs) (fun _ i _=>n-(intOf i).toNat)
 case atStart=>exact⟨0,k,Nat.zero_le _,rfl,rfl,Lib.hid (by simp[gJ]),hk0,by simpa[jS]using hx,oK.refl _ _,ho⟩
 case round=>
  obtain⟨j,m,hj,rfl,rfl,hm,hm0,ht,hon,hw⟩:=hrel
  by_cases hlt:j<n
  .obtain⟨x,hxk,hsp,hll,hsn,hdr⟩:=lW dJ 1 (fun _=>rfl) Hn hlt;rw[hdr.out,qU]at ht;have hml:(jQ ((xs.take j).flatMap dJ) k).length=j*1:=by rw[sJ,hll]
   generalize hL:jQ ((xs.take j).flatMap dJ) k=L at ht hml;have HL:=Lib.hid hL;clear hL hll;have hcx:Hid (cN (dJ x)=1):=by show cN [.v (.int .i64 x)]=_;simp only[iY,tN,nG,gJ]<;>omega
   have hbd:m+1<=4611686018427387904:=by
    have h1:=hm.out;have h2:=hkk.out;have h3:=hcx.out
    have h4:=hsp.out;have h5:cN (xs.flatMap dJ)=cN ((xs.take j).flatMap dJ)+(cN (dJ x)+cN ((xs.drop (j+1)).flatMap dJ)):=by rw[h4,dh,dh]
    omega
   replace ht:T1 wr (.sl n (L++(.v (.int .i64 x))::(xs.drop (j+1)).flatMap dJ)) bs (.slice A n c):=ht
   generalize hR:(xs.drop (j+1)).flatMap dJ=R at ht;have HR:=Lib.hid hR;clear hR;obtain⟨b,off,rfl, -,hbm,hbl,hblo,hfz⟩:=ht.row hw;have z0_0:T1 wr (.sl n (L++(.v (.int .i64 x))::R)) bs (.slice (some ⟨b,off,none⟩) n c):=by exact ht
   have y0_0:=(z0_0.leaf hw (o:=off+j) rfl (by simp only[qA,qI,qR,hml]<;>omega)).1;obtain⟨t0,u0,v0⟩:=(ht.leaf hw (o:=off+j) rfl (by simp only[qA,qI,qR,hml]<;>omega)).2 (.int .i64 m) rfl
   replace t0:T1 (World.setCell wr ⟨b,off+j,none⟩ (.int .i64 m)) (.sl n (L++(.v (.int .i64 m))::R)) bs (.slice (some ⟨b,off,none⟩) n c):=t0
   clear z0_0
   go_wp2_with fail
   have hmk:jQ (dJ x) m=[.v (.int .i64 m)]:=by
    show jQ [.v (.int .i64 x)] m=_;simp only[lG,jS,vw,y7,tN,nG]
    all_goals (exact(gu (oJ (by omega)) rfl))
   have hfin:jQ ((xs.take (j+1)).flatMap dJ) k++(xs.drop (j+1)).flatMap dJ=L++(.v (.int .i64 m))::R:=by
    rw[hsn.out,iN,HL.out,<-hm.out,hmk,qF,HR.out];rfl
   exact⟨⟨j+1,m+1,by omega,by go_num,by first|rfl|go_num,Lib.hid (by rw[hsn.out,dh];have h8:=hcx.out;have h9:=hm.out;omega),by omega,by rw[hfin];exact t0,(hon).trans u0,v0⟩,by simp[intOf];omega⟩
  .have:j=n:=by omega
   subst this
   go_wp2_with fail
   go_ret;have hl:=Hn.out;rw[qN (by omega),List.drop_of_length_le (by omega)]at ht;have hm':=hm.out;rw[qN (by omega)]at hm';exact⟨m,rfl,hm',by simpa using ht,hon,hw⟩
theorem TR(xs:List Int)(k r:Int)(n:Nat){A:Option Addr}{c:Nat}{bs:dF}(w:World)(hx:T1 w (.sl n (jQ (xs.flatMap dJ) k)) bs (.slice A n c))(Hn:Hid (xs.length=n))(hk0:0<=k)(hk1:r<=4611686018427387904)(Hr:Hid (r=k+(cN (xs.flatMap dJ):Nat))):Calls Tryz.prog 29 #[.slice A n c,.int .i64 k] w fun e w'=>e=.returned (.int .i64 (r))/\Ext w w':=by
 refine fD fun e=> ?_
 have hn:=hx.JE
 go_enter Tryz.func29,Tryz.ntmps29
 go_wp2_with fail
 repeat (refine bM _ (by kernel_rfl) (by kernel_rfl) ?_;(repeat (go_big_quiet_step (fail)));refine wpQuiet_nil ?_;intro e;go_wp2_with fail)
 go_loopw [1,5] (fun l i w'=>∃(j:Nat) (m:Int),j<=n/\i=.int .i64 j/\l=.int .i64 m/\Hid (m=k+(cN ((xs.take j).flatMap dJ):Nat))/\0<=m/\∃e:bL w,w'=e.to) (fun _ i _=>n-(intOf i).toNat)
 case atStart=>exact⟨0,k,Nat.zero_le _,rfl,rfl,Lib.hid (by simp[gJ]),hk0,_,rfl⟩
 case round=>
  obtain⟨j,m,hj,rfl,rfl,hm,hm0,e,rfl⟩:=hrel
  by_cases hlt:j<n
  .obtain⟨x,hxk,hsp,hll,hsn, -⟩:=lW dJ 1 (fun _=>rfl) Hn hlt;have hcx:Hid (cN (dJ x)=1):=by show cN [.v (.int .i64 x)]=_;simp only[iY,tN,nG,gJ]<;>omega
   have hbd:m+1<=4611686018427387904:=by
    have h1:=hm.out;have h2:=Hr.out;have h3:=hcx.out
    have h5:cN (xs.flatMap dJ)=cN ((xs.take j).flatMap dJ)+(cN (dJ x)+cN ((xs.drop (j+1)).flatMap dJ)):=by rw[hsp.out,dh,dh]
    omega
   have hmk:jQ (dJ x) m=[.v (.int .i64 (m))]:=by
    show jQ [.v (.int .i64 x)] m=_;simp only[lG,jS,vw,y7,tN,nG]
    all_goals (exact(gu (oJ (by omega)) rfl))
   have hxx:=hx;rw[hsp.out,iN,iN,<-hm.out,hmk]at hxx;have hml:(jQ ((xs.take j).flatMap dJ) k).length=j*1:=by rw[sJ,hll]
   generalize hL:jQ ((xs.take j).flatMap dJ) k=L at hxx hml;clear hL hll hmk;generalize hR:jQ ((xs.drop (j+1)).flatMap dJ) (m+(cN (dJ x):Nat))=R at hxx;clear hR
   replace hxx:T1 w (.sl n (L++(.v (.int .i64 (m)))::R)) bs (.slice A n c):=hxx
   obtain⟨b,off,rfl⟩:=hxx.Zbg;have z0:T1 w (.sl n (L++(.v (.int .i64 (m)))::R)) bs (.slice (some ⟨b,off,none⟩) n c):=by exact hxx
   have y0:=z0.G8 (o:=off+j) rfl (by simp only[qA,qI,qR,hml]<;>omega);clear hxx z0
   go_wp2_with fail
   repeat (refine bM _ (by kernel_rfl) (by kernel_rfl) ?_;(repeat (go_big_quiet_step (fail)));refine wpQuiet_nil ?_;intro e;go_wp2_with fail)
   exact⟨⟨j+1,m+1,by omega,by go_num,by first|rfl|go_num,Lib.hid (by rw[hsn.out,dh];have h8:=hcx.out;have h9:=hm.out;omega),by omega,_,rfl⟩,by simp[intOf];omega⟩
  .have:j=n:=by omega
   subst this
   have E:Hid (r=m):=by
    have h1:=hm.out;have h2:=Hr.out;have h3:=Hn.out
    rw[qN (by omega)]at h1;show _=_;omega
   go_wp2_with fail
   repeat (refine bM _ (by kernel_rfl) (by kernel_rfl) ?_;(repeat (go_big_quiet_step (fail)));refine wpQuiet_nil ?_;intro e;go_wp2_with fail)
   go_ret;exact⟨by rw[E.out];rfl,_,rfl⟩
theorem Gg(xs:List aU)(k:Int){A:Option Addr}{c lo:Nat}{bs}(w:World)(hx:T1 w (.sl xs.length (xs.flatMap aU.enc)) bs (.slice A xs.length c))(ho:Own lo w bs)(hn':xs.length<=maxLen)(hk0:0<=k)(hk1:k+(cN (xs.flatMap aU.enc):Nat)<=4611686018427387904):
  Calls Tryz.prog 83 #[.slice A xs.length c,.int .i64 k] w fun e w'=>∃r:Int,e=.returned (.int .i64 r)/\Hid (r=k+(cN (xs.flatMap aU.enc):Nat))/\T1 w' (.sl xs.length (jQ (xs.flatMap aU.enc) k)) bs (.slice A xs.length c)/\oK bs w w'/\Own lo w' bs:=by
 unfold maxLen at hn';obtain⟨n,hn⟩:∃n,xs.length=n:=⟨_,rfl⟩;rw[hn]at hx hn' |-;have Hn:Hid (xs.length=n):=hn;clear hn;have hkk:=Lib.hid hk1;clear hk1
 go_enter Tryz.func83,Tryz.ntmps83
 go_wp2_with fail
 go_loopw [1,5] (fun l i w'=>∃(j:Nat) (m:Int),j<=n/\i=.int .i64 j/\l=.int .i64 m/\Hid (m=k+(cN ((xs.take j).flatMap aU.enc):Nat))/\0<=m/\T1 w' (.sl n (jQ ((xs.take j).flatMap aU.enc) k++(xs.drop j).flatMap aU.enc)) bs (.slice A n c)/\oK bs w w'/\Own lo w' bs) (fun _ i _=>n-(intOf i).toNat)
 case atStart=>exact⟨0,k,Nat.zero_le _,rfl,rfl,Lib.hid (by simp[gJ]),hk0,by simpa[jS]using hx,oK.refl _ _,ho⟩
 case round=>
  obtain⟨j,m,hj,rfl,rfl,hm,hm0,ht,hon,hw⟩:=hrel
  by_cases hlt:j<n
  .obtain⟨x,hxk,hsp,hll,hsn,hdr⟩:=lW aU.enc 2 aU.bQ Hn hlt;rw[hdr.out,qU]at ht;have hml:(jQ ((xs.take j).flatMap aU.enc) k).length=j*2:=by rw[sJ,hll]
   generalize hL:jQ ((xs.take j).flatMap aU.enc) k=L at ht hml;have HL:=Lib.hid hL;clear hL hll;have hcx:Hid (cN (aU.enc x)=1+1):=by show cN [.v (.int .i64 x.agent),.v (.int .i64 x.slot)]=_;simp only[iY,tN,nG,gJ]<;>omega
   have hbd:m+1+1<=4611686018427387904:=by
    have h1:=hm.out;have h2:=hkk.out;have h3:=hcx.out
    have h4:=hsp.out;have h5:cN (xs.flatMap aU.enc)=cN ((xs.take j).flatMap aU.enc)+(cN (aU.enc x)+cN ((xs.drop (j+1)).flatMap aU.enc)):=by rw[h4,dh,dh]
    omega
   replace ht:T1 wr (.sl n (L++(.v (.int .i64 x.agent))::(.v (.int .i64 x.slot))::(xs.drop (j+1)).flatMap aU.enc)) bs (.slice A n c):=ht
   generalize hR:(xs.drop (j+1)).flatMap aU.enc=R at ht;have HR:=Lib.hid hR;clear hR;obtain⟨b,off,rfl, -,hbm,hbl,hblo,hfz⟩:=ht.row hw;have z0_0:T1 wr (.sl n (L++(.v (.int .i64 x.agent))::(.v (.int .i64 x.slot))::R)) bs (.slice (some ⟨b,off,none⟩) n c):=by exact ht
   have y0_0:=(z0_0.leaf hw (o:=off+j*2) rfl (by simp only[qA,qI,qR,hml]<;>omega)).1;have z0_1:T1 wr (.sl n ((L++[.v (.int .i64 x.agent)])++(.v (.int .i64 x.slot))::R)) bs (.slice (some ⟨b,off,none⟩) n c):=by rw[qF];exact ht
   have y0_1:=(z0_1.leaf hw (o:=off+j*2+1) rfl (by simp only[qA,qI,qR,hml]<;>omega)).1;obtain⟨t0,u0,v0⟩:=(ht.leaf hw (o:=off+j*2) rfl (by simp only[qA,qI,qR,hml]<;>omega)).2 (.int .i64 m) rfl
   replace t0:T1 (World.setCell wr ⟨b,off+j*2,none⟩ (.int .i64 m)) (.sl n (L++(.v (.int .i64 m))::(.v (.int .i64 x.slot))::R)) bs (.slice (some ⟨b,off,none⟩) n c):=t0
   replace t0:T1 (World.setCell wr ⟨b,off+j*2,none⟩ (.int .i64 m)) (.sl n ((L++[.v (.int .i64 m)])++(.v (.int .i64 x.slot))::R)) bs (.slice (some ⟨b,off,none⟩) n c):=by rw[qF];exact t0
   obtain⟨t1,u1,v1⟩:=(t0.leaf v0 (o:=off+j*2+1) rfl (by simp only[qA,qI,qR,hml]<;>omega)).2 (.int .i64 (m+1)) rfl;rw[qF]at t1
   replace t1:T1 (World.setCell (World.setCell wr ⟨b,off+j*2,none⟩ (.int .i64 m)) ⟨b,off+j*2+1,none⟩ (.int .i64 (m+1))) (.sl n (L++(.v (.int .i64 m))::(.v (.int .i64 (m+1)))::R)) bs (.slice (some ⟨b,off,none⟩) n c):=t1
   clear z0_0 z0_1
   go_wp2_with fail
   have hmk:jQ (aU.enc x) m=[.v (.int .i64 m),.v (.int .i64 (m+1))]:=by
    show jQ [.v (.int .i64 x.agent),.v (.int .i64 x.slot)] m=_;simp only[lG,jS,vw,y7,tN,nG]
    all_goals (exact(gu (oJ (by omega)) (gu (oJ (by omega)) rfl)))
   have hfin:jQ ((xs.take (j+1)).flatMap aU.enc) k++(xs.drop (j+1)).flatMap aU.enc=L++(.v (.int .i64 m))::(.v (.int .i64 (m+1)))::R:=by
    rw[hsn.out,iN,HL.out,<-hm.out,hmk,qF,HR.out];rfl
   exact⟨⟨j+1,m+1+1,by omega,by go_num,by first|rfl|go_num,Lib.hid (by rw[hsn.out,dh];have h8:=hcx.out;have h9:=hm.out;omega),by omega,by rw[hfin];exact t1,((hon).trans u0).trans u1,v1⟩,by simp[intOf];omega⟩
  .have:j=n:=by omega
   subst this
   go_wp2_with fail
   go_ret;have hl:=Hn.out;rw[qN (by omega),List.drop_of_length_le (by omega)]at ht;have hm':=hm.out;rw[qN (by omega)]at hm';exact⟨m,rfl,hm',by simpa using ht,hon,hw⟩
theorem wS(xs:List aH)(k:Int){A:Option Addr}{c lo:Nat}{bs}(w:World)(hx:T1 w (.sl xs.length (xs.flatMap aH.enc)) bs (.slice A xs.length c))(ho:Own lo w bs)(hn':xs.length<=maxLen)(hk0:0<=k)(hk1:k+(cN (xs.flatMap aH.enc):Nat)<=4611686018427387904):
  Calls Tryz.prog 51 #[.slice A xs.length c,.int .i64 k] w fun e w'=>∃r:Int,e=.returned (.int .i64 r)/\Hid (r=k+(cN (xs.flatMap aH.enc):Nat))/\T1 w' (.sl xs.length (jQ (xs.flatMap aH.enc) k)) bs (.slice A xs.length c)/\oK bs w w'/\Own lo w' bs:=by
 unfold maxLen at hn';obtain⟨n,hn⟩:∃n,xs.length=n:=⟨_,rfl⟩;rw[hn]at hx hn' |-;have Hn:Hid (xs.length=n):=hn;clear hn;have hkk:=Lib.hid hk1;clear hk1
 go_enter Tryz.func51,Tryz.ntmps51
 go_wp2_with fail
 go_loopw [1,5] (fun l i w'=>∃(j:Nat) (m:Int),j<=n/\i=.int .i64 j/\l=.int .i64 m/\Hid (m=k+(cN ((xs.take j).flatMap aH.enc):Nat))/\0<=m/\T1 w' (.sl n (jQ ((xs.take j).flatMap aH.enc) k++(xs.drop j).flatMap aH.enc)) bs (.slice A n c)/\oK bs w w'/\Own lo w' bs) (fun _ i _=>n-(intOf i).toNat)
 case atStart=>exact⟨0,k,Nat.zero_le _,rfl,rfl,Lib.hid (by simp[gJ]),hk0,by simpa[jS]using hx,oK.refl _ _,ho⟩
 case round=>
  obtain⟨j,m,hj,rfl,rfl,hm,hm0,ht,hon,hw⟩:=hrel
  by_cases hlt:j<n
  .obtain⟨x,hxk,hsp,hll,hsn,hdr⟩:=lW aH.enc 5 aH.bQ Hn hlt;rw[hdr.out,qU]at ht;have hml:(jQ ((xs.take j).flatMap aH.enc) k).length=j*5:=by rw[sJ,hll]
   generalize hL:jQ ((xs.take j).flatMap aH.enc) k=L at ht hml;have HL:=Lib.hid hL;clear hL hll;have hcx:Hid (cN (aH.enc x)=1+1+1+cN (x.data.flatMap dJ)+cN (x.aO.flatMap aU.enc)):=by show cN [.v (.int .i64 x.kind),.v (.int .i64 x.level),.v (.int .i64 x.value),.sl x.data.length (x.data.flatMap dJ),.sl x.aO.length (x.aO.flatMap aU.enc)]=_;simp only[iY,tN,nG,gJ]<;>omega
   have hbd:m+1+1+1+(cN (x.data.flatMap dJ):Nat)+(cN (x.aO.flatMap aU.enc):Nat)<=4611686018427387904:=by
    have h1:=hm.out;have h2:=hkk.out;have h3:=hcx.out
    have h4:=hsp.out;have h5:cN (xs.flatMap aH.enc)=cN ((xs.take j).flatMap aH.enc)+(cN (aH.enc x)+cN ((xs.drop (j+1)).flatMap aH.enc)):=by rw[h4,dh,dh]
    omega
   replace ht:T1 wr (.sl n (L++(.v (.int .i64 x.kind))::(.v (.int .i64 x.level))::(.v (.int .i64 x.value))::(.sl x.data.length (x.data.flatMap dJ))::(.sl x.aO.length (x.aO.flatMap aU.enc))::(xs.drop (j+1)).flatMap aH.enc)) bs (.slice A n c):=ht
   generalize hR:(xs.drop (j+1)).flatMap aH.enc=R at ht;have HR:=Lib.hid hR;clear hR;obtain⟨b,off,rfl, -,hbm,hbl,hblo,hfz⟩:=ht.row hw;have z0_0:T1 wr (.sl n (L++(.v (.int .i64 x.kind))::(.v (.int .i64 x.level))::(.v (.int .i64 x.value))::(.sl x.data.length (x.data.flatMap dJ))::(.sl x.aO.length (x.aO.flatMap aU.enc))::R)) bs (.slice (some ⟨b,off,none⟩) n c):=by exact ht
   have y0_0:=(z0_0.leaf hw (o:=off+j*5) rfl (by simp only[qA,qI,qR,hml]<;>omega)).1;have z0_1:T1 wr (.sl n ((L++[.v (.int .i64 x.kind)])++(.v (.int .i64 x.level))::(.v (.int .i64 x.value))::(.sl x.data.length (x.data.flatMap dJ))::(.sl x.aO.length (x.aO.flatMap aU.enc))::R)) bs (.slice (some ⟨b,off,none⟩) n c):=by rw[qF];exact ht
   have y0_1:=(z0_1.leaf hw (o:=off+j*5+1) rfl (by simp only[qA,qI,qR,hml]<;>omega)).1;have z0_2:T1 wr (.sl n ((L++[.v (.int .i64 x.kind),.v (.int .i64 x.level)])++(.v (.int .i64 x.value))::(.sl x.data.length (x.data.flatMap dJ))::(.sl x.aO.length (x.aO.flatMap aU.enc))::R)) bs (.slice (some ⟨b,off,none⟩) n c):=by rw[qF];exact ht
   have y0_2:=(z0_2.leaf hw (o:=off+j*5+2) rfl (by simp only[qA,qI,qR,hml]<;>omega)).1;have z0_3:T1 wr (.sl n ((L++[.v (.int .i64 x.kind),.v (.int .i64 x.level),.v (.int .i64 x.value)])++(.sl x.data.length (x.data.flatMap dJ))::(.sl x.aO.length (x.aO.flatMap aU.enc))::R)) bs (.slice (some ⟨b,off,none⟩) n c):=by rw[qF];exact ht
   obtain⟨A0_3,c0_3,b0_3,y0_3, -⟩:=z0_3.sub hw (o:=off+j*5+3) rfl (by simp only[qA,qI,qR,hml]<;>omega);obtain⟨t0,u0,v0⟩:=(ht.leaf hw (o:=off+j*5) rfl (by simp only[qA,qI,qR,hml]<;>omega)).2 (.int .i64 m) rfl
   replace t0:T1 (World.setCell wr ⟨b,off+j*5,none⟩ (.int .i64 m)) (.sl n (L++(.v (.int .i64 m))::(.v (.int .i64 x.level))::(.v (.int .i64 x.value))::(.sl x.data.length (x.data.flatMap dJ))::(.sl x.aO.length (x.aO.flatMap aU.enc))::R)) bs (.slice (some ⟨b,off,none⟩) n c):=t0
   replace t0:T1 (World.setCell wr ⟨b,off+j*5,none⟩ (.int .i64 m)) (.sl n ((L++[.v (.int .i64 m)])++(.v (.int .i64 x.level))::(.v (.int .i64 x.value))::(.sl x.data.length (x.data.flatMap dJ))::(.sl x.aO.length (x.aO.flatMap aU.enc))::R)) bs (.slice (some ⟨b,off,none⟩) n c):=by rw[qF];exact t0
   obtain⟨t1,u1,v1⟩:=(t0.leaf v0 (o:=off+j*5+1) rfl (by simp only[qA,qI,qR,hml]<;>omega)).2 (.int .i64 (m+1)) rfl;rw[qF]at t1
   replace t1:T1 (World.setCell (World.setCell wr ⟨b,off+j*5,none⟩ (.int .i64 m)) ⟨b,off+j*5+1,none⟩ (.int .i64 (m+1))) (.sl n (L++(.v (.int .i64 m))::(.v (.int .i64 (m+1)))::(.v (.int .i64 x.value))::(.sl x.data.length (x.data.flatMap dJ))::(.sl x.aO.length (x.aO.flatMap aU.enc))::R)) bs (.slice (some ⟨b,off,none⟩) n c):=t1
   replace t1:T1 (World.setCell (World.setCell wr ⟨b,off+j*5,none⟩ (.int .i64 m)) ⟨b,off+j*5+1,none⟩ (.int .i64 (m+1))) (.sl n ((L++[.v (.int .i64 m),.v (.int .i64 (m+1))])++(.v (.int .i64 x.value))::(.sl x.data.length (x.data.flatMap dJ))::(.sl x.aO.length (x.aO.flatMap aU.enc))::R)) bs (.slice (some ⟨b,off,none⟩) n c):=by rw[qF];exact t1
   obtain⟨t2,u2,v2⟩:=(t1.leaf v1 (o:=off+j*5+2) rfl (by simp only[qA,qI,qR,hml]<;>omega)).2 (.int .i64 (m+1+1)) rfl;rw[qF]at t2
   replace t2:T1 (World.setCell (World.setCell (World.setCell wr ⟨b,off+j*5,none⟩ (.int .i64 m)) ⟨b,off+j*5+1,none⟩ (.int .i64 (m+1))) ⟨b,off+j*5+2,none⟩ (.int .i64 (m+1+1))) (.sl n (L++(.v (.int .i64 m))::(.v (.int .i64 (m+1)))::(.v (.int .i64 (m+1+1)))::(.sl x.data.length (x.data.flatMap dJ))::(.sl x.aO.length (x.aO.flatMap aU.enc))::R)) bs (.slice (some ⟨b,off,none⟩) n c):=t2
   have g3:T1 (World.setCell (World.setCell (World.setCell wr ⟨b,off+j*5,none⟩ (.int .i64 m)) ⟨b,off+j*5+1,none⟩ (.int .i64 (m+1))) ⟨b,off+j*5+2,none⟩ (.int .i64 (m+1+1))) (.sl n ((L++[.v (.int .i64 m),.v (.int .i64 (m+1)),.v (.int .i64 (m+1+1))])++(.sl x.data.length (x.data.flatMap dJ))::(.sl x.aO.length (x.aO.flatMap aU.enc))::R)) bs (.slice (some ⟨b,off,none⟩) n c):=by rw[qF];exact t2
   obtain⟨A3,c3,b3,k3,s3,n3,o3,nb3,back3⟩:=g3.sub v2 (o:=off+j*5+3) rfl (by simp only[qA,qI,qR,hml]<;>omega)
   obtain⟨rfl,rfl⟩:A0_3=A3/\c0_3=c3:=by
    have hh:=k3;rw[kL _ _ _ _ _ (by omega)]at hh;rw[kL _ _ _ _ _ (by omega)]at hh;rw[kL _ _ _ _ _ (by omega)]at hh;rw[y0_3]at hh;simpa using hh
   clear k3;have HB3:=Lib.hid back3;clear back3 g3;clear z0_0 z0_1 z0_2 z0_3
   go_wp2_with fail
   refine(En x.data (m+1+1+1) _ s3 o3 n3 (by omega) (by omega)).mono ?_;rintro _ W1 ⟨r1,rfl,hr1,q3,f3, -⟩;obtain⟨t3,u3,v3⟩:=HB3.out W1 _ f3 q3;have p1:0<=r1:=by have:=hr1.out;omega
   have l1:r1+(cN (x.aO.flatMap aU.enc):Nat)<=4611686018427387904:=by have:=hr1.out;omega
   rw[qF]at t3
   replace t3:T1 W1 (.sl n (L++(.v (.int .i64 m))::(.v (.int .i64 (m+1)))::(.v (.int .i64 (m+1+1)))::(.sl x.data.length (jQ (x.data.flatMap dJ) (m+1+1+1)))::(.sl x.aO.length (x.aO.flatMap aU.enc))::R)) bs (.slice (some ⟨b,off,none⟩) n c):=t3
   have hfz1:∀o,World.frozen? W1 ⟨b,o,none⟩=false:=fun o=>(by obtain⟨_,cur,tt,hrow⟩:=v3.2 b hbm;simp[World.frozen?,hrow])
   have z1_4:T1 W1 (.sl n ((L++[.v (.int .i64 m),.v (.int .i64 (m+1)),.v (.int .i64 (m+1+1)),.sl x.data.length (jQ (x.data.flatMap dJ) (m+1+1+1))])++(.sl x.aO.length (x.aO.flatMap aU.enc))::R)) bs (.slice (some ⟨b,off,none⟩) n c):=by rw[qF];exact t3
   obtain⟨A1_4,c1_4,b1_4,y1_4, -⟩:=z1_4.sub v3 (o:=off+j*5+4) rfl (by simp only[qA,qI,qR,hml]<;>omega);have g4:T1 W1 (.sl n ((L++[.v (.int .i64 m),.v (.int .i64 (m+1)),.v (.int .i64 (m+1+1)),.sl x.data.length (jQ (x.data.flatMap dJ) (m+1+1+1))])++(.sl x.aO.length (x.aO.flatMap aU.enc))::R)) bs (.slice (some ⟨b,off,none⟩) n c):=by rw[qF];exact t3
   obtain⟨A4,c4,b4,k4,s4,n4,o4,nb4,back4⟩:=g4.sub v3 (o:=off+j*5+4) rfl (by simp only[qA,qI,qR,hml]<;>omega)
   obtain⟨rfl,rfl⟩:A1_4=A4/\c1_4=c4:=by
    have hh:=k4;rw[y1_4]at hh;simpa using hh
   clear k4;have HB4:=Lib.hid back4;clear back4 g4;clear z1_4
   go_wp2_with fail
   refine(Gg x.aO (r1) _ s4 o4 n4 (by omega) (by omega)).mono ?_;rintro _ W2 ⟨r2,rfl,hr2,q4,f4, -⟩;obtain⟨t4,u4,v4⟩:=HB4.out W2 _ f4 q4;have p2:0<=r2:=by have:=hr2.out;omega
   have l2:r2+0<=4611686018427387904:=by have:=hr2.out;omega
   rw[qF]at t4
   replace t4:T1 W2 (.sl n (L++(.v (.int .i64 m))::(.v (.int .i64 (m+1)))::(.v (.int .i64 (m+1+1)))::(.sl x.data.length (jQ (x.data.flatMap dJ) (m+1+1+1)))::(.sl x.aO.length (jQ (x.aO.flatMap aU.enc) (r1)))::R)) bs (.slice (some ⟨b,off,none⟩) n c):=t4
   go_wp2_with fail
   have hmk:jQ (aH.enc x) m=[.v (.int .i64 m),.v (.int .i64 (m+1)),.v (.int .i64 (m+1+1)),.sl x.data.length (jQ (x.data.flatMap dJ) (m+1+1+1)),.sl x.aO.length (jQ (x.aO.flatMap aU.enc) (r1))]:=by
    show jQ [.v (.int .i64 x.kind),.v (.int .i64 x.level),.v (.int .i64 x.value),.sl x.data.length (x.data.flatMap dJ),.sl x.aO.length (x.aO.flatMap aU.enc)] m=_;simp only[lG,jS,vw,y7,tN,nG]
    all_goals (have h1:=hr1.out;have h2:=hr2.out;exact(gu (oJ (by omega)) (gu (oJ (by omega)) (gu (oJ (by omega)) (gu (N7 (by omega)) (gu (N7 (by omega)) rfl))))))
   have hfin:jQ ((xs.take (j+1)).flatMap aH.enc) k++(xs.drop (j+1)).flatMap aH.enc=L++(.v (.int .i64 m))::(.v (.int .i64 (m+1)))::(.v (.int .i64 (m+1+1)))::(.sl x.data.length (jQ (x.data.flatMap dJ) (m+1+1+1)))::(.sl x.aO.length (jQ (x.aO.flatMap aU.enc) (r1)))::R:=by
    rw[hsn.out,iN,HL.out,<-hm.out,hmk,qF,HR.out];rfl
   exact⟨⟨j+1,r2,by omega,by go_num,by first|rfl|go_num,Lib.hid (by rw[hsn.out,dh];have h1:=hr1.out;have h2:=hr2.out;have h8:=hcx.out;have h9:=hm.out;omega),by omega,by rw[hfin];exact t4,(((((hon).trans u0).trans u1).trans u2).trans u3).trans u4,v4⟩,by simp[intOf];omega⟩
  .have:j=n:=by omega
   subst this
   go_wp2_with fail
   go_ret;have hl:=Hn.out;rw[qN (by omega),List.drop_of_length_le (by omega)]at ht;have hm':=hm.out;rw[qN (by omega)]at hm';exact⟨m,rfl,hm',by simpa using ht,hon,hw⟩
theorem K6(x:bC)(k:Int){bs us}{lo:Nat}(w:World)(hx:TN w x.enc bs us)(ho:Own lo w bs)(hk0:0<=k)(hk1:k+(x.cnt:Nat)<=4611686018427387904):
  Calls Tryz.prog 20 #[.agg us.toArray,.int .i64 k] w fun e w'=>∃r:Int,e=.returned (.int .i64 r)/\Hid (r=k+(x.cnt:Nat))/\TN w' (x.Zbk k) bs us/\oK bs w w'/\Own lo w' bs:=by
 have hlt:=hx.lt;obtain⟨A0,c0,b0,rfl,rfl,t0,l0,m0⟩:=bC.us hx;have o0:=ho;have g0:w.heap.size∉bs:=fun hm=>by have:=hlt _ (show w.heap.size∈bs by simp[hm]);omega
 have B0:∀S,Below w.heap.size w (w.alloc S):=fun _=>(Below.refl _ _).alloc (Nat.le_refl _) _
 have hcn:x.cnt=cN (x.agents.flatMap aH.enc):=rfl;rw[hcn]at hk1;clear hcn hx
 go_enter Tryz.func20,Tryz.ntmps20
 go_wp2_with fail
 refine(wS x.agents k _ (t0.below (B0 _)) (o0.below (B0 _)) (Nat.le_trans l0 m0) (by omega) (by omega)).mono ?_;rintro _ w1 ⟨r1,rfl,hr1,S0,f1,V0⟩;have p1:0<=r1:=by have:=hr1.out;omega
 have b1_:r1+0<=4611686018427387904:=by have:=hr1.out;omega
 have u1:=(f1.other w.heap.size (by simp) g0).trans (heap_alloc_new w _);have z1:w.heap.size<w1.heap.size:=by have:=f1.size;simp at this;omega
 have F1:oK (bs) w w1:=oK.trans (oK.BH (B0 _)) (f1.sub (fun y hy=>by first|exact hy|(simp at hy |-;grind)));have q1_0:=cell_of_row _ _ 0 _ _ _ u1;simp only[List.getElem?_toArray,List.getElem?_cons_zero,List.getElem?_cons_succ]at q1_0
 go_wp2_with fail
 go_ret;refine⟨r1,rfl,?_,?_,F1,ho.tC F1⟩
 .show _=_;have hcn:x.cnt=cN (x.agents.flatMap aH.enc):=rfl;have h1:=hr1.out;omega
 .have h1:=hr1.out;skip;have h:=(TN.FC S0 TN.done);simp only[qS,List.nil_append,qF,List.cons_append]at h;unfold bC.Zbk;simpa only[qS,List.nil_append,qF,List.cons_append]using h
theorem Jy(xs:List bC)(k:Int){A:Option Addr}{c lo:Nat}{bs}(w:World)(hx:T1 w (.sl xs.length (xs.flatMap bC.enc)) bs (.slice A xs.length c))(ho:Own lo w bs)(hn':xs.length<=maxLen)(hk0:0<=k)(hk1:k+(cN (xs.flatMap bC.enc):Nat)<=4611686018427387904):
  Calls Tryz.prog 19 #[.slice A xs.length c,.int .i64 k] w fun e w'=>∃r:Int,e=.returned (.int .i64 r)/\Hid (r=k+(cN (xs.flatMap bC.enc):Nat))/\T1 w' (.sl xs.length (jQ (xs.flatMap bC.enc) k)) bs (.slice A xs.length c)/\oK bs w w'/\Own lo w' bs:=by
 unfold maxLen at hn';obtain⟨n,hn⟩:∃n,xs.length=n:=⟨_,rfl⟩;rw[hn]at hx hn' |-;have Hn:Hid (xs.length=n):=hn;clear hn;have hkk:=Lib.hid hk1;clear hk1
 go_enter Tryz.func19,Tryz.ntmps19
 go_wp2_with fail
 go_loopw [1,5] (fun l i w'=>∃(j:Nat) (m:Int),j<=n/\i=.int .i64 j/\l=.int .i64 m/\Hid (m=k+(cN ((xs.take j).flatMap bC.enc):Nat))/\0<=m/\T1 w' (.sl n (jQ ((xs.take j).flatMap bC.enc) k++(xs.drop j).flatMap bC.enc)) bs (.slice A n c)/\oK bs w w'/\Own lo w' bs) (fun _ i _=>n-(intOf i).toNat)
 case atStart=>exact⟨0,k,Nat.zero_le _,rfl,rfl,Lib.hid (by simp[gJ]),hk0,by simpa[jS]using hx,oK.refl _ _,ho⟩
 case round=>
  obtain⟨j,m,hj,rfl,rfl,hm,hm0,ht,hon,hw⟩:=hrel
  by_cases hlt:j<n
  .obtain⟨x,hxk,hsp,hll,hsn,hdr⟩:=lW bC.enc 1 bC.bQ Hn hlt;rw[hdr.out,qU]at ht;have hml:(jQ ((xs.take j).flatMap bC.enc) k).length=j*1:=by rw[sJ,hll]
   generalize hL:jQ ((xs.take j).flatMap bC.enc) k=L at ht hml;have HL:=Lib.hid hL;clear hL hll;have hcx:Hid (cN (bC.enc x)=cN (x.agents.flatMap aH.enc)):=by show cN [.sl x.agents.length (x.agents.flatMap aH.enc)]=_;simp only[iY,tN,nG,gJ]<;>omega
   have hbd:m+(cN (x.agents.flatMap aH.enc):Nat)<=4611686018427387904:=by
    have h1:=hm.out;have h2:=hkk.out;have h3:=hcx.out
    have h4:=hsp.out;have h5:cN (xs.flatMap bC.enc)=cN ((xs.take j).flatMap bC.enc)+(cN (bC.enc x)+cN ((xs.drop (j+1)).flatMap bC.enc)):=by rw[h4,dh,dh]
    omega
   replace ht:T1 wr (.sl n (L++(.sl x.agents.length (x.agents.flatMap aH.enc))::(xs.drop (j+1)).flatMap bC.enc)) bs (.slice A n c):=ht
   generalize hR:(xs.drop (j+1)).flatMap bC.enc=R at ht;have HR:=Lib.hid hR;clear hR;obtain⟨b,off,rfl, -,hbm,hbl,hblo,hfz⟩:=ht.row hw;have z0_0:T1 wr (.sl n (L++(.sl x.agents.length (x.agents.flatMap aH.enc))::R)) bs (.slice (some ⟨b,off,none⟩) n c):=by exact ht
   obtain⟨A0_0,c0_0,b0_0,y0_0, -⟩:=z0_0.sub hw (o:=off+j) rfl (by simp only[qA,qI,qR,hml]<;>omega);have g0:=ht;obtain⟨A0,c0,b0,k0,s0,n0,o0,nb0,back0⟩:=g0.sub hw (o:=off+j) rfl (by simp only[qA,qI,qR,hml]<;>omega)
   obtain⟨rfl,rfl⟩:A0_0=A0/\c0_0=c0:=by
    have hh:=k0;rw[y0_0]at hh;simpa using hh
   clear k0;have HB0:=Lib.hid back0;clear back0 g0;clear z0_0
   go_wp2_with fail
   refine(wS x.agents (m) _ s0 o0 n0 (by omega) (by omega)).mono ?_;rintro _ W1 ⟨r1,rfl,hr1,q0,f0, -⟩;obtain⟨t0,u0,v0⟩:=HB0.out W1 _ f0 q0;have p1:0<=r1:=by have:=hr1.out;omega
   have l1:r1+0<=4611686018427387904:=by have:=hr1.out;omega
   replace t0:T1 W1 (.sl n (L++(.sl x.agents.length (jQ (x.agents.flatMap aH.enc) (m)))::R)) bs (.slice (some ⟨b,off,none⟩) n c):=t0
   go_wp2_with fail
   have hmk:jQ (bC.enc x) m=[.sl x.agents.length (jQ (x.agents.flatMap aH.enc) (m))]:=by
    show jQ [.sl x.agents.length (x.agents.flatMap aH.enc)] m=_;simp only[lG,jS,vw,y7,tN,nG]
    all_goals (have h1:=hr1.out;exact(gu (N7 (by omega)) rfl))
   have hfin:jQ ((xs.take (j+1)).flatMap bC.enc) k++(xs.drop (j+1)).flatMap bC.enc=L++(.sl x.agents.length (jQ (x.agents.flatMap aH.enc) (m)))::R:=by
    rw[hsn.out,iN,HL.out,<-hm.out,hmk,qF,HR.out];rfl
   exact⟨⟨j+1,r1,by omega,by go_num,by first|rfl|go_num,Lib.hid (by rw[hsn.out,dh];have h1:=hr1.out;have h8:=hcx.out;have h9:=hm.out;omega),by omega,by rw[hfin];exact t0,(hon).trans u0,v0⟩,by simp[intOf];omega⟩
  .have:j=n:=by omega
   subst this
   go_wp2_with fail
   go_ret;have hl:=Hn.out;rw[qN (by omega),List.drop_of_length_le (by omega)]at ht;have hm':=hm.out;rw[qN (by omega)]at hm';exact⟨m,rfl,hm',by simpa using ht,hon,hw⟩
end Go.Proofs.YtbdimbjclhmeoaaGreat
