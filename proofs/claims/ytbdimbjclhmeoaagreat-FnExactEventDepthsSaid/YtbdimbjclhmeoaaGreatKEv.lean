
/- What the laws number and look for again in these types. Printed by gen_mk.py. -/
import Derived.Test.YtbdimbjclhmeoaaGreatRh
set_option linter.unusedSimpArgs false
set_option linter.unusedVariables false
namespace Go.Tr
open Go Go.RowKit
theorem aM.Yr(x:aM):cN x.enc<=32*(1+(fun _=>0) x):=by
 have hc:cN x.enc=1+1+1+1+1:=by show cN [.v (.int .i64 x.a),.v (.int .i64 x.b),.v (.int .i64 x.class_),.v (.int .i64 x.first_),.v (.int .i64 x.count)]=_;simp only[iY,tN,nG,gJ]<;>omega
 omega
end Go.Tr
namespace Go.Proofs.YtbdimbjclhmeoaaGreat
open Go Go.RowKit Go.Proofs Go.Tr
set_option maxHeartbeats 4000000 in
theorem wT(xs:List aM)(k:Int){A:Option Addr}{c lo:Nat}{bs}(w:World)(hx:T1 w (.sl xs.length (xs.flatMap aM.enc)) bs (.slice A xs.length c))(ho:Own lo w bs)(hn':xs.length<=maxLen)(hk0:0<=k)(hk1:k+(cN (xs.flatMap aM.enc):Nat)<=4611686018427387904):
  Calls Tryz.prog 21 #[.slice A xs.length c,.int .i64 k] w fun e w'=>∃r:Int,e=.returned (.int .i64 r)/\Hid (r=k+(cN (xs.flatMap aM.enc):Nat))/\T1 w' (.sl xs.length (jQ (xs.flatMap aM.enc) k)) bs (.slice A xs.length c)/\oK bs w w'/\Own lo w' bs:=by
 unfold maxLen at hn';obtain⟨n,hn⟩:∃n,xs.length=n:=⟨_,rfl⟩;rw[hn]at hx hn' |-;have Hn:Hid (xs.length=n):=hn;clear hn;have hkk:=Lib.hid hk1;clear hk1
 go_enter Tryz.func21,Tryz.ntmps21
 go_wp2_with fail
 go_loopw [1,5] (fun l i w'=>∃(j:Nat) (m:Int),j<=n/\i=.int .i64 j/\l=.int .i64 m/\Hid (m=k+(cN ((xs.take j).flatMap aM.enc):Nat))/\0<=m/\T1 w' (.sl n (jQ ((xs.take j).flatMap aM.enc) k++(xs.drop j).flatMap aM.enc)) bs (.slice A n c)/\oK bs w w'/\Own lo w' bs) (fun _ i _=>n-(intOf i).toNat)
 case atStart=>exact⟨0,k,Nat.zero_le _,rfl,rfl,Lib.hid (by simp[gJ]),hk0,by simpa[jS]using hx,oK.refl _ _,ho⟩
 case round=>
  obtain⟨j,m,hj,rfl,rfl,hm,hm0,ht,hon,hw⟩:=hrel
  by_cases hlt:j<n
  .obtain⟨x,hxk,hsp,hll,hsn,hdr⟩:=lW aM.enc 5 aM.bQ Hn hlt;rw[hdr.out,qU]at ht;have hml:(jQ ((xs.take j).flatMap aM.enc) k).length=j*5:=by rw[sJ,hll]
   generalize hL:jQ ((xs.take j).flatMap aM.enc) k=L at ht hml;have HL:=Lib.hid hL;clear hL hll;have hcx:Hid (cN (aM.enc x)=1+1+1+1+1):=by show cN [.v (.int .i64 x.a),.v (.int .i64 x.b),.v (.int .i64 x.class_),.v (.int .i64 x.first_),.v (.int .i64 x.count)]=_;simp only[iY,tN,nG,gJ]<;>omega
   have hbd:m+1+1+1+1+1<=4611686018427387904:=by
    have h1:=hm.out;have h2:=hkk.out;have h3:=hcx.out
    have h4:=hsp.out;have h5:cN (xs.flatMap aM.enc)=cN ((xs.take j).flatMap aM.enc)+(cN (aM.enc x)+cN ((xs.drop (j+1)).flatMap aM.enc)):=by rw[h4,dh,dh]
    omega
   replace ht:T1 wr (.sl n (L++(.v (.int .i64 x.a))::(.v (.int .i64 x.b))::(.v (.int .i64 x.class_))::(.v (.int .i64 x.first_))::(.v (.int .i64 x.count))::(xs.drop (j+1)).flatMap aM.enc)) bs (.slice A n c):=ht
   generalize hR:(xs.drop (j+1)).flatMap aM.enc=R at ht;have HR:=Lib.hid hR;clear hR;obtain⟨b,off,rfl, -,hbm,hbl,hblo,hfz⟩:=ht.row hw;have z0_0:T1 wr (.sl n (L++(.v (.int .i64 x.a))::(.v (.int .i64 x.b))::(.v (.int .i64 x.class_))::(.v (.int .i64 x.first_))::(.v (.int .i64 x.count))::R)) bs (.slice (some ⟨b,off,none⟩) n c):=by exact ht
   have y0_0:=(z0_0.leaf hw (o:=off+j*5) rfl (by simp only[qA,qI,qR,hml]<;>omega)).1;have z0_1:T1 wr (.sl n ((L++[.v (.int .i64 x.a)])++(.v (.int .i64 x.b))::(.v (.int .i64 x.class_))::(.v (.int .i64 x.first_))::(.v (.int .i64 x.count))::R)) bs (.slice (some ⟨b,off,none⟩) n c):=by rw[qF];exact ht
   have y0_1:=(z0_1.leaf hw (o:=off+j*5+1) rfl (by simp only[qA,qI,qR,hml]<;>omega)).1;have z0_2:T1 wr (.sl n ((L++[.v (.int .i64 x.a),.v (.int .i64 x.b)])++(.v (.int .i64 x.class_))::(.v (.int .i64 x.first_))::(.v (.int .i64 x.count))::R)) bs (.slice (some ⟨b,off,none⟩) n c):=by rw[qF];exact ht
   have y0_2:=(z0_2.leaf hw (o:=off+j*5+2) rfl (by simp only[qA,qI,qR,hml]<;>omega)).1;have z0_3:T1 wr (.sl n ((L++[.v (.int .i64 x.a),.v (.int .i64 x.b),.v (.int .i64 x.class_)])++(.v (.int .i64 x.first_))::(.v (.int .i64 x.count))::R)) bs (.slice (some ⟨b,off,none⟩) n c):=by rw[qF];exact ht
   have y0_3:=(z0_3.leaf hw (o:=off+j*5+3) rfl (by simp only[qA,qI,qR,hml]<;>omega)).1;have z0_4:T1 wr (.sl n ((L++[.v (.int .i64 x.a),.v (.int .i64 x.b),.v (.int .i64 x.class_),.v (.int .i64 x.first_)])++(.v (.int .i64 x.count))::R)) bs (.slice (some ⟨b,off,none⟩) n c):=by rw[qF];exact ht
   have y0_4:=(z0_4.leaf hw (o:=off+j*5+4) rfl (by simp only[qA,qI,qR,hml]<;>omega)).1;obtain⟨t0,u0,v0⟩:=(ht.leaf hw (o:=off+j*5) rfl (by simp only[qA,qI,qR,hml]<;>omega)).2 (.int .i64 m) rfl
   replace t0:T1 (World.setCell wr ⟨b,off+j*5,none⟩ (.int .i64 m)) (.sl n (L++(.v (.int .i64 m))::(.v (.int .i64 x.b))::(.v (.int .i64 x.class_))::(.v (.int .i64 x.first_))::(.v (.int .i64 x.count))::R)) bs (.slice (some ⟨b,off,none⟩) n c):=t0
   replace t0:T1 (World.setCell wr ⟨b,off+j*5,none⟩ (.int .i64 m)) (.sl n ((L++[.v (.int .i64 m)])++(.v (.int .i64 x.b))::(.v (.int .i64 x.class_))::(.v (.int .i64 x.first_))::(.v (.int .i64 x.count))::R)) bs (.slice (some ⟨b,off,none⟩) n c):=by rw[qF];exact t0
   obtain⟨t1,u1,v1⟩:=(t0.leaf v0 (o:=off+j*5+1) rfl (by simp only[qA,qI,qR,hml]<;>omega)).2 (.int .i64 (m+1)) rfl;rw[qF]at t1
   replace t1:T1 (World.setCell (World.setCell wr ⟨b,off+j*5,none⟩ (.int .i64 m)) ⟨b,off+j*5+1,none⟩ (.int .i64 (m+1))) (.sl n (L++(.v (.int .i64 m))::(.v (.int .i64 (m+1)))::(.v (.int .i64 x.class_))::(.v (.int .i64 x.first_))::(.v (.int .i64 x.count))::R)) bs (.slice (some ⟨b,off,none⟩) n c):=t1
   replace t1:T1 (World.setCell (World.setCell wr ⟨b,off+j*5,none⟩ (.int .i64 m)) ⟨b,off+j*5+1,none⟩ (.int .i64 (m+1))) (.sl n ((L++[.v (.int .i64 m),.v (.int .i64 (m+1))])++(.v (.int .i64 x.class_))::(.v (.int .i64 x.first_))::(.v (.int .i64 x.count))::R)) bs (.slice (some ⟨b,off,none⟩) n c):=by rw[qF];exact t1
   obtain⟨t2,u2,v2⟩:=(t1.leaf v1 (o:=off+j*5+2) rfl (by simp only[qA,qI,qR,hml]<;>omega)).2 (.int .i64 (m+1+1)) rfl;rw[qF]at t2
   replace t2:T1 (World.setCell (World.setCell (World.setCell wr ⟨b,off+j*5,none⟩ (.int .i64 m)) ⟨b,off+j*5+1,none⟩ (.int .i64 (m+1))) ⟨b,off+j*5+2,none⟩ (.int .i64 (m+1+1))) (.sl n (L++(.v (.int .i64 m))::(.v (.int .i64 (m+1)))::(.v (.int .i64 (m+1+1)))::(.v (.int .i64 x.first_))::(.v (.int .i64 x.count))::R)) bs (.slice (some ⟨b,off,none⟩) n c):=t2
   replace t2:T1 (World.setCell (World.setCell (World.setCell wr ⟨b,off+j*5,none⟩ (.int .i64 m)) ⟨b,off+j*5+1,none⟩ (.int .i64 (m+1))) ⟨b,off+j*5+2,none⟩ (.int .i64 (m+1+1))) (.sl n ((L++[.v (.int .i64 m),.v (.int .i64 (m+1)),.v (.int .i64 (m+1+1))])++(.v (.int .i64 x.first_))::(.v (.int .i64 x.count))::R)) bs (.slice (some ⟨b,off,none⟩) n c):=by rw[qF];exact t2
   obtain⟨t3,u3,v3⟩:=(t2.leaf v2 (o:=off+j*5+3) rfl (by simp only[qA,qI,qR,hml]<;>omega)).2 (.int .i64 (m+1+1+1)) rfl;rw[qF]at t3
   replace t3:T1 (World.setCell (World.setCell (World.setCell (World.setCell wr ⟨b,off+j*5,none⟩ (.int .i64 m)) ⟨b,off+j*5+1,none⟩ (.int .i64 (m+1))) ⟨b,off+j*5+2,none⟩ (.int .i64 (m+1+1))) ⟨b,off+j*5+3,none⟩ (.int .i64 (m+1+1+1))) (.sl n (L++(.v (.int .i64 m))::(.v (.int .i64 (m+1)))::(.v (.int .i64 (m+1+1)))::(.v (.int .i64 (m+1+1+1)))::(.v (.int .i64 x.count))::R)) bs (.slice (some ⟨b,off,none⟩) n c):=t3
   replace t3:T1 (World.setCell (World.setCell (World.setCell (World.setCell wr ⟨b,off+j*5,none⟩ (.int .i64 m)) ⟨b,off+j*5+1,none⟩ (.int .i64 (m+1))) ⟨b,off+j*5+2,none⟩ (.int .i64 (m+1+1))) ⟨b,off+j*5+3,none⟩ (.int .i64 (m+1+1+1))) (.sl n ((L++[.v (.int .i64 m),.v (.int .i64 (m+1)),.v (.int .i64 (m+1+1)),.v (.int .i64 (m+1+1+1))])++(.v (.int .i64 x.count))::R)) bs (.slice (some ⟨b,off,none⟩) n c):=by rw[qF];exact t3
   obtain⟨t4,u4,v4⟩:=(t3.leaf v3 (o:=off+j*5+4) rfl (by simp only[qA,qI,qR,hml]<;>omega)).2 (.int .i64 (m+1+1+1+1)) rfl;rw[qF]at t4
   replace t4:T1 (World.setCell (World.setCell (World.setCell (World.setCell (World.setCell wr ⟨b,off+j*5,none⟩ (.int .i64 m)) ⟨b,off+j*5+1,none⟩ (.int .i64 (m+1))) ⟨b,off+j*5+2,none⟩ (.int .i64 (m+1+1))) ⟨b,off+j*5+3,none⟩ (.int .i64 (m+1+1+1))) ⟨b,off+j*5+4,none⟩ (.int .i64 (m+1+1+1+1))) (.sl n (L++(.v (.int .i64 m))::(.v (.int .i64 (m+1)))::(.v (.int .i64 (m+1+1)))::(.v (.int .i64 (m+1+1+1)))::(.v (.int .i64 (m+1+1+1+1)))::R)) bs (.slice (some ⟨b,off,none⟩) n c):=t4
   clear z0_0 z0_1 z0_2 z0_3 z0_4
   go_wp2_with fail
   have hmk:jQ (aM.enc x) m=[.v (.int .i64 m),.v (.int .i64 (m+1)),.v (.int .i64 (m+1+1)),.v (.int .i64 (m+1+1+1)),.v (.int .i64 (m+1+1+1+1))]:=by
    show jQ [.v (.int .i64 x.a),.v (.int .i64 x.b),.v (.int .i64 x.class_),.v (.int .i64 x.first_),.v (.int .i64 x.count)] m=_;simp only[lG,jS,vw,y7,tN,nG]
    all_goals (exact(gu (oJ (by omega)) (gu (oJ (by omega)) (gu (oJ (by omega)) (gu (oJ (by omega)) (gu (oJ (by omega)) rfl))))))
   have hfin:jQ ((xs.take (j+1)).flatMap aM.enc) k++(xs.drop (j+1)).flatMap aM.enc=L++(.v (.int .i64 m))::(.v (.int .i64 (m+1)))::(.v (.int .i64 (m+1+1)))::(.v (.int .i64 (m+1+1+1)))::(.v (.int .i64 (m+1+1+1+1)))::R:=by
    rw[hsn.out,iN,HL.out,<-hm.out,hmk,qF,HR.out];rfl
   exact⟨⟨j+1,m+1+1+1+1+1,by omega,by go_num,by first|rfl|go_num,Lib.hid (by rw[hsn.out,dh];have h8:=hcx.out;have h9:=hm.out;omega),by omega,by rw[hfin];exact t4,(((((hon).trans u0).trans u1).trans u2).trans u3).trans u4,v4⟩,by simp[intOf];omega⟩
  .have:j=n:=by omega
   subst this
   go_wp2_with fail
   go_ret;have hl:=Hn.out;rw[qN (by omega),List.drop_of_length_le (by omega)]at ht;have hm':=hm.out;rw[qN (by omega)]at hm';exact⟨m,rfl,hm',by simpa using ht,hon,hw⟩
set_option maxHeartbeats 4000000 in
theorem wO(xs:List aM)(k r:Int)(n:Nat){A:Option Addr}{c:Nat}{bs:dF}(w:World)(hx:T1 w (.sl n (jQ (xs.flatMap aM.enc) k)) bs (.slice A n c))(Hn:Hid (xs.length=n))(hk0:0<=k)(hk1:r<=4611686018427387904)(Hr:Hid (r=k+(cN (xs.flatMap aM.enc):Nat))):Calls Tryz.prog 22 #[.slice A n c,.int .i64 k] w fun e w'=>e=.returned (.int .i64 (r))/\Ext w w':=by
 refine fD fun e=> ?_
 have hn:=hx.JE
 go_enter Tryz.func22,Tryz.ntmps22
 go_wp2_with fail
 repeat (refine bM _ (by kernel_rfl) (by kernel_rfl) ?_;(repeat (go_big_quiet_step (fail)));refine wpQuiet_nil ?_;intro e;go_wp2_with fail)
 go_loopw [1,5] (fun l i w'=>∃(j:Nat) (m:Int),j<=n/\i=.int .i64 j/\l=.int .i64 m/\Hid (m=k+(cN ((xs.take j).flatMap aM.enc):Nat))/\0<=m/\∃e:bL w,w'=e.to) (fun _ i _=>n-(intOf i).toNat)
 case atStart=>exact⟨0,k,Nat.zero_le _,rfl,rfl,Lib.hid (by simp[gJ]),hk0,_,rfl⟩
 case round=>
  obtain⟨j,m,hj,rfl,rfl,hm,hm0,e,rfl⟩:=hrel
  by_cases hlt:j<n
  .obtain⟨x,hxk,hsp,hll,hsn, -⟩:=lW aM.enc 5 aM.bQ Hn hlt;have hcx:Hid (cN (aM.enc x)=1+1+1+1+1):=by show cN [.v (.int .i64 x.a),.v (.int .i64 x.b),.v (.int .i64 x.class_),.v (.int .i64 x.first_),.v (.int .i64 x.count)]=_;simp only[iY,tN,nG,gJ]<;>omega
   have hbd:m+1+1+1+1+1<=4611686018427387904:=by
    have h1:=hm.out;have h2:=Hr.out;have h3:=hcx.out
    have h5:cN (xs.flatMap aM.enc)=cN ((xs.take j).flatMap aM.enc)+(cN (aM.enc x)+cN ((xs.drop (j+1)).flatMap aM.enc)):=by rw[hsp.out,dh,dh]
    omega
   have hmk:jQ (aM.enc x) m=[.v (.int .i64 (m)),.v (.int .i64 (m+1)),.v (.int .i64 (m+1+1)),.v (.int .i64 (m+1+1+1)),.v (.int .i64 (m+1+1+1+1))]:=by
    show jQ [.v (.int .i64 x.a),.v (.int .i64 x.b),.v (.int .i64 x.class_),.v (.int .i64 x.first_),.v (.int .i64 x.count)] m=_;simp only[lG,jS,vw,y7,tN,nG]
    all_goals (exact(gu (oJ (by omega)) (gu (oJ (by omega)) (gu (oJ (by omega)) (gu (oJ (by omega)) (gu (oJ (by omega)) rfl))))))
   have hxx:=hx;rw[hsp.out,iN,iN,<-hm.out,hmk]at hxx;have hml:(jQ ((xs.take j).flatMap aM.enc) k).length=j*5:=by rw[sJ,hll]
   generalize hL:jQ ((xs.take j).flatMap aM.enc) k=L at hxx hml;clear hL hll hmk;generalize hR:jQ ((xs.drop (j+1)).flatMap aM.enc) (m+(cN (aM.enc x):Nat))=R at hxx;clear hR
   replace hxx:T1 w (.sl n (L++(.v (.int .i64 (m)))::(.v (.int .i64 (m+1)))::(.v (.int .i64 (m+1+1)))::(.v (.int .i64 (m+1+1+1)))::(.v (.int .i64 (m+1+1+1+1)))::R)) bs (.slice A n c):=hxx
   obtain⟨b,off,rfl⟩:=hxx.Zbg;have z0:T1 w (.sl n (L++(.v (.int .i64 (m)))::(.v (.int .i64 (m+1)))::(.v (.int .i64 (m+1+1)))::(.v (.int .i64 (m+1+1+1)))::(.v (.int .i64 (m+1+1+1+1)))::R)) bs (.slice (some ⟨b,off,none⟩) n c):=by exact hxx
   have y0:=z0.G8 (o:=off+j*5) rfl (by simp only[qA,qI,qR,hml]<;>omega);have z1:T1 w (.sl n ((L++[.v (.int .i64 (m))])++(.v (.int .i64 (m+1)))::(.v (.int .i64 (m+1+1)))::(.v (.int .i64 (m+1+1+1)))::(.v (.int .i64 (m+1+1+1+1)))::R)) bs (.slice (some ⟨b,off,none⟩) n c):=by rw[qF];exact hxx
   have y1:=z1.G8 (o:=off+j*5+1) rfl (by simp only[qA,qI,qR,hml]<;>omega);have z2:T1 w (.sl n ((L++[.v (.int .i64 (m)),.v (.int .i64 (m+1))])++(.v (.int .i64 (m+1+1)))::(.v (.int .i64 (m+1+1+1)))::(.v (.int .i64 (m+1+1+1+1)))::R)) bs (.slice (some ⟨b,off,none⟩) n c):=by rw[qF];exact hxx
   have y2:=z2.G8 (o:=off+j*5+2) rfl (by simp only[qA,qI,qR,hml]<;>omega);have z3:T1 w (.sl n ((L++[.v (.int .i64 (m)),.v (.int .i64 (m+1)),.v (.int .i64 (m+1+1))])++(.v (.int .i64 (m+1+1+1)))::(.v (.int .i64 (m+1+1+1+1)))::R)) bs (.slice (some ⟨b,off,none⟩) n c):=by rw[qF];exact hxx
   have y3:=z3.G8 (o:=off+j*5+3) rfl (by simp only[qA,qI,qR,hml]<;>omega);have z4:T1 w (.sl n ((L++[.v (.int .i64 (m)),.v (.int .i64 (m+1)),.v (.int .i64 (m+1+1)),.v (.int .i64 (m+1+1+1))])++(.v (.int .i64 (m+1+1+1+1)))::R)) bs (.slice (some ⟨b,off,none⟩) n c):=by rw[qF];exact hxx
   have y4:=z4.G8 (o:=off+j*5+4) rfl (by simp only[qA,qI,qR,hml]<;>omega);clear hxx z0 z1 z2 z3 z4
   go_wp2_with fail
   repeat (refine bM _ (by kernel_rfl) (by kernel_rfl) ?_;(repeat (go_big_quiet_step (fail)));refine wpQuiet_nil ?_;intro e;go_wp2_with fail)
   exact⟨⟨j+1,m+1+1+1+1+1,by omega,by go_num,by first|rfl|go_num,Lib.hid (by rw[hsn.out,dh];have h8:=hcx.out;have h9:=hm.out;omega),by omega,_,rfl⟩,by simp[intOf];omega⟩
  .have:j=n:=by omega
   subst this
   have E:Hid (r=m):=by
    have h1:=hm.out;have h2:=Hr.out;have h3:=Hn.out
    rw[qN (by omega)]at h1;show _=_;omega
   go_wp2_with fail
   repeat (refine bM _ (by kernel_rfl) (by kernel_rfl) ?_;(repeat (go_big_quiet_step (fail)));refine wpQuiet_nil ?_;intro e;go_wp2_with fail)
   go_ret;exact⟨by rw[E.out];rfl,_,rfl⟩
end Go.Proofs.YtbdimbjclhmeoaaGreat
