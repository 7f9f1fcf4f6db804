
/- What the laws number and look for again in these types. Printed by gen_mk.py. -/
import Derived.Test.YtbdimbjclhmeoaaGreatShort
import Derived.Test.YtbdimbjclhmeoaaGreatProg
import Derived.Test.YtbdimbjclhmeoaaGreatSc
import Derived.Test.YtbdimbjclhmeoaaGreatValid
import Derived.BigGuardPart
import Derived.Outline
import Derived.Deep.CutBlock
set_option maxHeartbeats 4000000
set_option linter.unusedSimpArgs false
set_option linter.unusedVariables false
namespace Go.Tr
open Go Go.RowKit
def aW.VT(x:aW)(k:Int):List D:=[.sl x.agents.length (jO (x.agents.flatMap aD.enc) (k))]
def aW.cnt(x:aW):Nat:=cN (x.agents.flatMap aD.enc)
def bP.VT(x:bP)(k:Int):List D:=[.sl x.book.length (jO (x.book.flatMap aW.enc) (k))]++([.sl x.schedule.length (jO (x.schedule.flatMap dI) (k+(cN (x.book.flatMap aW.enc):Nat)))]++([.v (.int .i64 x.every)]++([.v (.int .i64 x.at_)]++(x.net.VT (k+(cN (x.book.flatMap aW.enc):Nat)+(cN (x.schedule.flatMap dI):Nat))++([.sl x.origins.length (jO (x.origins.flatMap bg.enc) (k+(cN (x.book.flatMap aW.enc):Nat)+(cN (x.schedule.flatMap dI):Nat)+(x.net.cnt:Nat)))]++([.sl x.breaks.length (jO (x.breaks.flatMap dD.enc) (k+(cN (x.book.flatMap aW.enc):Nat)+(cN (x.schedule.flatMap dI):Nat)+(x.net.cnt:Nat)+(cN (x.origins.flatMap bg.enc):Nat)))]++([.sl x.points.length (jO (x.points.flatMap aO.enc) (k+(cN (x.book.flatMap aW.enc):Nat)+(cN (x.schedule.flatMap dI):Nat)+(x.net.cnt:Nat)+(cN (x.origins.flatMap bg.enc):Nat)+(cN (x.breaks.flatMap dD.enc):Nat)))])))))))
def bP.cnt(x:bP):Nat:=cN (x.book.flatMap aW.enc)+cN (x.schedule.flatMap dI)+x.net.cnt+cN (x.origins.flatMap bg.enc)+cN (x.breaks.flatMap dD.enc)+cN (x.points.flatMap aO.enc)
theorem aR.BL(x:aR):cN x.enc≤32*(1+(fun _=>0) x):=by
 have hc:cN x.enc=1+1:=by show cN [.v (.int .i64 x.agent),.v (.int .i64 x.slot)]=_;simp only[gX,sK,lV,gF]<;>omega
 omega
theorem aD.BL(x:aD):cN x.enc≤32*(1+x.wt):=by
 have h3:=dw (f:=dI) (g:=(fun _=>0)) Ik x.data;have h4:=dw (f:=aR.enc) (g:=(fun _=>0)) aR.BL x.aN;have hw:x.wt=vH (fun _=>0) x.data+vH (fun _=>0) x.aN:=rfl;have hc:cN x.enc=1+1+1+cN (x.data.flatMap dI)+cN (x.aN.flatMap aR.enc):=by show cN [.v (.int .i64 x.kind),.v (.int .i64 x.level),.v (.int .i64 x.value),.sl x.data.length (x.data.flatMap dI),.sl x.aN.length (x.aN.flatMap aR.enc)]=_;simp only[gX,sK,lV,gF]<;>omega
 omega
theorem aW.BL(x:aW):cN x.enc≤32*(1+x.wt):=by
 have h0:=dw (f:=aD.enc) (g:=aD.wt) aD.BL x.agents;have hw:x.wt=vH aD.wt x.agents:=rfl;have hc:cN x.enc=cN (x.agents.flatMap aD.enc):=by show cN [.sl x.agents.length (x.agents.flatMap aD.enc)]=_;simp only[gX,sK,lV,gF]<;>omega
 omega
theorem aW.LC(x:aW):x.cnt≤32*x.wt:=by
 have h0:=dw (f:=aD.enc) (g:=aD.wt) aD.BL x.agents;have hw:x.wt=vH aD.wt x.agents:=rfl;have hc:x.cnt=cN (x.agents.flatMap aD.enc):=rfl;omega
theorem bg.BL(x:bg):cN x.enc≤32*(1+(fun _=>0) x):=by
 have hc:cN x.enc=1+1+1:=by show cN [.v (.int .i64 x.step),.v (.int .i64 x.def_),.v (.int .i64 x.source)]=_;simp only[gX,sK,lV,gF]<;>omega
 omega
theorem dD.BL(x:dD):cN x.enc≤32*(1+(fun _=>0) x):=by
 have hc:cN x.enc=1+1:=by show cN [.v (.int .i64 x.kind),.v (.int .i64 x.value)]=_;simp only[gX,sK,lV,gF]<;>omega
 omega
theorem aO.BL(x:aO):cN x.enc≤32*(1+x.wt):=by
 have h1:=dw (f:=aD.enc) (g:=aD.wt) aD.BL x.net.agents;have h2:=dw (f:=bg.enc) (g:=(fun _=>0)) bg.BL x.origins;have hw:x.wt=x.net.wt+vH (fun _=>0) x.origins:=rfl;have n1:x.net.wt=vH aD.wt x.net.agents:=rfl;have hc:cN x.enc=1+cN (x.net.agents.flatMap aD.enc)+cN (x.origins.flatMap bg.enc):=by show cN [.v (.int .i64 x.at_),.sl x.net.agents.length (x.net.agents.flatMap aD.enc),.sl x.origins.length (x.origins.flatMap bg.enc)]=_;simp only[gX,sK,lV,gF]<;>omega
 omega
theorem bP.BL(x:bP):cN x.enc≤32*(1+x.wt):=by
 have h0:=dw (f:=aW.enc) (g:=aW.wt) aW.BL x.book;have h1:=dw (f:=dI) (g:=(fun _=>0)) Ik x.schedule;have h4:=dw (f:=aD.enc) (g:=aD.wt) aD.BL x.net.agents;have h5:=dw (f:=bg.enc) (g:=(fun _=>0)) bg.BL x.origins;have h6:=dw (f:=dD.enc) (g:=(fun _=>0)) dD.BL x.breaks;have h7:=dw (f:=aO.enc) (g:=aO.wt) aO.BL x.points;have hw:x.wt=vH aW.wt x.book+vH (fun _=>0) x.schedule+x.net.wt+vH (fun _=>0) x.origins+vH (fun _=>0) x.breaks+vH aO.wt x.points:=rfl
 have n4:x.net.wt=vH aD.wt x.net.agents:=rfl;have hc:cN x.enc=cN (x.book.flatMap aW.enc)+cN (x.schedule.flatMap dI)+1+1+cN (x.net.agents.flatMap aD.enc)+cN (x.origins.flatMap bg.enc)+cN (x.breaks.flatMap dD.enc)+cN (x.points.flatMap aO.enc):=by show cN [.sl x.book.length (x.book.flatMap aW.enc),.sl x.schedule.length (x.schedule.flatMap dI),.v (.int .i64 x.every),.v (.int .i64 x.at_),.sl x.net.agents.length (x.net.agents.flatMap aD.enc),.sl x.origins.length (x.origins.flatMap bg.enc),.sl x.breaks.length (x.breaks.flatMap dD.enc),.sl x.points.length (x.points.flatMap aO.enc)]=_;simp only[gX,sK,lV,gF]<;>omega
 omega
theorem bP.LC(x:bP):x.cnt≤32*x.wt:=by
 have h0:=dw (f:=aW.enc) (g:=aW.wt) aW.BL x.book;have h1:=dw (f:=dI) (g:=(fun _=>0)) Ik x.schedule;have h4:=dw (f:=aD.enc) (g:=aD.wt) aD.BL x.net.agents;have h5:=dw (f:=bg.enc) (g:=(fun _=>0)) bg.BL x.origins;have h6:=dw (f:=dD.enc) (g:=(fun _=>0)) dD.BL x.breaks;have h7:=dw (f:=aO.enc) (g:=aO.wt) aO.BL x.points;have hw:x.wt=vH aW.wt x.book+vH (fun _=>0) x.schedule+x.net.wt+vH (fun _=>0) x.origins+vH (fun _=>0) x.breaks+vH aO.wt x.points:=rfl
 have n4:x.net.wt=vH aD.wt x.net.agents:=rfl;have hc:x.cnt=cN (x.book.flatMap aW.enc)+cN (x.schedule.flatMap dI)+x.net.cnt+cN (x.origins.flatMap bg.enc)+cN (x.breaks.flatMap dD.enc)+cN (x.points.flatMap aO.enc):=rfl;have c2:=aW.LC x.net;omega
end Go.Tr
namespace Go.Proofs.YtbdimbjclhmeoaaGreat
open Go Go.RowKit Go.Proofs Go.Tr
theorem Dk(xs:List Int)(k:Int){A:Option Addr}{c lo:Nat}{bs}(w:World)(hx:T1 w (.sl xs.length (xs.flatMap dI)) bs (.slice A xs.length c))(ho:Own lo w bs)(hn':xs.length≤maxLen)(hk0:0≤k)(hk1:k+(cN (xs.flatMap dI):Nat)≤4611686018427387904):
  Calls Tryz.prog 27 #[.slice A xs.length c,.int .i64 k] w fun e w'=>∃r:Int,e=.returned (.int .i64 r)∧Hid (r=k+(cN (xs.flatMap dI):Nat))∧T1 w' (.sl xs.length (jO (xs.flatMap dI) k)) bs (.slice A xs.length c)∧nC bs w w'∧Own lo w' bs:=by
 unfold maxLen at hn';obtain⟨n,hn⟩:∃n,xs.length=n:=⟨_,rfl⟩;rw[hn]at hx hn' ⊢;have Hn:Hid (xs.length=n):=hn;clear hn;have hkk:=Lib.hid hk1;clear hk1
 go_enter Tryz.func27,Tryz.ntmps27
 go_wp2_with fail
 go_loopw [1,5] (fun l i w'=>∃(j:Nat) (m:Int),j≤n∧i=.int .i64 j∧l=.int .i64 m∧Hid (m=k+(cN ((xs.take j).flatMap dI):Nat))∧0≤m∧T1 w' (.sl n (jO ((xs.take j).flatMap dI) k++(xs.drop j).flatMap dI)) bs (.slice A n c)∧nC bs w w'∧Own lo w' bs) (fun _ i _=>n-(intOf i).toNat)
 case atStart=>exact⟨0,k,Nat.zero_le _,rfl,rfl,Lib.hid (by simp[gF]),hk0,by simpa[kL]using hx,nC.refl _ _,ho⟩
 case round=>
  obtain⟨j,m,hj,rfl,rfl,hm,hm0,ht,hon,hw⟩:=hrel
  by_cases hlt:j<n
  ·obtain⟨x,hxk,hsp,hll,hsn,hdr⟩:=nI dI 1 (fun _=>rfl) Hn hlt;rw[hdr.out,qU]at ht;have hml:(jO ((xs.take j).flatMap dI) k).length=j*1:=by rw[uS,hll]
   generalize hL:jO ((xs.take j).flatMap dI) k=L at ht hml;have HL:=Lib.hid hL;clear hL hll;have hcx:Hid (cN (dI x)=1):=by show cN [.v (.int .i64 x)]=_;simp only[gX,sK,lV,gF]<;>omega
   have hbd:m+1≤4611686018427387904:=by
    have h1:=hm.out;have h2:=hkk.out;have h3:=hcx.out
    have h4:=hsp.out;have h5:cN (xs.flatMap dI)=cN ((xs.take j).flatMap dI)+(cN (dI x)+cN ((xs.drop (j+1)).flatMap dI)):=by rw[h4,dM,dM]
    omega
   replace ht:T1 wr (.sl n (L++(.v (.int .i64 x))::(xs.drop (j+1)).flatMap dI)) bs (.slice A n c):=ht
   generalize hR:(xs.drop (j+1)).flatMap dI=R at ht;have HR:=Lib.hid hR;clear hR;obtain⟨b,off,rfl, -,hbm,hbl,hblo,hfz⟩:=ht.row hw;have z0_0:T1 wr (.sl n (L++(.v (.int .i64 x))::R)) bs (.slice (some ⟨b,off,none⟩) n c):=by exact ht
   have y0_0:=(z0_0.leaf hw (o:=off+j) rfl (by simp only[qA,qI,qR,hml]<;>omega)).1;obtain⟨t0,u0,v0⟩:=(ht.leaf hw (o:=off+j) rfl (by simp only[qA,qI,qR,hml]<;>omega)).2 (.int .i64 m) rfl
   replace t0:T1 (World.setCell wr ⟨b,off+j,none⟩ (.int .i64 m)) (.sl n (L++(.v (.int .i64 m))::R)) bs (.slice (some ⟨b,off,none⟩) n c):=t0
   clear z0_0
   go_wp2_with fail
   have hmk:jO (dI x) m=[.v (.int .i64 m)]:=by
    show jO [.v (.int .i64 x)] m=_;simp only[mW,kL,xu,Ak,sK,lV]
    all_goals (exact(gG (oV (by omega)) rfl))
   have hfin:jO ((xs.take (j+1)).flatMap dI) k++(xs.drop (j+1)).flatMap dI=L++(.v (.int .i64 m))::R:=by
    rw[hsn.out,j5,HL.out,←hm.out,hmk,qF,HR.out];rfl
   exact⟨⟨j+1,m+1,by omega,by go_num,by first|rfl|go_num,Lib.hid (by rw[hsn.out,dM];have h8:=hcx.out;have h9:=hm.out;omega),by omega,by rw[hfin];exact t0,(hon).trans u0,v0⟩,by simp[intOf];omega⟩
  ·have:j=n:=by omega
   subst this
   go_wp2_with fail
   go_ret;have hl:=Hn.out;rw[qN (by omega),List.drop_of_length_le (by omega)]at ht;have hm':=hm.out;rw[qN (by omega)]at hm';exact⟨m,rfl,hm',by simpa using ht,hon,hw⟩
theorem EW(xs:List aR)(k:Int){A:Option Addr}{c lo:Nat}{bs}(w:World)(hx:T1 w (.sl xs.length (xs.flatMap aR.enc)) bs (.slice A xs.length c))(ho:Own lo w bs)(hn':xs.length≤maxLen)(hk0:0≤k)(hk1:k+(cN (xs.flatMap aR.enc):Nat)≤4611686018427387904):
  Calls Tryz.prog 83 #[.slice A xs.length c,.int .i64 k] w fun e w'=>∃r:Int,e=.returned (.int .i64 r)∧Hid (r=k+(cN (xs.flatMap aR.enc):Nat))∧T1 w' (.sl xs.length (jO (xs.flatMap aR.enc) k)) bs (.slice A xs.length c)∧nC bs w w'∧Own lo w' bs:=by
 unfold maxLen at hn';obtain⟨n,hn⟩:∃n,xs.length=n:=⟨_,rfl⟩;rw[hn]at hx hn' ⊢;have Hn:Hid (xs.length=n):=hn;clear hn;have hkk:=Lib.hid hk1;clear hk1
 go_enter Tryz.func83,Tryz.ntmps83
 go_wp2_with fail
 go_loopw [1,5] (fun l i w'=>∃(j:Nat) (m:Int),j≤n∧i=.int .i64 j∧l=.int .i64 m∧Hid (m=k+(cN ((xs.take j).flatMap aR.enc):Nat))∧0≤m∧T1 w' (.sl n (jO ((xs.take j).flatMap aR.enc) k++(xs.drop j).flatMap aR.enc)) bs (.slice A n c)∧nC bs w w'∧Own lo w' bs) (fun _ i _=>n-(intOf i).toNat)
 case atStart=>exact⟨0,k,Nat.zero_le _,rfl,rfl,Lib.hid (by simp[gF]),hk0,by simpa[kL]using hx,nC.refl _ _,ho⟩
 case round=>
  obtain⟨j,m,hj,rfl,rfl,hm,hm0,ht,hon,hw⟩:=hrel
  by_cases hlt:j<n
  ·obtain⟨x,hxk,hsp,hll,hsn,hdr⟩:=nI aR.enc 2 aR.bD Hn hlt;rw[hdr.out,qU]at ht;have hml:(jO ((xs.take j).flatMap aR.enc) k).length=j*2:=by rw[uS,hll]
   generalize hL:jO ((xs.take j).flatMap aR.enc) k=L at ht hml;have HL:=Lib.hid hL;clear hL hll;have hcx:Hid (cN (aR.enc x)=1+1):=by show cN [.v (.int .i64 x.agent),.v (.int .i64 x.slot)]=_;simp only[gX,sK,lV,gF]<;>omega
   have hbd:m+1+1≤4611686018427387904:=by
    have h1:=hm.out;have h2:=hkk.out;have h3:=hcx.out
    have h4:=hsp.out;have h5:cN (xs.flatMap aR.enc)=cN ((xs.take j).flatMap aR.enc)+(cN (aR.enc x)+cN ((xs.drop (j+1)).flatMap aR.enc)):=by rw[h4,dM,dM]
    omega
   replace ht:T1 wr (.sl n (L++(.v (.int .i64 x.agent))::(.v (.int .i64 x.slot))::(xs.drop (j+1)).flatMap aR.enc)) bs (.slice A n c):=ht
   generalize hR:(xs.drop (j+1)).flatMap aR.enc=R at ht;have HR:=Lib.hid hR;clear hR;obtain⟨b,off,rfl, -,hbm,hbl,hblo,hfz⟩:=ht.row hw;have z0_0:T1 wr (.sl n (L++(.v (.int .i64 x.agent))::(.v (.int .i64 x.slot))::R)) bs (.slice (some ⟨b,off,none⟩) n c):=by exact ht
   have y0_0:=(z0_0.leaf hw (o:=off+j*2) rfl (by simp only[qA,qI,qR,hml]<;>omega)).1;have z0_1:T1 wr (.sl n ((L++[.v (.int .i64 x.agent)])++(.v (.int .i64 x.slot))::R)) bs (.slice (some ⟨b,off,none⟩) n c):=by rw[qF];exact ht
   have y0_1:=(z0_1.leaf hw (o:=off+j*2+1) rfl (by simp only[qA,qI,qR,hml]<;>omega)).1;obtain⟨t0,u0,v0⟩:=(ht.leaf hw (o:=off+j*2) rfl (by simp only[qA,qI,qR,hml]<;>omega)).2 (.int .i64 m) rfl
   replace t0:T1 (World.setCell wr ⟨b,off+j*2,none⟩ (.int .i64 m)) (.sl n (L++(.v (.int .i64 m))::(.v (.int .i64 x.slot))::R)) bs (.slice (some ⟨b,off,none⟩) n c):=t0
   replace t0:T1 (World.setCell wr ⟨b,off+j*2,none⟩ (.int .i64 m)) (.sl n ((L++[.v (.int .i64 m)])++(.v (.int .i64 x.slot))::R)) bs (.slice (some ⟨b,off,none⟩) n c):=by rw[qF];exact t0
   obtain⟨t1,u1,v1⟩:=(t0.leaf v0 (o:=off+j*2+1) rfl (by simp only[qA,qI,qR,hml]<;>omega)).2 (.int .i64 (m+1)) rfl;rw[qF]at t1
   replace t1:T1 (World.setCell (World.setCell wr ⟨b,off+j*2,none⟩ (.int .i64 m)) ⟨b,off+j*2+1,none⟩ (.int .i64 (m+1))) (.sl n (L++(.v (.int .i64 m))::(.v (.int .i64 (m+1)))::R)) bs (.slice (some ⟨b,off,none⟩) n c):=t1
   clear z0_0 z0_1
   go_wp2_with fail
   have hmk:jO (aR.enc x) m=[.v (.int .i64 m),.v (.int .i64 (m+1))]:=by
    show jO [.v (.int .i64 x.agent),.v (.int .i64 x.slot)] m=_;simp only[mW,kL,xu,Ak,sK,lV]
    all_goals (exact(gG (oV (by omega)) (gG (oV (by omega)) rfl)))
   have hfin:jO ((xs.take (j+1)).flatMap aR.enc) k++(xs.drop (j+1)).flatMap aR.enc=L++(.v (.int .i64 m))::(.v (.int .i64 (m+1)))::R:=by
    rw[hsn.out,j5,HL.out,←hm.out,hmk,qF,HR.out];rfl
   exact⟨⟨j+1,m+1+1,by omega,by go_num,by first|rfl|go_num,Lib.hid (by rw[hsn.out,dM];have h8:=hcx.out;have h9:=hm.out;omega),by omega,by rw[hfin];exact t1,((hon).trans u0).trans u1,v1⟩,by simp[intOf];omega⟩
  ·have:j=n:=by omega
   subst this
   go_wp2_with fail
   go_ret;have hl:=Hn.out;rw[qN (by omega),List.drop_of_length_le (by omega)]at ht;have hm':=hm.out;rw[qN (by omega)]at hm';exact⟨m,rfl,hm',by simpa using ht,hon,hw⟩
theorem wz(xs:List aD)(k:Int){A:Option Addr}{c lo:Nat}{bs}(w:World)(hx:T1 w (.sl xs.length (xs.flatMap aD.enc)) bs (.slice A xs.length c))(ho:Own lo w bs)(hn':xs.length≤maxLen)(hk0:0≤k)(hk1:k+(cN (xs.flatMap aD.enc):Nat)≤4611686018427387904):
  Calls Tryz.prog 51 #[.slice A xs.length c,.int .i64 k] w fun e w'=>∃r:Int,e=.returned (.int .i64 r)∧Hid (r=k+(cN (xs.flatMap aD.enc):Nat))∧T1 w' (.sl xs.length (jO (xs.flatMap aD.enc) k)) bs (.slice A xs.length c)∧nC bs w w'∧Own lo w' bs:=by
 unfold maxLen at hn';obtain⟨n,hn⟩:∃n,xs.length=n:=⟨_,rfl⟩;rw[hn]at hx hn' ⊢;have Hn:Hid (xs.length=n):=hn;clear hn;have hkk:=Lib.hid hk1;clear hk1
 go_enter Tryz.func51,Tryz.ntmps51
 go_wp2_with fail
 go_loopw [1,5] (fun l i w'=>∃(j:Nat) (m:Int),j≤n∧i=.int .i64 j∧l=.int .i64 m∧Hid (m=k+(cN ((xs.take j).flatMap aD.enc):Nat))∧0≤m∧T1 w' (.sl n (jO ((xs.take j).flatMap aD.enc) k++(xs.drop j).flatMap aD.enc)) bs (.slice A n c)∧nC bs w w'∧Own lo w' bs) (fun _ i _=>n-(intOf i).toNat)
 case atStart=>exact⟨0,k,Nat.zero_le _,rfl,rfl,Lib.hid (by simp[gF]),hk0,by simpa[kL]using hx,nC.refl _ _,ho⟩
 case round=>
  obtain⟨j,m,hj,rfl,rfl,hm,hm0,ht,hon,hw⟩:=hrel
  by_cases hlt:j<n
  ·obtain⟨x,hxk,hsp,hll,hsn,hdr⟩:=nI aD.enc 5 aD.bD Hn hlt;rw[hdr.out,qU]at ht;have hml:(jO ((xs.take j).flatMap aD.enc) k).length=j*5:=by rw[uS,hll]
   generalize hL:jO ((xs.take j).flatMap aD.enc) k=L at ht hml;have HL:=Lib.hid hL;clear hL hll;have hcx:Hid (cN (aD.enc x)=1+1+1+cN (x.data.flatMap dI)+cN (x.aN.flatMap aR.enc)):=by show cN [.v (.int .i64 x.kind),.v (.int .i64 x.level),.v (.int .i64 x.value),.sl x.data.length (x.data.flatMap dI),.sl x.aN.length (x.aN.flatMap aR.enc)]=_;simp only[gX,sK,lV,gF]<;>omega
   have hbd:m+1+1+1+(cN (x.data.flatMap dI):Nat)+(cN (x.aN.flatMap aR.enc):Nat)≤4611686018427387904:=by
    have h1:=hm.out;have h2:=hkk.out;have h3:=hcx.out
    have h4:=hsp.out;have h5:cN (xs.flatMap aD.enc)=cN ((xs.take j).flatMap aD.enc)+(cN (aD.enc x)+cN ((xs.drop (j+1)).flatMap aD.enc)):=by rw[h4,dM,dM]
    omega
   replace ht:T1 wr (.sl n (L++(.v (.int .i64 x.kind))::(.v (.int .i64 x.level))::(.v (.int .i64 x.value))::(.sl x.data.length (x.data.flatMap dI))::(.sl x.aN.length (x.aN.flatMap aR.enc))::(xs.drop (j+1)).flatMap aD.enc)) bs (.slice A n c):=ht
   generalize hR:(xs.drop (j+1)).flatMap aD.enc=R at ht;have HR:=Lib.hid hR;clear hR;obtain⟨b,off,rfl, -,hbm,hbl,hblo,hfz⟩:=ht.row hw;have z0_0:T1 wr (.sl n (L++(.v (.int .i64 x.kind))::(.v (.int .i64 x.level))::(.v (.int .i64 x.value))::(.sl x.data.length (x.data.flatMap dI))::(.sl x.aN.length (x.aN.flatMap aR.enc))::R)) bs (.slice (some ⟨b,off,none⟩) n c):=by exact ht
   have y0_0:=(z0_0.leaf hw (o:=off+j*5) rfl (by simp only[qA,qI,qR,hml]<;>omega)).1;have z0_1:T1 wr (.sl n ((L++[.v (.int .i64 x.kind)])++(.v (.int .i64 x.level))::(.v (.int .i64 x.value))::(.sl x.data.length (x.data.flatMap dI))::(.sl x.aN.length (x.aN.flatMap aR.enc))::R)) bs (.slice (some ⟨b,off,none⟩) n c):=by rw[qF];exact ht
   have y0_1:=(z0_1.leaf hw (o:=off+j*5+1) rfl (by simp only[qA,qI,qR,hml]<;>omega)).1;have z0_2:T1 wr (.sl n ((L++[.v (.int .i64 x.kind),.v (.int .i64 x.level)])++(.v (.int .i64 x.value))::(.sl x.data.length (x.data.flatMap dI))::(.sl x.aN.length (x.aN.flatMap aR.enc))::R)) bs (.slice (some ⟨b,off,none⟩) n c):=by rw[qF];exact ht
   have y0_2:=(z0_2.leaf hw (o:=off+j*5+2) rfl (by simp only[qA,qI,qR,hml]<;>omega)).1;have z0_3:T1 wr (.sl n ((L++[.v (.int .i64 x.kind),.v (.int .i64 x.level),.v (.int .i64 x.value)])++(.sl x.data.length (x.data.flatMap dI))::(.sl x.aN.length (x.aN.flatMap aR.enc))::R)) bs (.slice (some ⟨b,off,none⟩) n c):=by rw[qF];exact ht
   obtain⟨A0_3,c0_3,b0_3,y0_3, -⟩:=z0_3.sub hw (o:=off+j*5+3) rfl (by simp only[qA,qI,qR,hml]<;>omega);obtain⟨t0,u0,v0⟩:=(ht.leaf hw (o:=off+j*5) rfl (by simp only[qA,qI,qR,hml]<;>omega)).2 (.int .i64 m) rfl
   replace t0:T1 (World.setCell wr ⟨b,off+j*5,none⟩ (.int .i64 m)) (.sl n (L++(.v (.int .i64 m))::(.v (.int .i64 x.level))::(.v (.int .i64 x.value))::(.sl x.data.length (x.data.flatMap dI))::(.sl x.aN.length (x.aN.flatMap aR.enc))::R)) bs (.slice (some ⟨b,off,none⟩) n c):=t0
   replace t0:T1 (World.setCell wr ⟨b,off+j*5,none⟩ (.int .i64 m)) (.sl n ((L++[.v (.int .i64 m)])++(.v (.int .i64 x.level))::(.v (.int .i64 x.value))::(.sl x.data.length (x.data.flatMap dI))::(.sl x.aN.length (x.aN.flatMap aR.enc))::R)) bs (.slice (some ⟨b,off,none⟩) n c):=by rw[qF];exact t0
   obtain⟨t1,u1,v1⟩:=(t0.leaf v0 (o:=off+j*5+1) rfl (by simp only[qA,qI,qR,hml]<;>omega)).2 (.int .i64 (m+1)) rfl;rw[qF]at t1
   replace t1:T1 (World.setCell (World.setCell wr ⟨b,off+j*5,none⟩ (.int .i64 m)) ⟨b,off+j*5+1,none⟩ (.int .i64 (m+1))) (.sl n (L++(.v (.int .i64 m))::(.v (.int .i64 (m+1)))::(.v (.int .i64 x.value))::(.sl x.data.length (x.data.flatMap dI))::(.sl x.aN.length (x.aN.flatMap aR.enc))::R)) bs (.slice (some ⟨b,off,none⟩) n c):=t1
   replace t1:T1 (World.setCell (World.setCell wr ⟨b,off+j*5,none⟩ (.int .i64 m)) ⟨b,off+j*5+1,none⟩ (.int .i64 (m+1))) (.sl n ((L++[.v (.int .i64 m),.v (.int .i64 (m+1))])++(.v (.int .i64 x.value))::(.sl x.data.length (x.data.flatMap dI))::(.sl x.aN.length (x.aN.flatMap aR.enc))::R)) bs (.slice (some ⟨b,off,none⟩) n c):=by rw[qF];exact t1
   obtain⟨t2,u2,v2⟩:=(t1.leaf v1 (o:=off+j*5+2) rfl (by simp only[qA,qI,qR,hml]<;>omega)).2 (.int .i64 (m+1+1)) rfl;rw[qF]at t2
   replace t2:T1 (World.setCell (World.setCell (World.setCell wr ⟨b,off+j*5,none⟩ (.int .i64 m)) ⟨b,off+j*5+1,none⟩ (.int .i64 (m+1))) ⟨b,off+j*5+2,none⟩ (.int .i64 (m+1+1))) (.sl n (L++(.v (.int .i64 m))::(.v (.int .i64 (m+1)))::(.v (.int .i64 (m+1+1)))::(.sl x.data.length (x.data.flatMap dI))::(.sl x.aN.length (x.aN.flatMap aR.enc))::R)) bs (.slice (some ⟨b,off,none⟩) n c):=t2
   have g3:T1 (World.setCell (World.setCell (World.setCell wr ⟨b,off+j*5,none⟩ (.int .i64 m)) ⟨b,off+j*5+1,none⟩ (.int .i64 (m+1))) ⟨b,off+j*5+2,none⟩ (.int .i64 (m+1+1))) (.sl n ((L++[.v (.int .i64 m),.v (.int .i64 (m+1)),.v (.int .i64 (m+1+1))])++(.sl x.data.length (x.data.flatMap dI))::(.sl x.aN.length (x.aN.flatMap aR.enc))::R)) bs (.slice (some ⟨b,off,none⟩) n c):=by rw[qF];exact t2
   obtain⟨A3,c3,b3,k3,s3,n3,o3,nb3,back3⟩:=g3.sub v2 (o:=off+j*5+3) rfl (by simp only[qA,qI,qR,hml]<;>omega)
   obtain⟨rfl,rfl⟩:A0_3=A3∧c0_3=c3:=by
    have hh:=k3;rw[iQ _ _ _ _ _ (by omega)]at hh;rw[iQ _ _ _ _ _ (by omega)]at hh;rw[iQ _ _ _ _ _ (by omega)]at hh;rw[y0_3]at hh;simpa using hh
   clear k3;have HB3:=Lib.hid back3;clear back3 g3;clear z0_0 z0_1 z0_2 z0_3
   go_wp2_with fail
   refine(Dk x.data (m+1+1+1) _ s3 o3 n3 (by omega) (by omega)).mono ?_;rintro _ W1 ⟨r1,rfl,hr1,q3,f3, -⟩;obtain⟨t3,u3,v3⟩:=HB3.out W1 _ f3 q3;have p1:0≤r1:=by have:=hr1.out;omega
   have l1:r1+(cN (x.aN.flatMap aR.enc):Nat)≤4611686018427387904:=by have:=hr1.out;omega
   rw[qF]at t3
   replace t3:T1 W1 (.sl n (L++(.v (.int .i64 m))::(.v (.int .i64 (m+1)))::(.v (.int .i64 (m+1+1)))::(.sl x.data.length (jO (x.data.flatMap dI) (m+1+1+1)))::(.sl x.aN.length (x.aN.flatMap aR.enc))::R)) bs (.slice (some ⟨b,off,none⟩) n c):=t3
   have hfz1:∀o,World.frozen? W1 ⟨b,o,none⟩=false:=fun o=>(by obtain⟨_,cur,tt,hrow⟩:=v3.2 b hbm;simp[World.frozen?,hrow])
   have z1_4:T1 W1 (.sl n ((L++[.v (.int .i64 m),.v (.int .i64 (m+1)),.v (.int .i64 (m+1+1)),.sl x.data.length (jO (x.data.flatMap dI) (m+1+1+1))])++(.sl x.aN.length (x.aN.flatMap aR.enc))::R)) bs (.slice (some ⟨b,off,none⟩) n c):=by rw[qF];exact t3
   obtain⟨A1_4,c1_4,b1_4,y1_4, -⟩:=z1_4.sub v3 (o:=off+j*5+4) rfl (by simp only[qA,qI,qR,hml]<;>omega);have g4:T1 W1 (.sl n ((L++[.v (.int .i64 m),.v (.int .i64 (m+1)),.v (.int .i64 (m+1+1)),.sl x.data.length (jO (x.data.flatMap dI) (m+1+1+1))])++(.sl x.aN.length (x.aN.flatMap aR.enc))::R)) bs (.slice (some ⟨b,off,none⟩) n c):=by rw[qF];exact t3
   obtain⟨A4,c4,b4,k4,s4,n4,o4,nb4,back4⟩:=g4.sub v3 (o:=off+j*5+4) rfl (by simp only[qA,qI,qR,hml]<;>omega)
   obtain⟨rfl,rfl⟩:A1_4=A4∧c1_4=c4:=by
    have hh:=k4;rw[y1_4]at hh;simpa using hh
   clear k4;have HB4:=Lib.hid back4;clear back4 g4;clear z1_4
   go_wp2_with fail
   refine(EW x.aN (r1) _ s4 o4 n4 (by omega) (by omega)).mono ?_;rintro _ W2 ⟨r2,rfl,hr2,q4,f4, -⟩;obtain⟨t4,u4,v4⟩:=HB4.out W2 _ f4 q4;have p2:0≤r2:=by have:=hr2.out;omega
   have l2:r2+0≤4611686018427387904:=by have:=hr2.out;omega
   rw[qF]at t4
   replace t4:T1 W2 (.sl n (L++(.v (.int .i64 m))::(.v (.int .i64 (m+1)))::(.v (.int .i64 (m+1+1)))::(.sl x.data.length (jO (x.data.flatMap dI) (m+1+1+1)))::(.sl x.aN.length (jO (x.aN.flatMap aR.enc) (r1)))::R)) bs (.slice (some ⟨b,off,none⟩) n c):=t4
   go_wp2_with fail
   have hmk:jO (aD.enc x) m=[.v (.int .i64 m),.v (.int .i64 (m+1)),.v (.int .i64 (m+1+1)),.sl x.data.length (jO (x.data.flatMap dI) (m+1+1+1)),.sl x.aN.length (jO (x.aN.flatMap aR.enc) (r1))]:=by
    show jO [.v (.int .i64 x.kind),.v (.int .i64 x.level),.v (.int .i64 x.value),.sl x.data.length (x.data.flatMap dI),.sl x.aN.length (x.aN.flatMap aR.enc)] m=_;simp only[mW,kL,xu,Ak,sK,lV]
    all_goals (have h1:=hr1.out;have h2:=hr2.out;exact(gG (oV (by omega)) (gG (oV (by omega)) (gG (oV (by omega)) (gG (MX (by omega)) (gG (MX (by omega)) rfl))))))
   have hfin:jO ((xs.take (j+1)).flatMap aD.enc) k++(xs.drop (j+1)).flatMap aD.enc=L++(.v (.int .i64 m))::(.v (.int .i64 (m+1)))::(.v (.int .i64 (m+1+1)))::(.sl x.data.length (jO (x.data.flatMap dI) (m+1+1+1)))::(.sl x.aN.length (jO (x.aN.flatMap aR.enc) (r1)))::R:=by
    rw[hsn.out,j5,HL.out,←hm.out,hmk,qF,HR.out];rfl
   exact⟨⟨j+1,r2,by omega,by go_num,by first|rfl|go_num,Lib.hid (by rw[hsn.out,dM];have h1:=hr1.out;have h2:=hr2.out;have h8:=hcx.out;have h9:=hm.out;omega),by omega,by rw[hfin];exact t4,(((((hon).trans u0).trans u1).trans u2).trans u3).trans u4,v4⟩,by simp[intOf];omega⟩
  ·have:j=n:=by omega
   subst this
   go_wp2_with fail
   go_ret;have hl:=Hn.out;rw[qN (by omega),List.drop_of_length_le (by omega)]at ht;have hm':=hm.out;rw[qN (by omega)]at hm';exact⟨m,rfl,hm',by simpa using ht,hon,hw⟩
theorem J4(x:aW)(k:Int){bs us}{lo:Nat}(w:World)(hx:TN w x.enc bs us)(ho:Own lo w bs)(hk0:0≤k)(hk1:k+(x.cnt:Nat)≤4611686018427387904):
  Calls Tryz.prog 20 #[.agg us.toArray,.int .i64 k] w fun e w'=>∃r:Int,e=.returned (.int .i64 r)∧Hid (r=k+(x.cnt:Nat))∧TN w' (x.VT k) bs us∧nC bs w w'∧Own lo w' bs:=by
 have hlt:=hx.lt;obtain⟨A0,c0,b0,rfl,rfl,t0,l0,m0⟩:=aW.us hx;have o0:=ho;have g0:w.heap.size∉bs:=fun hm=>by have:=hlt _ (show w.heap.size∈bs by simp[hm]);omega
 have B0:∀S,Below w.heap.size w (w.alloc S):=fun _=>(Below.refl _ _).alloc (Nat.le_refl _) _
 have hcn:x.cnt=cN (x.agents.flatMap aD.enc):=rfl;rw[hcn]at hk1;clear hcn hx
 go_enter Tryz.func20,Tryz.ntmps20
 go_wp2_with fail
 refine(wz x.agents k _ (t0.below (B0 _)) (o0.below (B0 _)) (Nat.le_trans l0 m0) (by omega) (by omega)).mono ?_;rintro _ w1 ⟨r1,rfl,hr1,S0,f1,V0⟩;have p1:0≤r1:=by have:=hr1.out;omega
 have b1_:r1+0≤4611686018427387904:=by have:=hr1.out;omega
 have u1:=(f1.other w.heap.size (by simp) g0).trans (heap_alloc_new w _);have z1:w.heap.size<w1.heap.size:=by have:=f1.size;simp at this;omega
 have F1:nC (bs) w w1:=nC.trans (nC.Ar (B0 _)) (f1.sub (fun y hy=>by first|exact hy|(simp at hy ⊢;grind)));have q1_0:=cell_of_row _ _ 0 _ _ _ u1;simp only[List.getElem?_toArray,List.getElem?_cons_zero,List.getElem?_cons_succ]at q1_0
 go_wp2_with fail
 go_ret;refine⟨r1,rfl,?_,?_,F1,ho.sD F1⟩
 ·show _=_;have hcn:x.cnt=cN (x.agents.flatMap aD.enc):=rfl;have h1:=hr1.out;omega
 ·have h1:=hr1.out;skip;have h:=(TN.rJ S0 TN.done);simp only[qS,List.nil_append,qF,List.cons_append]at h;unfold aW.VT;simpa only[qS,List.nil_append,qF,List.cons_append]using h
theorem Im(xs:List aW)(k:Int){A:Option Addr}{c lo:Nat}{bs}(w:World)(hx:T1 w (.sl xs.length (xs.flatMap aW.enc)) bs (.slice A xs.length c))(ho:Own lo w bs)(hn':xs.length≤maxLen)(hk0:0≤k)(hk1:k+(cN (xs.flatMap aW.enc):Nat)≤4611686018427387904):
  Calls Tryz.prog 19 #[.slice A xs.length c,.int .i64 k] w fun e w'=>∃r:Int,e=.returned (.int .i64 r)∧Hid (r=k+(cN (xs.flatMap aW.enc):Nat))∧T1 w' (.sl xs.length (jO (xs.flatMap aW.enc) k)) bs (.slice A xs.length c)∧nC bs w w'∧Own lo w' bs:=by
 unfold maxLen at hn';obtain⟨n,hn⟩:∃n,xs.length=n:=⟨_,rfl⟩;rw[hn]at hx hn' ⊢;have Hn:Hid (xs.length=n):=hn;clear hn;have hkk:=Lib.hid hk1;clear hk1
 go_enter Tryz.func19,Tryz.ntmps19
 go_wp2_with fail
 go_loopw [1,5] (fun l i w'=>∃(j:Nat) (m:Int),j≤n∧i=.int .i64 j∧l=.int .i64 m∧Hid (m=k+(cN ((xs.take j).flatMap aW.enc):Nat))∧0≤m∧T1 w' (.sl n (jO ((xs.take j).flatMap aW.enc) k++(xs.drop j).flatMap aW.enc)) bs (.slice A n c)∧nC bs w w'∧Own lo w' bs) (fun _ i _=>n-(intOf i).toNat)
 case atStart=>exact⟨0,k,Nat.zero_le _,rfl,rfl,Lib.hid (by simp[gF]),hk0,by simpa[kL]using hx,nC.refl _ _,ho⟩
 case round=>
  obtain⟨j,m,hj,rfl,rfl,hm,hm0,ht,hon,hw⟩:=hrel
  by_cases hlt:j<n
  ·obtain⟨x,hxk,hsp,hll,hsn,hdr⟩:=nI aW.enc 1 aW.bD Hn hlt;rw[hdr.out,qU]at ht;have hml:(jO ((xs.take j).flatMap aW.enc) k).length=j*1:=by rw[uS,hll]
   generalize hL:jO ((xs.take j).flatMap aW.enc) k=L at ht hml;have HL:=Lib.hid hL;clear hL hll;have hcx:Hid (cN (aW.enc x)=cN (x.agents.flatMap aD.enc)):=by show cN [.sl x.agents.length (x.agents.flatMap aD.enc)]=_;simp only[gX,sK,lV,gF]<;>omega
   have hbd:m+(cN (x.agents.flatMap aD.enc):Nat)≤4611686018427387904:=by
    have h1:=hm.out;have h2:=hkk.out;have h3:=hcx.out
    have h4:=hsp.out;have h5:cN (xs.flatMap aW.enc)=cN ((xs.take j).flatMap aW.enc)+(cN (aW.enc x)+cN ((xs.drop (j+1)).flatMap aW.enc)):=by rw[h4,dM,dM]
    omega
   replace ht:T1 wr (.sl n (L++(.sl x.agents.length (x.agents.flatMap aD.enc))::(xs.drop (j+1)).flatMap aW.enc)) bs (.slice A n c):=ht
   generalize hR:(xs.drop (j+1)).flatMap aW.enc=R at ht;have HR:=Lib.hid hR;clear hR;obtain⟨b,off,rfl, -,hbm,hbl,hblo,hfz⟩:=ht.row hw;have z0_0:T1 wr (.sl n (L++(.sl x.agents.length (x.agents.flatMap aD.enc))::R)) bs (.slice (some ⟨b,off,none⟩) n c):=by exact ht
   obtain⟨A0_0,c0_0,b0_0,y0_0, -⟩:=z0_0.sub hw (o:=off+j) rfl (by simp only[qA,qI,qR,hml]<;>omega);have g0:=ht;obtain⟨A0,c0,b0,k0,s0,n0,o0,nb0,back0⟩:=g0.sub hw (o:=off+j) rfl (by simp only[qA,qI,qR,hml]<;>omega)
   obtain⟨rfl,rfl⟩:A0_0=A0∧c0_0=c0:=by
    have hh:=k0;rw[y0_0]at hh;simpa using hh
   clear k0;have HB0:=Lib.hid back0;clear back0 g0;clear z0_0
   go_wp2_with fail
   refine(wz x.agents (m) _ s0 o0 n0 (by omega) (by omega)).mono ?_;rintro _ W1 ⟨r1,rfl,hr1,q0,f0, -⟩;obtain⟨t0,u0,v0⟩:=HB0.out W1 _ f0 q0;have p1:0≤r1:=by have:=hr1.out;omega
   have l1:r1+0≤4611686018427387904:=by have:=hr1.out;omega
   replace t0:T1 W1 (.sl n (L++(.sl x.agents.length (jO (x.agents.flatMap aD.enc) (m)))::R)) bs (.slice (some ⟨b,off,none⟩) n c):=t0
   go_wp2_with fail
   have hmk:jO (aW.enc x) m=[.sl x.agents.length (jO (x.agents.flatMap aD.enc) (m))]:=by
    show jO [.sl x.agents.length (x.agents.flatMap aD.enc)] m=_;simp only[mW,kL,xu,Ak,sK,lV]
    all_goals (have h1:=hr1.out;exact(gG (MX (by omega)) rfl))
   have hfin:jO ((xs.take (j+1)).flatMap aW.enc) k++(xs.drop (j+1)).flatMap aW.enc=L++(.sl x.agents.length (jO (x.agents.flatMap aD.enc) (m)))::R:=by
    rw[hsn.out,j5,HL.out,←hm.out,hmk,qF,HR.out];rfl
   exact⟨⟨j+1,r1,by omega,by go_num,by first|rfl|go_num,Lib.hid (by rw[hsn.out,dM];have h1:=hr1.out;have h8:=hcx.out;have h9:=hm.out;omega),by omega,by rw[hfin];exact t0,(hon).trans u0,v0⟩,by simp[intOf];omega⟩
  ·have:j=n:=by omega
   subst this
   go_wp2_with fail
   go_ret;have hl:=Hn.out;rw[qN (by omega),List.drop_of_length_le (by omega)]at ht;have hm':=hm.out;rw[qN (by omega)]at hm';exact⟨m,rfl,hm',by simpa using ht,hon,hw⟩
end Go.Proofs.YtbdimbjclhmeoaaGreat
