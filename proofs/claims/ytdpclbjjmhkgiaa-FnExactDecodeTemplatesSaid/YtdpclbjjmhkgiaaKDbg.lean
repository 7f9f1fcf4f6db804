
/- What the laws number and look for again in these types. Printed by gen_mk.py. -/
import Derived.Test.YtdpclbjjmhkgiaaProg
import Derived.Test.YtdpclbjjmhkgiaaSc
import Derived.Test.YtdpclbjjmhkgiaaValid
import Derived.BigGuardPart
import Derived.Outline
import Derived.Deep.CutBlock
set_option maxHeartbeats 4000000
set_option linter.unusedSimpArgs false
set_option linter.unusedVariables false
namespace Go.Tr
open Go Go.RowKit
def aW.ML(x:aW)(k:Int):List D:=[.sl x.agents.length (gy (x.agents.flatMap au.enc) (k))]
def aW.cnt(x:aW):Nat:=cN (x.agents.flatMap au.enc)
def bG.ML(x:bG)(k:Int):List D:=[.sl x.book.length (gy (x.book.flatMap aW.enc) (k))]++([.sl x.schedule.length (gy (x.schedule.flatMap bL) (k+(cN (x.book.flatMap aW.enc):Nat)))]++([.v (.int .i64 x.every)]++([.v (.int .i64 x.at_)]++(x.net.ML (k+(cN (x.book.flatMap aW.enc):Nat)+(cN (x.schedule.flatMap bL):Nat))++([.sl x.origins.length (gy (x.origins.flatMap bq.enc) (k+(cN (x.book.flatMap aW.enc):Nat)+(cN (x.schedule.flatMap bL):Nat)+(x.net.cnt:Nat)))]++([.sl x.breaks.length (gy (x.breaks.flatMap dz.enc) (k+(cN (x.book.flatMap aW.enc):Nat)+(cN (x.schedule.flatMap bL):Nat)+(x.net.cnt:Nat)+(cN (x.origins.flatMap bq.enc):Nat)))]++([.sl x.points.length (gy (x.points.flatMap aR.enc) (k+(cN (x.book.flatMap aW.enc):Nat)+(cN (x.schedule.flatMap bL):Nat)+(x.net.cnt:Nat)+(cN (x.origins.flatMap bq.enc):Nat)+(cN (x.breaks.flatMap dz.enc):Nat)))])))))))
def bG.cnt(x:bG):Nat:=cN (x.book.flatMap aW.enc)+cN (x.schedule.flatMap bL)+x.net.cnt+cN (x.origins.flatMap bq.enc)+cN (x.breaks.flatMap dz.enc)+cN (x.points.flatMap aR.enc)
end Go.Tr
namespace Go.Proofs.Ytdpclbjjmhkgiaa
open Go Go.RowKit Go.Proofs Go.Tr
theorem A9(xs:List Int)(k:Int){A:Option Addr}{c lo:Nat}{bs}(w:World)(hx:T1 w (.sl xs.length (xs.flatMap bL)) bs (.slice A xs.length c))(ho:Own lo w bs)(hn':xs.length≤maxLen)(hk0:0≤k)(hk1:k+(cN (xs.flatMap bL):Nat)≤4611686018427387904):
  Calls Try.prog 47 #[.slice A xs.length c,.int .i64 k] w fun e w'=>∃r:Int,e=.returned (.int .i64 r)∧Hid (r=k+(cN (xs.flatMap bL):Nat))∧T1 w' (.sl xs.length (gy (xs.flatMap bL) k)) bs (.slice A xs.length c)∧lS bs w w'∧Own lo w' bs:=by
 unfold maxLen at hn';obtain⟨n,hn⟩:∃n,xs.length=n:=⟨_,rfl⟩;rw[hn]at hx hn' ⊢;have Hn:Hid (xs.length=n):=hn;clear hn;have hkk:=Lib.hid hk1;clear hk1
 go_enter Try.func47,Try.ntmps47
 go_wp2_with fail
 go_loopw [1,5] (fun l i w'=>∃(j:Nat) (m:Int),j≤n∧i=.int .i64 j∧l=.int .i64 m∧Hid (m=k+(cN ((xs.take j).flatMap bL):Nat))∧0≤m∧T1 w' (.sl n (gy ((xs.take j).flatMap bL) k++(xs.drop j).flatMap bL)) bs (.slice A n c)∧lS bs w w'∧Own lo w' bs) (fun _ i _=>n-(intOf i).toNat)
 case atStart=>exact⟨0,k,Nat.zero_le _,rfl,rfl,Lib.hid (by simp[eX]),hk0,by simpa[jA]using hx,lS.refl _ _,ho⟩
 case round=>
  obtain⟨j,m,hj,rfl,rfl,hm,hm0,ht,hon,hw⟩:=hrel
  by_cases hlt:j<n
  ·obtain⟨x,hxk,hsp,hll,hsn,hdr⟩:=jd bL 1 (fun _=>rfl) Hn hlt;rw[hdr.out,List.flatMap_cons]at ht;have hml:(gy ((xs.take j).flatMap bL) k).length=j*1:=by rw[nN,hll]
   generalize hL:gy ((xs.take j).flatMap bL) k=L at ht hml;have HL:=Lib.hid hL;clear hL hll;have hcx:Hid (cN (bL x)=1):=by show cN [.v (.int .i64 x)]=_;simp only[fJ,oP,lq,eX]<;>omega
   have hbd:m+1≤4611686018427387904:=by
    have h1:=hm.out;have h2:=hkk.out;have h3:=hcx.out
    have h4:=hsp.out;have h5:cN (xs.flatMap bL)=cN ((xs.take j).flatMap bL)+(cN (bL x)+cN ((xs.drop (j+1)).flatMap bL)):=by rw[h4,bK,bK]
    omega
   replace ht:T1 wr (.sl n (L++(.v (.int .i64 x))::(xs.drop (j+1)).flatMap bL)) bs (.slice A n c):=ht
   generalize hR:(xs.drop (j+1)).flatMap bL=R at ht;have HR:=Lib.hid hR;clear hR;obtain⟨b,off,rfl, -,hbm,hbl,hblo,hfz⟩:=ht.row hw;have z0_0:T1 wr (.sl n (L++(.v (.int .i64 x))::R)) bs (.slice (some ⟨b,off,none⟩) n c):=by exact ht
   have y0_0:=(z0_0.leaf hw (o:=off+j) rfl (by simp only[List.length_append,List.length_cons,List.length_nil,hml]<;>omega)).1;obtain⟨t0,u0,v0⟩:=(ht.leaf hw (o:=off+j) rfl (by simp only[List.length_append,List.length_cons,List.length_nil,hml]<;>omega)).2 (.int .i64 m) rfl
   replace t0:T1 (World.setCell wr ⟨b,off+j,none⟩ (.int .i64 m)) (.sl n (L++(.v (.int .i64 m))::R)) bs (.slice (some ⟨b,off,none⟩) n c):=t0
   clear z0_0
   go_wp2_with fail
   have hmk:gy (bL x) m=[.v (.int .i64 m)]:=by
    show gy [.v (.int .i64 x)] m=_;simp only[jJ,jA,o8,sV,oP,lq]
    all_goals (exact(gQ (rD (by omega)) rfl))
   have hfin:gy ((xs.take (j+1)).flatMap bL) k++(xs.drop (j+1)).flatMap bL=L++(.v (.int .i64 m))::R:=by
    rw[hsn.out,eY,HL.out,←hm.out,hmk,List.append_assoc,HR.out];rfl
   exact⟨⟨j+1,m+1,by omega,by go_num,by first|rfl|go_num,Lib.hid (by rw[hsn.out,bK];have h8:=hcx.out;have h9:=hm.out;omega),by omega,by rw[hfin];exact t0,(hon).trans u0,v0⟩,by simp[intOf];omega⟩
  ·have:j=n:=by omega
   subst this
   go_wp2_with fail
   go_ret;have hl:=Hn.out;rw[List.take_of_length_le (by omega),List.drop_of_length_le (by omega)]at ht;have hm':=hm.out;rw[List.take_of_length_le (by omega)]at hm';exact⟨m,rfl,hm',by simpa using ht,hon,hw⟩
theorem AJ(xs:List Int)(k r:Int)(n:Nat){A:Option Addr}{c:Nat}{bs:List Nat}(w:World)(hx:T1 w (.sl n (gy (xs.flatMap bL) k)) bs (.slice A n c))(Hn:Hid (xs.length=n))(hk0:0≤k)(hk1:r≤4611686018427387904)(Hr:Hid (r=k+(cN (xs.flatMap bL):Nat))):Calls Try.prog 49 #[.slice A n c,.int .i64 k] w fun e w'=>e=.returned (.int .i64 (r))∧Ext w w':=by
 refine bC fun e=> ?_
 have hn:=hx.vU
 go_enter Try.func49,Try.ntmps49
 go_wp2_with fail
 repeat (refine ay _ (by kernel_rfl) (by kernel_rfl) ?_;(repeat (go_big_quiet_step (fail)));refine wpQuiet_nil ?_;intro e;go_wp2_with fail)
 go_loopw [1,5] (fun l i w'=>∃(j:Nat) (m:Int),j≤n∧i=.int .i64 j∧l=.int .i64 m∧Hid (m=k+(cN ((xs.take j).flatMap bL):Nat))∧0≤m∧∃e:aU w,w'=e.to) (fun _ i _=>n-(intOf i).toNat)
 case atStart=>exact⟨0,k,Nat.zero_le _,rfl,rfl,Lib.hid (by simp[eX]),hk0,_,rfl⟩
 case round=>
  obtain⟨j,m,hj,rfl,rfl,hm,hm0,e,rfl⟩:=hrel
  by_cases hlt:j<n
  ·obtain⟨x,hxk,hsp,hll,hsn, -⟩:=jd bL 1 (fun _=>rfl) Hn hlt;have hcx:Hid (cN (bL x)=1):=by show cN [.v (.int .i64 x)]=_;simp only[fJ,oP,lq,eX]<;>omega
   have hbd:m+1≤4611686018427387904:=by
    have h1:=hm.out;have h2:=Hr.out;have h3:=hcx.out
    have h5:cN (xs.flatMap bL)=cN ((xs.take j).flatMap bL)+(cN (bL x)+cN ((xs.drop (j+1)).flatMap bL)):=by rw[hsp.out,bK,bK]
    omega
   have hmk:gy (bL x) m=[.v (.int .i64 (m))]:=by
    show gy [.v (.int .i64 x)] m=_;simp only[jJ,jA,o8,sV,oP,lq]
    all_goals (exact(gQ (rD (by omega)) rfl))
   have hxx:=hx;rw[hsp.out,eY,eY,←hm.out,hmk]at hxx;have hml:(gy ((xs.take j).flatMap bL) k).length=j*1:=by rw[nN,hll]
   generalize hL:gy ((xs.take j).flatMap bL) k=L at hxx hml;clear hL hll hmk;generalize hR:gy ((xs.drop (j+1)).flatMap bL) (m+(cN (bL x):Nat))=R at hxx;clear hR
   replace hxx:T1 w (.sl n (L++(.v (.int .i64 (m)))::R)) bs (.slice A n c):=hxx
   obtain⟨b,off,rfl⟩:=hxx.Rv;have z0:T1 w (.sl n (L++(.v (.int .i64 (m)))::R)) bs (.slice (some ⟨b,off,none⟩) n c):=by exact hxx
   have y0:=z0.CY (o:=off+j) rfl (by simp only[List.length_append,List.length_cons,List.length_nil,hml]<;>omega);clear hxx z0
   go_wp2_with fail
   repeat (refine ay _ (by kernel_rfl) (by kernel_rfl) ?_;(repeat (go_big_quiet_step (fail)));refine wpQuiet_nil ?_;intro e;go_wp2_with fail)
   exact⟨⟨j+1,m+1,by omega,by go_num,by first|rfl|go_num,Lib.hid (by rw[hsn.out,bK];have h8:=hcx.out;have h9:=hm.out;omega),by omega,_,rfl⟩,by simp[intOf];omega⟩
  ·have:j=n:=by omega
   subst this
   have E:Hid (r=m):=by
    have h1:=hm.out;have h2:=Hr.out;have h3:=Hn.out
    rw[List.take_of_length_le (by omega)]at h1;show _=_;omega
   go_wp2_with fail
   repeat (refine ay _ (by kernel_rfl) (by kernel_rfl) ?_;(repeat (go_big_quiet_step (fail)));refine wpQuiet_nil ?_;intro e;go_wp2_with fail)
   go_ret;exact⟨by rw[E.out];rfl,_,rfl⟩
theorem Ce(xs:List aF)(k:Int){A:Option Addr}{c lo:Nat}{bs}(w:World)(hx:T1 w (.sl xs.length (xs.flatMap aF.enc)) bs (.slice A xs.length c))(ho:Own lo w bs)(hn':xs.length≤maxLen)(hk0:0≤k)(hk1:k+(cN (xs.flatMap aF.enc):Nat)≤4611686018427387904):
  Calls Try.prog 48 #[.slice A xs.length c,.int .i64 k] w fun e w'=>∃r:Int,e=.returned (.int .i64 r)∧Hid (r=k+(cN (xs.flatMap aF.enc):Nat))∧T1 w' (.sl xs.length (gy (xs.flatMap aF.enc) k)) bs (.slice A xs.length c)∧lS bs w w'∧Own lo w' bs:=by
 unfold maxLen at hn';obtain⟨n,hn⟩:∃n,xs.length=n:=⟨_,rfl⟩;rw[hn]at hx hn' ⊢;have Hn:Hid (xs.length=n):=hn;clear hn;have hkk:=Lib.hid hk1;clear hk1
 go_enter Try.func48,Try.ntmps48
 go_wp2_with fail
 go_loopw [1,5] (fun l i w'=>∃(j:Nat) (m:Int),j≤n∧i=.int .i64 j∧l=.int .i64 m∧Hid (m=k+(cN ((xs.take j).flatMap aF.enc):Nat))∧0≤m∧T1 w' (.sl n (gy ((xs.take j).flatMap aF.enc) k++(xs.drop j).flatMap aF.enc)) bs (.slice A n c)∧lS bs w w'∧Own lo w' bs) (fun _ i _=>n-(intOf i).toNat)
 case atStart=>exact⟨0,k,Nat.zero_le _,rfl,rfl,Lib.hid (by simp[eX]),hk0,by simpa[jA]using hx,lS.refl _ _,ho⟩
 case round=>
  obtain⟨j,m,hj,rfl,rfl,hm,hm0,ht,hon,hw⟩:=hrel
  by_cases hlt:j<n
  ·obtain⟨x,hxk,hsp,hll,hsn,hdr⟩:=jd aF.enc 2 aF.aZ Hn hlt;rw[hdr.out,List.flatMap_cons]at ht;have hml:(gy ((xs.take j).flatMap aF.enc) k).length=j*2:=by rw[nN,hll]
   generalize hL:gy ((xs.take j).flatMap aF.enc) k=L at ht hml;have HL:=Lib.hid hL;clear hL hll;have hcx:Hid (cN (aF.enc x)=1+1):=by show cN [.v (.int .i64 x.agent),.v (.int .i64 x.slot)]=_;simp only[fJ,oP,lq,eX]<;>omega
   have hbd:m+1+1≤4611686018427387904:=by
    have h1:=hm.out;have h2:=hkk.out;have h3:=hcx.out
    have h4:=hsp.out;have h5:cN (xs.flatMap aF.enc)=cN ((xs.take j).flatMap aF.enc)+(cN (aF.enc x)+cN ((xs.drop (j+1)).flatMap aF.enc)):=by rw[h4,bK,bK]
    omega
   replace ht:T1 wr (.sl n (L++(.v (.int .i64 x.agent))::(.v (.int .i64 x.slot))::(xs.drop (j+1)).flatMap aF.enc)) bs (.slice A n c):=ht
   generalize hR:(xs.drop (j+1)).flatMap aF.enc=R at ht;have HR:=Lib.hid hR;clear hR;obtain⟨b,off,rfl, -,hbm,hbl,hblo,hfz⟩:=ht.row hw;have z0_0:T1 wr (.sl n (L++(.v (.int .i64 x.agent))::(.v (.int .i64 x.slot))::R)) bs (.slice (some ⟨b,off,none⟩) n c):=by exact ht
   have y0_0:=(z0_0.leaf hw (o:=off+j*2) rfl (by simp only[List.length_append,List.length_cons,List.length_nil,hml]<;>omega)).1;have z0_1:T1 wr (.sl n ((L++[.v (.int .i64 x.agent)])++(.v (.int .i64 x.slot))::R)) bs (.slice (some ⟨b,off,none⟩) n c):=by rw[List.append_assoc];exact ht
   have y0_1:=(z0_1.leaf hw (o:=off+j*2+1) rfl (by simp only[List.length_append,List.length_cons,List.length_nil,hml]<;>omega)).1;obtain⟨t0,u0,v0⟩:=(ht.leaf hw (o:=off+j*2) rfl (by simp only[List.length_append,List.length_cons,List.length_nil,hml]<;>omega)).2 (.int .i64 m) rfl
   replace t0:T1 (World.setCell wr ⟨b,off+j*2,none⟩ (.int .i64 m)) (.sl n (L++(.v (.int .i64 m))::(.v (.int .i64 x.slot))::R)) bs (.slice (some ⟨b,off,none⟩) n c):=t0
   replace t0:T1 (World.setCell wr ⟨b,off+j*2,none⟩ (.int .i64 m)) (.sl n ((L++[.v (.int .i64 m)])++(.v (.int .i64 x.slot))::R)) bs (.slice (some ⟨b,off,none⟩) n c):=by rw[List.append_assoc];exact t0
   obtain⟨t1,u1,v1⟩:=(t0.leaf v0 (o:=off+j*2+1) rfl (by simp only[List.length_append,List.length_cons,List.length_nil,hml]<;>omega)).2 (.int .i64 (m+1)) rfl;rw[List.append_assoc]at t1
   replace t1:T1 (World.setCell (World.setCell wr ⟨b,off+j*2,none⟩ (.int .i64 m)) ⟨b,off+j*2+1,none⟩ (.int .i64 (m+1))) (.sl n (L++(.v (.int .i64 m))::(.v (.int .i64 (m+1)))::R)) bs (.slice (some ⟨b,off,none⟩) n c):=t1
   clear z0_0 z0_1
   go_wp2_with fail
   have hmk:gy (aF.enc x) m=[.v (.int .i64 m),.v (.int .i64 (m+1))]:=by
    show gy [.v (.int .i64 x.agent),.v (.int .i64 x.slot)] m=_;simp only[jJ,jA,o8,sV,oP,lq]
    all_goals (exact(gQ (rD (by omega)) (gQ (rD (by omega)) rfl)))
   have hfin:gy ((xs.take (j+1)).flatMap aF.enc) k++(xs.drop (j+1)).flatMap aF.enc=L++(.v (.int .i64 m))::(.v (.int .i64 (m+1)))::R:=by
    rw[hsn.out,eY,HL.out,←hm.out,hmk,List.append_assoc,HR.out];rfl
   exact⟨⟨j+1,m+1+1,by omega,by go_num,by first|rfl|go_num,Lib.hid (by rw[hsn.out,bK];have h8:=hcx.out;have h9:=hm.out;omega),by omega,by rw[hfin];exact t1,((hon).trans u0).trans u1,v1⟩,by simp[intOf];omega⟩
  ·have:j=n:=by omega
   subst this
   go_wp2_with fail
   go_ret;have hl:=Hn.out;rw[List.take_of_length_le (by omega),List.drop_of_length_le (by omega)]at ht;have hm':=hm.out;rw[List.take_of_length_le (by omega)]at hm';exact⟨m,rfl,hm',by simpa using ht,hon,hw⟩
theorem Ca(xs:List aF)(k r:Int)(n:Nat){A:Option Addr}{c:Nat}{bs:List Nat}(w:World)(hx:T1 w (.sl n (gy (xs.flatMap aF.enc) k)) bs (.slice A n c))(Hn:Hid (xs.length=n))(hk0:0≤k)(hk1:r≤4611686018427387904)(Hr:Hid (r=k+(cN (xs.flatMap aF.enc):Nat))):Calls Try.prog 50 #[.slice A n c,.int .i64 k] w fun e w'=>e=.returned (.int .i64 (r))∧Ext w w':=by
 refine bC fun e=> ?_
 have hn:=hx.vU
 go_enter Try.func50,Try.ntmps50
 go_wp2_with fail
 repeat (refine ay _ (by kernel_rfl) (by kernel_rfl) ?_;(repeat (go_big_quiet_step (fail)));refine wpQuiet_nil ?_;intro e;go_wp2_with fail)
 go_loopw [1,5] (fun l i w'=>∃(j:Nat) (m:Int),j≤n∧i=.int .i64 j∧l=.int .i64 m∧Hid (m=k+(cN ((xs.take j).flatMap aF.enc):Nat))∧0≤m∧∃e:aU w,w'=e.to) (fun _ i _=>n-(intOf i).toNat)
 case atStart=>exact⟨0,k,Nat.zero_le _,rfl,rfl,Lib.hid (by simp[eX]),hk0,_,rfl⟩
 case round=>
  obtain⟨j,m,hj,rfl,rfl,hm,hm0,e,rfl⟩:=hrel
  by_cases hlt:j<n
  ·obtain⟨x,hxk,hsp,hll,hsn, -⟩:=jd aF.enc 2 aF.aZ Hn hlt;have hcx:Hid (cN (aF.enc x)=1+1):=by show cN [.v (.int .i64 x.agent),.v (.int .i64 x.slot)]=_;simp only[fJ,oP,lq,eX]<;>omega
   have hbd:m+1+1≤4611686018427387904:=by
    have h1:=hm.out;have h2:=Hr.out;have h3:=hcx.out
    have h5:cN (xs.flatMap aF.enc)=cN ((xs.take j).flatMap aF.enc)+(cN (aF.enc x)+cN ((xs.drop (j+1)).flatMap aF.enc)):=by rw[hsp.out,bK,bK]
    omega
   have hmk:gy (aF.enc x) m=[.v (.int .i64 (m)),.v (.int .i64 (m+1))]:=by
    show gy [.v (.int .i64 x.agent),.v (.int .i64 x.slot)] m=_;simp only[jJ,jA,o8,sV,oP,lq]
    all_goals (exact(gQ (rD (by omega)) (gQ (rD (by omega)) rfl)))
   have hxx:=hx;rw[hsp.out,eY,eY,←hm.out,hmk]at hxx;have hml:(gy ((xs.take j).flatMap aF.enc) k).length=j*2:=by rw[nN,hll]
   generalize hL:gy ((xs.take j).flatMap aF.enc) k=L at hxx hml;clear hL hll hmk;generalize hR:gy ((xs.drop (j+1)).flatMap aF.enc) (m+(cN (aF.enc x):Nat))=R at hxx;clear hR
   replace hxx:T1 w (.sl n (L++(.v (.int .i64 (m)))::(.v (.int .i64 (m+1)))::R)) bs (.slice A n c):=hxx
   obtain⟨b,off,rfl⟩:=hxx.Rv;have z0:T1 w (.sl n (L++(.v (.int .i64 (m)))::(.v (.int .i64 (m+1)))::R)) bs (.slice (some ⟨b,off,none⟩) n c):=by exact hxx
   have y0:=z0.CY (o:=off+j*2) rfl (by simp only[List.length_append,List.length_cons,List.length_nil,hml]<;>omega);have z1:T1 w (.sl n ((L++[.v (.int .i64 (m))])++(.v (.int .i64 (m+1)))::R)) bs (.slice (some ⟨b,off,none⟩) n c):=by rw[List.append_assoc];exact hxx
   have y1:=z1.CY (o:=off+j*2+1) rfl (by simp only[List.length_append,List.length_cons,List.length_nil,hml]<;>omega);clear hxx z0 z1
   go_wp2_with fail
   repeat (refine ay _ (by kernel_rfl) (by kernel_rfl) ?_;(repeat (go_big_quiet_step (fail)));refine wpQuiet_nil ?_;intro e;go_wp2_with fail)
   exact⟨⟨j+1,m+1+1,by omega,by go_num,by first|rfl|go_num,Lib.hid (by rw[hsn.out,bK];have h8:=hcx.out;have h9:=hm.out;omega),by omega,_,rfl⟩,by simp[intOf];omega⟩
  ·have:j=n:=by omega
   subst this
   have E:Hid (r=m):=by
    have h1:=hm.out;have h2:=Hr.out;have h3:=Hn.out
    rw[List.take_of_length_le (by omega)]at h1;show _=_;omega
   go_wp2_with fail
   repeat (refine ay _ (by kernel_rfl) (by kernel_rfl) ?_;(repeat (go_big_quiet_step (fail)));refine wpQuiet_nil ?_;intro e;go_wp2_with fail)
   go_ret;exact⟨by rw[E.out];rfl,_,rfl⟩
theorem sS(xs:List au)(k:Int){A:Option Addr}{c lo:Nat}{bs}(w:World)(hx:T1 w (.sl xs.length (xs.flatMap au.enc)) bs (.slice A xs.length c))(ho:Own lo w bs)(hn':xs.length≤maxLen)(hk0:0≤k)(hk1:k+(cN (xs.flatMap au.enc):Nat)≤4611686018427387904):
  Calls Try.prog 25 #[.slice A xs.length c,.int .i64 k] w fun e w'=>∃r:Int,e=.returned (.int .i64 r)∧Hid (r=k+(cN (xs.flatMap au.enc):Nat))∧T1 w' (.sl xs.length (gy (xs.flatMap au.enc) k)) bs (.slice A xs.length c)∧lS bs w w'∧Own lo w' bs:=by
 unfold maxLen at hn';obtain⟨n,hn⟩:∃n,xs.length=n:=⟨_,rfl⟩;rw[hn]at hx hn' ⊢;have Hn:Hid (xs.length=n):=hn;clear hn;have hkk:=Lib.hid hk1;clear hk1
 go_enter Try.func25,Try.ntmps25
 go_wp2_with fail
 go_loopw [1,5] (fun l i w'=>∃(j:Nat) (m:Int),j≤n∧i=.int .i64 j∧l=.int .i64 m∧Hid (m=k+(cN ((xs.take j).flatMap au.enc):Nat))∧0≤m∧T1 w' (.sl n (gy ((xs.take j).flatMap au.enc) k++(xs.drop j).flatMap au.enc)) bs (.slice A n c)∧lS bs w w'∧Own lo w' bs) (fun _ i _=>n-(intOf i).toNat)
 case atStart=>exact⟨0,k,Nat.zero_le _,rfl,rfl,Lib.hid (by simp[eX]),hk0,by simpa[jA]using hx,lS.refl _ _,ho⟩
 case round=>
  obtain⟨j,m,hj,rfl,rfl,hm,hm0,ht,hon,hw⟩:=hrel
  by_cases hlt:j<n
  ·obtain⟨x,hxk,hsp,hll,hsn,hdr⟩:=jd au.enc 5 au.aZ Hn hlt;rw[hdr.out,List.flatMap_cons]at ht;have hml:(gy ((xs.take j).flatMap au.enc) k).length=j*5:=by rw[nN,hll]
   generalize hL:gy ((xs.take j).flatMap au.enc) k=L at ht hml;have HL:=Lib.hid hL;clear hL hll;have hcx:Hid (cN (au.enc x)=1+1+1+cN (x.data.flatMap bL)+cN (x.aH.flatMap aF.enc)):=by show cN [.v (.int .i64 x.kind),.v (.int .i64 x.level),.v (.int .i64 x.value),.sl x.data.length (x.data.flatMap bL),.sl x.aH.length (x.aH.flatMap aF.enc)]=_;simp only[fJ,oP,lq,eX]<;>omega
   have hbd:m+1+1+1+(cN (x.data.flatMap bL):Nat)+(cN (x.aH.flatMap aF.enc):Nat)≤4611686018427387904:=by
    have h1:=hm.out;have h2:=hkk.out;have h3:=hcx.out
    have h4:=hsp.out;have h5:cN (xs.flatMap au.enc)=cN ((xs.take j).flatMap au.enc)+(cN (au.enc x)+cN ((xs.drop (j+1)).flatMap au.enc)):=by rw[h4,bK,bK]
    omega
   replace ht:T1 wr (.sl n (L++(.v (.int .i64 x.kind))::(.v (.int .i64 x.level))::(.v (.int .i64 x.value))::(.sl x.data.length (x.data.flatMap bL))::(.sl x.aH.length (x.aH.flatMap aF.enc))::(xs.drop (j+1)).flatMap au.enc)) bs (.slice A n c):=ht
   generalize hR:(xs.drop (j+1)).flatMap au.enc=R at ht;have HR:=Lib.hid hR;clear hR;obtain⟨b,off,rfl, -,hbm,hbl,hblo,hfz⟩:=ht.row hw;have z0_0:T1 wr (.sl n (L++(.v (.int .i64 x.kind))::(.v (.int .i64 x.level))::(.v (.int .i64 x.value))::(.sl x.data.length (x.data.flatMap bL))::(.sl x.aH.length (x.aH.flatMap aF.enc))::R)) bs (.slice (some ⟨b,off,none⟩) n c):=by exact ht
   have y0_0:=(z0_0.leaf hw (o:=off+j*5) rfl (by simp only[List.length_append,List.length_cons,List.length_nil,hml]<;>omega)).1;have z0_1:T1 wr (.sl n ((L++[.v (.int .i64 x.kind)])++(.v (.int .i64 x.level))::(.v (.int .i64 x.value))::(.sl x.data.length (x.data.flatMap bL))::(.sl x.aH.length (x.aH.flatMap aF.enc))::R)) bs (.slice (some ⟨b,off,none⟩) n c):=by rw[List.append_assoc];exact ht
   have y0_1:=(z0_1.leaf hw (o:=off+j*5+1) rfl (by simp only[List.length_append,List.length_cons,List.length_nil,hml]<;>omega)).1;have z0_2:T1 wr (.sl n ((L++[.v (.int .i64 x.kind),.v (.int .i64 x.level)])++(.v (.int .i64 x.value))::(.sl x.data.length (x.data.flatMap bL))::(.sl x.aH.length (x.aH.flatMap aF.enc))::R)) bs (.slice (some ⟨b,off,none⟩) n c):=by rw[List.append_assoc];exact ht
   have y0_2:=(z0_2.leaf hw (o:=off+j*5+2) rfl (by simp only[List.length_append,List.length_cons,List.length_nil,hml]<;>omega)).1;have z0_3:T1 wr (.sl n ((L++[.v (.int .i64 x.kind),.v (.int .i64 x.level),.v (.int .i64 x.value)])++(.sl x.data.length (x.data.flatMap bL))::(.sl x.aH.length (x.aH.flatMap aF.enc))::R)) bs (.slice (some ⟨b,off,none⟩) n c):=by rw[List.append_assoc];exact ht
   obtain⟨A0_3,c0_3,b0_3,y0_3, -⟩:=z0_3.sub hw (o:=off+j*5+3) rfl (by simp only[List.length_append,List.length_cons,List.length_nil,hml]<;>omega);obtain⟨t0,u0,v0⟩:=(ht.leaf hw (o:=off+j*5) rfl (by simp only[List.length_append,List.length_cons,List.length_nil,hml]<;>omega)).2 (.int .i64 m) rfl
   replace t0:T1 (World.setCell wr ⟨b,off+j*5,none⟩ (.int .i64 m)) (.sl n (L++(.v (.int .i64 m))::(.v (.int .i64 x.level))::(.v (.int .i64 x.value))::(.sl x.data.length (x.data.flatMap bL))::(.sl x.aH.length (x.aH.flatMap aF.enc))::R)) bs (.slice (some ⟨b,off,none⟩) n c):=t0
   replace t0:T1 (World.setCell wr ⟨b,off+j*5,none⟩ (.int .i64 m)) (.sl n ((L++[.v (.int .i64 m)])++(.v (.int .i64 x.level))::(.v (.int .i64 x.value))::(.sl x.data.length (x.data.flatMap bL))::(.sl x.aH.length (x.aH.flatMap aF.enc))::R)) bs (.slice (some ⟨b,off,none⟩) n c):=by rw[List.append_assoc];exact t0
   obtain⟨t1,u1,v1⟩:=(t0.leaf v0 (o:=off+j*5+1) rfl (by simp only[List.length_append,List.length_cons,List.length_nil,hml]<;>omega)).2 (.int .i64 (m+1)) rfl;rw[List.append_assoc]at t1
   replace t1:T1 (World.setCell (World.setCell wr ⟨b,off+j*5,none⟩ (.int .i64 m)) ⟨b,off+j*5+1,none⟩ (.int .i64 (m+1))) (.sl n (L++(.v (.int .i64 m))::(.v (.int .i64 (m+1)))::(.v (.int .i64 x.value))::(.sl x.data.length (x.data.flatMap bL))::(.sl x.aH.length (x.aH.flatMap aF.enc))::R)) bs (.slice (some ⟨b,off,none⟩) n c):=t1
   replace t1:T1 (World.setCell (World.setCell wr ⟨b,off+j*5,none⟩ (.int .i64 m)) ⟨b,off+j*5+1,none⟩ (.int .i64 (m+1))) (.sl n ((L++[.v (.int .i64 m),.v (.int .i64 (m+1))])++(.v (.int .i64 x.value))::(.sl x.data.length (x.data.flatMap bL))::(.sl x.aH.length (x.aH.flatMap aF.enc))::R)) bs (.slice (some ⟨b,off,none⟩) n c):=by rw[List.append_assoc];exact t1
   obtain⟨t2,u2,v2⟩:=(t1.leaf v1 (o:=off+j*5+2) rfl (by simp only[List.length_append,List.length_cons,List.length_nil,hml]<;>omega)).2 (.int .i64 (m+1+1)) rfl;rw[List.append_assoc]at t2
   replace t2:T1 (World.setCell (World.setCell (World.setCell wr ⟨b,off+j*5,none⟩ (.int .i64 m)) ⟨b,off+j*5+1,none⟩ (.int .i64 (m+1))) ⟨b,off+j*5+2,none⟩ (.int .i64 (m+1+1))) (.sl n (L++(.v (.int .i64 m))::(.v (.int .i64 (m+1)))::(.v (.int .i64 (m+1+1)))::(.sl x.data.length (x.data.flatMap bL))::(.sl x.aH.length (x.aH.flatMap aF.enc))::R)) bs (.slice (some ⟨b,off,none⟩) n c):=t2
   have g3:T1 (World.setCell (World.setCell (World.setCell wr ⟨b,off+j*5,none⟩ (.int .i64 m)) ⟨b,off+j*5+1,none⟩ (.int .i64 (m+1))) ⟨b,off+j*5+2,none⟩ (.int .i64 (m+1+1))) (.sl n ((L++[.v (.int .i64 m),.v (.int .i64 (m+1)),.v (.int .i64 (m+1+1))])++(.sl x.data.length (x.data.flatMap bL))::(.sl x.aH.length (x.aH.flatMap aF.enc))::R)) bs (.slice (some ⟨b,off,none⟩) n c):=by rw[List.append_assoc];exact t2
   obtain⟨A3,c3,b3,k3,s3,n3,o3,nb3,back3⟩:=g3.sub v2 (o:=off+j*5+3) rfl (by simp only[List.length_append,List.length_cons,List.length_nil,hml]<;>omega)
   obtain⟨rfl,rfl⟩:A0_3=A3∧c0_3=c3:=by
    have hh:=k3;rw[iK _ _ _ _ _ (by omega)]at hh;rw[iK _ _ _ _ _ (by omega)]at hh;rw[iK _ _ _ _ _ (by omega)]at hh;rw[y0_3]at hh;simpa using hh
   clear k3;have HB3:=Lib.hid back3;clear back3 g3;clear z0_0 z0_1 z0_2 z0_3
   go_wp2_with fail
   refine(A9 x.data (m+1+1+1) _ s3 o3 n3 (by omega) (by omega)).mono ?_;rintro _ W1 ⟨r1,rfl,hr1,q3,f3, -⟩;obtain⟨t3,u3,v3⟩:=HB3.out W1 _ f3 q3;have p1:0≤r1:=by have:=hr1.out;omega
   have l1:r1+(cN (x.aH.flatMap aF.enc):Nat)≤4611686018427387904:=by have:=hr1.out;omega
   rw[List.append_assoc]at t3
   replace t3:T1 W1 (.sl n (L++(.v (.int .i64 m))::(.v (.int .i64 (m+1)))::(.v (.int .i64 (m+1+1)))::(.sl x.data.length (gy (x.data.flatMap bL) (m+1+1+1)))::(.sl x.aH.length (x.aH.flatMap aF.enc))::R)) bs (.slice (some ⟨b,off,none⟩) n c):=t3
   have hfz1:∀o,World.frozen? W1 ⟨b,o,none⟩=false:=fun o=>(by obtain⟨_,cur,tt,hrow⟩:=v3.2 b hbm;simp[World.frozen?,hrow])
   have z1_4:T1 W1 (.sl n ((L++[.v (.int .i64 m),.v (.int .i64 (m+1)),.v (.int .i64 (m+1+1)),.sl x.data.length (gy (x.data.flatMap bL) (m+1+1+1))])++(.sl x.aH.length (x.aH.flatMap aF.enc))::R)) bs (.slice (some ⟨b,off,none⟩) n c):=by rw[List.append_assoc];exact t3
   obtain⟨A1_4,c1_4,b1_4,y1_4, -⟩:=z1_4.sub v3 (o:=off+j*5+4) rfl (by simp only[List.length_append,List.length_cons,List.length_nil,hml]<;>omega);have g4:T1 W1 (.sl n ((L++[.v (.int .i64 m),.v (.int .i64 (m+1)),.v (.int .i64 (m+1+1)),.sl x.data.length (gy (x.data.flatMap bL) (m+1+1+1))])++(.sl x.aH.length (x.aH.flatMap aF.enc))::R)) bs (.slice (some ⟨b,off,none⟩) n c):=by rw[List.append_assoc];exact t3
   obtain⟨A4,c4,b4,k4,s4,n4,o4,nb4,back4⟩:=g4.sub v3 (o:=off+j*5+4) rfl (by simp only[List.length_append,List.length_cons,List.length_nil,hml]<;>omega)
   obtain⟨rfl,rfl⟩:A1_4=A4∧c1_4=c4:=by
    have hh:=k4;rw[y1_4]at hh;simpa using hh
   clear k4;have HB4:=Lib.hid back4;clear back4 g4;clear z1_4
   go_wp2_with fail
   refine(Ce x.aH (r1) _ s4 o4 n4 (by omega) (by omega)).mono ?_;rintro _ W2 ⟨r2,rfl,hr2,q4,f4, -⟩;obtain⟨t4,u4,v4⟩:=HB4.out W2 _ f4 q4;have p2:0≤r2:=by have:=hr2.out;omega
   have l2:r2+0≤4611686018427387904:=by have:=hr2.out;omega
   rw[List.append_assoc]at t4
   replace t4:T1 W2 (.sl n (L++(.v (.int .i64 m))::(.v (.int .i64 (m+1)))::(.v (.int .i64 (m+1+1)))::(.sl x.data.length (gy (x.data.flatMap bL) (m+1+1+1)))::(.sl x.aH.length (gy (x.aH.flatMap aF.enc) (r1)))::R)) bs (.slice (some ⟨b,off,none⟩) n c):=t4
   go_wp2_with fail
   have hmk:gy (au.enc x) m=[.v (.int .i64 m),.v (.int .i64 (m+1)),.v (.int .i64 (m+1+1)),.sl x.data.length (gy (x.data.flatMap bL) (m+1+1+1)),.sl x.aH.length (gy (x.aH.flatMap aF.enc) (r1))]:=by
    show gy [.v (.int .i64 x.kind),.v (.int .i64 x.level),.v (.int .i64 x.value),.sl x.data.length (x.data.flatMap bL),.sl x.aH.length (x.aH.flatMap aF.enc)] m=_;simp only[jJ,jA,o8,sV,oP,lq]
    all_goals (have h1:=hr1.out;have h2:=hr2.out;exact(gQ (rD (by omega)) (gQ (rD (by omega)) (gQ (rD (by omega)) (gQ (yL (by omega)) (gQ (yL (by omega)) rfl))))))
   have hfin:gy ((xs.take (j+1)).flatMap au.enc) k++(xs.drop (j+1)).flatMap au.enc=L++(.v (.int .i64 m))::(.v (.int .i64 (m+1)))::(.v (.int .i64 (m+1+1)))::(.sl x.data.length (gy (x.data.flatMap bL) (m+1+1+1)))::(.sl x.aH.length (gy (x.aH.flatMap aF.enc) (r1)))::R:=by
    rw[hsn.out,eY,HL.out,←hm.out,hmk,List.append_assoc,HR.out];rfl
   exact⟨⟨j+1,r2,by omega,by go_num,by first|rfl|go_num,Lib.hid (by rw[hsn.out,bK];have h1:=hr1.out;have h2:=hr2.out;have h8:=hcx.out;have h9:=hm.out;omega),by omega,by rw[hfin];exact t4,(((((hon).trans u0).trans u1).trans u2).trans u3).trans u4,v4⟩,by simp[intOf];omega⟩
  ·have:j=n:=by omega
   subst this
   go_wp2_with fail
   go_ret;have hl:=Hn.out;rw[List.take_of_length_le (by omega),List.drop_of_length_le (by omega)]at ht;have hm':=hm.out;rw[List.take_of_length_le (by omega)]at hm';exact⟨m,rfl,hm',by simpa using ht,hon,hw⟩
theorem sI(xs:List au)(k r:Int)(n:Nat){A:Option Addr}{c:Nat}{bs:List Nat}(w:World)(hx:T1 w (.sl n (gy (xs.flatMap au.enc) k)) bs (.slice A n c))(Hn:Hid (xs.length=n))(hk0:0≤k)(hk1:r≤4611686018427387904)(Hr:Hid (r=k+(cN (xs.flatMap au.enc):Nat))):Calls Try.prog 26 #[.slice A n c,.int .i64 k] w fun e w'=>e=.returned (.int .i64 (r))∧Ext w w':=by
 refine bC fun e=> ?_
 have hn:=hx.vU
 go_enter Try.func26,Try.ntmps26
 go_wp2_with fail
 repeat (refine ay _ (by kernel_rfl) (by kernel_rfl) ?_;(repeat (go_big_quiet_step (fail)));refine wpQuiet_nil ?_;intro e;go_wp2_with fail)
 go_loopw [1,5] (fun l i w'=>∃(j:Nat) (m:Int),j≤n∧i=.int .i64 j∧l=.int .i64 m∧Hid (m=k+(cN ((xs.take j).flatMap au.enc):Nat))∧0≤m∧∃e:aU w,w'=e.to) (fun _ i _=>n-(intOf i).toNat)
 case atStart=>exact⟨0,k,Nat.zero_le _,rfl,rfl,Lib.hid (by simp[eX]),hk0,_,rfl⟩
 case round=>
  obtain⟨j,m,hj,rfl,rfl,hm,hm0,e,rfl⟩:=hrel
  by_cases hlt:j<n
  ·obtain⟨x,hxk,hsp,hll,hsn, -⟩:=jd au.enc 5 au.aZ Hn hlt;have hcx:Hid (cN (au.enc x)=1+1+1+cN (x.data.flatMap bL)+cN (x.aH.flatMap aF.enc)):=by show cN [.v (.int .i64 x.kind),.v (.int .i64 x.level),.v (.int .i64 x.value),.sl x.data.length (x.data.flatMap bL),.sl x.aH.length (x.aH.flatMap aF.enc)]=_;simp only[fJ,oP,lq,eX]<;>omega
   have hbd:m+1+1+1+(cN (x.data.flatMap bL):Nat)+(cN (x.aH.flatMap aF.enc):Nat)≤4611686018427387904:=by
    have h1:=hm.out;have h2:=Hr.out;have h3:=hcx.out
    have h5:cN (xs.flatMap au.enc)=cN ((xs.take j).flatMap au.enc)+(cN (au.enc x)+cN ((xs.drop (j+1)).flatMap au.enc)):=by rw[hsp.out,bK,bK]
    omega
   obtain⟨r1,hr1⟩:∃q:Int,q=m+1+1+1+((cN (x.data.flatMap bL):Nat):Int):=⟨_,rfl⟩;obtain⟨r2,hr2⟩:∃q:Int,q=r1+((cN (x.aH.flatMap aF.enc):Nat):Int):=⟨_,rfl⟩
   have hmk:gy (au.enc x) m=[.v (.int .i64 (m)),.v (.int .i64 (m+1)),.v (.int .i64 (m+1+1)),.sl x.data.length (gy (x.data.flatMap bL) (m+1+1+1)),.sl x.aH.length (gy (x.aH.flatMap aF.enc) (r1))]:=by
    show gy [.v (.int .i64 x.kind),.v (.int .i64 x.level),.v (.int .i64 x.value),.sl x.data.length (x.data.flatMap bL),.sl x.aH.length (x.aH.flatMap aF.enc)] m=_;simp only[jJ,jA,o8,sV,oP,lq]
    all_goals (exact(gQ (rD (by omega)) (gQ (rD (by omega)) (gQ (rD (by omega)) (gQ (yL (by omega)) (gQ (yL (by omega)) rfl))))))
   have hxx:=hx;rw[hsp.out,eY,eY,←hm.out,hmk]at hxx;have hml:(gy ((xs.take j).flatMap au.enc) k).length=j*5:=by rw[nN,hll]
   generalize hL:gy ((xs.take j).flatMap au.enc) k=L at hxx hml;clear hL hll hmk;generalize hR:gy ((xs.drop (j+1)).flatMap au.enc) (m+(cN (au.enc x):Nat))=R at hxx;clear hR
   replace hxx:T1 w (.sl n (L++(.v (.int .i64 (m)))::(.v (.int .i64 (m+1)))::(.v (.int .i64 (m+1+1)))::(.sl x.data.length (gy (x.data.flatMap bL) (m+1+1+1)))::(.sl x.aH.length (gy (x.aH.flatMap aF.enc) (r1)))::R)) bs (.slice A n c):=hxx
   obtain⟨b,off,rfl⟩:=hxx.Rv;have z0:T1 w (.sl n (L++(.v (.int .i64 (m)))::(.v (.int .i64 (m+1)))::(.v (.int .i64 (m+1+1)))::(.sl x.data.length (gy (x.data.flatMap bL) (m+1+1+1)))::(.sl x.aH.length (gy (x.aH.flatMap aF.enc) (r1)))::R)) bs (.slice (some ⟨b,off,none⟩) n c):=by exact hxx
   have y0:=z0.CY (o:=off+j*5) rfl (by simp only[List.length_append,List.length_cons,List.length_nil,hml]<;>omega);have z1:T1 w (.sl n ((L++[.v (.int .i64 (m))])++(.v (.int .i64 (m+1)))::(.v (.int .i64 (m+1+1)))::(.sl x.data.length (gy (x.data.flatMap bL) (m+1+1+1)))::(.sl x.aH.length (gy (x.aH.flatMap aF.enc) (r1)))::R)) bs (.slice (some ⟨b,off,none⟩) n c):=by rw[List.append_assoc];exact hxx
   have y1:=z1.CY (o:=off+j*5+1) rfl (by simp only[List.length_append,List.length_cons,List.length_nil,hml]<;>omega);have z2:T1 w (.sl n ((L++[.v (.int .i64 (m)),.v (.int .i64 (m+1))])++(.v (.int .i64 (m+1+1)))::(.sl x.data.length (gy (x.data.flatMap bL) (m+1+1+1)))::(.sl x.aH.length (gy (x.aH.flatMap aF.enc) (r1)))::R)) bs (.slice (some ⟨b,off,none⟩) n c):=by rw[List.append_assoc];exact hxx
   have y2:=z2.CY (o:=off+j*5+2) rfl (by simp only[List.length_append,List.length_cons,List.length_nil,hml]<;>omega);have z3:T1 w (.sl n ((L++[.v (.int .i64 (m)),.v (.int .i64 (m+1)),.v (.int .i64 (m+1+1))])++(.sl x.data.length (gy (x.data.flatMap bL) (m+1+1+1)))::(.sl x.aH.length (gy (x.aH.flatMap aF.enc) (r1)))::R)) bs (.slice (some ⟨b,off,none⟩) n c):=by rw[List.append_assoc];exact hxx
   obtain⟨A3,c3,b3,y3,s3,n3⟩:=z3.Vn (o:=off+j*5+3) rfl (by simp only[List.length_append,List.length_cons,List.length_nil,hml]<;>omega);have z4:T1 w (.sl n ((L++[.v (.int .i64 (m)),.v (.int .i64 (m+1)),.v (.int .i64 (m+1+1)),.sl x.data.length (gy (x.data.flatMap bL) (m+1+1+1))])++(.sl x.aH.length (gy (x.aH.flatMap aF.enc) (r1)))::R)) bs (.slice (some ⟨b,off,none⟩) n c):=by rw[List.append_assoc];exact hxx
   obtain⟨A4,c4,b4,y4,s4,n4⟩:=z4.Vn (o:=off+j*5+4) rfl (by simp only[List.length_append,List.length_cons,List.length_nil,hml]<;>omega);clear hxx z0 z1 z2 z3 z4;have p1:0≤r1:=by omega
   have l1:r1≤4611686018427387904:=by omega
   have ll1:r1+(cN (x.aH.flatMap aF.enc):Nat)≤4611686018427387904:=by omega
   have Hr1:Hid (r1=m+1+1+1+((cN (x.data.flatMap bL):Nat):Int)):=hr1;have C1:Hid (QC Try.prog w _ _ _):=fun W hW=>AJ x.data (m+1+1+1) r1 x.data.length W (s3.below hW) kH (by omega) l1 Hr1
   have p2:0≤r2:=by omega
   have l2:r2≤4611686018427387904:=by omega
   have Hr2:Hid (r2=r1+((cN (x.aH.flatMap aF.enc):Nat):Int)):=hr2;have C2:Hid (QC Try.prog w _ _ _):=fun W hW=>Ca x.aH (r1) r2 x.aH.length W (s4.below hW) kH (by omega) l2 Hr2
   clear hr1 hr2
   go_wp2_with (first|(go_at_call 49;with_reducible refine(C1.out.at_ _).mono ?_;rintro _ _ ⟨rfl,e,rfl⟩)|(go_at_call 50;with_reducible refine(C2.out.at_ _).mono ?_;rintro _ _ ⟨rfl,e,rfl⟩))
   repeat (refine ay _ (by kernel_rfl) (by kernel_rfl) ?_;(repeat (go_big_quiet_step ((first|with_reducible exact C1.out.at_ _|with_reducible exact C2.out.at_ _))));refine wpQuiet_nil ?_;intro e;go_wp2_with (first|(go_at_call 49;with_reducible refine(C1.out.at_ _).mono ?_;rintro _ _ ⟨rfl,e,rfl⟩)|(go_at_call 50;with_reducible refine(C2.out.at_ _).mono ?_;rintro _ _ ⟨rfl,e,rfl⟩)))
   exact⟨⟨j+1,r2,by omega,by go_num,by first|rfl|go_num,Lib.hid (by rw[hsn.out,bK];have h1:=Hr1.out;have h2:=Hr2.out;have h8:=hcx.out;have h9:=hm.out;omega),by omega,_,rfl⟩,by simp[intOf];omega⟩
  ·have:j=n:=by omega
   subst this
   have E:Hid (r=m):=by
    have h1:=hm.out;have h2:=Hr.out;have h3:=Hn.out
    rw[List.take_of_length_le (by omega)]at h1;show _=_;omega
   go_wp2_with fail
   repeat (refine ay _ (by kernel_rfl) (by kernel_rfl) ?_;(repeat (go_big_quiet_step (fail)));refine wpQuiet_nil ?_;intro e;go_wp2_with fail)
   go_ret;exact⟨by rw[E.out];rfl,_,rfl⟩
theorem GN(x:aW)(k:Int){bs us}{lo:Nat}(w:World)(hx:TN w x.enc bs us)(ho:Own lo w bs)(hk0:0≤k)(hk1:k+(x.cnt:Nat)≤4611686018427387904):
  Calls Try.prog 11 #[.agg us.toArray,.int .i64 k] w fun e w'=>∃r:Int,e=.returned (.int .i64 r)∧Hid (r=k+(x.cnt:Nat))∧TN w' (x.ML k) bs us∧lS bs w w'∧Own lo w' bs:=by
 have hlt:=hx.lt;obtain⟨A0,c0,b0,rfl,rfl,t0,l0,m0⟩:=aW.us hx;have o0:=ho;have g0:w.heap.size∉bs:=fun hm=>by have:=hlt _ (show w.heap.size∈bs by simp[hm]);omega
 have B0:∀S,Below w.heap.size w (w.alloc S):=fun _=>(Below.refl _ _).alloc (Nat.le_refl _) _
 have hcn:x.cnt=cN (x.agents.flatMap au.enc):=rfl;rw[hcn]at hk1;clear hcn hx
 go_enter Try.func11,Try.ntmps11
 go_wp2_with fail
 refine(sS x.agents k _ (t0.below (B0 _)) (o0.below (B0 _)) (Nat.le_trans l0 m0) (by omega) (by omega)).mono ?_;rintro _ w1 ⟨r1,rfl,hr1,S0,f1,V0⟩;have p1:0≤r1:=by have:=hr1.out;omega
 have b1_:r1+0≤4611686018427387904:=by have:=hr1.out;omega
 have u1:=(f1.other w.heap.size (by simp) g0).trans (heap_alloc_new w _);have z1:w.heap.size<w1.heap.size:=by have:=f1.size;simp at this;omega
 have F1:lS (bs) w w1:=lS.trans (lS.tF (B0 _)) (f1.sub (fun y hy=>by first|exact hy|(simp at hy ⊢;grind)));have q1_0:=cell_of_row _ _ 0 _ _ _ u1;simp only[List.getElem?_toArray,List.getElem?_cons_zero,List.getElem?_cons_succ]at q1_0
 go_wp2_with fail
 go_ret;refine⟨r1,rfl,?_,?_,F1,ho.zR F1⟩
 ·show _=_;have hcn:x.cnt=cN (x.agents.flatMap au.enc):=rfl;have h1:=hr1.out;omega
 ·have h1:=hr1.out;skip;have h:=(TN.ni S0 TN.done);simp only[List.append_nil,List.nil_append,List.append_assoc,List.cons_append]at h;unfold aW.ML;simpa only[List.append_nil,List.nil_append,List.append_assoc,List.cons_append]using h
theorem y7(x:aW)(k r:Int){bs us}(w:World)(hx:TN w (x.ML k) bs us)(hk0:0≤k)(hk1:r≤4611686018427387904)(Hr:Hid (r=k+(x.cnt:Nat))):Calls Try.prog 12 #[.agg us.toArray,.int .i64 k] w fun e w'=>e=.returned (.int .i64 (r))∧Ext w w':=by
 refine bC fun e=> ?_
 unfold aW.ML at hx;have x1:=hx;clear hx;obtain⟨A0,c0,b0,r0_,U_1,rfl,rfl,t0,l0,m0,x1_⟩:=TN.jD x1;obtain⟨rfl,rfl⟩:=TN.end_ x1_;clear x1_ x1;obtain⟨r1,hr1⟩:∃q:Int,q=k+((cN (x.agents.flatMap au.enc):Nat):Int):=⟨_,rfl⟩;have hcn:x.cnt=cN (x.agents.flatMap au.enc):=rfl;have hE:r1=r:=by have h1:=Hr.out;omega
 have E:=Lib.hid hE;have p1:0≤r1:=by omega
 have q1:r1≤4611686018427387904:=by have h1:=Hr.out;omega
 have Hr1:Hid (r1=k+((cN (x.agents.flatMap au.enc):Nat):Int)):=hr1;clear hcn hE Hr hr1
 go_enter Try.func12,Try.ntmps12
 go_upto_region 1 with(fail)
 generalize hgg:e.to.heap.size=g;refine iH e hgg (fun w1 e hx1 hgeg hltg cg=> ?_);clear hgg
 replace t0:=t0.below hx1
 simp only[List.cons_append,List.nil_append,List.append_nil]at cg;have y0:=cg.always hltg 0 _ rfl;simp only[Nat.zero_add]at y0;clear cg;have C1:Hid (QC Try.prog w1 _ _ _):=fun W hW=>sI x.agents (k) r1 x.agents.length W (t0.below hW) kH (by omega) q1 Hr1
 go_wp2_with (first|(go_at_call 26;with_reducible refine(C1.out.at_ _).mono ?_;rintro _ _ ⟨rfl,e,rfl⟩))
 repeat (refine ay _ (by kernel_rfl) (by kernel_rfl) ?_;(repeat (go_big_quiet_step ((first|with_reducible exact C1.out.at_ _))));refine wpQuiet_nil ?_;intro e;go_wp2_with (first|(go_at_call 26;with_reducible refine(C1.out.at_ _).mono ?_;rintro _ _ ⟨rfl,e,rfl⟩)))
 go_ret;exact⟨by rw[←E.out];rfl,aU.old hx1 e⟩
theorem ED(xs:List aW)(k:Int){A:Option Addr}{c lo:Nat}{bs}(w:World)(hx:T1 w (.sl xs.length (xs.flatMap aW.enc)) bs (.slice A xs.length c))(ho:Own lo w bs)(hn':xs.length≤maxLen)(hk0:0≤k)(hk1:k+(cN (xs.flatMap aW.enc):Nat)≤4611686018427387904):
  Calls Try.prog 16 #[.slice A xs.length c,.int .i64 k] w fun e w'=>∃r:Int,e=.returned (.int .i64 r)∧Hid (r=k+(cN (xs.flatMap aW.enc):Nat))∧T1 w' (.sl xs.length (gy (xs.flatMap aW.enc) k)) bs (.slice A xs.length c)∧lS bs w w'∧Own lo w' bs:=by
 unfold maxLen at hn';obtain⟨n,hn⟩:∃n,xs.length=n:=⟨_,rfl⟩;rw[hn]at hx hn' ⊢;have Hn:Hid (xs.length=n):=hn;clear hn;have hkk:=Lib.hid hk1;clear hk1
 go_enter Try.func16,Try.ntmps16
 go_wp2_with fail
 go_loopw [1,5] (fun l i w'=>∃(j:Nat) (m:Int),j≤n∧i=.int .i64 j∧l=.int .i64 m∧Hid (m=k+(cN ((xs.take j).flatMap aW.enc):Nat))∧0≤m∧T1 w' (.sl n (gy ((xs.take j).flatMap aW.enc) k++(xs.drop j).flatMap aW.enc)) bs (.slice A n c)∧lS bs w w'∧Own lo w' bs) (fun _ i _=>n-(intOf i).toNat)
 case atStart=>exact⟨0,k,Nat.zero_le _,rfl,rfl,Lib.hid (by simp[eX]),hk0,by simpa[jA]using hx,lS.refl _ _,ho⟩
 case round=>
  obtain⟨j,m,hj,rfl,rfl,hm,hm0,ht,hon,hw⟩:=hrel
  by_cases hlt:j<n
  ·obtain⟨x,hxk,hsp,hll,hsn,hdr⟩:=jd aW.enc 1 aW.aZ Hn hlt;rw[hdr.out,List.flatMap_cons]at ht;have hml:(gy ((xs.take j).flatMap aW.enc) k).length=j*1:=by rw[nN,hll]
   generalize hL:gy ((xs.take j).flatMap aW.enc) k=L at ht hml;have HL:=Lib.hid hL;clear hL hll;have hcx:Hid (cN (aW.enc x)=cN (x.agents.flatMap au.enc)):=by show cN [.sl x.agents.length (x.agents.flatMap au.enc)]=_;simp only[fJ,oP,lq,eX]<;>omega
   have hbd:m+(cN (x.agents.flatMap au.enc):Nat)≤4611686018427387904:=by
    have h1:=hm.out;have h2:=hkk.out;have h3:=hcx.out
    have h4:=hsp.out;have h5:cN (xs.flatMap aW.enc)=cN ((xs.take j).flatMap aW.enc)+(cN (aW.enc x)+cN ((xs.drop (j+1)).flatMap aW.enc)):=by rw[h4,bK,bK]
    omega
   replace ht:T1 wr (.sl n (L++(.sl x.agents.length (x.agents.flatMap au.enc))::(xs.drop (j+1)).flatMap aW.enc)) bs (.slice A n c):=ht
   generalize hR:(xs.drop (j+1)).flatMap aW.enc=R at ht;have HR:=Lib.hid hR;clear hR;obtain⟨b,off,rfl, -,hbm,hbl,hblo,hfz⟩:=ht.row hw;have z0_0:T1 wr (.sl n (L++(.sl x.agents.length (x.agents.flatMap au.enc))::R)) bs (.slice (some ⟨b,off,none⟩) n c):=by exact ht
   obtain⟨A0_0,c0_0,b0_0,y0_0, -⟩:=z0_0.sub hw (o:=off+j) rfl (by simp only[List.length_append,List.length_cons,List.length_nil,hml]<;>omega);have g0:=ht;obtain⟨A0,c0,b0,k0,s0,n0,o0,nb0,back0⟩:=g0.sub hw (o:=off+j) rfl (by simp only[List.length_append,List.length_cons,List.length_nil,hml]<;>omega)
   obtain⟨rfl,rfl⟩:A0_0=A0∧c0_0=c0:=by
    have hh:=k0;rw[y0_0]at hh;simpa using hh
   clear k0;have HB0:=Lib.hid back0;clear back0 g0;clear z0_0
   go_wp2_with fail
   refine(sS x.agents (m) _ s0 o0 n0 (by omega) (by omega)).mono ?_;rintro _ W1 ⟨r1,rfl,hr1,q0,f0, -⟩;obtain⟨t0,u0,v0⟩:=HB0.out W1 _ f0 q0;have p1:0≤r1:=by have:=hr1.out;omega
   have l1:r1+0≤4611686018427387904:=by have:=hr1.out;omega
   replace t0:T1 W1 (.sl n (L++(.sl x.agents.length (gy (x.agents.flatMap au.enc) (m)))::R)) bs (.slice (some ⟨b,off,none⟩) n c):=t0
   go_wp2_with fail
   have hmk:gy (aW.enc x) m=[.sl x.agents.length (gy (x.agents.flatMap au.enc) (m))]:=by
    show gy [.sl x.agents.length (x.agents.flatMap au.enc)] m=_;simp only[jJ,jA,o8,sV,oP,lq]
    all_goals (have h1:=hr1.out;exact(gQ (yL (by omega)) rfl))
   have hfin:gy ((xs.take (j+1)).flatMap aW.enc) k++(xs.drop (j+1)).flatMap aW.enc=L++(.sl x.agents.length (gy (x.agents.flatMap au.enc) (m)))::R:=by
    rw[hsn.out,eY,HL.out,←hm.out,hmk,List.append_assoc,HR.out];rfl
   exact⟨⟨j+1,r1,by omega,by go_num,by first|rfl|go_num,Lib.hid (by rw[hsn.out,bK];have h1:=hr1.out;have h8:=hcx.out;have h9:=hm.out;omega),by omega,by rw[hfin];exact t0,(hon).trans u0,v0⟩,by simp[intOf];omega⟩
  ·have:j=n:=by omega
   subst this
   go_wp2_with fail
   go_ret;have hl:=Hn.out;rw[List.take_of_length_le (by omega),List.drop_of_length_le (by omega)]at ht;have hm':=hm.out;rw[List.take_of_length_le (by omega)]at hm';exact⟨m,rfl,hm',by simpa using ht,hon,hw⟩
theorem wU(xs:List aW)(k r:Int)(n:Nat){A:Option Addr}{c:Nat}{bs:List Nat}(w:World)(hx:T1 w (.sl n (gy (xs.flatMap aW.enc) k)) bs (.slice A n c))(Hn:Hid (xs.length=n))(hk0:0≤k)(hk1:r≤4611686018427387904)(Hr:Hid (r=k+(cN (xs.flatMap aW.enc):Nat))):Calls Try.prog 17 #[.slice A n c,.int .i64 k] w fun e w'=>e=.returned (.int .i64 (r))∧Ext w w':=by
 refine bC fun e=> ?_
 have hn:=hx.vU
 go_enter Try.func17,Try.ntmps17
 go_wp2_with fail
 repeat (refine ay _ (by kernel_rfl) (by kernel_rfl) ?_;(repeat (go_big_quiet_step (fail)));refine wpQuiet_nil ?_;intro e;go_wp2_with fail)
 go_loopw [1,5] (fun l i w'=>∃(j:Nat) (m:Int),j≤n∧i=.int .i64 j∧l=.int .i64 m∧Hid (m=k+(cN ((xs.take j).flatMap aW.enc):Nat))∧0≤m∧∃e:aU w,w'=e.to) (fun _ i _=>n-(intOf i).toNat)
 case atStart=>exact⟨0,k,Nat.zero_le _,rfl,rfl,Lib.hid (by simp[eX]),hk0,_,rfl⟩
 case round=>
  obtain⟨j,m,hj,rfl,rfl,hm,hm0,e,rfl⟩:=hrel
  by_cases hlt:j<n
  ·obtain⟨x,hxk,hsp,hll,hsn, -⟩:=jd aW.enc 1 aW.aZ Hn hlt;have hcx:Hid (cN (aW.enc x)=cN (x.agents.flatMap au.enc)):=by show cN [.sl x.agents.length (x.agents.flatMap au.enc)]=_;simp only[fJ,oP,lq,eX]<;>omega
   have hbd:m+(cN (x.agents.flatMap au.enc):Nat)≤4611686018427387904:=by
    have h1:=hm.out;have h2:=Hr.out;have h3:=hcx.out
    have h5:cN (xs.flatMap aW.enc)=cN ((xs.take j).flatMap aW.enc)+(cN (aW.enc x)+cN ((xs.drop (j+1)).flatMap aW.enc)):=by rw[hsp.out,bK,bK]
    omega
   obtain⟨r1,hr1⟩:∃q:Int,q=m+((cN (x.agents.flatMap au.enc):Nat):Int):=⟨_,rfl⟩
   have hmk:gy (aW.enc x) m=[.sl x.agents.length (gy (x.agents.flatMap au.enc) (m))]:=by
    show gy [.sl x.agents.length (x.agents.flatMap au.enc)] m=_;simp only[jJ,jA,o8,sV,oP,lq]
    all_goals (exact(gQ (yL (by omega)) rfl))
   have hxx:=hx;rw[hsp.out,eY,eY,←hm.out,hmk]at hxx;have hml:(gy ((xs.take j).flatMap aW.enc) k).length=j*1:=by rw[nN,hll]
   generalize hL:gy ((xs.take j).flatMap aW.enc) k=L at hxx hml;clear hL hll hmk;generalize hR:gy ((xs.drop (j+1)).flatMap aW.enc) (m+(cN (aW.enc x):Nat))=R at hxx;clear hR
   replace hxx:T1 w (.sl n (L++(.sl x.agents.length (gy (x.agents.flatMap au.enc) (m)))::R)) bs (.slice A n c):=hxx
   obtain⟨b,off,rfl⟩:=hxx.Rv;have z0:T1 w (.sl n (L++(.sl x.agents.length (gy (x.agents.flatMap au.enc) (m)))::R)) bs (.slice (some ⟨b,off,none⟩) n c):=by exact hxx
   obtain⟨A0,c0,b0,y0,s0,n0⟩:=z0.Vn (o:=off+j) rfl (by simp only[List.length_append,List.length_cons,List.length_nil,hml]<;>omega);clear hxx z0;have p1:0≤r1:=by omega
   have l1:r1≤4611686018427387904:=by omega
   have Hr1:Hid (r1=m+((cN (x.agents.flatMap au.enc):Nat):Int)):=hr1;have C1:Hid (QC Try.prog w _ _ _):=fun W hW=>sI x.agents (m) r1 x.agents.length W (s0.below hW) kH (by omega) l1 Hr1
   clear hr1
   go_wp2_with (first|(go_at_call 26;with_reducible refine(C1.out.at_ _).mono ?_;rintro _ _ ⟨rfl,e,rfl⟩))
   repeat (refine ay _ (by kernel_rfl) (by kernel_rfl) ?_;(repeat (go_big_quiet_step ((first|with_reducible exact C1.out.at_ _))));refine wpQuiet_nil ?_;intro e;go_wp2_with (first|(go_at_call 26;with_reducible refine(C1.out.at_ _).mono ?_;rintro _ _ ⟨rfl,e,rfl⟩)))
   exact⟨⟨j+1,r1,by omega,by go_num,by first|rfl|go_num,Lib.hid (by rw[hsn.out,bK];have h1:=Hr1.out;have h8:=hcx.out;have h9:=hm.out;omega),by omega,_,rfl⟩,by simp[intOf];omega⟩
  ·have:j=n:=by omega
   subst this
   have E:Hid (r=m):=by
    have h1:=hm.out;have h2:=Hr.out;have h3:=Hn.out
    rw[List.take_of_length_le (by omega)]at h1;show _=_;omega
   go_wp2_with fail
   repeat (refine ay _ (by kernel_rfl) (by kernel_rfl) ?_;(repeat (go_big_quiet_step (fail)));refine wpQuiet_nil ?_;intro e;go_wp2_with fail)
   go_ret;exact⟨by rw[E.out];rfl,_,rfl⟩
end Go.Proofs.Ytdpclbjjmhkgiaa
