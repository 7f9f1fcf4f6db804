
/- What the laws number and look for again in these types. Printed by gen_mk.py. -/
import Derived.Test.YtcjhkgfmklgikaaGreatShort
import Derived.Test.YtcjhkgfmklgikaaGreatProg
import Derived.Test.YtcjhkgfmklgikaaGreatSc
import Derived.Test.YtcjhkgfmklgikaaGreatValid
import Derived.BigGuardPart
import Derived.Outline
import Derived.Deep.CutBlock
set_option maxHeartbeats 4000000
set_option linter.unusedSimpArgs false
set_option linter.unusedVariables false
namespace Go.Tr
open Go Go.RowKit
def aO.Oh(x:aO)(k:Int):List D:=[.sl x.agents.length (gT (x.agents.flatMap aB.enc) (k))]
def aO.cnt(x:aO):Nat:=cN (x.agents.flatMap aB.enc)
def bI.Oh(x:bI)(k:Int):List D:=[.sl x.book.length (gT (x.book.flatMap aO.enc) (k))]++([.sl x.schedule.length (gT (x.schedule.flatMap bN) (k+(cN (x.book.flatMap aO.enc):Nat)))]++([.v (.int .i64 x.every)]++([.v (.int .i64 x.at_)]++(x.net.Oh (k+(cN (x.book.flatMap aO.enc):Nat)+(cN (x.schedule.flatMap bN):Nat))++([.sl x.origins.length (gT (x.origins.flatMap aY.enc) (k+(cN (x.book.flatMap aO.enc):Nat)+(cN (x.schedule.flatMap bN):Nat)+(x.net.cnt:Nat)))]++([.sl x.breaks.length (gT (x.breaks.flatMap bZ.enc) (k+(cN (x.book.flatMap aO.enc):Nat)+(cN (x.schedule.flatMap bN):Nat)+(x.net.cnt:Nat)+(cN (x.origins.flatMap aY.enc):Nat)))]++([.sl x.points.length (gT (x.points.flatMap aK.enc) (k+(cN (x.book.flatMap aO.enc):Nat)+(cN (x.schedule.flatMap bN):Nat)+(x.net.cnt:Nat)+(cN (x.origins.flatMap aY.enc):Nat)+(cN (x.breaks.flatMap bZ.enc):Nat)))])))))))
def bI.cnt(x:bI):Nat:=cN (x.book.flatMap aO.enc)+cN (x.schedule.flatMap bN)+x.net.cnt+cN (x.origins.flatMap aY.enc)+cN (x.breaks.flatMap bZ.enc)+cN (x.points.flatMap aK.enc)
theorem aF.Cg(x:aF):cN x.enc≤32*(1+(fun _=>0) x):=by
 have hc:cN x.enc=1+1:=by show cN [.v (.int .i64 x.agent),.v (.int .i64 x.slot)]=_;simp only[fZ,mQ,jv,fD]<;>omega
 omega
theorem aB.Cg(x:aB):cN x.enc≤32*(1+x.wt):=by
 have h3:=dJ (f:=bN) (g:=(fun _=>0)) GQ x.data;have h4:=dJ (f:=aF.enc) (g:=(fun _=>0)) aF.Cg x.aH;have hw:x.wt=vL (fun _=>0) x.data+vL (fun _=>0) x.aH:=rfl;have hc:cN x.enc=1+1+1+cN (x.data.flatMap bN)+cN (x.aH.flatMap aF.enc):=by show cN [.v (.int .i64 x.kind),.v (.int .i64 x.level),.v (.int .i64 x.value),.sl x.data.length (x.data.flatMap bN),.sl x.aH.length (x.aH.flatMap aF.enc)]=_;simp only[fZ,mQ,jv,fD]<;>omega
 omega
theorem aO.Cg(x:aO):cN x.enc≤32*(1+x.wt):=by
 have h0:=dJ (f:=aB.enc) (g:=aB.wt) aB.Cg x.agents;have hw:x.wt=vL aB.wt x.agents:=rfl;have hc:cN x.enc=cN (x.agents.flatMap aB.enc):=by show cN [.sl x.agents.length (x.agents.flatMap aB.enc)]=_;simp only[fZ,mQ,jv,fD]<;>omega
 omega
theorem aO.Kz(x:aO):x.cnt≤32*x.wt:=by
 have h0:=dJ (f:=aB.enc) (g:=aB.wt) aB.Cg x.agents;have hw:x.wt=vL aB.wt x.agents:=rfl;have hc:x.cnt=cN (x.agents.flatMap aB.enc):=rfl;omega
theorem aY.Cg(x:aY):cN x.enc≤32*(1+(fun _=>0) x):=by
 have hc:cN x.enc=1+1+1:=by show cN [.v (.int .i64 x.step),.v (.int .i64 x.def_),.v (.int .i64 x.source)]=_;simp only[fZ,mQ,jv,fD]<;>omega
 omega
theorem bZ.Cg(x:bZ):cN x.enc≤32*(1+(fun _=>0) x):=by
 have hc:cN x.enc=1+1:=by show cN [.v (.int .i64 x.kind),.v (.int .i64 x.value)]=_;simp only[fZ,mQ,jv,fD]<;>omega
 omega
theorem aK.Cg(x:aK):cN x.enc≤32*(1+x.wt):=by
 have h1:=dJ (f:=aB.enc) (g:=aB.wt) aB.Cg x.net.agents;have h2:=dJ (f:=aY.enc) (g:=(fun _=>0)) aY.Cg x.origins;have hw:x.wt=x.net.wt+vL (fun _=>0) x.origins:=rfl;have n1:x.net.wt=vL aB.wt x.net.agents:=rfl;have hc:cN x.enc=1+cN (x.net.agents.flatMap aB.enc)+cN (x.origins.flatMap aY.enc):=by show cN [.v (.int .i64 x.at_),.sl x.net.agents.length (x.net.agents.flatMap aB.enc),.sl x.origins.length (x.origins.flatMap aY.enc)]=_;simp only[fZ,mQ,jv,fD]<;>omega
 omega
theorem bI.Cg(x:bI):cN x.enc≤32*(1+x.wt):=by
 have h0:=dJ (f:=aO.enc) (g:=aO.wt) aO.Cg x.book;have h1:=dJ (f:=bN) (g:=(fun _=>0)) GQ x.schedule;have h4:=dJ (f:=aB.enc) (g:=aB.wt) aB.Cg x.net.agents;have h5:=dJ (f:=aY.enc) (g:=(fun _=>0)) aY.Cg x.origins;have h6:=dJ (f:=bZ.enc) (g:=(fun _=>0)) bZ.Cg x.breaks;have h7:=dJ (f:=aK.enc) (g:=aK.wt) aK.Cg x.points;have hw:x.wt=vL aO.wt x.book+vL (fun _=>0) x.schedule+x.net.wt+vL (fun _=>0) x.origins+vL (fun _=>0) x.breaks+vL aK.wt x.points:=rfl
 have n4:x.net.wt=vL aB.wt x.net.agents:=rfl;have hc:cN x.enc=cN (x.book.flatMap aO.enc)+cN (x.schedule.flatMap bN)+1+1+cN (x.net.agents.flatMap aB.enc)+cN (x.origins.flatMap aY.enc)+cN (x.breaks.flatMap bZ.enc)+cN (x.points.flatMap aK.enc):=by show cN [.sl x.book.length (x.book.flatMap aO.enc),.sl x.schedule.length (x.schedule.flatMap bN),.v (.int .i64 x.every),.v (.int .i64 x.at_),.sl x.net.agents.length (x.net.agents.flatMap aB.enc),.sl x.origins.length (x.origins.flatMap aY.enc),.sl x.breaks.length (x.breaks.flatMap bZ.enc),.sl x.points.length (x.points.flatMap aK.enc)]=_;simp only[fZ,mQ,jv,fD]<;>omega
 omega
theorem bI.Kz(x:bI):x.cnt≤32*x.wt:=by
 have h0:=dJ (f:=aO.enc) (g:=aO.wt) aO.Cg x.book;have h1:=dJ (f:=bN) (g:=(fun _=>0)) GQ x.schedule;have h4:=dJ (f:=aB.enc) (g:=aB.wt) aB.Cg x.net.agents;have h5:=dJ (f:=aY.enc) (g:=(fun _=>0)) aY.Cg x.origins;have h6:=dJ (f:=bZ.enc) (g:=(fun _=>0)) bZ.Cg x.breaks;have h7:=dJ (f:=aK.enc) (g:=aK.wt) aK.Cg x.points;have hw:x.wt=vL aO.wt x.book+vL (fun _=>0) x.schedule+x.net.wt+vL (fun _=>0) x.origins+vL (fun _=>0) x.breaks+vL aK.wt x.points:=rfl
 have n4:x.net.wt=vL aB.wt x.net.agents:=rfl;have hc:x.cnt=cN (x.book.flatMap aO.enc)+cN (x.schedule.flatMap bN)+x.net.cnt+cN (x.origins.flatMap aY.enc)+cN (x.breaks.flatMap bZ.enc)+cN (x.points.flatMap aK.enc):=rfl;have c2:=aO.Kz x.net;omega
end Go.Tr
namespace Go.Proofs.YtcjhkgfmklgikaaGreat
open Go Go.RowKit Go.Proofs Go.Tr
theorem CU(xs:List Int)(k:Int){A:Option Addr}{c lo:Nat}{bs}(w:World)(hx:T1 w (.sl xs.length (xs.flatMap bN)) bs (.slice A xs.length c))(ho:Own lo w bs)(hn':xs.length≤maxLen)(hk0:0≤k)(hk1:k+(cN (xs.flatMap bN):Nat)≤4611686018427387904):
  Calls Tryz.prog 16 #[.slice A xs.length c,.int .i64 k] w fun e w'=>∃r:Int,e=.returned (.int .i64 r)∧Hid (r=k+(cN (xs.flatMap bN):Nat))∧T1 w' (.sl xs.length (gT (xs.flatMap bN) k)) bs (.slice A xs.length c)∧ng bs w w'∧Own lo w' bs:=by
 unfold maxLen at hn';obtain⟨n,hn⟩:∃n,xs.length=n:=⟨_,rfl⟩;rw[hn]at hx hn' ⊢;have Hn:Hid (xs.length=n):=hn;clear hn;have hkk:=Lib.hid hk1;clear hk1
 go_enter Tryz.func16,Tryz.ntmps16
 go_wp2_with fail
 go_loopw [1,5] (fun l i w'=>∃(j:Nat) (m:Int),j≤n∧i=.int .i64 j∧l=.int .i64 m∧Hid (m=k+(cN ((xs.take j).flatMap bN):Nat))∧0≤m∧T1 w' (.sl n (gT ((xs.take j).flatMap bN) k++(xs.drop j).flatMap bN)) bs (.slice A n c)∧ng bs w w'∧Own lo w' bs) (fun _ i _=>n-(intOf i).toNat)
 case atStart=>exact⟨0,k,Nat.zero_le _,rfl,rfl,Lib.hid (by simp[fD]),hk0,by simpa[iZ]using hx,ng.refl _ _,ho⟩
 case round=>
  obtain⟨j,m,hj,rfl,rfl,hm,hm0,ht,hon,hw⟩:=hrel
  by_cases hlt:j<n
  ·obtain⟨x,hxk,hsp,hll,hsn,hdr⟩:=jB bN 1 (fun _=>rfl) Hn hlt;rw[hdr.out,qU]at ht;have hml:(gT ((xs.take j).flatMap bN) k).length=j*1:=by rw[nR,hll]
   generalize hL:gT ((xs.take j).flatMap bN) k=L at ht hml;have HL:=Lib.hid hL;clear hL hll;have hcx:Hid (cN (bN x)=1):=by show cN [.v (.int .i64 x)]=_;simp only[fZ,mQ,jv,fD]<;>omega
   have hbd:m+1≤4611686018427387904:=by
    have h1:=hm.out;have h2:=hkk.out;have h3:=hcx.out
    have h4:=hsp.out;have h5:cN (xs.flatMap bN)=cN ((xs.take j).flatMap bN)+(cN (bN x)+cN ((xs.drop (j+1)).flatMap bN)):=by rw[h4,bS,bS]
    omega
   replace ht:T1 wr (.sl n (L++(.v (.int .i64 x))::(xs.drop (j+1)).flatMap bN)) bs (.slice A n c):=ht
   generalize hR:(xs.drop (j+1)).flatMap bN=R at ht;have HR:=Lib.hid hR;clear hR;obtain⟨b,off,rfl, -,hbm,hbl,hblo,hfz⟩:=ht.row hw;have z0_0:T1 wr (.sl n (L++(.v (.int .i64 x))::R)) bs (.slice (some ⟨b,off,none⟩) n c):=by exact ht
   have y0_0:=(z0_0.leaf hw (o:=off+j) rfl (by simp only[qA,qI,qR,hml]<;>omega)).1;obtain⟨t0,u0,v0⟩:=(ht.leaf hw (o:=off+j) rfl (by simp only[qA,qI,qR,hml]<;>omega)).2 (.int .i64 m) rfl
   replace t0:T1 (World.setCell wr ⟨b,off+j,none⟩ (.int .i64 m)) (.sl n (L++(.v (.int .i64 m))::R)) bs (.slice (some ⟨b,off,none⟩) n c):=t0
   clear z0_0
   go_wp2_with fail
   have hmk:gT (bN x) m=[.v (.int .i64 m)]:=by
    show gT [.v (.int .i64 x)] m=_;simp only[jJ,iZ,o8,uS,mQ,jv]
    all_goals (exact(eG (kM (by omega)) rfl))
   have hfin:gT ((xs.take (j+1)).flatMap bN) k++(xs.drop (j+1)).flatMap bN=L++(.v (.int .i64 m))::R:=by
    rw[hsn.out,fO,HL.out,←hm.out,hmk,qF,HR.out];rfl
   exact⟨⟨j+1,m+1,by omega,by go_num,by first|rfl|go_num,Lib.hid (by rw[hsn.out,bS];have h8:=hcx.out;have h9:=hm.out;omega),by omega,by rw[hfin];exact t0,(hon).trans u0,v0⟩,by simp[intOf];omega⟩
  ·have:j=n:=by omega
   subst this
   go_wp2_with fail
   go_ret;have hl:=Hn.out;rw[qN (by omega),List.drop_of_length_le (by omega)]at ht;have hm':=hm.out;rw[qN (by omega)]at hm';exact⟨m,rfl,hm',by simpa using ht,hon,hw⟩
theorem Cw(xs:List Int)(k r:Int)(n:Nat){A:Option Addr}{c:Nat}{bs:List Nat}(w:World)(hx:T1 w (.sl n (gT (xs.flatMap bN) k)) bs (.slice A n c))(Hn:Hid (xs.length=n))(hk0:0≤k)(hk1:r≤4611686018427387904)(Hr:Hid (r=k+(cN (xs.flatMap bN):Nat))):Calls Tryz.prog 18 #[.slice A n c,.int .i64 k] w fun e w'=>e=.returned (.int .i64 (r))∧Ext w w':=by
 refine aS fun e=> ?_
 have hn:=hx.sU
 go_enter Tryz.func18,Tryz.ntmps18
 go_wp2_with fail
 repeat (refine ay _ (by kernel_rfl) (by kernel_rfl) ?_;(repeat (go_big_quiet_step (fail)));refine wpQuiet_nil ?_;intro e;go_wp2_with fail)
 go_loopw [1,5] (fun l i w'=>∃(j:Nat) (m:Int),j≤n∧i=.int .i64 j∧l=.int .i64 m∧Hid (m=k+(cN ((xs.take j).flatMap bN):Nat))∧0≤m∧∃e:aQ w,w'=e.to) (fun _ i _=>n-(intOf i).toNat)
 case atStart=>exact⟨0,k,Nat.zero_le _,rfl,rfl,Lib.hid (by simp[fD]),hk0,_,rfl⟩
 case round=>
  obtain⟨j,m,hj,rfl,rfl,hm,hm0,e,rfl⟩:=hrel
  by_cases hlt:j<n
  ·obtain⟨x,hxk,hsp,hll,hsn, -⟩:=jB bN 1 (fun _=>rfl) Hn hlt;have hcx:Hid (cN (bN x)=1):=by show cN [.v (.int .i64 x)]=_;simp only[fZ,mQ,jv,fD]<;>omega
   have hbd:m+1≤4611686018427387904:=by
    have h1:=hm.out;have h2:=Hr.out;have h3:=hcx.out
    have h5:cN (xs.flatMap bN)=cN ((xs.take j).flatMap bN)+(cN (bN x)+cN ((xs.drop (j+1)).flatMap bN)):=by rw[hsp.out,bS,bS]
    omega
   have hmk:gT (bN x) m=[.v (.int .i64 (m))]:=by
    show gT [.v (.int .i64 x)] m=_;simp only[jJ,iZ,o8,uS,mQ,jv]
    all_goals (exact(eG (kM (by omega)) rfl))
   have hxx:=hx;rw[hsp.out,fO,fO,←hm.out,hmk]at hxx;have hml:(gT ((xs.take j).flatMap bN) k).length=j*1:=by rw[nR,hll]
   generalize hL:gT ((xs.take j).flatMap bN) k=L at hxx hml;clear hL hll hmk;generalize hR:gT ((xs.drop (j+1)).flatMap bN) (m+(cN (bN x):Nat))=R at hxx;clear hR
   replace hxx:T1 w (.sl n (L++(.v (.int .i64 (m)))::R)) bs (.slice A n c):=hxx
   obtain⟨b,off,rfl⟩:=hxx.TD;have z0:T1 w (.sl n (L++(.v (.int .i64 (m)))::R)) bs (.slice (some ⟨b,off,none⟩) n c):=by exact hxx
   have y0:=z0.wC (o:=off+j) rfl (by simp only[qA,qI,qR,hml]<;>omega);clear hxx z0
   go_wp2_with fail
   repeat (refine ay _ (by kernel_rfl) (by kernel_rfl) ?_;(repeat (go_big_quiet_step (fail)));refine wpQuiet_nil ?_;intro e;go_wp2_with fail)
   exact⟨⟨j+1,m+1,by omega,by go_num,by first|rfl|go_num,Lib.hid (by rw[hsn.out,bS];have h8:=hcx.out;have h9:=hm.out;omega),by omega,_,rfl⟩,by simp[intOf];omega⟩
  ·have:j=n:=by omega
   subst this
   have E:Hid (r=m):=by
    have h1:=hm.out;have h2:=Hr.out;have h3:=Hn.out
    rw[qN (by omega)]at h1;show _=_;omega
   go_wp2_with fail
   repeat (refine ay _ (by kernel_rfl) (by kernel_rfl) ?_;(repeat (go_big_quiet_step (fail)));refine wpQuiet_nil ?_;intro e;go_wp2_with fail)
   go_ret;exact⟨by rw[E.out];rfl,_,rfl⟩
theorem Ew(xs:List aF)(k:Int){A:Option Addr}{c lo:Nat}{bs}(w:World)(hx:T1 w (.sl xs.length (xs.flatMap aF.enc)) bs (.slice A xs.length c))(ho:Own lo w bs)(hn':xs.length≤maxLen)(hk0:0≤k)(hk1:k+(cN (xs.flatMap aF.enc):Nat)≤4611686018427387904):
  Calls Tryz.prog 84 #[.slice A xs.length c,.int .i64 k] w fun e w'=>∃r:Int,e=.returned (.int .i64 r)∧Hid (r=k+(cN (xs.flatMap aF.enc):Nat))∧T1 w' (.sl xs.length (gT (xs.flatMap aF.enc) k)) bs (.slice A xs.length c)∧ng bs w w'∧Own lo w' bs:=by
 unfold maxLen at hn';obtain⟨n,hn⟩:∃n,xs.length=n:=⟨_,rfl⟩;rw[hn]at hx hn' ⊢;have Hn:Hid (xs.length=n):=hn;clear hn;have hkk:=Lib.hid hk1;clear hk1
 go_enter Tryz.func84,Tryz.ntmps84
 go_wp2_with fail
 go_loopw [1,5] (fun l i w'=>∃(j:Nat) (m:Int),j≤n∧i=.int .i64 j∧l=.int .i64 m∧Hid (m=k+(cN ((xs.take j).flatMap aF.enc):Nat))∧0≤m∧T1 w' (.sl n (gT ((xs.take j).flatMap aF.enc) k++(xs.drop j).flatMap aF.enc)) bs (.slice A n c)∧ng bs w w'∧Own lo w' bs) (fun _ i _=>n-(intOf i).toNat)
 case atStart=>exact⟨0,k,Nat.zero_le _,rfl,rfl,Lib.hid (by simp[fD]),hk0,by simpa[iZ]using hx,ng.refl _ _,ho⟩
 case round=>
  obtain⟨j,m,hj,rfl,rfl,hm,hm0,ht,hon,hw⟩:=hrel
  by_cases hlt:j<n
  ·obtain⟨x,hxk,hsp,hll,hsn,hdr⟩:=jB aF.enc 2 aF.bn Hn hlt;rw[hdr.out,qU]at ht;have hml:(gT ((xs.take j).flatMap aF.enc) k).length=j*2:=by rw[nR,hll]
   generalize hL:gT ((xs.take j).flatMap aF.enc) k=L at ht hml;have HL:=Lib.hid hL;clear hL hll;have hcx:Hid (cN (aF.enc x)=1+1):=by show cN [.v (.int .i64 x.agent),.v (.int .i64 x.slot)]=_;simp only[fZ,mQ,jv,fD]<;>omega
   have hbd:m+1+1≤4611686018427387904:=by
    have h1:=hm.out;have h2:=hkk.out;have h3:=hcx.out
    have h4:=hsp.out;have h5:cN (xs.flatMap aF.enc)=cN ((xs.take j).flatMap aF.enc)+(cN (aF.enc x)+cN ((xs.drop (j+1)).flatMap aF.enc)):=by rw[h4,bS,bS]
    omega
   replace ht:T1 wr (.sl n (L++(.v (.int .i64 x.agent))::(.v (.int .i64 x.slot))::(xs.drop (j+1)).flatMap aF.enc)) bs (.slice A n c):=ht
   generalize hR:(xs.drop (j+1)).flatMap aF.enc=R at ht;have HR:=Lib.hid hR;clear hR;obtain⟨b,off,rfl, -,hbm,hbl,hblo,hfz⟩:=ht.row hw;have z0_0:T1 wr (.sl n (L++(.v (.int .i64 x.agent))::(.v (.int .i64 x.slot))::R)) bs (.slice (some ⟨b,off,none⟩) n c):=by exact ht
   have y0_0:=(z0_0.leaf hw (o:=off+j*2) rfl (by simp only[qA,qI,qR,hml]<;>omega)).1;have z0_1:T1 wr (.sl n ((L++[.v (.int .i64 x.agent)])++(.v (.int .i64 x.slot))::R)) bs (.slice (some ⟨b,off,none⟩) n c):=by rw[qF];exact ht
   have y0_1:=(z0_1.leaf hw (o:=off+j*2+1) rfl (by simp only[qA,qI,qR,hml]<;>omega)).1;obtain⟨t0,u0,v0⟩:=(ht.leaf hw (o:=off+j*2) rfl (by simp only[qA,qI,qR,hml]<;>omega)).2 (.int .i64 m) rfl
   replace t0:T1 (World.setCell wr ⟨b,off+j*2,none⟩ (.int .i64 m)) (.sl n (L++(.v (.int .i64 m))::(.v (.int .i64 x.slot))::R)) bs (.slice (some ⟨b,off,none⟩) n c):=t0
   replace t0:T1 (World.setCell wr ⟨b,off+j*2,none⟩ (.int .i64 m)) (.sl n ((L++[.v (.int .i64 m)])++(.v (.int .i64 x.slot))::R)) bs (.slice (some ⟨b,off,none⟩) n c):=by rw[qF];exact t0
   obtain⟨t1,u1,v1⟩:=(t0.leaf v0 (o:=off+j*2+1) rfl (by simp only[qA,qI,qR,hml]<;>omega)).2 (.int .i64 (m+1)) rfl;rw[qF]at t1
   replace t1:T1 (World.setCell (World.setCell wr ⟨b,off+j*2,none⟩ (.int .i64 m)) ⟨b,off+j*2+1,none⟩ (.int .i64 (m+1))) (.sl n (L++(.v (.int .i64 m))::(.v (.int .i64 (m+1)))::R)) bs (.slice (some ⟨b,off,none⟩) n c):=t1
   clear z0_0 z0_1
   go_wp2_with fail
   have hmk:gT (aF.enc x) m=[.v (.int .i64 m),.v (.int .i64 (m+1))]:=by
    show gT [.v (.int .i64 x.agent),.v (.int .i64 x.slot)] m=_;simp only[jJ,iZ,o8,uS,mQ,jv]
    all_goals (exact(eG (kM (by omega)) (eG (kM (by omega)) rfl)))
   have hfin:gT ((xs.take (j+1)).flatMap aF.enc) k++(xs.drop (j+1)).flatMap aF.enc=L++(.v (.int .i64 m))::(.v (.int .i64 (m+1)))::R:=by
    rw[hsn.out,fO,HL.out,←hm.out,hmk,qF,HR.out];rfl
   exact⟨⟨j+1,m+1+1,by omega,by go_num,by first|rfl|go_num,Lib.hid (by rw[hsn.out,bS];have h8:=hcx.out;have h9:=hm.out;omega),by omega,by rw[hfin];exact t1,((hon).trans u0).trans u1,v1⟩,by simp[intOf];omega⟩
  ·have:j=n:=by omega
   subst this
   go_wp2_with fail
   go_ret;have hl:=Hn.out;rw[qN (by omega),List.drop_of_length_le (by omega)]at ht;have hm':=hm.out;rw[qN (by omega)]at hm';exact⟨m,rfl,hm',by simpa using ht,hon,hw⟩
theorem En(xs:List aF)(k r:Int)(n:Nat){A:Option Addr}{c:Nat}{bs:List Nat}(w:World)(hx:T1 w (.sl n (gT (xs.flatMap aF.enc) k)) bs (.slice A n c))(Hn:Hid (xs.length=n))(hk0:0≤k)(hk1:r≤4611686018427387904)(Hr:Hid (r=k+(cN (xs.flatMap aF.enc):Nat))):Calls Tryz.prog 85 #[.slice A n c,.int .i64 k] w fun e w'=>e=.returned (.int .i64 (r))∧Ext w w':=by
 refine aS fun e=> ?_
 have hn:=hx.sU
 go_enter Tryz.func85,Tryz.ntmps85
 go_wp2_with fail
 repeat (refine ay _ (by kernel_rfl) (by kernel_rfl) ?_;(repeat (go_big_quiet_step (fail)));refine wpQuiet_nil ?_;intro e;go_wp2_with fail)
 go_loopw [1,5] (fun l i w'=>∃(j:Nat) (m:Int),j≤n∧i=.int .i64 j∧l=.int .i64 m∧Hid (m=k+(cN ((xs.take j).flatMap aF.enc):Nat))∧0≤m∧∃e:aQ w,w'=e.to) (fun _ i _=>n-(intOf i).toNat)
 case atStart=>exact⟨0,k,Nat.zero_le _,rfl,rfl,Lib.hid (by simp[fD]),hk0,_,rfl⟩
 case round=>
  obtain⟨j,m,hj,rfl,rfl,hm,hm0,e,rfl⟩:=hrel
  by_cases hlt:j<n
  ·obtain⟨x,hxk,hsp,hll,hsn, -⟩:=jB aF.enc 2 aF.bn Hn hlt;have hcx:Hid (cN (aF.enc x)=1+1):=by show cN [.v (.int .i64 x.agent),.v (.int .i64 x.slot)]=_;simp only[fZ,mQ,jv,fD]<;>omega
   have hbd:m+1+1≤4611686018427387904:=by
    have h1:=hm.out;have h2:=Hr.out;have h3:=hcx.out
    have h5:cN (xs.flatMap aF.enc)=cN ((xs.take j).flatMap aF.enc)+(cN (aF.enc x)+cN ((xs.drop (j+1)).flatMap aF.enc)):=by rw[hsp.out,bS,bS]
    omega
   have hmk:gT (aF.enc x) m=[.v (.int .i64 (m)),.v (.int .i64 (m+1))]:=by
    show gT [.v (.int .i64 x.agent),.v (.int .i64 x.slot)] m=_;simp only[jJ,iZ,o8,uS,mQ,jv]
    all_goals (exact(eG (kM (by omega)) (eG (kM (by omega)) rfl)))
   have hxx:=hx;rw[hsp.out,fO,fO,←hm.out,hmk]at hxx;have hml:(gT ((xs.take j).flatMap aF.enc) k).length=j*2:=by rw[nR,hll]
   generalize hL:gT ((xs.take j).flatMap aF.enc) k=L at hxx hml;clear hL hll hmk;generalize hR:gT ((xs.drop (j+1)).flatMap aF.enc) (m+(cN (aF.enc x):Nat))=R at hxx;clear hR
   replace hxx:T1 w (.sl n (L++(.v (.int .i64 (m)))::(.v (.int .i64 (m+1)))::R)) bs (.slice A n c):=hxx
   obtain⟨b,off,rfl⟩:=hxx.TD;have z0:T1 w (.sl n (L++(.v (.int .i64 (m)))::(.v (.int .i64 (m+1)))::R)) bs (.slice (some ⟨b,off,none⟩) n c):=by exact hxx
   have y0:=z0.wC (o:=off+j*2) rfl (by simp only[qA,qI,qR,hml]<;>omega);have z1:T1 w (.sl n ((L++[.v (.int .i64 (m))])++(.v (.int .i64 (m+1)))::R)) bs (.slice (some ⟨b,off,none⟩) n c):=by rw[qF];exact hxx
   have y1:=z1.wC (o:=off+j*2+1) rfl (by simp only[qA,qI,qR,hml]<;>omega);clear hxx z0 z1
   go_wp2_with fail
   repeat (refine ay _ (by kernel_rfl) (by kernel_rfl) ?_;(repeat (go_big_quiet_step (fail)));refine wpQuiet_nil ?_;intro e;go_wp2_with fail)
   exact⟨⟨j+1,m+1+1,by omega,by go_num,by first|rfl|go_num,Lib.hid (by rw[hsn.out,bS];have h8:=hcx.out;have h9:=hm.out;omega),by omega,_,rfl⟩,by simp[intOf];omega⟩
  ·have:j=n:=by omega
   subst this
   have E:Hid (r=m):=by
    have h1:=hm.out;have h2:=Hr.out;have h3:=Hn.out
    rw[qN (by omega)]at h1;show _=_;omega
   go_wp2_with fail
   repeat (refine ay _ (by kernel_rfl) (by kernel_rfl) ?_;(repeat (go_big_quiet_step (fail)));refine wpQuiet_nil ?_;intro e;go_wp2_with fail)
   go_ret;exact⟨by rw[E.out];rfl,_,rfl⟩
theorem wD(xs:List aB)(k:Int){A:Option Addr}{c lo:Nat}{bs}(w:World)(hx:T1 w (.sl xs.length (xs.flatMap aB.enc)) bs (.slice A xs.length c))(ho:Own lo w bs)(hn':xs.length≤maxLen)(hk0:0≤k)(hk1:k+(cN (xs.flatMap aB.enc):Nat)≤4611686018427387904):
  Calls Tryz.prog 40 #[.slice A xs.length c,.int .i64 k] w fun e w'=>∃r:Int,e=.returned (.int .i64 r)∧Hid (r=k+(cN (xs.flatMap aB.enc):Nat))∧T1 w' (.sl xs.length (gT (xs.flatMap aB.enc) k)) bs (.slice A xs.length c)∧ng bs w w'∧Own lo w' bs:=by
 unfold maxLen at hn';obtain⟨n,hn⟩:∃n,xs.length=n:=⟨_,rfl⟩;rw[hn]at hx hn' ⊢;have Hn:Hid (xs.length=n):=hn;clear hn;have hkk:=Lib.hid hk1;clear hk1
 go_enter Tryz.func40,Tryz.ntmps40
 go_wp2_with fail
 go_loopw [1,5] (fun l i w'=>∃(j:Nat) (m:Int),j≤n∧i=.int .i64 j∧l=.int .i64 m∧Hid (m=k+(cN ((xs.take j).flatMap aB.enc):Nat))∧0≤m∧T1 w' (.sl n (gT ((xs.take j).flatMap aB.enc) k++(xs.drop j).flatMap aB.enc)) bs (.slice A n c)∧ng bs w w'∧Own lo w' bs) (fun _ i _=>n-(intOf i).toNat)
 case atStart=>exact⟨0,k,Nat.zero_le _,rfl,rfl,Lib.hid (by simp[fD]),hk0,by simpa[iZ]using hx,ng.refl _ _,ho⟩
 case round=>
  obtain⟨j,m,hj,rfl,rfl,hm,hm0,ht,hon,hw⟩:=hrel
  by_cases hlt:j<n
  ·obtain⟨x,hxk,hsp,hll,hsn,hdr⟩:=jB aB.enc 5 aB.bn Hn hlt;rw[hdr.out,qU]at ht;have hml:(gT ((xs.take j).flatMap aB.enc) k).length=j*5:=by rw[nR,hll]
   generalize hL:gT ((xs.take j).flatMap aB.enc) k=L at ht hml;have HL:=Lib.hid hL;clear hL hll;have hcx:Hid (cN (aB.enc x)=1+1+1+cN (x.data.flatMap bN)+cN (x.aH.flatMap aF.enc)):=by show cN [.v (.int .i64 x.kind),.v (.int .i64 x.level),.v (.int .i64 x.value),.sl x.data.length (x.data.flatMap bN),.sl x.aH.length (x.aH.flatMap aF.enc)]=_;simp only[fZ,mQ,jv,fD]<;>omega
   have hbd:m+1+1+1+(cN (x.data.flatMap bN):Nat)+(cN (x.aH.flatMap aF.enc):Nat)≤4611686018427387904:=by
    have h1:=hm.out;have h2:=hkk.out;have h3:=hcx.out
    have h4:=hsp.out;have h5:cN (xs.flatMap aB.enc)=cN ((xs.take j).flatMap aB.enc)+(cN (aB.enc x)+cN ((xs.drop (j+1)).flatMap aB.enc)):=by rw[h4,bS,bS]
    omega
   replace ht:T1 wr (.sl n (L++(.v (.int .i64 x.kind))::(.v (.int .i64 x.level))::(.v (.int .i64 x.value))::(.sl x.data.length (x.data.flatMap bN))::(.sl x.aH.length (x.aH.flatMap aF.enc))::(xs.drop (j+1)).flatMap aB.enc)) bs (.slice A n c):=ht
   generalize hR:(xs.drop (j+1)).flatMap aB.enc=R at ht;have HR:=Lib.hid hR;clear hR;obtain⟨b,off,rfl, -,hbm,hbl,hblo,hfz⟩:=ht.row hw;have z0_0:T1 wr (.sl n (L++(.v (.int .i64 x.kind))::(.v (.int .i64 x.level))::(.v (.int .i64 x.value))::(.sl x.data.length (x.data.flatMap bN))::(.sl x.aH.length (x.aH.flatMap aF.enc))::R)) bs (.slice (some ⟨b,off,none⟩) n c):=by exact ht
   have y0_0:=(z0_0.leaf hw (o:=off+j*5) rfl (by simp only[qA,qI,qR,hml]<;>omega)).1;have z0_1:T1 wr (.sl n ((L++[.v (.int .i64 x.kind)])++(.v (.int .i64 x.level))::(.v (.int .i64 x.value))::(.sl x.data.length (x.data.flatMap bN))::(.sl x.aH.length (x.aH.flatMap aF.enc))::R)) bs (.slice (some ⟨b,off,none⟩) n c):=by rw[qF];exact ht
   have y0_1:=(z0_1.leaf hw (o:=off+j*5+1) rfl (by simp only[qA,qI,qR,hml]<;>omega)).1;have z0_2:T1 wr (.sl n ((L++[.v (.int .i64 x.kind),.v (.int .i64 x.level)])++(.v (.int .i64 x.value))::(.sl x.data.length (x.data.flatMap bN))::(.sl x.aH.length (x.aH.flatMap aF.enc))::R)) bs (.slice (some ⟨b,off,none⟩) n c):=by rw[qF];exact ht
   have y0_2:=(z0_2.leaf hw (o:=off+j*5+2) rfl (by simp only[qA,qI,qR,hml]<;>omega)).1;have z0_3:T1 wr (.sl n ((L++[.v (.int .i64 x.kind),.v (.int .i64 x.level),.v (.int .i64 x.value)])++(.sl x.data.length (x.data.flatMap bN))::(.sl x.aH.length (x.aH.flatMap aF.enc))::R)) bs (.slice (some ⟨b,off,none⟩) n c):=by rw[qF];exact ht
   obtain⟨A0_3,c0_3,b0_3,y0_3, -⟩:=z0_3.sub hw (o:=off+j*5+3) rfl (by simp only[qA,qI,qR,hml]<;>omega);obtain⟨t0,u0,v0⟩:=(ht.leaf hw (o:=off+j*5) rfl (by simp only[qA,qI,qR,hml]<;>omega)).2 (.int .i64 m) rfl
   replace t0:T1 (World.setCell wr ⟨b,off+j*5,none⟩ (.int .i64 m)) (.sl n (L++(.v (.int .i64 m))::(.v (.int .i64 x.level))::(.v (.int .i64 x.value))::(.sl x.data.length (x.data.flatMap bN))::(.sl x.aH.length (x.aH.flatMap aF.enc))::R)) bs (.slice (some ⟨b,off,none⟩) n c):=t0
   replace t0:T1 (World.setCell wr ⟨b,off+j*5,none⟩ (.int .i64 m)) (.sl n ((L++[.v (.int .i64 m)])++(.v (.int .i64 x.level))::(.v (.int .i64 x.value))::(.sl x.data.length (x.data.flatMap bN))::(.sl x.aH.length (x.aH.flatMap aF.enc))::R)) bs (.slice (some ⟨b,off,none⟩) n c):=by rw[qF];exact t0
   obtain⟨t1,u1,v1⟩:=(t0.leaf v0 (o:=off+j*5+1) rfl (by simp only[qA,qI,qR,hml]<;>omega)).2 (.int .i64 (m+1)) rfl;rw[qF]at t1
   replace t1:T1 (World.setCell (World.setCell wr ⟨b,off+j*5,none⟩ (.int .i64 m)) ⟨b,off+j*5+1,none⟩ (.int .i64 (m+1))) (.sl n (L++(.v (.int .i64 m))::(.v (.int .i64 (m+1)))::(.v (.int .i64 x.value))::(.sl x.data.length (x.data.flatMap bN))::(.sl x.aH.length (x.aH.flatMap aF.enc))::R)) bs (.slice (some ⟨b,off,none⟩) n c):=t1
   replace t1:T1 (World.setCell (World.setCell wr ⟨b,off+j*5,none⟩ (.int .i64 m)) ⟨b,off+j*5+1,none⟩ (.int .i64 (m+1))) (.sl n ((L++[.v (.int .i64 m),.v (.int .i64 (m+1))])++(.v (.int .i64 x.value))::(.sl x.data.length (x.data.flatMap bN))::(.sl x.aH.length (x.aH.flatMap aF.enc))::R)) bs (.slice (some ⟨b,off,none⟩) n c):=by rw[qF];exact t1
   obtain⟨t2,u2,v2⟩:=(t1.leaf v1 (o:=off+j*5+2) rfl (by simp only[qA,qI,qR,hml]<;>omega)).2 (.int .i64 (m+1+1)) rfl;rw[qF]at t2
   replace t2:T1 (World.setCell (World.setCell (World.setCell wr ⟨b,off+j*5,none⟩ (.int .i64 m)) ⟨b,off+j*5+1,none⟩ (.int .i64 (m+1))) ⟨b,off+j*5+2,none⟩ (.int .i64 (m+1+1))) (.sl n (L++(.v (.int .i64 m))::(.v (.int .i64 (m+1)))::(.v (.int .i64 (m+1+1)))::(.sl x.data.length (x.data.flatMap bN))::(.sl x.aH.length (x.aH.flatMap aF.enc))::R)) bs (.slice (some ⟨b,off,none⟩) n c):=t2
   have g3:T1 (World.setCell (World.setCell (World.setCell wr ⟨b,off+j*5,none⟩ (.int .i64 m)) ⟨b,off+j*5+1,none⟩ (.int .i64 (m+1))) ⟨b,off+j*5+2,none⟩ (.int .i64 (m+1+1))) (.sl n ((L++[.v (.int .i64 m),.v (.int .i64 (m+1)),.v (.int .i64 (m+1+1))])++(.sl x.data.length (x.data.flatMap bN))::(.sl x.aH.length (x.aH.flatMap aF.enc))::R)) bs (.slice (some ⟨b,off,none⟩) n c):=by rw[qF];exact t2
   obtain⟨A3,c3,b3,k3,s3,n3,o3,nb3,back3⟩:=g3.sub v2 (o:=off+j*5+3) rfl (by simp only[qA,qI,qR,hml]<;>omega)
   obtain⟨rfl,rfl⟩:A0_3=A3∧c0_3=c3:=by
    have hh:=k3;rw[jc _ _ _ _ _ (by omega)]at hh;rw[jc _ _ _ _ _ (by omega)]at hh;rw[jc _ _ _ _ _ (by omega)]at hh;rw[y0_3]at hh;simpa using hh
   clear k3;have HB3:=Lib.hid back3;clear back3 g3;clear z0_0 z0_1 z0_2 z0_3
   go_wp2_with fail
   refine(CU x.data (m+1+1+1) _ s3 o3 n3 (by omega) (by omega)).mono ?_;rintro _ W1 ⟨r1,rfl,hr1,q3,f3, -⟩;obtain⟨t3,u3,v3⟩:=HB3.out W1 _ f3 q3;have p1:0≤r1:=by have:=hr1.out;omega
   have l1:r1+(cN (x.aH.flatMap aF.enc):Nat)≤4611686018427387904:=by have:=hr1.out;omega
   rw[qF]at t3
   replace t3:T1 W1 (.sl n (L++(.v (.int .i64 m))::(.v (.int .i64 (m+1)))::(.v (.int .i64 (m+1+1)))::(.sl x.data.length (gT (x.data.flatMap bN) (m+1+1+1)))::(.sl x.aH.length (x.aH.flatMap aF.enc))::R)) bs (.slice (some ⟨b,off,none⟩) n c):=t3
   have hfz1:∀o,World.frozen? W1 ⟨b,o,none⟩=false:=fun o=>(by obtain⟨_,cur,tt,hrow⟩:=v3.2 b hbm;simp[World.frozen?,hrow])
   have z1_4:T1 W1 (.sl n ((L++[.v (.int .i64 m),.v (.int .i64 (m+1)),.v (.int .i64 (m+1+1)),.sl x.data.length (gT (x.data.flatMap bN) (m+1+1+1))])++(.sl x.aH.length (x.aH.flatMap aF.enc))::R)) bs (.slice (some ⟨b,off,none⟩) n c):=by rw[qF];exact t3
   obtain⟨A1_4,c1_4,b1_4,y1_4, -⟩:=z1_4.sub v3 (o:=off+j*5+4) rfl (by simp only[qA,qI,qR,hml]<;>omega);have g4:T1 W1 (.sl n ((L++[.v (.int .i64 m),.v (.int .i64 (m+1)),.v (.int .i64 (m+1+1)),.sl x.data.length (gT (x.data.flatMap bN) (m+1+1+1))])++(.sl x.aH.length (x.aH.flatMap aF.enc))::R)) bs (.slice (some ⟨b,off,none⟩) n c):=by rw[qF];exact t3
   obtain⟨A4,c4,b4,k4,s4,n4,o4,nb4,back4⟩:=g4.sub v3 (o:=off+j*5+4) rfl (by simp only[qA,qI,qR,hml]<;>omega)
   obtain⟨rfl,rfl⟩:A1_4=A4∧c1_4=c4:=by
    have hh:=k4;rw[y1_4]at hh;simpa using hh
   clear k4;have HB4:=Lib.hid back4;clear back4 g4;clear z1_4
   go_wp2_with fail
   refine(Ew x.aH (r1) _ s4 o4 n4 (by omega) (by omega)).mono ?_;rintro _ W2 ⟨r2,rfl,hr2,q4,f4, -⟩;obtain⟨t4,u4,v4⟩:=HB4.out W2 _ f4 q4;have p2:0≤r2:=by have:=hr2.out;omega
   have l2:r2+0≤4611686018427387904:=by have:=hr2.out;omega
   rw[qF]at t4
   replace t4:T1 W2 (.sl n (L++(.v (.int .i64 m))::(.v (.int .i64 (m+1)))::(.v (.int .i64 (m+1+1)))::(.sl x.data.length (gT (x.data.flatMap bN) (m+1+1+1)))::(.sl x.aH.length (gT (x.aH.flatMap aF.enc) (r1)))::R)) bs (.slice (some ⟨b,off,none⟩) n c):=t4
   go_wp2_with fail
   have hmk:gT (aB.enc x) m=[.v (.int .i64 m),.v (.int .i64 (m+1)),.v (.int .i64 (m+1+1)),.sl x.data.length (gT (x.data.flatMap bN) (m+1+1+1)),.sl x.aH.length (gT (x.aH.flatMap aF.enc) (r1))]:=by
    show gT [.v (.int .i64 x.kind),.v (.int .i64 x.level),.v (.int .i64 x.value),.sl x.data.length (x.data.flatMap bN),.sl x.aH.length (x.aH.flatMap aF.enc)] m=_;simp only[jJ,iZ,o8,uS,mQ,jv]
    all_goals (have h1:=hr1.out;have h2:=hr2.out;exact(eG (kM (by omega)) (eG (kM (by omega)) (eG (kM (by omega)) (eG (DN (by omega)) (eG (DN (by omega)) rfl))))))
   have hfin:gT ((xs.take (j+1)).flatMap aB.enc) k++(xs.drop (j+1)).flatMap aB.enc=L++(.v (.int .i64 m))::(.v (.int .i64 (m+1)))::(.v (.int .i64 (m+1+1)))::(.sl x.data.length (gT (x.data.flatMap bN) (m+1+1+1)))::(.sl x.aH.length (gT (x.aH.flatMap aF.enc) (r1)))::R:=by
    rw[hsn.out,fO,HL.out,←hm.out,hmk,qF,HR.out];rfl
   exact⟨⟨j+1,r2,by omega,by go_num,by first|rfl|go_num,Lib.hid (by rw[hsn.out,bS];have h1:=hr1.out;have h2:=hr2.out;have h8:=hcx.out;have h9:=hm.out;omega),by omega,by rw[hfin];exact t4,(((((hon).trans u0).trans u1).trans u2).trans u3).trans u4,v4⟩,by simp[intOf];omega⟩
  ·have:j=n:=by omega
   subst this
   go_wp2_with fail
   go_ret;have hl:=Hn.out;rw[qN (by omega),List.drop_of_length_le (by omega)]at ht;have hm':=hm.out;rw[qN (by omega)]at hm';exact⟨m,rfl,hm',by simpa using ht,hon,hw⟩
theorem Cv(xs:List aB)(k r:Int)(n:Nat){A:Option Addr}{c:Nat}{bs:List Nat}(w:World)(hx:T1 w (.sl n (gT (xs.flatMap aB.enc) k)) bs (.slice A n c))(Hn:Hid (xs.length=n))(hk0:0≤k)(hk1:r≤4611686018427387904)(Hr:Hid (r=k+(cN (xs.flatMap aB.enc):Nat))):Calls Tryz.prog 41 #[.slice A n c,.int .i64 k] w fun e w'=>e=.returned (.int .i64 (r))∧Ext w w':=by
 refine aS fun e=> ?_
 have hn:=hx.sU
 go_enter Tryz.func41,Tryz.ntmps41
 go_wp2_with fail
 repeat (refine ay _ (by kernel_rfl) (by kernel_rfl) ?_;(repeat (go_big_quiet_step (fail)));refine wpQuiet_nil ?_;intro e;go_wp2_with fail)
 go_loopw [1,5] (fun l i w'=>∃(j:Nat) (m:Int),j≤n∧i=.int .i64 j∧l=.int .i64 m∧Hid (m=k+(cN ((xs.take j).flatMap aB.enc):Nat))∧0≤m∧∃e:aQ w,w'=e.to) (fun _ i _=>n-(intOf i).toNat)
 case atStart=>exact⟨0,k,Nat.zero_le _,rfl,rfl,Lib.hid (by simp[fD]),hk0,_,rfl⟩
 case round=>
  obtain⟨j,m,hj,rfl,rfl,hm,hm0,e,rfl⟩:=hrel
  by_cases hlt:j<n
  ·obtain⟨x,hxk,hsp,hll,hsn, -⟩:=jB aB.enc 5 aB.bn Hn hlt;have hcx:Hid (cN (aB.enc x)=1+1+1+cN (x.data.flatMap bN)+cN (x.aH.flatMap aF.enc)):=by show cN [.v (.int .i64 x.kind),.v (.int .i64 x.level),.v (.int .i64 x.value),.sl x.data.length (x.data.flatMap bN),.sl x.aH.length (x.aH.flatMap aF.enc)]=_;simp only[fZ,mQ,jv,fD]<;>omega
   have hbd:m+1+1+1+(cN (x.data.flatMap bN):Nat)+(cN (x.aH.flatMap aF.enc):Nat)≤4611686018427387904:=by
    have h1:=hm.out;have h2:=Hr.out;have h3:=hcx.out
    have h5:cN (xs.flatMap aB.enc)=cN ((xs.take j).flatMap aB.enc)+(cN (aB.enc x)+cN ((xs.drop (j+1)).flatMap aB.enc)):=by rw[hsp.out,bS,bS]
    omega
   obtain⟨r1,hr1⟩:∃q:Int,q=m+1+1+1+((cN (x.data.flatMap bN):Nat):Int):=⟨_,rfl⟩;obtain⟨r2,hr2⟩:∃q:Int,q=r1+((cN (x.aH.flatMap aF.enc):Nat):Int):=⟨_,rfl⟩
   have hmk:gT (aB.enc x) m=[.v (.int .i64 (m)),.v (.int .i64 (m+1)),.v (.int .i64 (m+1+1)),.sl x.data.length (gT (x.data.flatMap bN) (m+1+1+1)),.sl x.aH.length (gT (x.aH.flatMap aF.enc) (r1))]:=by
    show gT [.v (.int .i64 x.kind),.v (.int .i64 x.level),.v (.int .i64 x.value),.sl x.data.length (x.data.flatMap bN),.sl x.aH.length (x.aH.flatMap aF.enc)] m=_;simp only[jJ,iZ,o8,uS,mQ,jv]
    all_goals (exact(eG (kM (by omega)) (eG (kM (by omega)) (eG (kM (by omega)) (eG (DN (by omega)) (eG (DN (by omega)) rfl))))))
   have hxx:=hx;rw[hsp.out,fO,fO,←hm.out,hmk]at hxx;have hml:(gT ((xs.take j).flatMap aB.enc) k).length=j*5:=by rw[nR,hll]
   generalize hL:gT ((xs.take j).flatMap aB.enc) k=L at hxx hml;clear hL hll hmk;generalize hR:gT ((xs.drop (j+1)).flatMap aB.enc) (m+(cN (aB.enc x):Nat))=R at hxx;clear hR
   replace hxx:T1 w (.sl n (L++(.v (.int .i64 (m)))::(.v (.int .i64 (m+1)))::(.v (.int .i64 (m+1+1)))::(.sl x.data.length (gT (x.data.flatMap bN) (m+1+1+1)))::(.sl x.aH.length (gT (x.aH.flatMap aF.enc) (r1)))::R)) bs (.slice A n c):=hxx
   obtain⟨b,off,rfl⟩:=hxx.TD;have z0:T1 w (.sl n (L++(.v (.int .i64 (m)))::(.v (.int .i64 (m+1)))::(.v (.int .i64 (m+1+1)))::(.sl x.data.length (gT (x.data.flatMap bN) (m+1+1+1)))::(.sl x.aH.length (gT (x.aH.flatMap aF.enc) (r1)))::R)) bs (.slice (some ⟨b,off,none⟩) n c):=by exact hxx
   have y0:=z0.wC (o:=off+j*5) rfl (by simp only[qA,qI,qR,hml]<;>omega);have z1:T1 w (.sl n ((L++[.v (.int .i64 (m))])++(.v (.int .i64 (m+1)))::(.v (.int .i64 (m+1+1)))::(.sl x.data.length (gT (x.data.flatMap bN) (m+1+1+1)))::(.sl x.aH.length (gT (x.aH.flatMap aF.enc) (r1)))::R)) bs (.slice (some ⟨b,off,none⟩) n c):=by rw[qF];exact hxx
   have y1:=z1.wC (o:=off+j*5+1) rfl (by simp only[qA,qI,qR,hml]<;>omega);have z2:T1 w (.sl n ((L++[.v (.int .i64 (m)),.v (.int .i64 (m+1))])++(.v (.int .i64 (m+1+1)))::(.sl x.data.length (gT (x.data.flatMap bN) (m+1+1+1)))::(.sl x.aH.length (gT (x.aH.flatMap aF.enc) (r1)))::R)) bs (.slice (some ⟨b,off,none⟩) n c):=by rw[qF];exact hxx
   have y2:=z2.wC (o:=off+j*5+2) rfl (by simp only[qA,qI,qR,hml]<;>omega);have z3:T1 w (.sl n ((L++[.v (.int .i64 (m)),.v (.int .i64 (m+1)),.v (.int .i64 (m+1+1))])++(.sl x.data.length (gT (x.data.flatMap bN) (m+1+1+1)))::(.sl x.aH.length (gT (x.aH.flatMap aF.enc) (r1)))::R)) bs (.slice (some ⟨b,off,none⟩) n c):=by rw[qF];exact hxx
   obtain⟨A3,c3,b3,y3,s3,n3⟩:=z3.Xz (o:=off+j*5+3) rfl (by simp only[qA,qI,qR,hml]<;>omega);have z4:T1 w (.sl n ((L++[.v (.int .i64 (m)),.v (.int .i64 (m+1)),.v (.int .i64 (m+1+1)),.sl x.data.length (gT (x.data.flatMap bN) (m+1+1+1))])++(.sl x.aH.length (gT (x.aH.flatMap aF.enc) (r1)))::R)) bs (.slice (some ⟨b,off,none⟩) n c):=by rw[qF];exact hxx
   obtain⟨A4,c4,b4,y4,s4,n4⟩:=z4.Xz (o:=off+j*5+4) rfl (by simp only[qA,qI,qR,hml]<;>omega);clear hxx z0 z1 z2 z3 z4;have p1:0≤r1:=by omega
   have l1:r1≤4611686018427387904:=by omega
   have ll1:r1+(cN (x.aH.flatMap aF.enc):Nat)≤4611686018427387904:=by omega
   have Hr1:Hid (r1=m+1+1+1+((cN (x.data.flatMap bN):Nat):Int)):=hr1;have C1:Hid (QC Tryz.prog w _ _ _):=fun W hW=>Cw x.data (m+1+1+1) r1 x.data.length W (s3.below hW) iL (by omega) l1 Hr1
   have p2:0≤r2:=by omega
   have l2:r2≤4611686018427387904:=by omega
   have Hr2:Hid (r2=r1+((cN (x.aH.flatMap aF.enc):Nat):Int)):=hr2;have C2:Hid (QC Tryz.prog w _ _ _):=fun W hW=>En x.aH (r1) r2 x.aH.length W (s4.below hW) iL (by omega) l2 Hr2
   clear hr1 hr2
   go_wp2_with (first|(go_at_call 18;with_reducible refine(C1.out.at_ _).mono ?_;rintro _ _ ⟨rfl,e,rfl⟩)|(go_at_call 85;with_reducible refine(C2.out.at_ _).mono ?_;rintro _ _ ⟨rfl,e,rfl⟩))
   repeat (refine ay _ (by kernel_rfl) (by kernel_rfl) ?_;(repeat (go_big_quiet_step ((first|with_reducible exact C1.out.at_ _|with_reducible exact C2.out.at_ _))));refine wpQuiet_nil ?_;intro e;go_wp2_with (first|(go_at_call 18;with_reducible refine(C1.out.at_ _).mono ?_;rintro _ _ ⟨rfl,e,rfl⟩)|(go_at_call 85;with_reducible refine(C2.out.at_ _).mono ?_;rintro _ _ ⟨rfl,e,rfl⟩)))
   exact⟨⟨j+1,r2,by omega,by go_num,by first|rfl|go_num,Lib.hid (by rw[hsn.out,bS];have h1:=Hr1.out;have h2:=Hr2.out;have h8:=hcx.out;have h9:=hm.out;omega),by omega,_,rfl⟩,by simp[intOf];omega⟩
  ·have:j=n:=by omega
   subst this
   have E:Hid (r=m):=by
    have h1:=hm.out;have h2:=Hr.out;have h3:=Hn.out
    rw[qN (by omega)]at h1;show _=_;omega
   go_wp2_with fail
   repeat (refine ay _ (by kernel_rfl) (by kernel_rfl) ?_;(repeat (go_big_quiet_step (fail)));refine wpQuiet_nil ?_;intro e;go_wp2_with fail)
   go_ret;exact⟨by rw[E.out];rfl,_,rfl⟩
theorem Jo(x:aO)(k:Int){bs us}{lo:Nat}(w:World)(hx:TN w x.enc bs us)(ho:Own lo w bs)(hk0:0≤k)(hk1:k+(x.cnt:Nat)≤4611686018427387904):
  Calls Tryz.prog 15 #[.agg us.toArray,.int .i64 k] w fun e w'=>∃r:Int,e=.returned (.int .i64 r)∧Hid (r=k+(x.cnt:Nat))∧TN w' (x.Oh k) bs us∧ng bs w w'∧Own lo w' bs:=by
 have hlt:=hx.lt;obtain⟨A0,c0,b0,rfl,rfl,t0,l0,m0⟩:=aO.us hx;have o0:=ho;have g0:w.heap.size∉bs:=fun hm=>by have:=hlt _ (show w.heap.size∈bs by simp[hm]);omega
 have B0:∀S,Below w.heap.size w (w.alloc S):=fun _=>(Below.refl _ _).alloc (Nat.le_refl _) _
 have hcn:x.cnt=cN (x.agents.flatMap aB.enc):=rfl;rw[hcn]at hk1;clear hcn hx
 go_enter Tryz.func15,Tryz.ntmps15
 go_wp2_with fail
 refine(wD x.agents k _ (t0.below (B0 _)) (o0.below (B0 _)) (Nat.le_trans l0 m0) (by omega) (by omega)).mono ?_;rintro _ w1 ⟨r1,rfl,hr1,S0,f1,V0⟩;have p1:0≤r1:=by have:=hr1.out;omega
 have b1_:r1+0≤4611686018427387904:=by have:=hr1.out;omega
 have u1:=(f1.other w.heap.size (by simp) g0).trans (heap_alloc_new w _);have z1:w.heap.size<w1.heap.size:=by have:=f1.size;simp at this;omega
 have F1:ng (bs) w w1:=ng.trans (ng.Db (B0 _)) (f1.sub (fun y hy=>by first|exact hy|(simp at hy ⊢;grind)));have q1_0:=cell_of_row _ _ 0 _ _ _ u1;simp only[List.getElem?_toArray,List.getElem?_cons_zero,List.getElem?_cons_succ]at q1_0
 go_wp2_with fail
 go_ret;refine⟨r1,rfl,?_,?_,F1,ho.zA F1⟩
 ·show _=_;have hcn:x.cnt=cN (x.agents.flatMap aB.enc):=rfl;have h1:=hr1.out;omega
 ·have h1:=hr1.out;skip;have h:=(TN.sH S0 TN.done);simp only[qS,List.nil_append,qF,List.cons_append]at h;unfold aO.Oh;simpa only[qS,List.nil_append,qF,List.cons_append]using h
theorem UL(x:aO)(k r:Int){bs us}(w:World)(hx:TN w (x.Oh k) bs us)(hk0:0≤k)(hk1:r≤4611686018427387904)(Hr:Hid (r=k+(x.cnt:Nat))):Calls Tryz.prog 17 #[.agg us.toArray,.int .i64 k] w fun e w'=>e=.returned (.int .i64 (r))∧Ext w w':=by
 refine aS fun e=> ?_
 unfold aO.Oh at hx;have x1:=hx;clear hx;obtain⟨A0,c0,b0,r0_,U_1,rfl,rfl,t0,l0,m0,x1_⟩:=TN.jU x1;obtain⟨rfl,rfl⟩:=TN.end_ x1_;clear x1_ x1;obtain⟨r1,hr1⟩:∃q:Int,q=k+((cN (x.agents.flatMap aB.enc):Nat):Int):=⟨_,rfl⟩;have hcn:x.cnt=cN (x.agents.flatMap aB.enc):=rfl;have hE:r1=r:=by have h1:=Hr.out;omega
 have E:=Lib.hid hE;have p1:0≤r1:=by omega
 have q1:r1≤4611686018427387904:=by have h1:=Hr.out;omega
 have Hr1:Hid (r1=k+((cN (x.agents.flatMap aB.enc):Nat):Int)):=hr1;clear hcn hE Hr hr1
 go_enter Tryz.func17,Tryz.ntmps17
 go_upto_region 1 with(fail)
 generalize hgg:e.to.heap.size=g;refine gW e hgg (fun w1 e hx1 hgeg hltg cg=> ?_);clear hgg
 replace t0:=t0.below hx1
 simp only[List.cons_append,List.nil_append,qS]at cg;have y0:=cg.always hltg 0 _ rfl;simp only[Nat.zero_add]at y0;clear cg;have C1:Hid (QC Tryz.prog w1 _ _ _):=fun W hW=>Cv x.agents (k) r1 x.agents.length W (t0.below hW) iL (by omega) q1 Hr1
 go_wp2_with (first|(go_at_call 41;with_reducible refine(C1.out.at_ _).mono ?_;rintro _ _ ⟨rfl,e,rfl⟩))
 repeat (refine ay _ (by kernel_rfl) (by kernel_rfl) ?_;(repeat (go_big_quiet_step ((first|with_reducible exact C1.out.at_ _))));refine wpQuiet_nil ?_;intro e;go_wp2_with (first|(go_at_call 41;with_reducible refine(C1.out.at_ _).mono ?_;rintro _ _ ⟨rfl,e,rfl⟩)))
 go_ret;exact⟨by rw[←E.out];rfl,aQ.old hx1 e⟩
theorem GZ(xs:List aO)(k:Int){A:Option Addr}{c lo:Nat}{bs}(w:World)(hx:T1 w (.sl xs.length (xs.flatMap aO.enc)) bs (.slice A xs.length c))(ho:Own lo w bs)(hn':xs.length≤maxLen)(hk0:0≤k)(hk1:k+(cN (xs.flatMap aO.enc):Nat)≤4611686018427387904):
  Calls Tryz.prog 14 #[.slice A xs.length c,.int .i64 k] w fun e w'=>∃r:Int,e=.returned (.int .i64 r)∧Hid (r=k+(cN (xs.flatMap aO.enc):Nat))∧T1 w' (.sl xs.length (gT (xs.flatMap aO.enc) k)) bs (.slice A xs.length c)∧ng bs w w'∧Own lo w' bs:=by
 unfold maxLen at hn';obtain⟨n,hn⟩:∃n,xs.length=n:=⟨_,rfl⟩;rw[hn]at hx hn' ⊢;have Hn:Hid (xs.length=n):=hn;clear hn;have hkk:=Lib.hid hk1;clear hk1
 go_enter Tryz.func14,Tryz.ntmps14
 go_wp2_with fail
 go_loopw [1,5] (fun l i w'=>∃(j:Nat) (m:Int),j≤n∧i=.int .i64 j∧l=.int .i64 m∧Hid (m=k+(cN ((xs.take j).flatMap aO.enc):Nat))∧0≤m∧T1 w' (.sl n (gT ((xs.take j).flatMap aO.enc) k++(xs.drop j).flatMap aO.enc)) bs (.slice A n c)∧ng bs w w'∧Own lo w' bs) (fun _ i _=>n-(intOf i).toNat)
 case atStart=>exact⟨0,k,Nat.zero_le _,rfl,rfl,Lib.hid (by simp[fD]),hk0,by simpa[iZ]using hx,ng.refl _ _,ho⟩
 case round=>
  obtain⟨j,m,hj,rfl,rfl,hm,hm0,ht,hon,hw⟩:=hrel
  by_cases hlt:j<n
  ·obtain⟨x,hxk,hsp,hll,hsn,hdr⟩:=jB aO.enc 1 aO.bn Hn hlt;rw[hdr.out,qU]at ht;have hml:(gT ((xs.take j).flatMap aO.enc) k).length=j*1:=by rw[nR,hll]
   generalize hL:gT ((xs.take j).flatMap aO.enc) k=L at ht hml;have HL:=Lib.hid hL;clear hL hll;have hcx:Hid (cN (aO.enc x)=cN (x.agents.flatMap aB.enc)):=by show cN [.sl x.agents.length (x.agents.flatMap aB.enc)]=_;simp only[fZ,mQ,jv,fD]<;>omega
   have hbd:m+(cN (x.agents.flatMap aB.enc):Nat)≤4611686018427387904:=by
    have h1:=hm.out;have h2:=hkk.out;have h3:=hcx.out
    have h4:=hsp.out;have h5:cN (xs.flatMap aO.enc)=cN ((xs.take j).flatMap aO.enc)+(cN (aO.enc x)+cN ((xs.drop (j+1)).flatMap aO.enc)):=by rw[h4,bS,bS]
    omega
   replace ht:T1 wr (.sl n (L++(.sl x.agents.length (x.agents.flatMap aB.enc))::(xs.drop (j+1)).flatMap aO.enc)) bs (.slice A n c):=ht
   generalize hR:(xs.drop (j+1)).flatMap aO.enc=R at ht;have HR:=Lib.hid hR;clear hR;obtain⟨b,off,rfl, -,hbm,hbl,hblo,hfz⟩:=ht.row hw;have z0_0:T1 wr (.sl n (L++(.sl x.agents.length (x.agents.flatMap aB.enc))::R)) bs (.slice (some ⟨b,off,none⟩) n c):=by exact ht
   obtain⟨A0_0,c0_0,b0_0,y0_0, -⟩:=z0_0.sub hw (o:=off+j) rfl (by simp only[qA,qI,qR,hml]<;>omega);have g0:=ht;obtain⟨A0,c0,b0,k0,s0,n0,o0,nb0,back0⟩:=g0.sub hw (o:=off+j) rfl (by simp only[qA,qI,qR,hml]<;>omega)
   obtain⟨rfl,rfl⟩:A0_0=A0∧c0_0=c0:=by
    have hh:=k0;rw[y0_0]at hh;simpa using hh
   clear k0;have HB0:=Lib.hid back0;clear back0 g0;clear z0_0
   go_wp2_with fail
   refine(wD x.agents (m) _ s0 o0 n0 (by omega) (by omega)).mono ?_;rintro _ W1 ⟨r1,rfl,hr1,q0,f0, -⟩;obtain⟨t0,u0,v0⟩:=HB0.out W1 _ f0 q0;have p1:0≤r1:=by have:=hr1.out;omega
   have l1:r1+0≤4611686018427387904:=by have:=hr1.out;omega
   replace t0:T1 W1 (.sl n (L++(.sl x.agents.length (gT (x.agents.flatMap aB.enc) (m)))::R)) bs (.slice (some ⟨b,off,none⟩) n c):=t0
   go_wp2_with fail
   have hmk:gT (aO.enc x) m=[.sl x.agents.length (gT (x.agents.flatMap aB.enc) (m))]:=by
    show gT [.sl x.agents.length (x.agents.flatMap aB.enc)] m=_;simp only[jJ,iZ,o8,uS,mQ,jv]
    all_goals (have h1:=hr1.out;exact(eG (DN (by omega)) rfl))
   have hfin:gT ((xs.take (j+1)).flatMap aO.enc) k++(xs.drop (j+1)).flatMap aO.enc=L++(.sl x.agents.length (gT (x.agents.flatMap aB.enc) (m)))::R:=by
    rw[hsn.out,fO,HL.out,←hm.out,hmk,qF,HR.out];rfl
   exact⟨⟨j+1,r1,by omega,by go_num,by first|rfl|go_num,Lib.hid (by rw[hsn.out,bS];have h1:=hr1.out;have h8:=hcx.out;have h9:=hm.out;omega),by omega,by rw[hfin];exact t0,(hon).trans u0,v0⟩,by simp[intOf];omega⟩
  ·have:j=n:=by omega
   subst this
   go_wp2_with fail
   go_ret;have hl:=Hn.out;rw[qN (by omega),List.drop_of_length_le (by omega)]at ht;have hm':=hm.out;rw[qN (by omega)]at hm';exact⟨m,rfl,hm',by simpa using ht,hon,hw⟩
end Go.Proofs.YtcjhkgfmklgikaaGreat
