
/- What the laws number and look for again in these types. Printed by gen_mk.py. -/
import Derived.Test.YtjpaeopdljfjpaaGreatShort
import Derived.Test.YtjpaeopdljfjpaaGreatProg
import Derived.Test.YtjpaeopdljfjpaaGreatSc
import Derived.Test.YtjpaeopdljfjpaaGreatValid
import Derived.BigGuardPart
import Derived.Outline
import Derived.Deep.CutBlock
set_option maxHeartbeats 4000000
set_option linter.unusedSimpArgs false
set_option linter.unusedVariables false
namespace Go.Tr
open Go Go.RowKit
def aG.zJ(x:aG)(k:Int):List D:=[.sl x.agents.length (bQ (x.agents.flatMap ay.enc) (k))]
def aG.cnt(x:aG):Nat:=cN (x.agents.flatMap ay.enc)
def aL.zJ(x:aL)(k:Int):List D:=[.sl x.book.length (bQ (x.book.flatMap aG.enc) (k))]++([.sl x.schedule.length (bQ (x.schedule.flatMap aT) (k+(cN (x.book.flatMap aG.enc):Nat)))]++([.v (.int .i64 x.every)]++([.v (.int .i64 x.at_)]++(x.net.zJ (k+(cN (x.book.flatMap aG.enc):Nat)+(cN (x.schedule.flatMap aT):Nat))++([.sl x.origins.length (bQ (x.origins.flatMap aB.enc) (k+(cN (x.book.flatMap aG.enc):Nat)+(cN (x.schedule.flatMap aT):Nat)+(x.net.cnt:Nat)))]++([.sl x.breaks.length (bQ (x.breaks.flatMap aH.enc) (k+(cN (x.book.flatMap aG.enc):Nat)+(cN (x.schedule.flatMap aT):Nat)+(x.net.cnt:Nat)+(cN (x.origins.flatMap aB.enc):Nat)))]++([.sl x.points.length (bQ (x.points.flatMap aA.enc) (k+(cN (x.book.flatMap aG.enc):Nat)+(cN (x.schedule.flatMap aT):Nat)+(x.net.cnt:Nat)+(cN (x.origins.flatMap aB.enc):Nat)+(cN (x.breaks.flatMap aH.enc):Nat)))])))))))
def aL.cnt(x:aL):Nat:=cN (x.book.flatMap aG.enc)+cN (x.schedule.flatMap aT)+x.net.cnt+cN (x.origins.flatMap aB.enc)+cN (x.breaks.flatMap aH.enc)+cN (x.points.flatMap aA.enc)
theorem aC.Ar(x:aC):cN x.enc≤32*(1+(fun _=>0) x):=by
 have hc:cN x.enc=1+1:=by show cN [.v (.int .i64 x.agent),.v (.int .i64 x.slot)]=_;simp only[aY,fV,dD,aZ]<;>omega
 omega
theorem ay.Ar(x:ay):cN x.enc≤32*(1+x.wt):=by
 have h3:=bO (f:=aT) (g:=(fun _=>0)) Cz x.data;have h4:=bO (f:=aC.enc) (g:=(fun _=>0)) aC.Ar x.aD;have hw:x.wt=qh (fun _=>0) x.data+qh (fun _=>0) x.aD:=rfl;have hc:cN x.enc=1+1+1+cN (x.data.flatMap aT)+cN (x.aD.flatMap aC.enc):=by show cN [.v (.int .i64 x.kind),.v (.int .i64 x.level),.v (.int .i64 x.value),.sl x.data.length (x.data.flatMap aT),.sl x.aD.length (x.aD.flatMap aC.enc)]=_;simp only[aY,fV,dD,aZ]<;>omega
 omega
theorem aG.Ar(x:aG):cN x.enc≤32*(1+x.wt):=by
 have h0:=bO (f:=ay.enc) (g:=ay.wt) ay.Ar x.agents;have hw:x.wt=qh ay.wt x.agents:=rfl;have hc:cN x.enc=cN (x.agents.flatMap ay.enc):=by show cN [.sl x.agents.length (x.agents.flatMap ay.enc)]=_;simp only[aY,fV,dD,aZ]<;>omega
 omega
theorem aG.FC(x:aG):x.cnt≤32*x.wt:=by
 have h0:=bO (f:=ay.enc) (g:=ay.wt) ay.Ar x.agents;have hw:x.wt=qh ay.wt x.agents:=rfl;have hc:x.cnt=cN (x.agents.flatMap ay.enc):=rfl;omega
theorem aB.Ar(x:aB):cN x.enc≤32*(1+(fun _=>0) x):=by
 have hc:cN x.enc=1+1+1:=by show cN [.v (.int .i64 x.step),.v (.int .i64 x.def_),.v (.int .i64 x.source)]=_;simp only[aY,fV,dD,aZ]<;>omega
 omega
theorem aH.Ar(x:aH):cN x.enc≤32*(1+(fun _=>0) x):=by
 have hc:cN x.enc=1+1:=by show cN [.v (.int .i64 x.kind),.v (.int .i64 x.value)]=_;simp only[aY,fV,dD,aZ]<;>omega
 omega
theorem aA.Ar(x:aA):cN x.enc≤32*(1+x.wt):=by
 have h1:=bO (f:=ay.enc) (g:=ay.wt) ay.Ar x.net.agents;have h2:=bO (f:=aB.enc) (g:=(fun _=>0)) aB.Ar x.origins;have hw:x.wt=x.net.wt+qh (fun _=>0) x.origins:=rfl;have n1:x.net.wt=qh ay.wt x.net.agents:=rfl;have hc:cN x.enc=1+cN (x.net.agents.flatMap ay.enc)+cN (x.origins.flatMap aB.enc):=by show cN [.v (.int .i64 x.at_),.sl x.net.agents.length (x.net.agents.flatMap ay.enc),.sl x.origins.length (x.origins.flatMap aB.enc)]=_;simp only[aY,fV,dD,aZ]<;>omega
 omega
theorem aL.Ar(x:aL):cN x.enc≤32*(1+x.wt):=by
 have h0:=bO (f:=aG.enc) (g:=aG.wt) aG.Ar x.book;have h1:=bO (f:=aT) (g:=(fun _=>0)) Cz x.schedule;have h4:=bO (f:=ay.enc) (g:=ay.wt) ay.Ar x.net.agents;have h5:=bO (f:=aB.enc) (g:=(fun _=>0)) aB.Ar x.origins;have h6:=bO (f:=aH.enc) (g:=(fun _=>0)) aH.Ar x.breaks;have h7:=bO (f:=aA.enc) (g:=aA.wt) aA.Ar x.points;have hw:x.wt=qh aG.wt x.book+qh (fun _=>0) x.schedule+x.net.wt+qh (fun _=>0) x.origins+qh (fun _=>0) x.breaks+qh aA.wt x.points:=rfl
 have n4:x.net.wt=qh ay.wt x.net.agents:=rfl;have hc:cN x.enc=cN (x.book.flatMap aG.enc)+cN (x.schedule.flatMap aT)+1+1+cN (x.net.agents.flatMap ay.enc)+cN (x.origins.flatMap aB.enc)+cN (x.breaks.flatMap aH.enc)+cN (x.points.flatMap aA.enc):=by show cN [.sl x.book.length (x.book.flatMap aG.enc),.sl x.schedule.length (x.schedule.flatMap aT),.v (.int .i64 x.every),.v (.int .i64 x.at_),.sl x.net.agents.length (x.net.agents.flatMap ay.enc),.sl x.origins.length (x.origins.flatMap aB.enc),.sl x.breaks.length (x.breaks.flatMap aH.enc),.sl x.points.length (x.points.flatMap aA.enc)]=_;simp only[aY,fV,dD,aZ]<;>omega
 omega
theorem aL.FC(x:aL):x.cnt≤32*x.wt:=by
 have h0:=bO (f:=aG.enc) (g:=aG.wt) aG.Ar x.book;have h1:=bO (f:=aT) (g:=(fun _=>0)) Cz x.schedule;have h4:=bO (f:=ay.enc) (g:=ay.wt) ay.Ar x.net.agents;have h5:=bO (f:=aB.enc) (g:=(fun _=>0)) aB.Ar x.origins;have h6:=bO (f:=aH.enc) (g:=(fun _=>0)) aH.Ar x.breaks;have h7:=bO (f:=aA.enc) (g:=aA.wt) aA.Ar x.points;have hw:x.wt=qh aG.wt x.book+qh (fun _=>0) x.schedule+x.net.wt+qh (fun _=>0) x.origins+qh (fun _=>0) x.breaks+qh aA.wt x.points:=rfl
 have n4:x.net.wt=qh ay.wt x.net.agents:=rfl;have hc:x.cnt=cN (x.book.flatMap aG.enc)+cN (x.schedule.flatMap aT)+x.net.cnt+cN (x.origins.flatMap aB.enc)+cN (x.breaks.flatMap aH.enc)+cN (x.points.flatMap aA.enc):=rfl;have c2:=aG.FC x.net;omega
end Go.Tr
namespace Go.Proofs.YtjpaeopdljfjpaaGreat
open Go Go.RowKit Go.Proofs Go.Tr
theorem mK(xs:List Int)(k:Int){A:Option Addr}{c lo:Nat}{bs}(w:World)(hx:T1 w (.sl xs.length (xs.flatMap aT)) bs (.slice A xs.length c))(ho:Own lo w bs)(hn':xs.length≤maxLen)(hk0:0≤k)(hk1:k+(cN (xs.flatMap aT):Nat)≤4611686018427387904):
  Calls Tryz.prog 17 #[.slice A xs.length c,.int .i64 k] w fun e w'=>∃r:Int,e=.returned (.int .i64 r)∧Hid (r=k+(cN (xs.flatMap aT):Nat))∧T1 w' (.sl xs.length (bQ (xs.flatMap aT) k)) bs (.slice A xs.length c)∧iZ bs w w'∧Own lo w' bs:=by
 unfold maxLen at hn';obtain⟨n,hn⟩:∃n,xs.length=n:=⟨_,rfl⟩;rw[hn]at hx hn' ⊢;have Hn:Hid (xs.length=n):=hn;clear hn;have hkk:=Lib.hid hk1;clear hk1
 go_enter Tryz.func17,Tryz.ntmps17
 go_wp2_with fail
 go_loopw [1,5] (fun l i w'=>∃(j:Nat) (m:Int),j≤n∧i=.int .i64 j∧l=.int .i64 m∧Hid (m=k+(cN ((xs.take j).flatMap aT):Nat))∧0≤m∧T1 w' (.sl n (bQ ((xs.take j).flatMap aT) k++(xs.drop j).flatMap aT)) bs (.slice A n c)∧iZ bs w w'∧Own lo w' bs) (fun _ i _=>n-(intOf i).toNat)
 case atStart=>exact⟨0,k,Nat.zero_le _,rfl,rfl,Lib.hid (by simp[aZ]),hk0,by simpa[dN]using hx,iZ.refl _ _,ho⟩
 case round=>
  obtain⟨j,m,hj,rfl,rfl,hm,hm0,ht,hon,hw⟩:=hrel
  by_cases hlt:j<n
  ·obtain⟨x,hxk,hsp,hll,hsn,hdr⟩:=dM aT 1 (fun _=>rfl) Hn hlt;rw[hdr.out,qU]at ht;have hml:(bQ ((xs.take j).flatMap aT) k).length=j*1:=by rw[iy,hll]
   generalize hL:bQ ((xs.take j).flatMap aT) k=L at ht hml;have HL:=Lib.hid hL;clear hL hll;have hcx:Hid (cN (aT x)=1):=by show cN [.v (.int .i64 x)]=_;simp only[aY,fV,dD,aZ]<;>omega
   have hbd:m+1≤4611686018427387904:=by
    have h1:=hm.out;have h2:=hkk.out;have h3:=hcx.out
    have h4:=hsp.out;have h5:cN (xs.flatMap aT)=cN ((xs.take j).flatMap aT)+(cN (aT x)+cN ((xs.drop (j+1)).flatMap aT)):=by rw[h4,aQ,aQ]
    omega
   replace ht:T1 wr (.sl n (L++(.v (.int .i64 x))::(xs.drop (j+1)).flatMap aT)) bs (.slice A n c):=ht
   generalize hR:(xs.drop (j+1)).flatMap aT=R at ht;have HR:=Lib.hid hR;clear hR;obtain⟨b,off,rfl, -,hbm,hbl,hblo,hfz⟩:=ht.row hw;have z0_0:T1 wr (.sl n (L++(.v (.int .i64 x))::R)) bs (.slice (some ⟨b,off,none⟩) n c):=by exact ht
   have y0_0:=(z0_0.leaf hw (o:=off+j) rfl (by simp only[qA,qI,qR,hml]<;>omega)).1;obtain⟨t0,u0,v0⟩:=(ht.leaf hw (o:=off+j) rfl (by simp only[qA,qI,qR,hml]<;>omega)).2 (.int .i64 m) rfl
   replace t0:T1 (World.setCell wr ⟨b,off+j,none⟩ (.int .i64 m)) (.sl n (L++(.v (.int .i64 m))::R)) bs (.slice (some ⟨b,off,none⟩) n c):=t0
   clear z0_0
   go_wp2_with fail
   have hmk:bQ (aT x) m=[.v (.int .i64 m)]:=by
    show bQ [.v (.int .i64 x)] m=_;simp only[d9,dN,iM,jX,fV,dD]
    all_goals (exact(bK (iP (by omega)) rfl))
   have hfin:bQ ((xs.take (j+1)).flatMap aT) k++(xs.drop (j+1)).flatMap aT=L++(.v (.int .i64 m))::R:=by
    rw[hsn.out,bG,HL.out,←hm.out,hmk,qF,HR.out];rfl
   exact⟨⟨j+1,m+1,by omega,by go_num,by first|rfl|go_num,Lib.hid (by rw[hsn.out,aQ];have h8:=hcx.out;have h9:=hm.out;omega),by omega,by rw[hfin];exact t0,(hon).trans u0,v0⟩,by simp[intOf];omega⟩
  ·have:j=n:=by omega
   subst this
   go_wp2_with fail
   go_ret;have hl:=Hn.out;rw[qN (by omega),List.drop_of_length_le (by omega)]at ht;have hm':=hm.out;rw[qN (by omega)]at hm';exact⟨m,rfl,hm',by simpa using ht,hon,hw⟩
theorem rA(xs:List Int)(k r:Int)(n:Nat){A:Option Addr}{c:Nat}{bs:List Nat}(w:World)(hx:T1 w (.sl n (bQ (xs.flatMap aT) k)) bs (.slice A n c))(Hn:Hid (xs.length=n))(hk0:0≤k)(hk1:r≤4611686018427387904)(Hr:Hid (r=k+(cN (xs.flatMap aT):Nat))):Calls Tryz.prog 41 #[.slice A n c,.int .i64 k] w fun e w'=>e=.returned (.int .i64 (r))∧Ext w w':=by
 refine aM fun e=> ?_
 have hn:=hx.nJ
 go_enter Tryz.func41,Tryz.ntmps41
 go_wp2_with fail
 repeat (refine ak _ (by kernel_rfl) (by kernel_rfl) ?_;(repeat (go_big_quiet_step (fail)));refine wpQuiet_nil ?_;intro e;go_wp2_with fail)
 go_loopw [1,5] (fun l i w'=>∃(j:Nat) (m:Int),j≤n∧i=.int .i64 j∧l=.int .i64 m∧Hid (m=k+(cN ((xs.take j).flatMap aT):Nat))∧0≤m∧∃e:aK w,w'=e.to) (fun _ i _=>n-(intOf i).toNat)
 case atStart=>exact⟨0,k,Nat.zero_le _,rfl,rfl,Lib.hid (by simp[aZ]),hk0,_,rfl⟩
 case round=>
  obtain⟨j,m,hj,rfl,rfl,hm,hm0,e,rfl⟩:=hrel
  by_cases hlt:j<n
  ·obtain⟨x,hxk,hsp,hll,hsn, -⟩:=dM aT 1 (fun _=>rfl) Hn hlt;have hcx:Hid (cN (aT x)=1):=by show cN [.v (.int .i64 x)]=_;simp only[aY,fV,dD,aZ]<;>omega
   have hbd:m+1≤4611686018427387904:=by
    have h1:=hm.out;have h2:=Hr.out;have h3:=hcx.out
    have h5:cN (xs.flatMap aT)=cN ((xs.take j).flatMap aT)+(cN (aT x)+cN ((xs.drop (j+1)).flatMap aT)):=by rw[hsp.out,aQ,aQ]
    omega
   have hmk:bQ (aT x) m=[.v (.int .i64 (m))]:=by
    show bQ [.v (.int .i64 x)] m=_;simp only[d9,dN,iM,jX,fV,dD]
    all_goals (exact(bK (iP (by omega)) rfl))
   have hxx:=hx;rw[hsp.out,bG,bG,←hm.out,hmk]at hxx;have hml:(bQ ((xs.take j).flatMap aT) k).length=j*1:=by rw[iy,hll]
   generalize hL:bQ ((xs.take j).flatMap aT) k=L at hxx hml;clear hL hll hmk;generalize hR:bQ ((xs.drop (j+1)).flatMap aT) (m+(cN (aT x):Nat))=R at hxx;clear hR
   replace hxx:T1 w (.sl n (L++(.v (.int .i64 (m)))::R)) bs (.slice A n c):=hxx
   obtain⟨b,off,rfl⟩:=hxx.FP;have z0:T1 w (.sl n (L++(.v (.int .i64 (m)))::R)) bs (.slice (some ⟨b,off,none⟩) n c):=by exact hxx
   have y0:=z0.pU (o:=off+j) rfl (by simp only[qA,qI,qR,hml]<;>omega);clear hxx z0
   go_wp2_with fail
   repeat (refine ak _ (by kernel_rfl) (by kernel_rfl) ?_;(repeat (go_big_quiet_step (fail)));refine wpQuiet_nil ?_;intro e;go_wp2_with fail)
   exact⟨⟨j+1,m+1,by omega,by go_num,by first|rfl|go_num,Lib.hid (by rw[hsn.out,aQ];have h8:=hcx.out;have h9:=hm.out;omega),by omega,_,rfl⟩,by simp[intOf];omega⟩
  ·have:j=n:=by omega
   subst this
   have E:Hid (r=m):=by
    have h1:=hm.out;have h2:=Hr.out;have h3:=Hn.out
    rw[qN (by omega)]at h1;show _=_;omega
   go_wp2_with fail
   repeat (refine ak _ (by kernel_rfl) (by kernel_rfl) ?_;(repeat (go_big_quiet_step (fail)));refine wpQuiet_nil ?_;intro e;go_wp2_with fail)
   go_ret;exact⟨by rw[E.out];rfl,_,rfl⟩
theorem AO(xs:List aC)(k:Int){A:Option Addr}{c lo:Nat}{bs}(w:World)(hx:T1 w (.sl xs.length (xs.flatMap aC.enc)) bs (.slice A xs.length c))(ho:Own lo w bs)(hn':xs.length≤maxLen)(hk0:0≤k)(hk1:k+(cN (xs.flatMap aC.enc):Nat)≤4611686018427387904):
  Calls Tryz.prog 70 #[.slice A xs.length c,.int .i64 k] w fun e w'=>∃r:Int,e=.returned (.int .i64 r)∧Hid (r=k+(cN (xs.flatMap aC.enc):Nat))∧T1 w' (.sl xs.length (bQ (xs.flatMap aC.enc) k)) bs (.slice A xs.length c)∧iZ bs w w'∧Own lo w' bs:=by
 unfold maxLen at hn';obtain⟨n,hn⟩:∃n,xs.length=n:=⟨_,rfl⟩;rw[hn]at hx hn' ⊢;have Hn:Hid (xs.length=n):=hn;clear hn;have hkk:=Lib.hid hk1;clear hk1
 go_enter Tryz.func70,Tryz.ntmps70
 go_wp2_with fail
 go_loopw [1,5] (fun l i w'=>∃(j:Nat) (m:Int),j≤n∧i=.int .i64 j∧l=.int .i64 m∧Hid (m=k+(cN ((xs.take j).flatMap aC.enc):Nat))∧0≤m∧T1 w' (.sl n (bQ ((xs.take j).flatMap aC.enc) k++(xs.drop j).flatMap aC.enc)) bs (.slice A n c)∧iZ bs w w'∧Own lo w' bs) (fun _ i _=>n-(intOf i).toNat)
 case atStart=>exact⟨0,k,Nat.zero_le _,rfl,rfl,Lib.hid (by simp[aZ]),hk0,by simpa[dN]using hx,iZ.refl _ _,ho⟩
 case round=>
  obtain⟨j,m,hj,rfl,rfl,hm,hm0,ht,hon,hw⟩:=hrel
  by_cases hlt:j<n
  ·obtain⟨x,hxk,hsp,hll,hsn,hdr⟩:=dM aC.enc 2 aC.aR Hn hlt;rw[hdr.out,qU]at ht;have hml:(bQ ((xs.take j).flatMap aC.enc) k).length=j*2:=by rw[iy,hll]
   generalize hL:bQ ((xs.take j).flatMap aC.enc) k=L at ht hml;have HL:=Lib.hid hL;clear hL hll;have hcx:Hid (cN (aC.enc x)=1+1):=by show cN [.v (.int .i64 x.agent),.v (.int .i64 x.slot)]=_;simp only[aY,fV,dD,aZ]<;>omega
   have hbd:m+1+1≤4611686018427387904:=by
    have h1:=hm.out;have h2:=hkk.out;have h3:=hcx.out
    have h4:=hsp.out;have h5:cN (xs.flatMap aC.enc)=cN ((xs.take j).flatMap aC.enc)+(cN (aC.enc x)+cN ((xs.drop (j+1)).flatMap aC.enc)):=by rw[h4,aQ,aQ]
    omega
   replace ht:T1 wr (.sl n (L++(.v (.int .i64 x.agent))::(.v (.int .i64 x.slot))::(xs.drop (j+1)).flatMap aC.enc)) bs (.slice A n c):=ht
   generalize hR:(xs.drop (j+1)).flatMap aC.enc=R at ht;have HR:=Lib.hid hR;clear hR;obtain⟨b,off,rfl, -,hbm,hbl,hblo,hfz⟩:=ht.row hw;have z0_0:T1 wr (.sl n (L++(.v (.int .i64 x.agent))::(.v (.int .i64 x.slot))::R)) bs (.slice (some ⟨b,off,none⟩) n c):=by exact ht
   have y0_0:=(z0_0.leaf hw (o:=off+j*2) rfl (by simp only[qA,qI,qR,hml]<;>omega)).1;have z0_1:T1 wr (.sl n ((L++[.v (.int .i64 x.agent)])++(.v (.int .i64 x.slot))::R)) bs (.slice (some ⟨b,off,none⟩) n c):=by rw[qF];exact ht
   have y0_1:=(z0_1.leaf hw (o:=off+j*2+1) rfl (by simp only[qA,qI,qR,hml]<;>omega)).1;obtain⟨t0,u0,v0⟩:=(ht.leaf hw (o:=off+j*2) rfl (by simp only[qA,qI,qR,hml]<;>omega)).2 (.int .i64 m) rfl
   replace t0:T1 (World.setCell wr ⟨b,off+j*2,none⟩ (.int .i64 m)) (.sl n (L++(.v (.int .i64 m))::(.v (.int .i64 x.slot))::R)) bs (.slice (some ⟨b,off,none⟩) n c):=t0
   replace t0:T1 (World.setCell wr ⟨b,off+j*2,none⟩ (.int .i64 m)) (.sl n ((L++[.v (.int .i64 m)])++(.v (.int .i64 x.slot))::R)) bs (.slice (some ⟨b,off,none⟩) n c):=by rw[qF];exact t0
   obtain⟨t1,u1,v1⟩:=(t0.leaf v0 (o:=off+j*2+1) rfl (by simp only[qA,qI,qR,hml]<;>omega)).2 (.int .i64 (m+1)) rfl;rw[qF]at t1
   replace t1:T1 (World.setCell (World.setCell wr ⟨b,off+j*2,none⟩ (.int .i64 m)) ⟨b,off+j*2+1,none⟩ (.int .i64 (m+1))) (.sl n (L++(.v (.int .i64 m))::(.v (.int .i64 (m+1)))::R)) bs (.slice (some ⟨b,off,none⟩) n c):=t1
   clear z0_0 z0_1
   go_wp2_with fail
   have hmk:bQ (aC.enc x) m=[.v (.int .i64 m),.v (.int .i64 (m+1))]:=by
    show bQ [.v (.int .i64 x.agent),.v (.int .i64 x.slot)] m=_;simp only[d9,dN,iM,jX,fV,dD]
    all_goals (exact(bK (iP (by omega)) (bK (iP (by omega)) rfl)))
   have hfin:bQ ((xs.take (j+1)).flatMap aC.enc) k++(xs.drop (j+1)).flatMap aC.enc=L++(.v (.int .i64 m))::(.v (.int .i64 (m+1)))::R:=by
    rw[hsn.out,bG,HL.out,←hm.out,hmk,qF,HR.out];rfl
   exact⟨⟨j+1,m+1+1,by omega,by go_num,by first|rfl|go_num,Lib.hid (by rw[hsn.out,aQ];have h8:=hcx.out;have h9:=hm.out;omega),by omega,by rw[hfin];exact t1,((hon).trans u0).trans u1,v1⟩,by simp[intOf];omega⟩
  ·have:j=n:=by omega
   subst this
   go_wp2_with fail
   go_ret;have hl:=Hn.out;rw[qN (by omega),List.drop_of_length_le (by omega)]at ht;have hm':=hm.out;rw[qN (by omega)]at hm';exact⟨m,rfl,hm',by simpa using ht,hon,hw⟩
theorem Az(xs:List aC)(k r:Int)(n:Nat){A:Option Addr}{c:Nat}{bs:List Nat}(w:World)(hx:T1 w (.sl n (bQ (xs.flatMap aC.enc) k)) bs (.slice A n c))(Hn:Hid (xs.length=n))(hk0:0≤k)(hk1:r≤4611686018427387904)(Hr:Hid (r=k+(cN (xs.flatMap aC.enc):Nat))):Calls Tryz.prog 84 #[.slice A n c,.int .i64 k] w fun e w'=>e=.returned (.int .i64 (r))∧Ext w w':=by
 refine aM fun e=> ?_
 have hn:=hx.nJ
 go_enter Tryz.func84,Tryz.ntmps84
 go_wp2_with fail
 repeat (refine ak _ (by kernel_rfl) (by kernel_rfl) ?_;(repeat (go_big_quiet_step (fail)));refine wpQuiet_nil ?_;intro e;go_wp2_with fail)
 go_loopw [1,5] (fun l i w'=>∃(j:Nat) (m:Int),j≤n∧i=.int .i64 j∧l=.int .i64 m∧Hid (m=k+(cN ((xs.take j).flatMap aC.enc):Nat))∧0≤m∧∃e:aK w,w'=e.to) (fun _ i _=>n-(intOf i).toNat)
 case atStart=>exact⟨0,k,Nat.zero_le _,rfl,rfl,Lib.hid (by simp[aZ]),hk0,_,rfl⟩
 case round=>
  obtain⟨j,m,hj,rfl,rfl,hm,hm0,e,rfl⟩:=hrel
  by_cases hlt:j<n
  ·obtain⟨x,hxk,hsp,hll,hsn, -⟩:=dM aC.enc 2 aC.aR Hn hlt;have hcx:Hid (cN (aC.enc x)=1+1):=by show cN [.v (.int .i64 x.agent),.v (.int .i64 x.slot)]=_;simp only[aY,fV,dD,aZ]<;>omega
   have hbd:m+1+1≤4611686018427387904:=by
    have h1:=hm.out;have h2:=Hr.out;have h3:=hcx.out
    have h5:cN (xs.flatMap aC.enc)=cN ((xs.take j).flatMap aC.enc)+(cN (aC.enc x)+cN ((xs.drop (j+1)).flatMap aC.enc)):=by rw[hsp.out,aQ,aQ]
    omega
   have hmk:bQ (aC.enc x) m=[.v (.int .i64 (m)),.v (.int .i64 (m+1))]:=by
    show bQ [.v (.int .i64 x.agent),.v (.int .i64 x.slot)] m=_;simp only[d9,dN,iM,jX,fV,dD]
    all_goals (exact(bK (iP (by omega)) (bK (iP (by omega)) rfl)))
   have hxx:=hx;rw[hsp.out,bG,bG,←hm.out,hmk]at hxx;have hml:(bQ ((xs.take j).flatMap aC.enc) k).length=j*2:=by rw[iy,hll]
   generalize hL:bQ ((xs.take j).flatMap aC.enc) k=L at hxx hml;clear hL hll hmk;generalize hR:bQ ((xs.drop (j+1)).flatMap aC.enc) (m+(cN (aC.enc x):Nat))=R at hxx;clear hR
   replace hxx:T1 w (.sl n (L++(.v (.int .i64 (m)))::(.v (.int .i64 (m+1)))::R)) bs (.slice A n c):=hxx
   obtain⟨b,off,rfl⟩:=hxx.FP;have z0:T1 w (.sl n (L++(.v (.int .i64 (m)))::(.v (.int .i64 (m+1)))::R)) bs (.slice (some ⟨b,off,none⟩) n c):=by exact hxx
   have y0:=z0.pU (o:=off+j*2) rfl (by simp only[qA,qI,qR,hml]<;>omega);have z1:T1 w (.sl n ((L++[.v (.int .i64 (m))])++(.v (.int .i64 (m+1)))::R)) bs (.slice (some ⟨b,off,none⟩) n c):=by rw[qF];exact hxx
   have y1:=z1.pU (o:=off+j*2+1) rfl (by simp only[qA,qI,qR,hml]<;>omega);clear hxx z0 z1
   go_wp2_with fail
   repeat (refine ak _ (by kernel_rfl) (by kernel_rfl) ?_;(repeat (go_big_quiet_step (fail)));refine wpQuiet_nil ?_;intro e;go_wp2_with fail)
   exact⟨⟨j+1,m+1+1,by omega,by go_num,by first|rfl|go_num,Lib.hid (by rw[hsn.out,aQ];have h8:=hcx.out;have h9:=hm.out;omega),by omega,_,rfl⟩,by simp[intOf];omega⟩
  ·have:j=n:=by omega
   subst this
   have E:Hid (r=m):=by
    have h1:=hm.out;have h2:=Hr.out;have h3:=Hn.out
    rw[qN (by omega)]at h1;show _=_;omega
   go_wp2_with fail
   repeat (refine ak _ (by kernel_rfl) (by kernel_rfl) ?_;(repeat (go_big_quiet_step (fail)));refine wpQuiet_nil ?_;intro e;go_wp2_with fail)
   go_ret;exact⟨by rw[E.out];rfl,_,rfl⟩
theorem mJ(xs:List ay)(k:Int){A:Option Addr}{c lo:Nat}{bs}(w:World)(hx:T1 w (.sl xs.length (xs.flatMap ay.enc)) bs (.slice A xs.length c))(ho:Own lo w bs)(hn':xs.length≤maxLen)(hk0:0≤k)(hk1:k+(cN (xs.flatMap ay.enc):Nat)≤4611686018427387904):
  Calls Tryz.prog 36 #[.slice A xs.length c,.int .i64 k] w fun e w'=>∃r:Int,e=.returned (.int .i64 r)∧Hid (r=k+(cN (xs.flatMap ay.enc):Nat))∧T1 w' (.sl xs.length (bQ (xs.flatMap ay.enc) k)) bs (.slice A xs.length c)∧iZ bs w w'∧Own lo w' bs:=by
 unfold maxLen at hn';obtain⟨n,hn⟩:∃n,xs.length=n:=⟨_,rfl⟩;rw[hn]at hx hn' ⊢;have Hn:Hid (xs.length=n):=hn;clear hn;have hkk:=Lib.hid hk1;clear hk1
 go_enter Tryz.func36,Tryz.ntmps36
 go_wp2_with fail
 go_loopw [1,5] (fun l i w'=>∃(j:Nat) (m:Int),j≤n∧i=.int .i64 j∧l=.int .i64 m∧Hid (m=k+(cN ((xs.take j).flatMap ay.enc):Nat))∧0≤m∧T1 w' (.sl n (bQ ((xs.take j).flatMap ay.enc) k++(xs.drop j).flatMap ay.enc)) bs (.slice A n c)∧iZ bs w w'∧Own lo w' bs) (fun _ i _=>n-(intOf i).toNat)
 case atStart=>exact⟨0,k,Nat.zero_le _,rfl,rfl,Lib.hid (by simp[aZ]),hk0,by simpa[dN]using hx,iZ.refl _ _,ho⟩
 case round=>
  obtain⟨j,m,hj,rfl,rfl,hm,hm0,ht,hon,hw⟩:=hrel
  by_cases hlt:j<n
  ·obtain⟨x,hxk,hsp,hll,hsn,hdr⟩:=dM ay.enc 5 ay.aR Hn hlt;rw[hdr.out,qU]at ht;have hml:(bQ ((xs.take j).flatMap ay.enc) k).length=j*5:=by rw[iy,hll]
   generalize hL:bQ ((xs.take j).flatMap ay.enc) k=L at ht hml;have HL:=Lib.hid hL;clear hL hll;have hcx:Hid (cN (ay.enc x)=1+1+1+cN (x.data.flatMap aT)+cN (x.aD.flatMap aC.enc)):=by show cN [.v (.int .i64 x.kind),.v (.int .i64 x.level),.v (.int .i64 x.value),.sl x.data.length (x.data.flatMap aT),.sl x.aD.length (x.aD.flatMap aC.enc)]=_;simp only[aY,fV,dD,aZ]<;>omega
   have hbd:m+1+1+1+(cN (x.data.flatMap aT):Nat)+(cN (x.aD.flatMap aC.enc):Nat)≤4611686018427387904:=by
    have h1:=hm.out;have h2:=hkk.out;have h3:=hcx.out
    have h4:=hsp.out;have h5:cN (xs.flatMap ay.enc)=cN ((xs.take j).flatMap ay.enc)+(cN (ay.enc x)+cN ((xs.drop (j+1)).flatMap ay.enc)):=by rw[h4,aQ,aQ]
    omega
   replace ht:T1 wr (.sl n (L++(.v (.int .i64 x.kind))::(.v (.int .i64 x.level))::(.v (.int .i64 x.value))::(.sl x.data.length (x.data.flatMap aT))::(.sl x.aD.length (x.aD.flatMap aC.enc))::(xs.drop (j+1)).flatMap ay.enc)) bs (.slice A n c):=ht
   generalize hR:(xs.drop (j+1)).flatMap ay.enc=R at ht;have HR:=Lib.hid hR;clear hR;obtain⟨b,off,rfl, -,hbm,hbl,hblo,hfz⟩:=ht.row hw;have z0_0:T1 wr (.sl n (L++(.v (.int .i64 x.kind))::(.v (.int .i64 x.level))::(.v (.int .i64 x.value))::(.sl x.data.length (x.data.flatMap aT))::(.sl x.aD.length (x.aD.flatMap aC.enc))::R)) bs (.slice (some ⟨b,off,none⟩) n c):=by exact ht
   have y0_0:=(z0_0.leaf hw (o:=off+j*5) rfl (by simp only[qA,qI,qR,hml]<;>omega)).1;have z0_1:T1 wr (.sl n ((L++[.v (.int .i64 x.kind)])++(.v (.int .i64 x.level))::(.v (.int .i64 x.value))::(.sl x.data.length (x.data.flatMap aT))::(.sl x.aD.length (x.aD.flatMap aC.enc))::R)) bs (.slice (some ⟨b,off,none⟩) n c):=by rw[qF];exact ht
   have y0_1:=(z0_1.leaf hw (o:=off+j*5+1) rfl (by simp only[qA,qI,qR,hml]<;>omega)).1;have z0_2:T1 wr (.sl n ((L++[.v (.int .i64 x.kind),.v (.int .i64 x.level)])++(.v (.int .i64 x.value))::(.sl x.data.length (x.data.flatMap aT))::(.sl x.aD.length (x.aD.flatMap aC.enc))::R)) bs (.slice (some ⟨b,off,none⟩) n c):=by rw[qF];exact ht
   have y0_2:=(z0_2.leaf hw (o:=off+j*5+2) rfl (by simp only[qA,qI,qR,hml]<;>omega)).1;have z0_3:T1 wr (.sl n ((L++[.v (.int .i64 x.kind),.v (.int .i64 x.level),.v (.int .i64 x.value)])++(.sl x.data.length (x.data.flatMap aT))::(.sl x.aD.length (x.aD.flatMap aC.enc))::R)) bs (.slice (some ⟨b,off,none⟩) n c):=by rw[qF];exact ht
   obtain⟨A0_3,c0_3,b0_3,y0_3, -⟩:=z0_3.sub hw (o:=off+j*5+3) rfl (by simp only[qA,qI,qR,hml]<;>omega);obtain⟨t0,u0,v0⟩:=(ht.leaf hw (o:=off+j*5) rfl (by simp only[qA,qI,qR,hml]<;>omega)).2 (.int .i64 m) rfl
   replace t0:T1 (World.setCell wr ⟨b,off+j*5,none⟩ (.int .i64 m)) (.sl n (L++(.v (.int .i64 m))::(.v (.int .i64 x.level))::(.v (.int .i64 x.value))::(.sl x.data.length (x.data.flatMap aT))::(.sl x.aD.length (x.aD.flatMap aC.enc))::R)) bs (.slice (some ⟨b,off,none⟩) n c):=t0
   replace t0:T1 (World.setCell wr ⟨b,off+j*5,none⟩ (.int .i64 m)) (.sl n ((L++[.v (.int .i64 m)])++(.v (.int .i64 x.level))::(.v (.int .i64 x.value))::(.sl x.data.length (x.data.flatMap aT))::(.sl x.aD.length (x.aD.flatMap aC.enc))::R)) bs (.slice (some ⟨b,off,none⟩) n c):=by rw[qF];exact t0
   obtain⟨t1,u1,v1⟩:=(t0.leaf v0 (o:=off+j*5+1) rfl (by simp only[qA,qI,qR,hml]<;>omega)).2 (.int .i64 (m+1)) rfl;rw[qF]at t1
   replace t1:T1 (World.setCell (World.setCell wr ⟨b,off+j*5,none⟩ (.int .i64 m)) ⟨b,off+j*5+1,none⟩ (.int .i64 (m+1))) (.sl n (L++(.v (.int .i64 m))::(.v (.int .i64 (m+1)))::(.v (.int .i64 x.value))::(.sl x.data.length (x.data.flatMap aT))::(.sl x.aD.length (x.aD.flatMap aC.enc))::R)) bs (.slice (some ⟨b,off,none⟩) n c):=t1
   replace t1:T1 (World.setCell (World.setCell wr ⟨b,off+j*5,none⟩ (.int .i64 m)) ⟨b,off+j*5+1,none⟩ (.int .i64 (m+1))) (.sl n ((L++[.v (.int .i64 m),.v (.int .i64 (m+1))])++(.v (.int .i64 x.value))::(.sl x.data.length (x.data.flatMap aT))::(.sl x.aD.length (x.aD.flatMap aC.enc))::R)) bs (.slice (some ⟨b,off,none⟩) n c):=by rw[qF];exact t1
   obtain⟨t2,u2,v2⟩:=(t1.leaf v1 (o:=off+j*5+2) rfl (by simp only[qA,qI,qR,hml]<;>omega)).2 (.int .i64 (m+1+1)) rfl;rw[qF]at t2
   replace t2:T1 (World.setCell (World.setCell (World.setCell wr ⟨b,off+j*5,none⟩ (.int .i64 m)) ⟨b,off+j*5+1,none⟩ (.int .i64 (m+1))) ⟨b,off+j*5+2,none⟩ (.int .i64 (m+1+1))) (.sl n (L++(.v (.int .i64 m))::(.v (.int .i64 (m+1)))::(.v (.int .i64 (m+1+1)))::(.sl x.data.length (x.data.flatMap aT))::(.sl x.aD.length (x.aD.flatMap aC.enc))::R)) bs (.slice (some ⟨b,off,none⟩) n c):=t2
   have g3:T1 (World.setCell (World.setCell (World.setCell wr ⟨b,off+j*5,none⟩ (.int .i64 m)) ⟨b,off+j*5+1,none⟩ (.int .i64 (m+1))) ⟨b,off+j*5+2,none⟩ (.int .i64 (m+1+1))) (.sl n ((L++[.v (.int .i64 m),.v (.int .i64 (m+1)),.v (.int .i64 (m+1+1))])++(.sl x.data.length (x.data.flatMap aT))::(.sl x.aD.length (x.aD.flatMap aC.enc))::R)) bs (.slice (some ⟨b,off,none⟩) n c):=by rw[qF];exact t2
   obtain⟨A3,c3,b3,k3,s3,n3,o3,nb3,back3⟩:=g3.sub v2 (o:=off+j*5+3) rfl (by simp only[qA,qI,qR,hml]<;>omega)
   obtain⟨rfl,rfl⟩:A0_3=A3∧c0_3=c3:=by
    have hh:=k3;rw[fK _ _ _ _ _ (by omega)]at hh;rw[fK _ _ _ _ _ (by omega)]at hh;rw[fK _ _ _ _ _ (by omega)]at hh;rw[y0_3]at hh;simpa using hh
   clear k3;have HB3:=Lib.hid back3;clear back3 g3;clear z0_0 z0_1 z0_2 z0_3
   go_wp2_with fail
   refine(mK x.data (m+1+1+1) _ s3 o3 n3 (by omega) (by omega)).mono ?_;rintro _ W1 ⟨r1,rfl,hr1,q3,f3, -⟩;obtain⟨t3,u3,v3⟩:=HB3.out W1 _ f3 q3;have p1:0≤r1:=by have:=hr1.out;omega
   have l1:r1+(cN (x.aD.flatMap aC.enc):Nat)≤4611686018427387904:=by have:=hr1.out;omega
   rw[qF]at t3
   replace t3:T1 W1 (.sl n (L++(.v (.int .i64 m))::(.v (.int .i64 (m+1)))::(.v (.int .i64 (m+1+1)))::(.sl x.data.length (bQ (x.data.flatMap aT) (m+1+1+1)))::(.sl x.aD.length (x.aD.flatMap aC.enc))::R)) bs (.slice (some ⟨b,off,none⟩) n c):=t3
   have hfz1:∀o,World.frozen? W1 ⟨b,o,none⟩=false:=fun o=>(by obtain⟨_,cur,tt,hrow⟩:=v3.2 b hbm;simp[World.frozen?,hrow])
   have z1_4:T1 W1 (.sl n ((L++[.v (.int .i64 m),.v (.int .i64 (m+1)),.v (.int .i64 (m+1+1)),.sl x.data.length (bQ (x.data.flatMap aT) (m+1+1+1))])++(.sl x.aD.length (x.aD.flatMap aC.enc))::R)) bs (.slice (some ⟨b,off,none⟩) n c):=by rw[qF];exact t3
   obtain⟨A1_4,c1_4,b1_4,y1_4, -⟩:=z1_4.sub v3 (o:=off+j*5+4) rfl (by simp only[qA,qI,qR,hml]<;>omega);have g4:T1 W1 (.sl n ((L++[.v (.int .i64 m),.v (.int .i64 (m+1)),.v (.int .i64 (m+1+1)),.sl x.data.length (bQ (x.data.flatMap aT) (m+1+1+1))])++(.sl x.aD.length (x.aD.flatMap aC.enc))::R)) bs (.slice (some ⟨b,off,none⟩) n c):=by rw[qF];exact t3
   obtain⟨A4,c4,b4,k4,s4,n4,o4,nb4,back4⟩:=g4.sub v3 (o:=off+j*5+4) rfl (by simp only[qA,qI,qR,hml]<;>omega)
   obtain⟨rfl,rfl⟩:A1_4=A4∧c1_4=c4:=by
    have hh:=k4;rw[y1_4]at hh;simpa using hh
   clear k4;have HB4:=Lib.hid back4;clear back4 g4;clear z1_4
   go_wp2_with fail
   refine(AO x.aD (r1) _ s4 o4 n4 (by omega) (by omega)).mono ?_;rintro _ W2 ⟨r2,rfl,hr2,q4,f4, -⟩;obtain⟨t4,u4,v4⟩:=HB4.out W2 _ f4 q4;have p2:0≤r2:=by have:=hr2.out;omega
   have l2:r2+0≤4611686018427387904:=by have:=hr2.out;omega
   rw[qF]at t4
   replace t4:T1 W2 (.sl n (L++(.v (.int .i64 m))::(.v (.int .i64 (m+1)))::(.v (.int .i64 (m+1+1)))::(.sl x.data.length (bQ (x.data.flatMap aT) (m+1+1+1)))::(.sl x.aD.length (bQ (x.aD.flatMap aC.enc) (r1)))::R)) bs (.slice (some ⟨b,off,none⟩) n c):=t4
   go_wp2_with fail
   have hmk:bQ (ay.enc x) m=[.v (.int .i64 m),.v (.int .i64 (m+1)),.v (.int .i64 (m+1+1)),.sl x.data.length (bQ (x.data.flatMap aT) (m+1+1+1)),.sl x.aD.length (bQ (x.aD.flatMap aC.enc) (r1))]:=by
    show bQ [.v (.int .i64 x.kind),.v (.int .i64 x.level),.v (.int .i64 x.value),.sl x.data.length (x.data.flatMap aT),.sl x.aD.length (x.aD.flatMap aC.enc)] m=_;simp only[d9,dN,iM,jX,fV,dD]
    all_goals (have h1:=hr1.out;have h2:=hr2.out;exact(bK (iP (by omega)) (bK (iP (by omega)) (bK (iP (by omega)) (bK (nG (by omega)) (bK (nG (by omega)) rfl))))))
   have hfin:bQ ((xs.take (j+1)).flatMap ay.enc) k++(xs.drop (j+1)).flatMap ay.enc=L++(.v (.int .i64 m))::(.v (.int .i64 (m+1)))::(.v (.int .i64 (m+1+1)))::(.sl x.data.length (bQ (x.data.flatMap aT) (m+1+1+1)))::(.sl x.aD.length (bQ (x.aD.flatMap aC.enc) (r1)))::R:=by
    rw[hsn.out,bG,HL.out,←hm.out,hmk,qF,HR.out];rfl
   exact⟨⟨j+1,r2,by omega,by go_num,by first|rfl|go_num,Lib.hid (by rw[hsn.out,aQ];have h1:=hr1.out;have h2:=hr2.out;have h8:=hcx.out;have h9:=hm.out;omega),by omega,by rw[hfin];exact t4,(((((hon).trans u0).trans u1).trans u2).trans u3).trans u4,v4⟩,by simp[intOf];omega⟩
  ·have:j=n:=by omega
   subst this
   go_wp2_with fail
   go_ret;have hl:=Hn.out;rw[qN (by omega),List.drop_of_length_le (by omega)]at ht;have hm':=hm.out;rw[qN (by omega)]at hm';exact⟨m,rfl,hm',by simpa using ht,hon,hw⟩
theorem mG(xs:List ay)(k r:Int)(n:Nat){A:Option Addr}{c:Nat}{bs:List Nat}(w:World)(hx:T1 w (.sl n (bQ (xs.flatMap ay.enc) k)) bs (.slice A n c))(Hn:Hid (xs.length=n))(hk0:0≤k)(hk1:r≤4611686018427387904)(Hr:Hid (r=k+(cN (xs.flatMap ay.enc):Nat))):Calls Tryz.prog 71 #[.slice A n c,.int .i64 k] w fun e w'=>e=.returned (.int .i64 (r))∧Ext w w':=by
 refine aM fun e=> ?_
 have hn:=hx.nJ
 go_enter Tryz.func71,Tryz.ntmps71
 go_wp2_with fail
 repeat (refine ak _ (by kernel_rfl) (by kernel_rfl) ?_;(repeat (go_big_quiet_step (fail)));refine wpQuiet_nil ?_;intro e;go_wp2_with fail)
 go_loopw [1,5] (fun l i w'=>∃(j:Nat) (m:Int),j≤n∧i=.int .i64 j∧l=.int .i64 m∧Hid (m=k+(cN ((xs.take j).flatMap ay.enc):Nat))∧0≤m∧∃e:aK w,w'=e.to) (fun _ i _=>n-(intOf i).toNat)
 case atStart=>exact⟨0,k,Nat.zero_le _,rfl,rfl,Lib.hid (by simp[aZ]),hk0,_,rfl⟩
 case round=>
  obtain⟨j,m,hj,rfl,rfl,hm,hm0,e,rfl⟩:=hrel
  by_cases hlt:j<n
  ·obtain⟨x,hxk,hsp,hll,hsn, -⟩:=dM ay.enc 5 ay.aR Hn hlt;have hcx:Hid (cN (ay.enc x)=1+1+1+cN (x.data.flatMap aT)+cN (x.aD.flatMap aC.enc)):=by show cN [.v (.int .i64 x.kind),.v (.int .i64 x.level),.v (.int .i64 x.value),.sl x.data.length (x.data.flatMap aT),.sl x.aD.length (x.aD.flatMap aC.enc)]=_;simp only[aY,fV,dD,aZ]<;>omega
   have hbd:m+1+1+1+(cN (x.data.flatMap aT):Nat)+(cN (x.aD.flatMap aC.enc):Nat)≤4611686018427387904:=by
    have h1:=hm.out;have h2:=Hr.out;have h3:=hcx.out
    have h5:cN (xs.flatMap ay.enc)=cN ((xs.take j).flatMap ay.enc)+(cN (ay.enc x)+cN ((xs.drop (j+1)).flatMap ay.enc)):=by rw[hsp.out,aQ,aQ]
    omega
   obtain⟨r1,hr1⟩:∃q:Int,q=m+1+1+1+((cN (x.data.flatMap aT):Nat):Int):=⟨_,rfl⟩;obtain⟨r2,hr2⟩:∃q:Int,q=r1+((cN (x.aD.flatMap aC.enc):Nat):Int):=⟨_,rfl⟩
   have hmk:bQ (ay.enc x) m=[.v (.int .i64 (m)),.v (.int .i64 (m+1)),.v (.int .i64 (m+1+1)),.sl x.data.length (bQ (x.data.flatMap aT) (m+1+1+1)),.sl x.aD.length (bQ (x.aD.flatMap aC.enc) (r1))]:=by
    show bQ [.v (.int .i64 x.kind),.v (.int .i64 x.level),.v (.int .i64 x.value),.sl x.data.length (x.data.flatMap aT),.sl x.aD.length (x.aD.flatMap aC.enc)] m=_;simp only[d9,dN,iM,jX,fV,dD]
    all_goals (exact(bK (iP (by omega)) (bK (iP (by omega)) (bK (iP (by omega)) (bK (nG (by omega)) (bK (nG (by omega)) rfl))))))
   have hxx:=hx;rw[hsp.out,bG,bG,←hm.out,hmk]at hxx;have hml:(bQ ((xs.take j).flatMap ay.enc) k).length=j*5:=by rw[iy,hll]
   generalize hL:bQ ((xs.take j).flatMap ay.enc) k=L at hxx hml;clear hL hll hmk;generalize hR:bQ ((xs.drop (j+1)).flatMap ay.enc) (m+(cN (ay.enc x):Nat))=R at hxx;clear hR
   replace hxx:T1 w (.sl n (L++(.v (.int .i64 (m)))::(.v (.int .i64 (m+1)))::(.v (.int .i64 (m+1+1)))::(.sl x.data.length (bQ (x.data.flatMap aT) (m+1+1+1)))::(.sl x.aD.length (bQ (x.aD.flatMap aC.enc) (r1)))::R)) bs (.slice A n c):=hxx
   obtain⟨b,off,rfl⟩:=hxx.FP;have z0:T1 w (.sl n (L++(.v (.int .i64 (m)))::(.v (.int .i64 (m+1)))::(.v (.int .i64 (m+1+1)))::(.sl x.data.length (bQ (x.data.flatMap aT) (m+1+1+1)))::(.sl x.aD.length (bQ (x.aD.flatMap aC.enc) (r1)))::R)) bs (.slice (some ⟨b,off,none⟩) n c):=by exact hxx
   have y0:=z0.pU (o:=off+j*5) rfl (by simp only[qA,qI,qR,hml]<;>omega);have z1:T1 w (.sl n ((L++[.v (.int .i64 (m))])++(.v (.int .i64 (m+1)))::(.v (.int .i64 (m+1+1)))::(.sl x.data.length (bQ (x.data.flatMap aT) (m+1+1+1)))::(.sl x.aD.length (bQ (x.aD.flatMap aC.enc) (r1)))::R)) bs (.slice (some ⟨b,off,none⟩) n c):=by rw[qF];exact hxx
   have y1:=z1.pU (o:=off+j*5+1) rfl (by simp only[qA,qI,qR,hml]<;>omega);have z2:T1 w (.sl n ((L++[.v (.int .i64 (m)),.v (.int .i64 (m+1))])++(.v (.int .i64 (m+1+1)))::(.sl x.data.length (bQ (x.data.flatMap aT) (m+1+1+1)))::(.sl x.aD.length (bQ (x.aD.flatMap aC.enc) (r1)))::R)) bs (.slice (some ⟨b,off,none⟩) n c):=by rw[qF];exact hxx
   have y2:=z2.pU (o:=off+j*5+2) rfl (by simp only[qA,qI,qR,hml]<;>omega);have z3:T1 w (.sl n ((L++[.v (.int .i64 (m)),.v (.int .i64 (m+1)),.v (.int .i64 (m+1+1))])++(.sl x.data.length (bQ (x.data.flatMap aT) (m+1+1+1)))::(.sl x.aD.length (bQ (x.aD.flatMap aC.enc) (r1)))::R)) bs (.slice (some ⟨b,off,none⟩) n c):=by rw[qF];exact hxx
   obtain⟨A3,c3,b3,y3,s3,n3⟩:=z3.KO (o:=off+j*5+3) rfl (by simp only[qA,qI,qR,hml]<;>omega);have z4:T1 w (.sl n ((L++[.v (.int .i64 (m)),.v (.int .i64 (m+1)),.v (.int .i64 (m+1+1)),.sl x.data.length (bQ (x.data.flatMap aT) (m+1+1+1))])++(.sl x.aD.length (bQ (x.aD.flatMap aC.enc) (r1)))::R)) bs (.slice (some ⟨b,off,none⟩) n c):=by rw[qF];exact hxx
   obtain⟨A4,c4,b4,y4,s4,n4⟩:=z4.KO (o:=off+j*5+4) rfl (by simp only[qA,qI,qR,hml]<;>omega);clear hxx z0 z1 z2 z3 z4;have p1:0≤r1:=by omega
   have l1:r1≤4611686018427387904:=by omega
   have ll1:r1+(cN (x.aD.flatMap aC.enc):Nat)≤4611686018427387904:=by omega
   have Hr1:Hid (r1=m+1+1+1+((cN (x.data.flatMap aT):Nat):Int)):=hr1;have C1:Hid (QC Tryz.prog w _ _ _):=fun W hW=>rA x.data (m+1+1+1) r1 x.data.length W (s3.below hW) dI (by omega) l1 Hr1
   have p2:0≤r2:=by omega
   have l2:r2≤4611686018427387904:=by omega
   have Hr2:Hid (r2=r1+((cN (x.aD.flatMap aC.enc):Nat):Int)):=hr2;have C2:Hid (QC Tryz.prog w _ _ _):=fun W hW=>Az x.aD (r1) r2 x.aD.length W (s4.below hW) dI (by omega) l2 Hr2
   clear hr1 hr2
   go_wp2_with (first|(go_at_call 41;with_reducible refine(C1.out.at_ _).mono ?_;rintro _ _ ⟨rfl,e,rfl⟩)|(go_at_call 84;with_reducible refine(C2.out.at_ _).mono ?_;rintro _ _ ⟨rfl,e,rfl⟩))
   repeat (refine ak _ (by kernel_rfl) (by kernel_rfl) ?_;(repeat (go_big_quiet_step ((first|with_reducible exact C1.out.at_ _|with_reducible exact C2.out.at_ _))));refine wpQuiet_nil ?_;intro e;go_wp2_with (first|(go_at_call 41;with_reducible refine(C1.out.at_ _).mono ?_;rintro _ _ ⟨rfl,e,rfl⟩)|(go_at_call 84;with_reducible refine(C2.out.at_ _).mono ?_;rintro _ _ ⟨rfl,e,rfl⟩)))
   exact⟨⟨j+1,r2,by omega,by go_num,by first|rfl|go_num,Lib.hid (by rw[hsn.out,aQ];have h1:=Hr1.out;have h2:=Hr2.out;have h8:=hcx.out;have h9:=hm.out;omega),by omega,_,rfl⟩,by simp[intOf];omega⟩
  ·have:j=n:=by omega
   subst this
   have E:Hid (r=m):=by
    have h1:=hm.out;have h2:=Hr.out;have h3:=Hn.out
    rw[qN (by omega)]at h1;show _=_;omega
   go_wp2_with fail
   repeat (refine ak _ (by kernel_rfl) (by kernel_rfl) ?_;(repeat (go_big_quiet_step (fail)));refine wpQuiet_nil ?_;intro e;go_wp2_with fail)
   go_ret;exact⟨by rw[E.out];rfl,_,rfl⟩
theorem xR(x:aG)(k:Int){bs us}{lo:Nat}(w:World)(hx:TN w x.enc bs us)(ho:Own lo w bs)(hk0:0≤k)(hk1:k+(x.cnt:Nat)≤4611686018427387904):
  Calls Tryz.prog 16 #[.agg us.toArray,.int .i64 k] w fun e w'=>∃r:Int,e=.returned (.int .i64 r)∧Hid (r=k+(x.cnt:Nat))∧TN w' (x.zJ k) bs us∧iZ bs w w'∧Own lo w' bs:=by
 have hlt:=hx.lt;obtain⟨A0,c0,b0,rfl,rfl,t0,l0,m0⟩:=aG.us hx;have o0:=ho;have g0:w.heap.size∉bs:=fun hm=>by have:=hlt _ (show w.heap.size∈bs by simp[hm]);omega
 have B0:∀S,Below w.heap.size w (w.alloc S):=fun _=>(Below.refl _ _).alloc (Nat.le_refl _) _
 have hcn:x.cnt=cN (x.agents.flatMap ay.enc):=rfl;rw[hcn]at hk1;clear hcn hx
 go_enter Tryz.func16,Tryz.ntmps16
 go_wp2_with fail
 refine(mJ x.agents k _ (t0.below (B0 _)) (o0.below (B0 _)) (Nat.le_trans l0 m0) (by omega) (by omega)).mono ?_;rintro _ w1 ⟨r1,rfl,hr1,S0,f1,V0⟩;have p1:0≤r1:=by have:=hr1.out;omega
 have b1_:r1+0≤4611686018427387904:=by have:=hr1.out;omega
 have u1:=(f1.other w.heap.size (by simp) g0).trans (heap_alloc_new w _);have z1:w.heap.size<w1.heap.size:=by have:=f1.size;simp at this;omega
 have F1:iZ (bs) w w1:=iZ.trans (iZ.rP (B0 _)) (f1.sub (fun y hy=>by first|exact hy|(simp at hy ⊢;grind)));have q1_0:=cell_of_row _ _ 0 _ _ _ u1;simp only[List.getElem?_toArray,List.getElem?_cons_zero,List.getElem?_cons_succ]at q1_0
 go_wp2_with fail
 go_ret;refine⟨r1,rfl,?_,?_,F1,ho.bR F1⟩
 ·show _=_;have hcn:x.cnt=cN (x.agents.flatMap ay.enc):=rfl;have h1:=hr1.out;omega
 ·have h1:=hr1.out;skip;have h:=(TN.jB S0 TN.done);simp only[qS,List.nil_append,qF,List.cons_append]at h;unfold aG.zJ;simpa only[qS,List.nil_append,qF,List.cons_append]using h
theorem Ee(x:aG)(k r:Int){bs us}(w:World)(hx:TN w (x.zJ k) bs us)(hk0:0≤k)(hk1:r≤4611686018427387904)(Hr:Hid (r=k+(x.cnt:Nat))):Calls Tryz.prog 42 #[.agg us.toArray,.int .i64 k] w fun e w'=>e=.returned (.int .i64 (r))∧Ext w w':=by
 refine aM fun e=> ?_
 unfold aG.zJ at hx;have x1:=hx;clear hx;obtain⟨A0,c0,b0,r0_,U_1,rfl,rfl,t0,l0,m0,x1_⟩:=TN.eF x1;obtain⟨rfl,rfl⟩:=TN.end_ x1_;clear x1_ x1;obtain⟨r1,hr1⟩:∃q:Int,q=k+((cN (x.agents.flatMap ay.enc):Nat):Int):=⟨_,rfl⟩;have hcn:x.cnt=cN (x.agents.flatMap ay.enc):=rfl;have hE:r1=r:=by have h1:=Hr.out;omega
 have E:=Lib.hid hE;have p1:0≤r1:=by omega
 have q1:r1≤4611686018427387904:=by have h1:=Hr.out;omega
 have Hr1:Hid (r1=k+((cN (x.agents.flatMap ay.enc):Nat):Int)):=hr1;clear hcn hE Hr hr1
 go_enter Tryz.func42,Tryz.ntmps42
 go_upto_region 1 with(fail)
 generalize hgg:e.to.heap.size=g;refine dQ e hgg (fun w1 e hx1 hgeg hltg cg=> ?_);clear hgg
 replace t0:=t0.below hx1
 simp only[List.cons_append,List.nil_append,qS]at cg;have y0:=cg.always hltg 0 _ rfl;simp only[Nat.zero_add]at y0;clear cg;have C1:Hid (QC Tryz.prog w1 _ _ _):=fun W hW=>mG x.agents (k) r1 x.agents.length W (t0.below hW) dI (by omega) q1 Hr1
 go_wp2_with (first|(go_at_call 71;with_reducible refine(C1.out.at_ _).mono ?_;rintro _ _ ⟨rfl,e,rfl⟩))
 repeat (refine ak _ (by kernel_rfl) (by kernel_rfl) ?_;(repeat (go_big_quiet_step ((first|with_reducible exact C1.out.at_ _))));refine wpQuiet_nil ?_;intro e;go_wp2_with (first|(go_at_call 71;with_reducible refine(C1.out.at_ _).mono ?_;rintro _ _ ⟨rfl,e,rfl⟩)))
 go_ret;exact⟨by rw[←E.out];rfl,aK.old hx1 e⟩
theorem vN(xs:List aG)(k:Int){A:Option Addr}{c lo:Nat}{bs}(w:World)(hx:T1 w (.sl xs.length (xs.flatMap aG.enc)) bs (.slice A xs.length c))(ho:Own lo w bs)(hn':xs.length≤maxLen)(hk0:0≤k)(hk1:k+(cN (xs.flatMap aG.enc):Nat)≤4611686018427387904):
  Calls Tryz.prog 15 #[.slice A xs.length c,.int .i64 k] w fun e w'=>∃r:Int,e=.returned (.int .i64 r)∧Hid (r=k+(cN (xs.flatMap aG.enc):Nat))∧T1 w' (.sl xs.length (bQ (xs.flatMap aG.enc) k)) bs (.slice A xs.length c)∧iZ bs w w'∧Own lo w' bs:=by
 unfold maxLen at hn';obtain⟨n,hn⟩:∃n,xs.length=n:=⟨_,rfl⟩;rw[hn]at hx hn' ⊢;have Hn:Hid (xs.length=n):=hn;clear hn;have hkk:=Lib.hid hk1;clear hk1
 go_enter Tryz.func15,Tryz.ntmps15
 go_wp2_with fail
 go_loopw [1,5] (fun l i w'=>∃(j:Nat) (m:Int),j≤n∧i=.int .i64 j∧l=.int .i64 m∧Hid (m=k+(cN ((xs.take j).flatMap aG.enc):Nat))∧0≤m∧T1 w' (.sl n (bQ ((xs.take j).flatMap aG.enc) k++(xs.drop j).flatMap aG.enc)) bs (.slice A n c)∧iZ bs w w'∧Own lo w' bs) (fun _ i _=>n-(intOf i).toNat)
 case atStart=>exact⟨0,k,Nat.zero_le _,rfl,rfl,Lib.hid (by simp[aZ]),hk0,by simpa[dN]using hx,iZ.refl _ _,ho⟩
 case round=>
  obtain⟨j,m,hj,rfl,rfl,hm,hm0,ht,hon,hw⟩:=hrel
  by_cases hlt:j<n
  ·obtain⟨x,hxk,hsp,hll,hsn,hdr⟩:=dM aG.enc 1 aG.aR Hn hlt;rw[hdr.out,qU]at ht;have hml:(bQ ((xs.take j).flatMap aG.enc) k).length=j*1:=by rw[iy,hll]
   generalize hL:bQ ((xs.take j).flatMap aG.enc) k=L at ht hml;have HL:=Lib.hid hL;clear hL hll;have hcx:Hid (cN (aG.enc x)=cN (x.agents.flatMap ay.enc)):=by show cN [.sl x.agents.length (x.agents.flatMap ay.enc)]=_;simp only[aY,fV,dD,aZ]<;>omega
   have hbd:m+(cN (x.agents.flatMap ay.enc):Nat)≤4611686018427387904:=by
    have h1:=hm.out;have h2:=hkk.out;have h3:=hcx.out
    have h4:=hsp.out;have h5:cN (xs.flatMap aG.enc)=cN ((xs.take j).flatMap aG.enc)+(cN (aG.enc x)+cN ((xs.drop (j+1)).flatMap aG.enc)):=by rw[h4,aQ,aQ]
    omega
   replace ht:T1 wr (.sl n (L++(.sl x.agents.length (x.agents.flatMap ay.enc))::(xs.drop (j+1)).flatMap aG.enc)) bs (.slice A n c):=ht
   generalize hR:(xs.drop (j+1)).flatMap aG.enc=R at ht;have HR:=Lib.hid hR;clear hR;obtain⟨b,off,rfl, -,hbm,hbl,hblo,hfz⟩:=ht.row hw;have z0_0:T1 wr (.sl n (L++(.sl x.agents.length (x.agents.flatMap ay.enc))::R)) bs (.slice (some ⟨b,off,none⟩) n c):=by exact ht
   obtain⟨A0_0,c0_0,b0_0,y0_0, -⟩:=z0_0.sub hw (o:=off+j) rfl (by simp only[qA,qI,qR,hml]<;>omega);have g0:=ht;obtain⟨A0,c0,b0,k0,s0,n0,o0,nb0,back0⟩:=g0.sub hw (o:=off+j) rfl (by simp only[qA,qI,qR,hml]<;>omega)
   obtain⟨rfl,rfl⟩:A0_0=A0∧c0_0=c0:=by
    have hh:=k0;rw[y0_0]at hh;simpa using hh
   clear k0;have HB0:=Lib.hid back0;clear back0 g0;clear z0_0
   go_wp2_with fail
   refine(mJ x.agents (m) _ s0 o0 n0 (by omega) (by omega)).mono ?_;rintro _ W1 ⟨r1,rfl,hr1,q0,f0, -⟩;obtain⟨t0,u0,v0⟩:=HB0.out W1 _ f0 q0;have p1:0≤r1:=by have:=hr1.out;omega
   have l1:r1+0≤4611686018427387904:=by have:=hr1.out;omega
   replace t0:T1 W1 (.sl n (L++(.sl x.agents.length (bQ (x.agents.flatMap ay.enc) (m)))::R)) bs (.slice (some ⟨b,off,none⟩) n c):=t0
   go_wp2_with fail
   have hmk:bQ (aG.enc x) m=[.sl x.agents.length (bQ (x.agents.flatMap ay.enc) (m))]:=by
    show bQ [.sl x.agents.length (x.agents.flatMap ay.enc)] m=_;simp only[d9,dN,iM,jX,fV,dD]
    all_goals (have h1:=hr1.out;exact(bK (nG (by omega)) rfl))
   have hfin:bQ ((xs.take (j+1)).flatMap aG.enc) k++(xs.drop (j+1)).flatMap aG.enc=L++(.sl x.agents.length (bQ (x.agents.flatMap ay.enc) (m)))::R:=by
    rw[hsn.out,bG,HL.out,←hm.out,hmk,qF,HR.out];rfl
   exact⟨⟨j+1,r1,by omega,by go_num,by first|rfl|go_num,Lib.hid (by rw[hsn.out,aQ];have h1:=hr1.out;have h8:=hcx.out;have h9:=hm.out;omega),by omega,by rw[hfin];exact t0,(hon).trans u0,v0⟩,by simp[intOf];omega⟩
  ·have:j=n:=by omega
   subst this
   go_wp2_with fail
   go_ret;have hl:=Hn.out;rw[qN (by omega),List.drop_of_length_le (by omega)]at ht;have hm':=hm.out;rw[qN (by omega)]at hm';exact⟨m,rfl,hm',by simpa using ht,hon,hw⟩
theorem Cv(xs:List aG)(k r:Int)(n:Nat){A:Option Addr}{c:Nat}{bs:List Nat}(w:World)(hx:T1 w (.sl n (bQ (xs.flatMap aG.enc) k)) bs (.slice A n c))(Hn:Hid (xs.length=n))(hk0:0≤k)(hk1:r≤4611686018427387904)(Hr:Hid (r=k+(cN (xs.flatMap aG.enc):Nat))):Calls Tryz.prog 40 #[.slice A n c,.int .i64 k] w fun e w'=>e=.returned (.int .i64 (r))∧Ext w w':=by
 refine aM fun e=> ?_
 have hn:=hx.nJ
 go_enter Tryz.func40,Tryz.ntmps40
 go_wp2_with fail
 repeat (refine ak _ (by kernel_rfl) (by kernel_rfl) ?_;(repeat (go_big_quiet_step (fail)));refine wpQuiet_nil ?_;intro e;go_wp2_with fail)
 go_loopw [1,5] (fun l i w'=>∃(j:Nat) (m:Int),j≤n∧i=.int .i64 j∧l=.int .i64 m∧Hid (m=k+(cN ((xs.take j).flatMap aG.enc):Nat))∧0≤m∧∃e:aK w,w'=e.to) (fun _ i _=>n-(intOf i).toNat)
 case atStart=>exact⟨0,k,Nat.zero_le _,rfl,rfl,Lib.hid (by simp[aZ]),hk0,_,rfl⟩
 case round=>
  obtain⟨j,m,hj,rfl,rfl,hm,hm0,e,rfl⟩:=hrel
  by_cases hlt:j<n
  ·obtain⟨x,hxk,hsp,hll,hsn, -⟩:=dM aG.enc 1 aG.aR Hn hlt;have hcx:Hid (cN (aG.enc x)=cN (x.agents.flatMap ay.enc)):=by show cN [.sl x.agents.length (x.agents.flatMap ay.enc)]=_;simp only[aY,fV,dD,aZ]<;>omega
   have hbd:m+(cN (x.agents.flatMap ay.enc):Nat)≤4611686018427387904:=by
    have h1:=hm.out;have h2:=Hr.out;have h3:=hcx.out
    have h5:cN (xs.flatMap aG.enc)=cN ((xs.take j).flatMap aG.enc)+(cN (aG.enc x)+cN ((xs.drop (j+1)).flatMap aG.enc)):=by rw[hsp.out,aQ,aQ]
    omega
   obtain⟨r1,hr1⟩:∃q:Int,q=m+((cN (x.agents.flatMap ay.enc):Nat):Int):=⟨_,rfl⟩
   have hmk:bQ (aG.enc x) m=[.sl x.agents.length (bQ (x.agents.flatMap ay.enc) (m))]:=by
    show bQ [.sl x.agents.length (x.agents.flatMap ay.enc)] m=_;simp only[d9,dN,iM,jX,fV,dD]
    all_goals (exact(bK (nG (by omega)) rfl))
   have hxx:=hx;rw[hsp.out,bG,bG,←hm.out,hmk]at hxx;have hml:(bQ ((xs.take j).flatMap aG.enc) k).length=j*1:=by rw[iy,hll]
   generalize hL:bQ ((xs.take j).flatMap aG.enc) k=L at hxx hml;clear hL hll hmk;generalize hR:bQ ((xs.drop (j+1)).flatMap aG.enc) (m+(cN (aG.enc x):Nat))=R at hxx;clear hR
   replace hxx:T1 w (.sl n (L++(.sl x.agents.length (bQ (x.agents.flatMap ay.enc) (m)))::R)) bs (.slice A n c):=hxx
   obtain⟨b,off,rfl⟩:=hxx.FP;have z0:T1 w (.sl n (L++(.sl x.agents.length (bQ (x.agents.flatMap ay.enc) (m)))::R)) bs (.slice (some ⟨b,off,none⟩) n c):=by exact hxx
   obtain⟨A0,c0,b0,y0,s0,n0⟩:=z0.KO (o:=off+j) rfl (by simp only[qA,qI,qR,hml]<;>omega);clear hxx z0;have p1:0≤r1:=by omega
   have l1:r1≤4611686018427387904:=by omega
   have Hr1:Hid (r1=m+((cN (x.agents.flatMap ay.enc):Nat):Int)):=hr1;have C1:Hid (QC Tryz.prog w _ _ _):=fun W hW=>mG x.agents (m) r1 x.agents.length W (s0.below hW) dI (by omega) l1 Hr1
   clear hr1
   go_wp2_with (first|(go_at_call 71;with_reducible refine(C1.out.at_ _).mono ?_;rintro _ _ ⟨rfl,e,rfl⟩))
   repeat (refine ak _ (by kernel_rfl) (by kernel_rfl) ?_;(repeat (go_big_quiet_step ((first|with_reducible exact C1.out.at_ _))));refine wpQuiet_nil ?_;intro e;go_wp2_with (first|(go_at_call 71;with_reducible refine(C1.out.at_ _).mono ?_;rintro _ _ ⟨rfl,e,rfl⟩)))
   exact⟨⟨j+1,r1,by omega,by go_num,by first|rfl|go_num,Lib.hid (by rw[hsn.out,aQ];have h1:=Hr1.out;have h8:=hcx.out;have h9:=hm.out;omega),by omega,_,rfl⟩,by simp[intOf];omega⟩
  ·have:j=n:=by omega
   subst this
   have E:Hid (r=m):=by
    have h1:=hm.out;have h2:=Hr.out;have h3:=Hn.out
    rw[qN (by omega)]at h1;show _=_;omega
   go_wp2_with fail
   repeat (refine ak _ (by kernel_rfl) (by kernel_rfl) ?_;(repeat (go_big_quiet_step (fail)));refine wpQuiet_nil ?_;intro e;go_wp2_with fail)
   go_ret;exact⟨by rw[E.out];rfl,_,rfl⟩
theorem pV(xs:List aB)(k:Int){A:Option Addr}{c lo:Nat}{bs}(w:World)(hx:T1 w (.sl xs.length (xs.flatMap aB.enc)) bs (.slice A xs.length c))(ho:Own lo w bs)(hn':xs.length≤maxLen)(hk0:0≤k)(hk1:k+(cN (xs.flatMap aB.enc):Nat)≤4611686018427387904):
  Calls Tryz.prog 37 #[.slice A xs.length c,.int .i64 k] w fun e w'=>∃r:Int,e=.returned (.int .i64 r)∧Hid (r=k+(cN (xs.flatMap aB.enc):Nat))∧T1 w' (.sl xs.length (bQ (xs.flatMap aB.enc) k)) bs (.slice A xs.length c)∧iZ bs w w'∧Own lo w' bs:=by
 unfold maxLen at hn';obtain⟨n,hn⟩:∃n,xs.length=n:=⟨_,rfl⟩;rw[hn]at hx hn' ⊢;have Hn:Hid (xs.length=n):=hn;clear hn;have hkk:=Lib.hid hk1;clear hk1
 go_enter Tryz.func37,Tryz.ntmps37
 go_wp2_with fail
 go_loopw [1,5] (fun l i w'=>∃(j:Nat) (m:Int),j≤n∧i=.int .i64 j∧l=.int .i64 m∧Hid (m=k+(cN ((xs.take j).flatMap aB.enc):Nat))∧0≤m∧T1 w' (.sl n (bQ ((xs.take j).flatMap aB.enc) k++(xs.drop j).flatMap aB.enc)) bs (.slice A n c)∧iZ bs w w'∧Own lo w' bs) (fun _ i _=>n-(intOf i).toNat)
 case atStart=>exact⟨0,k,Nat.zero_le _,rfl,rfl,Lib.hid (by simp[aZ]),hk0,by simpa[dN]using hx,iZ.refl _ _,ho⟩
 case round=>
  obtain⟨j,m,hj,rfl,rfl,hm,hm0,ht,hon,hw⟩:=hrel
  by_cases hlt:j<n
  ·obtain⟨x,hxk,hsp,hll,hsn,hdr⟩:=dM aB.enc 3 aB.aR Hn hlt;rw[hdr.out,qU]at ht;have hml:(bQ ((xs.take j).flatMap aB.enc) k).length=j*3:=by rw[iy,hll]
   generalize hL:bQ ((xs.take j).flatMap aB.enc) k=L at ht hml;have HL:=Lib.hid hL;clear hL hll;have hcx:Hid (cN (aB.enc x)=1+1+1):=by show cN [.v (.int .i64 x.step),.v (.int .i64 x.def_),.v (.int .i64 x.source)]=_;simp only[aY,fV,dD,aZ]<;>omega
   have hbd:m+1+1+1≤4611686018427387904:=by
    have h1:=hm.out;have h2:=hkk.out;have h3:=hcx.out
    have h4:=hsp.out;have h5:cN (xs.flatMap aB.enc)=cN ((xs.take j).flatMap aB.enc)+(cN (aB.enc x)+cN ((xs.drop (j+1)).flatMap aB.enc)):=by rw[h4,aQ,aQ]
    omega
   replace ht:T1 wr (.sl n (L++(.v (.int .i64 x.step))::(.v (.int .i64 x.def_))::(.v (.int .i64 x.source))::(xs.drop (j+1)).flatMap aB.enc)) bs (.slice A n c):=ht
   generalize hR:(xs.drop (j+1)).flatMap aB.enc=R at ht;have HR:=Lib.hid hR;clear hR;obtain⟨b,off,rfl, -,hbm,hbl,hblo,hfz⟩:=ht.row hw;have z0_0:T1 wr (.sl n (L++(.v (.int .i64 x.step))::(.v (.int .i64 x.def_))::(.v (.int .i64 x.source))::R)) bs (.slice (some ⟨b,off,none⟩) n c):=by exact ht
   have y0_0:=(z0_0.leaf hw (o:=off+j*3) rfl (by simp only[qA,qI,qR,hml]<;>omega)).1;have z0_1:T1 wr (.sl n ((L++[.v (.int .i64 x.step)])++(.v (.int .i64 x.def_))::(.v (.int .i64 x.source))::R)) bs (.slice (some ⟨b,off,none⟩) n c):=by rw[qF];exact ht
   have y0_1:=(z0_1.leaf hw (o:=off+j*3+1) rfl (by simp only[qA,qI,qR,hml]<;>omega)).1;have z0_2:T1 wr (.sl n ((L++[.v (.int .i64 x.step),.v (.int .i64 x.def_)])++(.v (.int .i64 x.source))::R)) bs (.slice (some ⟨b,off,none⟩) n c):=by rw[qF];exact ht
   have y0_2:=(z0_2.leaf hw (o:=off+j*3+2) rfl (by simp only[qA,qI,qR,hml]<;>omega)).1;obtain⟨t0,u0,v0⟩:=(ht.leaf hw (o:=off+j*3) rfl (by simp only[qA,qI,qR,hml]<;>omega)).2 (.int .i64 m) rfl
   replace t0:T1 (World.setCell wr ⟨b,off+j*3,none⟩ (.int .i64 m)) (.sl n (L++(.v (.int .i64 m))::(.v (.int .i64 x.def_))::(.v (.int .i64 x.source))::R)) bs (.slice (some ⟨b,off,none⟩) n c):=t0
   replace t0:T1 (World.setCell wr ⟨b,off+j*3,none⟩ (.int .i64 m)) (.sl n ((L++[.v (.int .i64 m)])++(.v (.int .i64 x.def_))::(.v (.int .i64 x.source))::R)) bs (.slice (some ⟨b,off,none⟩) n c):=by rw[qF];exact t0
   obtain⟨t1,u1,v1⟩:=(t0.leaf v0 (o:=off+j*3+1) rfl (by simp only[qA,qI,qR,hml]<;>omega)).2 (.int .i64 (m+1)) rfl;rw[qF]at t1
   replace t1:T1 (World.setCell (World.setCell wr ⟨b,off+j*3,none⟩ (.int .i64 m)) ⟨b,off+j*3+1,none⟩ (.int .i64 (m+1))) (.sl n (L++(.v (.int .i64 m))::(.v (.int .i64 (m+1)))::(.v (.int .i64 x.source))::R)) bs (.slice (some ⟨b,off,none⟩) n c):=t1
   replace t1:T1 (World.setCell (World.setCell wr ⟨b,off+j*3,none⟩ (.int .i64 m)) ⟨b,off+j*3+1,none⟩ (.int .i64 (m+1))) (.sl n ((L++[.v (.int .i64 m),.v (.int .i64 (m+1))])++(.v (.int .i64 x.source))::R)) bs (.slice (some ⟨b,off,none⟩) n c):=by rw[qF];exact t1
   obtain⟨t2,u2,v2⟩:=(t1.leaf v1 (o:=off+j*3+2) rfl (by simp only[qA,qI,qR,hml]<;>omega)).2 (.int .i64 (m+1+1)) rfl;rw[qF]at t2
   replace t2:T1 (World.setCell (World.setCell (World.setCell wr ⟨b,off+j*3,none⟩ (.int .i64 m)) ⟨b,off+j*3+1,none⟩ (.int .i64 (m+1))) ⟨b,off+j*3+2,none⟩ (.int .i64 (m+1+1))) (.sl n (L++(.v (.int .i64 m))::(.v (.int .i64 (m+1)))::(.v (.int .i64 (m+1+1)))::R)) bs (.slice (some ⟨b,off,none⟩) n c):=t2
   clear z0_0 z0_1 z0_2
   go_wp2_with fail
   have hmk:bQ (aB.enc x) m=[.v (.int .i64 m),.v (.int .i64 (m+1)),.v (.int .i64 (m+1+1))]:=by
    show bQ [.v (.int .i64 x.step),.v (.int .i64 x.def_),.v (.int .i64 x.source)] m=_;simp only[d9,dN,iM,jX,fV,dD]
    all_goals (exact(bK (iP (by omega)) (bK (iP (by omega)) (bK (iP (by omega)) rfl))))
   have hfin:bQ ((xs.take (j+1)).flatMap aB.enc) k++(xs.drop (j+1)).flatMap aB.enc=L++(.v (.int .i64 m))::(.v (.int .i64 (m+1)))::(.v (.int .i64 (m+1+1)))::R:=by
    rw[hsn.out,bG,HL.out,←hm.out,hmk,qF,HR.out];rfl
   exact⟨⟨j+1,m+1+1+1,by omega,by go_num,by first|rfl|go_num,Lib.hid (by rw[hsn.out,aQ];have h8:=hcx.out;have h9:=hm.out;omega),by omega,by rw[hfin];exact t2,(((hon).trans u0).trans u1).trans u2,v2⟩,by simp[intOf];omega⟩
  ·have:j=n:=by omega
   subst this
   go_wp2_with fail
   go_ret;have hl:=Hn.out;rw[qN (by omega),List.drop_of_length_le (by omega)]at ht;have hm':=hm.out;rw[qN (by omega)]at hm';exact⟨m,rfl,hm',by simpa using ht,hon,hw⟩
theorem pQ(xs:List aB)(k r:Int)(n:Nat){A:Option Addr}{c:Nat}{bs:List Nat}(w:World)(hx:T1 w (.sl n (bQ (xs.flatMap aB.enc) k)) bs (.slice A n c))(Hn:Hid (xs.length=n))(hk0:0≤k)(hk1:r≤4611686018427387904)(Hr:Hid (r=k+(cN (xs.flatMap aB.enc):Nat))):Calls Tryz.prog 43 #[.slice A n c,.int .i64 k] w fun e w'=>e=.returned (.int .i64 (r))∧Ext w w':=by
 refine aM fun e=> ?_
 have hn:=hx.nJ
 go_enter Tryz.func43,Tryz.ntmps43
 go_wp2_with fail
 repeat (refine ak _ (by kernel_rfl) (by kernel_rfl) ?_;(repeat (go_big_quiet_step (fail)));refine wpQuiet_nil ?_;intro e;go_wp2_with fail)
 go_loopw [1,5] (fun l i w'=>∃(j:Nat) (m:Int),j≤n∧i=.int .i64 j∧l=.int .i64 m∧Hid (m=k+(cN ((xs.take j).flatMap aB.enc):Nat))∧0≤m∧∃e:aK w,w'=e.to) (fun _ i _=>n-(intOf i).toNat)
 case atStart=>exact⟨0,k,Nat.zero_le _,rfl,rfl,Lib.hid (by simp[aZ]),hk0,_,rfl⟩
 case round=>
  obtain⟨j,m,hj,rfl,rfl,hm,hm0,e,rfl⟩:=hrel
  by_cases hlt:j<n
  ·obtain⟨x,hxk,hsp,hll,hsn, -⟩:=dM aB.enc 3 aB.aR Hn hlt;have hcx:Hid (cN (aB.enc x)=1+1+1):=by show cN [.v (.int .i64 x.step),.v (.int .i64 x.def_),.v (.int .i64 x.source)]=_;simp only[aY,fV,dD,aZ]<;>omega
   have hbd:m+1+1+1≤4611686018427387904:=by
    have h1:=hm.out;have h2:=Hr.out;have h3:=hcx.out
    have h5:cN (xs.flatMap aB.enc)=cN ((xs.take j).flatMap aB.enc)+(cN (aB.enc x)+cN ((xs.drop (j+1)).flatMap aB.enc)):=by rw[hsp.out,aQ,aQ]
    omega
   have hmk:bQ (aB.enc x) m=[.v (.int .i64 (m)),.v (.int .i64 (m+1)),.v (.int .i64 (m+1+1))]:=by
    show bQ [.v (.int .i64 x.step),.v (.int .i64 x.def_),.v (.int .i64 x.source)] m=_;simp only[d9,dN,iM,jX,fV,dD]
    all_goals (exact(bK (iP (by omega)) (bK (iP (by omega)) (bK (iP (by omega)) rfl))))
   have hxx:=hx;rw[hsp.out,bG,bG,←hm.out,hmk]at hxx;have hml:(bQ ((xs.take j).flatMap aB.enc) k).length=j*3:=by rw[iy,hll]
   generalize hL:bQ ((xs.take j).flatMap aB.enc) k=L at hxx hml;clear hL hll hmk;generalize hR:bQ ((xs.drop (j+1)).flatMap aB.enc) (m+(cN (aB.enc x):Nat))=R at hxx;clear hR
   replace hxx:T1 w (.sl n (L++(.v (.int .i64 (m)))::(.v (.int .i64 (m+1)))::(.v (.int .i64 (m+1+1)))::R)) bs (.slice A n c):=hxx
   obtain⟨b,off,rfl⟩:=hxx.FP;have z0:T1 w (.sl n (L++(.v (.int .i64 (m)))::(.v (.int .i64 (m+1)))::(.v (.int .i64 (m+1+1)))::R)) bs (.slice (some ⟨b,off,none⟩) n c):=by exact hxx
   have y0:=z0.pU (o:=off+j*3) rfl (by simp only[qA,qI,qR,hml]<;>omega);have z1:T1 w (.sl n ((L++[.v (.int .i64 (m))])++(.v (.int .i64 (m+1)))::(.v (.int .i64 (m+1+1)))::R)) bs (.slice (some ⟨b,off,none⟩) n c):=by rw[qF];exact hxx
   have y1:=z1.pU (o:=off+j*3+1) rfl (by simp only[qA,qI,qR,hml]<;>omega);have z2:T1 w (.sl n ((L++[.v (.int .i64 (m)),.v (.int .i64 (m+1))])++(.v (.int .i64 (m+1+1)))::R)) bs (.slice (some ⟨b,off,none⟩) n c):=by rw[qF];exact hxx
   have y2:=z2.pU (o:=off+j*3+2) rfl (by simp only[qA,qI,qR,hml]<;>omega);clear hxx z0 z1 z2
   go_wp2_with fail
   repeat (refine ak _ (by kernel_rfl) (by kernel_rfl) ?_;(repeat (go_big_quiet_step (fail)));refine wpQuiet_nil ?_;intro e;go_wp2_with fail)
   exact⟨⟨j+1,m+1+1+1,by omega,by go_num,by first|rfl|go_num,Lib.hid (by rw[hsn.out,aQ];have h8:=hcx.out;have h9:=hm.out;omega),by omega,_,rfl⟩,by simp[intOf];omega⟩
  ·have:j=n:=by omega
   subst this
   have E:Hid (r=m):=by
    have h1:=hm.out;have h2:=Hr.out;have h3:=Hn.out
    rw[qN (by omega)]at h1;show _=_;omega
   go_wp2_with fail
   repeat (refine ak _ (by kernel_rfl) (by kernel_rfl) ?_;(repeat (go_big_quiet_step (fail)));refine wpQuiet_nil ?_;intro e;go_wp2_with fail)
   go_ret;exact⟨by rw[E.out];rfl,_,rfl⟩
theorem zH(xs:List aH)(k:Int){A:Option Addr}{c lo:Nat}{bs}(w:World)(hx:T1 w (.sl xs.length (xs.flatMap aH.enc)) bs (.slice A xs.length c))(ho:Own lo w bs)(hn':xs.length≤maxLen)(hk0:0≤k)(hk1:k+(cN (xs.flatMap aH.enc):Nat)≤4611686018427387904):
  Calls Tryz.prog 38 #[.slice A xs.length c,.int .i64 k] w fun e w'=>∃r:Int,e=.returned (.int .i64 r)∧Hid (r=k+(cN (xs.flatMap aH.enc):Nat))∧T1 w' (.sl xs.length (bQ (xs.flatMap aH.enc) k)) bs (.slice A xs.length c)∧iZ bs w w'∧Own lo w' bs:=by
 unfold maxLen at hn';obtain⟨n,hn⟩:∃n,xs.length=n:=⟨_,rfl⟩;rw[hn]at hx hn' ⊢;have Hn:Hid (xs.length=n):=hn;clear hn;have hkk:=Lib.hid hk1;clear hk1
 go_enter Tryz.func38,Tryz.ntmps38
 go_wp2_with fail
 go_loopw [1,5] (fun l i w'=>∃(j:Nat) (m:Int),j≤n∧i=.int .i64 j∧l=.int .i64 m∧Hid (m=k+(cN ((xs.take j).flatMap aH.enc):Nat))∧0≤m∧T1 w' (.sl n (bQ ((xs.take j).flatMap aH.enc) k++(xs.drop j).flatMap aH.enc)) bs (.slice A n c)∧iZ bs w w'∧Own lo w' bs) (fun _ i _=>n-(intOf i).toNat)
 case atStart=>exact⟨0,k,Nat.zero_le _,rfl,rfl,Lib.hid (by simp[aZ]),hk0,by simpa[dN]using hx,iZ.refl _ _,ho⟩
 case round=>
  obtain⟨j,m,hj,rfl,rfl,hm,hm0,ht,hon,hw⟩:=hrel
  by_cases hlt:j<n
  ·obtain⟨x,hxk,hsp,hll,hsn,hdr⟩:=dM aH.enc 2 aH.aR Hn hlt;rw[hdr.out,qU]at ht;have hml:(bQ ((xs.take j).flatMap aH.enc) k).length=j*2:=by rw[iy,hll]
   generalize hL:bQ ((xs.take j).flatMap aH.enc) k=L at ht hml;have HL:=Lib.hid hL;clear hL hll;have hcx:Hid (cN (aH.enc x)=1+1):=by show cN [.v (.int .i64 x.kind),.v (.int .i64 x.value)]=_;simp only[aY,fV,dD,aZ]<;>omega
   have hbd:m+1+1≤4611686018427387904:=by
    have h1:=hm.out;have h2:=hkk.out;have h3:=hcx.out
    have h4:=hsp.out;have h5:cN (xs.flatMap aH.enc)=cN ((xs.take j).flatMap aH.enc)+(cN (aH.enc x)+cN ((xs.drop (j+1)).flatMap aH.enc)):=by rw[h4,aQ,aQ]
    omega
   replace ht:T1 wr (.sl n (L++(.v (.int .i64 x.kind))::(.v (.int .i64 x.value))::(xs.drop (j+1)).flatMap aH.enc)) bs (.slice A n c):=ht
   generalize hR:(xs.drop (j+1)).flatMap aH.enc=R at ht;have HR:=Lib.hid hR;clear hR;obtain⟨b,off,rfl, -,hbm,hbl,hblo,hfz⟩:=ht.row hw;have z0_0:T1 wr (.sl n (L++(.v (.int .i64 x.kind))::(.v (.int .i64 x.value))::R)) bs (.slice (some ⟨b,off,none⟩) n c):=by exact ht
   have y0_0:=(z0_0.leaf hw (o:=off+j*2) rfl (by simp only[qA,qI,qR,hml]<;>omega)).1;have z0_1:T1 wr (.sl n ((L++[.v (.int .i64 x.kind)])++(.v (.int .i64 x.value))::R)) bs (.slice (some ⟨b,off,none⟩) n c):=by rw[qF];exact ht
   have y0_1:=(z0_1.leaf hw (o:=off+j*2+1) rfl (by simp only[qA,qI,qR,hml]<;>omega)).1;obtain⟨t0,u0,v0⟩:=(ht.leaf hw (o:=off+j*2) rfl (by simp only[qA,qI,qR,hml]<;>omega)).2 (.int .i64 m) rfl
   replace t0:T1 (World.setCell wr ⟨b,off+j*2,none⟩ (.int .i64 m)) (.sl n (L++(.v (.int .i64 m))::(.v (.int .i64 x.value))::R)) bs (.slice (some ⟨b,off,none⟩) n c):=t0
   replace t0:T1 (World.setCell wr ⟨b,off+j*2,none⟩ (.int .i64 m)) (.sl n ((L++[.v (.int .i64 m)])++(.v (.int .i64 x.value))::R)) bs (.slice (some ⟨b,off,none⟩) n c):=by rw[qF];exact t0
   obtain⟨t1,u1,v1⟩:=(t0.leaf v0 (o:=off+j*2+1) rfl (by simp only[qA,qI,qR,hml]<;>omega)).2 (.int .i64 (m+1)) rfl;rw[qF]at t1
   replace t1:T1 (World.setCell (World.setCell wr ⟨b,off+j*2,none⟩ (.int .i64 m)) ⟨b,off+j*2+1,none⟩ (.int .i64 (m+1))) (.sl n (L++(.v (.int .i64 m))::(.v (.int .i64 (m+1)))::R)) bs (.slice (some ⟨b,off,none⟩) n c):=t1
   clear z0_0 z0_1
   go_wp2_with fail
   have hmk:bQ (aH.enc x) m=[.v (.int .i64 m),.v (.int .i64 (m+1))]:=by
    show bQ [.v (.int .i64 x.kind),.v (.int .i64 x.value)] m=_;simp only[d9,dN,iM,jX,fV,dD]
    all_goals (exact(bK (iP (by omega)) (bK (iP (by omega)) rfl)))
   have hfin:bQ ((xs.take (j+1)).flatMap aH.enc) k++(xs.drop (j+1)).flatMap aH.enc=L++(.v (.int .i64 m))::(.v (.int .i64 (m+1)))::R:=by
    rw[hsn.out,bG,HL.out,←hm.out,hmk,qF,HR.out];rfl
   exact⟨⟨j+1,m+1+1,by omega,by go_num,by first|rfl|go_num,Lib.hid (by rw[hsn.out,aQ];have h8:=hcx.out;have h9:=hm.out;omega),by omega,by rw[hfin];exact t1,((hon).trans u0).trans u1,v1⟩,by simp[intOf];omega⟩
  ·have:j=n:=by omega
   subst this
   go_wp2_with fail
   go_ret;have hl:=Hn.out;rw[qN (by omega),List.drop_of_length_le (by omega)]at ht;have hm':=hm.out;rw[qN (by omega)]at hm';exact⟨m,rfl,hm',by simpa using ht,hon,hw⟩
theorem zq(xs:List aH)(k r:Int)(n:Nat){A:Option Addr}{c:Nat}{bs:List Nat}(w:World)(hx:T1 w (.sl n (bQ (xs.flatMap aH.enc) k)) bs (.slice A n c))(Hn:Hid (xs.length=n))(hk0:0≤k)(hk1:r≤4611686018427387904)(Hr:Hid (r=k+(cN (xs.flatMap aH.enc):Nat))):Calls Tryz.prog 44 #[.slice A n c,.int .i64 k] w fun e w'=>e=.returned (.int .i64 (r))∧Ext w w':=by
 refine aM fun e=> ?_
 have hn:=hx.nJ
 go_enter Tryz.func44,Tryz.ntmps44
 go_wp2_with fail
 repeat (refine ak _ (by kernel_rfl) (by kernel_rfl) ?_;(repeat (go_big_quiet_step (fail)));refine wpQuiet_nil ?_;intro e;go_wp2_with fail)
 go_loopw [1,5] (fun l i w'=>∃(j:Nat) (m:Int),j≤n∧i=.int .i64 j∧l=.int .i64 m∧Hid (m=k+(cN ((xs.take j).flatMap aH.enc):Nat))∧0≤m∧∃e:aK w,w'=e.to) (fun _ i _=>n-(intOf i).toNat)
 case atStart=>exact⟨0,k,Nat.zero_le _,rfl,rfl,Lib.hid (by simp[aZ]),hk0,_,rfl⟩
 case round=>
  obtain⟨j,m,hj,rfl,rfl,hm,hm0,e,rfl⟩:=hrel
  by_cases hlt:j<n
  ·obtain⟨x,hxk,hsp,hll,hsn, -⟩:=dM aH.enc 2 aH.aR Hn hlt;have hcx:Hid (cN (aH.enc x)=1+1):=by show cN [.v (.int .i64 x.kind),.v (.int .i64 x.value)]=_;simp only[aY,fV,dD,aZ]<;>omega
   have hbd:m+1+1≤4611686018427387904:=by
    have h1:=hm.out;have h2:=Hr.out;have h3:=hcx.out
    have h5:cN (xs.flatMap aH.enc)=cN ((xs.take j).flatMap aH.enc)+(cN (aH.enc x)+cN ((xs.drop (j+1)).flatMap aH.enc)):=by rw[hsp.out,aQ,aQ]
    omega
   have hmk:bQ (aH.enc x) m=[.v (.int .i64 (m)),.v (.int .i64 (m+1))]:=by
    show bQ [.v (.int .i64 x.kind),.v (.int .i64 x.value)] m=_;simp only[d9,dN,iM,jX,fV,dD]
    all_goals (exact(bK (iP (by omega)) (bK (iP (by omega)) rfl)))
   have hxx:=hx;rw[hsp.out,bG,bG,←hm.out,hmk]at hxx;have hml:(bQ ((xs.take j).flatMap aH.enc) k).length=j*2:=by rw[iy,hll]
   generalize hL:bQ ((xs.take j).flatMap aH.enc) k=L at hxx hml;clear hL hll hmk;generalize hR:bQ ((xs.drop (j+1)).flatMap aH.enc) (m+(cN (aH.enc x):Nat))=R at hxx;clear hR
   replace hxx:T1 w (.sl n (L++(.v (.int .i64 (m)))::(.v (.int .i64 (m+1)))::R)) bs (.slice A n c):=hxx
   obtain⟨b,off,rfl⟩:=hxx.FP;have z0:T1 w (.sl n (L++(.v (.int .i64 (m)))::(.v (.int .i64 (m+1)))::R)) bs (.slice (some ⟨b,off,none⟩) n c):=by exact hxx
   have y0:=z0.pU (o:=off+j*2) rfl (by simp only[qA,qI,qR,hml]<;>omega);have z1:T1 w (.sl n ((L++[.v (.int .i64 (m))])++(.v (.int .i64 (m+1)))::R)) bs (.slice (some ⟨b,off,none⟩) n c):=by rw[qF];exact hxx
   have y1:=z1.pU (o:=off+j*2+1) rfl (by simp only[qA,qI,qR,hml]<;>omega);clear hxx z0 z1
   go_wp2_with fail
   repeat (refine ak _ (by kernel_rfl) (by kernel_rfl) ?_;(repeat (go_big_quiet_step (fail)));refine wpQuiet_nil ?_;intro e;go_wp2_with fail)
   exact⟨⟨j+1,m+1+1,by omega,by go_num,by first|rfl|go_num,Lib.hid (by rw[hsn.out,aQ];have h8:=hcx.out;have h9:=hm.out;omega),by omega,_,rfl⟩,by simp[intOf];omega⟩
  ·have:j=n:=by omega
   subst this
   have E:Hid (r=m):=by
    have h1:=hm.out;have h2:=Hr.out;have h3:=Hn.out
    rw[qN (by omega)]at h1;show _=_;omega
   go_wp2_with fail
   repeat (refine ak _ (by kernel_rfl) (by kernel_rfl) ?_;(repeat (go_big_quiet_step (fail)));refine wpQuiet_nil ?_;intro e;go_wp2_with fail)
   go_ret;exact⟨by rw[E.out];rfl,_,rfl⟩
theorem sW(xs:List aA)(k:Int){A:Option Addr}{c lo:Nat}{bs}(w:World)(hx:T1 w (.sl xs.length (xs.flatMap aA.enc)) bs (.slice A xs.length c))(ho:Own lo w bs)(hn':xs.length≤maxLen)(hk0:0≤k)(hk1:k+(cN (xs.flatMap aA.enc):Nat)≤4611686018427387904):
  Calls Tryz.prog 39 #[.slice A xs.length c,.int .i64 k] w fun e w'=>∃r:Int,e=.returned (.int .i64 r)∧Hid (r=k+(cN (xs.flatMap aA.enc):Nat))∧T1 w' (.sl xs.length (bQ (xs.flatMap aA.enc) k)) bs (.slice A xs.length c)∧iZ bs w w'∧Own lo w' bs:=by
 unfold maxLen at hn';obtain⟨n,hn⟩:∃n,xs.length=n:=⟨_,rfl⟩;rw[hn]at hx hn' ⊢;have Hn:Hid (xs.length=n):=hn;clear hn;have hkk:=Lib.hid hk1;clear hk1
 go_enter Tryz.func39,Tryz.ntmps39
 go_wp2_with fail
 go_loopw [1,5] (fun l i w'=>∃(j:Nat) (m:Int),j≤n∧i=.int .i64 j∧l=.int .i64 m∧Hid (m=k+(cN ((xs.take j).flatMap aA.enc):Nat))∧0≤m∧T1 w' (.sl n (bQ ((xs.take j).flatMap aA.enc) k++(xs.drop j).flatMap aA.enc)) bs (.slice A n c)∧iZ bs w w'∧Own lo w' bs) (fun _ i _=>n-(intOf i).toNat)
 case atStart=>exact⟨0,k,Nat.zero_le _,rfl,rfl,Lib.hid (by simp[aZ]),hk0,by simpa[dN]using hx,iZ.refl _ _,ho⟩
 case round=>
  obtain⟨j,m,hj,rfl,rfl,hm,hm0,ht,hon,hw⟩:=hrel
  by_cases hlt:j<n
  ·obtain⟨x,hxk,hsp,hll,hsn,hdr⟩:=dM aA.enc 3 aA.aR Hn hlt;rw[hdr.out,qU]at ht;have hml:(bQ ((xs.take j).flatMap aA.enc) k).length=j*3:=by rw[iy,hll]
   generalize hL:bQ ((xs.take j).flatMap aA.enc) k=L at ht hml;have HL:=Lib.hid hL;clear hL hll;have hcx:Hid (cN (aA.enc x)=1+cN (x.net.agents.flatMap ay.enc)+cN (x.origins.flatMap aB.enc)):=by show cN [.v (.int .i64 x.at_),.sl x.net.agents.length (x.net.agents.flatMap ay.enc),.sl x.origins.length (x.origins.flatMap aB.enc)]=_;simp only[aY,fV,dD,aZ]<;>omega
   have hbd:m+1+(cN (x.net.agents.flatMap ay.enc):Nat)+(cN (x.origins.flatMap aB.enc):Nat)≤4611686018427387904:=by
    have h1:=hm.out;have h2:=hkk.out;have h3:=hcx.out
    have h4:=hsp.out;have h5:cN (xs.flatMap aA.enc)=cN ((xs.take j).flatMap aA.enc)+(cN (aA.enc x)+cN ((xs.drop (j+1)).flatMap aA.enc)):=by rw[h4,aQ,aQ]
    omega
   replace ht:T1 wr (.sl n (L++(.v (.int .i64 x.at_))::(.sl x.net.agents.length (x.net.agents.flatMap ay.enc))::(.sl x.origins.length (x.origins.flatMap aB.enc))::(xs.drop (j+1)).flatMap aA.enc)) bs (.slice A n c):=ht
   generalize hR:(xs.drop (j+1)).flatMap aA.enc=R at ht;have HR:=Lib.hid hR;clear hR;obtain⟨b,off,rfl, -,hbm,hbl,hblo,hfz⟩:=ht.row hw;have z0_0:T1 wr (.sl n (L++(.v (.int .i64 x.at_))::(.sl x.net.agents.length (x.net.agents.flatMap ay.enc))::(.sl x.origins.length (x.origins.flatMap aB.enc))::R)) bs (.slice (some ⟨b,off,none⟩) n c):=by exact ht
   have y0_0:=(z0_0.leaf hw (o:=off+j*3) rfl (by simp only[qA,qI,qR,hml]<;>omega)).1;have z0_1:T1 wr (.sl n ((L++[.v (.int .i64 x.at_)])++(.sl x.net.agents.length (x.net.agents.flatMap ay.enc))::(.sl x.origins.length (x.origins.flatMap aB.enc))::R)) bs (.slice (some ⟨b,off,none⟩) n c):=by rw[qF];exact ht
   obtain⟨A0_1,c0_1,b0_1,y0_1, -⟩:=z0_1.sub hw (o:=off+j*3+1) rfl (by simp only[qA,qI,qR,hml]<;>omega);obtain⟨t0,u0,v0⟩:=(ht.leaf hw (o:=off+j*3) rfl (by simp only[qA,qI,qR,hml]<;>omega)).2 (.int .i64 m) rfl
   replace t0:T1 (World.setCell wr ⟨b,off+j*3,none⟩ (.int .i64 m)) (.sl n (L++(.v (.int .i64 m))::(.sl x.net.agents.length (x.net.agents.flatMap ay.enc))::(.sl x.origins.length (x.origins.flatMap aB.enc))::R)) bs (.slice (some ⟨b,off,none⟩) n c):=t0
   have g1:T1 (World.setCell wr ⟨b,off+j*3,none⟩ (.int .i64 m)) (.sl n ((L++[.v (.int .i64 m)])++(.sl x.net.agents.length (x.net.agents.flatMap ay.enc))::(.sl x.origins.length (x.origins.flatMap aB.enc))::R)) bs (.slice (some ⟨b,off,none⟩) n c):=by rw[qF];exact t0
   obtain⟨A1,c1,b1,k1,s1,n1,o1,nb1,back1⟩:=g1.sub v0 (o:=off+j*3+1) rfl (by simp only[qA,qI,qR,hml]<;>omega)
   obtain⟨rfl,rfl⟩:A0_1=A1∧c0_1=c1:=by
    have hh:=k1;rw[fK _ _ _ _ _ (by omega)]at hh;rw[y0_1]at hh;simpa using hh
   clear k1;have HB1:=Lib.hid back1;clear back1 g1;clear z0_0 z0_1
   go_wp2_with fail
   refine(mJ x.net.agents (m+1) _ s1 o1 n1 (by omega) (by omega)).mono ?_;rintro _ W1 ⟨r1,rfl,hr1,q1,f1, -⟩;obtain⟨t1,u1,v1⟩:=HB1.out W1 _ f1 q1;have p1:0≤r1:=by have:=hr1.out;omega
   have l1:r1+(cN (x.origins.flatMap aB.enc):Nat)≤4611686018427387904:=by have:=hr1.out;omega
   rw[qF]at t1
   replace t1:T1 W1 (.sl n (L++(.v (.int .i64 m))::(.sl x.net.agents.length (bQ (x.net.agents.flatMap ay.enc) (m+1)))::(.sl x.origins.length (x.origins.flatMap aB.enc))::R)) bs (.slice (some ⟨b,off,none⟩) n c):=t1
   have hfz1:∀o,World.frozen? W1 ⟨b,o,none⟩=false:=fun o=>(by obtain⟨_,cur,tt,hrow⟩:=v1.2 b hbm;simp[World.frozen?,hrow])
   have z1_2:T1 W1 (.sl n ((L++[.v (.int .i64 m),.sl x.net.agents.length (bQ (x.net.agents.flatMap ay.enc) (m+1))])++(.sl x.origins.length (x.origins.flatMap aB.enc))::R)) bs (.slice (some ⟨b,off,none⟩) n c):=by rw[qF];exact t1
   obtain⟨A1_2,c1_2,b1_2,y1_2, -⟩:=z1_2.sub v1 (o:=off+j*3+2) rfl (by simp only[qA,qI,qR,hml]<;>omega);have g2:T1 W1 (.sl n ((L++[.v (.int .i64 m),.sl x.net.agents.length (bQ (x.net.agents.flatMap ay.enc) (m+1))])++(.sl x.origins.length (x.origins.flatMap aB.enc))::R)) bs (.slice (some ⟨b,off,none⟩) n c):=by rw[qF];exact t1
   obtain⟨A2,c2,b2,k2,s2,n2,o2,nb2,back2⟩:=g2.sub v1 (o:=off+j*3+2) rfl (by simp only[qA,qI,qR,hml]<;>omega)
   obtain⟨rfl,rfl⟩:A1_2=A2∧c1_2=c2:=by
    have hh:=k2;rw[y1_2]at hh;simpa using hh
   clear k2;have HB2:=Lib.hid back2;clear back2 g2;clear z1_2
   go_wp2_with fail
   refine(pV x.origins (r1) _ s2 o2 n2 (by omega) (by omega)).mono ?_;rintro _ W2 ⟨r2,rfl,hr2,q2,f2, -⟩;obtain⟨t2,u2,v2⟩:=HB2.out W2 _ f2 q2;have p2:0≤r2:=by have:=hr2.out;omega
   have l2:r2+0≤4611686018427387904:=by have:=hr2.out;omega
   rw[qF]at t2
   replace t2:T1 W2 (.sl n (L++(.v (.int .i64 m))::(.sl x.net.agents.length (bQ (x.net.agents.flatMap ay.enc) (m+1)))::(.sl x.origins.length (bQ (x.origins.flatMap aB.enc) (r1)))::R)) bs (.slice (some ⟨b,off,none⟩) n c):=t2
   go_wp2_with fail
   have hmk:bQ (aA.enc x) m=[.v (.int .i64 m),.sl x.net.agents.length (bQ (x.net.agents.flatMap ay.enc) (m+1)),.sl x.origins.length (bQ (x.origins.flatMap aB.enc) (r1))]:=by
    show bQ [.v (.int .i64 x.at_),.sl x.net.agents.length (x.net.agents.flatMap ay.enc),.sl x.origins.length (x.origins.flatMap aB.enc)] m=_;simp only[d9,dN,iM,jX,fV,dD]
    all_goals (have h1:=hr1.out;have h2:=hr2.out;exact(bK (iP (by omega)) (bK (nG (by omega)) (bK (nG (by omega)) rfl))))
   have hfin:bQ ((xs.take (j+1)).flatMap aA.enc) k++(xs.drop (j+1)).flatMap aA.enc=L++(.v (.int .i64 m))::(.sl x.net.agents.length (bQ (x.net.agents.flatMap ay.enc) (m+1)))::(.sl x.origins.length (bQ (x.origins.flatMap aB.enc) (r1)))::R:=by
    rw[hsn.out,bG,HL.out,←hm.out,hmk,qF,HR.out];rfl
   exact⟨⟨j+1,r2,by omega,by go_num,by first|rfl|go_num,Lib.hid (by rw[hsn.out,aQ];have h1:=hr1.out;have h2:=hr2.out;have h8:=hcx.out;have h9:=hm.out;omega),by omega,by rw[hfin];exact t2,(((hon).trans u0).trans u1).trans u2,v2⟩,by simp[intOf];omega⟩
  ·have:j=n:=by omega
   subst this
   go_wp2_with fail
   go_ret;have hl:=Hn.out;rw[qN (by omega),List.drop_of_length_le (by omega)]at ht;have hm':=hm.out;rw[qN (by omega)]at hm';exact⟨m,rfl,hm',by simpa using ht,hon,hw⟩
theorem sV(xs:List aA)(k r:Int)(n:Nat){A:Option Addr}{c:Nat}{bs:List Nat}(w:World)(hx:T1 w (.sl n (bQ (xs.flatMap aA.enc) k)) bs (.slice A n c))(Hn:Hid (xs.length=n))(hk0:0≤k)(hk1:r≤4611686018427387904)(Hr:Hid (r=k+(cN (xs.flatMap aA.enc):Nat))):Calls Tryz.prog 45 #[.slice A n c,.int .i64 k] w fun e w'=>e=.returned (.int .i64 (r))∧Ext w w':=by
 refine aM fun e=> ?_
 have hn:=hx.nJ
 go_enter Tryz.func45,Tryz.ntmps45
 go_wp2_with fail
 repeat (refine ak _ (by kernel_rfl) (by kernel_rfl) ?_;(repeat (go_big_quiet_step (fail)));refine wpQuiet_nil ?_;intro e;go_wp2_with fail)
 go_loopw [1,5] (fun l i w'=>∃(j:Nat) (m:Int),j≤n∧i=.int .i64 j∧l=.int .i64 m∧Hid (m=k+(cN ((xs.take j).flatMap aA.enc):Nat))∧0≤m∧∃e:aK w,w'=e.to) (fun _ i _=>n-(intOf i).toNat)
 case atStart=>exact⟨0,k,Nat.zero_le _,rfl,rfl,Lib.hid (by simp[aZ]),hk0,_,rfl⟩
 case round=>
  obtain⟨j,m,hj,rfl,rfl,hm,hm0,e,rfl⟩:=hrel
  by_cases hlt:j<n
  ·obtain⟨x,hxk,hsp,hll,hsn, -⟩:=dM aA.enc 3 aA.aR Hn hlt;have hcx:Hid (cN (aA.enc x)=1+cN (x.net.agents.flatMap ay.enc)+cN (x.origins.flatMap aB.enc)):=by show cN [.v (.int .i64 x.at_),.sl x.net.agents.length (x.net.agents.flatMap ay.enc),.sl x.origins.length (x.origins.flatMap aB.enc)]=_;simp only[aY,fV,dD,aZ]<;>omega
   have hbd:m+1+(cN (x.net.agents.flatMap ay.enc):Nat)+(cN (x.origins.flatMap aB.enc):Nat)≤4611686018427387904:=by
    have h1:=hm.out;have h2:=Hr.out;have h3:=hcx.out
    have h5:cN (xs.flatMap aA.enc)=cN ((xs.take j).flatMap aA.enc)+(cN (aA.enc x)+cN ((xs.drop (j+1)).flatMap aA.enc)):=by rw[hsp.out,aQ,aQ]
    omega
   obtain⟨r1,hr1⟩:∃q:Int,q=m+1+((cN (x.net.agents.flatMap ay.enc):Nat):Int):=⟨_,rfl⟩;obtain⟨r2,hr2⟩:∃q:Int,q=r1+((cN (x.origins.flatMap aB.enc):Nat):Int):=⟨_,rfl⟩
   have hmk:bQ (aA.enc x) m=[.v (.int .i64 (m)),.sl x.net.agents.length (bQ (x.net.agents.flatMap ay.enc) (m+1)),.sl x.origins.length (bQ (x.origins.flatMap aB.enc) (r1))]:=by
    show bQ [.v (.int .i64 x.at_),.sl x.net.agents.length (x.net.agents.flatMap ay.enc),.sl x.origins.length (x.origins.flatMap aB.enc)] m=_;simp only[d9,dN,iM,jX,fV,dD]
    all_goals (exact(bK (iP (by omega)) (bK (nG (by omega)) (bK (nG (by omega)) rfl))))
   have hxx:=hx;rw[hsp.out,bG,bG,←hm.out,hmk]at hxx;have hml:(bQ ((xs.take j).flatMap aA.enc) k).length=j*3:=by rw[iy,hll]
   generalize hL:bQ ((xs.take j).flatMap aA.enc) k=L at hxx hml;clear hL hll hmk;generalize hR:bQ ((xs.drop (j+1)).flatMap aA.enc) (m+(cN (aA.enc x):Nat))=R at hxx;clear hR
   replace hxx:T1 w (.sl n (L++(.v (.int .i64 (m)))::(.sl x.net.agents.length (bQ (x.net.agents.flatMap ay.enc) (m+1)))::(.sl x.origins.length (bQ (x.origins.flatMap aB.enc) (r1)))::R)) bs (.slice A n c):=hxx
   obtain⟨b,off,rfl⟩:=hxx.FP;have z0:T1 w (.sl n (L++(.v (.int .i64 (m)))::(.sl x.net.agents.length (bQ (x.net.agents.flatMap ay.enc) (m+1)))::(.sl x.origins.length (bQ (x.origins.flatMap aB.enc) (r1)))::R)) bs (.slice (some ⟨b,off,none⟩) n c):=by exact hxx
   have y0:=z0.pU (o:=off+j*3) rfl (by simp only[qA,qI,qR,hml]<;>omega);have z1:T1 w (.sl n ((L++[.v (.int .i64 (m))])++(.sl x.net.agents.length (bQ (x.net.agents.flatMap ay.enc) (m+1)))::(.sl x.origins.length (bQ (x.origins.flatMap aB.enc) (r1)))::R)) bs (.slice (some ⟨b,off,none⟩) n c):=by rw[qF];exact hxx
   obtain⟨A1,c1,b1,y1,s1,n1⟩:=z1.KO (o:=off+j*3+1) rfl (by simp only[qA,qI,qR,hml]<;>omega);have z2:T1 w (.sl n ((L++[.v (.int .i64 (m)),.sl x.net.agents.length (bQ (x.net.agents.flatMap ay.enc) (m+1))])++(.sl x.origins.length (bQ (x.origins.flatMap aB.enc) (r1)))::R)) bs (.slice (some ⟨b,off,none⟩) n c):=by rw[qF];exact hxx
   obtain⟨A2,c2,b2,y2,s2,n2⟩:=z2.KO (o:=off+j*3+2) rfl (by simp only[qA,qI,qR,hml]<;>omega);clear hxx z0 z1 z2;have p1:0≤r1:=by omega
   have l1:r1≤4611686018427387904:=by omega
   have ll1:r1+(cN (x.origins.flatMap aB.enc):Nat)≤4611686018427387904:=by omega
   have Hr1:Hid (r1=m+1+((cN (x.net.agents.flatMap ay.enc):Nat):Int)):=hr1;have C1:Hid (QC Tryz.prog w _ _ _):=fun W hW=>mG x.net.agents (m+1) r1 x.net.agents.length W (s1.below hW) dI (by omega) l1 Hr1
   have p2:0≤r2:=by omega
   have l2:r2≤4611686018427387904:=by omega
   have Hr2:Hid (r2=r1+((cN (x.origins.flatMap aB.enc):Nat):Int)):=hr2;have C2:Hid (QC Tryz.prog w _ _ _):=fun W hW=>pQ x.origins (r1) r2 x.origins.length W (s2.below hW) dI (by omega) l2 Hr2
   clear hr1 hr2
   go_wp2_with (first|(go_at_call 71;with_reducible refine(C1.out.at_ _).mono ?_;rintro _ _ ⟨rfl,e,rfl⟩)|(go_at_call 43;with_reducible refine(C2.out.at_ _).mono ?_;rintro _ _ ⟨rfl,e,rfl⟩))
   repeat (refine ak _ (by kernel_rfl) (by kernel_rfl) ?_;(repeat (go_big_quiet_step ((first|with_reducible exact C1.out.at_ _|with_reducible exact C2.out.at_ _))));refine wpQuiet_nil ?_;intro e;go_wp2_with (first|(go_at_call 71;with_reducible refine(C1.out.at_ _).mono ?_;rintro _ _ ⟨rfl,e,rfl⟩)|(go_at_call 43;with_reducible refine(C2.out.at_ _).mono ?_;rintro _ _ ⟨rfl,e,rfl⟩)))
   exact⟨⟨j+1,r2,by omega,by go_num,by first|rfl|go_num,Lib.hid (by rw[hsn.out,aQ];have h1:=Hr1.out;have h2:=Hr2.out;have h8:=hcx.out;have h9:=hm.out;omega),by omega,_,rfl⟩,by simp[intOf];omega⟩
  ·have:j=n:=by omega
   subst this
   have E:Hid (r=m):=by
    have h1:=hm.out;have h2:=Hr.out;have h3:=Hn.out
    rw[qN (by omega)]at h1;show _=_;omega
   go_wp2_with fail
   repeat (refine ak _ (by kernel_rfl) (by kernel_rfl) ?_;(repeat (go_big_quiet_step (fail)));refine wpQuiet_nil ?_;intro e;go_wp2_with fail)
   go_ret;exact⟨by rw[E.out];rfl,_,rfl⟩
theorem wT(x:aL)(k:Int){bs us}{lo:Nat}(w:World)(hx:TN w x.enc bs us)(ho:Own lo w bs)(hk0:0≤k)(hk1:k+(x.cnt:Nat)≤4611686018427387904):
  Calls Tryz.prog 18 #[.agg us.toArray,.int .i64 k] w fun e w'=>∃r:Int,e=.returned (.int .i64 r)∧Hid (r=k+(x.cnt:Nat))∧TN w' (x.zJ k) bs us∧iZ bs w w'∧Own lo w' bs:=by
 have hlt:=hx.lt;obtain⟨A0,c0,b0,A1,c1,b1,A4,c4,b4,A5,c5,b5,A6,c6,b6,A7,c7,b7,rfl,rfl,t0,l0,m0,t1,l1,m1,t4,l4,m4,t5,l5,m5,t6,l6,m6,t7,l7,m7⟩:=aL.us hx;obtain⟨h5_,o7,d7⟩:=Own.parts ho;obtain⟨h4_,o6,d6⟩:=Own.parts h5_;obtain⟨h3_,o5,d5⟩:=Own.parts h4_;obtain⟨h2_,o4,d4⟩:=Own.parts h3_;obtain⟨o0,o1,d1⟩:=Own.parts h2_;have e0_1:∀y∈b0,y∉b1:=fun y hm=>d1 y hm
 have e0_4:∀y∈b0,y∉b4:=fun y hm=>d4 y (List.mem_append_left _ hm)
 have e1_4:∀y∈b1,y∉b4:=fun y hm=>d4 y (List.mem_append_right _ hm)
 have e0_5:∀y∈b0,y∉b5:=fun y hm=>d5 y (List.mem_append_left _ (List.mem_append_left _ hm))
 have e1_5:∀y∈b1,y∉b5:=fun y hm=>d5 y (List.mem_append_left _ (List.mem_append_right _ hm))
 have e4_5:∀y∈b4,y∉b5:=fun y hm=>d5 y (List.mem_append_right _ hm)
 have e0_6:∀y∈b0,y∉b6:=fun y hm=>d6 y (List.mem_append_left _ (List.mem_append_left _ (List.mem_append_left _ hm)))
 have e1_6:∀y∈b1,y∉b6:=fun y hm=>d6 y (List.mem_append_left _ (List.mem_append_left _ (List.mem_append_right _ hm)))
 have e4_6:∀y∈b4,y∉b6:=fun y hm=>d6 y (List.mem_append_left _ (List.mem_append_right _ hm))
 have e5_6:∀y∈b5,y∉b6:=fun y hm=>d6 y (List.mem_append_right _ hm)
 have e0_7:∀y∈b0,y∉b7:=fun y hm=>d7 y (List.mem_append_left _ (List.mem_append_left _ (List.mem_append_left _ (List.mem_append_left _ hm))))
 have e1_7:∀y∈b1,y∉b7:=fun y hm=>d7 y (List.mem_append_left _ (List.mem_append_left _ (List.mem_append_left _ (List.mem_append_right _ hm))))
 have e4_7:∀y∈b4,y∉b7:=fun y hm=>d7 y (List.mem_append_left _ (List.mem_append_left _ (List.mem_append_right _ hm)))
 have e5_7:∀y∈b5,y∉b7:=fun y hm=>d7 y (List.mem_append_left _ (List.mem_append_right _ hm))
 have e6_7:∀y∈b6,y∉b7:=fun y hm=>d7 y (List.mem_append_right _ hm)
 have g0:w.heap.size∉b0:=fun hm=>by have:=hlt _ (show w.heap.size∈b0++b1++b4++b5++b6++b7 by simp[hm]);omega
 have g1:w.heap.size∉b1:=fun hm=>by have:=hlt _ (show w.heap.size∈b0++b1++b4++b5++b6++b7 by simp[hm]);omega
 have g4:w.heap.size∉b4:=fun hm=>by have:=hlt _ (show w.heap.size∈b0++b1++b4++b5++b6++b7 by simp[hm]);omega
 have g5:w.heap.size∉b5:=fun hm=>by have:=hlt _ (show w.heap.size∈b0++b1++b4++b5++b6++b7 by simp[hm]);omega
 have g6:w.heap.size∉b6:=fun hm=>by have:=hlt _ (show w.heap.size∈b0++b1++b4++b5++b6++b7 by simp[hm]);omega
 have g7:w.heap.size∉b7:=fun hm=>by have:=hlt _ (show w.heap.size∈b0++b1++b4++b5++b6++b7 by simp[hm]);omega
 have B0:∀S,Below w.heap.size w (w.alloc S):=fun _=>(Below.refl _ _).alloc (Nat.le_refl _) _
 have hcn:x.cnt=cN (x.book.flatMap aG.enc)+cN (x.schedule.flatMap aT)+x.net.cnt+cN (x.origins.flatMap aB.enc)+cN (x.breaks.flatMap aH.enc)+cN (x.points.flatMap aA.enc):=rfl;rw[hcn]at hk1;clear hcn hx
 go_enter Tryz.func18,Tryz.ntmps18
 go_wp2_with fail
 refine(vN x.book k _ (t0.below (B0 _)) (o0.below (B0 _)) (Nat.le_trans l0 m0) (by omega) (by omega)).mono ?_;rintro _ w1 ⟨r1,rfl,hr1,S0,f1,V0⟩;have p1:0≤r1:=by have:=hr1.out;omega
 have b1_:r1+(cN (x.schedule.flatMap aT):Nat)+(x.net.cnt:Nat)+(cN (x.origins.flatMap aB.enc):Nat)+(cN (x.breaks.flatMap aH.enc):Nat)+(cN (x.points.flatMap aA.enc):Nat)≤4611686018427387904:=by have:=hr1.out;omega
 have u1:=(f1.other w.heap.size (by simp) g0).trans (heap_alloc_new w _);have z1:w.heap.size<w1.heap.size:=by have:=f1.size;simp at this;omega
 have F1:iZ (b0++b1++b4++b5++b6++b7) w w1:=iZ.trans (iZ.rP (B0 _)) (f1.sub (fun y hy=>by first|exact hy|(simp at hy ⊢;grind)));have q1_0:=cell_of_row _ _ 0 _ _ _ u1;have q1_1:=cell_of_row _ _ 1 _ _ _ u1;have q1_2:=cell_of_row _ _ 2 _ _ _ u1;have q1_3:=cell_of_row _ _ 3 _ _ _ u1;have q1_4:=cell_of_row _ _ 4 _ _ _ u1;have q1_5:=cell_of_row _ _ 5 _ _ _ u1;have q1_6:=cell_of_row _ _ 6 _ _ _ u1;have q1_7:=cell_of_row _ _ 7 _ _ _ u1;simp only[List.getElem?_toArray,List.getElem?_cons_zero,List.getElem?_cons_succ]at q1_0 q1_1 q1_2 q1_3 q1_4 q1_5 q1_6 q1_7
 replace t1:=T1.bR (t1.below (B0 _)) f1 (fun y hy hm=>e0_1 y hm hy)
 replace o1:=(o1.below (B0 _)).bR f1
 replace t4:=T1.bR (t4.below (B0 _)) f1 (fun y hy hm=>e0_4 y hm hy)
 replace o4:=(o4.below (B0 _)).bR f1
 replace t5:=T1.bR (t5.below (B0 _)) f1 (fun y hy hm=>e0_5 y hm hy)
 replace o5:=(o5.below (B0 _)).bR f1
 replace t6:=T1.bR (t6.below (B0 _)) f1 (fun y hy hm=>e0_6 y hm hy)
 replace o6:=(o6.below (B0 _)).bR f1
 replace t7:=T1.bR (t7.below (B0 _)) f1 (fun y hy hm=>e0_7 y hm hy)
 replace o7:=(o7.below (B0 _)).bR f1
 go_wp2_with fail
 refine(mK x.schedule r1 _ t1 o1 (Nat.le_trans l1 m1) (by omega) (by omega)).mono ?_;rintro _ w2 ⟨r2,rfl,hr2,S1,f2,V1⟩;have p2:0≤r2:=by have:=hr2.out;omega
 have b2_:r2+(x.net.cnt:Nat)+(cN (x.origins.flatMap aB.enc):Nat)+(cN (x.breaks.flatMap aH.enc):Nat)+(cN (x.points.flatMap aA.enc):Nat)≤4611686018427387904:=by have:=hr2.out;omega
 have u2:=(f2.other w.heap.size z1 g1).trans u1;have z2:w.heap.size<w2.heap.size:=by have:=f2.size;omega
 have F2:=F1.trans (f2.sub (cs:=b0++b1++b4++b5++b6++b7) (fun y hy=>by first|exact hy|(simp at hy ⊢;grind)));clear q1_0 q1_1 q1_2 q1_3 q1_4 q1_5 q1_6 q1_7 u1;have q2_0:=cell_of_row _ _ 0 _ _ _ u2;have q2_1:=cell_of_row _ _ 1 _ _ _ u2;have q2_2:=cell_of_row _ _ 2 _ _ _ u2;have q2_3:=cell_of_row _ _ 3 _ _ _ u2;have q2_4:=cell_of_row _ _ 4 _ _ _ u2;have q2_5:=cell_of_row _ _ 5 _ _ _ u2;have q2_6:=cell_of_row _ _ 6 _ _ _ u2;have q2_7:=cell_of_row _ _ 7 _ _ _ u2;simp only[List.getElem?_toArray,List.getElem?_cons_zero,List.getElem?_cons_succ]at q2_0 q2_1 q2_2 q2_3 q2_4 q2_5 q2_6 q2_7
 replace S0:=T1.bR S0 f2 e0_1
 replace t4:=T1.bR t4 f2 (fun y hy hm=>e1_4 y hm hy)
 replace o4:=o4.bR f2
 replace t5:=T1.bR t5 f2 (fun y hy hm=>e1_5 y hm hy)
 replace o5:=o5.bR f2
 replace t6:=T1.bR t6 f2 (fun y hy hm=>e1_6 y hm hy)
 replace o6:=o6.bR f2
 replace t7:=T1.bR t7 f2 (fun y hy hm=>e1_7 y hm hy)
 replace o7:=o7.bR f2
 go_wp2_with fail
 refine(xR x.net r2 (bs:=b4) _ (aG.oZ (x:=x.net) t4) o4 (by omega) (by omega)).mono ?_;rintro _ w3 ⟨r3,rfl,hr3,S2,f3,V2⟩;have p3:0≤r3:=by have:=hr3.out;omega
 have b3_:r3+(cN (x.origins.flatMap aB.enc):Nat)+(cN (x.breaks.flatMap aH.enc):Nat)+(cN (x.points.flatMap aA.enc):Nat)≤4611686018427387904:=by have:=hr3.out;omega
 have u3:=(f3.other w.heap.size z2 g4).trans u2;have z3:w.heap.size<w3.heap.size:=by have:=f3.size;omega
 have F3:=F2.trans (f3.sub (cs:=b0++b1++b4++b5++b6++b7) (fun y hy=>by first|exact hy|(simp at hy ⊢;grind)));clear q2_0 q2_1 q2_2 q2_3 q2_4 q2_5 q2_6 q2_7 u2;have q3_0:=cell_of_row _ _ 0 _ _ _ u3;have q3_1:=cell_of_row _ _ 1 _ _ _ u3;have q3_2:=cell_of_row _ _ 2 _ _ _ u3;have q3_3:=cell_of_row _ _ 3 _ _ _ u3;have q3_4:=cell_of_row _ _ 4 _ _ _ u3;have q3_5:=cell_of_row _ _ 5 _ _ _ u3;have q3_6:=cell_of_row _ _ 6 _ _ _ u3;have q3_7:=cell_of_row _ _ 7 _ _ _ u3;simp only[List.getElem?_toArray,List.getElem?_cons_zero,List.getElem?_cons_succ]at q3_0 q3_1 q3_2 q3_3 q3_4 q3_5 q3_6 q3_7
 replace S0:=T1.bR S0 f3 e0_4
 replace S1:=T1.bR S1 f3 e1_4
 replace t5:=T1.bR t5 f3 (fun y hy hm=>e4_5 y hm hy)
 replace o5:=o5.bR f3
 replace t6:=T1.bR t6 f3 (fun y hy hm=>e4_6 y hm hy)
 replace o6:=o6.bR f3
 replace t7:=T1.bR t7 f3 (fun y hy hm=>e4_7 y hm hy)
 replace o7:=o7.bR f3
 go_wp2_with fail
 refine(pV x.origins r3 _ t5 o5 (Nat.le_trans l5 m5) (by omega) (by omega)).mono ?_;rintro _ w4 ⟨r4,rfl,hr4,S3,f4,V3⟩;have p4:0≤r4:=by have:=hr4.out;omega
 have b4_:r4+(cN (x.breaks.flatMap aH.enc):Nat)+(cN (x.points.flatMap aA.enc):Nat)≤4611686018427387904:=by have:=hr4.out;omega
 have u4:=(f4.other w.heap.size z3 g5).trans u3;have z4:w.heap.size<w4.heap.size:=by have:=f4.size;omega
 have F4:=F3.trans (f4.sub (cs:=b0++b1++b4++b5++b6++b7) (fun y hy=>by first|exact hy|(simp at hy ⊢;grind)));clear q3_0 q3_1 q3_2 q3_3 q3_4 q3_5 q3_6 q3_7 u3;have q4_0:=cell_of_row _ _ 0 _ _ _ u4;have q4_1:=cell_of_row _ _ 1 _ _ _ u4;have q4_2:=cell_of_row _ _ 2 _ _ _ u4;have q4_3:=cell_of_row _ _ 3 _ _ _ u4;have q4_4:=cell_of_row _ _ 4 _ _ _ u4;have q4_5:=cell_of_row _ _ 5 _ _ _ u4;have q4_6:=cell_of_row _ _ 6 _ _ _ u4;have q4_7:=cell_of_row _ _ 7 _ _ _ u4;simp only[List.getElem?_toArray,List.getElem?_cons_zero,List.getElem?_cons_succ]at q4_0 q4_1 q4_2 q4_3 q4_4 q4_5 q4_6 q4_7
 replace S0:=T1.bR S0 f4 e0_5
 replace S1:=T1.bR S1 f4 e1_5
 replace S2:=TN.bR S2 f4 e4_5
 replace t6:=T1.bR t6 f4 (fun y hy hm=>e5_6 y hm hy)
 replace o6:=o6.bR f4
 replace t7:=T1.bR t7 f4 (fun y hy hm=>e5_7 y hm hy)
 replace o7:=o7.bR f4
 go_wp2_with fail
 refine(zH x.breaks r4 _ t6 o6 (Nat.le_trans l6 m6) (by omega) (by omega)).mono ?_;rintro _ w5 ⟨r5,rfl,hr5,S4,f5,V4⟩;have p5:0≤r5:=by have:=hr5.out;omega
 have b5_:r5+(cN (x.points.flatMap aA.enc):Nat)≤4611686018427387904:=by have:=hr5.out;omega
 have u5:=(f5.other w.heap.size z4 g6).trans u4;have z5:w.heap.size<w5.heap.size:=by have:=f5.size;omega
 have F5:=F4.trans (f5.sub (cs:=b0++b1++b4++b5++b6++b7) (fun y hy=>by first|exact hy|(simp at hy ⊢;grind)));clear q4_0 q4_1 q4_2 q4_3 q4_4 q4_5 q4_6 q4_7 u4;have q5_0:=cell_of_row _ _ 0 _ _ _ u5;have q5_1:=cell_of_row _ _ 1 _ _ _ u5;have q5_2:=cell_of_row _ _ 2 _ _ _ u5;have q5_3:=cell_of_row _ _ 3 _ _ _ u5;have q5_4:=cell_of_row _ _ 4 _ _ _ u5;have q5_5:=cell_of_row _ _ 5 _ _ _ u5;have q5_6:=cell_of_row _ _ 6 _ _ _ u5;have q5_7:=cell_of_row _ _ 7 _ _ _ u5;simp only[List.getElem?_toArray,List.getElem?_cons_zero,List.getElem?_cons_succ]at q5_0 q5_1 q5_2 q5_3 q5_4 q5_5 q5_6 q5_7
 replace S0:=T1.bR S0 f5 e0_6
 replace S1:=T1.bR S1 f5 e1_6
 replace S2:=TN.bR S2 f5 e4_6
 replace S3:=T1.bR S3 f5 e5_6
 replace t7:=T1.bR t7 f5 (fun y hy hm=>e6_7 y hm hy)
 replace o7:=o7.bR f5
 go_wp2_with fail
 refine(sW x.points r5 _ t7 o7 (Nat.le_trans l7 m7) (by omega) (by omega)).mono ?_;rintro _ w6 ⟨r6,rfl,hr6,S5,f6,V5⟩;have p6:0≤r6:=by have:=hr6.out;omega
 have b6_:r6+0≤4611686018427387904:=by have:=hr6.out;omega
 have u6:=(f6.other w.heap.size z5 g7).trans u5;have z6:w.heap.size<w6.heap.size:=by have:=f6.size;omega
 have F6:=F5.trans (f6.sub (cs:=b0++b1++b4++b5++b6++b7) (fun y hy=>by first|exact hy|(simp at hy ⊢;grind)));clear q5_0 q5_1 q5_2 q5_3 q5_4 q5_5 q5_6 q5_7 u5;have q6_0:=cell_of_row _ _ 0 _ _ _ u6;have q6_1:=cell_of_row _ _ 1 _ _ _ u6;have q6_2:=cell_of_row _ _ 2 _ _ _ u6;have q6_3:=cell_of_row _ _ 3 _ _ _ u6;have q6_4:=cell_of_row _ _ 4 _ _ _ u6;have q6_5:=cell_of_row _ _ 5 _ _ _ u6;have q6_6:=cell_of_row _ _ 6 _ _ _ u6;have q6_7:=cell_of_row _ _ 7 _ _ _ u6;simp only[List.getElem?_toArray,List.getElem?_cons_zero,List.getElem?_cons_succ]at q6_0 q6_1 q6_2 q6_3 q6_4 q6_5 q6_6 q6_7
 replace S0:=T1.bR S0 f6 e0_7
 replace S1:=T1.bR S1 f6 e1_7
 replace S2:=TN.bR S2 f6 e4_7
 replace S3:=T1.bR S3 f6 e5_7
 replace S4:=T1.bR S4 f6 e6_7
 go_wp2_with fail
 go_ret;refine⟨r6,rfl,?_,?_,F6,ho.bR F6⟩
 ·show _=_;have hcn:x.cnt=cN (x.book.flatMap aG.enc)+cN (x.schedule.flatMap aT)+x.net.cnt+cN (x.origins.flatMap aB.enc)+cN (x.breaks.flatMap aH.enc)+cN (x.points.flatMap aA.enc):=rfl;have h1:=hr1.out;have h2:=hr2.out;have h3:=hr3.out;have h4:=hr4.out;have h5:=hr5.out;have h6:=hr6.out;omega
 ·have h1:=hr1.out;have h2:=hr2.out;have h3:=hr3.out;have h4:=hr4.out;have h5:=hr5.out;have h6:=hr6.out;skip
  rw[show r1=k+(cN (x.book.flatMap aG.enc):Nat) from by omega]at S1;rw[show r2=k+(cN (x.book.flatMap aG.enc):Nat)+(cN (x.schedule.flatMap aT):Nat) from by omega]at S2;rw[show r3=k+(cN (x.book.flatMap aG.enc):Nat)+(cN (x.schedule.flatMap aT):Nat)+(x.net.cnt:Nat) from by omega]at S3;rw[show r4=k+(cN (x.book.flatMap aG.enc):Nat)+(cN (x.schedule.flatMap aT):Nat)+(x.net.cnt:Nat)+(cN (x.origins.flatMap aB.enc):Nat) from by omega]at S4;rw[show r5=k+(cN (x.book.flatMap aG.enc):Nat)+(cN (x.schedule.flatMap aT):Nat)+(x.net.cnt:Nat)+(cN (x.origins.flatMap aB.enc):Nat)+(cN (x.breaks.flatMap aH.enc):Nat) from by omega]at S5
  have h:=(TN.append.2 ⟨_,_,_,_,rfl,rfl,(TN.jB S0 TN.done),(TN.append.2 ⟨_,_,_,_,rfl,rfl,(TN.jB S1 TN.done),(TN.append.2 ⟨_,_,_,_,rfl,rfl,(TN.kE (x:=.int .i64 x.every) rfl TN.done),(TN.append.2 ⟨_,_,_,_,rfl,rfl,(TN.kE (x:=.int .i64 x.at_) rfl TN.done),(TN.append.2 ⟨_,_,_,_,rfl,rfl,S2,(TN.append.2 ⟨_,_,_,_,rfl,rfl,(TN.jB S3 TN.done),(TN.append.2 ⟨_,_,_,_,rfl,rfl,(TN.jB S4 TN.done),(TN.jB S5 TN.done)⟩)⟩)⟩)⟩)⟩)⟩)⟩);simp only[qS,List.nil_append,qF,List.cons_append]at h;unfold aL.zJ
  simpa only[qS,List.nil_append,qF,List.cons_append]using h
theorem nU(x:aL)(k r:Int){bs us}(w:World)(hx:TN w (x.zJ k) bs us)(hk0:0≤k)(hk1:r≤4611686018427387904)(Hr:Hid (r=k+(x.cnt:Nat))):Calls Tryz.prog 19 #[.agg us.toArray,.int .i64 k] w fun e w'=>e=.returned (.int .i64 (r))∧Ext w w':=by
 refine aM fun e=> ?_
 unfold aL.zJ at hx;obtain⟨p1,P1,u1,U1,rfl,rfl,x1,hx1⟩:=TN.append.1 hx;clear hx;obtain⟨A0,c0,b0,r0_,U_1,rfl,rfl,t0,l0,m0,x1_⟩:=TN.eF x1;obtain⟨rfl,rfl⟩:=TN.end_ x1_;clear x1_ x1;obtain⟨p2,P2,u2,U2,rfl,rfl,x2,hx2⟩:=TN.append.1 hx1;clear hx1;obtain⟨A1,c1,b1,r1_,U_2,rfl,rfl,t1,l1,m1,x2_⟩:=TN.eF x2;obtain⟨rfl,rfl⟩:=TN.end_ x2_;clear x2_ x2;obtain⟨p3,P3,u3,U3,rfl,rfl,x3,hx3⟩:=TN.append.1 hx2;clear hx2;obtain⟨U_3,rfl,x3_⟩:=TN.gL x3;obtain⟨rfl,rfl⟩:=TN.end_ x3_;clear x3_ x3;obtain⟨p4,P4,u4,U4,rfl,rfl,x4,hx4⟩:=TN.append.1 hx3
 clear hx3;obtain⟨U_4,rfl,x4_⟩:=TN.gL x4;obtain⟨rfl,rfl⟩:=TN.end_ x4_;clear x4_ x4;obtain⟨p5,P5,u5,U5,rfl,rfl,x5,hx5⟩:=TN.append.1 hx4;clear hx4;obtain⟨p6,P6,u6,U6,rfl,rfl,x6,hx6⟩:=TN.append.1 hx5;clear hx5;obtain⟨A5,c5,b5,r5_,U_6,rfl,rfl,t5,l5,m5,x6_⟩:=TN.eF x6;obtain⟨rfl,rfl⟩:=TN.end_ x6_;clear x6_ x6;obtain⟨p7,P7,u7,U7,rfl,rfl,x7,hx7⟩:=TN.append.1 hx6;clear hx6;obtain⟨A6,c6,b6,r6_,U_7,rfl,rfl,t6,l6,m6,x7_⟩:=TN.eF x7;obtain⟨rfl,rfl⟩:=TN.end_ x7_;clear x7_ x7;have x8:=hx7;clear hx7;obtain⟨A7,c7,b7,r7_,U_8,rfl,rfl,t7,l7,m7,x8_⟩:=TN.eF x8
 obtain⟨rfl,rfl⟩:=TN.end_ x8_;clear x8_ x8;have y5:=x5;unfold aG.zJ at y5;have z5:=y5;clear y5;obtain⟨A4,c4,_,_,_,rfl,_,_,_,_,z5_⟩:=TN.eF z5;obtain⟨rfl,_⟩:=TN.end_ z5_;clear z5_ z5;obtain⟨r1,hr1⟩:∃q:Int,q=k+((cN (x.book.flatMap aG.enc):Nat):Int):=⟨_,rfl⟩;obtain⟨r2,hr2⟩:∃q:Int,q=r1+((cN (x.schedule.flatMap aT):Nat):Int):=⟨_,rfl⟩;rw[show k+(cN (x.book.flatMap aG.enc):Nat)=r1 from by omega]at t1;obtain⟨r3,hr3⟩:∃q:Int,q=r2+((x.net.cnt:Nat):Int):=⟨_,rfl⟩;rw[show k+(cN (x.book.flatMap aG.enc):Nat)+(cN (x.schedule.flatMap aT):Nat)=r2 from by omega]at x5
 obtain⟨r4,hr4⟩:∃q:Int,q=r3+((cN (x.origins.flatMap aB.enc):Nat):Int):=⟨_,rfl⟩;rw[show k+(cN (x.book.flatMap aG.enc):Nat)+(cN (x.schedule.flatMap aT):Nat)+(x.net.cnt:Nat)=r3 from by omega]at t5;obtain⟨r5,hr5⟩:∃q:Int,q=r4+((cN (x.breaks.flatMap aH.enc):Nat):Int):=⟨_,rfl⟩;rw[show k+(cN (x.book.flatMap aG.enc):Nat)+(cN (x.schedule.flatMap aT):Nat)+(x.net.cnt:Nat)+(cN (x.origins.flatMap aB.enc):Nat)=r4 from by omega]at t6;obtain⟨r6,hr6⟩:∃q:Int,q=r5+((cN (x.points.flatMap aA.enc):Nat):Int):=⟨_,rfl⟩
 rw[show k+(cN (x.book.flatMap aG.enc):Nat)+(cN (x.schedule.flatMap aT):Nat)+(x.net.cnt:Nat)+(cN (x.origins.flatMap aB.enc):Nat)+(cN (x.breaks.flatMap aH.enc):Nat)=r5 from by omega]at t7;have hcn:x.cnt=cN (x.book.flatMap aG.enc)+cN (x.schedule.flatMap aT)+x.net.cnt+cN (x.origins.flatMap aB.enc)+cN (x.breaks.flatMap aH.enc)+cN (x.points.flatMap aA.enc):=rfl;have hE:r6=r:=by have h1:=Hr.out;omega
 have E:=Lib.hid hE;have p1:0≤r1:=by omega
 have q1:r1≤4611686018427387904:=by have h1:=Hr.out;omega
 have Hr1:Hid (r1=k+((cN (x.book.flatMap aG.enc):Nat):Int)):=hr1;have p2:0≤r2:=by omega
 have q2:r2≤4611686018427387904:=by have h1:=Hr.out;omega
 have Hr2:Hid (r2=r1+((cN (x.schedule.flatMap aT):Nat):Int)):=hr2;have p3:0≤r3:=by omega
 have q3:r3≤4611686018427387904:=by have h1:=Hr.out;omega
 have Hr3:Hid (r3=r2+((x.net.cnt:Nat):Int)):=hr3;have p4:0≤r4:=by omega
 have q4:r4≤4611686018427387904:=by have h1:=Hr.out;omega
 have Hr4:Hid (r4=r3+((cN (x.origins.flatMap aB.enc):Nat):Int)):=hr4;have p5:0≤r5:=by omega
 have q5:r5≤4611686018427387904:=by have h1:=Hr.out;omega
 have Hr5:Hid (r5=r4+((cN (x.breaks.flatMap aH.enc):Nat):Int)):=hr5;have p6:0≤r6:=by omega
 have q6:r6≤4611686018427387904:=by have h1:=Hr.out;omega
 have Hr6:Hid (r6=r5+((cN (x.points.flatMap aA.enc):Nat):Int)):=hr6;clear hcn hE Hr hr1 hr2 hr3 hr4 hr5 hr6
 go_enter Tryz.func19,Tryz.ntmps19
 go_upto_region 1 with(fail)
 generalize hgg:e.to.heap.size=g;refine dQ e hgg (fun w1 e hx1 hgeg hltg cg=> ?_);clear hgg
 replace t0:=t0.below hx1
 replace t1:=t1.below hx1
 replace x5:=x5.below hx1
 replace t5:=t5.below hx1
 replace t6:=t6.below hx1
 replace t7:=t7.below hx1
 simp only[List.cons_append,List.nil_append,qS]at cg;have y0:=cg.always hltg 0 _ rfl;have y1:=cg.always hltg 1 _ rfl;have y2:=cg.always hltg 2 _ rfl;have y3:=cg.always hltg 3 _ rfl;have y4:=cg.always hltg 4 _ rfl;have y5:=cg.always hltg 5 _ rfl;have y6:=cg.always hltg 6 _ rfl;have y7:=cg.always hltg 7 _ rfl;simp only[Nat.zero_add]at y0 y1 y2 y3 y4 y5 y6 y7;clear cg;have C1:Hid (QC Tryz.prog w1 _ _ _):=fun W hW=>Cv x.book (k) r1 x.book.length W (t0.below hW) dI (by omega) q1 Hr1
 have C2:Hid (QC Tryz.prog w1 _ _ _):=fun W hW=>rA x.schedule (r1) r2 x.schedule.length W (t1.below hW) dI (by omega) q2 Hr2
 have C3:Hid (QC Tryz.prog w1 _ _ _):=fun W hW=>Ee x.net (r2) r3 W (TN.below x5 hW) (by omega) q3 Hr3
 have C4:Hid (QC Tryz.prog w1 _ _ _):=fun W hW=>pQ x.origins (r3) r4 x.origins.length W (t5.below hW) dI (by omega) q4 Hr4
 have C5:Hid (QC Tryz.prog w1 _ _ _):=fun W hW=>zq x.breaks (r4) r5 x.breaks.length W (t6.below hW) dI (by omega) q5 Hr5
 have C6:Hid (QC Tryz.prog w1 _ _ _):=fun W hW=>sV x.points (r5) r6 x.points.length W (t7.below hW) dI (by omega) q6 Hr6
 go_wp2_with (first|(go_at_call 40;with_reducible refine(C1.out.at_ _).mono ?_;rintro _ _ ⟨rfl,e,rfl⟩)|(go_at_call 41;with_reducible refine(C2.out.at_ _).mono ?_;rintro _ _ ⟨rfl,e,rfl⟩)|(go_at_call 42;with_reducible refine(C3.out.at_ _).mono ?_;rintro _ _ ⟨rfl,e,rfl⟩)|(go_at_call 43;with_reducible refine(C4.out.at_ _).mono ?_;rintro _ _ ⟨rfl,e,rfl⟩)|(go_at_call 44;with_reducible refine(C5.out.at_ _).mono ?_;rintro _ _ ⟨rfl,e,rfl⟩)|(go_at_call 45;with_reducible refine(C6.out.at_ _).mono ?_;rintro _ _ ⟨rfl,e,rfl⟩))
 repeat (refine ak _ (by kernel_rfl) (by kernel_rfl) ?_;(repeat (go_big_quiet_step ((first|with_reducible exact C1.out.at_ _|with_reducible exact C2.out.at_ _|with_reducible exact C3.out.at_ _|with_reducible exact C4.out.at_ _|with_reducible exact C5.out.at_ _|with_reducible exact C6.out.at_ _))));refine wpQuiet_nil ?_;intro e;go_wp2_with (first|(go_at_call 40;with_reducible refine(C1.out.at_ _).mono ?_;rintro _ _ ⟨rfl,e,rfl⟩)|(go_at_call 41;with_reducible refine(C2.out.at_ _).mono ?_;rintro _ _ ⟨rfl,e,rfl⟩)|(go_at_call 42;with_reducible refine(C3.out.at_ _).mono ?_;rintro _ _ ⟨rfl,e,rfl⟩)|(go_at_call 43;with_reducible refine(C4.out.at_ _).mono ?_;rintro _ _ ⟨rfl,e,rfl⟩)|(go_at_call 44;with_reducible refine(C5.out.at_ _).mono ?_;rintro _ _ ⟨rfl,e,rfl⟩)|(go_at_call 45;with_reducible refine(C6.out.at_ _).mono ?_;rintro _ _ ⟨rfl,e,rfl⟩)))
 go_ret;exact⟨by rw[←E.out];rfl,aK.old hx1 e⟩
end Go.Proofs.YtjpaeopdljfjpaaGreat
