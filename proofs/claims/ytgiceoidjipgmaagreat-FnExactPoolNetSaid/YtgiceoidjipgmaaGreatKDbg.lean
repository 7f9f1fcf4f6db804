
/- What the laws number and look for again in these types. Printed by gen_mk.py. -/
import Derived.Test.YtgiceoidjipgmaaGreatProg
import Derived.Test.YtgiceoidjipgmaaGreatSc
import Derived.Test.YtgiceoidjipgmaaGreatNet
import Derived.BigGuardPart
import Derived.Outline
import Derived.Deep.CutBlock
set_option maxHeartbeats 4000000
set_option linter.unusedSimpArgs false
set_option linter.unusedVariables false
namespace Go.Tr
open Go Go.RowKit
def bV.tH(x:bV)(k:Int):List D:=[.sl x.agents.length (dh (x.agents.flatMap ak.enc) (k))]
def bV.cnt(x:bV):Nat:=cN (x.agents.flatMap ak.enc)
def bB.tH(x:bB)(k:Int):List D:=[.sl x.book.length (dh (x.book.flatMap bV.enc) (k))]++([.sl x.schedule.length (dh (x.schedule.flatMap aP) (k+(cN (x.book.flatMap bV.enc):Nat)))]++([.v (.int .i64 x.every)]++([.v (.int .i64 x.at_)]++(x.net.tH (k+(cN (x.book.flatMap bV.enc):Nat)+(cN (x.schedule.flatMap aP):Nat))++([.sl x.origins.length (dh (x.origins.flatMap aW.enc) (k+(cN (x.book.flatMap bV.enc):Nat)+(cN (x.schedule.flatMap aP):Nat)+(x.net.cnt:Nat)))]++([.sl x.breaks.length (dh (x.breaks.flatMap bO.enc) (k+(cN (x.book.flatMap bV.enc):Nat)+(cN (x.schedule.flatMap aP):Nat)+(x.net.cnt:Nat)+(cN (x.origins.flatMap aW.enc):Nat)))]++([.sl x.points.length (dh (x.points.flatMap aB.enc) (k+(cN (x.book.flatMap bV.enc):Nat)+(cN (x.schedule.flatMap aP):Nat)+(x.net.cnt:Nat)+(cN (x.origins.flatMap aW.enc):Nat)+(cN (x.breaks.flatMap bO.enc):Nat)))])))))))
def bB.cnt(x:bB):Nat:=cN (x.book.flatMap bV.enc)+cN (x.schedule.flatMap aP)+x.net.cnt+cN (x.origins.flatMap aW.enc)+cN (x.breaks.flatMap bO.enc)+cN (x.points.flatMap aB.enc)
theorem aG.mh(x:aG):cN x.enc≤32*(1+(fun _=>0) x):=by
 have hc:cN x.enc=1+1:=by show cN [.v (.int .i64 x.agent),.v (.int .i64 x.slot)]=_;simp only[bN,fV,eD,bM]<;>omega
 omega
theorem ak.mh(x:ak):cN x.enc≤32*(1+x.wt):=by
 have h3:=aX (f:=aP) (g:=(fun _=>0)) rO x.data;have h4:=aX (f:=aG.enc) (g:=(fun _=>0)) aG.mh x.aH;have hw:x.wt=jw (fun _=>0) x.data+jw (fun _=>0) x.aH:=rfl;have hc:cN x.enc=1+1+1+cN (x.data.flatMap aP)+cN (x.aH.flatMap aG.enc):=by show cN [.v (.int .i64 x.kind),.v (.int .i64 x.level),.v (.int .i64 x.value),.sl x.data.length (x.data.flatMap aP),.sl x.aH.length (x.aH.flatMap aG.enc)]=_;simp only[bN,fV,eD,bM]<;>omega
 omega
theorem bV.mh(x:bV):cN x.enc≤32*(1+x.wt):=by
 have h0:=aX (f:=ak.enc) (g:=ak.wt) ak.mh x.agents;have hw:x.wt=jw ak.wt x.agents:=rfl;have hc:cN x.enc=cN (x.agents.flatMap ak.enc):=by show cN [.sl x.agents.length (x.agents.flatMap ak.enc)]=_;simp only[bN,fV,eD,bM]<;>omega
 omega
theorem bV.sN(x:bV):x.cnt≤32*x.wt:=by
 have h0:=aX (f:=ak.enc) (g:=ak.wt) ak.mh x.agents;have hw:x.wt=jw ak.wt x.agents:=rfl;have hc:x.cnt=cN (x.agents.flatMap ak.enc):=rfl;omega
theorem aW.mh(x:aW):cN x.enc≤32*(1+(fun _=>0) x):=by
 have hc:cN x.enc=1+1+1:=by show cN [.v (.int .i64 x.step),.v (.int .i64 x.def_),.v (.int .i64 x.source)]=_;simp only[bN,fV,eD,bM]<;>omega
 omega
theorem bO.mh(x:bO):cN x.enc≤32*(1+(fun _=>0) x):=by
 have hc:cN x.enc=1+1:=by show cN [.v (.int .i64 x.kind),.v (.int .i64 x.value)]=_;simp only[bN,fV,eD,bM]<;>omega
 omega
theorem aB.mh(x:aB):cN x.enc≤32*(1+x.wt):=by
 have h1:=aX (f:=ak.enc) (g:=ak.wt) ak.mh x.net.agents;have h2:=aX (f:=aW.enc) (g:=(fun _=>0)) aW.mh x.origins;have hw:x.wt=x.net.wt+jw (fun _=>0) x.origins:=rfl;have n1:x.net.wt=jw ak.wt x.net.agents:=rfl;have hc:cN x.enc=1+cN (x.net.agents.flatMap ak.enc)+cN (x.origins.flatMap aW.enc):=by show cN [.v (.int .i64 x.at_),.sl x.net.agents.length (x.net.agents.flatMap ak.enc),.sl x.origins.length (x.origins.flatMap aW.enc)]=_;simp only[bN,fV,eD,bM]<;>omega
 omega
theorem bB.mh(x:bB):cN x.enc≤32*(1+x.wt):=by
 have h0:=aX (f:=bV.enc) (g:=bV.wt) bV.mh x.book;have h1:=aX (f:=aP) (g:=(fun _=>0)) rO x.schedule;have h4:=aX (f:=ak.enc) (g:=ak.wt) ak.mh x.net.agents;have h5:=aX (f:=aW.enc) (g:=(fun _=>0)) aW.mh x.origins;have h6:=aX (f:=bO.enc) (g:=(fun _=>0)) bO.mh x.breaks;have h7:=aX (f:=aB.enc) (g:=aB.wt) aB.mh x.points;have hw:x.wt=jw bV.wt x.book+jw (fun _=>0) x.schedule+x.net.wt+jw (fun _=>0) x.origins+jw (fun _=>0) x.breaks+jw aB.wt x.points:=rfl
 have n4:x.net.wt=jw ak.wt x.net.agents:=rfl;have hc:cN x.enc=cN (x.book.flatMap bV.enc)+cN (x.schedule.flatMap aP)+1+1+cN (x.net.agents.flatMap ak.enc)+cN (x.origins.flatMap aW.enc)+cN (x.breaks.flatMap bO.enc)+cN (x.points.flatMap aB.enc):=by show cN [.sl x.book.length (x.book.flatMap bV.enc),.sl x.schedule.length (x.schedule.flatMap aP),.v (.int .i64 x.every),.v (.int .i64 x.at_),.sl x.net.agents.length (x.net.agents.flatMap ak.enc),.sl x.origins.length (x.origins.flatMap aW.enc),.sl x.breaks.length (x.breaks.flatMap bO.enc),.sl x.points.length (x.points.flatMap aB.enc)]=_;simp only[bN,fV,eD,bM]<;>omega
 omega
theorem bB.sN(x:bB):x.cnt≤32*x.wt:=by
 have h0:=aX (f:=bV.enc) (g:=bV.wt) bV.mh x.book;have h1:=aX (f:=aP) (g:=(fun _=>0)) rO x.schedule;have h4:=aX (f:=ak.enc) (g:=ak.wt) ak.mh x.net.agents;have h5:=aX (f:=aW.enc) (g:=(fun _=>0)) aW.mh x.origins;have h6:=aX (f:=bO.enc) (g:=(fun _=>0)) bO.mh x.breaks;have h7:=aX (f:=aB.enc) (g:=aB.wt) aB.mh x.points;have hw:x.wt=jw bV.wt x.book+jw (fun _=>0) x.schedule+x.net.wt+jw (fun _=>0) x.origins+jw (fun _=>0) x.breaks+jw aB.wt x.points:=rfl
 have n4:x.net.wt=jw ak.wt x.net.agents:=rfl;have hc:x.cnt=cN (x.book.flatMap bV.enc)+cN (x.schedule.flatMap aP)+x.net.cnt+cN (x.origins.flatMap aW.enc)+cN (x.breaks.flatMap bO.enc)+cN (x.points.flatMap aB.enc):=rfl;have c2:=bV.sN x.net;omega
end Go.Tr
namespace Go.Proofs.YtgiceoidjipgmaaGreat
open Go Go.RowKit Go.Proofs Go.Tr
theorem lC(xs:List Int)(k:Int){A:Option Addr}{c lo:Nat}{bs}(w:World)(hx:T1 w (.sl xs.length (xs.flatMap aP)) bs (.slice A xs.length c))(ho:Own lo w bs)(hn':xs.length≤maxLen)(hk0:0≤k)(hk1:k+(cN (xs.flatMap aP):Nat)≤4611686018427387904):
  Calls Tryz.prog 60 #[.slice A xs.length c,.int .i64 k] w fun e w'=>∃r:Int,e=.returned (.int .i64 r)∧Hid (r=k+(cN (xs.flatMap aP):Nat))∧T1 w' (.sl xs.length (dh (xs.flatMap aP) k)) bs (.slice A xs.length c)∧iC bs w w'∧Own lo w' bs:=by
 unfold maxLen at hn';obtain⟨n,hn⟩:∃n,xs.length=n:=⟨_,rfl⟩;rw[hn]at hx hn' ⊢;have Hn:Hid (xs.length=n):=hn;clear hn;have hkk:=Lib.hid hk1;clear hk1
 go_enter Tryz.func60,Tryz.ntmps60
 go_wp2_with fail
 go_loopw [1,5] (fun l i w'=>∃(j:Nat) (m:Int),j≤n∧i=.int .i64 j∧l=.int .i64 m∧Hid (m=k+(cN ((xs.take j).flatMap aP):Nat))∧0≤m∧T1 w' (.sl n (dh ((xs.take j).flatMap aP) k++(xs.drop j).flatMap aP)) bs (.slice A n c)∧iC bs w w'∧Own lo w' bs) (fun _ i _=>n-(intOf i).toNat)
 case atStart=>exact⟨0,k,Nat.zero_le _,rfl,rfl,Lib.hid (by simp[bM]),hk0,by simpa[eO]using hx,iC.refl _ _,ho⟩
 case round=>
  obtain⟨j,m,hj,rfl,rfl,hm,hm0,ht,hon,hw⟩:=hrel
  by_cases hlt:j<n
  ·obtain⟨x,hxk,hsp,hll,hsn,hdr⟩:=fE aP 1 (fun _=>rfl) Hn hlt;rw[hdr.out,List.flatMap_cons]at ht;have hml:(dh ((xs.take j).flatMap aP) k).length=j*1:=by rw[jh,hll]
   generalize hL:dh ((xs.take j).flatMap aP) k=L at ht hml;have HL:=Lib.hid hL;clear hL hll;have hcx:Hid (cN (aP x)=1):=by show cN [.v (.int .i64 x)]=_;simp only[bN,fV,eD,bM]<;>omega
   have hbd:m+1≤4611686018427387904:=by
    have h1:=hm.out;have h2:=hkk.out;have h3:=hcx.out
    have h4:=hsp.out;have h5:cN (xs.flatMap aP)=cN ((xs.take j).flatMap aP)+(cN (aP x)+cN ((xs.drop (j+1)).flatMap aP)):=by rw[h4,bf,bf]
    omega
   replace ht:T1 wr (.sl n (L++(.v (.int .i64 x))::(xs.drop (j+1)).flatMap aP)) bs (.slice A n c):=ht
   generalize hR:(xs.drop (j+1)).flatMap aP=R at ht;have HR:=Lib.hid hR;clear hR;obtain⟨b,off,rfl, -,hbm,hbl,hblo,hfz⟩:=ht.row hw;have z0_0:T1 wr (.sl n (L++(.v (.int .i64 x))::R)) bs (.slice (some ⟨b,off,none⟩) n c):=by exact ht
   have y0_0:=(z0_0.leaf hw (o:=off+j) rfl (by simp only[List.length_append,List.length_cons,List.length_nil,hml]<;>omega)).1;obtain⟨t0,u0,v0⟩:=(ht.leaf hw (o:=off+j) rfl (by simp only[List.length_append,List.length_cons,List.length_nil,hml]<;>omega)).2 (.int .i64 m) rfl
   replace t0:T1 (World.setCell wr ⟨b,off+j,none⟩ (.int .i64 m)) (.sl n (L++(.v (.int .i64 m))::R)) bs (.slice (some ⟨b,off,none⟩) n c):=t0
   clear z0_0
   go_wp2_with fail
   have hmk:dh (aP x) m=[.v (.int .i64 m)]:=by
    show dh [.v (.int .i64 x)] m=_;simp only[fQ,eO,jC,lD,fV,eD]
    all_goals (exact(bS (gZ (by omega)) rfl))
   have hfin:dh ((xs.take (j+1)).flatMap aP) k++(xs.drop (j+1)).flatMap aP=L++(.v (.int .i64 m))::R:=by
    rw[hsn.out,dP,HL.out,←hm.out,hmk,List.append_assoc,HR.out];rfl
   exact⟨⟨j+1,m+1,by omega,by go_num,by first|rfl|go_num,Lib.hid (by rw[hsn.out,bf];have h8:=hcx.out;have h9:=hm.out;omega),by omega,by rw[hfin];exact t0,(hon).trans u0,v0⟩,by simp[intOf];omega⟩
  ·have:j=n:=by omega
   subst this
   go_wp2_with fail
   go_ret;have hl:=Hn.out;rw[List.take_of_length_le (by omega),List.drop_of_length_le (by omega)]at ht;have hm':=hm.out;rw[List.take_of_length_le (by omega)]at hm';exact⟨m,rfl,hm',by simpa using ht,hon,hw⟩
theorem wD(xs:List Int)(k r:Int)(n:Nat){A:Option Addr}{c:Nat}{bs:List Nat}(w:World)(hx:T1 w (.sl n (dh (xs.flatMap aP) k)) bs (.slice A n c))(Hn:Hid (xs.length=n))(hk0:0≤k)(hk1:r≤4611686018427387904)(Hr:Hid (r=k+(cN (xs.flatMap aP):Nat))):Calls Tryz.prog 62 #[.slice A n c,.int .i64 k] w fun e w'=>e=.returned (.int .i64 (r))∧Ext w w':=by
 refine cO fun e=> ?_
 have hn:=hx.Jy
 go_enter Tryz.func62,Tryz.ntmps62
 go_wp2_with fail
 repeat (refine aO _ (by kernel_rfl) (by kernel_rfl) ?_;(repeat (go_big_quiet_step (fail)));refine wpQuiet_nil ?_;intro e;go_wp2_with fail)
 go_loopw [1,5] (fun l i w'=>∃(j:Nat) (m:Int),j≤n∧i=.int .i64 j∧l=.int .i64 m∧Hid (m=k+(cN ((xs.take j).flatMap aP):Nat))∧0≤m∧∃e:bn w,w'=e.to) (fun _ i _=>n-(intOf i).toNat)
 case atStart=>exact⟨0,k,Nat.zero_le _,rfl,rfl,Lib.hid (by simp[bM]),hk0,_,rfl⟩
 case round=>
  obtain⟨j,m,hj,rfl,rfl,hm,hm0,e,rfl⟩:=hrel
  by_cases hlt:j<n
  ·obtain⟨x,hxk,hsp,hll,hsn, -⟩:=fE aP 1 (fun _=>rfl) Hn hlt;have hcx:Hid (cN (aP x)=1):=by show cN [.v (.int .i64 x)]=_;simp only[bN,fV,eD,bM]<;>omega
   have hbd:m+1≤4611686018427387904:=by
    have h1:=hm.out;have h2:=Hr.out;have h3:=hcx.out
    have h5:cN (xs.flatMap aP)=cN ((xs.take j).flatMap aP)+(cN (aP x)+cN ((xs.drop (j+1)).flatMap aP)):=by rw[hsp.out,bf,bf]
    omega
   have hmk:dh (aP x) m=[.v (.int .i64 (m))]:=by
    show dh [.v (.int .i64 x)] m=_;simp only[fQ,eO,jC,lD,fV,eD]
    all_goals (exact(bS (gZ (by omega)) rfl))
   have hxx:=hx;rw[hsp.out,dP,dP,←hm.out,hmk]at hxx;have hml:(dh ((xs.take j).flatMap aP) k).length=j*1:=by rw[jh,hll]
   generalize hL:dh ((xs.take j).flatMap aP) k=L at hxx hml;clear hL hll hmk;generalize hR:dh ((xs.drop (j+1)).flatMap aP) (m+(cN (aP x):Nat))=R at hxx;clear hR
   replace hxx:T1 w (.sl n (L++(.v (.int .i64 (m)))::R)) bs (.slice A n c):=hxx
   obtain⟨b,off,rfl⟩:=hxx.Mf;have z0:T1 w (.sl n (L++(.v (.int .i64 (m)))::R)) bs (.slice (some ⟨b,off,none⟩) n c):=by exact hxx
   have y0:=z0.zk (o:=off+j) rfl (by simp only[List.length_append,List.length_cons,List.length_nil,hml]<;>omega);clear hxx z0
   go_wp2_with fail
   repeat (refine aO _ (by kernel_rfl) (by kernel_rfl) ?_;(repeat (go_big_quiet_step (fail)));refine wpQuiet_nil ?_;intro e;go_wp2_with fail)
   exact⟨⟨j+1,m+1,by omega,by go_num,by first|rfl|go_num,Lib.hid (by rw[hsn.out,bf];have h8:=hcx.out;have h9:=hm.out;omega),by omega,_,rfl⟩,by simp[intOf];omega⟩
  ·have:j=n:=by omega
   subst this
   have E:Hid (r=m):=by
    have h1:=hm.out;have h2:=Hr.out;have h3:=Hn.out
    rw[List.take_of_length_le (by omega)]at h1;show _=_;omega
   go_wp2_with fail
   repeat (refine aO _ (by kernel_rfl) (by kernel_rfl) ?_;(repeat (go_big_quiet_step (fail)));refine wpQuiet_nil ?_;intro e;go_wp2_with fail)
   go_ret;exact⟨by rw[E.out];rfl,_,rfl⟩
theorem yD(xs:List aG)(k:Int){A:Option Addr}{c lo:Nat}{bs}(w:World)(hx:T1 w (.sl xs.length (xs.flatMap aG.enc)) bs (.slice A xs.length c))(ho:Own lo w bs)(hn':xs.length≤maxLen)(hk0:0≤k)(hk1:k+(cN (xs.flatMap aG.enc):Nat)≤4611686018427387904):
  Calls Tryz.prog 61 #[.slice A xs.length c,.int .i64 k] w fun e w'=>∃r:Int,e=.returned (.int .i64 r)∧Hid (r=k+(cN (xs.flatMap aG.enc):Nat))∧T1 w' (.sl xs.length (dh (xs.flatMap aG.enc) k)) bs (.slice A xs.length c)∧iC bs w w'∧Own lo w' bs:=by
 unfold maxLen at hn';obtain⟨n,hn⟩:∃n,xs.length=n:=⟨_,rfl⟩;rw[hn]at hx hn' ⊢;have Hn:Hid (xs.length=n):=hn;clear hn;have hkk:=Lib.hid hk1;clear hk1
 go_enter Tryz.func61,Tryz.ntmps61
 go_wp2_with fail
 go_loopw [1,5] (fun l i w'=>∃(j:Nat) (m:Int),j≤n∧i=.int .i64 j∧l=.int .i64 m∧Hid (m=k+(cN ((xs.take j).flatMap aG.enc):Nat))∧0≤m∧T1 w' (.sl n (dh ((xs.take j).flatMap aG.enc) k++(xs.drop j).flatMap aG.enc)) bs (.slice A n c)∧iC bs w w'∧Own lo w' bs) (fun _ i _=>n-(intOf i).toNat)
 case atStart=>exact⟨0,k,Nat.zero_le _,rfl,rfl,Lib.hid (by simp[bM]),hk0,by simpa[eO]using hx,iC.refl _ _,ho⟩
 case round=>
  obtain⟨j,m,hj,rfl,rfl,hm,hm0,ht,hon,hw⟩:=hrel
  by_cases hlt:j<n
  ·obtain⟨x,hxk,hsp,hll,hsn,hdr⟩:=fE aG.enc 2 aG.aT Hn hlt;rw[hdr.out,List.flatMap_cons]at ht;have hml:(dh ((xs.take j).flatMap aG.enc) k).length=j*2:=by rw[jh,hll]
   generalize hL:dh ((xs.take j).flatMap aG.enc) k=L at ht hml;have HL:=Lib.hid hL;clear hL hll;have hcx:Hid (cN (aG.enc x)=1+1):=by show cN [.v (.int .i64 x.agent),.v (.int .i64 x.slot)]=_;simp only[bN,fV,eD,bM]<;>omega
   have hbd:m+1+1≤4611686018427387904:=by
    have h1:=hm.out;have h2:=hkk.out;have h3:=hcx.out
    have h4:=hsp.out;have h5:cN (xs.flatMap aG.enc)=cN ((xs.take j).flatMap aG.enc)+(cN (aG.enc x)+cN ((xs.drop (j+1)).flatMap aG.enc)):=by rw[h4,bf,bf]
    omega
   replace ht:T1 wr (.sl n (L++(.v (.int .i64 x.agent))::(.v (.int .i64 x.slot))::(xs.drop (j+1)).flatMap aG.enc)) bs (.slice A n c):=ht
   generalize hR:(xs.drop (j+1)).flatMap aG.enc=R at ht;have HR:=Lib.hid hR;clear hR;obtain⟨b,off,rfl, -,hbm,hbl,hblo,hfz⟩:=ht.row hw;have z0_0:T1 wr (.sl n (L++(.v (.int .i64 x.agent))::(.v (.int .i64 x.slot))::R)) bs (.slice (some ⟨b,off,none⟩) n c):=by exact ht
   have y0_0:=(z0_0.leaf hw (o:=off+j*2) rfl (by simp only[List.length_append,List.length_cons,List.length_nil,hml]<;>omega)).1;have z0_1:T1 wr (.sl n ((L++[.v (.int .i64 x.agent)])++(.v (.int .i64 x.slot))::R)) bs (.slice (some ⟨b,off,none⟩) n c):=by rw[List.append_assoc];exact ht
   have y0_1:=(z0_1.leaf hw (o:=off+j*2+1) rfl (by simp only[List.length_append,List.length_cons,List.length_nil,hml]<;>omega)).1;obtain⟨t0,u0,v0⟩:=(ht.leaf hw (o:=off+j*2) rfl (by simp only[List.length_append,List.length_cons,List.length_nil,hml]<;>omega)).2 (.int .i64 m) rfl
   replace t0:T1 (World.setCell wr ⟨b,off+j*2,none⟩ (.int .i64 m)) (.sl n (L++(.v (.int .i64 m))::(.v (.int .i64 x.slot))::R)) bs (.slice (some ⟨b,off,none⟩) n c):=t0
   replace t0:T1 (World.setCell wr ⟨b,off+j*2,none⟩ (.int .i64 m)) (.sl n ((L++[.v (.int .i64 m)])++(.v (.int .i64 x.slot))::R)) bs (.slice (some ⟨b,off,none⟩) n c):=by rw[List.append_assoc];exact t0
   obtain⟨t1,u1,v1⟩:=(t0.leaf v0 (o:=off+j*2+1) rfl (by simp only[List.length_append,List.length_cons,List.length_nil,hml]<;>omega)).2 (.int .i64 (m+1)) rfl;rw[List.append_assoc]at t1
   replace t1:T1 (World.setCell (World.setCell wr ⟨b,off+j*2,none⟩ (.int .i64 m)) ⟨b,off+j*2+1,none⟩ (.int .i64 (m+1))) (.sl n (L++(.v (.int .i64 m))::(.v (.int .i64 (m+1)))::R)) bs (.slice (some ⟨b,off,none⟩) n c):=t1
   clear z0_0 z0_1
   go_wp2_with fail
   have hmk:dh (aG.enc x) m=[.v (.int .i64 m),.v (.int .i64 (m+1))]:=by
    show dh [.v (.int .i64 x.agent),.v (.int .i64 x.slot)] m=_;simp only[fQ,eO,jC,lD,fV,eD]
    all_goals (exact(bS (gZ (by omega)) (bS (gZ (by omega)) rfl)))
   have hfin:dh ((xs.take (j+1)).flatMap aG.enc) k++(xs.drop (j+1)).flatMap aG.enc=L++(.v (.int .i64 m))::(.v (.int .i64 (m+1)))::R:=by
    rw[hsn.out,dP,HL.out,←hm.out,hmk,List.append_assoc,HR.out];rfl
   exact⟨⟨j+1,m+1+1,by omega,by go_num,by first|rfl|go_num,Lib.hid (by rw[hsn.out,bf];have h8:=hcx.out;have h9:=hm.out;omega),by omega,by rw[hfin];exact t1,((hon).trans u0).trans u1,v1⟩,by simp[intOf];omega⟩
  ·have:j=n:=by omega
   subst this
   go_wp2_with fail
   go_ret;have hl:=Hn.out;rw[List.take_of_length_le (by omega),List.drop_of_length_le (by omega)]at ht;have hm':=hm.out;rw[List.take_of_length_le (by omega)]at hm';exact⟨m,rfl,hm',by simpa using ht,hon,hw⟩
theorem yt(xs:List aG)(k r:Int)(n:Nat){A:Option Addr}{c:Nat}{bs:List Nat}(w:World)(hx:T1 w (.sl n (dh (xs.flatMap aG.enc) k)) bs (.slice A n c))(Hn:Hid (xs.length=n))(hk0:0≤k)(hk1:r≤4611686018427387904)(Hr:Hid (r=k+(cN (xs.flatMap aG.enc):Nat))):Calls Tryz.prog 63 #[.slice A n c,.int .i64 k] w fun e w'=>e=.returned (.int .i64 (r))∧Ext w w':=by
 refine cO fun e=> ?_
 have hn:=hx.Jy
 go_enter Tryz.func63,Tryz.ntmps63
 go_wp2_with fail
 repeat (refine aO _ (by kernel_rfl) (by kernel_rfl) ?_;(repeat (go_big_quiet_step (fail)));refine wpQuiet_nil ?_;intro e;go_wp2_with fail)
 go_loopw [1,5] (fun l i w'=>∃(j:Nat) (m:Int),j≤n∧i=.int .i64 j∧l=.int .i64 m∧Hid (m=k+(cN ((xs.take j).flatMap aG.enc):Nat))∧0≤m∧∃e:bn w,w'=e.to) (fun _ i _=>n-(intOf i).toNat)
 case atStart=>exact⟨0,k,Nat.zero_le _,rfl,rfl,Lib.hid (by simp[bM]),hk0,_,rfl⟩
 case round=>
  obtain⟨j,m,hj,rfl,rfl,hm,hm0,e,rfl⟩:=hrel
  by_cases hlt:j<n
  ·obtain⟨x,hxk,hsp,hll,hsn, -⟩:=fE aG.enc 2 aG.aT Hn hlt;have hcx:Hid (cN (aG.enc x)=1+1):=by show cN [.v (.int .i64 x.agent),.v (.int .i64 x.slot)]=_;simp only[bN,fV,eD,bM]<;>omega
   have hbd:m+1+1≤4611686018427387904:=by
    have h1:=hm.out;have h2:=Hr.out;have h3:=hcx.out
    have h5:cN (xs.flatMap aG.enc)=cN ((xs.take j).flatMap aG.enc)+(cN (aG.enc x)+cN ((xs.drop (j+1)).flatMap aG.enc)):=by rw[hsp.out,bf,bf]
    omega
   have hmk:dh (aG.enc x) m=[.v (.int .i64 (m)),.v (.int .i64 (m+1))]:=by
    show dh [.v (.int .i64 x.agent),.v (.int .i64 x.slot)] m=_;simp only[fQ,eO,jC,lD,fV,eD]
    all_goals (exact(bS (gZ (by omega)) (bS (gZ (by omega)) rfl)))
   have hxx:=hx;rw[hsp.out,dP,dP,←hm.out,hmk]at hxx;have hml:(dh ((xs.take j).flatMap aG.enc) k).length=j*2:=by rw[jh,hll]
   generalize hL:dh ((xs.take j).flatMap aG.enc) k=L at hxx hml;clear hL hll hmk;generalize hR:dh ((xs.drop (j+1)).flatMap aG.enc) (m+(cN (aG.enc x):Nat))=R at hxx;clear hR
   replace hxx:T1 w (.sl n (L++(.v (.int .i64 (m)))::(.v (.int .i64 (m+1)))::R)) bs (.slice A n c):=hxx
   obtain⟨b,off,rfl⟩:=hxx.Mf;have z0:T1 w (.sl n (L++(.v (.int .i64 (m)))::(.v (.int .i64 (m+1)))::R)) bs (.slice (some ⟨b,off,none⟩) n c):=by exact hxx
   have y0:=z0.zk (o:=off+j*2) rfl (by simp only[List.length_append,List.length_cons,List.length_nil,hml]<;>omega);have z1:T1 w (.sl n ((L++[.v (.int .i64 (m))])++(.v (.int .i64 (m+1)))::R)) bs (.slice (some ⟨b,off,none⟩) n c):=by rw[List.append_assoc];exact hxx
   have y1:=z1.zk (o:=off+j*2+1) rfl (by simp only[List.length_append,List.length_cons,List.length_nil,hml]<;>omega);clear hxx z0 z1
   go_wp2_with fail
   repeat (refine aO _ (by kernel_rfl) (by kernel_rfl) ?_;(repeat (go_big_quiet_step (fail)));refine wpQuiet_nil ?_;intro e;go_wp2_with fail)
   exact⟨⟨j+1,m+1+1,by omega,by go_num,by first|rfl|go_num,Lib.hid (by rw[hsn.out,bf];have h8:=hcx.out;have h9:=hm.out;omega),by omega,_,rfl⟩,by simp[intOf];omega⟩
  ·have:j=n:=by omega
   subst this
   have E:Hid (r=m):=by
    have h1:=hm.out;have h2:=Hr.out;have h3:=Hn.out
    rw[List.take_of_length_le (by omega)]at h1;show _=_;omega
   go_wp2_with fail
   repeat (refine aO _ (by kernel_rfl) (by kernel_rfl) ?_;(repeat (go_big_quiet_step (fail)));refine wpQuiet_nil ?_;intro e;go_wp2_with fail)
   go_ret;exact⟨by rw[E.out];rfl,_,rfl⟩
theorem wN(xs:List ak)(k:Int){A:Option Addr}{c lo:Nat}{bs}(w:World)(hx:T1 w (.sl xs.length (xs.flatMap ak.enc)) bs (.slice A xs.length c))(ho:Own lo w bs)(hn':xs.length≤maxLen)(hk0:0≤k)(hk1:k+(cN (xs.flatMap ak.enc):Nat)≤4611686018427387904):
  Calls Tryz.prog 26 #[.slice A xs.length c,.int .i64 k] w fun e w'=>∃r:Int,e=.returned (.int .i64 r)∧Hid (r=k+(cN (xs.flatMap ak.enc):Nat))∧T1 w' (.sl xs.length (dh (xs.flatMap ak.enc) k)) bs (.slice A xs.length c)∧iC bs w w'∧Own lo w' bs:=by
 unfold maxLen at hn';obtain⟨n,hn⟩:∃n,xs.length=n:=⟨_,rfl⟩;rw[hn]at hx hn' ⊢;have Hn:Hid (xs.length=n):=hn;clear hn;have hkk:=Lib.hid hk1;clear hk1
 go_enter Tryz.func26,Tryz.ntmps26
 go_wp2_with fail
 go_loopw [1,5] (fun l i w'=>∃(j:Nat) (m:Int),j≤n∧i=.int .i64 j∧l=.int .i64 m∧Hid (m=k+(cN ((xs.take j).flatMap ak.enc):Nat))∧0≤m∧T1 w' (.sl n (dh ((xs.take j).flatMap ak.enc) k++(xs.drop j).flatMap ak.enc)) bs (.slice A n c)∧iC bs w w'∧Own lo w' bs) (fun _ i _=>n-(intOf i).toNat)
 case atStart=>exact⟨0,k,Nat.zero_le _,rfl,rfl,Lib.hid (by simp[bM]),hk0,by simpa[eO]using hx,iC.refl _ _,ho⟩
 case round=>
  obtain⟨j,m,hj,rfl,rfl,hm,hm0,ht,hon,hw⟩:=hrel
  by_cases hlt:j<n
  ·obtain⟨x,hxk,hsp,hll,hsn,hdr⟩:=fE ak.enc 5 ak.aT Hn hlt;rw[hdr.out,List.flatMap_cons]at ht;have hml:(dh ((xs.take j).flatMap ak.enc) k).length=j*5:=by rw[jh,hll]
   generalize hL:dh ((xs.take j).flatMap ak.enc) k=L at ht hml;have HL:=Lib.hid hL;clear hL hll;have hcx:Hid (cN (ak.enc x)=1+1+1+cN (x.data.flatMap aP)+cN (x.aH.flatMap aG.enc)):=by show cN [.v (.int .i64 x.kind),.v (.int .i64 x.level),.v (.int .i64 x.value),.sl x.data.length (x.data.flatMap aP),.sl x.aH.length (x.aH.flatMap aG.enc)]=_;simp only[bN,fV,eD,bM]<;>omega
   have hbd:m+1+1+1+(cN (x.data.flatMap aP):Nat)+(cN (x.aH.flatMap aG.enc):Nat)≤4611686018427387904:=by
    have h1:=hm.out;have h2:=hkk.out;have h3:=hcx.out
    have h4:=hsp.out;have h5:cN (xs.flatMap ak.enc)=cN ((xs.take j).flatMap ak.enc)+(cN (ak.enc x)+cN ((xs.drop (j+1)).flatMap ak.enc)):=by rw[h4,bf,bf]
    omega
   replace ht:T1 wr (.sl n (L++(.v (.int .i64 x.kind))::(.v (.int .i64 x.level))::(.v (.int .i64 x.value))::(.sl x.data.length (x.data.flatMap aP))::(.sl x.aH.length (x.aH.flatMap aG.enc))::(xs.drop (j+1)).flatMap ak.enc)) bs (.slice A n c):=ht
   generalize hR:(xs.drop (j+1)).flatMap ak.enc=R at ht;have HR:=Lib.hid hR;clear hR;obtain⟨b,off,rfl, -,hbm,hbl,hblo,hfz⟩:=ht.row hw;have z0_0:T1 wr (.sl n (L++(.v (.int .i64 x.kind))::(.v (.int .i64 x.level))::(.v (.int .i64 x.value))::(.sl x.data.length (x.data.flatMap aP))::(.sl x.aH.length (x.aH.flatMap aG.enc))::R)) bs (.slice (some ⟨b,off,none⟩) n c):=by exact ht
   have y0_0:=(z0_0.leaf hw (o:=off+j*5) rfl (by simp only[List.length_append,List.length_cons,List.length_nil,hml]<;>omega)).1;have z0_1:T1 wr (.sl n ((L++[.v (.int .i64 x.kind)])++(.v (.int .i64 x.level))::(.v (.int .i64 x.value))::(.sl x.data.length (x.data.flatMap aP))::(.sl x.aH.length (x.aH.flatMap aG.enc))::R)) bs (.slice (some ⟨b,off,none⟩) n c):=by rw[List.append_assoc];exact ht
   have y0_1:=(z0_1.leaf hw (o:=off+j*5+1) rfl (by simp only[List.length_append,List.length_cons,List.length_nil,hml]<;>omega)).1;have z0_2:T1 wr (.sl n ((L++[.v (.int .i64 x.kind),.v (.int .i64 x.level)])++(.v (.int .i64 x.value))::(.sl x.data.length (x.data.flatMap aP))::(.sl x.aH.length (x.aH.flatMap aG.enc))::R)) bs (.slice (some ⟨b,off,none⟩) n c):=by rw[List.append_assoc];exact ht
   have y0_2:=(z0_2.leaf hw (o:=off+j*5+2) rfl (by simp only[List.length_append,List.length_cons,List.length_nil,hml]<;>omega)).1;have z0_3:T1 wr (.sl n ((L++[.v (.int .i64 x.kind),.v (.int .i64 x.level),.v (.int .i64 x.value)])++(.sl x.data.length (x.data.flatMap aP))::(.sl x.aH.length (x.aH.flatMap aG.enc))::R)) bs (.slice (some ⟨b,off,none⟩) n c):=by rw[List.append_assoc];exact ht
   obtain⟨A0_3,c0_3,b0_3,y0_3, -⟩:=z0_3.sub hw (o:=off+j*5+3) rfl (by simp only[List.length_append,List.length_cons,List.length_nil,hml]<;>omega);obtain⟨t0,u0,v0⟩:=(ht.leaf hw (o:=off+j*5) rfl (by simp only[List.length_append,List.length_cons,List.length_nil,hml]<;>omega)).2 (.int .i64 m) rfl
   replace t0:T1 (World.setCell wr ⟨b,off+j*5,none⟩ (.int .i64 m)) (.sl n (L++(.v (.int .i64 m))::(.v (.int .i64 x.level))::(.v (.int .i64 x.value))::(.sl x.data.length (x.data.flatMap aP))::(.sl x.aH.length (x.aH.flatMap aG.enc))::R)) bs (.slice (some ⟨b,off,none⟩) n c):=t0
   replace t0:T1 (World.setCell wr ⟨b,off+j*5,none⟩ (.int .i64 m)) (.sl n ((L++[.v (.int .i64 m)])++(.v (.int .i64 x.level))::(.v (.int .i64 x.value))::(.sl x.data.length (x.data.flatMap aP))::(.sl x.aH.length (x.aH.flatMap aG.enc))::R)) bs (.slice (some ⟨b,off,none⟩) n c):=by rw[List.append_assoc];exact t0
   obtain⟨t1,u1,v1⟩:=(t0.leaf v0 (o:=off+j*5+1) rfl (by simp only[List.length_append,List.length_cons,List.length_nil,hml]<;>omega)).2 (.int .i64 (m+1)) rfl;rw[List.append_assoc]at t1
   replace t1:T1 (World.setCell (World.setCell wr ⟨b,off+j*5,none⟩ (.int .i64 m)) ⟨b,off+j*5+1,none⟩ (.int .i64 (m+1))) (.sl n (L++(.v (.int .i64 m))::(.v (.int .i64 (m+1)))::(.v (.int .i64 x.value))::(.sl x.data.length (x.data.flatMap aP))::(.sl x.aH.length (x.aH.flatMap aG.enc))::R)) bs (.slice (some ⟨b,off,none⟩) n c):=t1
   replace t1:T1 (World.setCell (World.setCell wr ⟨b,off+j*5,none⟩ (.int .i64 m)) ⟨b,off+j*5+1,none⟩ (.int .i64 (m+1))) (.sl n ((L++[.v (.int .i64 m),.v (.int .i64 (m+1))])++(.v (.int .i64 x.value))::(.sl x.data.length (x.data.flatMap aP))::(.sl x.aH.length (x.aH.flatMap aG.enc))::R)) bs (.slice (some ⟨b,off,none⟩) n c):=by rw[List.append_assoc];exact t1
   obtain⟨t2,u2,v2⟩:=(t1.leaf v1 (o:=off+j*5+2) rfl (by simp only[List.length_append,List.length_cons,List.length_nil,hml]<;>omega)).2 (.int .i64 (m+1+1)) rfl;rw[List.append_assoc]at t2
   replace t2:T1 (World.setCell (World.setCell (World.setCell wr ⟨b,off+j*5,none⟩ (.int .i64 m)) ⟨b,off+j*5+1,none⟩ (.int .i64 (m+1))) ⟨b,off+j*5+2,none⟩ (.int .i64 (m+1+1))) (.sl n (L++(.v (.int .i64 m))::(.v (.int .i64 (m+1)))::(.v (.int .i64 (m+1+1)))::(.sl x.data.length (x.data.flatMap aP))::(.sl x.aH.length (x.aH.flatMap aG.enc))::R)) bs (.slice (some ⟨b,off,none⟩) n c):=t2
   have g3:T1 (World.setCell (World.setCell (World.setCell wr ⟨b,off+j*5,none⟩ (.int .i64 m)) ⟨b,off+j*5+1,none⟩ (.int .i64 (m+1))) ⟨b,off+j*5+2,none⟩ (.int .i64 (m+1+1))) (.sl n ((L++[.v (.int .i64 m),.v (.int .i64 (m+1)),.v (.int .i64 (m+1+1))])++(.sl x.data.length (x.data.flatMap aP))::(.sl x.aH.length (x.aH.flatMap aG.enc))::R)) bs (.slice (some ⟨b,off,none⟩) n c):=by rw[List.append_assoc];exact t2
   obtain⟨A3,c3,b3,k3,s3,n3,o3,nb3,back3⟩:=g3.sub v2 (o:=off+j*5+3) rfl (by simp only[List.length_append,List.length_cons,List.length_nil,hml]<;>omega)
   obtain⟨rfl,rfl⟩:A0_3=A3∧c0_3=c3:=by
    have hh:=k3;rw[cK _ _ _ _ _ (by omega)]at hh;rw[cK _ _ _ _ _ (by omega)]at hh;rw[cK _ _ _ _ _ (by omega)]at hh;rw[y0_3]at hh;simpa using hh
   clear k3;have HB3:=Lib.hid back3;clear back3 g3;clear z0_0 z0_1 z0_2 z0_3
   go_wp2_with fail
   refine(lC x.data (m+1+1+1) _ s3 o3 n3 (by omega) (by omega)).mono ?_;rintro _ W1 ⟨r1,rfl,hr1,q3,f3, -⟩;obtain⟨t3,u3,v3⟩:=HB3.out W1 _ f3 q3;have p1:0≤r1:=by have:=hr1.out;omega
   have l1:r1+(cN (x.aH.flatMap aG.enc):Nat)≤4611686018427387904:=by have:=hr1.out;omega
   rw[List.append_assoc]at t3
   replace t3:T1 W1 (.sl n (L++(.v (.int .i64 m))::(.v (.int .i64 (m+1)))::(.v (.int .i64 (m+1+1)))::(.sl x.data.length (dh (x.data.flatMap aP) (m+1+1+1)))::(.sl x.aH.length (x.aH.flatMap aG.enc))::R)) bs (.slice (some ⟨b,off,none⟩) n c):=t3
   have hfz1:∀o,World.frozen? W1 ⟨b,o,none⟩=false:=fun o=>(by obtain⟨_,cur,tt,hrow⟩:=v3.2 b hbm;simp[World.frozen?,hrow])
   have z1_4:T1 W1 (.sl n ((L++[.v (.int .i64 m),.v (.int .i64 (m+1)),.v (.int .i64 (m+1+1)),.sl x.data.length (dh (x.data.flatMap aP) (m+1+1+1))])++(.sl x.aH.length (x.aH.flatMap aG.enc))::R)) bs (.slice (some ⟨b,off,none⟩) n c):=by rw[List.append_assoc];exact t3
   obtain⟨A1_4,c1_4,b1_4,y1_4, -⟩:=z1_4.sub v3 (o:=off+j*5+4) rfl (by simp only[List.length_append,List.length_cons,List.length_nil,hml]<;>omega);have g4:T1 W1 (.sl n ((L++[.v (.int .i64 m),.v (.int .i64 (m+1)),.v (.int .i64 (m+1+1)),.sl x.data.length (dh (x.data.flatMap aP) (m+1+1+1))])++(.sl x.aH.length (x.aH.flatMap aG.enc))::R)) bs (.slice (some ⟨b,off,none⟩) n c):=by rw[List.append_assoc];exact t3
   obtain⟨A4,c4,b4,k4,s4,n4,o4,nb4,back4⟩:=g4.sub v3 (o:=off+j*5+4) rfl (by simp only[List.length_append,List.length_cons,List.length_nil,hml]<;>omega)
   obtain⟨rfl,rfl⟩:A1_4=A4∧c1_4=c4:=by
    have hh:=k4;rw[y1_4]at hh;simpa using hh
   clear k4;have HB4:=Lib.hid back4;clear back4 g4;clear z1_4
   go_wp2_with fail
   refine(yD x.aH (r1) _ s4 o4 n4 (by omega) (by omega)).mono ?_;rintro _ W2 ⟨r2,rfl,hr2,q4,f4, -⟩;obtain⟨t4,u4,v4⟩:=HB4.out W2 _ f4 q4;have p2:0≤r2:=by have:=hr2.out;omega
   have l2:r2+0≤4611686018427387904:=by have:=hr2.out;omega
   rw[List.append_assoc]at t4
   replace t4:T1 W2 (.sl n (L++(.v (.int .i64 m))::(.v (.int .i64 (m+1)))::(.v (.int .i64 (m+1+1)))::(.sl x.data.length (dh (x.data.flatMap aP) (m+1+1+1)))::(.sl x.aH.length (dh (x.aH.flatMap aG.enc) (r1)))::R)) bs (.slice (some ⟨b,off,none⟩) n c):=t4
   go_wp2_with fail
   have hmk:dh (ak.enc x) m=[.v (.int .i64 m),.v (.int .i64 (m+1)),.v (.int .i64 (m+1+1)),.sl x.data.length (dh (x.data.flatMap aP) (m+1+1+1)),.sl x.aH.length (dh (x.aH.flatMap aG.enc) (r1))]:=by
    show dh [.v (.int .i64 x.kind),.v (.int .i64 x.level),.v (.int .i64 x.value),.sl x.data.length (x.data.flatMap aP),.sl x.aH.length (x.aH.flatMap aG.enc)] m=_;simp only[fQ,eO,jC,lD,fV,eD]
    all_goals (have h1:=hr1.out;have h2:=hr2.out;exact(bS (gZ (by omega)) (bS (gZ (by omega)) (bS (gZ (by omega)) (bS (nH (by omega)) (bS (nH (by omega)) rfl))))))
   have hfin:dh ((xs.take (j+1)).flatMap ak.enc) k++(xs.drop (j+1)).flatMap ak.enc=L++(.v (.int .i64 m))::(.v (.int .i64 (m+1)))::(.v (.int .i64 (m+1+1)))::(.sl x.data.length (dh (x.data.flatMap aP) (m+1+1+1)))::(.sl x.aH.length (dh (x.aH.flatMap aG.enc) (r1)))::R:=by
    rw[hsn.out,dP,HL.out,←hm.out,hmk,List.append_assoc,HR.out];rfl
   exact⟨⟨j+1,r2,by omega,by go_num,by first|rfl|go_num,Lib.hid (by rw[hsn.out,bf];have h1:=hr1.out;have h2:=hr2.out;have h8:=hcx.out;have h9:=hm.out;omega),by omega,by rw[hfin];exact t4,(((((hon).trans u0).trans u1).trans u2).trans u3).trans u4,v4⟩,by simp[intOf];omega⟩
  ·have:j=n:=by omega
   subst this
   go_wp2_with fail
   go_ret;have hl:=Hn.out;rw[List.take_of_length_le (by omega),List.drop_of_length_le (by omega)]at ht;have hm':=hm.out;rw[List.take_of_length_le (by omega)]at hm';exact⟨m,rfl,hm',by simpa using ht,hon,hw⟩
theorem wC(xs:List ak)(k r:Int)(n:Nat){A:Option Addr}{c:Nat}{bs:List Nat}(w:World)(hx:T1 w (.sl n (dh (xs.flatMap ak.enc) k)) bs (.slice A n c))(Hn:Hid (xs.length=n))(hk0:0≤k)(hk1:r≤4611686018427387904)(Hr:Hid (r=k+(cN (xs.flatMap ak.enc):Nat))):Calls Tryz.prog 27 #[.slice A n c,.int .i64 k] w fun e w'=>e=.returned (.int .i64 (r))∧Ext w w':=by
 refine cO fun e=> ?_
 have hn:=hx.Jy
 go_enter Tryz.func27,Tryz.ntmps27
 go_wp2_with fail
 repeat (refine aO _ (by kernel_rfl) (by kernel_rfl) ?_;(repeat (go_big_quiet_step (fail)));refine wpQuiet_nil ?_;intro e;go_wp2_with fail)
 go_loopw [1,5] (fun l i w'=>∃(j:Nat) (m:Int),j≤n∧i=.int .i64 j∧l=.int .i64 m∧Hid (m=k+(cN ((xs.take j).flatMap ak.enc):Nat))∧0≤m∧∃e:bn w,w'=e.to) (fun _ i _=>n-(intOf i).toNat)
 case atStart=>exact⟨0,k,Nat.zero_le _,rfl,rfl,Lib.hid (by simp[bM]),hk0,_,rfl⟩
 case round=>
  obtain⟨j,m,hj,rfl,rfl,hm,hm0,e,rfl⟩:=hrel
  by_cases hlt:j<n
  ·obtain⟨x,hxk,hsp,hll,hsn, -⟩:=fE ak.enc 5 ak.aT Hn hlt;have hcx:Hid (cN (ak.enc x)=1+1+1+cN (x.data.flatMap aP)+cN (x.aH.flatMap aG.enc)):=by show cN [.v (.int .i64 x.kind),.v (.int .i64 x.level),.v (.int .i64 x.value),.sl x.data.length (x.data.flatMap aP),.sl x.aH.length (x.aH.flatMap aG.enc)]=_;simp only[bN,fV,eD,bM]<;>omega
   have hbd:m+1+1+1+(cN (x.data.flatMap aP):Nat)+(cN (x.aH.flatMap aG.enc):Nat)≤4611686018427387904:=by
    have h1:=hm.out;have h2:=Hr.out;have h3:=hcx.out
    have h5:cN (xs.flatMap ak.enc)=cN ((xs.take j).flatMap ak.enc)+(cN (ak.enc x)+cN ((xs.drop (j+1)).flatMap ak.enc)):=by rw[hsp.out,bf,bf]
    omega
   obtain⟨r1,hr1⟩:∃q:Int,q=m+1+1+1+((cN (x.data.flatMap aP):Nat):Int):=⟨_,rfl⟩;obtain⟨r2,hr2⟩:∃q:Int,q=r1+((cN (x.aH.flatMap aG.enc):Nat):Int):=⟨_,rfl⟩
   have hmk:dh (ak.enc x) m=[.v (.int .i64 (m)),.v (.int .i64 (m+1)),.v (.int .i64 (m+1+1)),.sl x.data.length (dh (x.data.flatMap aP) (m+1+1+1)),.sl x.aH.length (dh (x.aH.flatMap aG.enc) (r1))]:=by
    show dh [.v (.int .i64 x.kind),.v (.int .i64 x.level),.v (.int .i64 x.value),.sl x.data.length (x.data.flatMap aP),.sl x.aH.length (x.aH.flatMap aG.enc)] m=_;simp only[fQ,eO,jC,lD,fV,eD]
    all_goals (exact(bS (gZ (by omega)) (bS (gZ (by omega)) (bS (gZ (by omega)) (bS (nH (by omega)) (bS (nH (by omega)) rfl))))))
   have hxx:=hx;rw[hsp.out,dP,dP,←hm.out,hmk]at hxx;have hml:(dh ((xs.take j).flatMap ak.enc) k).length=j*5:=by rw[jh,hll]
   generalize hL:dh ((xs.take j).flatMap ak.enc) k=L at hxx hml;clear hL hll hmk;generalize hR:dh ((xs.drop (j+1)).flatMap ak.enc) (m+(cN (ak.enc x):Nat))=R at hxx;clear hR
   replace hxx:T1 w (.sl n (L++(.v (.int .i64 (m)))::(.v (.int .i64 (m+1)))::(.v (.int .i64 (m+1+1)))::(.sl x.data.length (dh (x.data.flatMap aP) (m+1+1+1)))::(.sl x.aH.length (dh (x.aH.flatMap aG.enc) (r1)))::R)) bs (.slice A n c):=hxx
   obtain⟨b,off,rfl⟩:=hxx.Mf;have z0:T1 w (.sl n (L++(.v (.int .i64 (m)))::(.v (.int .i64 (m+1)))::(.v (.int .i64 (m+1+1)))::(.sl x.data.length (dh (x.data.flatMap aP) (m+1+1+1)))::(.sl x.aH.length (dh (x.aH.flatMap aG.enc) (r1)))::R)) bs (.slice (some ⟨b,off,none⟩) n c):=by exact hxx
   have y0:=z0.zk (o:=off+j*5) rfl (by simp only[List.length_append,List.length_cons,List.length_nil,hml]<;>omega);have z1:T1 w (.sl n ((L++[.v (.int .i64 (m))])++(.v (.int .i64 (m+1)))::(.v (.int .i64 (m+1+1)))::(.sl x.data.length (dh (x.data.flatMap aP) (m+1+1+1)))::(.sl x.aH.length (dh (x.aH.flatMap aG.enc) (r1)))::R)) bs (.slice (some ⟨b,off,none⟩) n c):=by rw[List.append_assoc];exact hxx
   have y1:=z1.zk (o:=off+j*5+1) rfl (by simp only[List.length_append,List.length_cons,List.length_nil,hml]<;>omega);have z2:T1 w (.sl n ((L++[.v (.int .i64 (m)),.v (.int .i64 (m+1))])++(.v (.int .i64 (m+1+1)))::(.sl x.data.length (dh (x.data.flatMap aP) (m+1+1+1)))::(.sl x.aH.length (dh (x.aH.flatMap aG.enc) (r1)))::R)) bs (.slice (some ⟨b,off,none⟩) n c):=by rw[List.append_assoc];exact hxx
   have y2:=z2.zk (o:=off+j*5+2) rfl (by simp only[List.length_append,List.length_cons,List.length_nil,hml]<;>omega);have z3:T1 w (.sl n ((L++[.v (.int .i64 (m)),.v (.int .i64 (m+1)),.v (.int .i64 (m+1+1))])++(.sl x.data.length (dh (x.data.flatMap aP) (m+1+1+1)))::(.sl x.aH.length (dh (x.aH.flatMap aG.enc) (r1)))::R)) bs (.slice (some ⟨b,off,none⟩) n c):=by rw[List.append_assoc];exact hxx
   obtain⟨A3,c3,b3,y3,s3,n3⟩:=z3.ND (o:=off+j*5+3) rfl (by simp only[List.length_append,List.length_cons,List.length_nil,hml]<;>omega);have z4:T1 w (.sl n ((L++[.v (.int .i64 (m)),.v (.int .i64 (m+1)),.v (.int .i64 (m+1+1)),.sl x.data.length (dh (x.data.flatMap aP) (m+1+1+1))])++(.sl x.aH.length (dh (x.aH.flatMap aG.enc) (r1)))::R)) bs (.slice (some ⟨b,off,none⟩) n c):=by rw[List.append_assoc];exact hxx
   obtain⟨A4,c4,b4,y4,s4,n4⟩:=z4.ND (o:=off+j*5+4) rfl (by simp only[List.length_append,List.length_cons,List.length_nil,hml]<;>omega);clear hxx z0 z1 z2 z3 z4;have p1:0≤r1:=by omega
   have l1:r1≤4611686018427387904:=by omega
   have ll1:r1+(cN (x.aH.flatMap aG.enc):Nat)≤4611686018427387904:=by omega
   have Hr1:Hid (r1=m+1+1+1+((cN (x.data.flatMap aP):Nat):Int)):=hr1;have C1:Hid (QC Tryz.prog w _ _ _):=fun W hW=>wD x.data (m+1+1+1) r1 x.data.length W (s3.below hW) zH (by omega) l1 Hr1
   have p2:0≤r2:=by omega
   have l2:r2≤4611686018427387904:=by omega
   have Hr2:Hid (r2=r1+((cN (x.aH.flatMap aG.enc):Nat):Int)):=hr2;have C2:Hid (QC Tryz.prog w _ _ _):=fun W hW=>yt x.aH (r1) r2 x.aH.length W (s4.below hW) zH (by omega) l2 Hr2
   clear hr1 hr2
   go_wp2_with (first|(go_at_call 62;with_reducible refine(C1.out.at_ _).mono ?_;rintro _ _ ⟨rfl,e,rfl⟩)|(go_at_call 63;with_reducible refine(C2.out.at_ _).mono ?_;rintro _ _ ⟨rfl,e,rfl⟩))
   repeat (refine aO _ (by kernel_rfl) (by kernel_rfl) ?_;(repeat (go_big_quiet_step ((first|with_reducible exact C1.out.at_ _|with_reducible exact C2.out.at_ _))));refine wpQuiet_nil ?_;intro e;go_wp2_with (first|(go_at_call 62;with_reducible refine(C1.out.at_ _).mono ?_;rintro _ _ ⟨rfl,e,rfl⟩)|(go_at_call 63;with_reducible refine(C2.out.at_ _).mono ?_;rintro _ _ ⟨rfl,e,rfl⟩)))
   exact⟨⟨j+1,r2,by omega,by go_num,by first|rfl|go_num,Lib.hid (by rw[hsn.out,bf];have h1:=Hr1.out;have h2:=Hr2.out;have h8:=hcx.out;have h9:=hm.out;omega),by omega,_,rfl⟩,by simp[intOf];omega⟩
  ·have:j=n:=by omega
   subst this
   have E:Hid (r=m):=by
    have h1:=hm.out;have h2:=Hr.out;have h3:=Hn.out
    rw[List.take_of_length_le (by omega)]at h1;show _=_;omega
   go_wp2_with fail
   repeat (refine aO _ (by kernel_rfl) (by kernel_rfl) ?_;(repeat (go_big_quiet_step (fail)));refine wpQuiet_nil ?_;intro e;go_wp2_with fail)
   go_ret;exact⟨by rw[E.out];rfl,_,rfl⟩
theorem Co(x:bV)(k:Int){bs us}{lo:Nat}(w:World)(hx:TN w x.enc bs us)(ho:Own lo w bs)(hk0:0≤k)(hk1:k+(x.cnt:Nat)≤4611686018427387904):
  Calls Tryz.prog 11 #[.agg us.toArray,.int .i64 k] w fun e w'=>∃r:Int,e=.returned (.int .i64 r)∧Hid (r=k+(x.cnt:Nat))∧TN w' (x.tH k) bs us∧iC bs w w'∧Own lo w' bs:=by
 have hlt:=hx.lt;obtain⟨A0,c0,b0,rfl,rfl,t0,l0,m0⟩:=bV.us hx;have o0:=ho;have g0:w.heap.size∉bs:=fun hm=>by have:=hlt _ (show w.heap.size∈bs by simp[hm]);omega
 have B0:∀S,Below w.heap.size w (w.alloc S):=fun _=>(Below.refl _ _).alloc (Nat.le_refl _) _
 have hcn:x.cnt=cN (x.agents.flatMap ak.enc):=rfl;rw[hcn]at hk1;clear hcn hx
 go_enter Tryz.func11,Tryz.ntmps11
 go_wp2_with fail
 refine(wN x.agents k _ (t0.below (B0 _)) (o0.below (B0 _)) (Nat.le_trans l0 m0) (by omega) (by omega)).mono ?_;rintro _ w1 ⟨r1,rfl,hr1,S0,f1,V0⟩;have p1:0≤r1:=by have:=hr1.out;omega
 have b1_:r1+0≤4611686018427387904:=by have:=hr1.out;omega
 have u1:=(f1.other w.heap.size (by simp) g0).trans (heap_alloc_new w _);have z1:w.heap.size<w1.heap.size:=by have:=f1.size;simp at this;omega
 have F1:iC (bs) w w1:=iC.trans (iC.qG (B0 _)) (f1.sub (fun y hy=>by first|exact hy|(simp at hy ⊢;grind)));have q1_0:=cell_of_row _ _ 0 _ _ _ u1;simp only[List.getElem?_toArray,List.getElem?_cons_zero,List.getElem?_cons_succ]at q1_0
 go_wp2_with fail
 go_ret;refine⟨r1,rfl,?_,?_,F1,ho.j5 F1⟩
 ·show _=_;have hcn:x.cnt=cN (x.agents.flatMap ak.enc):=rfl;have h1:=hr1.out;omega
 ·have h1:=hr1.out;skip;have h:=(TN.fI S0 TN.done);simp only[List.append_nil,List.nil_append,List.append_assoc,List.cons_append]at h;unfold bV.tH;simpa only[List.append_nil,List.nil_append,List.append_assoc,List.cons_append]using h
theorem uF(x:bV)(k r:Int){bs us}(w:World)(hx:TN w (x.tH k) bs us)(hk0:0≤k)(hk1:r≤4611686018427387904)(Hr:Hid (r=k+(x.cnt:Nat))):Calls Tryz.prog 12 #[.agg us.toArray,.int .i64 k] w fun e w'=>e=.returned (.int .i64 (r))∧Ext w w':=by
 refine cO fun e=> ?_
 unfold bV.tH at hx;have x1:=hx;clear hx;obtain⟨A0,c0,b0,r0_,U_1,rfl,rfl,t0,l0,m0,x1_⟩:=TN.dW x1;obtain⟨rfl,rfl⟩:=TN.end_ x1_;clear x1_ x1;obtain⟨r1,hr1⟩:∃q:Int,q=k+((cN (x.agents.flatMap ak.enc):Nat):Int):=⟨_,rfl⟩;have hcn:x.cnt=cN (x.agents.flatMap ak.enc):=rfl;have hE:r1=r:=by have h1:=Hr.out;omega
 have E:=Lib.hid hE;have p1:0≤r1:=by omega
 have q1:r1≤4611686018427387904:=by have h1:=Hr.out;omega
 have Hr1:Hid (r1=k+((cN (x.agents.flatMap ak.enc):Nat):Int)):=hr1;clear hcn hE Hr hr1
 go_enter Tryz.func12,Tryz.ntmps12
 go_upto_region 1 with(fail)
 generalize hgg:e.to.heap.size=g;refine jV e hgg (fun w1 e hx1 hgeg hltg cg=> ?_);clear hgg
 replace t0:=t0.below hx1
 simp only[List.cons_append,List.nil_append,List.append_nil]at cg;have y0:=cg.always hltg 0 _ rfl;simp only[Nat.zero_add]at y0;clear cg;have C1:Hid (QC Tryz.prog w1 _ _ _):=fun W hW=>wC x.agents (k) r1 x.agents.length W (t0.below hW) zH (by omega) q1 Hr1
 go_wp2_with (first|(go_at_call 27;with_reducible refine(C1.out.at_ _).mono ?_;rintro _ _ ⟨rfl,e,rfl⟩))
 repeat (refine aO _ (by kernel_rfl) (by kernel_rfl) ?_;(repeat (go_big_quiet_step ((first|with_reducible exact C1.out.at_ _))));refine wpQuiet_nil ?_;intro e;go_wp2_with (first|(go_at_call 27;with_reducible refine(C1.out.at_ _).mono ?_;rintro _ _ ⟨rfl,e,rfl⟩)))
 go_ret;exact⟨by rw[←E.out];rfl,bn.old hx1 e⟩
end Go.Proofs.YtgiceoidjipgmaaGreat
