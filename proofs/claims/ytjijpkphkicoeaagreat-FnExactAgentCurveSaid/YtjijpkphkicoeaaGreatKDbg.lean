
/- What the laws number and look for again in these types. Printed by gen_mk.py. -/
import Derived.Test.YtjijpkphkicoeaaGreatProg
import Derived.Test.YtjijpkphkicoeaaGreatSc
import Derived.Test.YtjijpkphkicoeaaGreatValid
import Derived.BigGuardPart
import Derived.Outline
import Derived.Deep.CutBlock
set_option maxHeartbeats 4000000
set_option linter.unusedSimpArgs false
set_option linter.unusedVariables false
namespace Go.Tr
open Go Go.RowKit
def GNet.OY(x:GNet)(k:Int):List D:=[.sl x.agents.length (jh (x.agents.flatMap GAgent.enc) (k))]
def GNet.cnt(x:GNet):Nat:=cN (x.agents.flatMap GAgent.enc)
def aP.OY(x:aP)(k:Int):List D:=[.sl x.book.length (jh (x.book.flatMap GNet.enc) (k))]++([.sl x.schedule.length (jh (x.schedule.flatMap intE) (k+(cN (x.book.flatMap GNet.enc):Nat)))]++([.v (.int .i64 x.every)]++([.v (.int .i64 x.at_)]++(x.net.OY (k+(cN (x.book.flatMap GNet.enc):Nat)+(cN (x.schedule.flatMap intE):Nat))++([.sl x.origins.length (jh (x.origins.flatMap aD.enc) (k+(cN (x.book.flatMap GNet.enc):Nat)+(cN (x.schedule.flatMap intE):Nat)+(x.net.cnt:Nat)))]++([.sl x.breaks.length (jh (x.breaks.flatMap aZ.enc) (k+(cN (x.book.flatMap GNet.enc):Nat)+(cN (x.schedule.flatMap intE):Nat)+(x.net.cnt:Nat)+(cN (x.origins.flatMap aD.enc):Nat)))]++([.sl x.points.length (jh (x.points.flatMap au.enc) (k+(cN (x.book.flatMap GNet.enc):Nat)+(cN (x.schedule.flatMap intE):Nat)+(x.net.cnt:Nat)+(cN (x.origins.flatMap aD.enc):Nat)+(cN (x.breaks.flatMap aZ.enc):Nat)))])))))))
def aP.cnt(x:aP):Nat:=cN (x.book.flatMap GNet.enc)+cN (x.schedule.flatMap intE)+x.net.cnt+cN (x.origins.flatMap aD.enc)+cN (x.breaks.flatMap aZ.enc)+cN (x.points.flatMap au.enc)
theorem ak.cnE(x:ak):cN x.enc≤32*(1+(fun _=>0) x):=by
 have hc:cN x.enc=1+1:=by show cN [.v (.int .i64 x.agent),.v (.int .i64 x.slot)]=_;simp only[eP,oU,ko,dX]<;>omega
 omega
theorem GAgent.cnE(x:GAgent):cN x.enc≤32*(1+x.wt):=by
 have h3:=cN_flat_le (f:=intE) (g:=(fun _=>0)) Dq x.data;have h4:=cN_flat_le (f:=ak.enc) (g:=(fun _=>0)) ak.cnE x.ports;have hw:x.wt=wtl (fun _=>0) x.data+wtl (fun _=>0) x.ports:=rfl;have hc:cN x.enc=1+1+1+cN (x.data.flatMap intE)+cN (x.ports.flatMap ak.enc):=by show cN [.v (.int .i64 x.kind),.v (.int .i64 x.level),.v (.int .i64 x.value),.sl x.data.length (x.data.flatMap intE),.sl x.ports.length (x.ports.flatMap ak.enc)]=_;simp only[eP,oU,ko,dX]<;>omega
 omega
theorem GNet.cnE(x:GNet):cN x.enc≤32*(1+x.wt):=by
 have h0:=cN_flat_le (f:=GAgent.enc) (g:=GAgent.wt) GAgent.cnE x.agents;have hw:x.wt=wtl GAgent.wt x.agents:=rfl;have hc:cN x.enc=cN (x.agents.flatMap GAgent.enc):=by show cN [.sl x.agents.length (x.agents.flatMap GAgent.enc)]=_;simp only[eP,oU,ko,dX]<;>omega
 omega
theorem GNet.cnt_le(x:GNet):x.cnt≤32*x.wt:=by
 have h0:=cN_flat_le (f:=GAgent.enc) (g:=GAgent.wt) GAgent.cnE x.agents;have hw:x.wt=wtl GAgent.wt x.agents:=rfl;have hc:x.cnt=cN (x.agents.flatMap GAgent.enc):=rfl;omega
theorem aD.cnE(x:aD):cN x.enc≤32*(1+(fun _=>0) x):=by
 have hc:cN x.enc=1+1+1:=by show cN [.v (.int .i64 x.step),.v (.int .i64 x.def_),.v (.int .i64 x.source)]=_;simp only[eP,oU,ko,dX]<;>omega
 omega
theorem aZ.cnE(x:aZ):cN x.enc≤32*(1+(fun _=>0) x):=by
 have hc:cN x.enc=1+1:=by show cN [.v (.int .i64 x.kind),.v (.int .i64 x.value)]=_;simp only[eP,oU,ko,dX]<;>omega
 omega
theorem au.cnE(x:au):cN x.enc≤32*(1+x.wt):=by
 have h1:=cN_flat_le (f:=GAgent.enc) (g:=GAgent.wt) GAgent.cnE x.net.agents;have h2:=cN_flat_le (f:=aD.enc) (g:=(fun _=>0)) aD.cnE x.origins;have hw:x.wt=x.net.wt+wtl (fun _=>0) x.origins:=rfl;have n1:x.net.wt=wtl GAgent.wt x.net.agents:=rfl;have hc:cN x.enc=1+cN (x.net.agents.flatMap GAgent.enc)+cN (x.origins.flatMap aD.enc):=by show cN [.v (.int .i64 x.at_),.sl x.net.agents.length (x.net.agents.flatMap GAgent.enc),.sl x.origins.length (x.origins.flatMap aD.enc)]=_;simp only[eP,oU,ko,dX]<;>omega
 omega
theorem aP.cnE(x:aP):cN x.enc≤32*(1+x.wt):=by
 have h0:=cN_flat_le (f:=GNet.enc) (g:=GNet.wt) GNet.cnE x.book;have h1:=cN_flat_le (f:=intE) (g:=(fun _=>0)) Dq x.schedule;have h4:=cN_flat_le (f:=GAgent.enc) (g:=GAgent.wt) GAgent.cnE x.net.agents;have h5:=cN_flat_le (f:=aD.enc) (g:=(fun _=>0)) aD.cnE x.origins;have h6:=cN_flat_le (f:=aZ.enc) (g:=(fun _=>0)) aZ.cnE x.breaks;have h7:=cN_flat_le (f:=au.enc) (g:=au.wt) au.cnE x.points;have hw:x.wt=wtl GNet.wt x.book+wtl (fun _=>0) x.schedule+x.net.wt+wtl (fun _=>0) x.origins+wtl (fun _=>0) x.breaks+wtl au.wt x.points:=rfl
 have n4:x.net.wt=wtl GAgent.wt x.net.agents:=rfl;have hc:cN x.enc=cN (x.book.flatMap GNet.enc)+cN (x.schedule.flatMap intE)+1+1+cN (x.net.agents.flatMap GAgent.enc)+cN (x.origins.flatMap aD.enc)+cN (x.breaks.flatMap aZ.enc)+cN (x.points.flatMap au.enc):=by show cN [.sl x.book.length (x.book.flatMap GNet.enc),.sl x.schedule.length (x.schedule.flatMap intE),.v (.int .i64 x.every),.v (.int .i64 x.at_),.sl x.net.agents.length (x.net.agents.flatMap GAgent.enc),.sl x.origins.length (x.origins.flatMap aD.enc),.sl x.breaks.length (x.breaks.flatMap aZ.enc),.sl x.points.length (x.points.flatMap au.enc)]=_;simp only[eP,oU,ko,dX]<;>omega
 omega
theorem aP.cnt_le(x:aP):x.cnt≤32*x.wt:=by
 have h0:=cN_flat_le (f:=GNet.enc) (g:=GNet.wt) GNet.cnE x.book;have h1:=cN_flat_le (f:=intE) (g:=(fun _=>0)) Dq x.schedule;have h4:=cN_flat_le (f:=GAgent.enc) (g:=GAgent.wt) GAgent.cnE x.net.agents;have h5:=cN_flat_le (f:=aD.enc) (g:=(fun _=>0)) aD.cnE x.origins;have h6:=cN_flat_le (f:=aZ.enc) (g:=(fun _=>0)) aZ.cnE x.breaks;have h7:=cN_flat_le (f:=au.enc) (g:=au.wt) au.cnE x.points;have hw:x.wt=wtl GNet.wt x.book+wtl (fun _=>0) x.schedule+x.net.wt+wtl (fun _=>0) x.origins+wtl (fun _=>0) x.breaks+wtl au.wt x.points:=rfl
 have n4:x.net.wt=wtl GAgent.wt x.net.agents:=rfl;have hc:x.cnt=cN (x.book.flatMap GNet.enc)+cN (x.schedule.flatMap intE)+x.net.cnt+cN (x.origins.flatMap aD.enc)+cN (x.breaks.flatMap aZ.enc)+cN (x.points.flatMap au.enc):=rfl;have c2:=GNet.cnt_le x.net;omega
end Go.Tr
namespace Go.Proofs.YtjijpkphkicoeaaGreat
open Go Go.RowKit Go.Proofs Go.Tr
theorem markInt64S_any(xs:List Int)(k:Int){A:Option Addr}{c lo:Nat}{bs}(w:World)(hx:T1 w (.sl xs.length (xs.flatMap intE)) bs (.slice A xs.length c))(ho:Own lo w bs)(hn':xs.length≤maxLen)(hk0:0≤k)(hk1:k+(cN (xs.flatMap intE):Nat)≤4611686018427387904):
  Calls Tryz.prog 23 #[.slice A xs.length c,.int .i64 k] w fun e w'=>∃r:Int,e=.returned (.int .i64 r)∧Hid (r=k+(cN (xs.flatMap intE):Nat))∧T1 w' (.sl xs.length (jh (xs.flatMap intE) k)) bs (.slice A xs.length c)∧Onl bs w w'∧Own lo w' bs:=by
 unfold maxLen at hn';obtain⟨n,hn⟩:∃n,xs.length=n:=⟨_,rfl⟩;rw[hn]at hx hn' ⊢;have Hn:Hid (xs.length=n):=hn;clear hn;have hkk:=Lib.hid hk1;clear hk1
 go_enter Tryz.func23,Tryz.ntmps23
 go_wp2_with fail
 go_loopw [1,5] (fun l i w'=>∃(j:Nat) (m:Int),j≤n∧i=.int .i64 j∧l=.int .i64 m∧Hid (m=k+(cN ((xs.take j).flatMap intE):Nat))∧0≤m∧T1 w' (.sl n (jh ((xs.take j).flatMap intE) k++(xs.drop j).flatMap intE)) bs (.slice A n c)∧Onl bs w w'∧Own lo w' bs) (fun _ i _=>n-(intOf i).toNat)
 case atStart=>exact⟨0,k,Nat.zero_le _,rfl,rfl,Lib.hid (by simp[dX]),hk0,by simpa[jX]using hx,Onl.refl _ _,ho⟩
 case round=>
  obtain⟨j,m,hj,rfl,rfl,hm,hm0,ht,hon,hw⟩:=hrel
  by_cases hlt:j<n
  ·obtain⟨x,hxk,hsp,hll,hsn,hdr⟩:=nE intE 1 (fun _=>rfl) Hn hlt;rw[hdr.out,List.flatMap_cons]at ht;have hml:(jh ((xs.take j).flatMap intE) k).length=j*1:=by rw[sJ,hll]
   generalize hL:jh ((xs.take j).flatMap intE) k=L at ht hml;have HL:=Lib.hid hL;clear hL hll;have hcx:Hid (cN (intE x)=1):=by show cN [.v (.int .i64 x)]=_;simp only[eP,oU,ko,dX]<;>omega
   have hbd:m+1≤4611686018427387904:=by
    have h1:=hm.out;have h2:=hkk.out;have h3:=hcx.out
    have h4:=hsp.out;have h5:cN (xs.flatMap intE)=cN ((xs.take j).flatMap intE)+(cN (intE x)+cN ((xs.drop (j+1)).flatMap intE)):=by rw[h4,cK,cK]
    omega
   replace ht:T1 wr (.sl n (L++(.v (.int .i64 x))::(xs.drop (j+1)).flatMap intE)) bs (.slice A n c):=ht
   generalize hR:(xs.drop (j+1)).flatMap intE=R at ht;have HR:=Lib.hid hR;clear hR;obtain⟨b,off,rfl, -,hbm,hbl,hblo,hfz⟩:=ht.row hw;have z0_0:T1 wr (.sl n (L++(.v (.int .i64 x))::R)) bs (.slice (some ⟨b,off,none⟩) n c):=by exact ht
   have y0_0:=(z0_0.leaf hw (o:=off+j) rfl (by simp only[List.length_append,List.length_cons,List.length_nil,hml]<;>omega)).1;obtain⟨t0,u0,v0⟩:=(ht.leaf hw (o:=off+j) rfl (by simp only[List.length_append,List.length_cons,List.length_nil,hml]<;>omega)).2 (.int .i64 m) rfl
   replace t0:T1 (World.setCell wr ⟨b,off+j,none⟩ (.int .i64 m)) (.sl n (L++(.v (.int .i64 m))::R)) bs (.slice (some ⟨b,off,none⟩) n c):=t0
   clear z0_0
   go_wp2_with fail
   have hmk:jh (intE x) m=[.v (.int .i64 m)]:=by
    show jh [.v (.int .i64 x)] m=_;simp only[kV,jX,vT,zA,oU,ko]
    all_goals (exact(kQ (Al (by omega)) rfl))
   have hfin:jh ((xs.take (j+1)).flatMap intE) k++(xs.drop (j+1)).flatMap intE=L++(.v (.int .i64 m))::R:=by
    rw[hsn.out,jw,HL.out,←hm.out,hmk,List.append_assoc,HR.out];rfl
   exact⟨⟨j+1,m+1,by omega,by go_num,by first|rfl|go_num,Lib.hid (by rw[hsn.out,cK];have h8:=hcx.out;have h9:=hm.out;omega),by omega,by rw[hfin];exact t0,(hon).trans u0,v0⟩,by simp[intOf];omega⟩
  ·have:j=n:=by omega
   subst this
   go_wp2_with fail
   go_ret;have hl:=Hn.out;rw[List.take_of_length_le (by omega),List.drop_of_length_le (by omega)]at ht;have hm':=hm.out;rw[List.take_of_length_le (by omega)]at hm';exact⟨m,rfl,hm',by simpa using ht,hon,hw⟩
theorem heldInt64S_any(xs:List Int)(k r:Int)(n:Nat){A:Option Addr}{c:Nat}{bs:List Nat}(w:World)(hx:T1 w (.sl n (jh (xs.flatMap intE) k)) bs (.slice A n c))(Hn:Hid (xs.length=n))(hk0:0≤k)(hk1:r≤4611686018427387904)(Hr:Hid (r=k+(cN (xs.flatMap intE):Nat))):Calls Tryz.prog 25 #[.slice A n c,.int .i64 k] w fun e w'=>e=.returned (.int .i64 (r))∧Ext w w':=by
 refine quiet_start fun e=> ?_
 have hn:=hx.nle
 go_enter Tryz.func25,Tryz.ntmps25
 go_wp2_with fail
 repeat (refine ah _ (by kernel_rfl) (by kernel_rfl) ?_;(repeat (go_big_quiet_step (fail)));refine wpQuiet_nil ?_;intro e;go_wp2_with fail)
 go_loopw [1,5] (fun l i w'=>∃(j:Nat) (m:Int),j≤n∧i=.int .i64 j∧l=.int .i64 m∧Hid (m=k+(cN ((xs.take j).flatMap intE):Nat))∧0≤m∧∃e:ExtOf w,w'=e.to) (fun _ i _=>n-(intOf i).toNat)
 case atStart=>exact⟨0,k,Nat.zero_le _,rfl,rfl,Lib.hid (by simp[dX]),hk0,_,rfl⟩
 case round=>
  obtain⟨j,m,hj,rfl,rfl,hm,hm0,e,rfl⟩:=hrel
  by_cases hlt:j<n
  ·obtain⟨x,hxk,hsp,hll,hsn, -⟩:=nE intE 1 (fun _=>rfl) Hn hlt;have hcx:Hid (cN (intE x)=1):=by show cN [.v (.int .i64 x)]=_;simp only[eP,oU,ko,dX]<;>omega
   have hbd:m+1≤4611686018427387904:=by
    have h1:=hm.out;have h2:=Hr.out;have h3:=hcx.out
    have h5:cN (xs.flatMap intE)=cN ((xs.take j).flatMap intE)+(cN (intE x)+cN ((xs.drop (j+1)).flatMap intE)):=by rw[hsp.out,cK,cK]
    omega
   have hmk:jh (intE x) m=[.v (.int .i64 (m))]:=by
    show jh [.v (.int .i64 x)] m=_;simp only[kV,jX,vT,zA,oU,ko]
    all_goals (exact(kQ (Al (by omega)) rfl))
   have hxx:=hx;rw[hsp.out,jw,jw,←hm.out,hmk]at hxx;have hml:(jh ((xs.take j).flatMap intE) k).length=j*1:=by rw[sJ,hll]
   generalize hL:jh ((xs.take j).flatMap intE) k=L at hxx hml;clear hL hll hmk;generalize hR:jh ((xs.drop (j+1)).flatMap intE) (m+(cN (intE x):Nat))=R at hxx;clear hR
   replace hxx:T1 w (.sl n (L++(.v (.int .i64 (m)))::R)) bs (.slice A n c):=hxx
   obtain⟨b,off,rfl⟩:=hxx.Uv;have z0:T1 w (.sl n (L++(.v (.int .i64 (m)))::R)) bs (.slice (some ⟨b,off,none⟩) n c):=by exact hxx
   have y0:=z0.SQ (o:=off+j) rfl (by simp only[List.length_append,List.length_cons,List.length_nil,hml]<;>omega);clear hxx z0
   go_wp2_with fail
   repeat (refine ah _ (by kernel_rfl) (by kernel_rfl) ?_;(repeat (go_big_quiet_step (fail)));refine wpQuiet_nil ?_;intro e;go_wp2_with fail)
   exact⟨⟨j+1,m+1,by omega,by go_num,by first|rfl|go_num,Lib.hid (by rw[hsn.out,cK];have h8:=hcx.out;have h9:=hm.out;omega),by omega,_,rfl⟩,by simp[intOf];omega⟩
  ·have:j=n:=by omega
   subst this
   have E:Hid (r=m):=by
    have h1:=hm.out;have h2:=Hr.out;have h3:=Hn.out
    rw[List.take_of_length_le (by omega)]at h1;show _=_;omega
   go_wp2_with fail
   repeat (refine ah _ (by kernel_rfl) (by kernel_rfl) ?_;(repeat (go_big_quiet_step (fail)));refine wpQuiet_nil ?_;intro e;go_wp2_with fail)
   go_ret;exact⟨by rw[E.out];rfl,_,rfl⟩
theorem AY(xs:List ak)(k:Int){A:Option Addr}{c lo:Nat}{bs}(w:World)(hx:T1 w (.sl xs.length (xs.flatMap ak.enc)) bs (.slice A xs.length c))(ho:Own lo w bs)(hn':xs.length≤maxLen)(hk0:0≤k)(hk1:k+(cN (xs.flatMap ak.enc):Nat)≤4611686018427387904):
  Calls Tryz.prog 116 #[.slice A xs.length c,.int .i64 k] w fun e w'=>∃r:Int,e=.returned (.int .i64 r)∧Hid (r=k+(cN (xs.flatMap ak.enc):Nat))∧T1 w' (.sl xs.length (jh (xs.flatMap ak.enc) k)) bs (.slice A xs.length c)∧Onl bs w w'∧Own lo w' bs:=by
 unfold maxLen at hn';obtain⟨n,hn⟩:∃n,xs.length=n:=⟨_,rfl⟩;rw[hn]at hx hn' ⊢;have Hn:Hid (xs.length=n):=hn;clear hn;have hkk:=Lib.hid hk1;clear hk1
 go_enter Tryz.func116,Tryz.ntmps116
 go_wp2_with fail
 go_loopw [1,5] (fun l i w'=>∃(j:Nat) (m:Int),j≤n∧i=.int .i64 j∧l=.int .i64 m∧Hid (m=k+(cN ((xs.take j).flatMap ak.enc):Nat))∧0≤m∧T1 w' (.sl n (jh ((xs.take j).flatMap ak.enc) k++(xs.drop j).flatMap ak.enc)) bs (.slice A n c)∧Onl bs w w'∧Own lo w' bs) (fun _ i _=>n-(intOf i).toNat)
 case atStart=>exact⟨0,k,Nat.zero_le _,rfl,rfl,Lib.hid (by simp[dX]),hk0,by simpa[jX]using hx,Onl.refl _ _,ho⟩
 case round=>
  obtain⟨j,m,hj,rfl,rfl,hm,hm0,ht,hon,hw⟩:=hrel
  by_cases hlt:j<n
  ·obtain⟨x,hxk,hsp,hll,hsn,hdr⟩:=nE ak.enc 2 ak.aN Hn hlt;rw[hdr.out,List.flatMap_cons]at ht;have hml:(jh ((xs.take j).flatMap ak.enc) k).length=j*2:=by rw[sJ,hll]
   generalize hL:jh ((xs.take j).flatMap ak.enc) k=L at ht hml;have HL:=Lib.hid hL;clear hL hll;have hcx:Hid (cN (ak.enc x)=1+1):=by show cN [.v (.int .i64 x.agent),.v (.int .i64 x.slot)]=_;simp only[eP,oU,ko,dX]<;>omega
   have hbd:m+1+1≤4611686018427387904:=by
    have h1:=hm.out;have h2:=hkk.out;have h3:=hcx.out
    have h4:=hsp.out;have h5:cN (xs.flatMap ak.enc)=cN ((xs.take j).flatMap ak.enc)+(cN (ak.enc x)+cN ((xs.drop (j+1)).flatMap ak.enc)):=by rw[h4,cK,cK]
    omega
   replace ht:T1 wr (.sl n (L++(.v (.int .i64 x.agent))::(.v (.int .i64 x.slot))::(xs.drop (j+1)).flatMap ak.enc)) bs (.slice A n c):=ht
   generalize hR:(xs.drop (j+1)).flatMap ak.enc=R at ht;have HR:=Lib.hid hR;clear hR;obtain⟨b,off,rfl, -,hbm,hbl,hblo,hfz⟩:=ht.row hw;have z0_0:T1 wr (.sl n (L++(.v (.int .i64 x.agent))::(.v (.int .i64 x.slot))::R)) bs (.slice (some ⟨b,off,none⟩) n c):=by exact ht
   have y0_0:=(z0_0.leaf hw (o:=off+j*2) rfl (by simp only[List.length_append,List.length_cons,List.length_nil,hml]<;>omega)).1;have z0_1:T1 wr (.sl n ((L++[.v (.int .i64 x.agent)])++(.v (.int .i64 x.slot))::R)) bs (.slice (some ⟨b,off,none⟩) n c):=by rw[List.append_assoc];exact ht
   have y0_1:=(z0_1.leaf hw (o:=off+j*2+1) rfl (by simp only[List.length_append,List.length_cons,List.length_nil,hml]<;>omega)).1;obtain⟨t0,u0,v0⟩:=(ht.leaf hw (o:=off+j*2) rfl (by simp only[List.length_append,List.length_cons,List.length_nil,hml]<;>omega)).2 (.int .i64 m) rfl
   replace t0:T1 (World.setCell wr ⟨b,off+j*2,none⟩ (.int .i64 m)) (.sl n (L++(.v (.int .i64 m))::(.v (.int .i64 x.slot))::R)) bs (.slice (some ⟨b,off,none⟩) n c):=t0
   replace t0:T1 (World.setCell wr ⟨b,off+j*2,none⟩ (.int .i64 m)) (.sl n ((L++[.v (.int .i64 m)])++(.v (.int .i64 x.slot))::R)) bs (.slice (some ⟨b,off,none⟩) n c):=by rw[List.append_assoc];exact t0
   obtain⟨t1,u1,v1⟩:=(t0.leaf v0 (o:=off+j*2+1) rfl (by simp only[List.length_append,List.length_cons,List.length_nil,hml]<;>omega)).2 (.int .i64 (m+1)) rfl;rw[List.append_assoc]at t1
   replace t1:T1 (World.setCell (World.setCell wr ⟨b,off+j*2,none⟩ (.int .i64 m)) ⟨b,off+j*2+1,none⟩ (.int .i64 (m+1))) (.sl n (L++(.v (.int .i64 m))::(.v (.int .i64 (m+1)))::R)) bs (.slice (some ⟨b,off,none⟩) n c):=t1
   clear z0_0 z0_1
   go_wp2_with fail
   have hmk:jh (ak.enc x) m=[.v (.int .i64 m),.v (.int .i64 (m+1))]:=by
    show jh [.v (.int .i64 x.agent),.v (.int .i64 x.slot)] m=_;simp only[kV,jX,vT,zA,oU,ko]
    all_goals (exact(kQ (Al (by omega)) (kQ (Al (by omega)) rfl)))
   have hfin:jh ((xs.take (j+1)).flatMap ak.enc) k++(xs.drop (j+1)).flatMap ak.enc=L++(.v (.int .i64 m))::(.v (.int .i64 (m+1)))::R:=by
    rw[hsn.out,jw,HL.out,←hm.out,hmk,List.append_assoc,HR.out];rfl
   exact⟨⟨j+1,m+1+1,by omega,by go_num,by first|rfl|go_num,Lib.hid (by rw[hsn.out,cK];have h8:=hcx.out;have h9:=hm.out;omega),by omega,by rw[hfin];exact t1,((hon).trans u0).trans u1,v1⟩,by simp[intOf];omega⟩
  ·have:j=n:=by omega
   subst this
   go_wp2_with fail
   go_ret;have hl:=Hn.out;rw[List.take_of_length_le (by omega),List.drop_of_length_le (by omega)]at ht;have hm':=hm.out;rw[List.take_of_length_le (by omega)]at hm';exact⟨m,rfl,hm',by simpa using ht,hon,hw⟩
theorem rG(xs:List GAgent)(k:Int){A:Option Addr}{c lo:Nat}{bs}(w:World)(hx:T1 w (.sl xs.length (xs.flatMap GAgent.enc)) bs (.slice A xs.length c))(ho:Own lo w bs)(hn':xs.length≤maxLen)(hk0:0≤k)(hk1:k+(cN (xs.flatMap GAgent.enc):Nat)≤4611686018427387904):
  Calls Tryz.prog 62 #[.slice A xs.length c,.int .i64 k] w fun e w'=>∃r:Int,e=.returned (.int .i64 r)∧Hid (r=k+(cN (xs.flatMap GAgent.enc):Nat))∧T1 w' (.sl xs.length (jh (xs.flatMap GAgent.enc) k)) bs (.slice A xs.length c)∧Onl bs w w'∧Own lo w' bs:=by
 unfold maxLen at hn';obtain⟨n,hn⟩:∃n,xs.length=n:=⟨_,rfl⟩;rw[hn]at hx hn' ⊢;have Hn:Hid (xs.length=n):=hn;clear hn;have hkk:=Lib.hid hk1;clear hk1
 go_enter Tryz.func62,Tryz.ntmps62
 go_wp2_with fail
 go_loopw [1,5] (fun l i w'=>∃(j:Nat) (m:Int),j≤n∧i=.int .i64 j∧l=.int .i64 m∧Hid (m=k+(cN ((xs.take j).flatMap GAgent.enc):Nat))∧0≤m∧T1 w' (.sl n (jh ((xs.take j).flatMap GAgent.enc) k++(xs.drop j).flatMap GAgent.enc)) bs (.slice A n c)∧Onl bs w w'∧Own lo w' bs) (fun _ i _=>n-(intOf i).toNat)
 case atStart=>exact⟨0,k,Nat.zero_le _,rfl,rfl,Lib.hid (by simp[dX]),hk0,by simpa[jX]using hx,Onl.refl _ _,ho⟩
 case round=>
  obtain⟨j,m,hj,rfl,rfl,hm,hm0,ht,hon,hw⟩:=hrel
  by_cases hlt:j<n
  ·obtain⟨x,hxk,hsp,hll,hsn,hdr⟩:=nE GAgent.enc 5 GAgent.aN Hn hlt;rw[hdr.out,List.flatMap_cons]at ht;have hml:(jh ((xs.take j).flatMap GAgent.enc) k).length=j*5:=by rw[sJ,hll]
   generalize hL:jh ((xs.take j).flatMap GAgent.enc) k=L at ht hml;have HL:=Lib.hid hL;clear hL hll;have hcx:Hid (cN (GAgent.enc x)=1+1+1+cN (x.data.flatMap intE)+cN (x.ports.flatMap ak.enc)):=by show cN [.v (.int .i64 x.kind),.v (.int .i64 x.level),.v (.int .i64 x.value),.sl x.data.length (x.data.flatMap intE),.sl x.ports.length (x.ports.flatMap ak.enc)]=_;simp only[eP,oU,ko,dX]<;>omega
   have hbd:m+1+1+1+(cN (x.data.flatMap intE):Nat)+(cN (x.ports.flatMap ak.enc):Nat)≤4611686018427387904:=by
    have h1:=hm.out;have h2:=hkk.out;have h3:=hcx.out
    have h4:=hsp.out;have h5:cN (xs.flatMap GAgent.enc)=cN ((xs.take j).flatMap GAgent.enc)+(cN (GAgent.enc x)+cN ((xs.drop (j+1)).flatMap GAgent.enc)):=by rw[h4,cK,cK]
    omega
   replace ht:T1 wr (.sl n (L++(.v (.int .i64 x.kind))::(.v (.int .i64 x.level))::(.v (.int .i64 x.value))::(.sl x.data.length (x.data.flatMap intE))::(.sl x.ports.length (x.ports.flatMap ak.enc))::(xs.drop (j+1)).flatMap GAgent.enc)) bs (.slice A n c):=ht
   generalize hR:(xs.drop (j+1)).flatMap GAgent.enc=R at ht;have HR:=Lib.hid hR;clear hR;obtain⟨b,off,rfl, -,hbm,hbl,hblo,hfz⟩:=ht.row hw;have z0_0:T1 wr (.sl n (L++(.v (.int .i64 x.kind))::(.v (.int .i64 x.level))::(.v (.int .i64 x.value))::(.sl x.data.length (x.data.flatMap intE))::(.sl x.ports.length (x.ports.flatMap ak.enc))::R)) bs (.slice (some ⟨b,off,none⟩) n c):=by exact ht
   have y0_0:=(z0_0.leaf hw (o:=off+j*5) rfl (by simp only[List.length_append,List.length_cons,List.length_nil,hml]<;>omega)).1;have z0_1:T1 wr (.sl n ((L++[.v (.int .i64 x.kind)])++(.v (.int .i64 x.level))::(.v (.int .i64 x.value))::(.sl x.data.length (x.data.flatMap intE))::(.sl x.ports.length (x.ports.flatMap ak.enc))::R)) bs (.slice (some ⟨b,off,none⟩) n c):=by rw[List.append_assoc];exact ht
   have y0_1:=(z0_1.leaf hw (o:=off+j*5+1) rfl (by simp only[List.length_append,List.length_cons,List.length_nil,hml]<;>omega)).1;have z0_2:T1 wr (.sl n ((L++[.v (.int .i64 x.kind),.v (.int .i64 x.level)])++(.v (.int .i64 x.value))::(.sl x.data.length (x.data.flatMap intE))::(.sl x.ports.length (x.ports.flatMap ak.enc))::R)) bs (.slice (some ⟨b,off,none⟩) n c):=by rw[List.append_assoc];exact ht
   have y0_2:=(z0_2.leaf hw (o:=off+j*5+2) rfl (by simp only[List.length_append,List.length_cons,List.length_nil,hml]<;>omega)).1;have z0_3:T1 wr (.sl n ((L++[.v (.int .i64 x.kind),.v (.int .i64 x.level),.v (.int .i64 x.value)])++(.sl x.data.length (x.data.flatMap intE))::(.sl x.ports.length (x.ports.flatMap ak.enc))::R)) bs (.slice (some ⟨b,off,none⟩) n c):=by rw[List.append_assoc];exact ht
   obtain⟨A0_3,c0_3,b0_3,y0_3, -⟩:=z0_3.sub hw (o:=off+j*5+3) rfl (by simp only[List.length_append,List.length_cons,List.length_nil,hml]<;>omega);obtain⟨t0,u0,v0⟩:=(ht.leaf hw (o:=off+j*5) rfl (by simp only[List.length_append,List.length_cons,List.length_nil,hml]<;>omega)).2 (.int .i64 m) rfl
   replace t0:T1 (World.setCell wr ⟨b,off+j*5,none⟩ (.int .i64 m)) (.sl n (L++(.v (.int .i64 m))::(.v (.int .i64 x.level))::(.v (.int .i64 x.value))::(.sl x.data.length (x.data.flatMap intE))::(.sl x.ports.length (x.ports.flatMap ak.enc))::R)) bs (.slice (some ⟨b,off,none⟩) n c):=t0
   replace t0:T1 (World.setCell wr ⟨b,off+j*5,none⟩ (.int .i64 m)) (.sl n ((L++[.v (.int .i64 m)])++(.v (.int .i64 x.level))::(.v (.int .i64 x.value))::(.sl x.data.length (x.data.flatMap intE))::(.sl x.ports.length (x.ports.flatMap ak.enc))::R)) bs (.slice (some ⟨b,off,none⟩) n c):=by rw[List.append_assoc];exact t0
   obtain⟨t1,u1,v1⟩:=(t0.leaf v0 (o:=off+j*5+1) rfl (by simp only[List.length_append,List.length_cons,List.length_nil,hml]<;>omega)).2 (.int .i64 (m+1)) rfl;rw[List.append_assoc]at t1
   replace t1:T1 (World.setCell (World.setCell wr ⟨b,off+j*5,none⟩ (.int .i64 m)) ⟨b,off+j*5+1,none⟩ (.int .i64 (m+1))) (.sl n (L++(.v (.int .i64 m))::(.v (.int .i64 (m+1)))::(.v (.int .i64 x.value))::(.sl x.data.length (x.data.flatMap intE))::(.sl x.ports.length (x.ports.flatMap ak.enc))::R)) bs (.slice (some ⟨b,off,none⟩) n c):=t1
   replace t1:T1 (World.setCell (World.setCell wr ⟨b,off+j*5,none⟩ (.int .i64 m)) ⟨b,off+j*5+1,none⟩ (.int .i64 (m+1))) (.sl n ((L++[.v (.int .i64 m),.v (.int .i64 (m+1))])++(.v (.int .i64 x.value))::(.sl x.data.length (x.data.flatMap intE))::(.sl x.ports.length (x.ports.flatMap ak.enc))::R)) bs (.slice (some ⟨b,off,none⟩) n c):=by rw[List.append_assoc];exact t1
   obtain⟨t2,u2,v2⟩:=(t1.leaf v1 (o:=off+j*5+2) rfl (by simp only[List.length_append,List.length_cons,List.length_nil,hml]<;>omega)).2 (.int .i64 (m+1+1)) rfl;rw[List.append_assoc]at t2
   replace t2:T1 (World.setCell (World.setCell (World.setCell wr ⟨b,off+j*5,none⟩ (.int .i64 m)) ⟨b,off+j*5+1,none⟩ (.int .i64 (m+1))) ⟨b,off+j*5+2,none⟩ (.int .i64 (m+1+1))) (.sl n (L++(.v (.int .i64 m))::(.v (.int .i64 (m+1)))::(.v (.int .i64 (m+1+1)))::(.sl x.data.length (x.data.flatMap intE))::(.sl x.ports.length (x.ports.flatMap ak.enc))::R)) bs (.slice (some ⟨b,off,none⟩) n c):=t2
   have g3:T1 (World.setCell (World.setCell (World.setCell wr ⟨b,off+j*5,none⟩ (.int .i64 m)) ⟨b,off+j*5+1,none⟩ (.int .i64 (m+1))) ⟨b,off+j*5+2,none⟩ (.int .i64 (m+1+1))) (.sl n ((L++[.v (.int .i64 m),.v (.int .i64 (m+1)),.v (.int .i64 (m+1+1))])++(.sl x.data.length (x.data.flatMap intE))::(.sl x.ports.length (x.ports.flatMap ak.enc))::R)) bs (.slice (some ⟨b,off,none⟩) n c):=by rw[List.append_assoc];exact t2
   obtain⟨A3,c3,b3,k3,s3,n3,o3,nb3,back3⟩:=g3.sub v2 (o:=off+j*5+3) rfl (by simp only[List.length_append,List.length_cons,List.length_nil,hml]<;>omega)
   obtain⟨rfl,rfl⟩:A0_3=A3∧c0_3=c3:=by
    have hh:=k3;rw[fO _ _ _ _ _ (by omega)]at hh;rw[fO _ _ _ _ _ (by omega)]at hh;rw[fO _ _ _ _ _ (by omega)]at hh;rw[y0_3]at hh;simpa using hh
   clear k3;have HB3:=Lib.hid back3;clear back3 g3;clear z0_0 z0_1 z0_2 z0_3
   go_wp2_with fail
   refine(markInt64S_any x.data (m+1+1+1) _ s3 o3 n3 (by omega) (by omega)).mono ?_;rintro _ W1 ⟨r1,rfl,hr1,q3,f3, -⟩;obtain⟨t3,u3,v3⟩:=HB3.out W1 _ f3 q3;have p1:0≤r1:=by have:=hr1.out;omega
   have l1:r1+(cN (x.ports.flatMap ak.enc):Nat)≤4611686018427387904:=by have:=hr1.out;omega
   rw[List.append_assoc]at t3
   replace t3:T1 W1 (.sl n (L++(.v (.int .i64 m))::(.v (.int .i64 (m+1)))::(.v (.int .i64 (m+1+1)))::(.sl x.data.length (jh (x.data.flatMap intE) (m+1+1+1)))::(.sl x.ports.length (x.ports.flatMap ak.enc))::R)) bs (.slice (some ⟨b,off,none⟩) n c):=t3
   have hfz1:∀o,World.frozen? W1 ⟨b,o,none⟩=false:=fun o=>(by obtain⟨_,cur,tt,hrow⟩:=v3.2 b hbm;simp[World.frozen?,hrow])
   have z1_4:T1 W1 (.sl n ((L++[.v (.int .i64 m),.v (.int .i64 (m+1)),.v (.int .i64 (m+1+1)),.sl x.data.length (jh (x.data.flatMap intE) (m+1+1+1))])++(.sl x.ports.length (x.ports.flatMap ak.enc))::R)) bs (.slice (some ⟨b,off,none⟩) n c):=by rw[List.append_assoc];exact t3
   obtain⟨A1_4,c1_4,b1_4,y1_4, -⟩:=z1_4.sub v3 (o:=off+j*5+4) rfl (by simp only[List.length_append,List.length_cons,List.length_nil,hml]<;>omega);have g4:T1 W1 (.sl n ((L++[.v (.int .i64 m),.v (.int .i64 (m+1)),.v (.int .i64 (m+1+1)),.sl x.data.length (jh (x.data.flatMap intE) (m+1+1+1))])++(.sl x.ports.length (x.ports.flatMap ak.enc))::R)) bs (.slice (some ⟨b,off,none⟩) n c):=by rw[List.append_assoc];exact t3
   obtain⟨A4,c4,b4,k4,s4,n4,o4,nb4,back4⟩:=g4.sub v3 (o:=off+j*5+4) rfl (by simp only[List.length_append,List.length_cons,List.length_nil,hml]<;>omega)
   obtain⟨rfl,rfl⟩:A1_4=A4∧c1_4=c4:=by
    have hh:=k4;rw[y1_4]at hh;simpa using hh
   clear k4;have HB4:=Lib.hid back4;clear back4 g4;clear z1_4
   go_wp2_with fail
   refine(AY x.ports (r1) _ s4 o4 n4 (by omega) (by omega)).mono ?_;rintro _ W2 ⟨r2,rfl,hr2,q4,f4, -⟩;obtain⟨t4,u4,v4⟩:=HB4.out W2 _ f4 q4;have p2:0≤r2:=by have:=hr2.out;omega
   have l2:r2+0≤4611686018427387904:=by have:=hr2.out;omega
   rw[List.append_assoc]at t4
   replace t4:T1 W2 (.sl n (L++(.v (.int .i64 m))::(.v (.int .i64 (m+1)))::(.v (.int .i64 (m+1+1)))::(.sl x.data.length (jh (x.data.flatMap intE) (m+1+1+1)))::(.sl x.ports.length (jh (x.ports.flatMap ak.enc) (r1)))::R)) bs (.slice (some ⟨b,off,none⟩) n c):=t4
   go_wp2_with fail
   have hmk:jh (GAgent.enc x) m=[.v (.int .i64 m),.v (.int .i64 (m+1)),.v (.int .i64 (m+1+1)),.sl x.data.length (jh (x.data.flatMap intE) (m+1+1+1)),.sl x.ports.length (jh (x.ports.flatMap ak.enc) (r1))]:=by
    show jh [.v (.int .i64 x.kind),.v (.int .i64 x.level),.v (.int .i64 x.value),.sl x.data.length (x.data.flatMap intE),.sl x.ports.length (x.ports.flatMap ak.enc)] m=_;simp only[kV,jX,vT,zA,oU,ko]
    all_goals (have h1:=hr1.out;have h2:=hr2.out;exact(kQ (Al (by omega)) (kQ (Al (by omega)) (kQ (Al (by omega)) (kQ (Ic (by omega)) (kQ (Ic (by omega)) rfl))))))
   have hfin:jh ((xs.take (j+1)).flatMap GAgent.enc) k++(xs.drop (j+1)).flatMap GAgent.enc=L++(.v (.int .i64 m))::(.v (.int .i64 (m+1)))::(.v (.int .i64 (m+1+1)))::(.sl x.data.length (jh (x.data.flatMap intE) (m+1+1+1)))::(.sl x.ports.length (jh (x.ports.flatMap ak.enc) (r1)))::R:=by
    rw[hsn.out,jw,HL.out,←hm.out,hmk,List.append_assoc,HR.out];rfl
   exact⟨⟨j+1,r2,by omega,by go_num,by first|rfl|go_num,Lib.hid (by rw[hsn.out,cK];have h1:=hr1.out;have h2:=hr2.out;have h8:=hcx.out;have h9:=hm.out;omega),by omega,by rw[hfin];exact t4,(((((hon).trans u0).trans u1).trans u2).trans u3).trans u4,v4⟩,by simp[intOf];omega⟩
  ·have:j=n:=by omega
   subst this
   go_wp2_with fail
   go_ret;have hl:=Hn.out;rw[List.take_of_length_le (by omega),List.drop_of_length_le (by omega)]at ht;have hm':=hm.out;rw[List.take_of_length_le (by omega)]at hm';exact⟨m,rfl,hm',by simpa using ht,hon,hw⟩
theorem markNet_any(x:GNet)(k:Int){bs us}{lo:Nat}(w:World)(hx:TN w x.enc bs us)(ho:Own lo w bs)(hk0:0≤k)(hk1:k+(x.cnt:Nat)≤4611686018427387904):
  Calls Tryz.prog 22 #[.agg us.toArray,.int .i64 k] w fun e w'=>∃r:Int,e=.returned (.int .i64 r)∧Hid (r=k+(x.cnt:Nat))∧TN w' (x.OY k) bs us∧Onl bs w w'∧Own lo w' bs:=by
 have hlt:=hx.lt;obtain⟨A0,c0,b0,rfl,rfl,t0,l0,m0⟩:=GNet.us hx;have o0:=ho;have g0:w.heap.size∉bs:=fun hm=>by have:=hlt _ (show w.heap.size∈bs by simp[hm]);omega
 have B0:∀S,Below w.heap.size w (w.alloc S):=fun _=>(Below.refl _ _).alloc (Nat.le_refl _) _
 have hcn:x.cnt=cN (x.agents.flatMap GAgent.enc):=rfl;rw[hcn]at hk1;clear hcn hx
 go_enter Tryz.func22,Tryz.ntmps22
 go_wp2_with fail
 refine(rG x.agents k _ (t0.below (B0 _)) (o0.below (B0 _)) (Nat.le_trans l0 m0) (by omega) (by omega)).mono ?_;rintro _ w1 ⟨r1,rfl,hr1,S0,f1,V0⟩;have p1:0≤r1:=by have:=hr1.out;omega
 have b1_:r1+0≤4611686018427387904:=by have:=hr1.out;omega
 have u1:=(f1.other w.heap.size (by simp) g0).trans (heap_alloc_new w _);have z1:w.heap.size<w1.heap.size:=by have:=f1.size;simp at this;omega
 have F1:Onl (bs) w w1:=Onl.trans (Onl.zF (B0 _)) (f1.sub (fun y hy=>by first|exact hy|(simp at hy ⊢;grind)));have q1_0:=cell_of_row _ _ 0 _ _ _ u1;simp only[List.getElem?_toArray,List.getElem?_cons_zero,List.getElem?_cons_succ]at q1_0
 go_wp2_with fail
 go_ret;refine⟨r1,rfl,?_,?_,F1,ho.onl F1⟩
 ·show _=_;have hcn:x.cnt=cN (x.agents.flatMap GAgent.enc):=rfl;have h1:=hr1.out;omega
 ·have h1:=hr1.out;skip;have h:=(TN.sl_mk S0 TN.done);simp only[List.append_nil,List.nil_append,List.append_assoc,List.cons_append]at h;unfold GNet.OY;simpa only[List.append_nil,List.nil_append,List.append_assoc,List.cons_append]using h
theorem markNetS_any(xs:List GNet)(k:Int){A:Option Addr}{c lo:Nat}{bs}(w:World)(hx:T1 w (.sl xs.length (xs.flatMap GNet.enc)) bs (.slice A xs.length c))(ho:Own lo w bs)(hn':xs.length≤maxLen)(hk0:0≤k)(hk1:k+(cN (xs.flatMap GNet.enc):Nat)≤4611686018427387904):
  Calls Tryz.prog 21 #[.slice A xs.length c,.int .i64 k] w fun e w'=>∃r:Int,e=.returned (.int .i64 r)∧Hid (r=k+(cN (xs.flatMap GNet.enc):Nat))∧T1 w' (.sl xs.length (jh (xs.flatMap GNet.enc) k)) bs (.slice A xs.length c)∧Onl bs w w'∧Own lo w' bs:=by
 unfold maxLen at hn';obtain⟨n,hn⟩:∃n,xs.length=n:=⟨_,rfl⟩;rw[hn]at hx hn' ⊢;have Hn:Hid (xs.length=n):=hn;clear hn;have hkk:=Lib.hid hk1;clear hk1
 go_enter Tryz.func21,Tryz.ntmps21
 go_wp2_with fail
 go_loopw [1,5] (fun l i w'=>∃(j:Nat) (m:Int),j≤n∧i=.int .i64 j∧l=.int .i64 m∧Hid (m=k+(cN ((xs.take j).flatMap GNet.enc):Nat))∧0≤m∧T1 w' (.sl n (jh ((xs.take j).flatMap GNet.enc) k++(xs.drop j).flatMap GNet.enc)) bs (.slice A n c)∧Onl bs w w'∧Own lo w' bs) (fun _ i _=>n-(intOf i).toNat)
 case atStart=>exact⟨0,k,Nat.zero_le _,rfl,rfl,Lib.hid (by simp[dX]),hk0,by simpa[jX]using hx,Onl.refl _ _,ho⟩
 case round=>
  obtain⟨j,m,hj,rfl,rfl,hm,hm0,ht,hon,hw⟩:=hrel
  by_cases hlt:j<n
  ·obtain⟨x,hxk,hsp,hll,hsn,hdr⟩:=nE GNet.enc 1 GNet.aN Hn hlt;rw[hdr.out,List.flatMap_cons]at ht;have hml:(jh ((xs.take j).flatMap GNet.enc) k).length=j*1:=by rw[sJ,hll]
   generalize hL:jh ((xs.take j).flatMap GNet.enc) k=L at ht hml;have HL:=Lib.hid hL;clear hL hll;have hcx:Hid (cN (GNet.enc x)=cN (x.agents.flatMap GAgent.enc)):=by show cN [.sl x.agents.length (x.agents.flatMap GAgent.enc)]=_;simp only[eP,oU,ko,dX]<;>omega
   have hbd:m+(cN (x.agents.flatMap GAgent.enc):Nat)≤4611686018427387904:=by
    have h1:=hm.out;have h2:=hkk.out;have h3:=hcx.out
    have h4:=hsp.out;have h5:cN (xs.flatMap GNet.enc)=cN ((xs.take j).flatMap GNet.enc)+(cN (GNet.enc x)+cN ((xs.drop (j+1)).flatMap GNet.enc)):=by rw[h4,cK,cK]
    omega
   replace ht:T1 wr (.sl n (L++(.sl x.agents.length (x.agents.flatMap GAgent.enc))::(xs.drop (j+1)).flatMap GNet.enc)) bs (.slice A n c):=ht
   generalize hR:(xs.drop (j+1)).flatMap GNet.enc=R at ht;have HR:=Lib.hid hR;clear hR;obtain⟨b,off,rfl, -,hbm,hbl,hblo,hfz⟩:=ht.row hw;have z0_0:T1 wr (.sl n (L++(.sl x.agents.length (x.agents.flatMap GAgent.enc))::R)) bs (.slice (some ⟨b,off,none⟩) n c):=by exact ht
   obtain⟨A0_0,c0_0,b0_0,y0_0, -⟩:=z0_0.sub hw (o:=off+j) rfl (by simp only[List.length_append,List.length_cons,List.length_nil,hml]<;>omega);have g0:=ht;obtain⟨A0,c0,b0,k0,s0,n0,o0,nb0,back0⟩:=g0.sub hw (o:=off+j) rfl (by simp only[List.length_append,List.length_cons,List.length_nil,hml]<;>omega)
   obtain⟨rfl,rfl⟩:A0_0=A0∧c0_0=c0:=by
    have hh:=k0;rw[y0_0]at hh;simpa using hh
   clear k0;have HB0:=Lib.hid back0;clear back0 g0;clear z0_0
   go_wp2_with fail
   refine(rG x.agents (m) _ s0 o0 n0 (by omega) (by omega)).mono ?_;rintro _ W1 ⟨r1,rfl,hr1,q0,f0, -⟩;obtain⟨t0,u0,v0⟩:=HB0.out W1 _ f0 q0;have p1:0≤r1:=by have:=hr1.out;omega
   have l1:r1+0≤4611686018427387904:=by have:=hr1.out;omega
   replace t0:T1 W1 (.sl n (L++(.sl x.agents.length (jh (x.agents.flatMap GAgent.enc) (m)))::R)) bs (.slice (some ⟨b,off,none⟩) n c):=t0
   go_wp2_with fail
   have hmk:jh (GNet.enc x) m=[.sl x.agents.length (jh (x.agents.flatMap GAgent.enc) (m))]:=by
    show jh [.sl x.agents.length (x.agents.flatMap GAgent.enc)] m=_;simp only[kV,jX,vT,zA,oU,ko]
    all_goals (have h1:=hr1.out;exact(kQ (Ic (by omega)) rfl))
   have hfin:jh ((xs.take (j+1)).flatMap GNet.enc) k++(xs.drop (j+1)).flatMap GNet.enc=L++(.sl x.agents.length (jh (x.agents.flatMap GAgent.enc) (m)))::R:=by
    rw[hsn.out,jw,HL.out,←hm.out,hmk,List.append_assoc,HR.out];rfl
   exact⟨⟨j+1,r1,by omega,by go_num,by first|rfl|go_num,Lib.hid (by rw[hsn.out,cK];have h1:=hr1.out;have h8:=hcx.out;have h9:=hm.out;omega),by omega,by rw[hfin];exact t0,(hon).trans u0,v0⟩,by simp[intOf];omega⟩
  ·have:j=n:=by omega
   subst this
   go_wp2_with fail
   go_ret;have hl:=Hn.out;rw[List.take_of_length_le (by omega),List.drop_of_length_le (by omega)]at ht;have hm':=hm.out;rw[List.take_of_length_le (by omega)]at hm';exact⟨m,rfl,hm',by simpa using ht,hon,hw⟩
end Go.Proofs.YtjijpkphkicoeaaGreat
