
/- What the laws number and look for again in these types. Printed by gen_mk.py. -/
import Derived.Test.YtemalpelcdmemaaGreatProg
import Derived.Test.YtemalpelcdmemaaGreatSc
import Derived.Test.YtemalpelcdmemaaGreatValid
import Derived.BigGuardPart
import Derived.Outline
import Derived.Deep.CutBlock
set_option maxHeartbeats 4000000
set_option linter.unusedSimpArgs false
set_option linter.unusedVariables false
namespace Go.Tr
open Go Go.RowKit
def aU.Zal(x:aU)(k:Int):List D:=[.sl x.agents.length (mD (x.agents.flatMap ay.enc) (k))]
def aU.cnt(x:aU):Nat:=cN (x.agents.flatMap ay.enc)
def bW.Zal(x:bW)(k:Int):List D:=[.sl x.book.length (mD (x.book.flatMap aU.enc) (k))]++([.sl x.schedule.length (mD (x.schedule.flatMap dQ) (k+(cN (x.book.flatMap aU.enc):Nat)))]++([.v (.int .i64 x.every)]++([.v (.int .i64 x.at_)]++(x.net.Zal (k+(cN (x.book.flatMap aU.enc):Nat)+(cN (x.schedule.flatMap dQ):Nat))++([.sl x.origins.length (mD (x.origins.flatMap bG.enc) (k+(cN (x.book.flatMap aU.enc):Nat)+(cN (x.schedule.flatMap dQ):Nat)+(x.net.cnt:Nat)))]++([.sl x.breaks.length (mD (x.breaks.flatMap dO.enc) (k+(cN (x.book.flatMap aU.enc):Nat)+(cN (x.schedule.flatMap dQ):Nat)+(x.net.cnt:Nat)+(cN (x.origins.flatMap bG.enc):Nat)))]++([.sl x.points.length (mD (x.points.flatMap aO.enc) (k+(cN (x.book.flatMap aU.enc):Nat)+(cN (x.schedule.flatMap dQ):Nat)+(x.net.cnt:Nat)+(cN (x.origins.flatMap bG.enc):Nat)+(cN (x.breaks.flatMap dO.enc):Nat)))])))))))
def bW.cnt(x:bW):Nat:=cN (x.book.flatMap aU.enc)+cN (x.schedule.flatMap dQ)+x.net.cnt+cN (x.origins.flatMap bG.enc)+cN (x.breaks.flatMap dO.enc)+cN (x.points.flatMap aO.enc)
theorem aH.Ie(x:aH):cN x.enc≤32*(1+(fun _=>0) x):=by
 have hc:cN x.enc=1+1:=by show cN [.v (.int .i64 x.agent),.v (.int .i64 x.slot)]=_;simp only[iV,vO,oK,iq]<;>omega
 omega
theorem ay.Ie(x:ay):cN x.enc≤32*(1+x.wt):=by
 have h3:=eF (f:=dQ) (g:=(fun _=>0)) NH x.data;have h4:=eF (f:=aH.enc) (g:=(fun _=>0)) aH.Ie x.ports;have hw:x.wt=yZ (fun _=>0) x.data+yZ (fun _=>0) x.ports:=rfl;have hc:cN x.enc=1+1+1+cN (x.data.flatMap dQ)+cN (x.ports.flatMap aH.enc):=by show cN [.v (.int .i64 x.kind),.v (.int .i64 x.level),.v (.int .i64 x.value),.sl x.data.length (x.data.flatMap dQ),.sl x.ports.length (x.ports.flatMap aH.enc)]=_;simp only[iV,vO,oK,iq]<;>omega
 omega
theorem aU.Ie(x:aU):cN x.enc≤32*(1+x.wt):=by
 have h0:=eF (f:=ay.enc) (g:=ay.wt) ay.Ie x.agents;have hw:x.wt=yZ ay.wt x.agents:=rfl;have hc:cN x.enc=cN (x.agents.flatMap ay.enc):=by show cN [.sl x.agents.length (x.agents.flatMap ay.enc)]=_;simp only[iV,vO,oK,iq]<;>omega
 omega
theorem aU.RZ(x:aU):x.cnt≤32*x.wt:=by
 have h0:=eF (f:=ay.enc) (g:=ay.wt) ay.Ie x.agents;have hw:x.wt=yZ ay.wt x.agents:=rfl;have hc:x.cnt=cN (x.agents.flatMap ay.enc):=rfl;omega
theorem bG.Ie(x:bG):cN x.enc≤32*(1+(fun _=>0) x):=by
 have hc:cN x.enc=1+1+1:=by show cN [.v (.int .i64 x.step),.v (.int .i64 x.def_),.v (.int .i64 x.source)]=_;simp only[iV,vO,oK,iq]<;>omega
 omega
theorem dO.Ie(x:dO):cN x.enc≤32*(1+(fun _=>0) x):=by
 have hc:cN x.enc=1+1:=by show cN [.v (.int .i64 x.kind),.v (.int .i64 x.value)]=_;simp only[iV,vO,oK,iq]<;>omega
 omega
theorem aO.Ie(x:aO):cN x.enc≤32*(1+x.wt):=by
 have h1:=eF (f:=ay.enc) (g:=ay.wt) ay.Ie x.net.agents;have h2:=eF (f:=bG.enc) (g:=(fun _=>0)) bG.Ie x.origins;have hw:x.wt=x.net.wt+yZ (fun _=>0) x.origins:=rfl;have n1:x.net.wt=yZ ay.wt x.net.agents:=rfl;have hc:cN x.enc=1+cN (x.net.agents.flatMap ay.enc)+cN (x.origins.flatMap bG.enc):=by show cN [.v (.int .i64 x.at_),.sl x.net.agents.length (x.net.agents.flatMap ay.enc),.sl x.origins.length (x.origins.flatMap bG.enc)]=_;simp only[iV,vO,oK,iq]<;>omega
 omega
theorem bW.Ie(x:bW):cN x.enc≤32*(1+x.wt):=by
 have h0:=eF (f:=aU.enc) (g:=aU.wt) aU.Ie x.book;have h1:=eF (f:=dQ) (g:=(fun _=>0)) NH x.schedule;have h4:=eF (f:=ay.enc) (g:=ay.wt) ay.Ie x.net.agents;have h5:=eF (f:=bG.enc) (g:=(fun _=>0)) bG.Ie x.origins;have h6:=eF (f:=dO.enc) (g:=(fun _=>0)) dO.Ie x.breaks;have h7:=eF (f:=aO.enc) (g:=aO.wt) aO.Ie x.points;have hw:x.wt=yZ aU.wt x.book+yZ (fun _=>0) x.schedule+x.net.wt+yZ (fun _=>0) x.origins+yZ (fun _=>0) x.breaks+yZ aO.wt x.points:=rfl
 have n4:x.net.wt=yZ ay.wt x.net.agents:=rfl;have hc:cN x.enc=cN (x.book.flatMap aU.enc)+cN (x.schedule.flatMap dQ)+1+1+cN (x.net.agents.flatMap ay.enc)+cN (x.origins.flatMap bG.enc)+cN (x.breaks.flatMap dO.enc)+cN (x.points.flatMap aO.enc):=by show cN [.sl x.book.length (x.book.flatMap aU.enc),.sl x.schedule.length (x.schedule.flatMap dQ),.v (.int .i64 x.every),.v (.int .i64 x.at_),.sl x.net.agents.length (x.net.agents.flatMap ay.enc),.sl x.origins.length (x.origins.flatMap bG.enc),.sl x.breaks.length (x.breaks.flatMap dO.enc),.sl x.points.length (x.points.flatMap aO.enc)]=_;simp only[iV,vO,oK,iq]<;>omega
 omega
theorem bW.RZ(x:bW):x.cnt≤32*x.wt:=by
 have h0:=eF (f:=aU.enc) (g:=aU.wt) aU.Ie x.book;have h1:=eF (f:=dQ) (g:=(fun _=>0)) NH x.schedule;have h4:=eF (f:=ay.enc) (g:=ay.wt) ay.Ie x.net.agents;have h5:=eF (f:=bG.enc) (g:=(fun _=>0)) bG.Ie x.origins;have h6:=eF (f:=dO.enc) (g:=(fun _=>0)) dO.Ie x.breaks;have h7:=eF (f:=aO.enc) (g:=aO.wt) aO.Ie x.points;have hw:x.wt=yZ aU.wt x.book+yZ (fun _=>0) x.schedule+x.net.wt+yZ (fun _=>0) x.origins+yZ (fun _=>0) x.breaks+yZ aO.wt x.points:=rfl
 have n4:x.net.wt=yZ ay.wt x.net.agents:=rfl;have hc:x.cnt=cN (x.book.flatMap aU.enc)+cN (x.schedule.flatMap dQ)+x.net.cnt+cN (x.origins.flatMap bG.enc)+cN (x.breaks.flatMap dO.enc)+cN (x.points.flatMap aO.enc):=rfl;have c2:=aU.RZ x.net;omega
end Go.Tr
namespace Go.Proofs.YtemalpelcdmemaaGreat
open Go Go.RowKit Go.Proofs Go.Tr
theorem zA(xs:List Int)(k:Int){A:Option Addr}{c lo:Nat}{bs}(w:World)(hx:T1 w (.sl xs.length (xs.flatMap dQ)) bs (.slice A xs.length c))(ho:Own lo w bs)(hn':xs.length≤maxLen)(hk0:0≤k)(hk1:k+(cN (xs.flatMap dQ):Nat)≤4611686018427387904):
  Calls Tryz.prog 36 #[.slice A xs.length c,.int .i64 k] w fun e w'=>∃r:Int,e=.returned (.int .i64 r)∧Hid (r=k+(cN (xs.flatMap dQ):Nat))∧T1 w' (.sl xs.length (mD (xs.flatMap dQ) k)) bs (.slice A xs.length c)∧qA bs w w'∧Own lo w' bs:=by
 unfold maxLen at hn';obtain⟨n,hn⟩:∃n,xs.length=n:=⟨_,rfl⟩;rw[hn]at hx hn' ⊢;have Hn:Hid (xs.length=n):=hn;clear hn;have hkk:=Lib.hid hk1;clear hk1
 go_enter Tryz.func36,Tryz.ntmps36
 go_wp2_with fail
 go_loopw [1,5] (fun l i w'=>∃(j:Nat) (m:Int),j≤n∧i=.int .i64 j∧l=.int .i64 m∧Hid (m=k+(cN ((xs.take j).flatMap dQ):Nat))∧0≤m∧T1 w' (.sl n (mD ((xs.take j).flatMap dQ) k++(xs.drop j).flatMap dQ)) bs (.slice A n c)∧qA bs w w'∧Own lo w' bs) (fun _ i _=>n-(intOf i).toNat)
 case atStart=>exact⟨0,k,Nat.zero_le _,rfl,rfl,Lib.hid (by simp[iq]),hk0,by simpa[nJ]using hx,qA.refl _ _,ho⟩
 case round=>
  obtain⟨j,m,hj,rfl,rfl,hm,hm0,ht,hon,hw⟩:=hrel
  by_cases hlt:j<n
  ·obtain⟨x,hxk,hsp,hll,hsn,hdr⟩:=qK dQ 1 (fun _=>rfl) Hn hlt;rw[hdr.out,List.flatMap_cons]at ht;have hml:(mD ((xs.take j).flatMap dQ) k).length=j*1:=by rw[yj,hll]
   generalize hL:mD ((xs.take j).flatMap dQ) k=L at ht hml;have HL:=Lib.hid hL;clear hL hll;have hcx:Hid (cN (dQ x)=1):=by show cN [.v (.int .i64 x)]=_;simp only[iV,vO,oK,iq]<;>omega
   have hbd:m+1≤4611686018427387904:=by
    have h1:=hm.out;have h2:=hkk.out;have h3:=hcx.out
    have h4:=hsp.out;have h5:cN (xs.flatMap dQ)=cN ((xs.take j).flatMap dQ)+(cN (dQ x)+cN ((xs.drop (j+1)).flatMap dQ)):=by rw[h4,eO,eO]
    omega
   replace ht:T1 wr (.sl n (L++(.v (.int .i64 x))::(xs.drop (j+1)).flatMap dQ)) bs (.slice A n c):=ht
   generalize hR:(xs.drop (j+1)).flatMap dQ=R at ht;have HR:=Lib.hid hR;clear hR;obtain⟨b,off,rfl, -,hbm,hbl,hblo,hfz⟩:=ht.row hw;have z0_0:T1 wr (.sl n (L++(.v (.int .i64 x))::R)) bs (.slice (some ⟨b,off,none⟩) n c):=by exact ht
   have y0_0:=(z0_0.leaf hw (o:=off+j) rfl (by simp only[List.length_append,List.length_cons,List.length_nil,hml]<;>omega)).1;obtain⟨t0,u0,v0⟩:=(ht.leaf hw (o:=off+j) rfl (by simp only[List.length_append,List.length_cons,List.length_nil,hml]<;>omega)).2 (.int .i64 m) rfl
   replace t0:T1 (World.setCell wr ⟨b,off+j,none⟩ (.int .i64 m)) (.sl n (L++(.v (.int .i64 m))::R)) bs (.slice (some ⟨b,off,none⟩) n c):=t0
   clear z0_0
   go_wp2_with fail
   have hmk:mD (dQ x) m=[.v (.int .i64 m)]:=by
    show mD [.v (.int .i64 x)] m=_;simp only[pX,nJ,Am,ER,vO,oK]
    all_goals (exact(jc (tC (by omega)) rfl))
   have hfin:mD ((xs.take (j+1)).flatMap dQ) k++(xs.drop (j+1)).flatMap dQ=L++(.v (.int .i64 m))::R:=by
    rw[hsn.out,mW,HL.out,←hm.out,hmk,List.append_assoc,HR.out];rfl
   exact⟨⟨j+1,m+1,by omega,by go_num,by first|rfl|go_num,Lib.hid (by rw[hsn.out,eO];have h8:=hcx.out;have h9:=hm.out;omega),by omega,by rw[hfin];exact t0,(hon).trans u0,v0⟩,by simp[intOf];omega⟩
  ·have:j=n:=by omega
   subst this
   go_wp2_with fail
   go_ret;have hl:=Hn.out;rw[List.take_of_length_le (by omega),List.drop_of_length_le (by omega)]at ht;have hm':=hm.out;rw[List.take_of_length_le (by omega)]at hm';exact⟨m,rfl,hm',by simpa using ht,hon,hw⟩
theorem KV(xs:List aH)(k:Int){A:Option Addr}{c lo:Nat}{bs}(w:World)(hx:T1 w (.sl xs.length (xs.flatMap aH.enc)) bs (.slice A xs.length c))(ho:Own lo w bs)(hn':xs.length≤maxLen)(hk0:0≤k)(hk1:k+(cN (xs.flatMap aH.enc):Nat)≤4611686018427387904):
  Calls Tryz.prog 123 #[.slice A xs.length c,.int .i64 k] w fun e w'=>∃r:Int,e=.returned (.int .i64 r)∧Hid (r=k+(cN (xs.flatMap aH.enc):Nat))∧T1 w' (.sl xs.length (mD (xs.flatMap aH.enc) k)) bs (.slice A xs.length c)∧qA bs w w'∧Own lo w' bs:=by
 unfold maxLen at hn';obtain⟨n,hn⟩:∃n,xs.length=n:=⟨_,rfl⟩;rw[hn]at hx hn' ⊢;have Hn:Hid (xs.length=n):=hn;clear hn;have hkk:=Lib.hid hk1;clear hk1
 go_enter Tryz.func123,Tryz.ntmps123
 go_wp2_with fail
 go_loopw [1,5] (fun l i w'=>∃(j:Nat) (m:Int),j≤n∧i=.int .i64 j∧l=.int .i64 m∧Hid (m=k+(cN ((xs.take j).flatMap aH.enc):Nat))∧0≤m∧T1 w' (.sl n (mD ((xs.take j).flatMap aH.enc) k++(xs.drop j).flatMap aH.enc)) bs (.slice A n c)∧qA bs w w'∧Own lo w' bs) (fun _ i _=>n-(intOf i).toNat)
 case atStart=>exact⟨0,k,Nat.zero_le _,rfl,rfl,Lib.hid (by simp[iq]),hk0,by simpa[nJ]using hx,qA.refl _ _,ho⟩
 case round=>
  obtain⟨j,m,hj,rfl,rfl,hm,hm0,ht,hon,hw⟩:=hrel
  by_cases hlt:j<n
  ·obtain⟨x,hxk,hsp,hll,hsn,hdr⟩:=qK aH.enc 2 aH.bU Hn hlt;rw[hdr.out,List.flatMap_cons]at ht;have hml:(mD ((xs.take j).flatMap aH.enc) k).length=j*2:=by rw[yj,hll]
   generalize hL:mD ((xs.take j).flatMap aH.enc) k=L at ht hml;have HL:=Lib.hid hL;clear hL hll;have hcx:Hid (cN (aH.enc x)=1+1):=by show cN [.v (.int .i64 x.agent),.v (.int .i64 x.slot)]=_;simp only[iV,vO,oK,iq]<;>omega
   have hbd:m+1+1≤4611686018427387904:=by
    have h1:=hm.out;have h2:=hkk.out;have h3:=hcx.out
    have h4:=hsp.out;have h5:cN (xs.flatMap aH.enc)=cN ((xs.take j).flatMap aH.enc)+(cN (aH.enc x)+cN ((xs.drop (j+1)).flatMap aH.enc)):=by rw[h4,eO,eO]
    omega
   replace ht:T1 wr (.sl n (L++(.v (.int .i64 x.agent))::(.v (.int .i64 x.slot))::(xs.drop (j+1)).flatMap aH.enc)) bs (.slice A n c):=ht
   generalize hR:(xs.drop (j+1)).flatMap aH.enc=R at ht;have HR:=Lib.hid hR;clear hR;obtain⟨b,off,rfl, -,hbm,hbl,hblo,hfz⟩:=ht.row hw;have z0_0:T1 wr (.sl n (L++(.v (.int .i64 x.agent))::(.v (.int .i64 x.slot))::R)) bs (.slice (some ⟨b,off,none⟩) n c):=by exact ht
   have y0_0:=(z0_0.leaf hw (o:=off+j*2) rfl (by simp only[List.length_append,List.length_cons,List.length_nil,hml]<;>omega)).1;have z0_1:T1 wr (.sl n ((L++[.v (.int .i64 x.agent)])++(.v (.int .i64 x.slot))::R)) bs (.slice (some ⟨b,off,none⟩) n c):=by rw[List.append_assoc];exact ht
   have y0_1:=(z0_1.leaf hw (o:=off+j*2+1) rfl (by simp only[List.length_append,List.length_cons,List.length_nil,hml]<;>omega)).1;obtain⟨t0,u0,v0⟩:=(ht.leaf hw (o:=off+j*2) rfl (by simp only[List.length_append,List.length_cons,List.length_nil,hml]<;>omega)).2 (.int .i64 m) rfl
   replace t0:T1 (World.setCell wr ⟨b,off+j*2,none⟩ (.int .i64 m)) (.sl n (L++(.v (.int .i64 m))::(.v (.int .i64 x.slot))::R)) bs (.slice (some ⟨b,off,none⟩) n c):=t0
   replace t0:T1 (World.setCell wr ⟨b,off+j*2,none⟩ (.int .i64 m)) (.sl n ((L++[.v (.int .i64 m)])++(.v (.int .i64 x.slot))::R)) bs (.slice (some ⟨b,off,none⟩) n c):=by rw[List.append_assoc];exact t0
   obtain⟨t1,u1,v1⟩:=(t0.leaf v0 (o:=off+j*2+1) rfl (by simp only[List.length_append,List.length_cons,List.length_nil,hml]<;>omega)).2 (.int .i64 (m+1)) rfl;rw[List.append_assoc]at t1
   replace t1:T1 (World.setCell (World.setCell wr ⟨b,off+j*2,none⟩ (.int .i64 m)) ⟨b,off+j*2+1,none⟩ (.int .i64 (m+1))) (.sl n (L++(.v (.int .i64 m))::(.v (.int .i64 (m+1)))::R)) bs (.slice (some ⟨b,off,none⟩) n c):=t1
   clear z0_0 z0_1
   go_wp2_with fail
   have hmk:mD (aH.enc x) m=[.v (.int .i64 m),.v (.int .i64 (m+1))]:=by
    show mD [.v (.int .i64 x.agent),.v (.int .i64 x.slot)] m=_;simp only[pX,nJ,Am,ER,vO,oK]
    all_goals (exact(jc (tC (by omega)) (jc (tC (by omega)) rfl)))
   have hfin:mD ((xs.take (j+1)).flatMap aH.enc) k++(xs.drop (j+1)).flatMap aH.enc=L++(.v (.int .i64 m))::(.v (.int .i64 (m+1)))::R:=by
    rw[hsn.out,mW,HL.out,←hm.out,hmk,List.append_assoc,HR.out];rfl
   exact⟨⟨j+1,m+1+1,by omega,by go_num,by first|rfl|go_num,Lib.hid (by rw[hsn.out,eO];have h8:=hcx.out;have h9:=hm.out;omega),by omega,by rw[hfin];exact t1,((hon).trans u0).trans u1,v1⟩,by simp[intOf];omega⟩
  ·have:j=n:=by omega
   subst this
   go_wp2_with fail
   go_ret;have hl:=Hn.out;rw[List.take_of_length_le (by omega),List.drop_of_length_le (by omega)]at ht;have hm':=hm.out;rw[List.take_of_length_le (by omega)]at hm';exact⟨m,rfl,hm',by simpa using ht,hon,hw⟩
theorem zy(xs:List ay)(k:Int){A:Option Addr}{c lo:Nat}{bs}(w:World)(hx:T1 w (.sl xs.length (xs.flatMap ay.enc)) bs (.slice A xs.length c))(ho:Own lo w bs)(hn':xs.length≤maxLen)(hk0:0≤k)(hk1:k+(cN (xs.flatMap ay.enc):Nat)≤4611686018427387904):
  Calls Tryz.prog 68 #[.slice A xs.length c,.int .i64 k] w fun e w'=>∃r:Int,e=.returned (.int .i64 r)∧Hid (r=k+(cN (xs.flatMap ay.enc):Nat))∧T1 w' (.sl xs.length (mD (xs.flatMap ay.enc) k)) bs (.slice A xs.length c)∧qA bs w w'∧Own lo w' bs:=by
 unfold maxLen at hn';obtain⟨n,hn⟩:∃n,xs.length=n:=⟨_,rfl⟩;rw[hn]at hx hn' ⊢;have Hn:Hid (xs.length=n):=hn;clear hn;have hkk:=Lib.hid hk1;clear hk1
 go_enter Tryz.func68,Tryz.ntmps68
 go_wp2_with fail
 go_loopw [1,5] (fun l i w'=>∃(j:Nat) (m:Int),j≤n∧i=.int .i64 j∧l=.int .i64 m∧Hid (m=k+(cN ((xs.take j).flatMap ay.enc):Nat))∧0≤m∧T1 w' (.sl n (mD ((xs.take j).flatMap ay.enc) k++(xs.drop j).flatMap ay.enc)) bs (.slice A n c)∧qA bs w w'∧Own lo w' bs) (fun _ i _=>n-(intOf i).toNat)
 case atStart=>exact⟨0,k,Nat.zero_le _,rfl,rfl,Lib.hid (by simp[iq]),hk0,by simpa[nJ]using hx,qA.refl _ _,ho⟩
 case round=>
  obtain⟨j,m,hj,rfl,rfl,hm,hm0,ht,hon,hw⟩:=hrel
  by_cases hlt:j<n
  ·obtain⟨x,hxk,hsp,hll,hsn,hdr⟩:=qK ay.enc 5 ay.bU Hn hlt;rw[hdr.out,List.flatMap_cons]at ht;have hml:(mD ((xs.take j).flatMap ay.enc) k).length=j*5:=by rw[yj,hll]
   generalize hL:mD ((xs.take j).flatMap ay.enc) k=L at ht hml;have HL:=Lib.hid hL;clear hL hll;have hcx:Hid (cN (ay.enc x)=1+1+1+cN (x.data.flatMap dQ)+cN (x.ports.flatMap aH.enc)):=by show cN [.v (.int .i64 x.kind),.v (.int .i64 x.level),.v (.int .i64 x.value),.sl x.data.length (x.data.flatMap dQ),.sl x.ports.length (x.ports.flatMap aH.enc)]=_;simp only[iV,vO,oK,iq]<;>omega
   have hbd:m+1+1+1+(cN (x.data.flatMap dQ):Nat)+(cN (x.ports.flatMap aH.enc):Nat)≤4611686018427387904:=by
    have h1:=hm.out;have h2:=hkk.out;have h3:=hcx.out
    have h4:=hsp.out;have h5:cN (xs.flatMap ay.enc)=cN ((xs.take j).flatMap ay.enc)+(cN (ay.enc x)+cN ((xs.drop (j+1)).flatMap ay.enc)):=by rw[h4,eO,eO]
    omega
   replace ht:T1 wr (.sl n (L++(.v (.int .i64 x.kind))::(.v (.int .i64 x.level))::(.v (.int .i64 x.value))::(.sl x.data.length (x.data.flatMap dQ))::(.sl x.ports.length (x.ports.flatMap aH.enc))::(xs.drop (j+1)).flatMap ay.enc)) bs (.slice A n c):=ht
   generalize hR:(xs.drop (j+1)).flatMap ay.enc=R at ht;have HR:=Lib.hid hR;clear hR;obtain⟨b,off,rfl, -,hbm,hbl,hblo,hfz⟩:=ht.row hw;have z0_0:T1 wr (.sl n (L++(.v (.int .i64 x.kind))::(.v (.int .i64 x.level))::(.v (.int .i64 x.value))::(.sl x.data.length (x.data.flatMap dQ))::(.sl x.ports.length (x.ports.flatMap aH.enc))::R)) bs (.slice (some ⟨b,off,none⟩) n c):=by exact ht
   have y0_0:=(z0_0.leaf hw (o:=off+j*5) rfl (by simp only[List.length_append,List.length_cons,List.length_nil,hml]<;>omega)).1;have z0_1:T1 wr (.sl n ((L++[.v (.int .i64 x.kind)])++(.v (.int .i64 x.level))::(.v (.int .i64 x.value))::(.sl x.data.length (x.data.flatMap dQ))::(.sl x.ports.length (x.ports.flatMap aH.enc))::R)) bs (.slice (some ⟨b,off,none⟩) n c):=by rw[List.append_assoc];exact ht
   have y0_1:=(z0_1.leaf hw (o:=off+j*5+1) rfl (by simp only[List.length_append,List.length_cons,List.length_nil,hml]<;>omega)).1;have z0_2:T1 wr (.sl n ((L++[.v (.int .i64 x.kind),.v (.int .i64 x.level)])++(.v (.int .i64 x.value))::(.sl x.data.length (x.data.flatMap dQ))::(.sl x.ports.length (x.ports.flatMap aH.enc))::R)) bs (.slice (some ⟨b,off,none⟩) n c):=by rw[List.append_assoc];exact ht
   have y0_2:=(z0_2.leaf hw (o:=off+j*5+2) rfl (by simp only[List.length_append,List.length_cons,List.length_nil,hml]<;>omega)).1;have z0_3:T1 wr (.sl n ((L++[.v (.int .i64 x.kind),.v (.int .i64 x.level),.v (.int .i64 x.value)])++(.sl x.data.length (x.data.flatMap dQ))::(.sl x.ports.length (x.ports.flatMap aH.enc))::R)) bs (.slice (some ⟨b,off,none⟩) n c):=by rw[List.append_assoc];exact ht
   obtain⟨A0_3,c0_3,b0_3,y0_3, -⟩:=z0_3.sub hw (o:=off+j*5+3) rfl (by simp only[List.length_append,List.length_cons,List.length_nil,hml]<;>omega);obtain⟨t0,u0,v0⟩:=(ht.leaf hw (o:=off+j*5) rfl (by simp only[List.length_append,List.length_cons,List.length_nil,hml]<;>omega)).2 (.int .i64 m) rfl
   replace t0:T1 (World.setCell wr ⟨b,off+j*5,none⟩ (.int .i64 m)) (.sl n (L++(.v (.int .i64 m))::(.v (.int .i64 x.level))::(.v (.int .i64 x.value))::(.sl x.data.length (x.data.flatMap dQ))::(.sl x.ports.length (x.ports.flatMap aH.enc))::R)) bs (.slice (some ⟨b,off,none⟩) n c):=t0
   replace t0:T1 (World.setCell wr ⟨b,off+j*5,none⟩ (.int .i64 m)) (.sl n ((L++[.v (.int .i64 m)])++(.v (.int .i64 x.level))::(.v (.int .i64 x.value))::(.sl x.data.length (x.data.flatMap dQ))::(.sl x.ports.length (x.ports.flatMap aH.enc))::R)) bs (.slice (some ⟨b,off,none⟩) n c):=by rw[List.append_assoc];exact t0
   obtain⟨t1,u1,v1⟩:=(t0.leaf v0 (o:=off+j*5+1) rfl (by simp only[List.length_append,List.length_cons,List.length_nil,hml]<;>omega)).2 (.int .i64 (m+1)) rfl;rw[List.append_assoc]at t1
   replace t1:T1 (World.setCell (World.setCell wr ⟨b,off+j*5,none⟩ (.int .i64 m)) ⟨b,off+j*5+1,none⟩ (.int .i64 (m+1))) (.sl n (L++(.v (.int .i64 m))::(.v (.int .i64 (m+1)))::(.v (.int .i64 x.value))::(.sl x.data.length (x.data.flatMap dQ))::(.sl x.ports.length (x.ports.flatMap aH.enc))::R)) bs (.slice (some ⟨b,off,none⟩) n c):=t1
   replace t1:T1 (World.setCell (World.setCell wr ⟨b,off+j*5,none⟩ (.int .i64 m)) ⟨b,off+j*5+1,none⟩ (.int .i64 (m+1))) (.sl n ((L++[.v (.int .i64 m),.v (.int .i64 (m+1))])++(.v (.int .i64 x.value))::(.sl x.data.length (x.data.flatMap dQ))::(.sl x.ports.length (x.ports.flatMap aH.enc))::R)) bs (.slice (some ⟨b,off,none⟩) n c):=by rw[List.append_assoc];exact t1
   obtain⟨t2,u2,v2⟩:=(t1.leaf v1 (o:=off+j*5+2) rfl (by simp only[List.length_append,List.length_cons,List.length_nil,hml]<;>omega)).2 (.int .i64 (m+1+1)) rfl;rw[List.append_assoc]at t2
   replace t2:T1 (World.setCell (World.setCell (World.setCell wr ⟨b,off+j*5,none⟩ (.int .i64 m)) ⟨b,off+j*5+1,none⟩ (.int .i64 (m+1))) ⟨b,off+j*5+2,none⟩ (.int .i64 (m+1+1))) (.sl n (L++(.v (.int .i64 m))::(.v (.int .i64 (m+1)))::(.v (.int .i64 (m+1+1)))::(.sl x.data.length (x.data.flatMap dQ))::(.sl x.ports.length (x.ports.flatMap aH.enc))::R)) bs (.slice (some ⟨b,off,none⟩) n c):=t2
   have g3:T1 (World.setCell (World.setCell (World.setCell wr ⟨b,off+j*5,none⟩ (.int .i64 m)) ⟨b,off+j*5+1,none⟩ (.int .i64 (m+1))) ⟨b,off+j*5+2,none⟩ (.int .i64 (m+1+1))) (.sl n ((L++[.v (.int .i64 m),.v (.int .i64 (m+1)),.v (.int .i64 (m+1+1))])++(.sl x.data.length (x.data.flatMap dQ))::(.sl x.ports.length (x.ports.flatMap aH.enc))::R)) bs (.slice (some ⟨b,off,none⟩) n c):=by rw[List.append_assoc];exact t2
   obtain⟨A3,c3,b3,k3,s3,n3,o3,nb3,back3⟩:=g3.sub v2 (o:=off+j*5+3) rfl (by simp only[List.length_append,List.length_cons,List.length_nil,hml]<;>omega)
   obtain⟨rfl,rfl⟩:A0_3=A3∧c0_3=c3:=by
    have hh:=k3;rw[jU _ _ _ _ _ (by omega)]at hh;rw[jU _ _ _ _ _ (by omega)]at hh;rw[jU _ _ _ _ _ (by omega)]at hh;rw[y0_3]at hh;simpa using hh
   clear k3;have HB3:=Lib.hid back3;clear back3 g3;clear z0_0 z0_1 z0_2 z0_3
   go_wp2_with fail
   refine(zA x.data (m+1+1+1) _ s3 o3 n3 (by omega) (by omega)).mono ?_;rintro _ W1 ⟨r1,rfl,hr1,q3,f3, -⟩;obtain⟨t3,u3,v3⟩:=HB3.out W1 _ f3 q3;have p1:0≤r1:=by have:=hr1.out;omega
   have l1:r1+(cN (x.ports.flatMap aH.enc):Nat)≤4611686018427387904:=by have:=hr1.out;omega
   rw[List.append_assoc]at t3
   replace t3:T1 W1 (.sl n (L++(.v (.int .i64 m))::(.v (.int .i64 (m+1)))::(.v (.int .i64 (m+1+1)))::(.sl x.data.length (mD (x.data.flatMap dQ) (m+1+1+1)))::(.sl x.ports.length (x.ports.flatMap aH.enc))::R)) bs (.slice (some ⟨b,off,none⟩) n c):=t3
   have hfz1:∀o,World.frozen? W1 ⟨b,o,none⟩=false:=fun o=>(by obtain⟨_,cur,tt,hrow⟩:=v3.2 b hbm;simp[World.frozen?,hrow])
   have z1_4:T1 W1 (.sl n ((L++[.v (.int .i64 m),.v (.int .i64 (m+1)),.v (.int .i64 (m+1+1)),.sl x.data.length (mD (x.data.flatMap dQ) (m+1+1+1))])++(.sl x.ports.length (x.ports.flatMap aH.enc))::R)) bs (.slice (some ⟨b,off,none⟩) n c):=by rw[List.append_assoc];exact t3
   obtain⟨A1_4,c1_4,b1_4,y1_4, -⟩:=z1_4.sub v3 (o:=off+j*5+4) rfl (by simp only[List.length_append,List.length_cons,List.length_nil,hml]<;>omega);have g4:T1 W1 (.sl n ((L++[.v (.int .i64 m),.v (.int .i64 (m+1)),.v (.int .i64 (m+1+1)),.sl x.data.length (mD (x.data.flatMap dQ) (m+1+1+1))])++(.sl x.ports.length (x.ports.flatMap aH.enc))::R)) bs (.slice (some ⟨b,off,none⟩) n c):=by rw[List.append_assoc];exact t3
   obtain⟨A4,c4,b4,k4,s4,n4,o4,nb4,back4⟩:=g4.sub v3 (o:=off+j*5+4) rfl (by simp only[List.length_append,List.length_cons,List.length_nil,hml]<;>omega)
   obtain⟨rfl,rfl⟩:A1_4=A4∧c1_4=c4:=by
    have hh:=k4;rw[y1_4]at hh;simpa using hh
   clear k4;have HB4:=Lib.hid back4;clear back4 g4;clear z1_4
   go_wp2_with fail
   refine(KV x.ports (r1) _ s4 o4 n4 (by omega) (by omega)).mono ?_;rintro _ W2 ⟨r2,rfl,hr2,q4,f4, -⟩;obtain⟨t4,u4,v4⟩:=HB4.out W2 _ f4 q4;have p2:0≤r2:=by have:=hr2.out;omega
   have l2:r2+0≤4611686018427387904:=by have:=hr2.out;omega
   rw[List.append_assoc]at t4
   replace t4:T1 W2 (.sl n (L++(.v (.int .i64 m))::(.v (.int .i64 (m+1)))::(.v (.int .i64 (m+1+1)))::(.sl x.data.length (mD (x.data.flatMap dQ) (m+1+1+1)))::(.sl x.ports.length (mD (x.ports.flatMap aH.enc) (r1)))::R)) bs (.slice (some ⟨b,off,none⟩) n c):=t4
   go_wp2_with fail
   have hmk:mD (ay.enc x) m=[.v (.int .i64 m),.v (.int .i64 (m+1)),.v (.int .i64 (m+1+1)),.sl x.data.length (mD (x.data.flatMap dQ) (m+1+1+1)),.sl x.ports.length (mD (x.ports.flatMap aH.enc) (r1))]:=by
    show mD [.v (.int .i64 x.kind),.v (.int .i64 x.level),.v (.int .i64 x.value),.sl x.data.length (x.data.flatMap dQ),.sl x.ports.length (x.ports.flatMap aH.enc)] m=_;simp only[pX,nJ,Am,ER,vO,oK]
    all_goals (have h1:=hr1.out;have h2:=hr2.out;exact(jc (tC (by omega)) (jc (tC (by omega)) (jc (tC (by omega)) (jc (Ul (by omega)) (jc (Ul (by omega)) rfl))))))
   have hfin:mD ((xs.take (j+1)).flatMap ay.enc) k++(xs.drop (j+1)).flatMap ay.enc=L++(.v (.int .i64 m))::(.v (.int .i64 (m+1)))::(.v (.int .i64 (m+1+1)))::(.sl x.data.length (mD (x.data.flatMap dQ) (m+1+1+1)))::(.sl x.ports.length (mD (x.ports.flatMap aH.enc) (r1)))::R:=by
    rw[hsn.out,mW,HL.out,←hm.out,hmk,List.append_assoc,HR.out];rfl
   exact⟨⟨j+1,r2,by omega,by go_num,by first|rfl|go_num,Lib.hid (by rw[hsn.out,eO];have h1:=hr1.out;have h2:=hr2.out;have h8:=hcx.out;have h9:=hm.out;omega),by omega,by rw[hfin];exact t4,(((((hon).trans u0).trans u1).trans u2).trans u3).trans u4,v4⟩,by simp[intOf];omega⟩
  ·have:j=n:=by omega
   subst this
   go_wp2_with fail
   go_ret;have hl:=Hn.out;rw[List.take_of_length_le (by omega),List.drop_of_length_le (by omega)]at ht;have hm':=hm.out;rw[List.take_of_length_le (by omega)]at hm';exact⟨m,rfl,hm',by simpa using ht,hon,hw⟩
theorem Qi(x:aU)(k:Int){bs us}{lo:Nat}(w:World)(hx:TN w x.enc bs us)(ho:Own lo w bs)(hk0:0≤k)(hk1:k+(x.cnt:Nat)≤4611686018427387904):
  Calls Tryz.prog 29 #[.agg us.toArray,.int .i64 k] w fun e w'=>∃r:Int,e=.returned (.int .i64 r)∧Hid (r=k+(x.cnt:Nat))∧TN w' (x.Zal k) bs us∧qA bs w w'∧Own lo w' bs:=by
 have hlt:=hx.lt;obtain⟨A0,c0,b0,rfl,rfl,t0,l0,m0⟩:=aU.us hx;have o0:=ho;have g0:w.heap.size∉bs:=fun hm=>by have:=hlt _ (show w.heap.size∈bs by simp[hm]);omega
 have B0:∀S,Below w.heap.size w (w.alloc S):=fun _=>(Below.refl _ _).alloc (Nat.le_refl _) _
 have hcn:x.cnt=cN (x.agents.flatMap ay.enc):=rfl;rw[hcn]at hk1;clear hcn hx
 go_enter Tryz.func29,Tryz.ntmps29
 go_wp2_with fail
 refine(zy x.agents k _ (t0.below (B0 _)) (o0.below (B0 _)) (Nat.le_trans l0 m0) (by omega) (by omega)).mono ?_;rintro _ w1 ⟨r1,rfl,hr1,S0,f1,V0⟩;have p1:0≤r1:=by have:=hr1.out;omega
 have b1_:r1+0≤4611686018427387904:=by have:=hr1.out;omega
 have u1:=(f1.other w.heap.size (by simp) g0).trans (heap_alloc_new w _);have z1:w.heap.size<w1.heap.size:=by have:=f1.size;simp at this;omega
 have F1:qA (bs) w w1:=qA.trans (qA.Jj (B0 _)) (f1.sub (fun y hy=>by first|exact hy|(simp at hy ⊢;grind)));have q1_0:=cell_of_row _ _ 0 _ _ _ u1;simp only[List.getElem?_toArray,List.getElem?_cons_zero,List.getElem?_cons_succ]at q1_0
 go_wp2_with fail
 go_ret;refine⟨r1,rfl,?_,?_,F1,ho.vX F1⟩
 ·show _=_;have hcn:x.cnt=cN (x.agents.flatMap ay.enc):=rfl;have h1:=hr1.out;omega
 ·have h1:=hr1.out;skip;have h:=(TN.vY S0 TN.done);simp only[List.append_nil,List.nil_append,List.append_assoc,List.cons_append]at h;unfold aU.Zal;simpa only[List.append_nil,List.nil_append,List.append_assoc,List.cons_append]using h
theorem NM(xs:List aU)(k:Int){A:Option Addr}{c lo:Nat}{bs}(w:World)(hx:T1 w (.sl xs.length (xs.flatMap aU.enc)) bs (.slice A xs.length c))(ho:Own lo w bs)(hn':xs.length≤maxLen)(hk0:0≤k)(hk1:k+(cN (xs.flatMap aU.enc):Nat)≤4611686018427387904):
  Calls Tryz.prog 28 #[.slice A xs.length c,.int .i64 k] w fun e w'=>∃r:Int,e=.returned (.int .i64 r)∧Hid (r=k+(cN (xs.flatMap aU.enc):Nat))∧T1 w' (.sl xs.length (mD (xs.flatMap aU.enc) k)) bs (.slice A xs.length c)∧qA bs w w'∧Own lo w' bs:=by
 unfold maxLen at hn';obtain⟨n,hn⟩:∃n,xs.length=n:=⟨_,rfl⟩;rw[hn]at hx hn' ⊢;have Hn:Hid (xs.length=n):=hn;clear hn;have hkk:=Lib.hid hk1;clear hk1
 go_enter Tryz.func28,Tryz.ntmps28
 go_wp2_with fail
 go_loopw [1,5] (fun l i w'=>∃(j:Nat) (m:Int),j≤n∧i=.int .i64 j∧l=.int .i64 m∧Hid (m=k+(cN ((xs.take j).flatMap aU.enc):Nat))∧0≤m∧T1 w' (.sl n (mD ((xs.take j).flatMap aU.enc) k++(xs.drop j).flatMap aU.enc)) bs (.slice A n c)∧qA bs w w'∧Own lo w' bs) (fun _ i _=>n-(intOf i).toNat)
 case atStart=>exact⟨0,k,Nat.zero_le _,rfl,rfl,Lib.hid (by simp[iq]),hk0,by simpa[nJ]using hx,qA.refl _ _,ho⟩
 case round=>
  obtain⟨j,m,hj,rfl,rfl,hm,hm0,ht,hon,hw⟩:=hrel
  by_cases hlt:j<n
  ·obtain⟨x,hxk,hsp,hll,hsn,hdr⟩:=qK aU.enc 1 aU.bU Hn hlt;rw[hdr.out,List.flatMap_cons]at ht;have hml:(mD ((xs.take j).flatMap aU.enc) k).length=j*1:=by rw[yj,hll]
   generalize hL:mD ((xs.take j).flatMap aU.enc) k=L at ht hml;have HL:=Lib.hid hL;clear hL hll;have hcx:Hid (cN (aU.enc x)=cN (x.agents.flatMap ay.enc)):=by show cN [.sl x.agents.length (x.agents.flatMap ay.enc)]=_;simp only[iV,vO,oK,iq]<;>omega
   have hbd:m+(cN (x.agents.flatMap ay.enc):Nat)≤4611686018427387904:=by
    have h1:=hm.out;have h2:=hkk.out;have h3:=hcx.out
    have h4:=hsp.out;have h5:cN (xs.flatMap aU.enc)=cN ((xs.take j).flatMap aU.enc)+(cN (aU.enc x)+cN ((xs.drop (j+1)).flatMap aU.enc)):=by rw[h4,eO,eO]
    omega
   replace ht:T1 wr (.sl n (L++(.sl x.agents.length (x.agents.flatMap ay.enc))::(xs.drop (j+1)).flatMap aU.enc)) bs (.slice A n c):=ht
   generalize hR:(xs.drop (j+1)).flatMap aU.enc=R at ht;have HR:=Lib.hid hR;clear hR;obtain⟨b,off,rfl, -,hbm,hbl,hblo,hfz⟩:=ht.row hw;have z0_0:T1 wr (.sl n (L++(.sl x.agents.length (x.agents.flatMap ay.enc))::R)) bs (.slice (some ⟨b,off,none⟩) n c):=by exact ht
   obtain⟨A0_0,c0_0,b0_0,y0_0, -⟩:=z0_0.sub hw (o:=off+j) rfl (by simp only[List.length_append,List.length_cons,List.length_nil,hml]<;>omega);have g0:=ht;obtain⟨A0,c0,b0,k0,s0,n0,o0,nb0,back0⟩:=g0.sub hw (o:=off+j) rfl (by simp only[List.length_append,List.length_cons,List.length_nil,hml]<;>omega)
   obtain⟨rfl,rfl⟩:A0_0=A0∧c0_0=c0:=by
    have hh:=k0;rw[y0_0]at hh;simpa using hh
   clear k0;have HB0:=Lib.hid back0;clear back0 g0;clear z0_0
   go_wp2_with fail
   refine(zy x.agents (m) _ s0 o0 n0 (by omega) (by omega)).mono ?_;rintro _ W1 ⟨r1,rfl,hr1,q0,f0, -⟩;obtain⟨t0,u0,v0⟩:=HB0.out W1 _ f0 q0;have p1:0≤r1:=by have:=hr1.out;omega
   have l1:r1+0≤4611686018427387904:=by have:=hr1.out;omega
   replace t0:T1 W1 (.sl n (L++(.sl x.agents.length (mD (x.agents.flatMap ay.enc) (m)))::R)) bs (.slice (some ⟨b,off,none⟩) n c):=t0
   go_wp2_with fail
   have hmk:mD (aU.enc x) m=[.sl x.agents.length (mD (x.agents.flatMap ay.enc) (m))]:=by
    show mD [.sl x.agents.length (x.agents.flatMap ay.enc)] m=_;simp only[pX,nJ,Am,ER,vO,oK]
    all_goals (have h1:=hr1.out;exact(jc (Ul (by omega)) rfl))
   have hfin:mD ((xs.take (j+1)).flatMap aU.enc) k++(xs.drop (j+1)).flatMap aU.enc=L++(.sl x.agents.length (mD (x.agents.flatMap ay.enc) (m)))::R:=by
    rw[hsn.out,mW,HL.out,←hm.out,hmk,List.append_assoc,HR.out];rfl
   exact⟨⟨j+1,r1,by omega,by go_num,by first|rfl|go_num,Lib.hid (by rw[hsn.out,eO];have h1:=hr1.out;have h8:=hcx.out;have h9:=hm.out;omega),by omega,by rw[hfin];exact t0,(hon).trans u0,v0⟩,by simp[intOf];omega⟩
  ·have:j=n:=by omega
   subst this
   go_wp2_with fail
   go_ret;have hl:=Hn.out;rw[List.take_of_length_le (by omega),List.drop_of_length_le (by omega)]at ht;have hm':=hm.out;rw[List.take_of_length_le (by omega)]at hm';exact⟨m,rfl,hm',by simpa using ht,hon,hw⟩
end Go.Proofs.YtemalpelcdmemaaGreat
