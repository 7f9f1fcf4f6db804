
/- What the laws number and look for again in these types. Printed by gen_mk.py. -/
import Derived.Test.YtemalpelcdmemaaGreatProg
import Derived.Test.YtemalpelcdmemaaGreatSc
import Derived.Test.YtemalpelcdmemaaGreatValid
import Derived.BigGuardPart
import Derived.Outline
import Derived.Deep.CutBlock
set_option maxHeartbeats 4000000
set_option linter.unusedSimpArgs false
set_option linter.unusedVariables false
namespace Go.Tr
open Go Go.RowKit
def aB.JI(x:aB)(k:Int):List D:=[.sl x.agents.length (dD (x.agents.flatMap aj.enc) (k))]
def aB.cnt(x:aB):Nat:=cN (x.agents.flatMap aj.enc)
def aO.JI(x:aO)(k:Int):List D:=[.sl x.book.length (dD (x.book.flatMap aB.enc) (k))]++([.sl x.schedule.length (dD (x.schedule.flatMap aQ) (k+(cN (x.book.flatMap aB.enc):Nat)))]++([.v (.int .i64 x.every)]++([.v (.int .i64 x.at_)]++(x.net.JI (k+(cN (x.book.flatMap aB.enc):Nat)+(cN (x.schedule.flatMap aQ):Nat))++([.sl x.origins.length (dD (x.origins.flatMap aG.enc) (k+(cN (x.book.flatMap aB.enc):Nat)+(cN (x.schedule.flatMap aQ):Nat)+(x.net.cnt:Nat)))]++([.sl x.breaks.length (dD (x.breaks.flatMap aU.enc) (k+(cN (x.book.flatMap aB.enc):Nat)+(cN (x.schedule.flatMap aQ):Nat)+(x.net.cnt:Nat)+(cN (x.origins.flatMap aG.enc):Nat)))]++([.sl x.points.length (dD (x.points.flatMap ay.enc) (k+(cN (x.book.flatMap aB.enc):Nat)+(cN (x.schedule.flatMap aQ):Nat)+(x.net.cnt:Nat)+(cN (x.origins.flatMap aG.enc):Nat)+(cN (x.breaks.flatMap aU.enc):Nat)))])))))))
def aO.cnt(x:aO):Nat:=cN (x.book.flatMap aB.enc)+cN (x.schedule.flatMap aQ)+x.net.cnt+cN (x.origins.flatMap aG.enc)+cN (x.breaks.flatMap aU.enc)+cN (x.points.flatMap ay.enc)
theorem au.wo(x:au):cN x.enc≤32*(1+(fun _=>0) x):=by
 have hc:cN x.enc=1+1:=by show cN [.v (.int .i64 x.agent),.v (.int .i64 x.slot)]=_;simp only[cO,jS,fT,bT]<;>omega
 omega
theorem aj.wo(x:aj):cN x.enc≤32*(1+x.wt):=by
 have h3:=aZ (f:=aQ) (g:=(fun _=>0)) BM x.data;have h4:=aZ (f:=au.enc) (g:=(fun _=>0)) au.wo x.ports;have hw:x.wt=nD (fun _=>0) x.data+nD (fun _=>0) x.ports:=rfl;have hc:cN x.enc=1+1+1+cN (x.data.flatMap aQ)+cN (x.ports.flatMap au.enc):=by show cN [.v (.int .i64 x.kind),.v (.int .i64 x.level),.v (.int .i64 x.value),.sl x.data.length (x.data.flatMap aQ),.sl x.ports.length (x.ports.flatMap au.enc)]=_;simp only[cO,jS,fT,bT]<;>omega
 omega
theorem aB.wo(x:aB):cN x.enc≤32*(1+x.wt):=by
 have h0:=aZ (f:=aj.enc) (g:=aj.wt) aj.wo x.agents;have hw:x.wt=nD aj.wt x.agents:=rfl;have hc:cN x.enc=cN (x.agents.flatMap aj.enc):=by show cN [.sl x.agents.length (x.agents.flatMap aj.enc)]=_;simp only[cO,jS,fT,bT]<;>omega
 omega
theorem aB.Bn(x:aB):x.cnt≤32*x.wt:=by
 have h0:=aZ (f:=aj.enc) (g:=aj.wt) aj.wo x.agents;have hw:x.wt=nD aj.wt x.agents:=rfl;have hc:x.cnt=cN (x.agents.flatMap aj.enc):=rfl;omega
theorem aG.wo(x:aG):cN x.enc≤32*(1+(fun _=>0) x):=by
 have hc:cN x.enc=1+1+1:=by show cN [.v (.int .i64 x.step),.v (.int .i64 x.def_),.v (.int .i64 x.source)]=_;simp only[cO,jS,fT,bT]<;>omega
 omega
theorem aU.wo(x:aU):cN x.enc≤32*(1+(fun _=>0) x):=by
 have hc:cN x.enc=1+1:=by show cN [.v (.int .i64 x.kind),.v (.int .i64 x.value)]=_;simp only[cO,jS,fT,bT]<;>omega
 omega
theorem ay.wo(x:ay):cN x.enc≤32*(1+x.wt):=by
 have h1:=aZ (f:=aj.enc) (g:=aj.wt) aj.wo x.net.agents;have h2:=aZ (f:=aG.enc) (g:=(fun _=>0)) aG.wo x.origins;have hw:x.wt=x.net.wt+nD (fun _=>0) x.origins:=rfl;have n1:x.net.wt=nD aj.wt x.net.agents:=rfl;have hc:cN x.enc=1+cN (x.net.agents.flatMap aj.enc)+cN (x.origins.flatMap aG.enc):=by show cN [.v (.int .i64 x.at_),.sl x.net.agents.length (x.net.agents.flatMap aj.enc),.sl x.origins.length (x.origins.flatMap aG.enc)]=_;simp only[cO,jS,fT,bT]<;>omega
 omega
theorem aO.wo(x:aO):cN x.enc≤32*(1+x.wt):=by
 have h0:=aZ (f:=aB.enc) (g:=aB.wt) aB.wo x.book;have h1:=aZ (f:=aQ) (g:=(fun _=>0)) BM x.schedule;have h4:=aZ (f:=aj.enc) (g:=aj.wt) aj.wo x.net.agents;have h5:=aZ (f:=aG.enc) (g:=(fun _=>0)) aG.wo x.origins;have h6:=aZ (f:=aU.enc) (g:=(fun _=>0)) aU.wo x.breaks;have h7:=aZ (f:=ay.enc) (g:=ay.wt) ay.wo x.points;have hw:x.wt=nD aB.wt x.book+nD (fun _=>0) x.schedule+x.net.wt+nD (fun _=>0) x.origins+nD (fun _=>0) x.breaks+nD ay.wt x.points:=rfl
 have n4:x.net.wt=nD aj.wt x.net.agents:=rfl;have hc:cN x.enc=cN (x.book.flatMap aB.enc)+cN (x.schedule.flatMap aQ)+1+1+cN (x.net.agents.flatMap aj.enc)+cN (x.origins.flatMap aG.enc)+cN (x.breaks.flatMap aU.enc)+cN (x.points.flatMap ay.enc):=by show cN [.sl x.book.length (x.book.flatMap aB.enc),.sl x.schedule.length (x.schedule.flatMap aQ),.v (.int .i64 x.every),.v (.int .i64 x.at_),.sl x.net.agents.length (x.net.agents.flatMap aj.enc),.sl x.origins.length (x.origins.flatMap aG.enc),.sl x.breaks.length (x.breaks.flatMap aU.enc),.sl x.points.length (x.points.flatMap ay.enc)]=_;simp only[cO,jS,fT,bT]<;>omega
 omega
theorem aO.Bn(x:aO):x.cnt≤32*x.wt:=by
 have h0:=aZ (f:=aB.enc) (g:=aB.wt) aB.wo x.book;have h1:=aZ (f:=aQ) (g:=(fun _=>0)) BM x.schedule;have h4:=aZ (f:=aj.enc) (g:=aj.wt) aj.wo x.net.agents;have h5:=aZ (f:=aG.enc) (g:=(fun _=>0)) aG.wo x.origins;have h6:=aZ (f:=aU.enc) (g:=(fun _=>0)) aU.wo x.breaks;have h7:=aZ (f:=ay.enc) (g:=ay.wt) ay.wo x.points;have hw:x.wt=nD aB.wt x.book+nD (fun _=>0) x.schedule+x.net.wt+nD (fun _=>0) x.origins+nD (fun _=>0) x.breaks+nD ay.wt x.points:=rfl
 have n4:x.net.wt=nD aj.wt x.net.agents:=rfl;have hc:x.cnt=cN (x.book.flatMap aB.enc)+cN (x.schedule.flatMap aQ)+x.net.cnt+cN (x.origins.flatMap aG.enc)+cN (x.breaks.flatMap aU.enc)+cN (x.points.flatMap ay.enc):=rfl;have c2:=aB.Bn x.net;omega
end Go.Tr
namespace Go.Proofs.YtemalpelcdmemaaGreat
open Go Go.RowKit Go.Proofs Go.Tr
theorem xU(xs:List Int)(k:Int){A:Option Addr}{c lo:Nat}{bs}(w:World)(hx:T1 w (.sl xs.length (xs.flatMap aQ)) bs (.slice A xs.length c))(ho:Own lo w bs)(hn':xs.length≤maxLen)(hk0:0≤k)(hk1:k+(cN (xs.flatMap aQ):Nat)≤4611686018427387904):
  Calls Tryz.prog 36 #[.slice A xs.length c,.int .i64 k] w fun e w'=>∃r:Int,e=.returned (.int .i64 r)∧Hid (r=k+(cN (xs.flatMap aQ):Nat))∧T1 w' (.sl xs.length (dD (xs.flatMap aQ) k)) bs (.slice A xs.length c)∧iW bs w w'∧Own lo w' bs:=by
 unfold maxLen at hn';obtain⟨n,hn⟩:∃n,xs.length=n:=⟨_,rfl⟩;rw[hn]at hx hn' ⊢;have Hn:Hid (xs.length=n):=hn;clear hn;have hkk:=Lib.hid hk1;clear hk1
 go_enter Tryz.func36,Tryz.ntmps36
 go_wp2_with fail
 go_loopw [1,5] (fun l i w'=>∃(j:Nat) (m:Int),j≤n∧i=.int .i64 j∧l=.int .i64 m∧Hid (m=k+(cN ((xs.take j).flatMap aQ):Nat))∧0≤m∧T1 w' (.sl n (dD ((xs.take j).flatMap aQ) k++(xs.drop j).flatMap aQ)) bs (.slice A n c)∧iW bs w w'∧Own lo w' bs) (fun _ i _=>n-(intOf i).toNat)
 case atStart=>exact⟨0,k,Nat.zero_le _,rfl,rfl,Lib.hid (by simp[bT]),hk0,by simpa[eZ]using hx,iW.refl _ _,ho⟩
 case round=>
  obtain⟨j,m,hj,rfl,rfl,hm,hm0,ht,hon,hw⟩:=hrel
  by_cases hlt:j<n
  ·obtain⟨x,hxk,hsp,hll,hsn,hdr⟩:=gG aQ 1 (fun _=>rfl) Hn hlt;rw[hdr.out,List.flatMap_cons]at ht;have hml:(dD ((xs.take j).flatMap aQ) k).length=j*1:=by rw[kK,hll]
   generalize hL:dD ((xs.take j).flatMap aQ) k=L at ht hml;have HL:=Lib.hid hL;clear hL hll;have hcx:Hid (cN (aQ x)=1):=by show cN [.v (.int .i64 x)]=_;simp only[cO,jS,fT,bT]<;>omega
   have hbd:m+1≤4611686018427387904:=by
    have h1:=hm.out;have h2:=hkk.out;have h3:=hcx.out
    have h4:=hsp.out;have h5:cN (xs.flatMap aQ)=cN ((xs.take j).flatMap aQ)+(cN (aQ x)+cN ((xs.drop (j+1)).flatMap aQ)):=by rw[h4,aX,aX]
    omega
   replace ht:T1 wr (.sl n (L++(.v (.int .i64 x))::(xs.drop (j+1)).flatMap aQ)) bs (.slice A n c):=ht
   generalize hR:(xs.drop (j+1)).flatMap aQ=R at ht;have HR:=Lib.hid hR;clear hR;obtain⟨b,off,rfl, -,hbm,hbl,hblo,hfz⟩:=ht.row hw;have z0_0:T1 wr (.sl n (L++(.v (.int .i64 x))::R)) bs (.slice (some ⟨b,off,none⟩) n c):=by exact ht
   have y0_0:=(z0_0.leaf hw (o:=off+j) rfl (by simp only[List.length_append,List.length_cons,List.length_nil,hml]<;>omega)).1;obtain⟨t0,u0,v0⟩:=(ht.leaf hw (o:=off+j) rfl (by simp only[List.length_append,List.length_cons,List.length_nil,hml]<;>omega)).2 (.int .i64 m) rfl
   replace t0:T1 (World.setCell wr ⟨b,off+j,none⟩ (.int .i64 m)) (.sl n (L++(.v (.int .i64 m))::R)) bs (.slice (some ⟨b,off,none⟩) n c):=t0
   clear z0_0
   go_wp2_with fail
   have hmk:dD (aQ x) m=[.v (.int .i64 m)]:=by
    show dD [.v (.int .i64 x)] m=_;simp only[gM,eZ,lX,oV,jS,fT]
    all_goals (exact(bU (jQ (by omega)) rfl))
   have hfin:dD ((xs.take (j+1)).flatMap aQ) k++(xs.drop (j+1)).flatMap aQ=L++(.v (.int .i64 m))::R:=by
    rw[hsn.out,dx,HL.out,←hm.out,hmk,List.append_assoc,HR.out];rfl
   exact⟨⟨j+1,m+1,by omega,by go_num,by first|rfl|go_num,Lib.hid (by rw[hsn.out,aX];have h8:=hcx.out;have h9:=hm.out;omega),by omega,by rw[hfin];exact t0,(hon).trans u0,v0⟩,by simp[intOf];omega⟩
  ·have:j=n:=by omega
   subst this
   go_wp2_with fail
   go_ret;have hl:=Hn.out;rw[List.take_of_length_le (by omega),List.drop_of_length_le (by omega)]at ht;have hm':=hm.out;rw[List.take_of_length_le (by omega)]at hm';exact⟨m,rfl,hm',by simpa using ht,hon,hw⟩
theorem xG(xs:List Int)(k r:Int)(n:Nat){A:Option Addr}{c:Nat}{bs:List Nat}(w:World)(hx:T1 w (.sl n (dD (xs.flatMap aQ) k)) bs (.slice A n c))(Hn:Hid (xs.length=n))(hk0:0≤k)(hk1:r≤4611686018427387904)(Hr:Hid (r=k+(cN (xs.flatMap aQ):Nat))):Calls Tryz.prog 44 #[.slice A n c,.int .i64 k] w fun e w'=>e=.returned (.int .i64 (r))∧Ext w w':=by
 refine aL fun e=> ?_
 have hn:=hx.oW
 go_enter Tryz.func44,Tryz.ntmps44
 go_wp2_with fail
 repeat (refine ah _ (by kernel_rfl) (by kernel_rfl) ?_;(repeat (go_big_quiet_step (fail)));refine wpQuiet_nil ?_;intro e;go_wp2_with fail)
 go_loopw [1,5] (fun l i w'=>∃(j:Nat) (m:Int),j≤n∧i=.int .i64 j∧l=.int .i64 m∧Hid (m=k+(cN ((xs.take j).flatMap aQ):Nat))∧0≤m∧∃e:aC w,w'=e.to) (fun _ i _=>n-(intOf i).toNat)
 case atStart=>exact⟨0,k,Nat.zero_le _,rfl,rfl,Lib.hid (by simp[bT]),hk0,_,rfl⟩
 case round=>
  obtain⟨j,m,hj,rfl,rfl,hm,hm0,e,rfl⟩:=hrel
  by_cases hlt:j<n
  ·obtain⟨x,hxk,hsp,hll,hsn, -⟩:=gG aQ 1 (fun _=>rfl) Hn hlt;have hcx:Hid (cN (aQ x)=1):=by show cN [.v (.int .i64 x)]=_;simp only[cO,jS,fT,bT]<;>omega
   have hbd:m+1≤4611686018427387904:=by
    have h1:=hm.out;have h2:=Hr.out;have h3:=hcx.out
    have h5:cN (xs.flatMap aQ)=cN ((xs.take j).flatMap aQ)+(cN (aQ x)+cN ((xs.drop (j+1)).flatMap aQ)):=by rw[hsp.out,aX,aX]
    omega
   have hmk:dD (aQ x) m=[.v (.int .i64 (m))]:=by
    show dD [.v (.int .i64 x)] m=_;simp only[gM,eZ,lX,oV,jS,fT]
    all_goals (exact(bU (jQ (by omega)) rfl))
   have hxx:=hx;rw[hsp.out,dx,dx,←hm.out,hmk]at hxx;have hml:(dD ((xs.take j).flatMap aQ) k).length=j*1:=by rw[kK,hll]
   generalize hL:dD ((xs.take j).flatMap aQ) k=L at hxx hml;clear hL hll hmk;generalize hR:dD ((xs.drop (j+1)).flatMap aQ) (m+(cN (aQ x):Nat))=R at hxx;clear hR
   replace hxx:T1 w (.sl n (L++(.v (.int .i64 (m)))::R)) bs (.slice A n c):=hxx
   obtain⟨b,off,rfl⟩:=hxx.Qt;have z0:T1 w (.sl n (L++(.v (.int .i64 (m)))::R)) bs (.slice (some ⟨b,off,none⟩) n c):=by exact hxx
   have y0:=z0.Aa (o:=off+j) rfl (by simp only[List.length_append,List.length_cons,List.length_nil,hml]<;>omega);clear hxx z0
   go_wp2_with fail
   repeat (refine ah _ (by kernel_rfl) (by kernel_rfl) ?_;(repeat (go_big_quiet_step (fail)));refine wpQuiet_nil ?_;intro e;go_wp2_with fail)
   exact⟨⟨j+1,m+1,by omega,by go_num,by first|rfl|go_num,Lib.hid (by rw[hsn.out,aX];have h8:=hcx.out;have h9:=hm.out;omega),by omega,_,rfl⟩,by simp[intOf];omega⟩
  ·have:j=n:=by omega
   subst this
   have E:Hid (r=m):=by
    have h1:=hm.out;have h2:=Hr.out;have h3:=Hn.out
    rw[List.take_of_length_le (by omega)]at h1;show _=_;omega
   go_wp2_with fail
   repeat (refine ah _ (by kernel_rfl) (by kernel_rfl) ?_;(repeat (go_big_quiet_step (fail)));refine wpQuiet_nil ?_;intro e;go_wp2_with fail)
   go_ret;exact⟨by rw[E.out];rfl,_,rfl⟩
theorem zD(xs:List au)(k:Int){A:Option Addr}{c lo:Nat}{bs}(w:World)(hx:T1 w (.sl xs.length (xs.flatMap au.enc)) bs (.slice A xs.length c))(ho:Own lo w bs)(hn':xs.length≤maxLen)(hk0:0≤k)(hk1:k+(cN (xs.flatMap au.enc):Nat)≤4611686018427387904):
  Calls Tryz.prog 123 #[.slice A xs.length c,.int .i64 k] w fun e w'=>∃r:Int,e=.returned (.int .i64 r)∧Hid (r=k+(cN (xs.flatMap au.enc):Nat))∧T1 w' (.sl xs.length (dD (xs.flatMap au.enc) k)) bs (.slice A xs.length c)∧iW bs w w'∧Own lo w' bs:=by
 unfold maxLen at hn';obtain⟨n,hn⟩:∃n,xs.length=n:=⟨_,rfl⟩;rw[hn]at hx hn' ⊢;have Hn:Hid (xs.length=n):=hn;clear hn;have hkk:=Lib.hid hk1;clear hk1
 go_enter Tryz.func123,Tryz.ntmps123
 go_wp2_with fail
 go_loopw [1,5] (fun l i w'=>∃(j:Nat) (m:Int),j≤n∧i=.int .i64 j∧l=.int .i64 m∧Hid (m=k+(cN ((xs.take j).flatMap au.enc):Nat))∧0≤m∧T1 w' (.sl n (dD ((xs.take j).flatMap au.enc) k++(xs.drop j).flatMap au.enc)) bs (.slice A n c)∧iW bs w w'∧Own lo w' bs) (fun _ i _=>n-(intOf i).toNat)
 case atStart=>exact⟨0,k,Nat.zero_le _,rfl,rfl,Lib.hid (by simp[bT]),hk0,by simpa[eZ]using hx,iW.refl _ _,ho⟩
 case round=>
  obtain⟨j,m,hj,rfl,rfl,hm,hm0,ht,hon,hw⟩:=hrel
  by_cases hlt:j<n
  ·obtain⟨x,hxk,hsp,hll,hsn,hdr⟩:=gG au.enc 2 au.aK Hn hlt;rw[hdr.out,List.flatMap_cons]at ht;have hml:(dD ((xs.take j).flatMap au.enc) k).length=j*2:=by rw[kK,hll]
   generalize hL:dD ((xs.take j).flatMap au.enc) k=L at ht hml;have HL:=Lib.hid hL;clear hL hll;have hcx:Hid (cN (au.enc x)=1+1):=by show cN [.v (.int .i64 x.agent),.v (.int .i64 x.slot)]=_;simp only[cO,jS,fT,bT]<;>omega
   have hbd:m+1+1≤4611686018427387904:=by
    have h1:=hm.out;have h2:=hkk.out;have h3:=hcx.out
    have h4:=hsp.out;have h5:cN (xs.flatMap au.enc)=cN ((xs.take j).flatMap au.enc)+(cN (au.enc x)+cN ((xs.drop (j+1)).flatMap au.enc)):=by rw[h4,aX,aX]
    omega
   replace ht:T1 wr (.sl n (L++(.v (.int .i64 x.agent))::(.v (.int .i64 x.slot))::(xs.drop (j+1)).flatMap au.enc)) bs (.slice A n c):=ht
   generalize hR:(xs.drop (j+1)).flatMap au.enc=R at ht;have HR:=Lib.hid hR;clear hR;obtain⟨b,off,rfl, -,hbm,hbl,hblo,hfz⟩:=ht.row hw;have z0_0:T1 wr (.sl n (L++(.v (.int .i64 x.agent))::(.v (.int .i64 x.slot))::R)) bs (.slice (some ⟨b,off,none⟩) n c):=by exact ht
   have y0_0:=(z0_0.leaf hw (o:=off+j*2) rfl (by simp only[List.length_append,List.length_cons,List.length_nil,hml]<;>omega)).1;have z0_1:T1 wr (.sl n ((L++[.v (.int .i64 x.agent)])++(.v (.int .i64 x.slot))::R)) bs (.slice (some ⟨b,off,none⟩) n c):=by rw[List.append_assoc];exact ht
   have y0_1:=(z0_1.leaf hw (o:=off+j*2+1) rfl (by simp only[List.length_append,List.length_cons,List.length_nil,hml]<;>omega)).1;obtain⟨t0,u0,v0⟩:=(ht.leaf hw (o:=off+j*2) rfl (by simp only[List.length_append,List.length_cons,List.length_nil,hml]<;>omega)).2 (.int .i64 m) rfl
   replace t0:T1 (World.setCell wr ⟨b,off+j*2,none⟩ (.int .i64 m)) (.sl n (L++(.v (.int .i64 m))::(.v (.int .i64 x.slot))::R)) bs (.slice (some ⟨b,off,none⟩) n c):=t0
   replace t0:T1 (World.setCell wr ⟨b,off+j*2,none⟩ (.int .i64 m)) (.sl n ((L++[.v (.int .i64 m)])++(.v (.int .i64 x.slot))::R)) bs (.slice (some ⟨b,off,none⟩) n c):=by rw[List.append_assoc];exact t0
   obtain⟨t1,u1,v1⟩:=(t0.leaf v0 (o:=off+j*2+1) rfl (by simp only[List.length_append,List.length_cons,List.length_nil,hml]<;>omega)).2 (.int .i64 (m+1)) rfl;rw[List.append_assoc]at t1
   replace t1:T1 (World.setCell (World.setCell wr ⟨b,off+j*2,none⟩ (.int .i64 m)) ⟨b,off+j*2+1,none⟩ (.int .i64 (m+1))) (.sl n (L++(.v (.int .i64 m))::(.v (.int .i64 (m+1)))::R)) bs (.slice (some ⟨b,off,none⟩) n c):=t1
   clear z0_0 z0_1
   go_wp2_with fail
   have hmk:dD (au.enc x) m=[.v (.int .i64 m),.v (.int .i64 (m+1))]:=by
    show dD [.v (.int .i64 x.agent),.v (.int .i64 x.slot)] m=_;simp only[gM,eZ,lX,oV,jS,fT]
    all_goals (exact(bU (jQ (by omega)) (bU (jQ (by omega)) rfl)))
   have hfin:dD ((xs.take (j+1)).flatMap au.enc) k++(xs.drop (j+1)).flatMap au.enc=L++(.v (.int .i64 m))::(.v (.int .i64 (m+1)))::R:=by
    rw[hsn.out,dx,HL.out,←hm.out,hmk,List.append_assoc,HR.out];rfl
   exact⟨⟨j+1,m+1+1,by omega,by go_num,by first|rfl|go_num,Lib.hid (by rw[hsn.out,aX];have h8:=hcx.out;have h9:=hm.out;omega),by omega,by rw[hfin];exact t1,((hon).trans u0).trans u1,v1⟩,by simp[intOf];omega⟩
  ·have:j=n:=by omega
   subst this
   go_wp2_with fail
   go_ret;have hl:=Hn.out;rw[List.take_of_length_le (by omega),List.drop_of_length_le (by omega)]at ht;have hm':=hm.out;rw[List.take_of_length_le (by omega)]at hm';exact⟨m,rfl,hm',by simpa using ht,hon,hw⟩
theorem zu(xs:List au)(k r:Int)(n:Nat){A:Option Addr}{c:Nat}{bs:List Nat}(w:World)(hx:T1 w (.sl n (dD (xs.flatMap au.enc) k)) bs (.slice A n c))(Hn:Hid (xs.length=n))(hk0:0≤k)(hk1:r≤4611686018427387904)(Hr:Hid (r=k+(cN (xs.flatMap au.enc):Nat))):Calls Tryz.prog 124 #[.slice A n c,.int .i64 k] w fun e w'=>e=.returned (.int .i64 (r))∧Ext w w':=by
 refine aL fun e=> ?_
 have hn:=hx.oW
 go_enter Tryz.func124,Tryz.ntmps124
 go_wp2_with fail
 repeat (refine ah _ (by kernel_rfl) (by kernel_rfl) ?_;(repeat (go_big_quiet_step (fail)));refine wpQuiet_nil ?_;intro e;go_wp2_with fail)
 go_loopw [1,5] (fun l i w'=>∃(j:Nat) (m:Int),j≤n∧i=.int .i64 j∧l=.int .i64 m∧Hid (m=k+(cN ((xs.take j).flatMap au.enc):Nat))∧0≤m∧∃e:aC w,w'=e.to) (fun _ i _=>n-(intOf i).toNat)
 case atStart=>exact⟨0,k,Nat.zero_le _,rfl,rfl,Lib.hid (by simp[bT]),hk0,_,rfl⟩
 case round=>
  obtain⟨j,m,hj,rfl,rfl,hm,hm0,e,rfl⟩:=hrel
  by_cases hlt:j<n
  ·obtain⟨x,hxk,hsp,hll,hsn, -⟩:=gG au.enc 2 au.aK Hn hlt;have hcx:Hid (cN (au.enc x)=1+1):=by show cN [.v (.int .i64 x.agent),.v (.int .i64 x.slot)]=_;simp only[cO,jS,fT,bT]<;>omega
   have hbd:m+1+1≤4611686018427387904:=by
    have h1:=hm.out;have h2:=Hr.out;have h3:=hcx.out
    have h5:cN (xs.flatMap au.enc)=cN ((xs.take j).flatMap au.enc)+(cN (au.enc x)+cN ((xs.drop (j+1)).flatMap au.enc)):=by rw[hsp.out,aX,aX]
    omega
   have hmk:dD (au.enc x) m=[.v (.int .i64 (m)),.v (.int .i64 (m+1))]:=by
    show dD [.v (.int .i64 x.agent),.v (.int .i64 x.slot)] m=_;simp only[gM,eZ,lX,oV,jS,fT]
    all_goals (exact(bU (jQ (by omega)) (bU (jQ (by omega)) rfl)))
   have hxx:=hx;rw[hsp.out,dx,dx,←hm.out,hmk]at hxx;have hml:(dD ((xs.take j).flatMap au.enc) k).length=j*2:=by rw[kK,hll]
   generalize hL:dD ((xs.take j).flatMap au.enc) k=L at hxx hml;clear hL hll hmk;generalize hR:dD ((xs.drop (j+1)).flatMap au.enc) (m+(cN (au.enc x):Nat))=R at hxx;clear hR
   replace hxx:T1 w (.sl n (L++(.v (.int .i64 (m)))::(.v (.int .i64 (m+1)))::R)) bs (.slice A n c):=hxx
   obtain⟨b,off,rfl⟩:=hxx.Qt;have z0:T1 w (.sl n (L++(.v (.int .i64 (m)))::(.v (.int .i64 (m+1)))::R)) bs (.slice (some ⟨b,off,none⟩) n c):=by exact hxx
   have y0:=z0.Aa (o:=off+j*2) rfl (by simp only[List.length_append,List.length_cons,List.length_nil,hml]<;>omega);have z1:T1 w (.sl n ((L++[.v (.int .i64 (m))])++(.v (.int .i64 (m+1)))::R)) bs (.slice (some ⟨b,off,none⟩) n c):=by rw[List.append_assoc];exact hxx
   have y1:=z1.Aa (o:=off+j*2+1) rfl (by simp only[List.length_append,List.length_cons,List.length_nil,hml]<;>omega);clear hxx z0 z1
   go_wp2_with fail
   repeat (refine ah _ (by kernel_rfl) (by kernel_rfl) ?_;(repeat (go_big_quiet_step (fail)));refine wpQuiet_nil ?_;intro e;go_wp2_with fail)
   exact⟨⟨j+1,m+1+1,by omega,by go_num,by first|rfl|go_num,Lib.hid (by rw[hsn.out,aX];have h8:=hcx.out;have h9:=hm.out;omega),by omega,_,rfl⟩,by simp[intOf];omega⟩
  ·have:j=n:=by omega
   subst this
   have E:Hid (r=m):=by
    have h1:=hm.out;have h2:=Hr.out;have h3:=Hn.out
    rw[List.take_of_length_le (by omega)]at h1;show _=_;omega
   go_wp2_with fail
   repeat (refine ah _ (by kernel_rfl) (by kernel_rfl) ?_;(repeat (go_big_quiet_step (fail)));refine wpQuiet_nil ?_;intro e;go_wp2_with fail)
   go_ret;exact⟨by rw[E.out];rfl,_,rfl⟩
theorem oQ(xs:List aj)(k:Int){A:Option Addr}{c lo:Nat}{bs}(w:World)(hx:T1 w (.sl xs.length (xs.flatMap aj.enc)) bs (.slice A xs.length c))(ho:Own lo w bs)(hn':xs.length≤maxLen)(hk0:0≤k)(hk1:k+(cN (xs.flatMap aj.enc):Nat)≤4611686018427387904):
  Calls Tryz.prog 68 #[.slice A xs.length c,.int .i64 k] w fun e w'=>∃r:Int,e=.returned (.int .i64 r)∧Hid (r=k+(cN (xs.flatMap aj.enc):Nat))∧T1 w' (.sl xs.length (dD (xs.flatMap aj.enc) k)) bs (.slice A xs.length c)∧iW bs w w'∧Own lo w' bs:=by
 unfold maxLen at hn';obtain⟨n,hn⟩:∃n,xs.length=n:=⟨_,rfl⟩;rw[hn]at hx hn' ⊢;have Hn:Hid (xs.length=n):=hn;clear hn;have hkk:=Lib.hid hk1;clear hk1
 go_enter Tryz.func68,Tryz.ntmps68
 go_wp2_with fail
 go_loopw [1,5] (fun l i w'=>∃(j:Nat) (m:Int),j≤n∧i=.int .i64 j∧l=.int .i64 m∧Hid (m=k+(cN ((xs.take j).flatMap aj.enc):Nat))∧0≤m∧T1 w' (.sl n (dD ((xs.take j).flatMap aj.enc) k++(xs.drop j).flatMap aj.enc)) bs (.slice A n c)∧iW bs w w'∧Own lo w' bs) (fun _ i _=>n-(intOf i).toNat)
 case atStart=>exact⟨0,k,Nat.zero_le _,rfl,rfl,Lib.hid (by simp[bT]),hk0,by simpa[eZ]using hx,iW.refl _ _,ho⟩
 case round=>
  obtain⟨j,m,hj,rfl,rfl,hm,hm0,ht,hon,hw⟩:=hrel
  by_cases hlt:j<n
  ·obtain⟨x,hxk,hsp,hll,hsn,hdr⟩:=gG aj.enc 5 aj.aK Hn hlt;rw[hdr.out,List.flatMap_cons]at ht;have hml:(dD ((xs.take j).flatMap aj.enc) k).length=j*5:=by rw[kK,hll]
   generalize hL:dD ((xs.take j).flatMap aj.enc) k=L at ht hml;have HL:=Lib.hid hL;clear hL hll;have hcx:Hid (cN (aj.enc x)=1+1+1+cN (x.data.flatMap aQ)+cN (x.ports.flatMap au.enc)):=by show cN [.v (.int .i64 x.kind),.v (.int .i64 x.level),.v (.int .i64 x.value),.sl x.data.length (x.data.flatMap aQ),.sl x.ports.length (x.ports.flatMap au.enc)]=_;simp only[cO,jS,fT,bT]<;>omega
   have hbd:m+1+1+1+(cN (x.data.flatMap aQ):Nat)+(cN (x.ports.flatMap au.enc):Nat)≤4611686018427387904:=by
    have h1:=hm.out;have h2:=hkk.out;have h3:=hcx.out
    have h4:=hsp.out;have h5:cN (xs.flatMap aj.enc)=cN ((xs.take j).flatMap aj.enc)+(cN (aj.enc x)+cN ((xs.drop (j+1)).flatMap aj.enc)):=by rw[h4,aX,aX]
    omega
   replace ht:T1 wr (.sl n (L++(.v (.int .i64 x.kind))::(.v (.int .i64 x.level))::(.v (.int .i64 x.value))::(.sl x.data.length (x.data.flatMap aQ))::(.sl x.ports.length (x.ports.flatMap au.enc))::(xs.drop (j+1)).flatMap aj.enc)) bs (.slice A n c):=ht
   generalize hR:(xs.drop (j+1)).flatMap aj.enc=R at ht;have HR:=Lib.hid hR;clear hR;obtain⟨b,off,rfl, -,hbm,hbl,hblo,hfz⟩:=ht.row hw;have z0_0:T1 wr (.sl n (L++(.v (.int .i64 x.kind))::(.v (.int .i64 x.level))::(.v (.int .i64 x.value))::(.sl x.data.length (x.data.flatMap aQ))::(.sl x.ports.length (x.ports.flatMap au.enc))::R)) bs (.slice (some ⟨b,off,none⟩) n c):=by exact ht
   have y0_0:=(z0_0.leaf hw (o:=off+j*5) rfl (by simp only[List.length_append,List.length_cons,List.length_nil,hml]<;>omega)).1;have z0_1:T1 wr (.sl n ((L++[.v (.int .i64 x.kind)])++(.v (.int .i64 x.level))::(.v (.int .i64 x.value))::(.sl x.data.length (x.data.flatMap aQ))::(.sl x.ports.length (x.ports.flatMap au.enc))::R)) bs (.slice (some ⟨b,off,none⟩) n c):=by rw[List.append_assoc];exact ht
   have y0_1:=(z0_1.leaf hw (o:=off+j*5+1) rfl (by simp only[List.length_append,List.length_cons,List.length_nil,hml]<;>omega)).1;have z0_2:T1 wr (.sl n ((L++[.v (.int .i64 x.kind),.v (.int .i64 x.level)])++(.v (.int .i64 x.value))::(.sl x.data.length (x.data.flatMap aQ))::(.sl x.ports.length (x.ports.flatMap au.enc))::R)) bs (.slice (some ⟨b,off,none⟩) n c):=by rw[List.append_assoc];exact ht
   have y0_2:=(z0_2.leaf hw (o:=off+j*5+2) rfl (by simp only[List.length_append,List.length_cons,List.length_nil,hml]<;>omega)).1;have z0_3:T1 wr (.sl n ((L++[.v (.int .i64 x.kind),.v (.int .i64 x.level),.v (.int .i64 x.value)])++(.sl x.data.length (x.data.flatMap aQ))::(.sl x.ports.length (x.ports.flatMap au.enc))::R)) bs (.slice (some ⟨b,off,none⟩) n c):=by rw[List.append_assoc];exact ht
   obtain⟨A0_3,c0_3,b0_3,y0_3, -⟩:=z0_3.sub hw (o:=off+j*5+3) rfl (by simp only[List.length_append,List.length_cons,List.length_nil,hml]<;>omega);obtain⟨t0,u0,v0⟩:=(ht.leaf hw (o:=off+j*5) rfl (by simp only[List.length_append,List.length_cons,List.length_nil,hml]<;>omega)).2 (.int .i64 m) rfl
   replace t0:T1 (World.setCell wr ⟨b,off+j*5,none⟩ (.int .i64 m)) (.sl n (L++(.v (.int .i64 m))::(.v (.int .i64 x.level))::(.v (.int .i64 x.value))::(.sl x.data.length (x.data.flatMap aQ))::(.sl x.ports.length (x.ports.flatMap au.enc))::R)) bs (.slice (some ⟨b,off,none⟩) n c):=t0
   replace t0:T1 (World.setCell wr ⟨b,off+j*5,none⟩ (.int .i64 m)) (.sl n ((L++[.v (.int .i64 m)])++(.v (.int .i64 x.level))::(.v (.int .i64 x.value))::(.sl x.data.length (x.data.flatMap aQ))::(.sl x.ports.length (x.ports.flatMap au.enc))::R)) bs (.slice (some ⟨b,off,none⟩) n c):=by rw[List.append_assoc];exact t0
   obtain⟨t1,u1,v1⟩:=(t0.leaf v0 (o:=off+j*5+1) rfl (by simp only[List.length_append,List.length_cons,List.length_nil,hml]<;>omega)).2 (.int .i64 (m+1)) rfl;rw[List.append_assoc]at t1
   replace t1:T1 (World.setCell (World.setCell wr ⟨b,off+j*5,none⟩ (.int .i64 m)) ⟨b,off+j*5+1,none⟩ (.int .i64 (m+1))) (.sl n (L++(.v (.int .i64 m))::(.v (.int .i64 (m+1)))::(.v (.int .i64 x.value))::(.sl x.data.length (x.data.flatMap aQ))::(.sl x.ports.length (x.ports.flatMap au.enc))::R)) bs (.slice (some ⟨b,off,none⟩) n c):=t1
   replace t1:T1 (World.setCell (World.setCell wr ⟨b,off+j*5,none⟩ (.int .i64 m)) ⟨b,off+j*5+1,none⟩ (.int .i64 (m+1))) (.sl n ((L++[.v (.int .i64 m),.v (.int .i64 (m+1))])++(.v (.int .i64 x.value))::(.sl x.data.length (x.data.flatMap aQ))::(.sl x.ports.length (x.ports.flatMap au.enc))::R)) bs (.slice (some ⟨b,off,none⟩) n c):=by rw[List.append_assoc];exact t1
   obtain⟨t2,u2,v2⟩:=(t1.leaf v1 (o:=off+j*5+2) rfl (by simp only[List.length_append,List.length_cons,List.length_nil,hml]<;>omega)).2 (.int .i64 (m+1+1)) rfl;rw[List.append_assoc]at t2
   replace t2:T1 (World.setCell (World.setCell (World.setCell wr ⟨b,off+j*5,none⟩ (.int .i64 m)) ⟨b,off+j*5+1,none⟩ (.int .i64 (m+1))) ⟨b,off+j*5+2,none⟩ (.int .i64 (m+1+1))) (.sl n (L++(.v (.int .i64 m))::(.v (.int .i64 (m+1)))::(.v (.int .i64 (m+1+1)))::(.sl x.data.length (x.data.flatMap aQ))::(.sl x.ports.length (x.ports.flatMap au.enc))::R)) bs (.slice (some ⟨b,off,none⟩) n c):=t2
   have g3:T1 (World.setCell (World.setCell (World.setCell wr ⟨b,off+j*5,none⟩ (.int .i64 m)) ⟨b,off+j*5+1,none⟩ (.int .i64 (m+1))) ⟨b,off+j*5+2,none⟩ (.int .i64 (m+1+1))) (.sl n ((L++[.v (.int .i64 m),.v (.int .i64 (m+1)),.v (.int .i64 (m+1+1))])++(.sl x.data.length (x.data.flatMap aQ))::(.sl x.ports.length (x.ports.flatMap au.enc))::R)) bs (.slice (some ⟨b,off,none⟩) n c):=by rw[List.append_assoc];exact t2
   obtain⟨A3,c3,b3,k3,s3,n3,o3,nb3,back3⟩:=g3.sub v2 (o:=off+j*5+3) rfl (by simp only[List.length_append,List.length_cons,List.length_nil,hml]<;>omega)
   obtain⟨rfl,rfl⟩:A0_3=A3∧c0_3=c3:=by
    have hh:=k3;rw[dX _ _ _ _ _ (by omega)]at hh;rw[dX _ _ _ _ _ (by omega)]at hh;rw[dX _ _ _ _ _ (by omega)]at hh;rw[y0_3]at hh;simpa using hh
   clear k3;have HB3:=Lib.hid back3;clear back3 g3;clear z0_0 z0_1 z0_2 z0_3
   go_wp2_with fail
   refine(xU x.data (m+1+1+1) _ s3 o3 n3 (by omega) (by omega)).mono ?_;rintro _ W1 ⟨r1,rfl,hr1,q3,f3, -⟩;obtain⟨t3,u3,v3⟩:=HB3.out W1 _ f3 q3;have p1:0≤r1:=by have:=hr1.out;omega
   have l1:r1+(cN (x.ports.flatMap au.enc):Nat)≤4611686018427387904:=by have:=hr1.out;omega
   rw[List.append_assoc]at t3
   replace t3:T1 W1 (.sl n (L++(.v (.int .i64 m))::(.v (.int .i64 (m+1)))::(.v (.int .i64 (m+1+1)))::(.sl x.data.length (dD (x.data.flatMap aQ) (m+1+1+1)))::(.sl x.ports.length (x.ports.flatMap au.enc))::R)) bs (.slice (some ⟨b,off,none⟩) n c):=t3
   have hfz1:∀o,World.frozen? W1 ⟨b,o,none⟩=false:=fun o=>(by obtain⟨_,cur,tt,hrow⟩:=v3.2 b hbm;simp[World.frozen?,hrow])
   have z1_4:T1 W1 (.sl n ((L++[.v (.int .i64 m),.v (.int .i64 (m+1)),.v (.int .i64 (m+1+1)),.sl x.data.length (dD (x.data.flatMap aQ) (m+1+1+1))])++(.sl x.ports.length (x.ports.flatMap au.enc))::R)) bs (.slice (some ⟨b,off,none⟩) n c):=by rw[List.append_assoc];exact t3
   obtain⟨A1_4,c1_4,b1_4,y1_4, -⟩:=z1_4.sub v3 (o:=off+j*5+4) rfl (by simp only[List.length_append,List.length_cons,List.length_nil,hml]<;>omega);have g4:T1 W1 (.sl n ((L++[.v (.int .i64 m),.v (.int .i64 (m+1)),.v (.int .i64 (m+1+1)),.sl x.data.length (dD (x.data.flatMap aQ) (m+1+1+1))])++(.sl x.ports.length (x.ports.flatMap au.enc))::R)) bs (.slice (some ⟨b,off,none⟩) n c):=by rw[List.append_assoc];exact t3
   obtain⟨A4,c4,b4,k4,s4,n4,o4,nb4,back4⟩:=g4.sub v3 (o:=off+j*5+4) rfl (by simp only[List.length_append,List.length_cons,List.length_nil,hml]<;>omega)
   obtain⟨rfl,rfl⟩:A1_4=A4∧c1_4=c4:=by
    have hh:=k4;rw[y1_4]at hh;simpa using hh
   clear k4;have HB4:=Lib.hid back4;clear back4 g4;clear z1_4
   go_wp2_with fail
   refine(zD x.ports (r1) _ s4 o4 n4 (by omega) (by omega)).mono ?_;rintro _ W2 ⟨r2,rfl,hr2,q4,f4, -⟩;obtain⟨t4,u4,v4⟩:=HB4.out W2 _ f4 q4;have p2:0≤r2:=by have:=hr2.out;omega
   have l2:r2+0≤4611686018427387904:=by have:=hr2.out;omega
   rw[List.append_assoc]at t4
   replace t4:T1 W2 (.sl n (L++(.v (.int .i64 m))::(.v (.int .i64 (m+1)))::(.v (.int .i64 (m+1+1)))::(.sl x.data.length (dD (x.data.flatMap aQ) (m+1+1+1)))::(.sl x.ports.length (dD (x.ports.flatMap au.enc) (r1)))::R)) bs (.slice (some ⟨b,off,none⟩) n c):=t4
   go_wp2_with fail
   have hmk:dD (aj.enc x) m=[.v (.int .i64 m),.v (.int .i64 (m+1)),.v (.int .i64 (m+1+1)),.sl x.data.length (dD (x.data.flatMap aQ) (m+1+1+1)),.sl x.ports.length (dD (x.ports.flatMap au.enc) (r1))]:=by
    show dD [.v (.int .i64 x.kind),.v (.int .i64 x.level),.v (.int .i64 x.value),.sl x.data.length (x.data.flatMap aQ),.sl x.ports.length (x.ports.flatMap au.enc)] m=_;simp only[gM,eZ,lX,oV,jS,fT]
    all_goals (have h1:=hr1.out;have h2:=hr2.out;exact(bU (jQ (by omega)) (bU (jQ (by omega)) (bU (jQ (by omega)) (bU (yU (by omega)) (bU (yU (by omega)) rfl))))))
   have hfin:dD ((xs.take (j+1)).flatMap aj.enc) k++(xs.drop (j+1)).flatMap aj.enc=L++(.v (.int .i64 m))::(.v (.int .i64 (m+1)))::(.v (.int .i64 (m+1+1)))::(.sl x.data.length (dD (x.data.flatMap aQ) (m+1+1+1)))::(.sl x.ports.length (dD (x.ports.flatMap au.enc) (r1)))::R:=by
    rw[hsn.out,dx,HL.out,←hm.out,hmk,List.append_assoc,HR.out];rfl
   exact⟨⟨j+1,r2,by omega,by go_num,by first|rfl|go_num,Lib.hid (by rw[hsn.out,aX];have h1:=hr1.out;have h2:=hr2.out;have h8:=hcx.out;have h9:=hm.out;omega),by omega,by rw[hfin];exact t4,(((((hon).trans u0).trans u1).trans u2).trans u3).trans u4,v4⟩,by simp[intOf];omega⟩
  ·have:j=n:=by omega
   subst this
   go_wp2_with fail
   go_ret;have hl:=Hn.out;rw[List.take_of_length_le (by omega),List.drop_of_length_le (by omega)]at ht;have hm':=hm.out;rw[List.take_of_length_le (by omega)]at hm';exact⟨m,rfl,hm',by simpa using ht,hon,hw⟩
theorem xE(xs:List aj)(k r:Int)(n:Nat){A:Option Addr}{c:Nat}{bs:List Nat}(w:World)(hx:T1 w (.sl n (dD (xs.flatMap aj.enc) k)) bs (.slice A n c))(Hn:Hid (xs.length=n))(hk0:0≤k)(hk1:r≤4611686018427387904)(Hr:Hid (r=k+(cN (xs.flatMap aj.enc):Nat))):Calls Tryz.prog 69 #[.slice A n c,.int .i64 k] w fun e w'=>e=.returned (.int .i64 (r))∧Ext w w':=by
 refine aL fun e=> ?_
 have hn:=hx.oW
 go_enter Tryz.func69,Tryz.ntmps69
 go_wp2_with fail
 repeat (refine ah _ (by kernel_rfl) (by kernel_rfl) ?_;(repeat (go_big_quiet_step (fail)));refine wpQuiet_nil ?_;intro e;go_wp2_with fail)
 go_loopw [1,5] (fun l i w'=>∃(j:Nat) (m:Int),j≤n∧i=.int .i64 j∧l=.int .i64 m∧Hid (m=k+(cN ((xs.take j).flatMap aj.enc):Nat))∧0≤m∧∃e:aC w,w'=e.to) (fun _ i _=>n-(intOf i).toNat)
 case atStart=>exact⟨0,k,Nat.zero_le _,rfl,rfl,Lib.hid (by simp[bT]),hk0,_,rfl⟩
 case round=>
  obtain⟨j,m,hj,rfl,rfl,hm,hm0,e,rfl⟩:=hrel
  by_cases hlt:j<n
  ·obtain⟨x,hxk,hsp,hll,hsn, -⟩:=gG aj.enc 5 aj.aK Hn hlt;have hcx:Hid (cN (aj.enc x)=1+1+1+cN (x.data.flatMap aQ)+cN (x.ports.flatMap au.enc)):=by show cN [.v (.int .i64 x.kind),.v (.int .i64 x.level),.v (.int .i64 x.value),.sl x.data.length (x.data.flatMap aQ),.sl x.ports.length (x.ports.flatMap au.enc)]=_;simp only[cO,jS,fT,bT]<;>omega
   have hbd:m+1+1+1+(cN (x.data.flatMap aQ):Nat)+(cN (x.ports.flatMap au.enc):Nat)≤4611686018427387904:=by
    have h1:=hm.out;have h2:=Hr.out;have h3:=hcx.out
    have h5:cN (xs.flatMap aj.enc)=cN ((xs.take j).flatMap aj.enc)+(cN (aj.enc x)+cN ((xs.drop (j+1)).flatMap aj.enc)):=by rw[hsp.out,aX,aX]
    omega
   obtain⟨r1,hr1⟩:∃q:Int,q=m+1+1+1+((cN (x.data.flatMap aQ):Nat):Int):=⟨_,rfl⟩;obtain⟨r2,hr2⟩:∃q:Int,q=r1+((cN (x.ports.flatMap au.enc):Nat):Int):=⟨_,rfl⟩
   have hmk:dD (aj.enc x) m=[.v (.int .i64 (m)),.v (.int .i64 (m+1)),.v (.int .i64 (m+1+1)),.sl x.data.length (dD (x.data.flatMap aQ) (m+1+1+1)),.sl x.ports.length (dD (x.ports.flatMap au.enc) (r1))]:=by
    show dD [.v (.int .i64 x.kind),.v (.int .i64 x.level),.v (.int .i64 x.value),.sl x.data.length (x.data.flatMap aQ),.sl x.ports.length (x.ports.flatMap au.enc)] m=_;simp only[gM,eZ,lX,oV,jS,fT]
    all_goals (exact(bU (jQ (by omega)) (bU (jQ (by omega)) (bU (jQ (by omega)) (bU (yU (by omega)) (bU (yU (by omega)) rfl))))))
   have hxx:=hx;rw[hsp.out,dx,dx,←hm.out,hmk]at hxx;have hml:(dD ((xs.take j).flatMap aj.enc) k).length=j*5:=by rw[kK,hll]
   generalize hL:dD ((xs.take j).flatMap aj.enc) k=L at hxx hml;clear hL hll hmk;generalize hR:dD ((xs.drop (j+1)).flatMap aj.enc) (m+(cN (aj.enc x):Nat))=R at hxx;clear hR
   replace hxx:T1 w (.sl n (L++(.v (.int .i64 (m)))::(.v (.int .i64 (m+1)))::(.v (.int .i64 (m+1+1)))::(.sl x.data.length (dD (x.data.flatMap aQ) (m+1+1+1)))::(.sl x.ports.length (dD (x.ports.flatMap au.enc) (r1)))::R)) bs (.slice A n c):=hxx
   obtain⟨b,off,rfl⟩:=hxx.Qt;have z0:T1 w (.sl n (L++(.v (.int .i64 (m)))::(.v (.int .i64 (m+1)))::(.v (.int .i64 (m+1+1)))::(.sl x.data.length (dD (x.data.flatMap aQ) (m+1+1+1)))::(.sl x.ports.length (dD (x.ports.flatMap au.enc) (r1)))::R)) bs (.slice (some ⟨b,off,none⟩) n c):=by exact hxx
   have y0:=z0.Aa (o:=off+j*5) rfl (by simp only[List.length_append,List.length_cons,List.length_nil,hml]<;>omega);have z1:T1 w (.sl n ((L++[.v (.int .i64 (m))])++(.v (.int .i64 (m+1)))::(.v (.int .i64 (m+1+1)))::(.sl x.data.length (dD (x.data.flatMap aQ) (m+1+1+1)))::(.sl x.ports.length (dD (x.ports.flatMap au.enc) (r1)))::R)) bs (.slice (some ⟨b,off,none⟩) n c):=by rw[List.append_assoc];exact hxx
   have y1:=z1.Aa (o:=off+j*5+1) rfl (by simp only[List.length_append,List.length_cons,List.length_nil,hml]<;>omega);have z2:T1 w (.sl n ((L++[.v (.int .i64 (m)),.v (.int .i64 (m+1))])++(.v (.int .i64 (m+1+1)))::(.sl x.data.length (dD (x.data.flatMap aQ) (m+1+1+1)))::(.sl x.ports.length (dD (x.ports.flatMap au.enc) (r1)))::R)) bs (.slice (some ⟨b,off,none⟩) n c):=by rw[List.append_assoc];exact hxx
   have y2:=z2.Aa (o:=off+j*5+2) rfl (by simp only[List.length_append,List.length_cons,List.length_nil,hml]<;>omega);have z3:T1 w (.sl n ((L++[.v (.int .i64 (m)),.v (.int .i64 (m+1)),.v (.int .i64 (m+1+1))])++(.sl x.data.length (dD (x.data.flatMap aQ) (m+1+1+1)))::(.sl x.ports.length (dD (x.ports.flatMap au.enc) (r1)))::R)) bs (.slice (some ⟨b,off,none⟩) n c):=by rw[List.append_assoc];exact hxx
   obtain⟨A3,c3,b3,y3,s3,n3⟩:=z3.RQ (o:=off+j*5+3) rfl (by simp only[List.length_append,List.length_cons,List.length_nil,hml]<;>omega);have z4:T1 w (.sl n ((L++[.v (.int .i64 (m)),.v (.int .i64 (m+1)),.v (.int .i64 (m+1+1)),.sl x.data.length (dD (x.data.flatMap aQ) (m+1+1+1))])++(.sl x.ports.length (dD (x.ports.flatMap au.enc) (r1)))::R)) bs (.slice (some ⟨b,off,none⟩) n c):=by rw[List.append_assoc];exact hxx
   obtain⟨A4,c4,b4,y4,s4,n4⟩:=z4.RQ (o:=off+j*5+4) rfl (by simp only[List.length_append,List.length_cons,List.length_nil,hml]<;>omega);clear hxx z0 z1 z2 z3 z4;have p1:0≤r1:=by omega
   have l1:r1≤4611686018427387904:=by omega
   have ll1:r1+(cN (x.ports.flatMap au.enc):Nat)≤4611686018427387904:=by omega
   have Hr1:Hid (r1=m+1+1+1+((cN (x.data.flatMap aQ):Nat):Int)):=hr1;have C1:Hid (QC Tryz.prog w _ _ _):=fun W hW=>xG x.data (m+1+1+1) r1 x.data.length W (s3.below hW) eP (by omega) l1 Hr1
   have p2:0≤r2:=by omega
   have l2:r2≤4611686018427387904:=by omega
   have Hr2:Hid (r2=r1+((cN (x.ports.flatMap au.enc):Nat):Int)):=hr2;have C2:Hid (QC Tryz.prog w _ _ _):=fun W hW=>zu x.ports (r1) r2 x.ports.length W (s4.below hW) eP (by omega) l2 Hr2
   clear hr1 hr2
   go_wp2_with (first|(go_at_call 44;with_reducible refine(C1.out.at_ _).mono ?_;rintro _ _ ⟨rfl,e,rfl⟩)|(go_at_call 124;with_reducible refine(C2.out.at_ _).mono ?_;rintro _ _ ⟨rfl,e,rfl⟩))
   repeat (refine ah _ (by kernel_rfl) (by kernel_rfl) ?_;(repeat (go_big_quiet_step ((first|with_reducible exact C1.out.at_ _|with_reducible exact C2.out.at_ _))));refine wpQuiet_nil ?_;intro e;go_wp2_with (first|(go_at_call 44;with_reducible refine(C1.out.at_ _).mono ?_;rintro _ _ ⟨rfl,e,rfl⟩)|(go_at_call 124;with_reducible refine(C2.out.at_ _).mono ?_;rintro _ _ ⟨rfl,e,rfl⟩)))
   exact⟨⟨j+1,r2,by omega,by go_num,by first|rfl|go_num,Lib.hid (by rw[hsn.out,aX];have h1:=Hr1.out;have h2:=Hr2.out;have h8:=hcx.out;have h9:=hm.out;omega),by omega,_,rfl⟩,by simp[intOf];omega⟩
  ·have:j=n:=by omega
   subst this
   have E:Hid (r=m):=by
    have h1:=hm.out;have h2:=Hr.out;have h3:=Hn.out
    rw[List.take_of_length_le (by omega)]at h1;show _=_;omega
   go_wp2_with fail
   repeat (refine ah _ (by kernel_rfl) (by kernel_rfl) ?_;(repeat (go_big_quiet_step (fail)));refine wpQuiet_nil ?_;intro e;go_wp2_with fail)
   go_ret;exact⟨by rw[E.out];rfl,_,rfl⟩
theorem vH(x:aB)(k:Int){bs us}{lo:Nat}(w:World)(hx:TN w x.enc bs us)(ho:Own lo w bs)(hk0:0≤k)(hk1:k+(x.cnt:Nat)≤4611686018427387904):
  Calls Tryz.prog 29 #[.agg us.toArray,.int .i64 k] w fun e w'=>∃r:Int,e=.returned (.int .i64 r)∧Hid (r=k+(x.cnt:Nat))∧TN w' (x.JI k) bs us∧iW bs w w'∧Own lo w' bs:=by
 have hlt:=hx.lt;obtain⟨A0,c0,b0,rfl,rfl,t0,l0,m0⟩:=aB.us hx;have o0:=ho;have g0:w.heap.size∉bs:=fun hm=>by have:=hlt _ (show w.heap.size∈bs by simp[hm]);omega
 have B0:∀S,Below w.heap.size w (w.alloc S):=fun _=>(Below.refl _ _).alloc (Nat.le_refl _) _
 have hcn:x.cnt=cN (x.agents.flatMap aj.enc):=rfl;rw[hcn]at hk1;clear hcn hx
 go_enter Tryz.func29,Tryz.ntmps29
 go_wp2_with fail
 refine(oQ x.agents k _ (t0.below (B0 _)) (o0.below (B0 _)) (Nat.le_trans l0 m0) (by omega) (by omega)).mono ?_;rintro _ w1 ⟨r1,rfl,hr1,S0,f1,V0⟩;have p1:0≤r1:=by have:=hr1.out;omega
 have b1_:r1+0≤4611686018427387904:=by have:=hr1.out;omega
 have u1:=(f1.other w.heap.size (by simp) g0).trans (heap_alloc_new w _);have z1:w.heap.size<w1.heap.size:=by have:=f1.size;simp at this;omega
 have F1:iW (bs) w w1:=iW.trans (iW.yg (B0 _)) (f1.sub (fun y hy=>by first|exact hy|(simp at hy ⊢;grind)));have q1_0:=cell_of_row _ _ 0 _ _ _ u1;simp only[List.getElem?_toArray,List.getElem?_cons_zero,List.getElem?_cons_succ]at q1_0
 go_wp2_with fail
 go_ret;refine⟨r1,rfl,?_,?_,F1,ho.jw F1⟩
 ·show _=_;have hcn:x.cnt=cN (x.agents.flatMap aj.enc):=rfl;have h1:=hr1.out;omega
 ·have h1:=hr1.out;skip;have h:=(TN.kg S0 TN.done);simp only[List.append_nil,List.nil_append,List.append_assoc,List.cons_append]at h;unfold aB.JI;simpa only[List.append_nil,List.nil_append,List.append_assoc,List.cons_append]using h
theorem vF(x:aB)(k r:Int){bs us}(w:World)(hx:TN w (x.JI k) bs us)(hk0:0≤k)(hk1:r≤4611686018427387904)(Hr:Hid (r=k+(x.cnt:Nat))):Calls Tryz.prog 31 #[.agg us.toArray,.int .i64 k] w fun e w'=>e=.returned (.int .i64 (r))∧Ext w w':=by
 refine aL fun e=> ?_
 unfold aB.JI at hx;have x1:=hx;clear hx;obtain⟨A0,c0,b0,r0_,U_1,rfl,rfl,t0,l0,m0,x1_⟩:=TN.fV x1;obtain⟨rfl,rfl⟩:=TN.end_ x1_;clear x1_ x1;obtain⟨r1,hr1⟩:∃q:Int,q=k+((cN (x.agents.flatMap aj.enc):Nat):Int):=⟨_,rfl⟩;have hcn:x.cnt=cN (x.agents.flatMap aj.enc):=rfl;have hE:r1=r:=by have h1:=Hr.out;omega
 have E:=Lib.hid hE;have p1:0≤r1:=by omega
 have q1:r1≤4611686018427387904:=by have h1:=Hr.out;omega
 have Hr1:Hid (r1=k+((cN (x.agents.flatMap aj.enc):Nat):Int)):=hr1;clear hcn hE Hr hr1
 go_enter Tryz.func31,Tryz.ntmps31
 go_upto_region 1 with(fail)
 generalize hgg:e.to.heap.size=g;refine bY e hgg (fun w1 e hx1 hgeg hltg cg=> ?_);clear hgg
 replace t0:=t0.below hx1
 simp only[List.cons_append,List.nil_append,List.append_nil]at cg;have y0:=cg.always hltg 0 _ rfl;simp only[Nat.zero_add]at y0;clear cg;have C1:Hid (QC Tryz.prog w1 _ _ _):=fun W hW=>xE x.agents (k) r1 x.agents.length W (t0.below hW) eP (by omega) q1 Hr1
 go_wp2_with (first|(go_at_call 69;with_reducible refine(C1.out.at_ _).mono ?_;rintro _ _ ⟨rfl,e,rfl⟩))
 repeat (refine ah _ (by kernel_rfl) (by kernel_rfl) ?_;(repeat (go_big_quiet_step ((first|with_reducible exact C1.out.at_ _))));refine wpQuiet_nil ?_;intro e;go_wp2_with (first|(go_at_call 69;with_reducible refine(C1.out.at_ _).mono ?_;rintro _ _ ⟨rfl,e,rfl⟩)))
 go_ret;exact⟨by rw[←E.out];rfl,aC.old hx1 e⟩
theorem BP(xs:List aB)(k:Int){A:Option Addr}{c lo:Nat}{bs}(w:World)(hx:T1 w (.sl xs.length (xs.flatMap aB.enc)) bs (.slice A xs.length c))(ho:Own lo w bs)(hn':xs.length≤maxLen)(hk0:0≤k)(hk1:k+(cN (xs.flatMap aB.enc):Nat)≤4611686018427387904):
  Calls Tryz.prog 28 #[.slice A xs.length c,.int .i64 k] w fun e w'=>∃r:Int,e=.returned (.int .i64 r)∧Hid (r=k+(cN (xs.flatMap aB.enc):Nat))∧T1 w' (.sl xs.length (dD (xs.flatMap aB.enc) k)) bs (.slice A xs.length c)∧iW bs w w'∧Own lo w' bs:=by
 unfold maxLen at hn';obtain⟨n,hn⟩:∃n,xs.length=n:=⟨_,rfl⟩;rw[hn]at hx hn' ⊢;have Hn:Hid (xs.length=n):=hn;clear hn;have hkk:=Lib.hid hk1;clear hk1
 go_enter Tryz.func28,Tryz.ntmps28
 go_wp2_with fail
 go_loopw [1,5] (fun l i w'=>∃(j:Nat) (m:Int),j≤n∧i=.int .i64 j∧l=.int .i64 m∧Hid (m=k+(cN ((xs.take j).flatMap aB.enc):Nat))∧0≤m∧T1 w' (.sl n (dD ((xs.take j).flatMap aB.enc) k++(xs.drop j).flatMap aB.enc)) bs (.slice A n c)∧iW bs w w'∧Own lo w' bs) (fun _ i _=>n-(intOf i).toNat)
 case atStart=>exact⟨0,k,Nat.zero_le _,rfl,rfl,Lib.hid (by simp[bT]),hk0,by simpa[eZ]using hx,iW.refl _ _,ho⟩
 case round=>
  obtain⟨j,m,hj,rfl,rfl,hm,hm0,ht,hon,hw⟩:=hrel
  by_cases hlt:j<n
  ·obtain⟨x,hxk,hsp,hll,hsn,hdr⟩:=gG aB.enc 1 aB.aK Hn hlt;rw[hdr.out,List.flatMap_cons]at ht;have hml:(dD ((xs.take j).flatMap aB.enc) k).length=j*1:=by rw[kK,hll]
   generalize hL:dD ((xs.take j).flatMap aB.enc) k=L at ht hml;have HL:=Lib.hid hL;clear hL hll;have hcx:Hid (cN (aB.enc x)=cN (x.agents.flatMap aj.enc)):=by show cN [.sl x.agents.length (x.agents.flatMap aj.enc)]=_;simp only[cO,jS,fT,bT]<;>omega
   have hbd:m+(cN (x.agents.flatMap aj.enc):Nat)≤4611686018427387904:=by
    have h1:=hm.out;have h2:=hkk.out;have h3:=hcx.out
    have h4:=hsp.out;have h5:cN (xs.flatMap aB.enc)=cN ((xs.take j).flatMap aB.enc)+(cN (aB.enc x)+cN ((xs.drop (j+1)).flatMap aB.enc)):=by rw[h4,aX,aX]
    omega
   replace ht:T1 wr (.sl n (L++(.sl x.agents.length (x.agents.flatMap aj.enc))::(xs.drop (j+1)).flatMap aB.enc)) bs (.slice A n c):=ht
   generalize hR:(xs.drop (j+1)).flatMap aB.enc=R at ht;have HR:=Lib.hid hR;clear hR;obtain⟨b,off,rfl, -,hbm,hbl,hblo,hfz⟩:=ht.row hw;have z0_0:T1 wr (.sl n (L++(.sl x.agents.length (x.agents.flatMap aj.enc))::R)) bs (.slice (some ⟨b,off,none⟩) n c):=by exact ht
   obtain⟨A0_0,c0_0,b0_0,y0_0, -⟩:=z0_0.sub hw (o:=off+j) rfl (by simp only[List.length_append,List.length_cons,List.length_nil,hml]<;>omega);have g0:=ht;obtain⟨A0,c0,b0,k0,s0,n0,o0,nb0,back0⟩:=g0.sub hw (o:=off+j) rfl (by simp only[List.length_append,List.length_cons,List.length_nil,hml]<;>omega)
   obtain⟨rfl,rfl⟩:A0_0=A0∧c0_0=c0:=by
    have hh:=k0;rw[y0_0]at hh;simpa using hh
   clear k0;have HB0:=Lib.hid back0;clear back0 g0;clear z0_0
   go_wp2_with fail
   refine(oQ x.agents (m) _ s0 o0 n0 (by omega) (by omega)).mono ?_;rintro _ W1 ⟨r1,rfl,hr1,q0,f0, -⟩;obtain⟨t0,u0,v0⟩:=HB0.out W1 _ f0 q0;have p1:0≤r1:=by have:=hr1.out;omega
   have l1:r1+0≤4611686018427387904:=by have:=hr1.out;omega
   replace t0:T1 W1 (.sl n (L++(.sl x.agents.length (dD (x.agents.flatMap aj.enc) (m)))::R)) bs (.slice (some ⟨b,off,none⟩) n c):=t0
   go_wp2_with fail
   have hmk:dD (aB.enc x) m=[.sl x.agents.length (dD (x.agents.flatMap aj.enc) (m))]:=by
    show dD [.sl x.agents.length (x.agents.flatMap aj.enc)] m=_;simp only[gM,eZ,lX,oV,jS,fT]
    all_goals (have h1:=hr1.out;exact(bU (yU (by omega)) rfl))
   have hfin:dD ((xs.take (j+1)).flatMap aB.enc) k++(xs.drop (j+1)).flatMap aB.enc=L++(.sl x.agents.length (dD (x.agents.flatMap aj.enc) (m)))::R:=by
    rw[hsn.out,dx,HL.out,←hm.out,hmk,List.append_assoc,HR.out];rfl
   exact⟨⟨j+1,r1,by omega,by go_num,by first|rfl|go_num,Lib.hid (by rw[hsn.out,aX];have h1:=hr1.out;have h8:=hcx.out;have h9:=hm.out;omega),by omega,by rw[hfin];exact t0,(hon).trans u0,v0⟩,by simp[intOf];omega⟩
  ·have:j=n:=by omega
   subst this
   go_wp2_with fail
   go_ret;have hl:=Hn.out;rw[List.take_of_length_le (by omega),List.drop_of_length_le (by omega)]at ht;have hm':=hm.out;rw[List.take_of_length_le (by omega)]at hm';exact⟨m,rfl,hm',by simpa using ht,hon,hw⟩
end Go.Proofs.YtemalpelcdmemaaGreat
