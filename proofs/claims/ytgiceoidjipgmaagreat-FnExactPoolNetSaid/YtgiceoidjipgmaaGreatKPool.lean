
/- What the laws number and look for again in these types. Printed by gen_mk.py. -/
import Derived.Test.YtgiceoidjipgmaaGreatProg
import Derived.Test.YtgiceoidjipgmaaGreatSc
import Derived.Test.YtgiceoidjipgmaaGreatDPool
import Derived.Test.YtgiceoidjipgmaaGreatKDbg
import Derived.BigGuardPart
import Derived.Outline
import Derived.Deep.CutBlock
set_option maxHeartbeats 4000000
set_option linter.unusedSimpArgs false
set_option linter.unusedVariables false
namespace Go.Tr
open Go Go.RowKit
def bg.tH(x:bg)(k:Int):List D:=[.sl x.cells.length (dh (x.cells.flatMap aK.enc) (k))]++([.v (.int .i64 x.free)]++([.v (.int .i64 x.root.tag)]++([.v (.int .i64 x.root.at_)]++([.sl x.redexes.length (dh (x.redexes.flatMap aD.enc) (k+(cN (x.cells.flatMap aK.enc):Nat)))]))))
def bg.cnt(x:bg):Nat:=cN (x.cells.flatMap aK.enc)+cN (x.redexes.flatMap aD.enc)
def bP.tH(x:bP)(k:Int):List D:=x.memory.tH (k)++([.sl x.workers.length (dh (x.workers.flatMap aA.enc) (k+(x.memory.cnt:Nat)))]++([.v (.int .i64 x.active)]))
def bP.cnt(x:bP):Nat:=x.memory.cnt+cN (x.workers.flatMap aA.enc)
theorem aN.mh(x:aN):cN x.enc≤32*(1+(fun _=>0) x):=by
 have hc:cN x.enc=1+1:=by show cN [.v (.int .i64 x.tag),.v (.int .i64 x.at_)]=_;simp only[bN,fV,eD,bM]<;>omega
 omega
theorem aK.mh(x:aK):cN x.enc≤32*(1+x.wt):=by
 have h3:=aX (f:=aP) (g:=(fun _=>0)) rO x.data;have h4:=aX (f:=aN.enc) (g:=(fun _=>0)) aN.mh x.words;have hw:x.wt=jw (fun _=>0) x.data+jw (fun _=>0) x.words:=rfl;have hc:cN x.enc=1+1+1+cN (x.data.flatMap aP)+cN (x.words.flatMap aN.enc):=by show cN [.v (.int .i64 x.kind),.v (.int .i64 x.level),.v (.int .i64 x.value),.sl x.data.length (x.data.flatMap aP),.sl x.words.length (x.words.flatMap aN.enc)]=_;simp only[bN,fV,eD,bM]<;>omega
 omega
theorem aD.mh(x:aD):cN x.enc≤32*(1+(fun _=>0) x):=by
 have hc:cN x.enc=1+1:=by show cN [.v (.int .i64 x.a),.v (.int .i64 x.b)]=_;simp only[bN,fV,eD,bM]<;>omega
 omega
theorem bg.mh(x:bg):cN x.enc≤32*(1+x.wt):=by
 have h0:=aX (f:=aK.enc) (g:=aK.wt) aK.mh x.cells;have h4:=aX (f:=aD.enc) (g:=(fun _=>0)) aD.mh x.redexes;have hw:x.wt=jw aK.wt x.cells+jw (fun _=>0) x.redexes:=rfl;have hc:cN x.enc=cN (x.cells.flatMap aK.enc)+1+1+1+cN (x.redexes.flatMap aD.enc):=by show cN [.sl x.cells.length (x.cells.flatMap aK.enc),.v (.int .i64 x.free),.v (.int .i64 x.root.tag),.v (.int .i64 x.root.at_),.sl x.redexes.length (x.redexes.flatMap aD.enc)]=_;simp only[bN,fV,eD,bM]<;>omega
 omega
theorem bg.sN(x:bg):x.cnt≤32*x.wt:=by
 have h0:=aX (f:=aK.enc) (g:=aK.wt) aK.mh x.cells;have h4:=aX (f:=aD.enc) (g:=(fun _=>0)) aD.mh x.redexes;have hw:x.wt=jw aK.wt x.cells+jw (fun _=>0) x.redexes:=rfl;have hc:x.cnt=cN (x.cells.flatMap aK.enc)+cN (x.redexes.flatMap aD.enc):=rfl;omega
theorem aS.mh(x:aS):cN x.enc≤32*(1+(fun _=>0) x):=by
 have hc:cN x.enc=1+1+1+1:=by show cN [.v (.int .i64 x.a.tag),.v (.int .i64 x.a.at_),.v (.int .i64 x.b.tag),.v (.int .i64 x.b.at_)]=_;simp only[bN,fV,eD,bM]<;>omega
 omega
theorem aA.mh(x:aA):cN x.enc≤32*(1+x.wt):=by
 have h2:=aX (f:=aD.enc) (g:=(fun _=>0)) aD.mh x.redexes;have h3:=aX (f:=aS.enc) (g:=(fun _=>0)) aS.mh x.links;have h4:=aX (f:=aP) (g:=(fun _=>0)) rO x.counts;have hw:x.wt=jw (fun _=>0) x.redexes+jw (fun _=>0) x.links+jw (fun _=>0) x.counts:=rfl;have hc:cN x.enc=1+1+cN (x.redexes.flatMap aD.enc)+cN (x.links.flatMap aS.enc)+cN (x.counts.flatMap aP):=by show cN [.v (.int .i64 x.phase),.v (.int .i64 x.victim),.sl x.redexes.length (x.redexes.flatMap aD.enc),.sl x.links.length (x.links.flatMap aS.enc),.sl x.counts.length (x.counts.flatMap aP)]=_;simp only[bN,fV,eD,bM]<;>omega
 omega
theorem bP.mh(x:bP):cN x.enc≤32*(1+x.wt):=by
 have h0:=aX (f:=aK.enc) (g:=aK.wt) aK.mh x.memory.cells;have h4:=aX (f:=aD.enc) (g:=(fun _=>0)) aD.mh x.memory.redexes;have h5:=aX (f:=aA.enc) (g:=aA.wt) aA.mh x.workers;have hw:x.wt=x.memory.wt+jw aA.wt x.workers:=rfl;have n0:x.memory.wt=jw aK.wt x.memory.cells+jw (fun _=>0) x.memory.redexes:=rfl;have hc:cN x.enc=cN (x.memory.cells.flatMap aK.enc)+1+1+1+cN (x.memory.redexes.flatMap aD.enc)+cN (x.workers.flatMap aA.enc)+1:=by show cN [.sl x.memory.cells.length (x.memory.cells.flatMap aK.enc),.v (.int .i64 x.memory.free),.v (.int .i64 x.memory.root.tag),.v (.int .i64 x.memory.root.at_),.sl x.memory.redexes.length (x.memory.redexes.flatMap aD.enc),.sl x.workers.length (x.workers.flatMap aA.enc),.v (.int .i64 x.active)]=_;simp only[bN,fV,eD,bM]<;>omega
 omega
theorem bP.sN(x:bP):x.cnt≤32*x.wt:=by
 have h0:=aX (f:=aK.enc) (g:=aK.wt) aK.mh x.memory.cells;have h4:=aX (f:=aD.enc) (g:=(fun _=>0)) aD.mh x.memory.redexes;have h5:=aX (f:=aA.enc) (g:=aA.wt) aA.mh x.workers;have hw:x.wt=x.memory.wt+jw aA.wt x.workers:=rfl;have n0:x.memory.wt=jw aK.wt x.memory.cells+jw (fun _=>0) x.memory.redexes:=rfl;have hc:x.cnt=x.memory.cnt+cN (x.workers.flatMap aA.enc):=rfl;have c0:=bg.sN x.memory;omega
end Go.Tr
namespace Go.Proofs.YtgiceoidjipgmaaGreat
open Go Go.RowKit Go.Proofs Go.Tr
theorem yE(xs:List aN)(k:Int){A:Option Addr}{c lo:Nat}{bs}(w:World)(hx:T1 w (.sl xs.length (xs.flatMap aN.enc)) bs (.slice A xs.length c))(ho:Own lo w bs)(hn':xs.length≤maxLen)(hk0:0≤k)(hk1:k+(cN (xs.flatMap aN.enc):Nat)≤4611686018427387904):
  Calls Tryz.prog 112 #[.slice A xs.length c,.int .i64 k] w fun e w'=>∃r:Int,e=.returned (.int .i64 r)∧Hid (r=k+(cN (xs.flatMap aN.enc):Nat))∧T1 w' (.sl xs.length (dh (xs.flatMap aN.enc) k)) bs (.slice A xs.length c)∧iC bs w w'∧Own lo w' bs:=by
 unfold maxLen at hn';obtain⟨n,hn⟩:∃n,xs.length=n:=⟨_,rfl⟩;rw[hn]at hx hn' ⊢;have Hn:Hid (xs.length=n):=hn;clear hn;have hkk:=Lib.hid hk1;clear hk1
 go_enter Tryz.func112,Tryz.ntmps112
 go_wp2_with fail
 go_loopw [1,5] (fun l i w'=>∃(j:Nat) (m:Int),j≤n∧i=.int .i64 j∧l=.int .i64 m∧Hid (m=k+(cN ((xs.take j).flatMap aN.enc):Nat))∧0≤m∧T1 w' (.sl n (dh ((xs.take j).flatMap aN.enc) k++(xs.drop j).flatMap aN.enc)) bs (.slice A n c)∧iC bs w w'∧Own lo w' bs) (fun _ i _=>n-(intOf i).toNat)
 case atStart=>exact⟨0,k,Nat.zero_le _,rfl,rfl,Lib.hid (by simp[bM]),hk0,by simpa[eO]using hx,iC.refl _ _,ho⟩
 case round=>
  obtain⟨j,m,hj,rfl,rfl,hm,hm0,ht,hon,hw⟩:=hrel
  by_cases hlt:j<n
  ·obtain⟨x,hxk,hsp,hll,hsn,hdr⟩:=fE aN.enc 2 aN.aT Hn hlt;rw[hdr.out,List.flatMap_cons]at ht;have hml:(dh ((xs.take j).flatMap aN.enc) k).length=j*2:=by rw[jh,hll]
   generalize hL:dh ((xs.take j).flatMap aN.enc) k=L at ht hml;have HL:=Lib.hid hL;clear hL hll;have hcx:Hid (cN (aN.enc x)=1+1):=by show cN [.v (.int .i64 x.tag),.v (.int .i64 x.at_)]=_;simp only[bN,fV,eD,bM]<;>omega
   have hbd:m+1+1≤4611686018427387904:=by
    have h1:=hm.out;have h2:=hkk.out;have h3:=hcx.out
    have h4:=hsp.out;have h5:cN (xs.flatMap aN.enc)=cN ((xs.take j).flatMap aN.enc)+(cN (aN.enc x)+cN ((xs.drop (j+1)).flatMap aN.enc)):=by rw[h4,bf,bf]
    omega
   replace ht:T1 wr (.sl n (L++(.v (.int .i64 x.tag))::(.v (.int .i64 x.at_))::(xs.drop (j+1)).flatMap aN.enc)) bs (.slice A n c):=ht
   generalize hR:(xs.drop (j+1)).flatMap aN.enc=R at ht;have HR:=Lib.hid hR;clear hR;obtain⟨b,off,rfl, -,hbm,hbl,hblo,hfz⟩:=ht.row hw;have z0_0:T1 wr (.sl n (L++(.v (.int .i64 x.tag))::(.v (.int .i64 x.at_))::R)) bs (.slice (some ⟨b,off,none⟩) n c):=by exact ht
   have y0_0:=(z0_0.leaf hw (o:=off+j*2) rfl (by simp only[List.length_append,List.length_cons,List.length_nil,hml]<;>omega)).1;have z0_1:T1 wr (.sl n ((L++[.v (.int .i64 x.tag)])++(.v (.int .i64 x.at_))::R)) bs (.slice (some ⟨b,off,none⟩) n c):=by rw[List.append_assoc];exact ht
   have y0_1:=(z0_1.leaf hw (o:=off+j*2+1) rfl (by simp only[List.length_append,List.length_cons,List.length_nil,hml]<;>omega)).1;obtain⟨t0,u0,v0⟩:=(ht.leaf hw (o:=off+j*2) rfl (by simp only[List.length_append,List.length_cons,List.length_nil,hml]<;>omega)).2 (.int .i64 m) rfl
   replace t0:T1 (World.setCell wr ⟨b,off+j*2,none⟩ (.int .i64 m)) (.sl n (L++(.v (.int .i64 m))::(.v (.int .i64 x.at_))::R)) bs (.slice (some ⟨b,off,none⟩) n c):=t0
   replace t0:T1 (World.setCell wr ⟨b,off+j*2,none⟩ (.int .i64 m)) (.sl n ((L++[.v (.int .i64 m)])++(.v (.int .i64 x.at_))::R)) bs (.slice (some ⟨b,off,none⟩) n c):=by rw[List.append_assoc];exact t0
   obtain⟨t1,u1,v1⟩:=(t0.leaf v0 (o:=off+j*2+1) rfl (by simp only[List.length_append,List.length_cons,List.length_nil,hml]<;>omega)).2 (.int .i64 (m+1)) rfl;rw[List.append_assoc]at t1
   replace t1:T1 (World.setCell (World.setCell wr ⟨b,off+j*2,none⟩ (.int .i64 m)) ⟨b,off+j*2+1,none⟩ (.int .i64 (m+1))) (.sl n (L++(.v (.int .i64 m))::(.v (.int .i64 (m+1)))::R)) bs (.slice (some ⟨b,off,none⟩) n c):=t1
   clear z0_0 z0_1
   go_wp2_with fail
   have hmk:dh (aN.enc x) m=[.v (.int .i64 m),.v (.int .i64 (m+1))]:=by
    show dh [.v (.int .i64 x.tag),.v (.int .i64 x.at_)] m=_;simp only[fQ,eO,jC,lD,fV,eD]
    all_goals (exact(bS (gZ (by omega)) (bS (gZ (by omega)) rfl)))
   have hfin:dh ((xs.take (j+1)).flatMap aN.enc) k++(xs.drop (j+1)).flatMap aN.enc=L++(.v (.int .i64 m))::(.v (.int .i64 (m+1)))::R:=by
    rw[hsn.out,dP,HL.out,←hm.out,hmk,List.append_assoc,HR.out];rfl
   exact⟨⟨j+1,m+1+1,by omega,by go_num,by first|rfl|go_num,Lib.hid (by rw[hsn.out,bf];have h8:=hcx.out;have h9:=hm.out;omega),by omega,by rw[hfin];exact t1,((hon).trans u0).trans u1,v1⟩,by simp[intOf];omega⟩
  ·have:j=n:=by omega
   subst this
   go_wp2_with fail
   go_ret;have hl:=Hn.out;rw[List.take_of_length_le (by omega),List.drop_of_length_le (by omega)]at ht;have hm':=hm.out;rw[List.take_of_length_le (by omega)]at hm';exact⟨m,rfl,hm',by simpa using ht,hon,hw⟩
theorem yB(xs:List aK)(k:Int){A:Option Addr}{c lo:Nat}{bs}(w:World)(hx:T1 w (.sl xs.length (xs.flatMap aK.enc)) bs (.slice A xs.length c))(ho:Own lo w bs)(hn':xs.length≤maxLen)(hk0:0≤k)(hk1:k+(cN (xs.flatMap aK.enc):Nat)≤4611686018427387904):
  Calls Tryz.prog 57 #[.slice A xs.length c,.int .i64 k] w fun e w'=>∃r:Int,e=.returned (.int .i64 r)∧Hid (r=k+(cN (xs.flatMap aK.enc):Nat))∧T1 w' (.sl xs.length (dh (xs.flatMap aK.enc) k)) bs (.slice A xs.length c)∧iC bs w w'∧Own lo w' bs:=by
 unfold maxLen at hn';obtain⟨n,hn⟩:∃n,xs.length=n:=⟨_,rfl⟩;rw[hn]at hx hn' ⊢;have Hn:Hid (xs.length=n):=hn;clear hn;have hkk:=Lib.hid hk1;clear hk1
 go_enter Tryz.func57,Tryz.ntmps57
 go_wp2_with fail
 go_loopw [1,5] (fun l i w'=>∃(j:Nat) (m:Int),j≤n∧i=.int .i64 j∧l=.int .i64 m∧Hid (m=k+(cN ((xs.take j).flatMap aK.enc):Nat))∧0≤m∧T1 w' (.sl n (dh ((xs.take j).flatMap aK.enc) k++(xs.drop j).flatMap aK.enc)) bs (.slice A n c)∧iC bs w w'∧Own lo w' bs) (fun _ i _=>n-(intOf i).toNat)
 case atStart=>exact⟨0,k,Nat.zero_le _,rfl,rfl,Lib.hid (by simp[bM]),hk0,by simpa[eO]using hx,iC.refl _ _,ho⟩
 case round=>
  obtain⟨j,m,hj,rfl,rfl,hm,hm0,ht,hon,hw⟩:=hrel
  by_cases hlt:j<n
  ·obtain⟨x,hxk,hsp,hll,hsn,hdr⟩:=fE aK.enc 5 aK.aT Hn hlt;rw[hdr.out,List.flatMap_cons]at ht;have hml:(dh ((xs.take j).flatMap aK.enc) k).length=j*5:=by rw[jh,hll]
   generalize hL:dh ((xs.take j).flatMap aK.enc) k=L at ht hml;have HL:=Lib.hid hL;clear hL hll;have hcx:Hid (cN (aK.enc x)=1+1+1+cN (x.data.flatMap aP)+cN (x.words.flatMap aN.enc)):=by show cN [.v (.int .i64 x.kind),.v (.int .i64 x.level),.v (.int .i64 x.value),.sl x.data.length (x.data.flatMap aP),.sl x.words.length (x.words.flatMap aN.enc)]=_;simp only[bN,fV,eD,bM]<;>omega
   have hbd:m+1+1+1+(cN (x.data.flatMap aP):Nat)+(cN (x.words.flatMap aN.enc):Nat)≤4611686018427387904:=by
    have h1:=hm.out;have h2:=hkk.out;have h3:=hcx.out
    have h4:=hsp.out;have h5:cN (xs.flatMap aK.enc)=cN ((xs.take j).flatMap aK.enc)+(cN (aK.enc x)+cN ((xs.drop (j+1)).flatMap aK.enc)):=by rw[h4,bf,bf]
    omega
   replace ht:T1 wr (.sl n (L++(.v (.int .i64 x.kind))::(.v (.int .i64 x.level))::(.v (.int .i64 x.value))::(.sl x.data.length (x.data.flatMap aP))::(.sl x.words.length (x.words.flatMap aN.enc))::(xs.drop (j+1)).flatMap aK.enc)) bs (.slice A n c):=ht
   generalize hR:(xs.drop (j+1)).flatMap aK.enc=R at ht;have HR:=Lib.hid hR;clear hR;obtain⟨b,off,rfl, -,hbm,hbl,hblo,hfz⟩:=ht.row hw;have z0_0:T1 wr (.sl n (L++(.v (.int .i64 x.kind))::(.v (.int .i64 x.level))::(.v (.int .i64 x.value))::(.sl x.data.length (x.data.flatMap aP))::(.sl x.words.length (x.words.flatMap aN.enc))::R)) bs (.slice (some ⟨b,off,none⟩) n c):=by exact ht
   have y0_0:=(z0_0.leaf hw (o:=off+j*5) rfl (by simp only[List.length_append,List.length_cons,List.length_nil,hml]<;>omega)).1;have z0_1:T1 wr (.sl n ((L++[.v (.int .i64 x.kind)])++(.v (.int .i64 x.level))::(.v (.int .i64 x.value))::(.sl x.data.length (x.data.flatMap aP))::(.sl x.words.length (x.words.flatMap aN.enc))::R)) bs (.slice (some ⟨b,off,none⟩) n c):=by rw[List.append_assoc];exact ht
   have y0_1:=(z0_1.leaf hw (o:=off+j*5+1) rfl (by simp only[List.length_append,List.length_cons,List.length_nil,hml]<;>omega)).1;have z0_2:T1 wr (.sl n ((L++[.v (.int .i64 x.kind),.v (.int .i64 x.level)])++(.v (.int .i64 x.value))::(.sl x.data.length (x.data.flatMap aP))::(.sl x.words.length (x.words.flatMap aN.enc))::R)) bs (.slice (some ⟨b,off,none⟩) n c):=by rw[List.append_assoc];exact ht
   have y0_2:=(z0_2.leaf hw (o:=off+j*5+2) rfl (by simp only[List.length_append,List.length_cons,List.length_nil,hml]<;>omega)).1;have z0_3:T1 wr (.sl n ((L++[.v (.int .i64 x.kind),.v (.int .i64 x.level),.v (.int .i64 x.value)])++(.sl x.data.length (x.data.flatMap aP))::(.sl x.words.length (x.words.flatMap aN.enc))::R)) bs (.slice (some ⟨b,off,none⟩) n c):=by rw[List.append_assoc];exact ht
   obtain⟨A0_3,c0_3,b0_3,y0_3, -⟩:=z0_3.sub hw (o:=off+j*5+3) rfl (by simp only[List.length_append,List.length_cons,List.length_nil,hml]<;>omega);obtain⟨t0,u0,v0⟩:=(ht.leaf hw (o:=off+j*5) rfl (by simp only[List.length_append,List.length_cons,List.length_nil,hml]<;>omega)).2 (.int .i64 m) rfl
   replace t0:T1 (World.setCell wr ⟨b,off+j*5,none⟩ (.int .i64 m)) (.sl n (L++(.v (.int .i64 m))::(.v (.int .i64 x.level))::(.v (.int .i64 x.value))::(.sl x.data.length (x.data.flatMap aP))::(.sl x.words.length (x.words.flatMap aN.enc))::R)) bs (.slice (some ⟨b,off,none⟩) n c):=t0
   replace t0:T1 (World.setCell wr ⟨b,off+j*5,none⟩ (.int .i64 m)) (.sl n ((L++[.v (.int .i64 m)])++(.v (.int .i64 x.level))::(.v (.int .i64 x.value))::(.sl x.data.length (x.data.flatMap aP))::(.sl x.words.length (x.words.flatMap aN.enc))::R)) bs (.slice (some ⟨b,off,none⟩) n c):=by rw[List.append_assoc];exact t0
   obtain⟨t1,u1,v1⟩:=(t0.leaf v0 (o:=off+j*5+1) rfl (by simp only[List.length_append,List.length_cons,List.length_nil,hml]<;>omega)).2 (.int .i64 (m+1)) rfl;rw[List.append_assoc]at t1
   replace t1:T1 (World.setCell (World.setCell wr ⟨b,off+j*5,none⟩ (.int .i64 m)) ⟨b,off+j*5+1,none⟩ (.int .i64 (m+1))) (.sl n (L++(.v (.int .i64 m))::(.v (.int .i64 (m+1)))::(.v (.int .i64 x.value))::(.sl x.data.length (x.data.flatMap aP))::(.sl x.words.length (x.words.flatMap aN.enc))::R)) bs (.slice (some ⟨b,off,none⟩) n c):=t1
   replace t1:T1 (World.setCell (World.setCell wr ⟨b,off+j*5,none⟩ (.int .i64 m)) ⟨b,off+j*5+1,none⟩ (.int .i64 (m+1))) (.sl n ((L++[.v (.int .i64 m),.v (.int .i64 (m+1))])++(.v (.int .i64 x.value))::(.sl x.data.length (x.data.flatMap aP))::(.sl x.words.length (x.words.flatMap aN.enc))::R)) bs (.slice (some ⟨b,off,none⟩) n c):=by rw[List.append_assoc];exact t1
   obtain⟨t2,u2,v2⟩:=(t1.leaf v1 (o:=off+j*5+2) rfl (by simp only[List.length_append,List.length_cons,List.length_nil,hml]<;>omega)).2 (.int .i64 (m+1+1)) rfl;rw[List.append_assoc]at t2
   replace t2:T1 (World.setCell (World.setCell (World.setCell wr ⟨b,off+j*5,none⟩ (.int .i64 m)) ⟨b,off+j*5+1,none⟩ (.int .i64 (m+1))) ⟨b,off+j*5+2,none⟩ (.int .i64 (m+1+1))) (.sl n (L++(.v (.int .i64 m))::(.v (.int .i64 (m+1)))::(.v (.int .i64 (m+1+1)))::(.sl x.data.length (x.data.flatMap aP))::(.sl x.words.length (x.words.flatMap aN.enc))::R)) bs (.slice (some ⟨b,off,none⟩) n c):=t2
   have g3:T1 (World.setCell (World.setCell (World.setCell wr ⟨b,off+j*5,none⟩ (.int .i64 m)) ⟨b,off+j*5+1,none⟩ (.int .i64 (m+1))) ⟨b,off+j*5+2,none⟩ (.int .i64 (m+1+1))) (.sl n ((L++[.v (.int .i64 m),.v (.int .i64 (m+1)),.v (.int .i64 (m+1+1))])++(.sl x.data.length (x.data.flatMap aP))::(.sl x.words.length (x.words.flatMap aN.enc))::R)) bs (.slice (some ⟨b,off,none⟩) n c):=by rw[List.append_assoc];exact t2
   obtain⟨A3,c3,b3,k3,s3,n3,o3,nb3,back3⟩:=g3.sub v2 (o:=off+j*5+3) rfl (by simp only[List.length_append,List.length_cons,List.length_nil,hml]<;>omega)
   obtain⟨rfl,rfl⟩:A0_3=A3∧c0_3=c3:=by
    have hh:=k3;rw[cK _ _ _ _ _ (by omega)]at hh;rw[cK _ _ _ _ _ (by omega)]at hh;rw[cK _ _ _ _ _ (by omega)]at hh;rw[y0_3]at hh;simpa using hh
   clear k3;have HB3:=Lib.hid back3;clear back3 g3;clear z0_0 z0_1 z0_2 z0_3
   go_wp2_with fail
   refine(lC x.data (m+1+1+1) _ s3 o3 n3 (by omega) (by omega)).mono ?_;rintro _ W1 ⟨r1,rfl,hr1,q3,f3, -⟩;obtain⟨t3,u3,v3⟩:=HB3.out W1 _ f3 q3;have p1:0≤r1:=by have:=hr1.out;omega
   have l1:r1+(cN (x.words.flatMap aN.enc):Nat)≤4611686018427387904:=by have:=hr1.out;omega
   rw[List.append_assoc]at t3
   replace t3:T1 W1 (.sl n (L++(.v (.int .i64 m))::(.v (.int .i64 (m+1)))::(.v (.int .i64 (m+1+1)))::(.sl x.data.length (dh (x.data.flatMap aP) (m+1+1+1)))::(.sl x.words.length (x.words.flatMap aN.enc))::R)) bs (.slice (some ⟨b,off,none⟩) n c):=t3
   have hfz1:∀o,World.frozen? W1 ⟨b,o,none⟩=false:=fun o=>(by obtain⟨_,cur,tt,hrow⟩:=v3.2 b hbm;simp[World.frozen?,hrow])
   have z1_4:T1 W1 (.sl n ((L++[.v (.int .i64 m),.v (.int .i64 (m+1)),.v (.int .i64 (m+1+1)),.sl x.data.length (dh (x.data.flatMap aP) (m+1+1+1))])++(.sl x.words.length (x.words.flatMap aN.enc))::R)) bs (.slice (some ⟨b,off,none⟩) n c):=by rw[List.append_assoc];exact t3
   obtain⟨A1_4,c1_4,b1_4,y1_4, -⟩:=z1_4.sub v3 (o:=off+j*5+4) rfl (by simp only[List.length_append,List.length_cons,List.length_nil,hml]<;>omega);have g4:T1 W1 (.sl n ((L++[.v (.int .i64 m),.v (.int .i64 (m+1)),.v (.int .i64 (m+1+1)),.sl x.data.length (dh (x.data.flatMap aP) (m+1+1+1))])++(.sl x.words.length (x.words.flatMap aN.enc))::R)) bs (.slice (some ⟨b,off,none⟩) n c):=by rw[List.append_assoc];exact t3
   obtain⟨A4,c4,b4,k4,s4,n4,o4,nb4,back4⟩:=g4.sub v3 (o:=off+j*5+4) rfl (by simp only[List.length_append,List.length_cons,List.length_nil,hml]<;>omega)
   obtain⟨rfl,rfl⟩:A1_4=A4∧c1_4=c4:=by
    have hh:=k4;rw[y1_4]at hh;simpa using hh
   clear k4;have HB4:=Lib.hid back4;clear back4 g4;clear z1_4
   go_wp2_with fail
   refine(yE x.words (r1) _ s4 o4 n4 (by omega) (by omega)).mono ?_;rintro _ W2 ⟨r2,rfl,hr2,q4,f4, -⟩;obtain⟨t4,u4,v4⟩:=HB4.out W2 _ f4 q4;have p2:0≤r2:=by have:=hr2.out;omega
   have l2:r2+0≤4611686018427387904:=by have:=hr2.out;omega
   rw[List.append_assoc]at t4
   replace t4:T1 W2 (.sl n (L++(.v (.int .i64 m))::(.v (.int .i64 (m+1)))::(.v (.int .i64 (m+1+1)))::(.sl x.data.length (dh (x.data.flatMap aP) (m+1+1+1)))::(.sl x.words.length (dh (x.words.flatMap aN.enc) (r1)))::R)) bs (.slice (some ⟨b,off,none⟩) n c):=t4
   go_wp2_with fail
   have hmk:dh (aK.enc x) m=[.v (.int .i64 m),.v (.int .i64 (m+1)),.v (.int .i64 (m+1+1)),.sl x.data.length (dh (x.data.flatMap aP) (m+1+1+1)),.sl x.words.length (dh (x.words.flatMap aN.enc) (r1))]:=by
    show dh [.v (.int .i64 x.kind),.v (.int .i64 x.level),.v (.int .i64 x.value),.sl x.data.length (x.data.flatMap aP),.sl x.words.length (x.words.flatMap aN.enc)] m=_;simp only[fQ,eO,jC,lD,fV,eD]
    all_goals (have h1:=hr1.out;have h2:=hr2.out;exact(bS (gZ (by omega)) (bS (gZ (by omega)) (bS (gZ (by omega)) (bS (nH (by omega)) (bS (nH (by omega)) rfl))))))
   have hfin:dh ((xs.take (j+1)).flatMap aK.enc) k++(xs.drop (j+1)).flatMap aK.enc=L++(.v (.int .i64 m))::(.v (.int .i64 (m+1)))::(.v (.int .i64 (m+1+1)))::(.sl x.data.length (dh (x.data.flatMap aP) (m+1+1+1)))::(.sl x.words.length (dh (x.words.flatMap aN.enc) (r1)))::R:=by
    rw[hsn.out,dP,HL.out,←hm.out,hmk,List.append_assoc,HR.out];rfl
   exact⟨⟨j+1,r2,by omega,by go_num,by first|rfl|go_num,Lib.hid (by rw[hsn.out,bf];have h1:=hr1.out;have h2:=hr2.out;have h8:=hcx.out;have h9:=hm.out;omega),by omega,by rw[hfin];exact t4,(((((hon).trans u0).trans u1).trans u2).trans u3).trans u4,v4⟩,by simp[intOf];omega⟩
  ·have:j=n:=by omega
   subst this
   go_wp2_with fail
   go_ret;have hl:=Hn.out;rw[List.take_of_length_le (by omega),List.drop_of_length_le (by omega)]at ht;have hm':=hm.out;rw[List.take_of_length_le (by omega)]at hm';exact⟨m,rfl,hm',by simpa using ht,hon,hw⟩
theorem qg(xs:List aD)(k:Int){A:Option Addr}{c lo:Nat}{bs}(w:World)(hx:T1 w (.sl xs.length (xs.flatMap aD.enc)) bs (.slice A xs.length c))(ho:Own lo w bs)(hn':xs.length≤maxLen)(hk0:0≤k)(hk1:k+(cN (xs.flatMap aD.enc):Nat)≤4611686018427387904):
  Calls Tryz.prog 58 #[.slice A xs.length c,.int .i64 k] w fun e w'=>∃r:Int,e=.returned (.int .i64 r)∧Hid (r=k+(cN (xs.flatMap aD.enc):Nat))∧T1 w' (.sl xs.length (dh (xs.flatMap aD.enc) k)) bs (.slice A xs.length c)∧iC bs w w'∧Own lo w' bs:=by
 unfold maxLen at hn';obtain⟨n,hn⟩:∃n,xs.length=n:=⟨_,rfl⟩;rw[hn]at hx hn' ⊢;have Hn:Hid (xs.length=n):=hn;clear hn;have hkk:=Lib.hid hk1;clear hk1
 go_enter Tryz.func58,Tryz.ntmps58
 go_wp2_with fail
 go_loopw [1,5] (fun l i w'=>∃(j:Nat) (m:Int),j≤n∧i=.int .i64 j∧l=.int .i64 m∧Hid (m=k+(cN ((xs.take j).flatMap aD.enc):Nat))∧0≤m∧T1 w' (.sl n (dh ((xs.take j).flatMap aD.enc) k++(xs.drop j).flatMap aD.enc)) bs (.slice A n c)∧iC bs w w'∧Own lo w' bs) (fun _ i _=>n-(intOf i).toNat)
 case atStart=>exact⟨0,k,Nat.zero_le _,rfl,rfl,Lib.hid (by simp[bM]),hk0,by simpa[eO]using hx,iC.refl _ _,ho⟩
 case round=>
  obtain⟨j,m,hj,rfl,rfl,hm,hm0,ht,hon,hw⟩:=hrel
  by_cases hlt:j<n
  ·obtain⟨x,hxk,hsp,hll,hsn,hdr⟩:=fE aD.enc 2 aD.aT Hn hlt;rw[hdr.out,List.flatMap_cons]at ht;have hml:(dh ((xs.take j).flatMap aD.enc) k).length=j*2:=by rw[jh,hll]
   generalize hL:dh ((xs.take j).flatMap aD.enc) k=L at ht hml;have HL:=Lib.hid hL;clear hL hll;have hcx:Hid (cN (aD.enc x)=1+1):=by show cN [.v (.int .i64 x.a),.v (.int .i64 x.b)]=_;simp only[bN,fV,eD,bM]<;>omega
   have hbd:m+1+1≤4611686018427387904:=by
    have h1:=hm.out;have h2:=hkk.out;have h3:=hcx.out
    have h4:=hsp.out;have h5:cN (xs.flatMap aD.enc)=cN ((xs.take j).flatMap aD.enc)+(cN (aD.enc x)+cN ((xs.drop (j+1)).flatMap aD.enc)):=by rw[h4,bf,bf]
    omega
   replace ht:T1 wr (.sl n (L++(.v (.int .i64 x.a))::(.v (.int .i64 x.b))::(xs.drop (j+1)).flatMap aD.enc)) bs (.slice A n c):=ht
   generalize hR:(xs.drop (j+1)).flatMap aD.enc=R at ht;have HR:=Lib.hid hR;clear hR;obtain⟨b,off,rfl, -,hbm,hbl,hblo,hfz⟩:=ht.row hw;have z0_0:T1 wr (.sl n (L++(.v (.int .i64 x.a))::(.v (.int .i64 x.b))::R)) bs (.slice (some ⟨b,off,none⟩) n c):=by exact ht
   have y0_0:=(z0_0.leaf hw (o:=off+j*2) rfl (by simp only[List.length_append,List.length_cons,List.length_nil,hml]<;>omega)).1;have z0_1:T1 wr (.sl n ((L++[.v (.int .i64 x.a)])++(.v (.int .i64 x.b))::R)) bs (.slice (some ⟨b,off,none⟩) n c):=by rw[List.append_assoc];exact ht
   have y0_1:=(z0_1.leaf hw (o:=off+j*2+1) rfl (by simp only[List.length_append,List.length_cons,List.length_nil,hml]<;>omega)).1;obtain⟨t0,u0,v0⟩:=(ht.leaf hw (o:=off+j*2) rfl (by simp only[List.length_append,List.length_cons,List.length_nil,hml]<;>omega)).2 (.int .i64 m) rfl
   replace t0:T1 (World.setCell wr ⟨b,off+j*2,none⟩ (.int .i64 m)) (.sl n (L++(.v (.int .i64 m))::(.v (.int .i64 x.b))::R)) bs (.slice (some ⟨b,off,none⟩) n c):=t0
   replace t0:T1 (World.setCell wr ⟨b,off+j*2,none⟩ (.int .i64 m)) (.sl n ((L++[.v (.int .i64 m)])++(.v (.int .i64 x.b))::R)) bs (.slice (some ⟨b,off,none⟩) n c):=by rw[List.append_assoc];exact t0
   obtain⟨t1,u1,v1⟩:=(t0.leaf v0 (o:=off+j*2+1) rfl (by simp only[List.length_append,List.length_cons,List.length_nil,hml]<;>omega)).2 (.int .i64 (m+1)) rfl;rw[List.append_assoc]at t1
   replace t1:T1 (World.setCell (World.setCell wr ⟨b,off+j*2,none⟩ (.int .i64 m)) ⟨b,off+j*2+1,none⟩ (.int .i64 (m+1))) (.sl n (L++(.v (.int .i64 m))::(.v (.int .i64 (m+1)))::R)) bs (.slice (some ⟨b,off,none⟩) n c):=t1
   clear z0_0 z0_1
   go_wp2_with fail
   have hmk:dh (aD.enc x) m=[.v (.int .i64 m),.v (.int .i64 (m+1))]:=by
    show dh [.v (.int .i64 x.a),.v (.int .i64 x.b)] m=_;simp only[fQ,eO,jC,lD,fV,eD]
    all_goals (exact(bS (gZ (by omega)) (bS (gZ (by omega)) rfl)))
   have hfin:dh ((xs.take (j+1)).flatMap aD.enc) k++(xs.drop (j+1)).flatMap aD.enc=L++(.v (.int .i64 m))::(.v (.int .i64 (m+1)))::R:=by
    rw[hsn.out,dP,HL.out,←hm.out,hmk,List.append_assoc,HR.out];rfl
   exact⟨⟨j+1,m+1+1,by omega,by go_num,by first|rfl|go_num,Lib.hid (by rw[hsn.out,bf];have h8:=hcx.out;have h9:=hm.out;omega),by omega,by rw[hfin];exact t1,((hon).trans u0).trans u1,v1⟩,by simp[intOf];omega⟩
  ·have:j=n:=by omega
   subst this
   go_wp2_with fail
   go_ret;have hl:=Hn.out;rw[List.take_of_length_le (by omega),List.drop_of_length_le (by omega)]at ht;have hm':=hm.out;rw[List.take_of_length_le (by omega)]at hm';exact⟨m,rfl,hm',by simpa using ht,hon,hw⟩
theorem wO(x:bg)(k:Int){bs us}{lo:Nat}(w:World)(hx:TN w x.enc bs us)(ho:Own lo w bs)(hk0:0≤k)(hk1:k+(x.cnt:Nat)≤4611686018427387904):
  Calls Tryz.prog 24 #[.agg us.toArray,.int .i64 k] w fun e w'=>∃r:Int,e=.returned (.int .i64 r)∧Hid (r=k+(x.cnt:Nat))∧TN w' (x.tH k) bs us∧iC bs w w'∧Own lo w' bs:=by
 have hlt:=hx.lt;obtain⟨A0,c0,b0,A4,c4,b4,rfl,rfl,t0,l0,m0,t4,l4,m4⟩:=bg.us hx;obtain⟨o0,o4,d4⟩:=Own.parts ho;have e0_4:∀y∈b0,y∉b4:=fun y hm=>d4 y hm
 have g0:w.heap.size∉b0:=fun hm=>by have:=hlt _ (show w.heap.size∈b0++b4 by simp[hm]);omega
 have g4:w.heap.size∉b4:=fun hm=>by have:=hlt _ (show w.heap.size∈b0++b4 by simp[hm]);omega
 have B0:∀S,Below w.heap.size w (w.alloc S):=fun _=>(Below.refl _ _).alloc (Nat.le_refl _) _
 have hcn:x.cnt=cN (x.cells.flatMap aK.enc)+cN (x.redexes.flatMap aD.enc):=rfl;rw[hcn]at hk1;clear hcn hx
 go_enter Tryz.func24,Tryz.ntmps24
 go_wp2_with fail
 refine(yB x.cells k _ (t0.below (B0 _)) (o0.below (B0 _)) (Nat.le_trans l0 m0) (by omega) (by omega)).mono ?_;rintro _ w1 ⟨r1,rfl,hr1,S0,f1,V0⟩;have p1:0≤r1:=by have:=hr1.out;omega
 have b1_:r1+(cN (x.redexes.flatMap aD.enc):Nat)≤4611686018427387904:=by have:=hr1.out;omega
 have u1:=(f1.other w.heap.size (by simp) g0).trans (heap_alloc_new w _);have z1:w.heap.size<w1.heap.size:=by have:=f1.size;simp at this;omega
 have F1:iC (b0++b4) w w1:=iC.trans (iC.qG (B0 _)) (f1.sub (fun y hy=>by first|exact hy|(simp at hy ⊢;grind)));have q1_0:=cell_of_row _ _ 0 _ _ _ u1;have q1_1:=cell_of_row _ _ 1 _ _ _ u1;have q1_2:=cell_of_row _ _ 2 _ _ _ u1;have q1_3:=cell_of_row _ _ 3 _ _ _ u1;have q1_4:=cell_of_row _ _ 4 _ _ _ u1;simp only[List.getElem?_toArray,List.getElem?_cons_zero,List.getElem?_cons_succ]at q1_0 q1_1 q1_2 q1_3 q1_4
 replace t4:=T1.j5 (t4.below (B0 _)) f1 (fun y hy hm=>e0_4 y hm hy)
 replace o4:=(o4.below (B0 _)).j5 f1
 go_wp2_with fail
 refine(qg x.redexes r1 _ t4 o4 (Nat.le_trans l4 m4) (by omega) (by omega)).mono ?_;rintro _ w2 ⟨r2,rfl,hr2,S1,f2,V1⟩;have p2:0≤r2:=by have:=hr2.out;omega
 have b2_:r2+0≤4611686018427387904:=by have:=hr2.out;omega
 have u2:=(f2.other w.heap.size z1 g4).trans u1;have z2:w.heap.size<w2.heap.size:=by have:=f2.size;omega
 have F2:=F1.trans (f2.sub (cs:=b0++b4) (fun y hy=>by first|exact hy|(simp at hy ⊢;grind)));clear q1_0 q1_1 q1_2 q1_3 q1_4 u1;have q2_0:=cell_of_row _ _ 0 _ _ _ u2;have q2_1:=cell_of_row _ _ 1 _ _ _ u2;have q2_2:=cell_of_row _ _ 2 _ _ _ u2;have q2_3:=cell_of_row _ _ 3 _ _ _ u2;have q2_4:=cell_of_row _ _ 4 _ _ _ u2;simp only[List.getElem?_toArray,List.getElem?_cons_zero,List.getElem?_cons_succ]at q2_0 q2_1 q2_2 q2_3 q2_4
 replace S0:=T1.j5 S0 f2 e0_4
 go_wp2_with fail
 go_ret;refine⟨r2,rfl,?_,?_,F2,ho.j5 F2⟩
 ·show _=_;have hcn:x.cnt=cN (x.cells.flatMap aK.enc)+cN (x.redexes.flatMap aD.enc):=rfl;have h1:=hr1.out;have h2:=hr2.out;omega
 ·have h1:=hr1.out;have h2:=hr2.out;skip
  rw[show r1=k+(cN (x.cells.flatMap aK.enc):Nat) from by omega]at S1;have h:=(TN.append.2 ⟨_,_,_,_,rfl,rfl,(TN.fI S0 TN.done),(TN.append.2 ⟨_,_,_,_,rfl,rfl,(TN.fH (x:=.int .i64 x.free) rfl TN.done),(TN.append.2 ⟨_,_,_,_,rfl,rfl,(TN.fH (x:=.int .i64 x.root.tag) rfl TN.done),(TN.append.2 ⟨_,_,_,_,rfl,rfl,(TN.fH (x:=.int .i64 x.root.at_) rfl TN.done),(TN.fI S1 TN.done)⟩)⟩)⟩)⟩);simp only[List.append_nil,List.nil_append,List.append_assoc,List.cons_append]at h;unfold bg.tH;simpa only[List.append_nil,List.nil_append,List.append_assoc,List.cons_append]using h
theorem yC(xs:List aS)(k:Int){A:Option Addr}{c lo:Nat}{bs}(w:World)(hx:T1 w (.sl xs.length (xs.flatMap aS.enc)) bs (.slice A xs.length c))(ho:Own lo w bs)(hn':xs.length≤maxLen)(hk0:0≤k)(hk1:k+(cN (xs.flatMap aS.enc):Nat)≤4611686018427387904):
  Calls Tryz.prog 59 #[.slice A xs.length c,.int .i64 k] w fun e w'=>∃r:Int,e=.returned (.int .i64 r)∧Hid (r=k+(cN (xs.flatMap aS.enc):Nat))∧T1 w' (.sl xs.length (dh (xs.flatMap aS.enc) k)) bs (.slice A xs.length c)∧iC bs w w'∧Own lo w' bs:=by
 unfold maxLen at hn';obtain⟨n,hn⟩:∃n,xs.length=n:=⟨_,rfl⟩;rw[hn]at hx hn' ⊢;have Hn:Hid (xs.length=n):=hn;clear hn;have hkk:=Lib.hid hk1;clear hk1
 go_enter Tryz.func59,Tryz.ntmps59
 go_wp2_with fail
 go_loopw [1,5] (fun l i w'=>∃(j:Nat) (m:Int),j≤n∧i=.int .i64 j∧l=.int .i64 m∧Hid (m=k+(cN ((xs.take j).flatMap aS.enc):Nat))∧0≤m∧T1 w' (.sl n (dh ((xs.take j).flatMap aS.enc) k++(xs.drop j).flatMap aS.enc)) bs (.slice A n c)∧iC bs w w'∧Own lo w' bs) (fun _ i _=>n-(intOf i).toNat)
 case atStart=>exact⟨0,k,Nat.zero_le _,rfl,rfl,Lib.hid (by simp[bM]),hk0,by simpa[eO]using hx,iC.refl _ _,ho⟩
 case round=>
  obtain⟨j,m,hj,rfl,rfl,hm,hm0,ht,hon,hw⟩:=hrel
  by_cases hlt:j<n
  ·obtain⟨x,hxk,hsp,hll,hsn,hdr⟩:=fE aS.enc 4 aS.aT Hn hlt;rw[hdr.out,List.flatMap_cons]at ht;have hml:(dh ((xs.take j).flatMap aS.enc) k).length=j*4:=by rw[jh,hll]
   generalize hL:dh ((xs.take j).flatMap aS.enc) k=L at ht hml;have HL:=Lib.hid hL;clear hL hll;have hcx:Hid (cN (aS.enc x)=1+1+1+1):=by show cN [.v (.int .i64 x.a.tag),.v (.int .i64 x.a.at_),.v (.int .i64 x.b.tag),.v (.int .i64 x.b.at_)]=_;simp only[bN,fV,eD,bM]<;>omega
   have hbd:m+1+1+1+1≤4611686018427387904:=by
    have h1:=hm.out;have h2:=hkk.out;have h3:=hcx.out
    have h4:=hsp.out;have h5:cN (xs.flatMap aS.enc)=cN ((xs.take j).flatMap aS.enc)+(cN (aS.enc x)+cN ((xs.drop (j+1)).flatMap aS.enc)):=by rw[h4,bf,bf]
    omega
   replace ht:T1 wr (.sl n (L++(.v (.int .i64 x.a.tag))::(.v (.int .i64 x.a.at_))::(.v (.int .i64 x.b.tag))::(.v (.int .i64 x.b.at_))::(xs.drop (j+1)).flatMap aS.enc)) bs (.slice A n c):=ht
   generalize hR:(xs.drop (j+1)).flatMap aS.enc=R at ht;have HR:=Lib.hid hR;clear hR;obtain⟨b,off,rfl, -,hbm,hbl,hblo,hfz⟩:=ht.row hw;have z0_0:T1 wr (.sl n (L++(.v (.int .i64 x.a.tag))::(.v (.int .i64 x.a.at_))::(.v (.int .i64 x.b.tag))::(.v (.int .i64 x.b.at_))::R)) bs (.slice (some ⟨b,off,none⟩) n c):=by exact ht
   have y0_0:=(z0_0.leaf hw (o:=off+j*4) rfl (by simp only[List.length_append,List.length_cons,List.length_nil,hml]<;>omega)).1;have z0_1:T1 wr (.sl n ((L++[.v (.int .i64 x.a.tag)])++(.v (.int .i64 x.a.at_))::(.v (.int .i64 x.b.tag))::(.v (.int .i64 x.b.at_))::R)) bs (.slice (some ⟨b,off,none⟩) n c):=by rw[List.append_assoc];exact ht
   have y0_1:=(z0_1.leaf hw (o:=off+j*4+1) rfl (by simp only[List.length_append,List.length_cons,List.length_nil,hml]<;>omega)).1;have z0_2:T1 wr (.sl n ((L++[.v (.int .i64 x.a.tag),.v (.int .i64 x.a.at_)])++(.v (.int .i64 x.b.tag))::(.v (.int .i64 x.b.at_))::R)) bs (.slice (some ⟨b,off,none⟩) n c):=by rw[List.append_assoc];exact ht
   have y0_2:=(z0_2.leaf hw (o:=off+j*4+2) rfl (by simp only[List.length_append,List.length_cons,List.length_nil,hml]<;>omega)).1;have z0_3:T1 wr (.sl n ((L++[.v (.int .i64 x.a.tag),.v (.int .i64 x.a.at_),.v (.int .i64 x.b.tag)])++(.v (.int .i64 x.b.at_))::R)) bs (.slice (some ⟨b,off,none⟩) n c):=by rw[List.append_assoc];exact ht
   have y0_3:=(z0_3.leaf hw (o:=off+j*4+3) rfl (by simp only[List.length_append,List.length_cons,List.length_nil,hml]<;>omega)).1;obtain⟨t0,u0,v0⟩:=(ht.leaf hw (o:=off+j*4) rfl (by simp only[List.length_append,List.length_cons,List.length_nil,hml]<;>omega)).2 (.int .i64 m) rfl
   replace t0:T1 (World.setCell wr ⟨b,off+j*4,none⟩ (.int .i64 m)) (.sl n (L++(.v (.int .i64 m))::(.v (.int .i64 x.a.at_))::(.v (.int .i64 x.b.tag))::(.v (.int .i64 x.b.at_))::R)) bs (.slice (some ⟨b,off,none⟩) n c):=t0
   replace t0:T1 (World.setCell wr ⟨b,off+j*4,none⟩ (.int .i64 m)) (.sl n ((L++[.v (.int .i64 m)])++(.v (.int .i64 x.a.at_))::(.v (.int .i64 x.b.tag))::(.v (.int .i64 x.b.at_))::R)) bs (.slice (some ⟨b,off,none⟩) n c):=by rw[List.append_assoc];exact t0
   obtain⟨t1,u1,v1⟩:=(t0.leaf v0 (o:=off+j*4+1) rfl (by simp only[List.length_append,List.length_cons,List.length_nil,hml]<;>omega)).2 (.int .i64 (m+1)) rfl;rw[List.append_assoc]at t1
   replace t1:T1 (World.setCell (World.setCell wr ⟨b,off+j*4,none⟩ (.int .i64 m)) ⟨b,off+j*4+1,none⟩ (.int .i64 (m+1))) (.sl n (L++(.v (.int .i64 m))::(.v (.int .i64 (m+1)))::(.v (.int .i64 x.b.tag))::(.v (.int .i64 x.b.at_))::R)) bs (.slice (some ⟨b,off,none⟩) n c):=t1
   replace t1:T1 (World.setCell (World.setCell wr ⟨b,off+j*4,none⟩ (.int .i64 m)) ⟨b,off+j*4+1,none⟩ (.int .i64 (m+1))) (.sl n ((L++[.v (.int .i64 m),.v (.int .i64 (m+1))])++(.v (.int .i64 x.b.tag))::(.v (.int .i64 x.b.at_))::R)) bs (.slice (some ⟨b,off,none⟩) n c):=by rw[List.append_assoc];exact t1
   obtain⟨t2,u2,v2⟩:=(t1.leaf v1 (o:=off+j*4+2) rfl (by simp only[List.length_append,List.length_cons,List.length_nil,hml]<;>omega)).2 (.int .i64 (m+1+1)) rfl;rw[List.append_assoc]at t2
   replace t2:T1 (World.setCell (World.setCell (World.setCell wr ⟨b,off+j*4,none⟩ (.int .i64 m)) ⟨b,off+j*4+1,none⟩ (.int .i64 (m+1))) ⟨b,off+j*4+2,none⟩ (.int .i64 (m+1+1))) (.sl n (L++(.v (.int .i64 m))::(.v (.int .i64 (m+1)))::(.v (.int .i64 (m+1+1)))::(.v (.int .i64 x.b.at_))::R)) bs (.slice (some ⟨b,off,none⟩) n c):=t2
   replace t2:T1 (World.setCell (World.setCell (World.setCell wr ⟨b,off+j*4,none⟩ (.int .i64 m)) ⟨b,off+j*4+1,none⟩ (.int .i64 (m+1))) ⟨b,off+j*4+2,none⟩ (.int .i64 (m+1+1))) (.sl n ((L++[.v (.int .i64 m),.v (.int .i64 (m+1)),.v (.int .i64 (m+1+1))])++(.v (.int .i64 x.b.at_))::R)) bs (.slice (some ⟨b,off,none⟩) n c):=by rw[List.append_assoc];exact t2
   obtain⟨t3,u3,v3⟩:=(t2.leaf v2 (o:=off+j*4+3) rfl (by simp only[List.length_append,List.length_cons,List.length_nil,hml]<;>omega)).2 (.int .i64 (m+1+1+1)) rfl;rw[List.append_assoc]at t3
   replace t3:T1 (World.setCell (World.setCell (World.setCell (World.setCell wr ⟨b,off+j*4,none⟩ (.int .i64 m)) ⟨b,off+j*4+1,none⟩ (.int .i64 (m+1))) ⟨b,off+j*4+2,none⟩ (.int .i64 (m+1+1))) ⟨b,off+j*4+3,none⟩ (.int .i64 (m+1+1+1))) (.sl n (L++(.v (.int .i64 m))::(.v (.int .i64 (m+1)))::(.v (.int .i64 (m+1+1)))::(.v (.int .i64 (m+1+1+1)))::R)) bs (.slice (some ⟨b,off,none⟩) n c):=t3
   clear z0_0 z0_1 z0_2 z0_3
   go_wp2_with fail
   have hmk:dh (aS.enc x) m=[.v (.int .i64 m),.v (.int .i64 (m+1)),.v (.int .i64 (m+1+1)),.v (.int .i64 (m+1+1+1))]:=by
    show dh [.v (.int .i64 x.a.tag),.v (.int .i64 x.a.at_),.v (.int .i64 x.b.tag),.v (.int .i64 x.b.at_)] m=_;simp only[fQ,eO,jC,lD,fV,eD]
    all_goals (exact(bS (gZ (by omega)) (bS (gZ (by omega)) (bS (gZ (by omega)) (bS (gZ (by omega)) rfl)))))
   have hfin:dh ((xs.take (j+1)).flatMap aS.enc) k++(xs.drop (j+1)).flatMap aS.enc=L++(.v (.int .i64 m))::(.v (.int .i64 (m+1)))::(.v (.int .i64 (m+1+1)))::(.v (.int .i64 (m+1+1+1)))::R:=by
    rw[hsn.out,dP,HL.out,←hm.out,hmk,List.append_assoc,HR.out];rfl
   exact⟨⟨j+1,m+1+1+1+1,by omega,by go_num,by first|rfl|go_num,Lib.hid (by rw[hsn.out,bf];have h8:=hcx.out;have h9:=hm.out;omega),by omega,by rw[hfin];exact t3,((((hon).trans u0).trans u1).trans u2).trans u3,v3⟩,by simp[intOf];omega⟩
  ·have:j=n:=by omega
   subst this
   go_wp2_with fail
   go_ret;have hl:=Hn.out;rw[List.take_of_length_le (by omega),List.drop_of_length_le (by omega)]at ht;have hm':=hm.out;rw[List.take_of_length_le (by omega)]at hm';exact⟨m,rfl,hm',by simpa using ht,hon,hw⟩
theorem uS(xs:List aA)(k:Int){A:Option Addr}{c lo:Nat}{bs}(w:World)(hx:T1 w (.sl xs.length (xs.flatMap aA.enc)) bs (.slice A xs.length c))(ho:Own lo w bs)(hn':xs.length≤maxLen)(hk0:0≤k)(hk1:k+(cN (xs.flatMap aA.enc):Nat)≤4611686018427387904):
  Calls Tryz.prog 25 #[.slice A xs.length c,.int .i64 k] w fun e w'=>∃r:Int,e=.returned (.int .i64 r)∧Hid (r=k+(cN (xs.flatMap aA.enc):Nat))∧T1 w' (.sl xs.length (dh (xs.flatMap aA.enc) k)) bs (.slice A xs.length c)∧iC bs w w'∧Own lo w' bs:=by
 unfold maxLen at hn';obtain⟨n,hn⟩:∃n,xs.length=n:=⟨_,rfl⟩;rw[hn]at hx hn' ⊢;have Hn:Hid (xs.length=n):=hn;clear hn;have hkk:=Lib.hid hk1;clear hk1
 go_enter Tryz.func25,Tryz.ntmps25
 go_wp2_with fail
 go_loopw [1,5] (fun l i w'=>∃(j:Nat) (m:Int),j≤n∧i=.int .i64 j∧l=.int .i64 m∧Hid (m=k+(cN ((xs.take j).flatMap aA.enc):Nat))∧0≤m∧T1 w' (.sl n (dh ((xs.take j).flatMap aA.enc) k++(xs.drop j).flatMap aA.enc)) bs (.slice A n c)∧iC bs w w'∧Own lo w' bs) (fun _ i _=>n-(intOf i).toNat)
 case atStart=>exact⟨0,k,Nat.zero_le _,rfl,rfl,Lib.hid (by simp[bM]),hk0,by simpa[eO]using hx,iC.refl _ _,ho⟩
 case round=>
  obtain⟨j,m,hj,rfl,rfl,hm,hm0,ht,hon,hw⟩:=hrel
  by_cases hlt:j<n
  ·obtain⟨x,hxk,hsp,hll,hsn,hdr⟩:=fE aA.enc 5 aA.aT Hn hlt;rw[hdr.out,List.flatMap_cons]at ht;have hml:(dh ((xs.take j).flatMap aA.enc) k).length=j*5:=by rw[jh,hll]
   generalize hL:dh ((xs.take j).flatMap aA.enc) k=L at ht hml;have HL:=Lib.hid hL;clear hL hll;have hcx:Hid (cN (aA.enc x)=1+1+cN (x.redexes.flatMap aD.enc)+cN (x.links.flatMap aS.enc)+cN (x.counts.flatMap aP)):=by show cN [.v (.int .i64 x.phase),.v (.int .i64 x.victim),.sl x.redexes.length (x.redexes.flatMap aD.enc),.sl x.links.length (x.links.flatMap aS.enc),.sl x.counts.length (x.counts.flatMap aP)]=_;simp only[bN,fV,eD,bM]<;>omega
   have hbd:m+1+1+(cN (x.redexes.flatMap aD.enc):Nat)+(cN (x.links.flatMap aS.enc):Nat)+(cN (x.counts.flatMap aP):Nat)≤4611686018427387904:=by
    have h1:=hm.out;have h2:=hkk.out;have h3:=hcx.out
    have h4:=hsp.out;have h5:cN (xs.flatMap aA.enc)=cN ((xs.take j).flatMap aA.enc)+(cN (aA.enc x)+cN ((xs.drop (j+1)).flatMap aA.enc)):=by rw[h4,bf,bf]
    omega
   replace ht:T1 wr (.sl n (L++(.v (.int .i64 x.phase))::(.v (.int .i64 x.victim))::(.sl x.redexes.length (x.redexes.flatMap aD.enc))::(.sl x.links.length (x.links.flatMap aS.enc))::(.sl x.counts.length (x.counts.flatMap aP))::(xs.drop (j+1)).flatMap aA.enc)) bs (.slice A n c):=ht
   generalize hR:(xs.drop (j+1)).flatMap aA.enc=R at ht;have HR:=Lib.hid hR;clear hR;obtain⟨b,off,rfl, -,hbm,hbl,hblo,hfz⟩:=ht.row hw;have z0_0:T1 wr (.sl n (L++(.v (.int .i64 x.phase))::(.v (.int .i64 x.victim))::(.sl x.redexes.length (x.redexes.flatMap aD.enc))::(.sl x.links.length (x.links.flatMap aS.enc))::(.sl x.counts.length (x.counts.flatMap aP))::R)) bs (.slice (some ⟨b,off,none⟩) n c):=by exact ht
   have y0_0:=(z0_0.leaf hw (o:=off+j*5) rfl (by simp only[List.length_append,List.length_cons,List.length_nil,hml]<;>omega)).1;have z0_1:T1 wr (.sl n ((L++[.v (.int .i64 x.phase)])++(.v (.int .i64 x.victim))::(.sl x.redexes.length (x.redexes.flatMap aD.enc))::(.sl x.links.length (x.links.flatMap aS.enc))::(.sl x.counts.length (x.counts.flatMap aP))::R)) bs (.slice (some ⟨b,off,none⟩) n c):=by rw[List.append_assoc];exact ht
   have y0_1:=(z0_1.leaf hw (o:=off+j*5+1) rfl (by simp only[List.length_append,List.length_cons,List.length_nil,hml]<;>omega)).1;have z0_2:T1 wr (.sl n ((L++[.v (.int .i64 x.phase),.v (.int .i64 x.victim)])++(.sl x.redexes.length (x.redexes.flatMap aD.enc))::(.sl x.links.length (x.links.flatMap aS.enc))::(.sl x.counts.length (x.counts.flatMap aP))::R)) bs (.slice (some ⟨b,off,none⟩) n c):=by rw[List.append_assoc];exact ht
   obtain⟨A0_2,c0_2,b0_2,y0_2, -⟩:=z0_2.sub hw (o:=off+j*5+2) rfl (by simp only[List.length_append,List.length_cons,List.length_nil,hml]<;>omega);obtain⟨t0,u0,v0⟩:=(ht.leaf hw (o:=off+j*5) rfl (by simp only[List.length_append,List.length_cons,List.length_nil,hml]<;>omega)).2 (.int .i64 m) rfl
   replace t0:T1 (World.setCell wr ⟨b,off+j*5,none⟩ (.int .i64 m)) (.sl n (L++(.v (.int .i64 m))::(.v (.int .i64 x.victim))::(.sl x.redexes.length (x.redexes.flatMap aD.enc))::(.sl x.links.length (x.links.flatMap aS.enc))::(.sl x.counts.length (x.counts.flatMap aP))::R)) bs (.slice (some ⟨b,off,none⟩) n c):=t0
   replace t0:T1 (World.setCell wr ⟨b,off+j*5,none⟩ (.int .i64 m)) (.sl n ((L++[.v (.int .i64 m)])++(.v (.int .i64 x.victim))::(.sl x.redexes.length (x.redexes.flatMap aD.enc))::(.sl x.links.length (x.links.flatMap aS.enc))::(.sl x.counts.length (x.counts.flatMap aP))::R)) bs (.slice (some ⟨b,off,none⟩) n c):=by rw[List.append_assoc];exact t0
   obtain⟨t1,u1,v1⟩:=(t0.leaf v0 (o:=off+j*5+1) rfl (by simp only[List.length_append,List.length_cons,List.length_nil,hml]<;>omega)).2 (.int .i64 (m+1)) rfl;rw[List.append_assoc]at t1
   replace t1:T1 (World.setCell (World.setCell wr ⟨b,off+j*5,none⟩ (.int .i64 m)) ⟨b,off+j*5+1,none⟩ (.int .i64 (m+1))) (.sl n (L++(.v (.int .i64 m))::(.v (.int .i64 (m+1)))::(.sl x.redexes.length (x.redexes.flatMap aD.enc))::(.sl x.links.length (x.links.flatMap aS.enc))::(.sl x.counts.length (x.counts.flatMap aP))::R)) bs (.slice (some ⟨b,off,none⟩) n c):=t1
   have g2:T1 (World.setCell (World.setCell wr ⟨b,off+j*5,none⟩ (.int .i64 m)) ⟨b,off+j*5+1,none⟩ (.int .i64 (m+1))) (.sl n ((L++[.v (.int .i64 m),.v (.int .i64 (m+1))])++(.sl x.redexes.length (x.redexes.flatMap aD.enc))::(.sl x.links.length (x.links.flatMap aS.enc))::(.sl x.counts.length (x.counts.flatMap aP))::R)) bs (.slice (some ⟨b,off,none⟩) n c):=by rw[List.append_assoc];exact t1
   obtain⟨A2,c2,b2,k2,s2,n2,o2,nb2,back2⟩:=g2.sub v1 (o:=off+j*5+2) rfl (by simp only[List.length_append,List.length_cons,List.length_nil,hml]<;>omega)
   obtain⟨rfl,rfl⟩:A0_2=A2∧c0_2=c2:=by
    have hh:=k2;rw[cK _ _ _ _ _ (by omega)]at hh;rw[cK _ _ _ _ _ (by omega)]at hh;rw[y0_2]at hh;simpa using hh
   clear k2;have HB2:=Lib.hid back2;clear back2 g2;clear z0_0 z0_1 z0_2
   go_wp2_with fail
   refine(qg x.redexes (m+1+1) _ s2 o2 n2 (by omega) (by omega)).mono ?_;rintro _ W1 ⟨r1,rfl,hr1,q2,f2, -⟩;obtain⟨t2,u2,v2⟩:=HB2.out W1 _ f2 q2;have p1:0≤r1:=by have:=hr1.out;omega
   have l1:r1+(cN (x.links.flatMap aS.enc):Nat)+(cN (x.counts.flatMap aP):Nat)≤4611686018427387904:=by have:=hr1.out;omega
   rw[List.append_assoc]at t2
   replace t2:T1 W1 (.sl n (L++(.v (.int .i64 m))::(.v (.int .i64 (m+1)))::(.sl x.redexes.length (dh (x.redexes.flatMap aD.enc) (m+1+1)))::(.sl x.links.length (x.links.flatMap aS.enc))::(.sl x.counts.length (x.counts.flatMap aP))::R)) bs (.slice (some ⟨b,off,none⟩) n c):=t2
   have hfz1:∀o,World.frozen? W1 ⟨b,o,none⟩=false:=fun o=>(by obtain⟨_,cur,tt,hrow⟩:=v2.2 b hbm;simp[World.frozen?,hrow])
   have z1_3:T1 W1 (.sl n ((L++[.v (.int .i64 m),.v (.int .i64 (m+1)),.sl x.redexes.length (dh (x.redexes.flatMap aD.enc) (m+1+1))])++(.sl x.links.length (x.links.flatMap aS.enc))::(.sl x.counts.length (x.counts.flatMap aP))::R)) bs (.slice (some ⟨b,off,none⟩) n c):=by rw[List.append_assoc];exact t2
   obtain⟨A1_3,c1_3,b1_3,y1_3, -⟩:=z1_3.sub v2 (o:=off+j*5+3) rfl (by simp only[List.length_append,List.length_cons,List.length_nil,hml]<;>omega);have g3:T1 W1 (.sl n ((L++[.v (.int .i64 m),.v (.int .i64 (m+1)),.sl x.redexes.length (dh (x.redexes.flatMap aD.enc) (m+1+1))])++(.sl x.links.length (x.links.flatMap aS.enc))::(.sl x.counts.length (x.counts.flatMap aP))::R)) bs (.slice (some ⟨b,off,none⟩) n c):=by rw[List.append_assoc];exact t2
   obtain⟨A3,c3,b3,k3,s3,n3,o3,nb3,back3⟩:=g3.sub v2 (o:=off+j*5+3) rfl (by simp only[List.length_append,List.length_cons,List.length_nil,hml]<;>omega)
   obtain⟨rfl,rfl⟩:A1_3=A3∧c1_3=c3:=by
    have hh:=k3;rw[y1_3]at hh;simpa using hh
   clear k3;have HB3:=Lib.hid back3;clear back3 g3;clear z1_3
   go_wp2_with fail
   refine(yC x.links (r1) _ s3 o3 n3 (by omega) (by omega)).mono ?_;rintro _ W2 ⟨r2,rfl,hr2,q3,f3, -⟩;obtain⟨t3,u3,v3⟩:=HB3.out W2 _ f3 q3;have p2:0≤r2:=by have:=hr2.out;omega
   have l2:r2+(cN (x.counts.flatMap aP):Nat)≤4611686018427387904:=by have:=hr2.out;omega
   rw[List.append_assoc]at t3
   replace t3:T1 W2 (.sl n (L++(.v (.int .i64 m))::(.v (.int .i64 (m+1)))::(.sl x.redexes.length (dh (x.redexes.flatMap aD.enc) (m+1+1)))::(.sl x.links.length (dh (x.links.flatMap aS.enc) (r1)))::(.sl x.counts.length (x.counts.flatMap aP))::R)) bs (.slice (some ⟨b,off,none⟩) n c):=t3
   have hfz2:∀o,World.frozen? W2 ⟨b,o,none⟩=false:=fun o=>(by obtain⟨_,cur,tt,hrow⟩:=v3.2 b hbm;simp[World.frozen?,hrow])
   have z2_4:T1 W2 (.sl n ((L++[.v (.int .i64 m),.v (.int .i64 (m+1)),.sl x.redexes.length (dh (x.redexes.flatMap aD.enc) (m+1+1)),.sl x.links.length (dh (x.links.flatMap aS.enc) (r1))])++(.sl x.counts.length (x.counts.flatMap aP))::R)) bs (.slice (some ⟨b,off,none⟩) n c):=by rw[List.append_assoc];exact t3
   obtain⟨A2_4,c2_4,b2_4,y2_4, -⟩:=z2_4.sub v3 (o:=off+j*5+4) rfl (by simp only[List.length_append,List.length_cons,List.length_nil,hml]<;>omega);have g4:T1 W2 (.sl n ((L++[.v (.int .i64 m),.v (.int .i64 (m+1)),.sl x.redexes.length (dh (x.redexes.flatMap aD.enc) (m+1+1)),.sl x.links.length (dh (x.links.flatMap aS.enc) (r1))])++(.sl x.counts.length (x.counts.flatMap aP))::R)) bs (.slice (some ⟨b,off,none⟩) n c):=by rw[List.append_assoc];exact t3
   obtain⟨A4,c4,b4,k4,s4,n4,o4,nb4,back4⟩:=g4.sub v3 (o:=off+j*5+4) rfl (by simp only[List.length_append,List.length_cons,List.length_nil,hml]<;>omega)
   obtain⟨rfl,rfl⟩:A2_4=A4∧c2_4=c4:=by
    have hh:=k4;rw[y2_4]at hh;simpa using hh
   clear k4;have HB4:=Lib.hid back4;clear back4 g4;clear z2_4
   go_wp2_with fail
   refine(lC x.counts (r2) _ s4 o4 n4 (by omega) (by omega)).mono ?_;rintro _ W3 ⟨r3,rfl,hr3,q4,f4, -⟩;obtain⟨t4,u4,v4⟩:=HB4.out W3 _ f4 q4;have p3:0≤r3:=by have:=hr3.out;omega
   have l3:r3+0≤4611686018427387904:=by have:=hr3.out;omega
   rw[List.append_assoc]at t4
   replace t4:T1 W3 (.sl n (L++(.v (.int .i64 m))::(.v (.int .i64 (m+1)))::(.sl x.redexes.length (dh (x.redexes.flatMap aD.enc) (m+1+1)))::(.sl x.links.length (dh (x.links.flatMap aS.enc) (r1)))::(.sl x.counts.length (dh (x.counts.flatMap aP) (r2)))::R)) bs (.slice (some ⟨b,off,none⟩) n c):=t4
   go_wp2_with fail
   have hmk:dh (aA.enc x) m=[.v (.int .i64 m),.v (.int .i64 (m+1)),.sl x.redexes.length (dh (x.redexes.flatMap aD.enc) (m+1+1)),.sl x.links.length (dh (x.links.flatMap aS.enc) (r1)),.sl x.counts.length (dh (x.counts.flatMap aP) (r2))]:=by
    show dh [.v (.int .i64 x.phase),.v (.int .i64 x.victim),.sl x.redexes.length (x.redexes.flatMap aD.enc),.sl x.links.length (x.links.flatMap aS.enc),.sl x.counts.length (x.counts.flatMap aP)] m=_;simp only[fQ,eO,jC,lD,fV,eD]
    all_goals (have h1:=hr1.out;have h2:=hr2.out;have h3:=hr3.out;exact(bS (gZ (by omega)) (bS (gZ (by omega)) (bS (nH (by omega)) (bS (nH (by omega)) (bS (nH (by omega)) rfl))))))
   have hfin:dh ((xs.take (j+1)).flatMap aA.enc) k++(xs.drop (j+1)).flatMap aA.enc=L++(.v (.int .i64 m))::(.v (.int .i64 (m+1)))::(.sl x.redexes.length (dh (x.redexes.flatMap aD.enc) (m+1+1)))::(.sl x.links.length (dh (x.links.flatMap aS.enc) (r1)))::(.sl x.counts.length (dh (x.counts.flatMap aP) (r2)))::R:=by
    rw[hsn.out,dP,HL.out,←hm.out,hmk,List.append_assoc,HR.out];rfl
   exact⟨⟨j+1,r3,by omega,by go_num,by first|rfl|go_num,Lib.hid (by rw[hsn.out,bf];have h1:=hr1.out;have h2:=hr2.out;have h3:=hr3.out;have h8:=hcx.out;have h9:=hm.out;omega),by omega,by rw[hfin];exact t4,(((((hon).trans u0).trans u1).trans u2).trans u3).trans u4,v4⟩,by simp[intOf];omega⟩
  ·have:j=n:=by omega
   subst this
   go_wp2_with fail
   go_ret;have hl:=Hn.out;rw[List.take_of_length_le (by omega),List.drop_of_length_le (by omega)]at ht;have hm':=hm.out;rw[List.take_of_length_le (by omega)]at hm';exact⟨m,rfl,hm',by simpa using ht,hon,hw⟩
theorem Aw(x:bP)(k:Int){bs us}{lo:Nat}(w:World)(hx:TN w x.enc bs us)(ho:Own lo w bs)(hk0:0≤k)(hk1:k+(x.cnt:Nat)≤4611686018427387904):
  Calls Tryz.prog 10 #[.agg us.toArray,.int .i64 k] w fun e w'=>∃r:Int,e=.returned (.int .i64 r)∧Hid (r=k+(x.cnt:Nat))∧TN w' (x.tH k) bs us∧iC bs w w'∧Own lo w' bs:=by
 have hlt:=hx.lt;obtain⟨A0,c0,b0,A4,c4,b4,A5,c5,b5,rfl,rfl,t0,l0,m0,t4,l4,m4,t5,l5,m5⟩:=bP.us hx;obtain⟨h2_,o5,d5⟩:=Own.parts ho;obtain⟨o0,o4,d4⟩:=Own.parts h2_;have e0_4:∀y∈b0,y∉b4:=fun y hm=>d4 y hm
 have e0_5:∀y∈b0,y∉b5:=fun y hm=>d5 y (List.mem_append_left _ hm)
 have e4_5:∀y∈b4,y∉b5:=fun y hm=>d5 y (List.mem_append_right _ hm)
 have g0:w.heap.size∉b0:=fun hm=>by have:=hlt _ (show w.heap.size∈b0++b4++b5 by simp[hm]);omega
 have g4:w.heap.size∉b4:=fun hm=>by have:=hlt _ (show w.heap.size∈b0++b4++b5 by simp[hm]);omega
 have g5:w.heap.size∉b5:=fun hm=>by have:=hlt _ (show w.heap.size∈b0++b4++b5 by simp[hm]);omega
 have B0:∀S,Below w.heap.size w (w.alloc S):=fun _=>(Below.refl _ _).alloc (Nat.le_refl _) _
 have hcn:x.cnt=x.memory.cnt+cN (x.workers.flatMap aA.enc):=rfl;rw[hcn]at hk1;clear hcn hx
 go_enter Tryz.func10,Tryz.ntmps10
 go_wp2_with fail
 refine(wO x.memory k (bs:=b0++b4) _ (bg.kK (x:=x.memory) (t0.below (B0 _)) (t4.below (B0 _))) (Own.join (o0.below (B0 _)) (o4.below (B0 _)) (fun y hy hm=>e0_4 y hy hm)) (by omega) (by omega)).mono ?_;rintro _ w1 ⟨r1,rfl,hr1,S0,f1,V0⟩;have p1:0≤r1:=by have:=hr1.out;omega
 have b1_:r1+(cN (x.workers.flatMap aA.enc):Nat)≤4611686018427387904:=by have:=hr1.out;omega
 have u1:=(f1.other w.heap.size (by simp) (fun hm=>by simp only[List.mem_append]at hm;rcases hm with hm|hm<;>first|exact g0 hm|exact g4 hm)).trans (heap_alloc_new w _);have z1:w.heap.size<w1.heap.size:=by have:=f1.size;simp at this;omega
 have F1:iC (b0++b4++b5) w w1:=iC.trans (iC.qG (B0 _)) (f1.sub (fun y hy=>by first|exact hy|(simp at hy ⊢;grind)));have q1_0:=cell_of_row _ _ 0 _ _ _ u1;have q1_1:=cell_of_row _ _ 1 _ _ _ u1;have q1_2:=cell_of_row _ _ 2 _ _ _ u1;have q1_3:=cell_of_row _ _ 3 _ _ _ u1;have q1_4:=cell_of_row _ _ 4 _ _ _ u1;have q1_5:=cell_of_row _ _ 5 _ _ _ u1;have q1_6:=cell_of_row _ _ 6 _ _ _ u1;simp only[List.getElem?_toArray,List.getElem?_cons_zero,List.getElem?_cons_succ]at q1_0 q1_1 q1_2 q1_3 q1_4 q1_5 q1_6
 replace t5:=T1.j5 (t5.below (B0 _)) f1 (fun y hy hm=>by
   simp only[List.mem_append,or_assoc]at hm;rcases hm with hm|hm
   ·exact(fun y hy hm=>e0_5 y hm hy) y hy hm
   ·exact(fun y hy hm=>e4_5 y hm hy) y hy hm)
 replace o5:=(o5.below (B0 _)).j5 f1
 go_wp2_with fail
 refine(uS x.workers r1 _ t5 o5 (Nat.le_trans l5 m5) (by omega) (by omega)).mono ?_;rintro _ w2 ⟨r2,rfl,hr2,S1,f2,V1⟩;have p2:0≤r2:=by have:=hr2.out;omega
 have b2_:r2+0≤4611686018427387904:=by have:=hr2.out;omega
 have u2:=(f2.other w.heap.size z1 g5).trans u1;have z2:w.heap.size<w2.heap.size:=by have:=f2.size;omega
 have F2:=F1.trans (f2.sub (cs:=b0++b4++b5) (fun y hy=>by first|exact hy|(simp at hy ⊢;grind)));clear q1_0 q1_1 q1_2 q1_3 q1_4 q1_5 q1_6 u1;have q2_0:=cell_of_row _ _ 0 _ _ _ u2;have q2_1:=cell_of_row _ _ 1 _ _ _ u2;have q2_2:=cell_of_row _ _ 2 _ _ _ u2;have q2_3:=cell_of_row _ _ 3 _ _ _ u2;have q2_4:=cell_of_row _ _ 4 _ _ _ u2;have q2_5:=cell_of_row _ _ 5 _ _ _ u2;have q2_6:=cell_of_row _ _ 6 _ _ _ u2;simp only[List.getElem?_toArray,List.getElem?_cons_zero,List.getElem?_cons_succ]at q2_0 q2_1 q2_2 q2_3 q2_4 q2_5 q2_6
 replace S0:=TN.j5 S0 f2 (fun y hy=>by
   simp only[List.mem_append,or_assoc]at hy;rcases hy with hy|hy
   ·exact e0_5 y hy
   ·exact e4_5 y hy)
 go_wp2_with fail
 go_ret;refine⟨r2,rfl,?_,?_,F2,ho.j5 F2⟩
 ·show _=_;have hcn:x.cnt=x.memory.cnt+cN (x.workers.flatMap aA.enc):=rfl;have h1:=hr1.out;have h2:=hr2.out;omega
 ·have h1:=hr1.out;have h2:=hr2.out;skip
  rw[show r1=k+(x.memory.cnt:Nat) from by omega]at S1;have h:=(TN.append.2 ⟨_,_,_,_,rfl,rfl,S0,(TN.append.2 ⟨_,_,_,_,rfl,rfl,(TN.fI S1 TN.done),(TN.fH (x:=.int .i64 x.active) rfl TN.done)⟩)⟩);simp only[List.append_nil,List.nil_append,List.append_assoc,List.cons_append]at h;unfold bP.tH;simpa only[List.append_nil,List.nil_append,List.append_assoc,List.cons_append]using h
end Go.Proofs.YtgiceoidjipgmaaGreat
