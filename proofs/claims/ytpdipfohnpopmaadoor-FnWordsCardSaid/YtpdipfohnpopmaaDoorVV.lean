
/- The symbolic machine is right: make, stores; all operations that make or change things. -/
import Derived.Test.YtpdipfohnpopmaaDoorVh
set_option linter.unusedSimpArgs false
set_option linter.unusedVariables false
namespace Go.Tr
open Go Go.RowKit
universe u
section
variable {cx:Cx}{β β':Nat->Value}{P:Program}{ti:TI}{n:Nat}{a:Act}{env:Ev}{rs:List Tok}{fr:List aM}{w w':World}{g:Option (Nat×Bool)}{v:SV}
 {dst:Option Nat} {ty:TypeId} {pos:String} {aft:Array Edge} {gd:Option (Nat×Bool)}
theorem iq:∀u:U,(aR u).length<=u.size
 | .int _| .bool| .str| .sl _=>Nat.le_refl _
 | .any=>Nat.zero_le _
 | .pair a b=>by simp only[aR,U.size,qA];have:=iq a;have:=iq b;omega
 | .tree a=>by simp only[aR,U.size,qA,qJ];have:=iq a;omega
theorem jK{w0:World}{F0:aK}:∀(u:U) {R:List aM},(aR u).length=u.size->Inv w0 F0 w R->Inv w0 F0 w (aL (aR u) (enc u (dflt u))::R)
 | .int _,R,_,h| .bool,R,_,h| .str,R,_,h=>h.iR.uE rfl
 | .any,R,hl,h=>by simp[aR,U.size]at hl
 | .sl _,R,_,h=>(h.iR.lu).wQ
 | .pair a b,R,hl,h=>by
  simp only[aR,U.size,qA]at hl;have h1:=iq a;have h2:=iq b;exact(jK a (by omega) (jK b (by omega) h)).dZ
 | .tree a,R,hl,h=>by
  simp only[aR,U.size,qA,qJ]at hl;have h1:Inv w0 F0 w (aL [.slice none 0 0] [.sl 0 []]::R):=(h.iR.lu).wQ;have h2:=(jK a (by omega) h1).dZ;rw[bX];exact h2
theorem ku{w0:World}{F0:aK}{u:U}(hl:(aR u).length=u.size){R:List aM}(h:Inv w0 F0 w R):∀k:Nat,Inv w0 F0 w (aL (List.replicate k (aR u)).flatten ((List.replicate k (dflt u)).flatMap (enc u))::R)
 |0=>h.iR
 |k+1=>by
  have:=jK u hl (ku hl h k);simpa[List.replicate_succ]using this.dZ
theorem l8(zc:Array Value)(s:Nat)(hs:zc.size=s)(hp:0<s):∀k,(List.range (k*s)).map (fun j=>zc[j % zc.size]!)=(List.replicate k zc.toList).flatten
 |0=>by simp
 |k+1=>by
  have e:(k+1)*s=s+k*s:=by rw[Nat.add_mul];omega
  rw[e,List.range_add,qZ,List.replicate_succ,List.flatten_cons,<-l8 zc s hs hp k]
  congr 1
  .apply List.ext_getElem?;intro j;rw[qY]
   by_cases hj:j<s
   .rw[List.getElem?_range hj];simp only[Option.map_some,hs,Nat.mod_eq_of_lt hj];rw[Array.getElem?_toList,Array.getElem?_eq_getElem (by omega)]
    congr 1
    exact getElem!_pos zc j (by omega)
   .rw[List.getElem?_eq_none (by simp;omega),List.getElem?_eq_none (by simp;omega)];rfl
  .rw[List.map_map];apply List.map_congr_left;intro j _;simp only[Function.comp,hs];rw[Nat.add_mod_left]
theorem zI(hti:bE P ti=true){d:Nat}(hd:d<1000000)(hf:au d env rs=true)(hH:Inv cx.w0 cx.F0 w (rs.map (Tok.res cx β)++fr)){t e s:Nat}{u:U}(hl:lk ti t=some (.sl e s u)){z:gI}(hle:lk ti e=some z)(hz:eG ((eH z).map iO) (aR u)=true)(hzl:(aR u).length=s)
  {x y:Operand} {i j:Int} (hx:a.eval x=.int .i64 i) (hy:a.eval y=.int .i64 j) (h0:0<=i) (h1:i<=j) (h2:j<=2097152):
  Ab P cx β fr a w d ⟨dst,.makeSlice t x y,ty,pos,aft,gd⟩ (.sl d) (.row d e s u (List.replicate i.toNat (dflt u)) []::rs):=by
 obtain⟨_,_,hus⟩:=bV hti hl;have hE:=dR hti hl;obtain⟨_,_,hzo⟩:=iG hti hle;rw[dX hz]at hzo;obtain⟨q,zz,k1,k2,k3,k4,k5⟩:=hE.i
 have hzc:zz.cells.toList=aR u:=by
  unfold zeroOf at hzo;rw[k1]at hzo;simp only[Option.bind_some,k2,Option.map_some,Option.some.injEq]at hzo;exact hzo
 have hp:=hE.p;have hs:zz.cells.size=s:=k4
 have hbig:q.bytes*j.toNat<=281474976710656:=by
  have:q.bytes*j.toNat<=1000*2097152:=Nat.mul_le_mul k5 (by omega);omega
 have hrun:(Instr.makeSlice t (.int .i64 i) (.int .i64 j)).run P w=.ok (.slice (some ⟨w.heap.size,0,none⟩) i.toNat j.toNat) (w.alloc (.cells (madeCells zz.cells (j.toNat*q.size)) e)):=by
  refine run_make w t e q zz hE.u k1 k2 .i64 .i64 i j h0 h1 ?_ (by omega);have hj:j=(j.toNat:Int):=by omega
  rw[hj];rw[<-Int.natCast_mul];exact Int.ofNat_le.2 hbig
 have hmade:(madeCells zz.cells (j.toNat*q.size)).toList=(List.replicate j.toNat zz.cells.toList).flatten:=by
  rw[k3];have:=l8 zz.cells s hs hp j.toNat
  rw[<-this];simp[madeCells]
 obtain⟨q1,q2,q3⟩:=vQ (e:=e) (cur:=madeCells zz.cells (j.toNat*q.size)) (m:=j.toNat) (xs:=List.replicate i.toNat (dflt u)) (us:=(List.replicate i.toNat (aR u)).flatten) hd (dK hf) hus (by
   have:maxLen=9223372036854775807:=rfl;omega) (by rw[<-Array.length_toList,hmade];simp[hs]) (by rw[List.length_replicate];omega) (by
   rw[hmade,List.length_replicate,hzc];have e1:j.toNat=i.toNat+(j.toNat-i.toNat):=by omega
   rw[e1,<-List.replicate_append_replicate,List.flatten_append];have e2:(List.replicate i.toNat (aR u)).flatten.length=i.toNat*s:=by simp[hzl]
   rw[<-e2];exact List.take_left) (ku (hzl.trans hus.symm) hH _)
 rw[List.length_replicate]at q1 q2 q3;refine .inl ⟨_,_,_,?_,q1,q2,q3⟩;simp only[execOp,hx,hy,Sem.run_bind,hrun,Result.andThen_ok,Sem.run_pure]
theorem mU:∀{o:Nat} {l cs:List SV} {K:List SV->Prop},setAt o l cs K->K (cs.take o++l++cs.drop (o+l.length))/\o+l.length<=cs.length
 |0,[],cs,K,h=>by unfold setAt at h;simpa using h
 |0,v::l,c::cs,K,h=>by
  unfold setAt at h;obtain⟨h1,h2⟩:=mU h;simp only[List.take_zero,List.nil_append,Nat.zero_add,qI]at h1 h2 |-;exact⟨by simpa using h1,by omega⟩
 |o+1,l,c::cs,K,h=>by
  have h:setAt o l cs fun r=>K (c::r):=by
   cases l<;>(unfold setAt at h;exact h)
  obtain⟨h1,h2⟩:=mU h;refine⟨?_,by simp;omega⟩;have e:o+1+l.length=(o+l.length)+1:=by omega
  rw[e,List.take_succ_cons,List.drop_succ_cons];exact h1
 |0,v::l,[],K,h=>by unfold setAt at h;exact h.elim
 |o+1,[],[],K,h=>by unfold setAt at h;exact h.elim
 |o+1,v::l,[],K,h=>by unfold setAt at h;exact h.elim
theorem ji{w0:World}{F0:aK}{us:aO}{d1 d2:List D}{R:List aM}(h:Inv w0 F0 w (aL us (d1++d2)::R)):∃u1 u2,us=u1++u2/\u1.length=d1.length/\Inv w0 F0 w (aL u1 d1::aL u2 d2::R):=by
 obtain⟨F,⟨h1,h2⟩,_,h3⟩:=h.take1;obtain⟨b1,b2,u1,u2,rfl,rfl,t1,t2⟩:=TN.append.1 h1;have hnd:=List.nodup_append.1 h2.1;exact⟨u1,u2,rfl,t1.length,h3 _ _ b1 b2 (fun y hy=>by simp[hy]) (fun y hy=>by simp[hy]) (fun y hy hm=>hnd.2.2 y hy y hm rfl) ⟨t1,hnd.1,fun y hy=>h2.2 y (by simp[hy])⟩ ⟨t2,hnd.2.1,fun y hy=>h2.2 y (by simp[hy])⟩⟩
theorem yT{u:U}{l:List SV}{K:El u->Prop}(hl:l.length=u.size)(h:mkK u l [] fun y _ _=>K y):∃y,K y/\∀(cx:Cx) (β:Nat->Value) (w w0:World) (F0:aK) (us2:aO) (R:List aM),ah cx β l us2->Inv w0 F0 w R->Inv w0 F0 w (aL us2 (enc u y)::R):=by
 obtain⟨y,l',rs',h1,hs,h2⟩:=jU u h;have hrs:rs'=[]:=List.eq_nil_iff_forall_not_mem.2 fun t ht=>by have:=hs t ht;simp at this
 refine⟨y,h1,fun cx β w w0 F0 us2 R hd hI=> ?_⟩;obtain⟨u1,u2,rfl,e1,_,e3⟩:=h2 cx β w w0 F0 us2 R hd (by simpa using hI);have hl2:=hd.len;rw[qA]at hl2;have:u2=[]:=List.eq_nil_of_length_eq_zero (by omega);subst this;rw[qS];subst hrs;simpa using e3
theorem Bc:∀(u:U) {x:El u} {o:Nat} {l:List SV} {K:El u->Prop},mW u x o l K->∃y,K y/\o+l.length<=u.size/\∀(cx:Cx) (β:Nat->Value) (w w0:World) (F0:aK) (us us2:aO) (R:List aM),ah cx β l us2->Inv w0 F0 w (aL us (enc u x)::R)->Inv w0 F0 w (aL (us.take o++us2++us.drop (o+us2.length)) (enc u y)::R):=by
 have whole:∀(u:U) {x:El u} {o:Nat} {l:List SV} {K:El u->Prop},o=0->l.length=u.size->(mkK u l [] fun y _ _=>K y)->∃y,K y/\o+l.length<=u.size/\∀(cx:Cx) (β:Nat->Value) (w w0:World) (F0:List Nat) (us us2:List Value) (R:List aM),ah cx β l us2->Inv w0 F0 w (aL us (enc u x)::R)->Inv w0 F0 w (aL (us.take o++us2++us.drop (o+us2.length)) (enc u y)::R):=fun u x o l K ho hl h=>by
  subst ho;obtain⟨y,h1,h2⟩:=yT hl h;refine⟨y,h1,by omega,fun cx β w w0 F0 us us2 R hd hI=> ?_⟩
  have hus:us.length=u.size:=by
   obtain⟨F,hp,_⟩:=hI.take1;rw[hp.1.length,aN]
  have:=h2 cx β w w0 F0 us2 R hd hI.tail;rw[List.take_zero,List.nil_append,List.drop_eq_nil_of_le (by have:=hd.len;omega),qS];exact this
 intro u
 induction u with
 |pair a b iha ihb=>
  intro x o l K h;unfold mW at h;cases hc:(Nat.beq o 0&&Nat.beq l.length (U.pair a b).size)with
  |true=>
   rw[hc]at h;rw[qD]at hc;exact whole _ (ak hc.1) (ak hc.2) h
  |false=>
   rw[hc]at h;simp only[qH]at h;cases hlt:Nat.blt o a.size with
   |true=>
    rw[hlt]at h;simp only[qG]at h;cases hle:Nat.ble (o+l.length) a.size with
    |false=>rw[hle]at h;exact h.elim
    |true=>
     rw[hle]at h;have hle':o+l.length<=a.size:=by simpa using hle
     obtain⟨y,h1,_,h3⟩:=iha h;refine⟨(y,x.2),h1,by simp only[U.size];omega,fun cx β w w0 F0 us us2 R hd hI=> ?_⟩;obtain⟨u1,u2,rfl,e1,e2⟩:=ji (d1:=enc a x.1) (d2:=enc b x.2) hI;have e1':u1.length=a.size:=by rw[e1,aN]
     have hl2:=hd.len;have e3:=h3 cx β w w0 F0 u1 us2 _ hd e2;have e4:=e3.dZ;rw[List.take_append_of_le_length (by omega),List.drop_append_of_le_length (by omega)];simpa[enc,qF]using e4
   |false=>
    rw[hlt]at h;simp only[qH]at h
    have hge:a.size<=o:=by
     have:¬o<a.size:=fun h2=>by rw[show Nat.blt o a.size=true by simpa using h2]at hlt;cases hlt
     omega
    obtain⟨y,h1,h2,h3⟩:=ihb h;refine⟨(x.1,y),h1,by simp only[U.size];omega,fun cx β w w0 F0 us us2 R hd hI=> ?_⟩;obtain⟨u1,u2,rfl,e1,e2⟩:=ji (d1:=enc a x.1) (d2:=enc b x.2) hI;have e1':u1.length=a.size:=by rw[e1,aN]
    have e3:=h3 cx β w w0 F0 u2 us2 _ hd e2.swap;have e4:=e3.swap.dZ;have q1:(u1++u2).take o=u1++u2.take (o-a.size):=by rw[List.take_append,qN (by omega),e1']
    have q2:(u1++u2).drop (o+us2.length)=u2.drop (o-a.size+us2.length):=by
     rw[List.drop_append,List.drop_eq_nil_of_le (by omega),List.nil_append,e1']
     congr 1;omega
    rw[q1,q2];simpa[enc,qF]using e4
 |int k=>
  intro x o l K h;unfold mW at h;cases hc:(Nat.beq o 0&&Nat.beq l.length 1)with
  |false=>rw[hc]at h;exact h.elim
  |true=>rw[hc]at h;rw[qD]at hc;exact whole _ (ak hc.1) (ak hc.2) h
 |bool=>
  intro x o l K h;unfold mW at h;cases hc:(Nat.beq o 0&&Nat.beq l.length 1)with
  |false=>rw[hc]at h;exact h.elim
  |true=>rw[hc]at h;rw[qD]at hc;exact whole _ (ak hc.1) (ak hc.2) h
 |str=>
  intro x o l K h;unfold mW at h;cases hc:(Nat.beq o 0&&Nat.beq l.length 1)with
  |false=>rw[hc]at h;exact h.elim
  |true=>rw[hc]at h;rw[qD]at hc;exact whole _ (ak hc.1) (ak hc.2) h
 |any=>
  intro x o l K h;unfold mW at h;cases hc:(Nat.beq o 0&&Nat.beq l.length 1)with
  |false=>rw[hc]at h;exact h.elim
  |true=>rw[hc]at h;rw[qD]at hc;exact whole _ (ak hc.1) (ak hc.2) h
 |tree e=>
  intro x o l K h;unfold mW at h;exact h.elim
 |sl e=>
  intro x o l K h;unfold mW at h;cases hc:(Nat.beq o 0&&Nat.beq l.length 1)with
  |false=>rw[hc]at h;exact h.elim
  |true=>rw[hc]at h;rw[qD]at hc;exact whole _ (ak hc.1) (ak hc.2) h
theorem Az{u:U}{l:List SV}{rs:List Tok}{K:El u->List Tok->Prop}(hl:l.length=u.size)(h:mkK u l rs fun y _ rs'=>K y rs'):∃y rs',K y rs'/\∀(cx:Cx) (β:Nat->Value) (w w0:World) (F0:aK) (us2:aO) (R:List aM),ah cx β l us2->Inv w0 F0 w (rs.map (Tok.res cx β)++R)->Inv w0 F0 w (aL us2 (enc u y)::(rs'.map (Tok.res cx β)++R)):=by
 obtain⟨y,l',rs',h1,hs,h2⟩:=jU u h;refine⟨y,rs',h1,fun cx β w w0 F0 us2 R hd hI=> ?_⟩;obtain⟨u1,u2,rfl,e1,_,e3⟩:=h2 cx β w w0 F0 us2 R hd hI;have hl2:=hd.len;rw[qA]at hl2;have:u2=[]:=List.eq_nil_of_length_eq_zero (by omega);subst this;rw[qS];exact e3
theorem zF:∀(u:U) {x:El u} {o:Nat} {l:List SV} {rs:List Tok} {K:El u->List Tok->Prop},gW u x o l rs K->∃y rs',K y rs'/\o+l.length<=u.size/\∀(cx:Cx) (β:Nat->Value) (w w0:World) (F0:aK) (us us2:aO) (R:List aM),ah cx β l us2->Inv w0 F0 w (aL us (enc u x)::(rs.map (Tok.res cx β)++R))->Inv w0 F0 w (aL (us.take o++us2++us.drop (o+us2.length)) (enc u y)::(rs'.map (Tok.res cx β)++R)):=by
 have whole:∀(u:U) {x:El u} {o:Nat} {l:List SV} {rs:List Tok} {K:El u->List Tok->Prop},o=0->l.length=u.size->(mkK u l rs fun y _ rs'=>K y rs')->∃y rs',K y rs'/\o+l.length<=u.size/\∀(cx:Cx) (β:Nat->Value) (w w0:World) (F0:List Nat) (us us2:List Value) (R:List aM),ah cx β l us2->Inv w0 F0 w (aL us (enc u x)::(rs.map (Tok.res cx β)++R))->Inv w0 F0 w (aL (us.take o++us2++us.drop (o+us2.length)) (enc u y)::(rs'.map (Tok.res cx β)++R)):=by
  intro u x o l rs K ho hl h;subst ho;obtain⟨y,rs',h1,h2⟩:=Az hl h;refine⟨y,rs',h1,by omega,fun cx β w w0 F0 us us2 R hd hI=> ?_⟩
  have hus:us.length=u.size:=by
   obtain⟨F,hp,_⟩:=hI.take1;rw[hp.1.length,aN]
  have:=h2 cx β w w0 F0 us2 R hd hI.tail;rw[List.take_zero,List.nil_append,List.drop_eq_nil_of_le (by have:=hd.len;omega),qS];exact this
 intro u
 induction u with
 |pair a b iha ihb=>
  intro x o l rs K h;unfold gW at h;cases hc:(Nat.beq o 0&&Nat.beq l.length (U.pair a b).size)with
  |true=>
   rw[hc]at h;rw[qD]at hc;exact whole _ (ak hc.1) (ak hc.2) h
  |false=>
   rw[hc]at h;simp only[qH]at h;cases hlt:Nat.blt o a.size with
   |true=>
    rw[hlt]at h;simp only[qG]at h;cases hle:Nat.ble (o+l.length) a.size with
    |false=>rw[hle]at h;exact h.elim
    |true=>
     rw[hle]at h;have hle':o+l.length<=a.size:=by simpa using hle
     obtain⟨y,rs',h1,_,h3⟩:=iha h;refine⟨(y,x.2),rs',h1,by simp only[U.size];omega,fun cx β w w0 F0 us us2 R hd hI=> ?_⟩;obtain⟨u1,u2,rfl,e1,e2⟩:=ji (d1:=enc a x.1) (d2:=enc b x.2) hI;have e1':u1.length=a.size:=by rw[e1,aN]
     have hl2:=hd.len;have e3:=h3 cx β w w0 F0 u1 us2 (aL u2 (enc b x.2)::R) hd (e2.perm ((List.perm_middle.symm).cons _));have e4:=(e3.perm ((List.perm_middle).cons _)).dZ;rw[List.take_append_of_le_length (by omega),List.drop_append_of_le_length (by omega)];simpa[enc,qF]using e4
   |false=>
    rw[hlt]at h;simp only[qH]at h
    have hge:a.size<=o:=by
     have:¬o<a.size:=fun h2=>by rw[show Nat.blt o a.size=true by simpa using h2]at hlt;cases hlt
     omega
    obtain⟨y,rs',h1,h2,h3⟩:=ihb h;refine⟨(x.1,y),rs',h1,by simp only[U.size];omega,fun cx β w w0 F0 us us2 R hd hI=> ?_⟩;obtain⟨u1,u2,rfl,e1,e2⟩:=ji (d1:=enc a x.1) (d2:=enc b x.2) hI;have e1':u1.length=a.size:=by rw[e1,aN]
    have e3:=h3 cx β w w0 F0 u2 us2 (aL u1 (enc a x.1)::R) hd (e2.swap.perm ((List.perm_middle.symm).cons _));have e4:=((e3.perm ((List.perm_middle).cons _)).swap).dZ;have q1:(u1++u2).take o=u1++u2.take (o-a.size):=by rw[List.take_append,qN (by omega),e1']
    have q2:(u1++u2).drop (o+us2.length)=u2.drop (o-a.size+us2.length):=by
     rw[List.drop_append,List.drop_eq_nil_of_le (by omega),List.nil_append,e1']
     congr 1;omega
    rw[q1,q2];simpa[enc,qF]using e4
 |int k=>
  intro x o l rs K h;unfold gW at h;cases hc:(Nat.beq o 0&&Nat.beq l.length 1)with
  |false=>rw[hc]at h;exact h.elim
  |true=>rw[hc]at h;rw[qD]at hc;exact whole _ (ak hc.1) (ak hc.2) h
 |bool=>
  intro x o l rs K h;unfold gW at h;cases hc:(Nat.beq o 0&&Nat.beq l.length 1)with
  |false=>rw[hc]at h;exact h.elim
  |true=>rw[hc]at h;rw[qD]at hc;exact whole _ (ak hc.1) (ak hc.2) h
 |str=>
  intro x o l rs K h;unfold gW at h;cases hc:(Nat.beq o 0&&Nat.beq l.length 1)with
  |false=>rw[hc]at h;exact h.elim
  |true=>rw[hc]at h;rw[qD]at hc;exact whole _ (ak hc.1) (ak hc.2) h
 |any=>
  intro x o l rs K h;unfold gW at h;cases hc:(Nat.beq o 0&&Nat.beq l.length 1)with
  |false=>rw[hc]at h;exact h.elim
  |true=>rw[hc]at h;rw[qD]at hc;exact whole _ (ak hc.1) (ak hc.2) h
 |sl e=>
  intro x o l rs K h;unfold gW at h;cases hc:(Nat.beq o 0&&Nat.beq l.length 1)with
  |false=>rw[hc]at h;exact h.elim
  |true=>rw[hc]at h;rw[qD]at hc;exact whole _ (ak hc.1) (ak hc.2) h
 |tree e=>
  intro x o l rs K h;unfold gW at h;exact h.elim
theorem wm{q:Nat}{e:TypeId}{s:Nat}{u:U}{xs:List (El u)}{pre:aO}{b m c:Nat}(hb:β q=.slice (some ⟨b,0,none⟩) m c){i o:Nat}(hi:i<m){y:El u}{us2:aO}(hle:o+us2.length<=u.size){fr':List aM}(H:Inv cx.w0 cx.F0 w (Tok.res cx β (.row q e s u xs pre)::fr))
  (hy:∀us X,∀w':World,Inv cx.w0 cx.F0 w' (aL us (enc u (xs.getD i (dflt u)))::X::fr)->Inv cx.w0 cx.F0 w' (aL (us.take o++us2++us.drop (o+us2.length)) (enc u y)::X::fr')):
  (∃cur,w.heap[b]? =some (.cells cur e (0,0))/\i*s+o+us2.length<=cur.size)/\Inv cx.w0 cx.F0 (w.setCells b (i*s+o) us2) (Tok.res cx β (.row q e s u (xs.set i y) [])::fr'):=by
 obtain⟨hus,h1⟩:=dh H;have h2:=h1.kU;rw[hb]at h2
 have hm:xs.length=m:=by
  obtain⟨F,⟨bs,us,_,hg⟩,_⟩:=h2.take1;obtain⟨A,c',bs',e1,_⟩:=hg.res (by rw[aC,hus]);injection e1 with _ e1 _
  exact e1.symm
 rw[hm]at h2;obtain⟨b',c',x,us,hv,_,hx,h3⟩:=h2.open_ (fun x=>(aN u x).trans hus) hm hi;injection hv with hA _ hc
 injection hA with hA
 injection hA with hb' _
 subst hb' hc;have hxd:xs.getD i (dflt u)=x:=by rw[qC,hx];rfl
 have hl1:((xs.take i).flatMap (enc u)).length=i*s:=take_len _ s (fun x=>(aN u x).trans hus) (by omega)
 have hul:us.length=u.size:=by
  obtain⟨F,hp,_⟩:=h3.mem 1 rfl;rw[hp.length,aN]
 obtain⟨cur,hr,hcs⟩:=h3.qd 0 rfl hl1;refine⟨⟨cur,hr,by omega⟩,?_⟩;have h4:=h3.qc 0 rfl hl1 (j:=o) (vs:=us2) (by simpa using(by omega:o+us2.length<=us.length)) rfl
 have h5:Inv cx.w0 cx.F0 (w.setCells b (i*s+o) us2) (aL us (enc u (xs.getD i (dflt u)))::xG b c e s m ((xs.take i).flatMap (enc u)) (us.take o++us2++us.drop (o+us2.length)) ((xs.drop (i+1)).flatMap (enc u))::fr):=by
  rw[hxd];exact Inv.swap h4
 have h6:=Inv.swap (hy us _ _ h5);have h7:=(h6.BG (by omega)).nR;rw[<-hb]at h7;refine h7.weak fun F hp=>⟨F,fun _ h=>h,hus,?_⟩
 rw[List.length_set,hm];exact hp
theorem eO.app{w0:World}{F0:aK}{d1 d2:List D}{u1 u2:aO}(h:eO w0 F0 d1 u1)(k:eO w0 F0 d2 u2):eO w0 F0 (d1++d2) (u1++u2):=by
 obtain⟨b1,h1,h2⟩:=h;obtain⟨b2,k1,k2⟩:=k
 exact⟨b1++b2,TN.append.2 ⟨b1,b2,u1,u2,rfl,rfl,h1,k1⟩,fun b hb=>by
  rcases qT.1 hb with hb|hb
  .exact h2 b hb
  .exact k2 b hb⟩
theorem eO.one{w0:World}{F0:aK}{d:D}{v:Value}(h:dB w0 F0 d v):eO w0 F0 [d] [v]:=by
 obtain⟨bs,h1,h2⟩:=h;refine⟨bs,?_,h2⟩;unfold TN;exact⟨bs,[],v,[],rfl,by simp,h1,by unfold TN;exact⟨rfl,rfl⟩⟩
theorem dB.EI{w0:World}{F0:aK}{x:Value}(h:x.oneCell'=true):dB w0 F0 (.v x) x:=⟨[],T1.v.2 ⟨rfl,rfl,h⟩,by simp⟩
theorem pU:∀(u:U) {l:List SV} {K:El u->List SV->Prop},qz u l K->∃x l',K x l'/\∀(cx:Cx) (β:Nat->Value) (us:aO),ah cx β l us->∃u1 u2,us=u1++u2/\eO cx.w0 cx.F0 (enc u x) u1/\ah cx β l' u2
 | .int k,[],K,h=>by unfold qz at h;exact h.elim
 | .int k,c::l,K,h=>by
  unfold qz at h;split at h
  .rename_i k' i;cases hk:(k'==k)with
   |false=>rw[hk]at h;exact h.elim
   |true=>
    rw[hk]at h;have hk:=eq_of_beq hk;subst hk;refine⟨i,l,h,fun cx β us hd=> ?_⟩;unfold ah at hd;obtain⟨v,vs,rfl,h1,h2⟩:=hd;rw[ay h1];exact⟨[.int k' i],vs,rfl,eO.one (dB.EI rfl),h2⟩
  .exact h.elim
 | .bool,[],K,h=>by unfold qz at h;exact h.elim
 | .bool,c::l,K,h=>by
  unfold qz at h;split at h
  .rename_i b;refine⟨b,l,h,fun cx β us hd=> ?_⟩;unfold ah at hd;obtain⟨v,vs,rfl,h1,h2⟩:=hd;rw[bL h1];exact⟨[.bool b],vs,rfl,eO.one (dB.EI rfl),h2⟩
  .exact h.elim
 | .str,[],K,h=>by unfold qz at h;exact h.elim
 | .str,c::l,K,h=>by
  unfold qz at h;split at h
  .rename_i x;refine⟨x,l,h,fun cx β us hd=> ?_⟩;unfold ah at hd;obtain⟨v,vs,rfl,h1,h2⟩:=hd;unfold Den at h1;obtain⟨rfl,h3⟩:=h1;exact⟨[.string x],vs,rfl,eO.one (dB.EI h3),h2⟩
  .exact h.elim
 | .any,l,K,h=>by cases l<;>(unfold qz at h;exact h.elim)
 | .pair a b,l,K,h=>by
  have h':qz a l fun x l'=>qz b l' fun y l''=>K (x,y) l'':=by unfold qz at h;exact h
  obtain⟨x,l1,h1,h2⟩:=pU a h';obtain⟨y,l2,h3,h4⟩:=pU b h1;refine⟨(x,y),l2,h3,fun cx β us hd=> ?_⟩;obtain⟨u1,u2,rfl,k1,k2⟩:=h2 cx β us hd;obtain⟨u3,u4,rfl,k3,k4⟩:=h4 cx β u2 k2;refine⟨u1++u3,u4,by simp,?_,k4⟩;unfold enc;exact k1.app k3
 | .sl e,[],K,h=>by unfold qz at h;exact h.elim
 | .sl e,c::l,K,h=>by
  unfold qz at h;split at h
  .rename_i e' xs;split at h
   .rename_i hu;have hue:=aB hu;subst hue;refine⟨_,l,h,fun cx β us hd=> ?_⟩;unfold ah at hd;obtain⟨v,vs,rfl,h1,h2⟩:=hd;unfold Den at h1;exact⟨[v],vs,rfl,eO.one h1,h2⟩
   .exact h.elim
  .refine⟨_,l,h,fun cx β us hd=> ?_⟩;unfold ah at hd;obtain⟨v,vs,rfl,h1,h2⟩:=hd;unfold Den at h1;obtain⟨rfl,_⟩:=h1;exact⟨[.slice none 0 0],vs,rfl,eO.one ⟨[],T1.empty none,by simp⟩,h2⟩
  .exact h.elim
 | .tree e,l,K,h=>by
  unfold qz at h;obtain⟨x,l1,h1,h2⟩:=pU e h;split at h1
  .rename_i c l2;split at h1
   .rename_i e' xs;split at h1
    .rename_i hu;have hue:=aB hu;subst hue;refine⟨_,l2,h1,fun cx β us hd=> ?_⟩;obtain⟨u1,u2,rfl,k1,k2⟩:=h2 cx β us hd;unfold ah at k2;obtain⟨v,vs,rfl,k3,k4⟩:=k2;unfold Den at k3;exact⟨u1++[v],vs,by simp,by rw[bX];exact k1.app (eO.one k3),k4⟩
    .exact h1.elim
   .refine⟨_,l2,h1,fun cx β us hd=> ?_⟩;obtain⟨u1,u2,rfl,k1,k2⟩:=h2 cx β us hd;unfold ah at k2;obtain⟨v,vs,rfl,k3,k4⟩:=k2;unfold Den at k3;obtain⟨rfl,_⟩:=k3;exact⟨u1++[.slice none 0 0],vs,by simp,by rw[bX];exact k1.app (eO.one ⟨[],T1.empty none,by simp⟩),k4⟩
   .exact h1.elim
  .exact h1.elim
def chunks(s:Nat):Nat->List Value->List (List Value)
 |0,_=>[]
 |n+1,us=>us.take s::chunks s n (us.drop s)
def fC(s:Nat)(l:List Value):List D:=(l.take s++List.replicate (s-l.length) undef).map D.v
theorem uf(s:Nat)(l:aO):(fC s l).length=s:=by
 unfold fC;simp only[qV,qA,List.length_take,List.length_replicate];omega
theorem Bu{s:Nat}{l:aO}(h:l.length=s):fC s l=l.map D.v:=by
 unfold fC;rw[qN (by omega),h,Nat.sub_self,List.replicate_zero,qS]
theorem lT(s:Nat):∀(n:Nat) (us:aO),(chunks s n us).length=n
 |0,_=>rfl
 |n+1,us=>by simp[chunks,lT s n]
theorem o8{s:Nat}:∀{cs:List (List Value)},(∀l∈cs,l.length=s)->cs.flatMap (fC s)=cs.flatten.map D.v
 |[],_=>rfl
 |l::cs,h=>by
  rw[qU,List.flatten_cons,qZ,Bu (h l (by simp)),o8 fun l hl=>h l (by simp[hl])]
theorem kG{u:U}{s:Nat}(hus:u.size=s):∀(xs:List (El u)) {us:aO},ah cx β (List.flatMap (aW u) xs) us->F2 (fun x l=>ah cx β (aW u x) l) xs (chunks s xs.length us)/\(chunks s xs.length us).flatten=us
 |[],us,h=>by
  unfold List.flatMap ah at h;subst h;exact⟨.nil,rfl⟩
 |x::xs,us,h=>by
  rw[qU]at h;have hl:(aW u x).length=s:=(bS u x).trans hus;have h1:=h.take s;rw[List.take_append_of_le_length (by omega),qN (by omega)]at h1;have h2:=h.drop s;rw[List.drop_append,List.drop_eq_nil_of_le (by omega),List.nil_append,hl,Nat.sub_self,List.drop_zero]at h2;obtain⟨k1,k2⟩:=kG hus xs h2;refine⟨.cons h1 k1,?_⟩;show us.take s++(chunks s xs.length (us.drop s)).flatten=us;rw[k2,List.take_append_drop]
theorem nV{u:U}:∀{xs:List (El u)} {cs:List (List Value)},F2 (fun x l=>ah cx β (aW u x) l) xs cs->ah cx β (List.flatMap (aW u) xs) cs.flatten
 |[],[],_=>by unfold List.flatMap ah;rfl
 |x::xs,l::cs,.cons h1 h2=>by
  rw[qU,List.flatten_cons];exact h1.app (nV h2)
theorem yA{α γ:Type}{R:α->γ->Prop}{y:α}{z:γ}(hr:R y z):∀{l:List α} {m:List γ} (i:Nat),F2 R l m->F2 R (l.set i y) (m.set i z)
 |[],[],_,_=>.nil
 |_::_,_::_,0,.cons h1 h2=>.cons hr h2
 |_::_,_::_,i+1,.cons h1 h2=>.cons h1 (yA hr i h2)
theorem oV{u:U}{s:Nat}(hus:u.size=s):∀{xs:List (El u)} {cs:List (List Value)},F2 (fun x l=>ah cx β (aW u x) l) xs cs->∀l∈cs,l.length=s
 |[],[],_,l,hl=>by simp at hl
 |x::xs,c::cs,.cons h1 h2,l,hl=>by
  rcases List.mem_cons.1 hl with rfl|hl
  .rw[h1.len,bS,hus]
  .exact oV hus h2 l hl
theorem Ak{q:Nat}{e:TypeId}{s:Nat}{u:U}{xs:List (El u)}{b m c:Nat}(hb:β q=.slice (some ⟨b,0,none⟩) m c){i:Nat}(hi:i<m){y:El u}{us2:aO}(hD:ah cx β (aW u y) us2)(h1:us2.all (·.oneCell')=true)(H:Inv cx.w0 cx.F0 w (Tok.res cx β (.dat q e s u xs)::fr)):
  (∃cur,w.heap[b]? =some (.cells cur e (0,0))/\i*s+us2.length<=cur.size)/\Inv cx.w0 cx.F0 (w.setCells b (i*s) us2) (Tok.res cx β (.dat q e s u (xs.set i y))::fr):=by
 obtain⟨F,⟨hus,us,hDx,hone,hgx⟩,q5,_⟩:=Inv.take1 (r:=Tok.res cx β (.dat q e s u xs)) H;have hg0:Inv cx.w0 cx.F0 w (kD (β q) e s xs.length (us.map D.v) []::fr):=q5 _ F (fun _ h=>h) hgx;obtain⟨k1,k2⟩:=kG hus xs hDx;have k3:=oV hus k1;have h2:=hg0.kU;have hfl:us.map D.v=(chunks s xs.length us).flatMap (fC s):=by rw[o8 k3,k2]
 rw[hfl,hb]at h2
 have hm:xs.length=m:=by
  obtain⟨F,⟨bs,us,_,hg⟩,_⟩:=h2.take1;obtain⟨A,c',bs',e1,_⟩:=hg.res (by rw[<-hfl,qV,hDx.len,jm (aW u) s (fun x=>(bS u x).trans hus)]);injection e1 with _ e1 _
  exact e1.symm
 have hcl:(chunks s xs.length us).length=m:=(lT s _ us).trans hm;obtain⟨cs,hcs⟩:∃cs,cs=chunks s xs.length us:=⟨_,rfl⟩;rw[<-hcs]at h2 hcl k1 k3;rw[hm]at h2;obtain⟨b',c',x,us0,hv,_,hx,h3⟩:=h2.open_ (uf s) hcl hi;injection hv with hA _ hc
 injection hA with hA
 injection hA with hb' _
 subst hb' hc;have hl1:((cs.take i).flatMap (fC s)).length=i*s:=take_len _ s (uf s) (by omega)
 have hul:us0.length=s:=by
  obtain⟨F,hp,_⟩:=h3.mem 1 rfl;rw[hp.length,uf]
 have hl2:us2.length=s:=by rw[hD.len,bS,hus]
 obtain⟨cur,hr,hcz⟩:=h3.qd 0 rfl hl1;refine⟨⟨cur,hr,by omega⟩,?_⟩;have h4:=h3.qc 0 rfl hl1 (j:=0) (vs:=us2) (us':=us2) (by simp;omega) (by rw[List.take_zero,List.nil_append,Nat.zero_add,List.drop_eq_nil_of_le (by omega),qS]);rw[Nat.add_zero]at h4;have h5:Inv cx.w0 cx.F0 (w.setCells b (i*s) us2) (aL us0 (fC s x)::xG b c e s m ((cs.take i).flatMap (fC s)) us2 ((cs.drop (i+1)).flatMap (fC s))::fr):=Inv.swap h4;have h6:Inv cx.w0 cx.F0 (w.setCells b (i*s) us2) (aL us2 (fC s us2)::xG b c e s m ((cs.take i).flatMap (fC s)) us2 ((cs.drop (i+1)).flatMap (fC s))::fr):=h5.tail.new (ss:=[aL us2 (fC s us2)]) ⟨iH.refl _ _,[],⟨[],[],rfl,⟨by rw[Bu hl2];exact zM h1,Own.nil _ _⟩,rfl,by simp⟩,by simp⟩
 have h7:=(h6.swap.BG (by omega)).nR;rw[<-hb]at h7;have k4:=yA (R:=fun x l=>ah cx β (aW u x) l) hD i k1;have k5:=oV hus k4;refine h7.weak fun F hp=>⟨F,fun _ h=>h,hus,(cs.set i us2).flatten,nV k4,?_,?_⟩
 .rw[List.all_eq_true];intro z hz;obtain⟨l,hl,hzl⟩:=List.mem_flatten.1 hz;rcases List.mem_or_eq_of_mem_set hl with hl|rfl
  .exact List.all_eq_true.1 hone z (by rw[<-k2,<-hcs];exact List.mem_flatten.2 ⟨l,hl,hzl⟩)
  .exact List.all_eq_true.1 h1 z hzl
 .rw[List.length_set,hm,<-o8 k5];exact hp
theorem TN.EF{w:World}{m lo:Nat}{l r es:List D}{bs:aK}{us:aO}(h:TN w (l++.sl m es::r) bs us)(ho:Own lo w bs):
  ∃A2 c2 b2,us[l.length]? =some (.slice A2 m c2)/\T1 w (.sl m es) b2 (.slice A2 m c2)/\Own lo w b2/\(∀y∈b2,y∈bs)/\
   ∀w' es',iH b2 w w'->T1 w' (.sl m es') b2 (.slice A2 m c2)->TN w' (l++.sl m es'::r) bs us:=by
 obtain⟨b1,b',u1,u',rfl,rfl,t1,ht⟩:=TN.append.1 h;obtain⟨b2,b3,u,u3,rfl,rfl,t2,t3⟩:=TN.cons.1 ht;have l1:=t1.length;obtain⟨A2,c2,rfl,hm1,hm2⟩:=t2.slice;have hnd:=ho.1;rw[List.nodup_append,List.nodup_append]at hnd;obtain⟨n1,⟨n2,n3,n23⟩,n123⟩:=hnd;refine⟨A2,c2,b2,by rw[qL (by omega),l1];simp,t2,⟨n2,fun y hy=>ho.2 y (by simp[hy])⟩,fun y hy=>by simp[hy],fun w' es' hon ht'=> ?_⟩;have k1:Keeps w w' b1:=⟨hon.size,fun y hy=>hon.other y (t1.lt y hy) (fun hx=>n123 y hy y (by simp[hx]) rfl)⟩;have k3:Keeps w w' b3:=⟨hon.size,fun y hy=>hon.other y (t3.lt y hy) (fun hx=>n23 y hx y hy rfl)⟩
 exact TN.append.2 ⟨b1,_,u1,_,rfl,rfl,t1.keep k1,TN.cons.2 ⟨b2,b3,_,u3,rfl,rfl,ht',t3.keep k3⟩⟩
theorem yV:∀(u:U) {x:El u} {o:Nat} {K:(e:U)->List (El e)->(List (El e)->El u)->Prop},mq u x o K->∃(e:U) (ys:List (El e)) (F:List (El e)->El u),K e ys F/\F ys=x/\o<u.size/\∃l r:List D,l.length=o/\∀zs:List (El e),enc u (F zs)=l++.sl (List.length (α:=El e) zs) (List.flatMap (enc e) zs)::r:=by
 intro u
 induction u with
 |pair a b iha ihb=>
  intro x o K h;unfold mq at h;cases hlt:Nat.blt o a.size with
  |true=>
   rw[hlt]at h;obtain⟨e,ys,F,h1,h2,h5,l,r,h3,h4⟩:=iha h;exact⟨e,ys,_,h1,by rw[h2],by simp only[U.size];omega,l,r++enc b x.2,h3,fun zs=>by simp[enc,h4]⟩
  |false=>
   rw[hlt]at h
   have hge:a.size<=o:=by
    have:¬o<a.size:=fun h2=>by rw[show Nat.blt o a.size=true by simpa using h2]at hlt;cases hlt
    omega
   obtain⟨e,ys,F,h1,h2,h5,l,r,h3,h4⟩:=ihb h;exact⟨e,ys,_,h1,by rw[h2],by simp only[U.size];omega,enc a x.1++l,r,by rw[qA,aN,h3];omega,fun zs=>by simp[enc,h4]⟩
 |sl e=>
  intro x o K h;unfold mq at h;cases hb:Nat.beq o 0 with
  |false=>rw[hb]at h;exact h.elim
  |true=>
   rw[hb]at h;have:=ak hb;subst this;exact⟨e,x,id,h,rfl,Nat.one_pos,[],[],rfl,fun zs=>rfl⟩
 |int _|bool|str|any|tree _=>intro x o K h;unfold mq at h;exact h.elim
theorem o9:∀(u:U) (y:El u),bf u=true->∀d∈enc u y,∃x,d=.v x
 | .int _,y,_,d,hd| .bool,y,_,d,hd| .str,y,_,d,hd| .any,y,_,d,hd=>⟨_,by simpa[enc]using hd⟩
 | .sl _,y,h,_,_=>by cases h
 | .tree _,y,h,_,_=>by cases h
 | .pair a b,y,h,d,hd=>by
  unfold bf at h;rw[qD]at h;simp only[enc,qT]at hd;rcases hd with hd|hd
  .exact o9 a y.1 h.1 d hd
  .exact o9 b y.2 h.2 d hd
theorem AJ{cur us2:aO}{p0 p lo hi:Nat}(h1:lo<=p0)(h2:p0+us2.length<=hi)(h3:p0+us2.length<=cur.length)(hp:p<lo\/hi<=p):(cur.take p0++us2++cur.drop (p0+us2.length))[p]? =cur[p]? :=by
 simp only[List.getElem?_append,qA,List.length_take,List.getElem?_drop,List.getElem?_take]
 grind
theorem Ct{cur usE us2:aO}{B j p:Nat}(h1:j+us2.length<=usE.length)(h2:B+usE.length<=cur.length)(h3:∀d,d<usE.length->cur[B+d]? =usE[d]?)(hp:p<usE.length):
  (cur.take (B+j)++us2++cur.drop (B+j+us2.length))[B+p]? =(usE.take j++us2++usE.drop (j+us2.length))[p]? :=by
 have h4:=h3 p hp;simp only[List.getElem?_append,qA,List.length_take,List.getElem?_drop,List.getElem?_take]
 grind
theorem yB{u:U}{x y:El u}{o:Nat}{us us2:aO}(hf:bf u=true)(ht:TN w (enc u x) [] us)
  (hy:∀R,Inv w [] w (aL us (enc u x)::R)->Inv w [] w (aL (us.take o++us2++us.drop (o+us2.length)) (enc u y)::R)) (w':World):TN w' (enc u y) [] (us.take o++us2++us.drop (o+us2.length)):=by
 have h0:Inv w [] w (aL us (enc u x)::[]):=(Inv.uS w).new (ss:=[aL us (enc u x)]) ⟨iH.refl _ _,[],⟨[],[],rfl,⟨ht,Own.nil _ _⟩,rfl,by simp⟩,by simp⟩;obtain⟨F,⟨h1,_⟩,_⟩:=(hy [] h0).take1;have:=gP u y hf h1;subst this;exact(h1.flat (o9 u y hf)).2 w'
theorem yX{q:Nat}{e:TypeId}{s:Nat}{u:U}{xs:List (El u)}{pre:aO}{k:Int}{o n b oo c:Nat}{hdr:Value}(hk:sG xs pre k s o hdr)(hh:hdr=.slice (some ⟨b,oo,none⟩) n c){e2:U}{ys:List (El e2)}{F:List (El e2)->El u}(hFx:F ys=elt (dflt u) xs k)
  {l r:List D} (hlo:l.length=o) (hF:∀zs:List (El e2),enc u (F zs)=l++.sl zs.length (zs.flatMap (enc e2))::r) (hfl:bf e2=true) {i:Int} (hi0:0<=i) (hin:i<(n:Nat)) {j:Nat} {y:El e2} {us2:List Value} (hle:j+us2.length<=e2.size)
  (hy:∀us,TN w (enc e2 (elt (dflt e2) ys i)) [] us->∀w',TN w' (enc e2 y) [] (us.take j++us2++us.drop (j+us2.length))) (H:Inv cx.w0 cx.F0 w (Tok.res cx β (.row q e s u xs pre)::fr)):
  (∃cur T,w.heap[b]? =some (.cells cur T (0,0))/\oo+i.toNat*e2.size+j+us2.length<=cur.size)/\Inv cx.w0 cx.F0 (w.setCells b (oo+i.toNat*e2.size+j) us2) (Tok.res cx β (.row q e s u (xs.set k.toNat (F (ys.set i.toNat y))) pre)::fr):=by
 obtain⟨hk0,hk1,hk2⟩:=hk;obtain⟨G,hG,_,hback⟩:=Inv.frame (pre:=[Tok.res cx β (.row q e s u xs pre)]) (rest:=fr) H;obtain⟨G1,G2,rfl,⟨hus,bs,us,rfl,hg,hpre⟩,rfl,_⟩:=hG;have hkx:k.toNat<xs.length:=by omega
 have hxk:xs[k.toNat]=F ys:=by rw[hFx];unfold elt;rw[qC,qB hkx];rfl
 have split:∀z:El u,(xs.set k.toNat z).flatMap (enc u)=(xs.take k.toNat).flatMap (enc u)++(enc u z++(xs.drop (k.toNat+1)).flatMap (enc u)):=fun z=>(tq hkx).symm
 have hx0:xs.flatMap (enc u)=(xs.take k.toNat).flatMap (enc u)++(enc u (F ys)++(xs.drop (k.toNat+1)).flatMap (enc u)):=by
  have:=split xs[k.toNat];rw[List.set_getElem_self]at this;rw[this,hxk]
 have hform:∀zs:List (El e2),(xs.take k.toNat).flatMap (enc u)++(enc u (F zs)++(xs.drop (k.toNat+1)).flatMap (enc u))=((xs.take k.toNat).flatMap (enc u)++l)++.sl zs.length (zs.flatMap (enc e2))::(r++(xs.drop (k.toNat+1)).flatMap (enc u)):=fun zs=>by
  rw[hF zs];simp
 have hll:((xs.take k.toNat).flatMap (enc u)++l).length=k.toNat*s+o:=by
  rw[qA,take_len _ s (fun x=>(aN u x).trans hus) hkx,hlo]
 have htn:=hg.tn;rw[hx0,hform ys]at htn;obtain⟨A2,c2,b2,q1,q2,q3,q4,q5⟩:=htn.EF hg.own
 have hhd:hdr=.slice A2 ys.length c2:=by
  rw[hll]at q1;obtain⟨tl,htl⟩:=hpre;rw[<-htl,qM (qE.1 hk2).1,hk2]at q1;injection q1
 rw[hh]at hhd;injection hhd with g1 g2 g3
 subst g1 g2 g3;have hil:i.toNat<ys.length:=by omega
 obtain⟨b',off,p1,p2,p3,usE,hA,hb2,hblt,hca,htE,hfoc⟩:=T1.focus (aN e2) q2 rfl hil;injection hA with hA
 injection hA with hA1 hA2
 subst hA1 hA2;have hyi:ys[i.toNat]=elt (dflt e2) ys i:=by unfold elt;rw[qC,qB hil];rfl
 rw[hyi]at htE;have hp2:=gP e2 _ hfl htE;subst hp2;have hbm:b∈b2:=by rw[hb2];simp
 obtain⟨_,cur,T,hrow⟩:=q3.2 b hbm;have hlE:usE.length=e2.size:=by rw[htE.length,aN]
 have hsz:oo+i.toNat*e2.size+e2.size<=cur.size:=by
  have hp:=U.size_pos e2;have h1:=hca (e2.size-1) (usE[e2.size-1]'(by omega)) (qB (by omega));rw[cell_of_row w b _ cur T (0,0) hrow]at h1;have:=(Array.getElem?_eq_some_iff.1 h1).1;omega
 have hsz2:oo+i.toNat*e2.size+j+us2.length<=cur.size:=by omega
 refine⟨⟨cur,T,hrow,hsz2⟩,?_⟩;obtain⟨h5,h6⟩:=fP (us:=us2) (cs:=cur.toList) (o:=oo+i.toNat*e2.size+j) (w:=w) (b:=b) (T:=T) (by simpa using hrow) (by simpa using hsz2)
 have hcell:∀p:Nat,(w.setCells b (oo+i.toNat*e2.size+j) us2).cell? ⟨b,p,none⟩=(cur.toList.take (oo+i.toNat*e2.size+j)++us2++cur.toList.drop (oo+i.toNat*e2.size+j+us2.length))[p]? :=fun p=>by
  rw[cell_of_row _ b p _ T (0,0) h5];simp
 have hold:∀p:Nat,w.cell? ⟨b,p,none⟩=cur.toList[p]? :=fun p=>by rw[cell_of_row _ b p _ T (0,0) hrow];simp
 have hchg:iH b2 w (w.setCells b (oo+i.toNat*e2.size+j) us2):=⟨h6.os,h6.tape,h6.output,h6.size,fun y hy hn=>h6.other y hy (fun hm=>hn (by simp at hm;subst hm;exact hbm))⟩;have hnd:=q3.1;rw[hb2,List.nodup_cons]at hnd
 have ht5:T1 (w.setCells b (oo+i.toNat*e2.size+j) us2) (.sl ys.length ((ys.set i.toNat y).flatMap (enc e2))) b2 (.slice (some ⟨b,oo,none⟩) ys.length c):=by
  refine hfoc _ y _ h6.size (fun p hp=> ?_) (fun y' hy'=> ?_) (fun p v hv=> ?_) (hy usE htE _)
  .rw[hcell,hold];exact AJ (lo:=oo+i.toNat*e2.size) (hi:=oo+i.toNat*e2.size+e2.size) (by omega) (by omega) (by simpa using hsz2) hp
  .refine h6.other y' ?_ (fun hm=> ?_)
   .exact q2.lt y' (by rw[hb2];simp at hy' |-;grind)
   .simp at hm;subst hm;exact hnd.1 (by simp at hy' |-;grind)
  .rw[hcell]
   have hcur:∀d,d<e2.size->cur.toList[oo+i.toNat*e2.size+d]? =usE[d]? :=fun d hd=>by
    rw[<-hold,hca d (usE[d]'(by omega)) (qB (by omega)),qB]
   have hpl:p<e2.size:=by
    have:=(qE.1 hv).1;simp only[qA,List.length_take,List.length_drop]at this;omega
   rw[Ct (by omega) (by simpa[hlE]using hsz) (fun d hd=>hcur d (by omega)) (by omega)];exact hv
 have htn':=q5 _ _ hchg ht5;have hout:∀k,(β q).ownBlock=some k->k∉b2:=fun k hk hm=>hg.out k hk (q4 k hm)
 refine hback _ [_] ⟨⟨hchg.os,hchg.tape,hchg.output,hchg.size,fun y hy hn=>hchg.other y hy fun hm=>hn (by simp[q4 y hm])⟩,jD (β q)++bs,⟨jD (β q)++bs,[],by simp,⟨hus,bs,us,rfl,⟨?_,?_,?_,?_⟩,hpre⟩,rfl,by simp⟩,fun b hb=>.inl (by simpa using hb)⟩
 .rw[List.length_set];exact fM hg.row fun k hk=>hchg.other k (hg.lt k hk).2 (hout k hk)
 .rw[split,hform];rw[List.length_set];exact htn'
 .refine⟨hg.own.1,fun y' hy'=>⟨Nat.zero_le _,?_⟩⟩
  by_cases e:y'=b
  .subst e;exact⟨_,_,h5⟩
  .obtain⟨_,cu,tt,hr'⟩:=hg.own.2 y' hy';exact⟨cu,tt,(h6.other y' (dA hr') (by simpa using e)).trans hr'⟩
 .exact hg.out
def BL(P:Program)(env:Ev)(rs:List Tok)(g:Option (Nat×Bool))(o:Oper)(rs':List Tok):Prop:=∀(cx:Cx) (β:Nat->Value) (n:Nat) (fr:List aM) (a:Act) (w:World),bW cx β n a env->dz a g->Inv cx.w0 cx.F0 w (rs.map (Tok.res cx β)++fr)->
 ∃nx w',(nx=.skip\/∃v,nx=.value v)/\(execOp a.eval o).run P w=.ok nx w'/\Inv cx.w0 cx.F0 w' (rs'.map (Tok.res cx β)++fr)
theorem yS{u:U}{s:SV}(h:wO u s=true):(cellsOf s).length=u.size:=by
 cases s<;>unfold wO at h<;>first
  |(rw[qD]at h;exact ak h.1)
  |exact ak h
theorem CO{u:U}(h:u1 u=true){y:El u}{s:SV}{v:Value}(hl:wO u s=true)(hd:Den cx β s v)(ht:∀us,ah cx β (cellsOf s) us->∃F,TN w (enc u y) F us):v=jI u y:=by
 have one:u.size=1->∃F,TN w (enc u y) F [v]:=fun e1=>by
  cases s<;>first
   |(exfalso;unfold wO at hl;rw[qD]at hl;have:=ak hl.2;omega)
   |exact ht [v] (ah.one hd)
 cases u with
 |int k=>
  obtain⟨F,hF⟩:=one rfl;have:=(eO.v1 (eO.of hF)).1;injection this
 |bool=>
  obtain⟨F,hF⟩:=one rfl;have:=(eO.v1 (eO.of hF)).1;injection this
 |pair a b=>
  cases a<;>cases b<;>simp only[u1]at h<;>first|cases h|skip
  cases s<;>first|(exfalso;exact absurd (ak hl) (by simp[U.size]))|skip
  rename_i k1 k2 l;unfold Den at hd;obtain⟨us,rfl,hd⟩:=hd;obtain⟨F,hF⟩:=ht us hd;obtain⟨b1,b2,v1,us',rfl,_,h1,h2⟩:=TN.cons.1 (show TN w (.v (.int k1 y.1)::[.v (.int k2 y.2)]) F us from hF);obtain⟨b3,b4,v2,us'',rfl,_,h3,h4⟩:=TN.cons.1 h2;obtain⟨rfl,_⟩:=TN.nil.1 h4;obtain⟨rfl,_⟩:=T1.v.1 h1;obtain⟨rfl,_⟩:=T1.v.1 h3;rfl
 |str=>cases h
 |any=>cases h
 |sl e=>cases h
 |tree e=>cases h
theorem zJ(hti:bE P ti=true){t:TypeId}{x y:Operand}{v:SV}{K:List SV->Prop}(h:Ej ti t v K):∃l,K l/\∀(cx:Cx) (β:Nat->Value) (n:Nat) (a:Act) (w:World) (b p:Nat),bW cx β n a env->dz a g->a.eval x=.pointer (some ⟨b,p,none⟩)->evs env g y=some v->
  ∃us2,ah cx β l us2/\us2.all (·.oneCell')=true/\∀(cur:Array Value) (T:TypeId),w.heap[b]? =some (.cells cur T (0,0))->p+us2.length<=cur.size->(execOp a.eval ⟨dst,.store t x y,ty,pos,aft,gd⟩).run P w=.ok .skip (w.setCells b p us2):=by
 unfold Ej at h;split at h
 .rename_i m k u zs hl;split at h
  .rename_i l;cases hc:(Nat.beq l.length k&&oM l)with
   |false=>rw[hc]at h;exact h.elim
   |true=>
    rw[hc]at h;rw[qD]at hc;obtain⟨_,hsz,_⟩:=gF hti hl;refine⟨l,h,fun cx β n a w b p E hg h1 hy=> ?_⟩;obtain⟨v2,h2,d2⟩:=aj E hg hy;unfold Den at d2;obtain⟨us2,rfl,d2⟩:=d2;have h1':=lg hc.2 d2;exact⟨us2,d2,h1',fun cur T hr ho=>sU h1 h2 h1' (by rw[hsz,d2.len,ak hc.1]) hr ho⟩
  .exact h.elim
 .rename_i z hl hz;cases hc:rH v with
  |false=>rw[hc]at h;exact h.elim
  |true=>
   rw[hc]at h;obtain⟨_,hsz,_⟩:=iG hti hz
   have hone:(eH z).length=1:=by
    cases z<;>first|rfl|exact absurd rfl (hl _ _ _ _)
   refine⟨[v],h,fun cx β n a w b p E hg h1 hy=> ?_⟩;obtain⟨v2,h2,d2⟩:=aj E hg hy;have h1':=kZ hc d2;exact⟨[v2],ah.one d2,by simp[h1'],fun cur T hr ho=>vY h1 h2 (iB h1') h1' (by rw[hsz,hone]) hr (Nat.lt_of_succ_le (by simpa using ho))⟩
 .exact h.elim
theorem kH{u:U}(i:Int)(x:El u):∀{es:List MapEntry} {kv:List (Int×El u)} {n:Nat},es.map (fun e=>(e.key,e.val))=kv.map (fun x=>(Value.int .i64 x.1,jI u x.2))->
  (∃j v,Instr.findNow (.int .i64) (.int .i64 i) es n=some (some (n+j,v))/\(∃e,es[j]? =some e/\e.key=.int .i64 i)/\∀f:MapEntry->MapEntry,(∀e,(f e).key=.int .i64 i/\(f e).val=jI u x)->(es.modify j f).map (fun e=>(e.key,e.val))=(nZ kv i x).map (fun x=>(Value.int .i64 x.1,jI u x.2)))\/
  (Instr.findNow (.int .i64) (.int .i64 i) es n=some none/\nZ kv i x=kv++[(i,x)])
 |[],[],n,_=>.inr ⟨rfl,rfl⟩
 |[],_::_,n,h=>by simp at h
 |_::_,[],n,h=>by simp at h
 |e::es,(k,y)::kv,n,h=>by
  simp only[List.map_cons,List.cons.injEq,Prod.mk.injEq]at h;obtain⟨⟨h1,h2⟩,h3⟩:=h;unfold Instr.findNow nZ;rw[h1];simp only[Instr.sameNow,if_true];cases hk:(i==k)with
  |true=>
   have:=eq_of_beq hk;subst this;simp only[BEq.rfl,qG];refine .inl ⟨0,e.val,rfl,⟨e,rfl,h1⟩,fun f hf=> ?_⟩;simp[hf,h3]
  |false=>
   have:(k==i)=false:=by rw[beq_eq_false_iff_ne]at hk |-;exact fun e=>hk e.symm
   rw[this];simp only[qH];rcases kH i x (n:=n+1) h3 with⟨j,v,q1,q2,q3⟩|⟨q1,q2⟩
   .refine .inl ⟨j+1,v,by rw[q1];congr 3;omega,by simpa using q2,fun f hf=> ?_⟩;simp only[List.modify_succ_cons,List.map_cons,q3 f hf,h1,h2]
   .exact .inr ⟨q1,by rw[q2];rfl⟩
theorem AV{x y z:Operand}{t k e b:Nat}{es:List MapEntry}{cl:Nat}{u:U}{kv:List (Int×El u)}{i:Int}{v:El u}(hx:a.eval x=.map (some b))(hy:a.eval y=.int .i64 i)(hz:a.eval z=jI u v)(ht:P.underlying t=some (.map k e))(hk:P.underlying k=some (.int .i64))
  (hb:w.heap[b]? =some (.map es.toArray cl)) (he:es.map (fun e=>(e.key,e.val))=kv.map (fun x=>(Value.int .i64 x.1,jI u x.2))):
  ∃es' cl',(execOp a.eval ⟨dst,.mapUpdate t x y z,ty,pos,aft,gd⟩).run P w=.ok .skip { w with heap:=w.heap.setIfInBounds b (.map (List.toArray es') cl')}/\es'.map (fun e=>(e.key,e.val))=(nZ kv i v).map (fun x=>(Value.int .i64 x.1,jI u x.2)):=by
 have hg:(getObj b).run P w=.ok (.map es.toArray cl) w:=by simp[getObj,Sem.run,hb]
 have hs:∀o,(setObj b o).run P w=.ok () { w with heap:=w.heap.setIfInBounds b o}:=fun o=>by simp[setObj,Sem.run,hb]
 have hc:∀em:Bool,(Instr.checkKey em 10000 k (.int .i64 i)).run P w=.ok () w:=fun em=>by
  unfold Instr.checkKey;simp[run_underlying hk]
 rcases kH i v (n:=0) he with⟨j,v',q1,⟨ej,q2,q4⟩,q3⟩|⟨q1,q2⟩
 .rw[Nat.zero_add]at q1
  have hkt:(Instr.keyThatStays ((((es.toArray)[j]?).map (·.key)).getD (.int .i64 i)) (.int .i64 i)).run P w=.ok (.int .i64 i) w:=by
   simp[q2,q4,Instr.keyThatStays,Instr.sameBits]
  refine⟨es.modify j fun e=>{ e with key:=.int .i64 i,val:=jI u v},cl,?_,q3 _ fun e=>⟨rfl,rfl⟩⟩;simp[execOp,hx,hy,hz,Instr.mapUpdate,run_underlying ht,hg,hc,Instr.findKey,run_underlying hk,q1,hs];simp at hkt;simp[hkt,hs]
 .refine⟨es++[⟨.int .i64 i,jI u v,cl⟩],cl+1,?_,by rw[q2];simp[he]⟩;simp[execOp,hx,hy,hz,Instr.mapUpdate,run_underlying ht,hg,hc,Instr.findKey,run_underlying hk,q1,hs]
theorem jF(b:Nat):∀(l m:aO) (o:Nat) (w:World),w.setCells b o (l++m)=(w.setCells b o l).setCells b (o+l.length) m
 |[],m,o,w=>by simp[World.setCells]
 |v::l,m,o,w=>by
  show(w.setCell ⟨b,o,none⟩ v).setCells b (o+1) (l++m)=((w.setCell ⟨b,o,none⟩ v).setCells b (o+1) l).setCells b (o+(l.length+1)) m;rw[jF b l m (o+1) _,show o+1+l.length=o+(l.length+1) by omega]
theorem mM{R:List aM}{q:Nat}{e:TypeId}{s:Nat}{u:U}{xs:List (El u)}{pre:aO}(H:Inv cx.w0 cx.F0 w (Tok.res cx β (.row q e s u xs pre)::R)):Inv cx.w0 cx.F0 w (Tok.res cx β (.row q e s u xs [])::R):=by
 obtain⟨hus,h⟩:=dh H;exact(h.kU.nR).weak fun F hp=>⟨F,fun _ h=>h,hus,hp⟩
theorem nQ{α:Type}{xs:List α}{k:Nat}(y:α)(h:k<xs.length):(xs.take (k+1)).set k y=xs.take k++[y]:=by
 rw[List.take_succ_eq_append_getElem h,List.set_append_right _ _ (by simp;omega)];simp[Nat.min_eq_left (Nat.le_of_lt h)]
theorem row_zero{R:List aM}{q:Nat}{e:TypeId}{s:Nat}{u:U}{b m c:Nat}(hb:β q=.slice (some ⟨b,0,none⟩) m c)(hzl:(aR u).length=u.size)(hs:u.size=s):∀(k lo:Nat) (xs:List (El u)) (pre:aO) (w:World),lo+k<=m->Inv cx.w0 cx.F0 w (Tok.res cx β (.row q e s u xs pre)::R)->lo+k<=xs.length->
  Inv cx.w0 cx.F0 (w.setCells b (lo*s) (List.replicate k (aR u)).flatten) (Tok.res cx β (.row q e s u (xs.take lo++List.replicate k (dflt u)++xs.drop (lo+k)) [])::R)
 |0,lo,xs,pre,w,_,H,_=>by
  have e1:xs.take lo++List.replicate 0 (dflt u)++xs.drop (lo+0)=xs:=by simp
  rw[e1];exact mM H
 |k+1,lo,xs,pre,w,hm,H,hl=>by
  have h1:=(wm (i:=lo) (o:=0) (y:=dflt u) (us2:=aR u) hb (by omega) (by omega) H fun us R w' hI=>by
   have hul:us.length=u.size:=by
    obtain⟨F,hp,_⟩:=hI.mem 0 rfl;rw[hp.length,aN]
   have e1:us.take 0++aR u++us.drop (0+(aR u).length)=aR u:=by rw[hzl,Nat.zero_add,List.drop_eq_nil_of_le (by omega)];simp
   rw[e1];have h3:=ku hzl (hI.tail) 1;simpa using h3).2
  rw[Nat.add_zero]at h1;have h2:=row_zero hb hzl hs k (lo+1) (xs.set lo (dflt u)) [] _ (by omega) h1 (by rw[List.length_set];omega)
  have e2:(xs.set lo (dflt u)).take (lo+1)++List.replicate k (dflt u)++(xs.set lo (dflt u)).drop (lo+1+k)=xs.take lo++List.replicate (k+1) (dflt u)++xs.drop (lo+(k+1)):=by
   have hlo:lo<xs.length:=by omega
   have e3:(xs.take (lo+1)).set lo (dflt u)=xs.take lo++[dflt u]:=nQ _ hlo;rw[List.drop_set_of_lt (by omega),show lo+1+k=lo+(k+1) by omega,List.take_set,e3,List.replicate_succ];simp
  rw[e2]at h2;rw[List.replicate_succ,List.flatten_cons,jF];rw[show lo*s+(aR u).length=(lo+1)*s by rw[Nat.add_mul,hzl,hs];omega];exact h2
theorem BS(hti:bE P ti=true){t e s:Nat}{u u0:U}(hl:lk ti t=some (.sl e s u0)){z:gI}(hle:lk ti e=some z)(hz:eG ((eH z).map iO) (aR u)=true)(hzl:(aR u).length=s)(hus:u.size=s){x:Operand}{h lo k:Nat}{xs:List (El u)}{us:aO}{R:List aM}{v1:Value}
  (hx:a.eval x=v1) (d1:Den cx β (.sx h s lo k) v1) (hk:lo+k=xs.length) (H:Inv cx.w0 cx.F0 w (Tok.res cx β (.row h e s u xs us)::R)):
  ∃w',(execOp a.eval ⟨dst,.call ⟨.builtin .clear, #[x], #[t]⟩,ty,pos,aft,gd⟩).run P w=.ok (.value (.tuple #[])) w'/\Inv cx.w0 cx.F0 w' (Tok.res cx β (.row h e s u (xs.take lo++List.replicate k (dflt u)) [])::R):=by
 unfold Den at d1;obtain⟨b,z0,m,c,o,c',hb,hle2,rfl,ho,_⟩:=d1;have hz0:=sV H hb;subst hz0;rw[Nat.zero_add]at ho;have hE:=dR hti hl;cases k with
 |zero=>
  refine⟨w,?_,?_⟩
  .simp[execOp,hx,resolve,invoke,builtin,Builtin.clear_,run_underlying hE.u]
  .rw[List.replicate_zero,qS,qN (by omega)];exact mM H
 |succ k=>
  have ho:=ho (by omega);subst ho;obtain⟨hza,_,hzo⟩:=iG hti hle;rw[dX hz]at hzo
  have hone:∀v∈aR u,v.oneCell'=true:=by
   rw[<-dX hz];intro v hv;obtain⟨s,hs,rfl⟩:=List.mem_map.1 hv;exact(vw (cx:=cx) (β:=β) (List.all_eq_true.1 hza s hs)).2
  obtain⟨q,zz,k1,k2,k3,k4,k5⟩:=hE.i
  have hzc:zz.cells.toList=aR u:=by
   unfold zeroOf at hzo;rw[k1]at hzo;simp only[Option.bind_some,k2,Option.map_some,Option.some.injEq]at hzo;exact hzo
  have hm:xs.length=m:=by
   obtain⟨hus',h1⟩:=dh H;have h2:=h1.kU;rw[hb]at h2;obtain⟨F,⟨bs,us,_,hg⟩,_⟩:=h2.take1;obtain⟨A,c',bs',e1,_⟩:=hg.res (by rw[aC,hus']);injection e1 with _ e1 _
   exact e1.symm
  have hcells:(Builtin.zeroCells zz.cells (k+1)).toList=(List.replicate (k+1) (aR u)).flatten:=by
   have hss:zz.cells.size=s:=by rw[<-Array.length_toList,hzc,hzl]
   unfold Builtin.zeroCells;rw[Array.toList_map,Array.toList_range,hss,<-hzc,<-l8 zz.cells s hss hE.p,hss]
  have hlen:((List.replicate (k+1) (aR u)).flatten).length=(k+1)*s:=by simp[hzl]
  obtain⟨cur,hr,hsz⟩:∃cur,w.heap[b]? =some (.cells cur e (0,0))/\m*s<=cur.size:=by
   obtain⟨hus',h1⟩:=dh H;have h2:=h1.kU;rw[hb]at h2;obtain⟨F,⟨bs,us,_,hg⟩,_⟩:=h2.take1;rcases hg.row.2 with⟨e1,_⟩|⟨g',cap,cur,e1,_,hgg,hnc,_,hcs,_⟩
   .cases e1
   .injection e1 with e1 _ _
    injection e1 with e1
    injection e1 with e1 _
    subst e1;exact⟨cur,hgg,by rw[hcs,<-hm];exact Nat.mul_le_mul_right _ hnc⟩
  refine⟨w.setCells b (lo*s) (List.replicate (k+1) (aR u)).flatten,?_,?_⟩
  .have hst:=run_storeCells_cells (P:=P) b (lo*s) ((List.replicate (k+1) (aR u)).flatten) 0 w (fun j hj=>by
    rw[cell_of_row w b _ cur e (0,0) hr];have:lo*s+(k+1)*s<=m*s:=by rw[<-Nat.add_mul];exact Nat.mul_le_mul_right _ hle2
    rw[Array.getElem?_eq_getElem (by omega)];rfl) (fun j hj=>iA hr _) (fun v hv=>by
    rw[List.mem_flatten]at hv;obtain⟨l,hl1,hl2⟩:=hv;rw[List.eq_of_mem_replicate hl1]at hl2;exact hone v hl2)
   simp only[Nat.add_zero]at hst;have hzv:∀w,(zeroValue e).run P w=.ok zz w:=fun w=>by simp[zeroValue,typeInfo,k1,k2]
   simp[execOp,hx,resolve,invoke,builtin,Builtin.clear_,run_underlying hE.u,hzv,hcells,hst]
  .have h3:=row_zero (c:=c) hb (hzl.trans hus.symm) hus (k+1) lo xs us w hle2 H (by omega);rw[List.drop_eq_nil_of_le (by omega),qS]at h3;exact h3
theorem BX(hti:bE P ti=true){d:Nat}(hd:d<1000000){t e s:Nat}{u u0:U}(hl:lk ti t=some (.sl e s u0)){x y:Operand}{h:Nat}{i:Int}{xs:List (El u)}{us:aO}{rs':List Tok}(hn:∀t∈rs',∀g∈t.names [],g % 1000000≠d){v1:Value}
  (hx:a.eval x=v1) (d1:Den cx β (.sl h) v1) (hy:a.eval y=.int .i64 i) (h0:0<=i) (h1:i<=(xs.length:Nat)) (H:Inv cx.w0 cx.F0 w (Tok.res cx β (.row h e s u xs us)::(rs'.map (Tok.res cx β)++fr))):
  Ab P cx β fr a w d ⟨dst,.slice t x none (some y) none,ty,pos,aft,gd⟩ (.sl d) (.row d e s u (xs.take i.toNat) []::rs'):=by
 unfold Den at d1;obtain⟨rfl, -⟩:=d1;have hE:=dR hti hl;obtain⟨hus,H1⟩:=dh H;have H2:=H1.kU;obtain⟨k,rfl⟩:∃k:Nat,i=(k:Int):=⟨i.toNat,by omega⟩;have hk:k<=xs.length:=by omega
 rw[qK]
 obtain⟨v',hrun,hval,hrow⟩:∃v',(execOp a.eval ⟨dst,.slice t x none (some y) none,ty,pos,aft,gd⟩).run P w=.ok (.value v') w/\(∃A c,v'=.slice A k c)/\
   ∀F,(Gr (β h) e s xs.length (xs.flatMap (enc u))).p w F->∃F',(∀b∈F',b∈F)/\(Gr v' e s k ((xs.take k).flatMap (enc u))).p w F':=by
  obtain⟨F,⟨bs,us,_,hg⟩,_⟩:=H2.take1;have hu:P.underlying t=some (.slice e):=hE.u;obtain⟨q,zz,k1, -⟩:=hE.i
  have part:∀v',(∀q,v'.ownBlock=some q↔(β h).ownBlock=some q)->(∀us,w.ownsRow 0 e s (β h) xs.length us->w.ownsRow 0 e s v' k (us.take (k*s)))->
    ∀F,(Gr (β h) e s xs.length (xs.flatMap (enc u))).p w F->∃F',(∀b∈F',b∈F)/\(Gr v' e s k ((xs.take k).flatMap (enc u))).p w F':=by
   rintro v' hv hro F ⟨bs,us,rfl,hg⟩;have ht:=hg.tn;rw[<-List.take_append_drop k xs,List.flatMap_append]at ht;obtain⟨b1,b2,u1,u2,rfl,rfl,t1,t2⟩:=TN.append.1 ht
   have hl1:u1.length=k*s:=by
    rw[t1.length,aC,List.length_take,Nat.min_eq_left hk,hus]
   have hr:=hro _ hg.row;rw[List.take_left' hl1]at hr;have ho:=hg.own;refine⟨jD v'++b1,fun b hb=> ?_,b1,u1,rfl,⟨hr,t1,⟨(List.nodup_append.1 ho.1).1,fun b hb=>ho.2 b (by simp[hb])⟩,fun q hq hm=>hg.out q ((hv q).1 hq) (by simp[hm])⟩⟩;rcases qT.1 hb with hb|hb
   .exact List.mem_append_left _ (dD.2 ((hv b).1 (dD.1 hb)))
   .exact List.mem_append_right _ (by simp[hb])
  have hrr:=hg.row;rcases hrr.2 with⟨e1,e2⟩|⟨g',cap,cur,e1,hb0,hgg,hnc,hcm,hcs,htk⟩
  .have hk0:k=0:=by omega
   subst hk0;rw[e1]at hx;refine⟨.slice none 0 0,?_,⟨_,_,rfl⟩,part _ (fun q=>by rw[e1]) (fun us hr=> ?_)⟩
   .simp[execOp,hx,hy,Instr.sliceAt,run_underlying hu,Instr.slice,Instr.sliceBounds,Instr.sliceBound,asIntOf,sizeOf,typeInfo,k1]
   .rw[Nat.zero_mul,List.take_zero];exact World.ownsRow_nil _ _ _ _
  .rw[e1]at hx;refine⟨.slice (some ⟨g',0,none⟩) k cap,?_,⟨_,_,rfl⟩,part _ (fun q=>by rw[e1];exact Iff.rfl) (fun us hr=> ?_)⟩
   .have hkc:k<=cap:=Nat.le_trans hk hnc;have hc:(if cap=0 then some (⟨g',0,none⟩:Addr)else some ((⟨g',0,none⟩:Addr).add 0))=some ⟨g',0,none⟩:=by simp[Addr.add_mid]
    simp[execOp,hx,hy,Instr.sliceAt,run_underlying hu,Instr.slice,Instr.sliceBounds,Instr.sliceBound,asIntOf,hkc,sizeOf,typeInfo,k1,Addr.add_mid]
   .refine⟨by rw[List.length_take,hr.1];exact Nat.min_eq_left (Nat.mul_le_mul_right _ hk),.inr ⟨g',cap,cur,rfl,hb0,hgg,Nat.le_trans hk hnc,hcm,hcs,?_⟩⟩;rcases hr.2 with⟨e3,_⟩|⟨g2,cap2,cur2,e3,_,hg2,_,_,_,htk2⟩
    .rw[e1]at e3;cases e3
    .rw[e1]at e3;injection e3 with e3 _ _
     injection e3 with e3
     injection e3 with e3 _
     subst e3;rw[hgg]at hg2;injection hg2 with hg2
     injection hg2 with hg2
     subst hg2;rw[<-htk2,List.take_take,Nat.min_eq_left (Nat.mul_le_mul_right _ hk)]
 obtain⟨A,c,rfl⟩:=hval;have hA:=fV (β:=β) hd (.slice A k c);refine .inl ⟨_,w,up β d (.slice A k c),hrun,hA,by unfold Den;exact⟨(aV _ _).symm,_,_,_,rfl⟩,?_⟩
 have H3:Inv cx.w0 cx.F0 w (Gr (.slice A k c) e s k ((xs.take k).flatMap (enc u))::(rs'.map (Tok.res cx β)++fr)):=H2.weak fun F hp=>by
  obtain⟨F',h1,h2⟩:=hrow F hp;exact⟨F',h1,h2⟩
 have h0:Inv cx.w0 cx.F0 w (rs'.map (Tok.res cx β)++(Gr (.slice A k c) e s k ((xs.take k).flatMap (enc u))::fr)):=H3.perm List.perm_middle.symm;have h3:=(h0.beta (β':=up β d (.slice A k c)) fun t ht g hg=>hA g (hn t ht g hg)).perm List.perm_middle;refine h3.nR.weak fun F hp=>⟨F,fun _ h=>h,hus,?_⟩
 rw[aV,List.length_take,Nat.min_eq_left hk];exact hp
theorem xw(hti:bE P ti=true){d:Nat}(hd:d<1000000){t e s:Nat}{u u0:U}(hl:lk ti t=some (.sl e s u0)){x y:Operand}{h:Nat}{i:Int}{xs:List (El u)}{rs':List Tok}(hn:∀t∈rs',∀g∈t.names [],g % 1000000≠d){v1:Value}
  (hx:a.eval x=v1) (d1:Den cx β (.sl h) v1) (hy:a.eval y=.int .i64 i) (h0:0<=i) (h1:i<=(xs.length:Nat)) (H:Inv cx.w0 cx.F0 w (Tok.res cx β (.suf h e s u xs)::(rs'.map (Tok.res cx β)++fr))):
  Ab P cx β fr a w d ⟨dst,.slice t x (some y) none none,ty,pos,aft,gd⟩ (.sl d) (.suf d e s u (xs.drop i.toNat)::rs'):=by
 unfold Den at d1;obtain⟨rfl, -⟩:=d1;have hE:=dR hti hl;obtain⟨k,rfl⟩:∃k:Nat,i=(k:Int):=⟨i.toNat,by omega⟩;have hk:k<=xs.length:=by omega
 rw[qK];obtain⟨F,⟨hus,hf,hp⟩,hback,_⟩:=Inv.take1 (r:=Tok.res cx β (.suf h e s u xs)) H;have hlen:(xs.drop k).length=xs.length-k:=List.length_drop
 obtain⟨v',hrun,⟨A,c,hv⟩,F',hF,hp'⟩:∃v',(execOp a.eval ⟨dst,.slice t x (some y) none none,ty,pos,aft,gd⟩).run P w=.ok (.value v') w/\(∃A c,v'=.slice A (xs.length-k) c)/\
   ∃F',(∀b∈F',b∈F)/\(xH v' e s (xs.drop k).length ((xs.drop k).flatMap (enc u))).p w F':=by
  rcases hp with⟨e1,e2,e3,rfl⟩|⟨g',off,c,cur,us,e1,rfl,p3,p4,p5,p6,p7,p8,p9⟩
  .have hx0:xs=[]:=List.eq_nil_of_length_eq_zero e2;subst hx0;have hk0:k=0:=by simpa using hk
   subst hk0;rw[e1]at hx;refine⟨.slice none 0 0,?_,⟨_,_,rfl⟩,[],by simp,.inl ⟨rfl,rfl,rfl,rfl⟩⟩;obtain⟨q,zz,k1, -⟩:=hE.i;have hu:P.underlying t=some (.slice e):=hE.u;simp[execOp,hx,hy,Instr.sliceAt,run_underlying hu,Instr.slice,Instr.sliceBounds,Instr.sliceBound,asIntOf,sizeOf,typeInfo,k1]
  .rw[e1]at hx;refine⟨_,jY (i:=k) hx hy (bV hti hl).2.1 hk p4,⟨_,_,rfl⟩,[g'],by simp,?_⟩
   have hxs:TN w ((xs.drop k).flatMap (enc u)) [] (us.drop (k*s)):=by
    have p9':=p9;rw[<-List.take_append_drop k xs,List.flatMap_append]at p9';obtain⟨b1,b2,u1,u2,rfl,hb,t1,t2⟩:=TN.append.1 p9';have hbb:=List.append_eq_nil_iff.1 hb.symm;rw[hbb.2]at t2
    have hl1:u1.length=k*s:=by
     rw[t1.length,aC,List.length_take,Nat.min_eq_left hk,hus]
    rw[List.drop_left' hl1];exact t2
   have hsub:(xs.length-k)*s=xs.length*s-k*s:=Nat.sub_mul _ _ _;rw[hlen]
   by_cases hck:c=k
   .have hz:xs.length-k=0:=by omega
    refine .inr ⟨g',off,c-k,cur,us.drop (k*s),by rw[if_pos hck],rfl,p3,by omega,by omega,?_,?_,?_,hxs⟩
    .have:c-k=0:=by omega
     rw[this,Nat.zero_mul];omega
    .rw[hz,Nat.zero_mul,List.take_zero];refine List.drop_eq_nil_of_le ?_;rw[p8];have:xs.length=k:=by omega
     rw[this];exact Nat.le_refl _
    .rw[List.length_drop,p8,hsub]
   .refine .inr ⟨g',off+k*s,c-k,cur,us.drop (k*s),by rw[if_neg hck],rfl,p3,by omega,by omega,?_,?_,?_,hxs⟩
    .rw[Nat.sub_mul];have:k*s<=c*s:=Nat.mul_le_mul_right _ (by omega);omega
    .rw[p7,List.drop_take,List.drop_drop,hsub]
    .rw[List.length_drop,p8,hsub]
 subst hv;have hA:=fV (β:=β) hd (.slice A (xs.length-k) c);refine .inl ⟨_,w,up β d (.slice A (xs.length-k) c),hrun,hA,by unfold Den;exact⟨(aV _ _).symm,_,_,_,rfl⟩,?_⟩;have H3:Inv cx.w0 cx.F0 w (Tok.res cx (up β d (.slice A (xs.length-k) c)) (.suf d e s u (xs.drop k))::(rs'.map (Tok.res cx β)++fr)):=hback _ F' hF ⟨hus,hf,by rw[aV];exact hp'⟩;have h0:Inv cx.w0 cx.F0 w (rs'.map (Tok.res cx β)++(Tok.res cx (up β d (.slice A (xs.length-k) c)) (.suf d e s u (xs.drop k))::fr)):=H3.perm List.perm_middle.symm;exact(h0.beta (β':=up β d (.slice A (xs.length-k) c)) fun t ht g hg=>hA g (hn t ht g hg)).perm List.perm_middle
theorem mY(hti:bE P ti=true){op:Op}{K:List Tok->Prop}(h:gX ti env rs g op K):
  ∃rs',K rs'/\BL P env rs g ⟨dst,op,ty,pos,aft,gd⟩ rs':=by
 unfold gX at h;split at h
 .rename_i t x y;split at h
  .rename_i q o s hx hy
   have key:∀(l:List SV),(∀(cx:Cx) (β:Nat->Value) (n:Nat) (a:Act) (w:World) (b:Nat),bW cx β n a env->dz a g->a.eval x=.pointer (some ⟨b,o,none⟩)->∃us2,ah cx β l us2/\us2.all (·.oneCell')=true/\(∀(cur:Array Value) (T:TypeId),w.heap[b]? =some (.cells cur T (0,0))->o+us2.length<=cur.size->(execOp a.eval ⟨dst,.store t x y,ty,pos,aft,gd⟩).run P w=.ok .skip (w.setCells b o us2)))->
     (iF rs q fun t' cs rest=>setAt o l cs fun cs'=>K (.dn q t' cs'::rest))->∃rs',K rs'/\BL P env rs g ⟨dst,.store t x y,ty,pos,aft,gd⟩ rs':=by
    intro l hsem hK;obtain⟨t',cs,rest,h3,hp⟩:=iX hK;obtain⟨h4,h5⟩:=mU h3;refine⟨_,h4,fun cx β n fr a w E hg hH=> ?_⟩;obtain⟨v1,h1',d1⟩:=aj E hg hx;unfold Den at d1;obtain⟨b,hb,rfl⟩:=d1;obtain⟨us2,hd,h1,hrun⟩:=hsem cx β n a w b E hg h1';have hI:Inv cx.w0 cx.F0 w (Tok.res cx β (.dn q t' cs)::(rest.map (Tok.res cx β)++fr)):=hH.aY hp;obtain⟨F,⟨b',us,e1,e2,e3,e4⟩,k2,_⟩:=hI.take1;rw[hb]at e1;injection e1 with e1
    injection e1 with e1
    injection e1 with e1
    subst e1;have hI2:Inv cx.w0 cx.F0 w (u7 b us t'::(rest.map (Tok.res cx β)++fr)):=k2 _ F (fun _ h=>h) e4;have hul:=e2.len;have hll:=hd.len;have hble:o+us2.length<=us.length:=by omega
    have hI3:=hI2.put 0 (us:=us2) (o:=o) rfl (by simpa using hble) rfl;refine⟨_,_,.inl rfl,hrun us.toArray t' (hI2.dn 0 rfl) (by simpa using hble),?_⟩;have hI4:Inv cx.w0 cx.F0 (w.setCells b o us2) (u7 b (us.take o++us2++us.drop (o+us2.length)) t'::(rest.map (Tok.res cx β)++fr)):=hI3;refine hI4.weak fun F hp=>⟨F,fun _ h=>h,b,_,hb,?_,?_,hp⟩
    .rw[<-hll];exact((e2.take o).app hd).app (e2.drop _)
    .rw[List.all_append,List.all_append,h1];simp only[Bool.and_true,qD];rw[List.all_eq_true]at e3;exact⟨List.all_eq_true.2 fun z hz=>e3 z (List.mem_of_mem_take hz),List.all_eq_true.2 fun z hz=>e3 z (List.mem_of_mem_drop hz)⟩
   split at h
   .rename_i l;split at h
    .rename_i m k u zs hl;cases hc:(oM l&&Nat.beq l.length k)with
     |false=>rw[hc]at h;exact h.elim
     |true=>
      rw[hc]at h;rw[qD]at hc;obtain⟨_,hsz,_⟩:=gF hti hl;refine key l (fun cx β n a w b E hg h1=> ?_) h;obtain⟨v2,h2,d2⟩:=aj E hg hy;unfold Den at d2;obtain⟨us2,rfl,d2⟩:=d2;have h1':=lg hc.1 d2;exact⟨us2,d2,h1',fun cur T hr ho=>sU h1 h2 h1' (by rw[hsz,d2.len,ak hc.2]) hr ho⟩
    .exact h.elim
   .rename_i hna;split at h
    .exact h.elim
    .rename_i z hl hz;cases hc:rH s with
     |false=>rw[hc]at h;exact h.elim
     |true=>
      rw[hc]at h;obtain⟨_,hsz,_⟩:=iG hti hz
      have hone:(eH z).length=1:=by
       cases z<;>first|rfl|exact absurd rfl (hl _ _ _ _)
      refine key [s] (fun cx β n a w b E hg h1=> ?_) h;obtain⟨v2,h2,d2⟩:=aj E hg hy;have h1':=kZ hc d2;exact⟨[v2],ah.one d2,by simp[h1'],fun cur T hr ho=>vY h1 h2 (iB h1') h1' (by rw[hsz,hone]) hr (Nat.lt_of_succ_le (by simpa using ho))⟩
    .exact h.elim
  .rename_i q s i o v hx hy;obtain⟨l,hK,hsem⟩:=zJ (P:=P) (dst:=dst) (ty:=ty) (pos:=pos) (aft:=aft) (gd:=gd) (x:=x) (y:=y) hti h;split at hK
   .obtain⟨e,s1,u,xs,us,rest,h3,hp⟩:=aH hK;cases hb:Nat.beq s s1 with
    |false=>rw[hb]at h3;exact h3.elim
    |true=>
     rw[hb]at h3;have:=ak hb;subst this;obtain⟨y',rs',h4,h5,h6⟩:=zF u h3;refine⟨_,h4,fun cx β n fr a w E hg hH=> ?_⟩;obtain⟨v1,h1',d1⟩:=aj E hg hx;unfold Den at d1;obtain⟨b,z0,m,c,hb',him,rfl⟩:=d1;have hz0:=sV (hH.aY hp) hb';subst hz0;rw[Nat.zero_add]at h1';obtain⟨us2,d2,h1,hrun⟩:=hsem cx β n a w b _ E hg h1' hy;have hl2:=d2.len;obtain⟨⟨cur,hr,hsz⟩,hI⟩:=wm (w:=w) (us2:=us2) hb' him (by omega) (hH.aY hp) fun us X w' hI=>(h6 cx β w' _ _ us us2 (X::fr) d2 (hI.perm ((List.perm_middle.symm).cons _))).perm ((List.perm_middle).cons _)
     exact⟨_,_,.inl rfl,hrun cur e hr (by omega),hI⟩
   .obtain⟨e,s1,u,xs,rest,h3,hp⟩:=iY hK;cases hb:(Nat.beq s s1&&Nat.beq o 0)with
    |false=>rw[hb]at h3;exact h3.elim
    |true=>
     rw[hb]at h3;rw[qD]at hb;have:=ak hb.1;subst this;have:=ak hb.2;subst this;obtain⟨y',l',h4,h5⟩:=pU u h3;split at h4
     .refine⟨_,h4,fun cx β n fr a w E hg hH=> ?_⟩;obtain⟨v1,h1',d1⟩:=aj E hg hx;unfold Den at d1;obtain⟨b,z0,m,c,hb',him,rfl⟩:=d1;have hz0:=Dq (hH.aY hp) hb';subst hz0;rw[Nat.zero_add]at h1';obtain⟨us2,d2,h1,hrun⟩:=hsem cx β n a w b _ E hg h1' hy;obtain⟨u1,u2,e0,k1,k2⟩:=h5 cx β us2 d2;unfold ah at k2;subst k2;rw[qS]at e0;subst e0;obtain⟨⟨cur,hr,hsz⟩,hI⟩:=Ak (w:=w) hb' him (dU u y' k1) h1 (hH.aY hp);exact⟨_,_,.inl rfl,hrun cur e hr (by omega),hI⟩
     .exact h4.elim
  .rename_i k o n0 hdr s2 i j v hx hy;obtain⟨l,hK,hsem⟩:=zJ (P:=P) (dst:=dst) (ty:=ty) (pos:=pos) (aft:=aft) (gd:=gd) (x:=x) (y:=y) hti h;obtain⟨q,hK⟩:=hK;obtain⟨e,s,u,xs,us,rest,h3,hp⟩:=aH hK;obtain⟨e2,ys,F,h8,hF1,_,ll,rr,hF2,hF3⟩:=yV u h3;cases hb:(Nat.beq s2 e2.size&&bf e2)with
   |false=>rw[hb]at h8;exact h8.elim
   |true=>
    rw[hb]at h8;rw[qD]at hb;have:=ak hb.1;subst this;obtain⟨⟨hk,hi0,hin⟩,h9⟩:=h8;obtain⟨y',h4,h5,h6⟩:=Bc e2 h9;refine⟨_,h4,fun cx β n fr a w E hg hH=> ?_⟩;obtain⟨v1,h1',d1⟩:=aj E hg hx;unfold Den at d1;obtain⟨b,oo,c,hh,rfl⟩:=d1;obtain⟨us2,d2,h1,hrun⟩:=hsem cx β n a w b _ E hg h1' hy;have hl2:=d2.len;obtain⟨⟨cur,T,hr,hsz⟩,hI⟩:=yX (w:=w) (us2:=us2) (y:=y') hk hh hF1 hF2 hF3 hb.2 hi0 hin (by omega) (fun us ht w'=>yB hb.2 ht (fun R hI=>h6 cx β w _ _ us us2 R d2 hI) w') (hH.aY hp);exact⟨_,_,.inl rfl,hrun cur T hr (by omega),hI⟩
  .exact h.elim
 .rename_i t x y z;split at h
  .rename_i u q i v hl hx hy hz;obtain⟨u',kv,rest,h3,hp⟩:=ng h;cases hu:gH u' u with
   |false=>rw[hu]at h3;exact h3.elim
   |true=>
    rw[hu]at h3;have:=aB hu;subst this;obtain⟨hu1,kt,et,e1,e2,_⟩:=tK hti hl;cases hlen:wO u' v with
    |false=>rw[hlen]at h3;exact h3.elim
    |true=>
    rw[hlen]at h3;obtain⟨y',h4,h5⟩:=yT (yS hlen) h3;refine⟨_,h4,fun cx β n fr a w E hg hH=> ?_⟩;obtain⟨v1,k1,d1⟩:=aj E hg hx;obtain⟨v2,k2,d2⟩:=aj E hg hy;obtain⟨v3,k3,d3⟩:=aj E hg hz
    have hv3:v3=jI u' y':=CO hu1 hlen d3 fun us hd=>by
     obtain⟨F,⟨ht,_⟩,_⟩:=(h5 cx β w _ _ us _ hd (hH.aY hp)).take1;exact⟨F,ht⟩
    subst hv3;rw[ay d2]at k2;unfold Den at d1;obtain⟨G,hG,_,hback⟩:=Inv.frame (pre:=[Tok.res cx β (.map q u' kv)]) (rest:=rest.map (Tok.res cx β)++fr) (hH.aY hp);obtain⟨G1,G2,rfl,⟨_,r,es,cl,g1,rfl,g3,g4⟩,rfl,_⟩:=hG;obtain⟨es',cl',g5,g6⟩:=AV (P:=P) (dst:=dst) (ty:=ty) (pos:=pos) (aft:=aft) (gd:=gd) (k1.trans (d1.1.trans g1)) k2 k3 e1 e2 g3 g4;refine⟨_,_,.inl rfl,g5,hback _ [_] ⟨⟨rfl,rfl,rfl,by simp,fun y hy hn=> ?_⟩,[r],⟨[r],[],rfl,⟨hu1,r,es',cl',g1,rfl,?_,g6⟩,rfl,by simp⟩,fun b hb=>.inl (by simpa using hb)⟩⟩
    .simp only[qS,qX]at hn;simp[Array.getElem?_setIfInBounds,Ne.symm hn]
    .have:=(Array.getElem?_eq_some_iff.1 g3).1;simp[Array.getElem?_setIfInBounds,this]
  .rename_i q i j v hl hx hy hz;obtain⟨kv,rest,h3,hp⟩:=kQ h;obtain⟨kt,et,e1,e2,_⟩:=uV hti hl;refine⟨_,h3,fun cx β n fr a w E hg hH=> ?_⟩;obtain⟨v1,k1,d1⟩:=aj E hg hx;obtain⟨v2,k2,d2⟩:=aj E hg hy;obtain⟨v3,k3,d3⟩:=aj E hg hz;have hk2:v2=bN (i,j):=rQ d2;unfold Den at d1 d3;subst d3;obtain⟨G,hG,_,hback⟩:=Inv.frame (pre:=[Tok.res cx β (.pmap q kv)]) (rest:=rest.map (Tok.res cx β)++fr) (hH.aY hp);obtain⟨G1,G2,rfl,⟨r,es,cl,g1,rfl,g3,g4⟩,rfl,_⟩:=hG;obtain⟨es',cl',g5,g6⟩:=zk (P:=P) (dst:=dst) (ty:=ty) (pos:=pos) (aft:=aft) (gd:=gd) (k1.trans (d1.1.trans g1)) (k2.trans hk2) k3 e1 e2 g3 g4
   refine⟨_,_,.inl rfl,g5,hback _ [_] ⟨⟨rfl,rfl,rfl,by simp,fun y hy hn=> ?_⟩,[r],⟨[r],[],rfl,⟨r,es',cl',g1,rfl,?_,g6⟩,rfl,by simp⟩,fun b hb=>.inl (by simpa using hb)⟩⟩
   .simp only[qS,qX]at hn;simp[Array.getElem?_setIfInBounds,Ne.symm hn]
   .have:=(Array.getElem?_eq_some_iff.1 g3).1;simp[Array.getElem?_setIfInBounds,this]
  .exact h.elim
 .rename_i as0 ts;split at h
  .rename_i x t hx0 ht0;have har:as0= #[x]:=by simpa using congrArg List.toArray hx0
   have hty:ts= #[t]:=by simpa using congrArg List.toArray ht0
   subst har hty;split at h
   .rename_i e s u0 q s2 lo k hl hx;split at h
    .rename_i z hle;obtain⟨e1,s1,u,xs,us,rest,h3,hp⟩:=aH h;cases hb:(Nat.beq e1 e&&Nat.beq s1 s&&Nat.beq s2 s&&eG ((eH z).map iO) (aR u)&&Nat.beq (aR u).length s)with
     |false=>rw[hb]at h3;exact h3.elim
     |true=>
      rw[hb]at h3;simp only[qD]at hb;have c1:=ak hb.1.1.1.1;have c2:=ak hb.1.1.1.2;have c3:=ak hb.1.1.2;subst c1 c2 c3;obtain⟨hk,h4⟩:=h3;refine⟨_,h4,fun cx β n fr a w E hg hH=> ?_⟩;obtain⟨v1,h1,d1⟩:=aj E hg hx;have hI:=hH.aY hp;obtain⟨w',hrun,hI'⟩:=BS (P:=P) (dst:=dst) (ty:=ty) (pos:=pos) (aft:=aft) (gd:=gd) hti hl hle hb.1.2 (ak hb.2) (dh hI).1 h1 d1 hk hI;exact⟨_,w',.inr ⟨_,rfl⟩,hrun,hI'⟩
    .exact h.elim
   .exact h.elim
  .exact h.elim
 .exact h.elim
theorem xW(hti:bE P ti=true){t e:Nat}{u u0:U}(hl:lk ti t=some (.sl e 1 u0))(hf:bf u=true){x y:Operand}{h lo k:Nat}{xs ys:List (El u)}{us vs:aO}{R:List aM}{A:Option Addr}{b m c c' q cq:Nat}
  (hx:a.eval x=.slice A k c') (hb:0<k->A=some ⟨b,lo,none⟩/\β h=.slice (some ⟨b,0,none⟩) m c) (hle:lo+k<=xs.length) {B:Option Addr}
  (hy:a.eval y=.slice B q cq) (hq:ys.length=q) (hs:Src w 1 B q vs) (ht:TN w (ys.flatMap (enc u)) [] vs)
  (H:Inv cx.w0 cx.F0 w (Tok.res cx β (.row h e 1 u xs us)::R)):
  ∃w',(execOp a.eval ⟨dst,.call ⟨.builtin .copy, #[x,y], #[t,t]⟩,ty,pos,aft,gd⟩).run P w=.ok (.value (.int .i64 (Nat.min q k:Nat))) w'/\Inv cx.w0 cx.F0 w' (Tok.res cx β (.row h e 1 u (nJ xs lo ys (Nat.min q k)) [])::R):=by
 have hE:=dR hti hl;obtain⟨qi,zz,k1,k2,k3,k4,k5⟩:=hE.i;have hsz:(P.info? e).map (·.size)=some 1:=by rw[k1,Option.map_some,k3]
 by_cases h0:Nat.min q k=0
 .refine⟨w,?_,?_⟩
  .have hr:=run_copy_none (P:=P) w t t ty e A B k c' q cq hE.u hsz h0;rw[h0];simp[execOp,hx,hy,resolve,invoke,builtin,hr];rfl
  .rw[h0];have e1:nJ xs lo ys 0=xs:=by unfold nJ;simp
   rw[e1];exact mM H
 .have hm1:Nat.min q k<=q:=Nat.min_le_left _ _;have hm2:Nat.min q k<=k:=Nat.min_le_right _ _;generalize hn:Nat.min q k=n at*;obtain⟨rfl,hbh⟩:=hb (by omega);obtain⟨ad,rfl,hat⟩:=hs.at_ (by omega);have hvl:vs.length=q:=by have:=hs.len;omega
  obtain⟨hus,G0⟩:=dh H;have G:=G0.kU;rw[hbh]at G;have hfl:(xs.flatMap (enc u)).length=xs.length*1:=by rw[aC,hus]
  have hm:xs.length=m:=by
   obtain⟨F,⟨bs,us,_,hg⟩,_⟩:=G.take1;obtain⟨A',c2,bs',e1,_⟩:=hg.res hfl;injection e1 with _ e1 _
   exact e1.symm
  subst hm
  have G1:Inv cx.w0 cx.F0 w (Gr (.slice (some ⟨b,0,none⟩) xs.length c) e 1 xs.length ([]++(xs.flatMap (enc u)++[]))::R):=by
   rw[List.nil_append,qS];exact G
  obtain⟨ws,O⟩:=G1.DK (by omega);obtain⟨cur,hr,hcs⟩:=O.qd 0 rfl (k:=0) rfl;obtain⟨F,hD⟩:=O.mem 1 rfl;have hT:TN w (xs.flatMap (enc u)) F ws:=hD.1;have hwl:ws.length=xs.length:=by rw[hT.length,hfl];omega
  have hcl:(vs.take n).length=n:=by rw[List.length_take];omega
  have hrun:=run_copy_cells (P:=P) w t t ty e b lo k c' ad q cq (vs.take n) hE.u hsz (by rw[hcl,hn])
   (fun j v hj=>hat j v (by rw[List.getElem?_take]at hj;split at hj;exact hj;cases hj))
   (fun j hj=>by rw[cell_of_row w b _ cur e (0,0) hr,Array.getElem?_eq_getElem (by omega)];rfl)
   (fun j hj=>iA hr _) (fun v hv=>List.all_eq_true.1 hs.one v (List.mem_of_mem_take hv))
  rw[hcl]at hrun;refine⟨w.setCells b lo (vs.take n),?_,?_⟩
  .simp[execOp,hx,hy,resolve,invoke,builtin,hrun];rfl
  .have hxs:xs=xs.take lo++(xs.drop lo).take n++xs.drop (lo+n):=by
    rw[qF,<-List.drop_drop,List.take_append_drop,List.take_append_drop]
   have hall:∀zs:List (El u),∀d∈zs.flatMap (enc u),∃x,d=.v x:=fun zs d hd=>by
    obtain⟨z,_,hz⟩:=List.mem_flatMap.1 hd;exact o9 u z hf d hz
   have l1:(xs.take lo).length=lo:=by rw[List.length_take];omega
   have l2:((xs.drop lo).take n).length=n:=by rw[List.length_take,List.length_drop];omega
   have hT2:=hT;rw[hxs,List.flatMap_append,List.flatMap_append]at hT2;obtain⟨b1,b2,u12,u3,hw1,_,t12,t3⟩:=TN.append.1 hT2;obtain⟨b3,b4,u1,u2,hw2,_,t1,t2⟩:=TN.append.1 t12;have z1:u1.length=lo:=by rw[t1.length,aC,hus,l1];omega
   have z2:u2.length=n:=by rw[t2.length,aC,hus,l2];omega
   subst hw2;have hy2:ys=ys.take n++ys.drop n:=(List.take_append_drop n ys).symm;have ht2:=ht;rw[hy2,List.flatMap_append]at ht2;obtain⟨b5,b6,v1,v2,hv1,_,t4,_⟩:=TN.append.1 ht2;have z3:v1.length=n:=by rw[t4.length,aC,hus,List.length_take];omega
   have hv2:vs.take n=v1:=by rw[hv1,<-z3,List.take_left]
   rw[hv2]
   have O1:=O.qc 0 rfl (k:=0) rfl (j:=lo) (vs:=v1) (us':=u1++v1++u3) (by rw[Nat.ble_eq];omega) (by
    rw[hw1,show lo+v1.length=(u1++u2).length by rw[qA];omega,List.drop_left,qF u1 u2 u3,<-z1,List.take_left])
   have O2:Inv cx.w0 cx.F0 (w.setCells b lo v1) (xG b c e 1 xs.length [] (u1++v1++u3) []::aL ws (xs.flatMap (enc u))::R):=by
    have:=O1;rw[Nat.zero_add]at this;exact this
   have O3:=O2.drop 1 rfl
   have tt:TN (w.setCells b lo v1) ((nJ xs lo ys n).flatMap (enc u)) [] (u1++v1++u3):=by
    unfold nJ;rw[List.flatMap_append,List.flatMap_append];exact TN.append.2 ⟨[],[],_,_,rfl,rfl,TN.append.2 ⟨[],[],_,_,rfl,rfl,(t1.flat (hall _)).2 _,(t4.flat (hall _)).2 _⟩,(t3.flat (hall _)).2 _⟩
   have O4:=(Inv.Au O3 tt (hall _)).perm (List.Perm.swap _ _ _);have O5:=(O4.shut).nR;rw[List.nil_append,qS]at O5
   have hlen:(nJ xs lo ys n).length=xs.length:=by
    unfold nJ;rw[qA,qA,l1,List.length_take,List.length_drop];omega
   exact O5.weak fun F hp=>⟨F,fun _ h=>h,hus,by rw[hbh,hlen];exact hp⟩
theorem Ai(hti:bE P ti=true){d:Nat}{args:Array Operand}{tys:Array TypeId}{K:SV->List Tok->Prop}
  (h:BU ti env rs g ⟨.builtin .copy,args,tys⟩ K):∃v rs',K v rs'/\nI P env rs g d ⟨dst,.call ⟨.builtin .copy,args,tys⟩,ty,pos,aft,gd⟩ v rs':=by
 unfold BU at h;simp only at h;split at h
 .rename_i x y t t' hx hy;have har:args= #[x,y]:=by simpa using congrArg List.toArray hx
  have hty:tys= #[t,t']:=by simpa using congrArg List.toArray hy
  subst har hty;cases hb:Nat.beq t t' with
  |false=>rw[hb]at h;exact h.elim
  |true=>
   rw[hb]at h;have:=ak hb;subst this;simp only[qG]at h;split at h
   .rename_i e s u0 q e2 ys hl hx hy;obtain⟨e1,s1,u1,xs,us1,rs1,h3,p1⟩:=aH h;cases hc:(bf e2&&(Nat.beq e1 e&&Nat.beq s1 s&&Nat.beq s 1))with
    |false=>rw[hc]at h3;exact h3.elim
    |true=>
     rw[hc]at h3;simp only[qD]at hc;obtain⟨hf,⟨c1,c2⟩,c3⟩:=hc;have c1:=ak c1;have c2:=ak c2;have c3:=ak c3;subst c1 c2 c3;simp only[qG]at h3;split at h3
     .rename_i hu;have heu:=aB hu;subst heu;refine⟨_,_,h3,fun cx β n fr a w E hg hH=> ?_⟩;obtain⟨v1,k1,d1⟩:=aj E hg hx;obtain⟨v2,k2,d2⟩:=aj E hg hy;unfold Den at d1 d2;obtain⟨rfl,_⟩:=d1;have H:Inv cx.w0 cx.F0 w (Tok.res cx β (.row q e1 1 e2 xs us1)::(rs1.map (Tok.res cx β)++fr)):=hH.aY p1;obtain⟨hus,G0⟩:=dh H;have G:=G0.kU;have hfl:(xs.flatMap (enc e2)).length=xs.length*1:=by rw[aC,hus]
      obtain⟨A,c',bs,hv,_⟩:=G.Dv 0 rfl hfl;obtain⟨B,cq,vs,rfl,hsr,HD⟩:=ql hf d2 H;obtain⟨F,hD⟩:=HD.mem 0 rfl;have hT:TN w (ys.flatMap (enc e2)) F vs:=hD.1;have hFn:=iy e2 hf ys hT;subst hFn;rw[hus]at hsr
      have fin:∀b m c:Nat,(0<xs.length->A=some ⟨b,0,none⟩/\β q=.slice (some ⟨b,0,none⟩) m c)->Ab P cx β fr a w d ⟨dst,.call ⟨.builtin .copy, #[x,y], #[t,t]⟩,ty,pos,aft,gd⟩ (.int .i64 (Nat.min ys.length xs.length:Nat)) (.row q e1 1 e2 (nJ xs 0 ys (Nat.min ys.length xs.length)) []::rs1):=fun b m c hb=>by
       obtain⟨w',hrun,hI'⟩:=xW (dst:=dst) (ty:=ty) (pos:=pos) (aft:=aft) (gd:=gd) hti hl hf (k1.trans hv) hb (by omega) k2 rfl hsr hT H;exact .inl ⟨_,w',β,hrun,fun _ _=>rfl,by unfold Den;rfl,hI'⟩
      by_cases h0:0<xs.length
      .obtain⟨b,c,hv2⟩:=G.Cj 0 rfl h0
       have hA:A=some ⟨b,0,none⟩:=by
        rw[hv]at hv2;injection hv2
       exact fin b xs.length c fun _=>⟨hA,hv2⟩
      .exact fin 0 0 0 fun h=>absurd h h0
     .exact h3.elim
   .rename_i e s u0 q s2 lo m k s3 lo2 m2 hl hx hy;cases hc0:(Nat.beq q k&&(Nat.beq s2 s&&Nat.beq s3 s))with
    |false=>rw[hc0]at h;exact h.elim
    |true=>
     rw[hc0]at h;simp only[qD]at hc0;obtain⟨c4,c5,c6⟩:=hc0;have c4:=ak c4;have c5:=ak c5;have c6:=ak c6;subst c4 c5 c6;simp only[qG]at h;obtain⟨e1,s1,u1,xs,us1,rs1,h3,p1⟩:=aH h;cases hc:(bf u1&&(Nat.beq e1 e&&Nat.beq s1 s3&&Nat.beq s3 1))with
     |false=>rw[hc]at h3;exact h3.elim
     |true=>
      rw[hc]at h3;simp only[qD]at hc;obtain⟨hf,⟨c1,c2⟩,c3⟩:=hc;have c1:=ak c1;have c2:=ak c2;have c3:=ak c3;subst c1 c2;simp only[qG]at h3;obtain⟨⟨hle,hle2⟩,h4⟩:=h3;refine⟨_,_,h4,fun cx β n fr a w E hg hH=> ?_⟩;obtain⟨v1,k1,d1⟩:=aj E hg hx;obtain⟨v2,k2,d2⟩:=aj E hg hy;subst c3;unfold Den at d1 d2;obtain⟨b,z1,mm,c,o,c',q1,q2,rfl,q4,_⟩:=d1;obtain⟨b2,z2,mm2,c2,o2,c2',r1,r2,rfl,r4,_⟩:=d2;have hz1:=sV (hH.aY p1) q1;have hz2:=sV (hH.aY p1) r1;subst hz1 hz2;rw[Nat.zero_add]at q4 r4
      rw[q1]at r1;injection r1 with r1 _ _
      injection r1 with r1
      injection r1 with r1 _
      subst r1;have H:Inv cx.w0 cx.F0 w (Tok.res cx β (.row q e1 1 u1 xs us1)::(rs1.map (Tok.res cx β)++fr)):=hH.aY p1;obtain⟨vs,hsr,hT⟩:=wB hf hle2 H q1 r4;have hlen:((xs.drop lo2).take m2).length=m2:=by rw[List.length_take,List.length_drop];omega
      obtain⟨w',hrun,hI'⟩:=xW (dst:=dst) (ty:=ty) (pos:=pos) (aft:=aft) (gd:=gd) (b:=b) (m:=mm) (c:=c) hti hl hf k1 (fun hm=>⟨by rw[q4 hm,Nat.mul_one],q1⟩) hle k2 hlen hsr hT H;exact .inl ⟨_,w',β,hrun,fun _ _=>rfl,by unfold Den;rfl,hI'⟩
   .exact h.elim
 .exact h.elim
theorem iW(hti:bE P ti=true){d:Nat}(hd:d<1000000)(hf:au d env rs=true){op:Op}{K:SV->List Tok->Prop}(h:gG P ti env rs g d op K):
  ∃v rs',K v rs'/\nI P env rs g d ⟨dst,op,ty,pos,aft,gd⟩ v rs':=by
 unfold gG at h;split at h
 .rename_i t;split at h<;>first|exact h.elim|skip
  all_goals (rename_i hl;exact⟨_,_,h,fun cx β n fr a w E hg hH=>xu hti hd hf hH hl⟩)
 .rename_i t x;split at h
  .rename_i s hx;have hnm:=wL (rs:=rs) hx hf;split at h
   .rename_i l;cases hb:oM l with
    |false=>rw[hb]at h;exact h.elim
    |true=>
     rw[hb]at h;refine⟨_,_,h,fun cx β n fr a w E hg hH=> ?_⟩;obtain⟨y,h1,d1⟩:=aj E hg hx;have d1':=d1;unfold Den at d1';obtain⟨us,rfl,d2⟩:=d1';exact wo hd hf hH h1 d1 rfl d2 (lg hb d2) (fun q hq=>hnm q (by simpa[SV.names]using hq))
   .cases hb:rH s with
    |false=>rw[hb]at h;exact h.elim
    |true=>
     rw[hb]at h;refine⟨_,_,h,fun cx β n fr a w E hg hH=> ?_⟩;obtain⟨y,h1,d1⟩:=aj E hg hx;have h1':=kZ hb d1;exact wo hd hf hH h1 d1 (iB h1') (ah.one d1) (by simp[h1']) (fun q hq=>hnm q (by simpa[bH]using hq))
  .exact h.elim
 .rename_i t m ps;split at h
  .rename_i e s u hl;split at h
   .rename_i css hp;cases hb:(Nat.beq css.length m&&Nat.ble (m*s) 16777216)with
    |false=>rw[hb]at h;exact h.elim
    |true=>
     rw[hb]at h;rw[qD]at hb;simp only[qG]at h;cases hh:(yI css&&Nat.beq (hol s).size s)with
     |true=>
      rw[hh]at h;rw[qD]at hh;obtain⟨xs,rs',h1,h2⟩:=mX (K:=fun xs rs'=>K (.sl d) (.row d e s (hol s) xs []::rs')) hti hd hf hl (ak hh.2) hp (ak hb.1) (by simpa using hb.2) h;exact⟨_,_,h1,h2⟩
     |false=>
      rw[hh]at h;obtain⟨xs,rs',h1,h2⟩:=mX (K:=fun xs rs'=>K (.sl d) (.row d e s u xs []::rs')) hti hd hf hl (bV hti hl).2.2 hp (ak hb.1) (by simpa using hb.2) h;exact⟨_,_,h1,h2⟩
   .exact h.elim
  .exact h.elim
 .rename_i t;split at h
  .rename_i u hl;refine⟨_,_,h,fun cx β n fr a w E hg hH=> ?_⟩;have hA:=fV (β:=β) hd (.map (some w.heap.size));refine .inl ⟨.map (some w.heap.size),w.alloc (.map #[] 0),up β d (.map (some w.heap.size)),rfl,hA,by unfold Den;exact⟨(aV _ _).symm,_,rfl⟩,?_⟩;have h2:=hH.beta (β':=up β d (.map (some w.heap.size))) fun t ht g hg=>hA g (dK hf t ht g hg)
   exact Inv.new (ss:=[Tok.res cx (up β d (.map (some w.heap.size))) (.map d u [])]) h2 ⟨iH.pY ((Below.refl _ _).alloc (Nat.le_refl _) _),[w.heap.size],⟨[w.heap.size],[],rfl,⟨(tK hti hl).1,w.heap.size,[],0,aV _ _,rfl,heap_alloc_new w _,rfl⟩,rfl,by simp⟩,fun b hb=>.inr (by simp at hb;omega)⟩
  .rename_i hl;refine⟨_,_,h,fun cx β n fr a w E hg hH=> ?_⟩;have hA:=fV (β:=β) hd (.map (some w.heap.size));refine .inl ⟨.map (some w.heap.size),w.alloc (.map #[] 0),up β d (.map (some w.heap.size)),rfl,hA,by unfold Den;exact⟨(aV _ _).symm,_,rfl⟩,?_⟩;have h2:=hH.beta (β':=up β d (.map (some w.heap.size))) fun t ht g hg=>hA g (dK hf t ht g hg)
   exact Inv.new (ss:=[Tok.res cx (up β d (.map (some w.heap.size))) (.pmap d [])]) h2 ⟨iH.pY ((Below.refl _ _).alloc (Nat.le_refl _) _),[w.heap.size],⟨[w.heap.size],[],rfl,⟨w.heap.size,[],0,aV _ _,rfl,heap_alloc_new w _,rfl⟩,rfl,by simp⟩,fun b hb=>.inr (by simp at hb;omega)⟩
  .exact h.elim
 .rename_i t x y;split at h
  .rename_i e s u i j hl hx hy;split at h
   .rename_i z hle;cases hb:(eG ((eH z).map iO) (aR u)&&Nat.beq (aR u).length s)with
    |false=>rw[hb]at h;exact h.elim
    |true=>
     rw[hb]at h;rw[qD]at hb;obtain⟨⟨h0,h1,h2⟩,hK⟩:=h;refine⟨_,_,hK,fun cx β n fr a w E hg hH=> ?_⟩;obtain⟨v1,e1,d1⟩:=aj E hg hx;obtain⟨v2,e2,d2⟩:=aj E hg hy;rw[ay d1]at e1;rw[ay d2]at e2;exact zI hti hd hf hH hl hle hb.1 (ak hb.2) e1 e2 h0 h1 h2
   .exact h.elim
  .exact h.elim
 .rename_i c;obtain⟨ce,ar,tys⟩:=c;split at h
  .rename_i y hc;simp only at hc;subst hc;split at h
   .rename_i f l vs hy hvs;obtain⟨v,rs',h1,h2⟩:=Cc (P:=P) (dst:=dst) (ty:=ty) (pos:=pos) (aft:=aft) (gd:=gd) (tys:=tys) hd hf hy hvs h;exact⟨v,rs',h1,h2⟩
   .exact h.elim
  .rename_i hc;simp only at hc;subst hc;exact Af hti hd hf h
  .rename_i hc;simp only at hc;subst hc;exact Ai hti h
  .exact h.elim
 .rename_i t x y;split at h
  .rename_i e s u0 q i hl hx hy;obtain⟨e1,s1,u,xs,rs1,h3,p1⟩:=nk h;cases hc:(Nat.beq e1 e&&Nat.beq s1 s)with
   |false=>rw[hc]at h3;exact h3.elim
   |true=>
    rw[hc]at h3;simp only[qD]at hc;have c1:=ak hc.1;have c2:=ak hc.2;subst c1 c2;obtain⟨⟨h0,h1⟩,hK⟩:=h3;refine⟨_,_,hK,fun cx β n fr a w E hg hH=> ?_⟩;obtain⟨v1,e1,d1⟩:=aj E hg hx;obtain⟨v2,e2,d2⟩:=aj E hg hy;rw[ay d2]at e2;refine xw hti hd hl (bn hf fun t ht=> ?_) e1 d1 e2 h0 h1 (wC p1 hH);rcases p1 with p1|⟨_,_,p1⟩
    .exact p1.mem_iff.2 (List.mem_cons_of_mem _ ht)
    .exact p1.mem_iff.2 (List.mem_cons_of_mem _ ht)
  .exact h.elim
 .rename_i t x y;split at h
  .rename_i e s u0 q i hl hx hy;rcases h with h|h
   .obtain⟨e1,s1,u,xs,us,rs1,h3,p1⟩:=aH h;cases hc:(Nat.beq e1 e&&Nat.beq s1 s)with
    |false=>rw[hc]at h3;exact h3.elim
    |true=>
     rw[hc]at h3;simp only[qD]at hc;have c1:=ak hc.1;have c2:=ak hc.2;subst c1 c2;obtain⟨⟨h0,h1⟩,hK⟩:=h3;refine⟨_,_,hK,fun cx β n fr a w E hg hH=> ?_⟩;obtain⟨v1,e1,d1⟩:=aj E hg hx;obtain⟨v2,e2,d2⟩:=aj E hg hy;rw[ay d2]at e2;exact BX hti hd hl (bn hf fun t ht=>p1.mem_iff.2 (List.mem_cons_of_mem _ ht)) e1 d1 e2 h0 h1 (hH.aY p1)
   .split at h
    .rename_i t3 s3 u2 ys us3 hrow;cases hc:Nat.beq s3 s with
     |false=>rw[hc]at h;exact h.elim
     |true=>
      rw[hc]at h;have c1:=ak hc;subst c1;obtain⟨⟨h0,h1,h2⟩,hK⟩:=h;refine⟨_,_,hK,fun cx β n fr a w E hg hH=> ?_⟩;obtain⟨v1,e1,d1⟩:=aj E hg hx;obtain⟨v2,e2,d2⟩:=aj E hg hy;rw[ay d2]at e2;unfold Den at d1;obtain⟨d1,_⟩:=d1;obtain⟨b,z0,c,k2,k3⟩:=zA hH hrow h2;simp only at k2 k3;have hi:i=((i.toNat:Nat):Int):=by omega
      refine .inl ⟨_,w,β,oC (i:=i.toNat) (e1.trans (d1.trans k2)) (e2.trans (by rw[<-hi])) (bV hti hl).2.1 (by omega),fun _ _=>rfl,?_,hH⟩;unfold Den;exact⟨b,z0,ys.length,c,z0,c,k2,by omega,rfl,fun _=>by simp,by omega⟩
    .exact h.elim
  .rename_i e s u0 q s1 lo m i hl hx hy;cases hc:Nat.beq s s1 with
   |false=>rw[hc]at h;exact h.elim
   |true=>
    rw[hc]at h;have c1:=ak hc;subst c1;obtain⟨⟨h0,h1⟩,hK⟩:=h;refine⟨_,_,hK,fun cx β n fr a w E hg hH=> ?_⟩;obtain⟨v1,e1,d1⟩:=aj E hg hx;obtain⟨v2,e2,d2⟩:=aj E hg hy;rw[ay d2]at e2;unfold Den at d1;obtain⟨b,z0,mm,c,o,c',q1,q2,rfl,q4,q5⟩:=d1;have hi:i=((i.toNat:Nat):Int):=by omega
    refine .inl ⟨_,w,β,oC (i:=i.toNat) e1 (e2.trans (by rw[<-hi])) (bV hti hl).2.1 (by omega),fun _ _=>rfl,?_,hH⟩;unfold Den;exact⟨b,z0,mm,c,o,c',q1,by omega,rfl,fun hn=>q4 (by omega),by omega⟩
  .rename_i e s u0 e2 ys i hl hx hy;cases hc:Nat.beq s e2.size with
   |false=>rw[hc]at h;exact h.elim
   |true=>
    rw[hc]at h;have c1:=ak hc;subst c1;obtain⟨⟨h0,h1⟩,hK⟩:=h;refine⟨_,_,hK,fun cx β n fr a w E hg hH=> ?_⟩;obtain⟨v1,e1,d1⟩:=aj E hg hx;obtain⟨v2,e2',d2⟩:=aj E hg hy;rw[ay d2]at e2';unfold Den at d1;obtain⟨A,c,rfl⟩:=d1.slice;have hc:=uP d1;have hi:i=((i.toNat:Nat):Int):=by omega
    refine .inl ⟨_,w,β,wY (j:=i.toNat) e1 (e2'.trans (by rw[<-hi])) (bV hti hl).2.1 (by omega),fun _ _=>rfl,?_,hH⟩;unfold Den;exact Ba d1 (by omega)
  .exact h.elim
 .exact h.elim
end
end Go.Tr
namespace Go.Tr
open Go Go.RowKit
universe u
theorem mem_iff{t:Nat}:∀{l:aK},mem t l=true↔t∈l
 |[]=>by simp[mem]
 |x::l=>by
  unfold mem;cases h:Nat.beq t x with
  |true=>have:=ak h;subst this;simp
  |false=>
   have:t≠x:=fun e=>by subst e;simp at h
   simp[this,mem_iff (l:=l)]
theorem mh{t:Nat}{l:aK}:mem t l=false↔t∉l:=by
 rw[<-mem_iff];cases mem t l<;>simp
theorem kr{t:Nat}:∀{l:List Oper} {r:aK},t∈cO l r↔t∈cO l []\/t∈r
 |[],r=>by simp[cO]
 |o::l,r=>by
  unfold cO;cases o.dst with
  |none=>exact kr (l:=l)
  |some d=>
   simp only[List.mem_cons];rw[kr (l:=l) (r:=r)];constructor
   .rintro(h|h|h)<;>simp[h]
   .rintro((h|h)|h)<;>simp[h]
theorem qy{t:Nat}:∀{c:Code} {r:aK},t∈wr c r↔t∈wr c []\/t∈r:=by
 intro c
 induction c with
 |seq a b iha ihb=>
  intro r;unfold wr;rw[iha,iha (r:=wr b []),ihb];constructor
  .rintro(h|h|h)<;>simp[h]
  .rintro((h|h)|h)<;>simp[h]
 |cond c a b iha ihb=>
  intro r;unfold wr;rw[iha,iha (r:=wr b []),ihb];constructor
  .rintro(h|h|h)<;>simp[h]
  .rintro((h|h)|h)<;>simp[h]
 |block id a iha=>intro r;unfold wr;exact iha
 |loop a iha=>intro r;unfold wr;exact iha
 |region id ops d=>intro r;unfold wr;exact kr
 |_=>intro r;simp[wr]
section
variable {cx:Cx}{β β' β'':Nat->Value}{P:Program}{ti:TI}{n:Nat}{a a' a'':Act}{env env':Ev}{rs:List Tok}{fr:List aM}{w w':World}{g:Option (Nat×Bool)}{v:SV}
def kC(wl:List Nat)(β β':Nat->Value):Prop:=∀g,g % 1000000∉wl->g % 1000000<20000->β' g=β g
def nE(wl:List Nat)(a a':Act):Prop:=∀t,t∉wl->a'.tmps[t]? =a.tmps[t]?
theorem kC.refl(wl:aK)(β:Nat->Value):kC wl β β:=fun _ _ _=>rfl
theorem nE.refl(wl:aK)(a:Act):nE wl a a:=fun _ _=>rfl
theorem kC.trans{wl:aK}(h:kC wl β β')(k:kC wl β' β''):kC wl β β'':=fun g hg hl=>(k g hg hl).trans (h g hg hl)
theorem nE.trans{wl:aK}(h:nE wl a a')(k:nE wl a' a''):nE wl a a'':=fun g hg=>(k g hg).trans (h g hg)
theorem kC.mono{wl ml:aK}(h:kC wl β β')(hs:∀t∈wl,t∈ml):kC ml β β':=fun g hg hl=>h g (fun hm=>hg (hs _ hm)) hl
theorem nE.mono{wl ml:aK}(h:nE wl a a')(hs:∀t∈wl,t∈ml):nE ml a a':=fun g hg=>h g fun hm=>hg (hs _ hm)
theorem bZ(a:Act){d t:Nat}(v:Value)(h:t≠d):(a.put (some d) v).tmps[t]? =a.tmps[t]? :=by
 show(a.tmps.setIfInBounds d v)[t]? =_;rw[Array.getElem?_setIfInBounds_ne (fun e=>h e.symm)]
theorem jd(a:Act){d:Nat}(v:Value)(h:d<a.tmps.size):(a.put (some d) v).tmps[d]? =some v:=by
 show(a.tmps.setIfInBounds d v)[d]? =_;simp[h]
def NG(env:Ev)(dd:List Nat):Prop:=∀t d b x,lk env t=some (.gd d b x)->d∈dd
theorem bW.put(E:bW cx β n a env){d:Nat}{v:SV}{x:Value}(hd:d<n)(hng:∀t b y,lk env t≠some (.gd d b y))(hv:bK cx β (a.put (some d) x) v x):bW cx β n (a.put (some d) x) ((d,v)::env) where
 size:=by simpa[Act.put]using E.size
 defers:=E.defers
 get t s hl:=by
  rw[aA]at hl;split at hl
  .rename_i e;subst e;injection hl with hl
   subst hl;exact⟨x,jd a x (by rw[E.size];exact hd),hv⟩
  .rename_i e;obtain⟨y,h1,h2⟩:=E.get t s hl;refine⟨y,by rw[bZ a x e];exact h1,?_⟩;cases s
   case gd d1 b1 z=>
    have hne:d1≠d:=fun e=>by subst e;exact hng _ _ _ hl
    show((a.put (some d) x).tmps[d1]? =some (Value.bool b1)->Den cx β z y)/\((a.put (some d) x).tmps[d1]? ≠some (Value.bool b1)->y=undef);rw[bZ a x hne];exact h2
   all_goals exact h2
theorem bW.beta(E:bW cx β n a env)(h:∀t s,lk env t=some s->∀g∈s.names [],β' g=β g):bW cx β' n a env:=⟨E.size,E.defers,fun t s hl=>by
 obtain⟨x,h1,h2⟩:=E.get t s hl;refine⟨x,h1,?_⟩;cases s
 case gd d b y=>
  have h3:(a.tmps[d]? =some (Value.bool b)->Den cx β y x)/\(a.tmps[d]? ≠some (Value.bool b)->x=undef):=h2;exact show(a.tmps[d]? =some (Value.bool b)->Den cx β' y x)/\(a.tmps[d]? ≠some (Value.bool b)->x=undef) from⟨fun hh=>(h3.1 hh).congr (fun g hg=>h t _ hl g (by simpa[SV.names]using hg)),h3.2⟩
 all_goals exact bK.of (Den.congr (show Den cx β _ x from h2) (h t _ hl))⟩
theorem bW.sub(E:bW cx β n a env)(h:∀t s,lk env' t=some s->lk env t=some s):bW cx β n a env':=⟨E.size,E.defers,fun t s hl=>E.get t s (h t s hl)⟩
theorem NG.cons{dd:aK}(h:NG env dd){d:Nat}{v:SV}(hv:∀d' b x,v=.gd d' b x->d'∈dd):NG ((d,v)::env) (d::dd):=fun t d' b x hl=>by
 rw[aA]at hl;split at hl
 .injection hl with hl
  exact List.mem_cons_of_mem _ (hv _ _ _ hl)
 .exact List.mem_cons_of_mem _ (h t d' b x hl)
structure HH(cx:Cx)(n:Nat)(fr:List aM)(β:Nat->Value)(a:Act)(w:World)(env:Ev)(rs:List Tok):Prop where
 E:bW cx β n a env
 H:Inv cx.w0 cx.F0 w (rs.map (Tok.res cx β)++fr)
theorem fE{ops:List Oper}{j d:Nat}(h:bT ops j=some d):(ops.toArray[j]?).bind (·.dst)=some d:=by
 unfold bT at h;rw[jW]at h;simp only[List.getElem?_toArray];cases hj:ops[j]? with
 |none=>rw[hj]at h;simp at h
 |some o=>rw[hj]at h;simpa using h
theorem dY(E:bW cx β n a env):∀(k d:Nat) (b c:Bool),dQ env k d b=some c->a.tmps[d]? =some (.bool b)->c=true:=by
 intro k
 induction k with
 |zero=>intro d b c h;simp[dQ]at h
 |succ k ih=>
  intro d b c h ht;unfold dQ at h;split at h
  .rename_i c0 hl;obtain⟨y,h1,h2⟩:=E.get d _ hl;have hy:=bL (show Den cx β (.bool c0) y from h2);rw[h1,hy]at ht;injection ht with ht
   injection ht with ht
   subst ht;cases c0<;>simp_all
  .rename_i d' b' c0 hl;obtain⟨y,h1,h2⟩:=E.get d _ hl;unfold bK at h2;rw[h1]at ht;injection ht with ht
   have hg:a.tmps[d']? =some (.bool b'):=by
    refine Classical.byContradiction fun hn=> ?_
    have:=h2.2 hn;rw[ht]at this;simp[undef]at this
   have hy:=bL (h2.1 hg);rw[ht]at hy;injection hy with hy
   subst hy;split at h
   .rename_i e he;have:=ih d' b' e he hg;subst this;cases b<;>simp_all
   .cases h
  .cases h
theorem jh(E:bW cx β n a env):∀(k d:Nat) (b c:Bool),dQ env k d b=some c->a.tmps[d]? ≠some (.bool b)->c=false:=by
 intro k
 induction k with
 |zero=>intro d b c h;simp[dQ]at h
 |succ k ih=>
  intro d b c h ht;unfold dQ at h;split at h
  .rename_i c0 hl;obtain⟨y,h1,h2⟩:=E.get d _ hl;have hy:=bL (show Den cx β (.bool c0) y from h2);rw[h1,hy]at ht;have hne:c0≠b:=fun e=>ht (by rw[e])
   cases b<;>cases c0<;>simp_all
  .rename_i d' b' c0 hl;obtain⟨y,h1,h2⟩:=E.get d _ hl;unfold bK at h2;split at h
   .rename_i e he
    by_cases hg:a.tmps[d']? =some (.bool b')
    .have hy:=bL (h2.1 hg);rw[h1,hy]at ht;have hne:c0≠b:=fun e=>ht (by rw[e])
     cases b<;>cases c0<;>cases e<;>simp_all
    .have:=ih d' b' e he hg;subst this;cases b<;>simp_all
   .cases h
  .cases h
theorem fQ{opsA:Array Oper}{Q:Exit->Act->World->Prop}{o:Oper}{rest:List Oper}
  (h1:Region.wanted o (yielded opsA a.tmps)=true->(∃v w',(execOp a.eval o).run P w=.ok (.value v) w'/\wpList P opsA Q rest (a.put o.dst v) w')\/(∃w',(execOp a.eval o).run P w=.ok .skip w'/\wpList P opsA Q rest (a.put o.dst undef) w')\/(∃f args,(execOp a.eval o).run P w=.ok (.enter f args) w/\Calls P f args w fun e w'=>∃v,e=.returned v/\wpList P opsA Q rest (a.put o.dst v) w'))
  (h2:Region.wanted o (yielded opsA a.tmps)=false->wpList P opsA Q rest (a.put o.dst undef) w):wpList P opsA Q (o::rest) a w:=by
 unfold wpList;cases hw:Region.wanted o (yielded opsA a.tmps)with
 |false=>rw[if_neg (by simp)];exact h2 hw
 |true=>
  rw[if_pos rfl];refine .inl ?_;unfold Oper.wp;rcases h1 hw with⟨v,w',hr,h⟩|⟨w',hr,h⟩|⟨f,args,hr,h⟩
  .rw[hr];exact h
  .rw[hr];exact h
  .rw[hr];refine h.mono fun e w' h=> ?_
   obtain⟨v,rfl,h⟩:=h;exact h
def zX(gc:Option Bool):Prop:=∀c,gc=some c->c=true
theorem lG{gc:Option Bool}(hg:zX gc){p:Prop}(h:pQ gc p):p:=by
 cases gc with
 |none=>exact h
 |some c=>exact h (hg c rfl)
def Gv(P:Program)(cx:Cx)(β:Nat->Value)(fr:List aM)(rs:List Tok)(a:Act)(w:World)(o:Oper)(v:SV):Prop:=
 (∃x,(execOp a.eval o).run P w=.ok (.value x) w/\Den cx β v x)\/(∃f args,(execOp a.eval o).run P w=.ok (.enter f args) w/\Calls P f args w fun e w'=>∃x,e=.returned x/\Den cx β v x/\Inv cx.w0 cx.F0 w' (rs.map (Tok.res cx β)++fr))
def rz(P:Program)(env:Ev)(rs:List Tok)(g:Option (Nat×Bool))(o:Oper)(v:SV):Prop:=∀(cx:Cx) (β:Nat->Value) (n:Nat) (fr:List aM) (a:Act) (w:World),HH cx n fr β a w env rs->dz a g->Gv P cx β fr rs a w o v
theorem uM{gc:Option Bool}:∀{r:R} {K:SV->Prop},rK gc r K->∃v,K v/\(zX gc->nH r v)
 | .no,K,h=>by unfold rK at h;exact h.elim
 | .ok v,K,h=>by unfold rK at h;exact⟨v,h,fun _=>rfl⟩
 | .vc p v,K,h=>by
  unfold rK at h;cases gc with
  |none=>exact⟨v,h.2,fun _=>⟨h.1,rfl⟩⟩
  |some c=>exact⟨v,h.2,fun hg=>⟨h.1 (hg c rfl),rfl⟩⟩
 | .ex f,K,h=>by
  unfold rK at h;obtain⟨k,h⟩:=h;obtain⟨v,h1,h2⟩:=uM (r:=f k) h;exact⟨v,h1,fun hg=>⟨k,h2 hg⟩⟩
theorem jS{cx:Cx}{β:Nat->Value}:∀{l:List SV} {xs:List Int} {us:aO},jR l=some xs->ah cx β l us->us=xs.map (Value.int .i64)
 |[],xs,us,h,hd=>by
  unfold jR at h;injection h with h
  subst h;unfold ah at hd;exact hd
 |s::l,xs,us,h,hd=>by
  unfold ah at hd;obtain⟨v,vs',rfl,h1,h2⟩:=hd;unfold jR at h;split at h
  .rename_i he;cases he
  .rename_i i l' he;injection he with e1 e2
   subst e1 e2;split at h
   .rename_i r hr;injection h with h
    subst h;rw[ay h1,jS hr h2];rfl
   .cases h
  .cases h
theorem lW{t:Nat}(w:World)(d:Nat){xs ys:List Int}(h:fu P t xs.length=true)(hl:ys.length=xs.length):
  (Op.equalIn (d+2) t (.agg (xs.map (Value.int .i64)).toArray) (.agg (ys.map (Value.int .i64)).toArray)).run P w=.ok (bq xs ys) w:=by
 unfold fu at h;simp only[qD,Bool.not_eq_true',beq_iff_eq]at h;obtain⟨h1,h2,h3,h4,h5,h6⟩:=h
 have hu:P.underlying t=some (.struct (P.fieldsOf t)):=by
  split at h3
  .rename_i fs hf;rw[hf];unfold Program.fieldsOf;rw[hf]
  .cases h3
 have hall:=List.all_eq_true.1 h4
 exact eU (P:=P) w d t _ hu h1 rfl (fun q hq=>by
  simp only[List.map_map,List.mem_map,Function.comp]at hq;obtain⟨f,hf,rfl⟩:=hq;have:=hall f hf;simp only[qD]at this;have:=this.2;split at this
  .assumption
  .cases this) xs ys (by
   simp only[qD,beq_iff_eq,List.map_map,qV,h6];refine⟨by rw[<-h5];rfl,?_⟩;rw[List.all_map];refine List.all_eq_true.2 fun f hf=> ?_
   have:=hall f hf;simp only[qD]at this;exact this.1) (by simp[h6,hl])
theorem yh{t n:Nat}(w:World)(h:fu P t n=true):(isAgg t).run P w=.ok true w:=by
 unfold fu at h;simp only[qD,Bool.not_eq_true',beq_iff_eq]at h;obtain⟨h1,h2,h3,h4,h5,h6⟩:=h;split at h3
 .rename_i fs hf;unfold isAgg;rw[Sem.run_bind,run_underlying hf w];rfl
 .cases h3
theorem sN{t n:Nat}(w:World)(h:fu P t n=true)(hs:(match P.info? t with|some i=>i.size==2|none=>false)=true)(cs:Array Value)(o:Nat):(part t cs o).run P w=.ok (.agg (cs.extract o (o+2))) w:=by
 split at hs
 .rename_i i hi;rw[beq_iff_eq]at hs;unfold part sizeOf typeInfo;simp only[Sem.run_bind,yh w h,Result.andThen_ok,if_true,program,hi,Sem.run,pure];simp only[Sem.bind,Sem.pure,hs]
 .cases hs
theorem yw{t:Nat}(w:World){xs ys:List Int}(h:Ao P t xs.length=true)(hl:ys.length=xs.length):
  (Op.equalIn 10000 t (.agg (xs.map (Value.int .i64)).toArray) (.agg (ys.map (Value.int .i64)).toArray)).run P w=.ok (bq xs ys) w:=by
 unfold Ao at h;simp only[qD,Bool.not_eq_true',beq_iff_eq]at h;obtain⟨h1,h2,h3,h4,h5⟩:=h
 have hu:P.underlying t=some (.struct (P.fieldsOf t)):=by
  split at h3
  .rename_i fs hf;rw[hf];unfold Program.fieldsOf;rw[hf]
  .cases h3
 rw[h4]at hl
 match xs,ys,h4,hl with
 |[a,b,c,e],[a',b',c',e'],_,_=>
 rw[run_equalIn_struct w 9999 t _ _ hu h1];split at h5
 .rename_i f g hfg;simp only[qD,beq_iff_eq,bne_iff_ne,ne_eq]at h5;obtain⟨n1,n2,o1,o2,e1,e2,i1,i2⟩:=h5;rw[hfg];have p1:=fun cs=>sN (P:=P) w e1 i1 cs 0
  have p2:=fun cs=>sN (P:=P) w e2 i2 cs 2
  have q1:=lW (P:=P) w 9997 (xs:=[a,b]) (ys:=[a',b']) e1 rfl;have q2:=lW (P:=P) w 9997 (xs:=[c,e]) (ys:=[c',e']) e2 rfl;simp only[Op.eqFields,ne_eq,n1,n2,not_false_eq_true,if_true,Sem.run_bind,o1,o2,p1,p2,Result.andThen_ok];have r1:(Op.equalIn 9999 f.type (.agg (([a,b,c,e].map (Value.int .i64)).toArray.extract 0 (0+2))) (.agg (([a',b',c',e'].map (Value.int .i64)).toArray.extract 0 (0+2)))).run P w=.ok (bq [a,b] [a',b']) w:=q1;have r2:(Op.equalIn 9999 g.type (.agg (([a,b,c,e].map (Value.int .i64)).toArray.extract 2 (2+2))) (.agg (([a',b',c',e'].map (Value.int .i64)).toArray.extract 2 (2+2)))).run P w=.ok (bq [c,e] [c',e']) w:=q2
  simp only[r1,Result.andThen_ok];have e0:bq [a,b,c,e] [a',b',c',e']=(bq [a,b] [a',b']&&bq [c,e] [c',e']):=by simp[bq,Bool.and_assoc]
  rw[e0];cases bq [a,b] [a',b']
  .simp
  .simp only[Bool.not_true,Bool.false_eq_true,if_false,Sem.run_bind,p2,r2,Result.andThen_ok,Bool.true_and];cases bq [c,e] [c',e']<;>simp
 .cases h5
theorem yj{t:Nat}(w:World){xs ys:List Int}(h:rY P t xs.length=true)(hl:ys.length=xs.length):
  (Op.equalIn 10000 t (.agg (xs.map (Value.int .i64)).toArray) (.agg (ys.map (Value.int .i64)).toArray)).run P w=.ok (bq xs ys) w:=by
 unfold rY at h;rw[Bool.or_eq_true]at h;rcases h with h|h
 .exact lW w 9998 h hl
 .exact yw w h hl
theorem Cb{t n:Nat}(h:rY P t n=true):P.eqGuardType P.depth t=false:=by
 unfold rY fu Ao at h;simp only[Bool.or_eq_true,qD,Bool.not_eq_true']at h;rcases h with h|h
 .exact h.2.1
 .exact h.2.1
theorem DR{x y:Operand}{o:BinOp}{t u:TypeId}{xs ys:List Int}{dst:Option Nat}{ty:TypeId}{pos:String}{aft:Array Edge}{gd:Option (Nat×Bool)}(ho:o=.eql\/o=.neq)(hx:a.eval x=.agg (xs.map (Value.int .i64)).toArray)(hy:a.eval y=.agg (ys.map (Value.int .i64)).toArray)(h:rY P t xs.length=true)(hl:ys.length=xs.length):
  (execOp a.eval ⟨dst,.binOp o t x y u,ty,pos,aft,gd⟩).run P w=.ok (.value (.bool (Ee o xs ys))) w:=by
 have h2:=Cb h;have hr:=yj (P:=P) w h hl
 have hg:(eqGuard o t x y (.agg (xs.map (Value.int .i64)).toArray) (.agg (ys.map (Value.int .i64)).toArray)).run P w=.ok () w:=by
  unfold eqGuard;rcases ho with rfl|rfl<;>simp[h2,program,Sem.run]
 rcases ho with rfl|rfl
 .simp only[execOp,hx,hy,Sem.run_bind,hg,run_eql_struct,hr,Result.andThen_ok,Sem.run_pure,Ee]
 .simp only[execOp,hx,hy,Sem.run_bind,hg,run_neq_struct,hr,Result.andThen_ok,Sem.run_pure,Ee]
inductive xD:List Nat->List Value->List Value->Bool->Prop
 |nil:xD [] [] [] true
 |int {ks xs ys b} (i j:Int) (h:xD ks xs ys b):xD (0::ks) (.int .i64 i::xs) (.int .i64 j::ys) ((i==j)&&b)
 |bool {ks xs ys b} (i j:Bool) (h:xD ks xs ys b):xD (1::ks) (.bool i::xs) (.bool j::ys) ((i==j)&&b)
 |str {ks xs ys b} (i j:ByteArray) (h:xD ks xs ys b):xD (2::ks) (.string i::xs) (.string j::ys) (decide (i=j)&&b)
theorem vC:∀{l m:List SV} {us vs:aO} {ks:aK} {b:Bool},yg l m=some (ks,b)->ah cx β l us->ah cx β m vs->xD ks us vs b
 |[],[],us,vs,ks,b,h,h1,h2=>by
  unfold yg at h;unfold ah at h1 h2;cases h;subst h1 h2;exact .nil
 |[],_::_,us,vs,ks,b,h,h1,h2=>by cases h
 |_::_,[],us,vs,ks,b,h,h1,h2=>by cases h
 |s1::l,s2::m,us,vs,ks,b,h,h1,h2=>by
  unfold yg at h;split at h
  .rename_i k x ks' y e1 e2;cases h;unfold ah at h1 h2;obtain⟨v1,us',rfl,d1,d2⟩:=h1;obtain⟨v2,vs',rfl,d3,d4⟩:=h2;have ih:=vC e2 d2 d4;unfold EL at e1;split at e1
   .cases e1;rw[ay d1,ay d3];exact .int _ _ ih
   .cases e1;rw[bL d1,bL d3];exact .bool _ _ ih
   .cases e1;unfold Den at d1 d3;rw[d1.1,d3.1];exact .str _ _ ih
   .cases e1
  .cases h
theorem fG(w:World)(d:Nat):∀(fs:List Field) (ks:aK) (pre:Nat) (xs ys:aO) (b:Bool) (px py:aO),lH P pre fs ks=true->xD ks xs ys b->px.length=pre->py.length=pre->
  (Op.eqFields (d+1) (px++xs).toArray (py++ys).toArray fs).run P w=.ok b w
 |[],[],pre,xs,ys,b,px,py,hk,he,hx,hy=>by
  cases he;simp[Op.eqFields]
 |[],_::_,pre,xs,ys,b,px,py,hk,he,hx,hy=>by cases hk
 |_::_,[],pre,xs,ys,b,px,py,hk,he,hx,hy=>by cases hk
 |f::fs,k::ks,pre,xs,ys,b,px,py,hk,he,hx,hy=>by
  unfold lH at hk;simp only[qD,bne_iff_ne,ne_eq,beq_iff_eq]at hk;obtain⟨k1,k2,k3,k4⟩:=hk
  have hp:∀(pz:List Value) (z:Value) (zs:List Value),pz.length=pre->eZ P f.type=some false->(part f.type (pz++z::zs).toArray f.offset).run P w=.ok z w:=by
   intro pz z zs hz ha
   have hg:(pz++z::zs).toArray[f.offset]? =some z:=by
    rw[k2];simp[<-hz]
   simp[part,fq ha,hg]
  have key:∀(x y:Value) (c b':Bool) (xs' ys':List Value),eZ P f.type=some false->(Op.equalIn (d+1) f.type x y).run P w=.ok c w->xD ks xs' ys' b'->(Op.eqFields (d+1) (px++x::xs').toArray (py++y::ys').toArray (f::fs)).run P w=.ok (c&&b') w:=by
   intro x y c b' xs' ys' ha hr he';have ih:=fG w d fs ks (pre+1) xs' ys' b' (px++[x]) (py++[y]) k4 he' (by simp[hx]) (by simp[hy]);simp only[qF,List.singleton_append]at ih;simp only[Op.eqFields,ne_eq,k1,not_false_eq_true,if_true,Sem.run_bind,hp px x xs' hx ha,hp py y ys' hy ha,Result.andThen_ok,hr];cases c with
   |true=>simpa using ih
   |false=>simp
  have agg:∀q,P.underlying f.type=some q->(match q with| .struct _=>false| .array _ _=>false|_=>true)=true->eZ P f.type=some false:=by
   intro q hq h;unfold eZ;rw[hq];cases q<;>first|rfl|cases h
  cases he with
  |int i j he'=>
   simp only[kindOk]at k3;split at k3
   .rename_i hu;exact key _ _ _ _ _ _ (agg _ hu rfl) (run_equalIn_int w d f.type .i64 .i64 i j hu) he'
   .cases k3
  |bool i j he'=>
   simp only[kindOk]at k3;split at k3
   .rename_i hu;exact key _ _ _ _ _ _ (agg _ hu rfl) (run_equalIn_bool w d f.type i j hu) he'
   .cases k3
  |str i j he'=>
   simp only[kindOk]at k3;split at k3
   .rename_i hu;have:=run_equalIn_string w d f.type i j hu;rw[fU]at this;exact key _ _ _ _ _ _ (agg _ hu rfl) this he'
   .cases k3
theorem yt{t:Nat}(w:World){ks:aK}{xs ys:aO}{b:Bool}(h:tY P t ks=true)(he:xD ks xs ys b):(Op.equalIn 10000 t (.agg xs.toArray) (.agg ys.toArray)).run P w=.ok b w:=by
 unfold tY at h;simp only[qD,Bool.not_eq_true']at h;obtain⟨h1,h2,h3,h4⟩:=h
 have hu:P.underlying t=some (.struct (P.fieldsOf t)):=by
  split at h3
  .rename_i fs hf;rw[hf];unfold Program.fieldsOf;rw[hf]
  .cases h3
 rw[run_equalIn_struct w 9999 t _ _ hu h1];exact fG w 9998 _ ks 0 xs ys b [] [] h4 he rfl rfl
theorem DT{x y:Operand}{o:BinOp}{t u:TypeId}{ks:aK}{xs ys:aO}{b:Bool}{dst:Option Nat}{ty:TypeId}{pos:String}{aft:Array Edge}{gd:Option (Nat×Bool)}(hx:a.eval x=.agg xs.toArray)(hy:a.eval y=.agg ys.toArray)(h:tY P t ks=true)(he:xD ks xs ys b):
  (o=.eql->(execOp a.eval ⟨dst,.binOp o t x y u,ty,pos,aft,gd⟩).run P w=.ok (.value (.bool b)) w)/\(o=.neq->(execOp a.eval ⟨dst,.binOp o t x y u,ty,pos,aft,gd⟩).run P w=.ok (.value (.bool (!b))) w):=by
 have hr:=yt (P:=P) w h he
 have h2:P.eqGuardType P.depth t=false:=by
  unfold tY at h;simp only[qD,Bool.not_eq_true']at h;exact h.2.1
 have hg:∀o:BinOp,o=.eql\/o=.neq->(eqGuard o t x y (.agg xs.toArray) (.agg ys.toArray)).run P w=.ok () w:=by
  intro o ho;unfold eqGuard;rcases ho with rfl|rfl<;>simp[h2,program,Sem.run]
 refine⟨fun e=> ?_,fun e=> ?_⟩
 .subst e;simp only[execOp,hx,hy,Sem.run_bind,hg _ (.inl rfl),run_eql_struct,hr,Result.andThen_ok,Sem.run_pure]
 .subst e;simp only[execOp,hx,hy,Sem.run_bind,hg _ (.inr rfl),run_neq_struct,hr,Result.andThen_ok,Sem.run_pure]
theorem yu{gc:Option Bool}{o:BinOp}{t u:TypeId}{x y:Operand}{l m:List SV}{K:SV->Prop}{dst:Option Nat}{ty:TypeId}{pos:String}{aft:Array Edge}{gd:Option (Nat×Bool)}(hx:evs env g x=some (.agg l))(hy:evs env g y=some (.agg m))(h:rZ P gc o t l m K):∃v,K v/\(zX gc->rz P env rs g ⟨dst,.binOp o t x y u,ty,pos,aft,gd⟩ v):=by
 unfold rZ at h;split at h
 .rename_i ks b hks
  have key:∀c:Bool,(o=.eql/\c=b\/o=.neq/\c= !b)->pQ gc (tY P t ks=true)->zX gc->rz P env rs g ⟨dst,.binOp o t x y u,ty,pos,aft,gd⟩ (.bool c):=fun c ho hi himp cx β n fr a w hh hg=>by
   have i1:=lG himp hi;obtain⟨v1,e1,d1⟩:=aj hh.E hg hx;obtain⟨v2,e2,d2⟩:=aj hh.E hg hy;unfold Den at d1 d2;obtain⟨us1,rfl,d1⟩:=d1;obtain⟨us2,rfl,d2⟩:=d2;have hr:=DT (P:=P) (w:=w) (o:=o) (u:=u) (dst:=dst) (ty:=ty) (pos:=pos) (aft:=aft) (gd:=gd) e1 e2 i1 (vC hks d1 d2);rcases ho with⟨rfl,rfl⟩|⟨rfl,rfl⟩
   .exact .inl ⟨_,hr.1 rfl,by unfold Den;rfl⟩
   .exact .inl ⟨_,hr.2 rfl,by unfold Den;rfl⟩
  split at h
  .exact⟨_,h.2,key _ (.inl ⟨rfl,rfl⟩) h.1⟩
  .exact⟨_,h.2,key _ (.inr ⟨rfl,rfl⟩) h.1⟩
  .exact h.elim
 .exact h.elim
theorem tZ{gc:Option Bool}{o:BinOp}{t:TypeId}{l m:List SV}{K:SV->Prop}(h:rZ P gc o t l m K):∃v,K v:=by
 unfold rZ at h;split at h
 .split at h
  .exact⟨_,h.2⟩
  .exact⟨_,h.2⟩
  .exact h.elim
 .exact h.elim
theorem yc{gc:Option Bool}{o:BinOp}{t u:TypeId}{x y:Operand}{l m:List SV}{K:SV->Prop}{dst:Option Nat}{ty:TypeId}{pos:String}{aft:Array Edge}{gd:Option (Nat×Bool)}(hx:evs env g x=some (.agg l))(hy:evs env g y=some (.agg m))(h:vB P gc o t l m K):∃v,K v/\(zX gc->rz P env rs g ⟨dst,.binOp o t x y u,ty,pos,aft,gd⟩ v):=by
 unfold vB at h;split at h
 .rename_i xs ys hxs hys
  have key:∀b:Bool,(o=.eql\/o=.neq)->Ee o xs ys=b->pQ gc (rY P t xs.length=true/\ys.length=xs.length)->zX gc->rz P env rs g ⟨dst,.binOp o t x y u,ty,pos,aft,gd⟩ (.bool b):=fun b ho hb hi himp cx β n fr a w hh hg=>by
   obtain⟨i1,i2⟩:=lG himp hi;obtain⟨v1,e1,d1⟩:=aj hh.E hg hx;obtain⟨v2,e2,d2⟩:=aj hh.E hg hy;unfold Den at d1 d2;obtain⟨us1,rfl,d1⟩:=d1;obtain⟨us2,rfl,d2⟩:=d2;rw[jS hxs d1]at e1;rw[jS hys d2]at e2;exact .inl ⟨_,DR ho e1 e2 i1 i2,by unfold Den;rw[hb]⟩
  split at h
  .exact⟨_,h.2,key _ (.inl rfl) rfl h.1⟩
  .exact⟨_,h.2,key _ (.inr rfl) rfl h.1⟩
  .exact h.elim
 .exact yu hx hy h
theorem Bb(w:World){t i k:Nat}{vs:aO}{y:Value}(h:Ce P t i k=true)(hv:vs[k]? =some y):(Instr.field t (.agg vs.toArray) i).run P w=.ok y w:=by
 unfold Ce at h;split at h
 .rename_i fs hu;split at h
  .rename_i f hf;rw[qD,beq_iff_eq,beq_iff_eq]at h;obtain⟨rfl,h2⟩:=h;simp[Instr.field,underlying,hu,hf,asAgg,part,fq h2,hv]
  .cases h
 .cases h
theorem mD(hti:bE P ti=true){gc:Option Bool}{o:Oper}{K:SV->Prop}(h:kV P ti env rs g gc o.op K):∃v,K v/\(zX gc->rz P env rs g o v):=by
 obtain⟨dst,op,ty,pos,aft,gd⟩:=o
 have plain:rK gc (jc ti env rs g op) K->∃v,K v/\(zX gc->rz P env rs g ⟨dst,op,ty,pos,aft,gd⟩ v):=fun h=>by
  obtain⟨v,h1,h2⟩:=uM h;exact⟨v,h1,fun himp cx β n fr a w hh hg=>.inl (Cq hti hh.E hg hh.H (h2 himp))⟩
 unfold kV at h;simp only at h;split at h
 .rename_i c;split at h
  .rename_i y hf;split at h
   .rename_i f l vs hy hvs;obtain⟨r,h1,h2⟩:=h;refine⟨r,h2,fun himp cx β n fr a w hh hg=> ?_⟩;obtain⟨hok,hq⟩:=lG himp h1;have hd:=lD hh.E hg hvs;obtain⟨fv,e1,e2⟩:=aj hh.E hg hy;obtain⟨ce,ar,tys⟩:=c;simp only at hf;subst hf;unfold Den at e2;obtain⟨cs,rfl,e3⟩:=e2;refine .inr ⟨f,_,vW (xs:=ar.toList) e1 rfl hok,?_⟩;exact hq cx β w _ _ hh.H (hd.app e3)
   .exact h.elim
  .exact plain h
 .split at h
  .rename_i l m hx hy;exact yc hx hy h
  .exact plain h
 .split at h
  .rename_i l hx;obtain⟨k,h1,v,h2,h3⟩:=h;refine⟨v,h3,fun himp cx β n fr a w hh hg=> ?_⟩;obtain⟨v1,e1,d1⟩:=aj hh.E hg hx;unfold Den at d1;obtain⟨vs,rfl,d1⟩:=d1;obtain⟨y,k1,k2⟩:=d1.get h2;exact .inl ⟨y,AQ e1 (Bb w (lG himp h1) k1),k2⟩
  .exact h.elim
 .exact plain h
theorem y8(hti:bE P ti=true){gc:Option Bool}(himp:zX gc)(hh:HH cx n fr β a w env rs)(hg:dz a g){o:Oper}{K:SV->Prop}(h:kV P ti env rs g gc o.op K):∃v,K v/\Gv P cx β fr rs a w o v:=by
 obtain⟨v,h1,h2⟩:=mD hti h;exact⟨v,h1,h2 himp cx β n fr a w hh hg⟩
theorem qg{gc:Option Bool}{r:R}{K:SV->Prop}(h:rK gc r K):∃v,K v:=by
 obtain⟨v,h1,_⟩:=uM h;exact⟨v,h1⟩
theorem y9{gc:Option Bool}{op:Op}{K:SV->Prop}(h:kV P ti env rs g gc op K):∃v,K v:=by
 unfold kV at h;split at h
 .split at h
  .split at h
   .exact⟨_,h.choose_spec.2⟩
   .exact h.elim
  .exact qg h
 .split at h
  .unfold vB at h;split at h
   .split at h
    .exact⟨_,h.2⟩
    .exact⟨_,h.2⟩
    .exact h.elim
   .exact tZ h
  .exact qg h
 .split at h
  .exact⟨_,h.choose_spec.2.choose_spec.2⟩
  .exact h.elim
 .exact qg h
theorem ny(hti:bE P ti=true)(hn0:n<=10000){ops:List Oper}{Q:Exit->Act->World->Prop}:∀(rest:List Oper) (dd:aK) {env:Ev} {rs:List Tok} {K:Ev->List Tok->Prop} {β:Nat->Value} {a:Act} {w:World},
  bJ P ti n ops dd rest env rs K->HH cx n fr β a w env rs->NG env dd->
  (∀env' rs' β' a' w',K env' rs'->HH cx n fr β' a' w' env' rs'->(gK rest=false->NG env []->NG env' [])->kC (cO rest []) β β'->nE (cO rest []) a a'->Q .normal a' w')->wpList P ops.toArray Q rest a w
 |[],dd,env,rs,K,β,a,w,h,hh,hN,hQ=>hQ env rs β a w h hh (fun _ h=>h) (kC.refl _ _) (nE.refl _ _)
 |o::rest,dd,env,rs,K,β,a,w,h,hh,hN,hQ=>by
  rw[u6]at h
  have hw0:∀t,t∉cO (o::rest) []->t∉cO rest []:=fun t ht hm=>ht (by
   unfold cO;split
   .exact List.mem_cons_of_mem _ hm
   .exact hm)
  have hany0:gK (o::rest)=false->gK rest=false:=fun hg=>by
   unfold gK at hg;split at hg
   .cases hg
   .exact hg
  have hex:∀{gd:Nat} {gb gc:Bool},eB ops env o.guard=.at gd gb gc->∃j,o.guard=some (j,gb)/\bT ops j=some gd/\dQ env 8 gd gb=some gc:=fun {gd gb gc} hG=>by
   unfold eB at hG;split at hG
   .cases hG
   .rename_i j b hj;split at hG
    .rename_i d' hd';split at hG
     .rename_i c hc;injection hG with e1 e2 e3
      subst e1 e2 e3;exact⟨j,hj,hd',hc⟩
     .cases hG
    .cases hG
  have hfreeG:eB ops env o.guard=.free->o.guard=none:=fun hG=>by
   unfold eB at hG;split at hG
   .assumption
   .split at hG
    .split at hG<;>cases hG
    .cases hG
  have hyl:∀{j gd:Nat},bT ops j=some gd->∀b,(yielded ops.toArray a.tmps j==some b)=true↔a.tmps[gd]? =some (.bool b):=fun {j gd} hj2 b=>by
   unfold yielded;rw[fE hj2];simp only[Option.bind_some,beq_iff_eq];cases a.tmps[gd]? with
   |none=>simp
   |some y=>cases y<;>simp
  have hg0:dz a none:=fun d b e=>by cases e
  split at h
  ·
   rename_i hd
   have next:∀{rs':List Tok} {w':World},bJ P ti n ops dd rest env rs' K->Inv cx.w0 cx.F0 w' (rs'.map (Tok.res cx β)++fr)->∀x,wpList P ops.toArray Q rest (a.put o.dst x) w':=fun {rs' w'} hv hI x=>by
    rw[hd];refine ny hti hn0 rest dd hv ⟨hh.E,hI⟩ hN fun env' rs'' β' a' w'' hK hh' hn' hag hfr=> ?_
    refine hQ env' rs'' β' a' w'' hK hh' (fun hg h0=>hn' (hany0 hg) h0) (fun t ht hl=>hag t (hw0 _ ht) hl) (fun t ht=>hfr t (hw0 _ ht))
   split at h
   .exact h.elim
   .rename_i hG;have hgn:=hfreeG hG;obtain⟨dst,op,ty,pos,aft,gd⟩:=o;obtain⟨rs',h1,hW⟩:=mY (P:=P) (dst:=dst) (ty:=ty) (pos:=pos) (aft:=aft) (gd:=gd) hti h;obtain⟨nx,w',hnx,h2,h3⟩:=hW cx β n fr a w hh.E hg0 hh.H;refine fQ (fun _=> ?_) (fun hw=>by simp only[Region.wanted]at hw;rw[show gd=none from hgn]at hw;cases hw);rcases hnx with rfl|⟨v,rfl⟩
    .exact .inr (.inl ⟨w',h2,next h1 h3 _⟩)
    .exact .inl ⟨v,w',h2,next h1 h3 _⟩
   .rename_i gd gb gc hG;obtain⟨j,hj1,hj2,hj3⟩:=hex hG;obtain⟨dst,op,ty,pos,aft,gd'⟩:=o
    by_cases hgt:a.tmps[gd]? =some (.bool gb)
    .have hg1:dz a (some (gd,gb)):=fun d b e=>by injection e with e;injection e with e1 e2;subst e1 e2;exact hgt
     obtain⟨rs',h1,hW⟩:=mY (P:=P) (dst:=dst) (ty:=ty) (pos:=pos) (aft:=aft) (gd:=gd') hti (h.1 (dY hh.E _ _ _ _ hj3 hgt));obtain⟨nx,w',hnx,h2,h3⟩:=hW cx β n fr a w hh.E hg1 hh.H
     refine fQ (fun _=>by
      rcases hnx with rfl|⟨v,rfl⟩
      .exact .inr (.inl ⟨w',h2,next h1 h3 _⟩)
      .exact .inl ⟨v,w',h2,next h1 h3 _⟩) (fun hw=> ?_)
     simp only[Region.wanted]at hw;rw[show gd'=some (j,gb) from hj1]at hw;simp only at hw;rw[(hyl hj2 gb).2 hgt]at hw;cases hw
    .refine fQ (fun hw=> ?_) (fun _=>next (h.2 (jh hh.E _ _ _ _ hj3 hgt)) hh.H _);simp only[Region.wanted]at hw;rw[show gd'=some (j,gb) from hj1]at hw;exact absurd ((hyl hj2 gb).1 hw) hgt
  .rename_i d hd;cases hb:(Nat.blt d n&& !mem d dd)with
   |false=>rw[hb]at h;exact h.elim
   |true=>
    rw[hb]at h;simp only[qG]at h;rw[qD,Bool.not_eq_true',mh]at hb;obtain⟨hb1,hb2⟩:=hb;have hdn:d<n:=by simpa using hb1
    have hdM:d<1000000:=qW hdn (Nat.le_trans hn0 (by decide));have hfree:∀t b y,lk env t≠some (.gd d b y):=fun t b y e=>hb2 (hN t d b y e)
    have hwd:d∈cO (o::rest) []:=by unfold cO;rw[hd];simp
    have next:∀{v:SV} {x:Value} {w':World} {rs':List Tok} {β':Nat->Value},bJ P ti n ops (d::dd) rest ((d,v)::env) rs' K->bW cx β' n a env->bK cx β' (a.put (some d) x) v x->Inv cx.w0 cx.F0 w' (rs'.map (Tok.res cx β')++fr)->lN d β β'->(∀d' b y,v=.gd d' b y->d'∈dd/\gK (o::rest)=true)->wpList P ops.toArray Q rest (a.put o.dst x) w':=by
     intro v x w' rs' β' hv hE hx hI hAg hgv;rw[hd];refine ny hti hn0 rest (d::dd) hv ⟨hE.put hdn hfree hx,hI⟩ (hN.cons fun d' b y e=>(hgv d' b y e).1) fun env' rs'' β'' a' w'' hK hh' hn' hag hfr=> ?_
     refine hQ env' rs'' β'' a' w'' hK hh' (fun hg h0=> ?_) (fun t ht hl=> ?_) ?_
     .refine hn' (hany0 hg) fun t d' b y hl=> ?_
      rw[aA]at hl;split at hl
      .injection hl with hl
       have:=(hgv d' b y hl).2;rw[hg]at this;cases this
      .exact h0 t d' b y hl
     .rw[hag t (hw0 _ ht) hl];exact hAg t fun e=>ht (e▸hwd)
     .intro t ht;have hne:t≠d:=fun e=>ht (e▸hwd)
      rw[hfr t (hw0 _ ht),bZ a x hne]
    have hE0:lN d β β:=fun _ _=>rfl
    have doS:∀{g:Option (Nat×Bool)},dz a g->Region.wanted o (yielded ops.toArray a.tmps)=true->(bif au d env rs then gG P ti env rs g d o.op fun v rs'=>bJ P ti n ops (d::dd) rest ((d,v)::env) rs' K else False)->wpList P ops.toArray Q (o::rest) a w:=fun {g} hg hwt h=>by
     cases hfr:au d env rs with
     |false=>rw[hfr]at h;exact h.elim
     |true=>
      rw[hfr]at h;simp only[qG]at h;obtain⟨v,rs',h1,hS⟩:=iW (dst:=o.dst) (ty:=o.type) (pos:=o.pos) (aft:=o.after) (gd:=o.guard) hti hdM hfr h;have h2:=hS cx β n fr a w hh.E hg hh.H;have hE:∀{β':Nat->Value},lN d β β'->bW cx β' n a env:=fun hA=>hh.E.beta fun t s hl g hg=>hA g (jP hfr t s hl g hg)
      refine fQ (fun _=> ?_) (fun hw=>by rw[hwt]at hw;cases hw);rcases h2 with⟨x,w',β',h3,h4,h5,h6⟩|⟨f,args,h3,h4⟩
      .refine .inl ⟨x,w',h3,next h1 (hE h4) (bK.of h5) h6 h4 ?_⟩;rintro d' b y rfl;unfold Den at h5;exact h5.elim
      .refine .inr (.inr ⟨f,args,h3,h4.mono fun e w' ⟨x,β',h5,h6,h7,h8⟩=>⟨x,h5,next h1 (hE h6) (bK.of h7) h8 h6 ?_⟩⟩);rintro d' b y rfl;unfold Den at h7;exact h7.elim
    split at h
    .exact h.elim
    .rename_i hG;have hgn:=hfreeG hG;have hwt:Region.wanted o (yielded ops.toArray a.tmps)=true:=by simp[Region.wanted,hgn]
     have doP:kV P ti env rs none none o.op (fun v=>bJ P ti n ops (d::dd) rest ((d,v)::env) rs K)->wpList P ops.toArray Q (o::rest) a w:=fun h=>by
      obtain⟨v,h1,h2⟩:=y8 hti (fun c e=>by cases e) hh hg0 h;refine fQ (fun _=> ?_) (fun hw=>by rw[hwt]at hw;cases hw);rcases h2 with⟨x,h3,h4⟩|⟨f,args,h3,h4⟩
      .refine .inl ⟨x,w,h3,next h1 hh.E (bK.of h4) hh.H hE0 ?_⟩;rintro d' b y rfl;unfold Den at h4;exact h4.elim
      .refine .inr (.inr ⟨f,args,h3,h4.mono fun e w' ⟨x,h5,h6,h7⟩=>⟨x,h5,next h1 hh.E (bK.of h6) h7 hE0 ?_⟩⟩);rintro d' b y rfl;unfold Den at h6;exact h6.elim
     split at h
     .cases hT:uq env none o.op with
      |false=>rw[hT]at h;exact doP h
      |true=>
       rw[hT]at h;rcases h with h|h
       .exact doP h
       .exact doS hg0 hwt h
     .exact doS hg0 hwt h
     .rcases h with h|h
      .exact doP h
      .exact doS hg0 hwt h
    .rename_i gd gb gc hG;obtain⟨j,hj1,hj2,hj3⟩:=hex hG;cases hm:mem gd dd with
     |false=>rw[hm]at h;exact h.elim
     |true=>
      rw[hm]at h;simp only[qG]at h;have hgd:gd∈dd:=mem_iff.1 hm;have hne:gd≠d:=fun e=>hb2 (e▸hgd)
      have hany:gK (o::rest)=true:=by unfold gK;rw[hj1]
      have hwt:a.tmps[gd]? =some (.bool gb)->Region.wanted o (yielded ops.toArray a.tmps)=true:=fun hgt=>by simp only[Region.wanted,hj1];exact(hyl hj2 gb).2 hgt
      have hwf:a.tmps[gd]? ≠some (.bool gb)->Region.wanted o (yielded ops.toArray a.tmps)=false:=fun hgt=>by
       simp only[Region.wanted,hj1];cases hq:(yielded ops.toArray a.tmps j==some gb)with
       |false=>rfl
       |true=>exact absurd ((hyl hj2 gb).1 hq) hgt
      have doP:kV P ti env rs (some (gd,gb)) (some gc) o.op (fun v=>bJ P ti n ops (d::dd) rest ((d,.gd gd gb v)::env) rs K)->wpList P ops.toArray Q (o::rest) a w:=fun h=>by
       by_cases hgt:a.tmps[gd]? =some (.bool gb)
       .have hgc:=dY hh.E _ _ _ _ hj3 hgt;have hg1:dz a (some (gd,gb)):=fun d b e=>by injection e with e;injection e with e1 e2;subst e1 e2;exact hgt
        obtain⟨v,h1,h2⟩:=y8 hti (fun c e=>by injection e with e;exact e▸hgc) hh hg1 h;refine fQ (fun _=> ?_) (fun hw=>by rw[hwt hgt]at hw;cases hw)
        have mk:∀{x:Value},Den cx β v x->bK cx β (a.put (some d) x) (.gd gd gb v) x:=fun {x} hx=>by
         show((a.put (some d) x).tmps[gd]? =some (Value.bool gb)->Den cx β v x)/\((a.put (some d) x).tmps[gd]? ≠some (Value.bool gb)->x=undef);rw[bZ a x hne];exact⟨fun _=>hx,fun hn=>absurd hgt hn⟩
        rcases h2 with⟨x,h3,h4⟩|⟨f,args,h3,h4⟩
        .exact .inl ⟨x,w,h3,next h1 hh.E (mk h4) hh.H hE0 (by rintro d' b y e;injection e with e1;subst e1;exact⟨hgd,hany⟩)⟩
        .exact .inr (.inr ⟨f,args,h3,h4.mono fun e w' ⟨x,h5,h6,h7⟩=>⟨x,h5,next h1 hh.E (mk h6) h7 hE0 (by rintro d' b y e;injection e with e1;subst e1;exact⟨hgd,hany⟩)⟩⟩)
       .obtain⟨v,h1⟩:=y9 h;refine fQ (fun hw=>by rw[hwf hgt]at hw;cases hw) (fun _=> ?_);refine next (v:=.gd gd gb v) (x:=undef) (w':=w) h1 hh.E ?_ hh.H hE0 (by rintro d' b y e;injection e with e1;subst e1;exact⟨hgd,hany⟩);show((a.put (some d) undef).tmps[gd]? =some (Value.bool gb)->Den cx β v undef)/\((a.put (some d) undef).tmps[gd]? ≠some (Value.bool gb)->undef=undef);rw[bZ a undef hne];exact⟨fun hn=>absurd hn hgt,fun _=>rfl⟩
      have doS2:((gc=true->bif au d env rs then gG P ti env rs (some (gd,gb)) d o.op fun v rs'=>bJ P ti n ops (d::dd) rest ((d,v)::env) rs' K else False)/\(gc=false->bJ P ti n ops (d::dd) rest ((d,.un)::env) rs K))->wpList P ops.toArray Q (o::rest) a w:=fun h=>by
       by_cases hgt:a.tmps[gd]? =some (.bool gb)
       .have hg1:dz a (some (gd,gb)):=fun d b e=>by injection e with e;injection e with e1 e2;subst e1 e2;exact hgt
        exact doS hg1 (hwt hgt) (h.1 (dY hh.E _ _ _ _ hj3 hgt))
       .refine fQ (fun hw=>by rw[hwf hgt]at hw;cases hw) (fun _=> ?_);exact next (v:=.un) (x:=undef) (w':=w) (h.2 (jh hh.E _ _ _ _ hj3 hgt)) hh.E (bK.of (by unfold Den;rfl)) hh.H hE0 (by rintro d' b y e;cases e)
      have doS3:((gc=true->bif au d env rs then gG P ti env rs (some (gd,gb)) d o.op fun v rs'=>bJ P ti n ops (d::dd) rest ((d,v)::env) rs' K else False)/\(gc=false->∃v,bJ P ti n ops (d::dd) rest ((d,.gd gd gb v)::env) rs K))->wpList P ops.toArray Q (o::rest) a w:=fun h=>by
       by_cases hgt:a.tmps[gd]? =some (.bool gb)
       .have hg1:dz a (some (gd,gb)):=fun d b e=>by injection e with e;injection e with e1 e2;subst e1 e2;exact hgt
        exact doS hg1 (hwt hgt) (h.1 (dY hh.E _ _ _ _ hj3 hgt))
       .obtain⟨v,h1⟩:=h.2 (jh hh.E _ _ _ _ hj3 hgt);refine fQ (fun hw=>by rw[hwf hgt]at hw;cases hw) (fun _=> ?_);refine next (v:=.gd gd gb v) (x:=undef) (w':=w) h1 hh.E ?_ hh.H hE0 (by rintro d' b y e;injection e with e1;subst e1;exact⟨hgd,hany⟩);show((a.put (some d) undef).tmps[gd]? =some (Value.bool gb)->Den cx β v undef)/\((a.put (some d) undef).tmps[gd]? ≠some (Value.bool gb)->undef=undef);rw[bZ a undef hne];exact⟨fun hn=>absurd hn hgt,fun _=>rfl⟩
      split at h
      .exact doP h
      .exact doS2 h
      .rcases h with h|h
       .exact doP h
       .exact doS3 h
 termination_by rest=>rest.length
end
end Go.Tr
namespace Go.Tr
open Go Go.RowKit
universe u
section
variable {cx:Cx}{β β' β'':Nat->Value}{P:Program}{ti:TI}{n:Nat}{a a' a'':Act}{env env':Ev}{rs:List Tok}{fr:List aM}{w w':World}{g:Option (Nat×Bool)}{v:SV}
theorem bB{α:Type u}:∀{l:List α} {x:α} {K:List α->Prop},aS l x K->K (l++[x])
 |[],x,K,h=>h
 |y::l,x,K,h=>bB (l:=l) (K:=fun l'=>K (y::l')) h
theorem nY:∀{l:aK} {K:aK->Prop},uj l K->K l
 |[],K,h=>h
 |y::l,K,h=>nY (l:=l) (K:=fun l'=>K (y::l')) h
theorem oP{A:aK}{base:Ev}:∀{ents:List dH} {K:Ev->Prop},wK A ents base K->∃env,K env/\∀t s,lk env t=some s->(∃x∈ents,x.i∈A/\x.d=t/\x.v=s)\/lk base t=some s
 |[],K,h=>⟨base,h,fun t s hl=>.inr hl⟩
 |⟨xi,xd,xv⟩::l,K,h=>by
  unfold wK at h;cases hm:mem xi A with
  |true=>
   rw[hm]at h;obtain⟨env,h1,h2⟩:=oP (ents:=l) (K:=fun l'=>K ((xd,xv)::l')) h;refine⟨_,h1,fun t s hl=> ?_⟩;rw[aA]at hl;split at hl
   .rename_i e;injection hl with hl
    exact .inl ⟨⟨xi,xd,xv⟩,by simp,mem_iff.1 hm,e.symm,hl⟩
   .rcases h2 t s hl with⟨y,k1,k2⟩|k1
    .exact .inl ⟨y,by simp[k1],k2⟩
    .exact .inr k1
  |false=>
   rw[hm]at h;obtain⟨env,h1,h2⟩:=oP (ents:=l) h;refine⟨_,h1,fun t s hl=> ?_⟩;rcases h2 t s hl with⟨y,k1,k2⟩|k1
   .exact .inl ⟨y,by simp[k1],k2⟩
   .exact .inr k1
theorem qb{anc:List (List Nat)}{i:Nat}{base:Ev}:∀{olds:List dH} {K:Ev->Prop},wS anc i olds base K->∃env,K env/\∀t s,lk env t=some s->(∃x∈olds,(x.i=i\/∃A,anc[x.i]? =some A/\i∈A)/\x.d=t/\x.v=s)\/lk base t=some s
 |[],K,h=>⟨base,h,fun t s hl=>.inr hl⟩
 |⟨xi,xd,xv⟩::l,K,h=>by
  unfold wS at h;cases hm:tT anc i xi with
  |true=>
   rw[hm]at h;obtain⟨env,h1,h2⟩:=qb (olds:=l) (K:=fun l'=>K ((xd,xv)::l')) h;refine⟨_,h1,fun t s hl=> ?_⟩;rw[aA]at hl;split at hl
   .rename_i e;injection hl with hl
    refine .inl ⟨⟨xi,xd,xv⟩,by simp,?_,e.symm,hl⟩;unfold tT at hm;rw[Bool.or_eq_true]at hm;rcases hm with hm|hm
    .exact .inl (ak hm)
    .refine .inr ?_;rw[jW]at hm;split at hm
     .rename_i A hA;exact⟨A,hA,mem_iff.1 hm⟩
     .cases hm
   .rcases h2 t s hl with⟨y,k1,k2⟩|k1
    .exact .inl ⟨y,by simp[k1],k2⟩
    .exact .inr k1
  |false=>
   rw[hm]at h;obtain⟨env,h1,h2⟩:=qb (olds:=l) h;refine⟨_,h1,fun t s hl=> ?_⟩;rcases h2 t s hl with⟨y,k1,k2⟩|k1
   .exact .inl ⟨y,by simp[k1],k2⟩
   .exact .inr k1
theorem vg{base:Ev}:∀{ents:List dH} {K:Ev->Prop},xK ents base K->∃env,K env/\∀t s,lk env t=some s->(∃x∈ents,x.d=t/\x.v=s)\/lk base t=some s
 |[],K,h=>⟨base,h,fun t s hl=>.inr hl⟩
 |⟨xi,xd,xv⟩::l,K,h=>by
  unfold xK at h;obtain⟨env,h1,h2⟩:=vg (ents:=l) (K:=fun l'=>K ((xd,xv)::l')) h;refine⟨_,h1,fun t s hl=> ?_⟩;rw[aA]at hl;split at hl
  .rename_i e;injection hl with hl
   exact .inl ⟨⟨xi,xd,xv⟩,by simp,e.symm,hl⟩
  .rcases h2 t s hl with⟨y,k1,k2⟩|k1
   .exact .inl ⟨y,by simp[k1],k2⟩
   .exact .inr k1
def At(labs:List aJ)(ℓ:Nat)(t:Tok):Prop:=∃x,labs[ℓ]? =some x/\x.tok=t
theorem gU{ns:aK}:∀{l:List aJ} {i:Nat} {K:aK->List Tok->Prop},q9 ns l i K->∃rd rs,K rd rs/\rd.Nodup/\(∀ℓ∈rd,i<=ℓ)/\F2 (fun ℓ t=>∃x,l[ℓ-i]? =some x/\x.tok=t) rd rs
 |[],i,K,h=>⟨[],[],h,List.nodup_nil,by simp,.nil⟩
 |x::l,i,K,h=>by
  have up:∀{rd:List Nat} {rs:List Tok},(∀ℓ∈rd,i+1<=ℓ)->F2 (fun ℓ t=>∃y,l[ℓ-(i+1)]? =some y/\y.tok=t) rd rs->F2 (fun ℓ t=>∃y,(x::l)[ℓ-i]? =some y/\y.tok=t) rd rs:=by
   intro rd rs hl h
   induction h with
   |nil=>exact .nil
   | @cons ℓ t rd rs h1 h2 ih=>
    have hge:=hl ℓ (by simp);refine .cons ?_ (ih fun ℓ hℓ=>hl ℓ (by simp[hℓ]));rw[show ℓ-i=(ℓ-(i+1))+1 by omega,List.getElem?_cons_succ];exact h1
  have skip:q9 ns l (i+1) K->∃rd rs,K rd rs/\rd.Nodup/\(∀ℓ∈rd,i<=ℓ)/\F2 (fun ℓ t=>∃y,(x::l)[ℓ-i]? =some y/\y.tok=t) rd rs:=fun h=>by
   obtain⟨rd,rs,h1,h2,h3,h4⟩:=gU h;exact⟨rd,rs,h1,h2,fun ℓ hℓ=>by have:=h3 ℓ hℓ;omega,up h3 h4⟩
  unfold q9 at h;split at h
  .cases hm:x.tok.CW ns with
   |true=>
    rw[hm]at h;obtain⟨rd,rs,h1,h2,h3,h4⟩:=gU (l:=l) (K:=fun r t=>K (i::r) (x.tok::t)) h;refine⟨_,_,h1,List.nodup_cons.2 ⟨fun hm=>by have:=h3 i hm;omega,h2⟩,fun ℓ hℓ=> ?_,.cons ⟨x,by simp,rfl⟩ (up h3 h4)⟩;rcases List.mem_cons.1 hℓ with rfl|hℓ
    .exact Nat.le_refl _
    .have:=h3 ℓ hℓ;omega
   |false=>rw[hm]at h;exact skip h
  .exact skip h
structure Grow(i:Nat)(labs labs':List aJ):Prop where
 old:∀(ℓ:Nat) (x:aJ),labs[ℓ]? =some x->∃x',labs'[ℓ]? =some x'/\x'.tok=x.tok/\x'.prod=x.prod/\(∀c,x.cons=some c->x'.cons=some c)/\(x.cons=none->x'.cons=none\/∃c,i<=c/\x'.cons=some c)
 new:∀(ℓ:Nat) (x':aJ),labs'[ℓ]? =some x'->labs.length<=ℓ->(∃p,i<=p/\x'.prod=some p)/\(x'.cons=none\/∃c,i<=c/\x'.cons=some c)
theorem Grow.refl(i:Nat)(labs:List aJ):Grow i labs labs:=⟨fun ℓ x h=>⟨x,h,rfl,rfl,fun _ h=>h,fun h=>.inl h⟩,fun ℓ x h hl=>by have:=(qE.1 h).1;omega⟩
theorem Grow.trans{i:Nat}{l1 l2 l3:List aJ}(h:Grow i l1 l2)(k:Grow (i+1) l2 l3):Grow i l1 l3 where
 old ℓ x hx:=by
  obtain⟨y,h1,h2,h3,h4,h5⟩:=h.old ℓ x hx;obtain⟨z,k1,k2,k3,k4,k5⟩:=k.old ℓ y h1;refine⟨z,k1,k2.trans h2,k3.trans h3,fun c hc=>k4 c (h4 c hc),fun hc=> ?_⟩;rcases h5 hc with h6|⟨c,h6,h7⟩
  .rcases k5 h6 with k6|⟨c,k6,k7⟩
   .exact .inl k6
   .exact .inr ⟨c,by omega,k7⟩
  .exact .inr ⟨c,h6,k4 c h7⟩
 new ℓ z hz hl:=by
  rcases Nat.lt_or_ge ℓ l2.length with h1|h1
  .have h2:=qB h1;obtain⟨⟨p,q1,q2⟩,q3⟩:=h.new ℓ _ h2 hl;obtain⟨z',k1,k2,k3,k4,k5⟩:=k.old ℓ _ h2;rw[hz]at k1;injection k1 with k1
   subst k1;refine⟨⟨p,q1,k3.trans q2⟩,?_⟩;rcases q3 with q3|⟨c,q3,q4⟩
   .rcases k5 q3 with k6|⟨c,k6,k7⟩
    .exact .inl k6
    .exact .inr ⟨c,by omega,k7⟩
   .exact .inr ⟨c,q3,k4 c q4⟩
  .obtain⟨⟨p,q1,q2⟩,q3⟩:=k.new ℓ z hz h1;refine⟨⟨p,by omega,q2⟩,?_⟩;rcases q3 with q3|⟨c,q3,q4⟩
   .exact .inl q3
   .exact .inr ⟨c,by omega,q4⟩
structure oL(k:Nat)(l l1:List aJ)(us:List Nat)(rs:List Tok):Prop where
 len:l1.length=l.length
 nd:us.Nodup
 f2:F2 (fun ℓ t=>∃x,l1[ℓ]? =some x/\x.tok=t) us rs
 old:∀(ℓ:Nat) (x:aJ),l[ℓ]? =some x->∃x',l1[ℓ]? =some x'/\x'.tok=x.tok/\x'.prod=x.prod/\(∀c,x.cons=some c->x'.cons=some c/\ℓ∉us)/\(x.cons=none->(ℓ∈us/\x'.cons=some k)\/(ℓ∉us/\x'.cons=none))
theorem eF{k:Nat}{ns:aK}:∀{l:List aJ} {K:List aJ->List Tok->Prop},bQ k ns l K->∃l1 us rs,K l1 rs/\oL k l l1 us rs
 |[],K,h=>⟨[],[],[],h,rfl,List.nodup_nil,.nil,fun ℓ x h=>by simp at h⟩
 |x::l,K,h=>by
  have f2up:∀{y:aJ} {l1:List aJ} {us:List Nat} {rs:List Tok},F2 (fun ℓ t=>∃x,l1[ℓ]? =some x/\x.tok=t) us rs->F2 (fun ℓ t=>∃x,(y::l1)[ℓ]? =some x/\x.tok=t) (us.map (· +1)) rs:=by
   intro y l1 us rs h
   induction h with
   |nil=>exact .nil
   |cons h1 _ ih=>exact .cons (by simpa using h1) ih
  have nd:∀{us:List Nat},us.Nodup->(us.map (· +1)).Nodup:=fun h=>List.Pairwise.map _ (fun a b (h:a≠b)=>by omega) h
  have m0:∀{us:List Nat},0∉us.map (· +1):=fun {us} h=>by simp at h
  have ms:∀{us:List Nat} {ℓ:Nat},ℓ+1∈us.map (· +1)↔ℓ∈us:=fun {us ℓ}=>by simp
  have keep:∀{y:aJ},y.tok=x.tok->y.prod=x.prod->(∀c,x.cons=some c->y.cons=some c)->(x.cons=none->y.cons=none)->bQ k ns l (fun r t=>K (y::r) t)->∃l1 us rs,K l1 rs/\oL k (x::l) l1 us rs:=fun {y} e1 e2 e3 e4 h=>by
   obtain⟨l1,us,rs,h1,h2,h3,h4,h5⟩:=eF h;refine⟨y::l1,us.map (· +1),rs,h1,by simp[h2],nd h3,f2up h4,fun ℓ z hz=> ?_⟩;cases ℓ with
   |zero=>
    simp at hz;subst hz;exact⟨y,rfl,e1,e2,fun c hc=>⟨e3 c hc,m0⟩,fun hc=>.inr ⟨m0,e4 hc⟩⟩
   |succ ℓ=>
    obtain⟨z',q1,q2,q3,q4,q5⟩:=h5 ℓ z (by simpa using hz);exact⟨z',by simpa using q1,q2,q3,fun c hc=>⟨(q4 c hc).1,fun hm=>(q4 c hc).2 (ms.1 hm)⟩,fun hc=>(q5 hc).imp (fun⟨p1,p2⟩=>⟨ms.2 p1,p2⟩) (fun⟨p1,p2⟩=>⟨fun hm=>p1 (ms.1 hm),p2⟩)⟩
  unfold bQ at h;split at h
  .rename_i hc0;cases hm:x.tok.CW ns with
   |true=>
    rw[hm]at h;obtain⟨l1,us,rs,h1,h2,h3,h4,h5⟩:=eF (l:=l) (K:=fun r t=>K (⟨x.tok,x.prod,some k⟩::r) (x.tok::t)) h;refine⟨_,0::us.map (· +1),_,h1,by simp[h2],List.nodup_cons.2 ⟨m0,nd h3⟩,.cons ⟨_,rfl,rfl⟩ (f2up h4),fun ℓ z hz=> ?_⟩;cases ℓ with
    |zero=>
     simp at hz;subst hz;exact⟨_,rfl,rfl,rfl,fun c hc=>(by rw[hc0]at hc;cases hc),fun hc=>.inl ⟨by simp,rfl⟩⟩
    |succ ℓ=>
     obtain⟨z',q1,q2,q3,q4,q5⟩:=h5 ℓ z (by simpa using hz);have mm:ℓ+1∈0::us.map (· +1)↔ℓ∈us:=by simp
     exact⟨z',by simpa using q1,q2,q3,fun c hc=>⟨(q4 c hc).1,fun hm=>(q4 c hc).2 (mm.1 hm)⟩,fun hc=>(q5 hc).imp (fun⟨p1,p2⟩=>⟨mm.2 p1,p2⟩) (fun⟨p1,p2⟩=>⟨fun hm=>p1 (mm.1 hm),p2⟩)⟩
   |false=>
    rw[hm]at h;exact keep (y:=⟨x.tok,x.prod,none⟩) rfl rfl (fun c hc=>by rw[hc0]at hc;cases hc) (fun _=>rfl) h
  .rename_i c hc0;exact keep (y:=⟨x.tok,x.prod,some c⟩) rfl rfl (fun c' hc=>by rw[hc0]at hc;exact hc) (fun hc=>by rw[hc0]at hc;cases hc) h
theorem sF{k:Nat}:∀{ts:List Tok} {K:List aJ->Prop},yY k ts K->K (ts.map fun t=>⟨t,some k,none⟩)
 |[],K,h=>h
 |t::ts,K,h=>sF (ts:=ts) (K:=fun r=>K (⟨t,some k,none⟩::r)) h
theorem rD:∀{l e:List aJ} {K:List aJ->Prop},xP l e K->K (l++e)
 |[],e,K,h=>h
 |x::l,e,K,h=>rD (l:=l) (K:=fun r=>K (x::r)) h
theorem fA{k:Nat}{l:List aJ}{ts:List Tok}{K:List aJ->Prop}(h:bY k l ts K):K (l++ts.map fun t=>⟨t,some k,none⟩):=rD (sF h)
theorem oH:∀{ts:List Tok} {K:List aJ->Prop},uT ts K->K (ts.map fun t=>⟨t,none,none⟩)
 |[],K,h=>h
 |t::ts,K,h=>oH (ts:=ts) (K:=fun r=>K (⟨t,none,none⟩::r)) h
def fZ(P:Program)(opsA:Array Oper)(o:Oper)(env:Ev)(rsI rsO:List Tok)(ent:Option SV):Prop:=∀(cx:Cx) (β:Nat->Value) (n:Nat) (fr:List aM) (a:Act) (w:World),bW cx β n a env->Inv cx.w0 cx.F0 w (rsI.map (Tok.res cx β)++fr)->
 Gives P opsA o a w fun x w'=>∃β',(∀g,(∀d,o.dst=some d->g % 1000000≠d)->β' g=β g)/\(∀d v,o.dst=some d->ent=some v->bK cx β' (a.put (some d) x) v x)/\Inv cx.w0 cx.F0 w' (rsO.map (Tok.res cx β')++fr)
theorem D6{opsA:Array Oper}{o:Oper}{d:Nat}(hd:o.dst=some d)(hg:o.guard=none)(h:rz P env rs none o v):fZ P opsA o env rs rs (some v):=fun cx β n fr a w E hI=>by
 have hw:Region.wanted o (yielded opsA a.tmps)=true:=by simp[Region.wanted,hg]
 rcases h cx β n fr a w ⟨E,hI⟩ (fun d b e=>by cases e)with⟨x,h1,h2⟩|⟨f,args,h1,h2⟩
 .refine .inl ⟨hw,.inl ⟨x,w,h1,β,fun _ _=>rfl,fun d' v' _ e=> ?_,hI⟩⟩;injection e with e
  subst e;exact bK.of h2
 .refine .inl ⟨hw,.inr (.inr ⟨f,args,h1,h2.mono fun e w' ⟨x,k1,k2,k3⟩=>⟨x,k1,β,fun _ _=>rfl,fun d' v' _ e=> ?_,k3⟩⟩)⟩;injection e with e
  subst e;exact bK.of k2
theorem D5{ops:List Oper}{o:Oper}{d j gd:Nat}{gb gc:Bool}(hd:o.dst=some d)(hg:o.guard=some (j,gb))(hj:bT ops j=some gd)(hc:dQ env 8 gd gb=some gc)(hne:gd≠d)(h:zX (some gc)->rz P env rs (some (gd,gb)) o v):fZ P ops.toArray o env rs rs (some (.gd gd gb v)):=fun cx β n fr a w E hI=>by
 have hyl:∀b,(yielded ops.toArray a.tmps j==some b)=true↔a.tmps[gd]? =some (.bool b):=fun b=>by
  unfold yielded;rw[fE hj];simp only[Option.bind_some,beq_iff_eq];cases a.tmps[gd]? with
  |none=>simp
  |some y=>cases y<;>simp
 by_cases hgt:a.tmps[gd]? =some (.bool gb)
 .have hgc:=dY E _ _ _ _ hc hgt;have hw:Region.wanted o (yielded ops.toArray a.tmps)=true:=by simp only[Region.wanted,hg];exact(hyl gb).2 hgt
  have mk:∀{x:Value},Den cx β v x->bK cx β (a.put (some d) x) (.gd gd gb v) x:=fun {x} hx=>by
   show((a.put (some d) x).tmps[gd]? =some (Value.bool gb)->Den cx β v x)/\((a.put (some d) x).tmps[gd]? ≠some (Value.bool gb)->x=undef);rw[bZ a x hne];exact⟨fun _=>hx,fun hn=>absurd hgt hn⟩
  rcases h (fun c e=>by injection e with e;exact e▸hgc) cx β n fr a w ⟨E,hI⟩ (fun d b e=>by injection e with e;injection e with e1 e2;subst e1 e2;exact hgt)with⟨x,h1,h2⟩|⟨f,args,h1,h2⟩
  .refine .inl ⟨hw,.inl ⟨x,w,h1,β,fun _ _=>rfl,fun d' v' e1 e=> ?_,hI⟩⟩;rw[hd]at e1;injection e1 with e1
   injection e with e
   subst e1 e;exact mk h2
  .refine .inl ⟨hw,.inr (.inr ⟨f,args,h1,h2.mono fun e w' ⟨x,k1,k2,k3⟩=>⟨x,k1,β,fun _ _=>rfl,fun d' v' e1 e=> ?_,k3⟩⟩)⟩;rw[hd]at e1;injection e1 with e1
   injection e with e
   subst e1 e;exact mk k2
 .have hw:Region.wanted o (yielded ops.toArray a.tmps)=false:=by
   simp only[Region.wanted,hg];cases hq:(yielded ops.toArray a.tmps j==some gb)with
   |false=>rfl
   |true=>exact absurd ((hyl gb).1 hq) hgt
  refine .inr ⟨hw,β,fun _ _=>rfl,fun d' v' e1 e=> ?_,hI⟩;rw[hd]at e1;injection e1 with e1
  injection e with e
  subst e1 e;show((a.put (some d) undef).tmps[gd]? =some (Value.bool gb)->Den cx β v undef)/\((a.put (some d) undef).tmps[gd]? ≠some (Value.bool gb)->undef=undef);rw[bZ a undef hne];exact⟨fun hn=>absurd hn hgt,fun _=>rfl⟩
theorem zD{opsA:Array Oper}{o:Oper}{d:Nat}{rs':List Tok}(hd:o.dst=some d)(hg:o.guard=none)(h:nI P env rs none d o v rs'):fZ P opsA o env rs rs' (some v):=fun cx β n fr a w E hI=>by
 have hw:Region.wanted o (yielded opsA a.tmps)=true:=by simp[Region.wanted,hg]
 have hup:∀{β':Nat->Value},lN d β β'->∀g,(∀d,o.dst=some d->g % 1000000≠d)->β' g=β g:=fun hA g hg=>hA g (hg d hd)
 rcases h cx β n fr a w E (fun d b e=>by cases e) hI with⟨x,w',β',h1,h2,h3,h4⟩|⟨f,args,h1,h2⟩
 .refine .inl ⟨hw,.inl ⟨x,w',h1,β',hup h2,fun d' v' _ e=> ?_,h4⟩⟩;injection e with e
  subst e;exact bK.of h3
 .refine .inl ⟨hw,.inr (.inr ⟨f,args,h1,h2.mono fun e w' ⟨x,β',k1,k2,k3,k4⟩=>⟨x,k1,β',hup k2,fun d' v' _ e=> ?_,k4⟩⟩)⟩;injection e with e
  subst e;exact bK.of k3
theorem D7{ops:List Oper}{o:Oper}{d j gd:Nat}{gb:Bool}{rs':List Tok}(hd:o.dst=some d)(hg:o.guard=some (j,gb))(hj:bT ops j=some gd)(hc:dQ env 8 gd gb=some true)(h:nI P env rs (some (gd,gb)) d o v rs'):fZ P ops.toArray o env rs rs' (some v):=fun cx β n fr a w E hI=>by
 have hgt:a.tmps[gd]? =some (.bool gb):=by
  refine Classical.byContradiction fun hn=> ?_
  have:=jh E _ _ _ _ hc hn;cases this
 have hw:Region.wanted o (yielded ops.toArray a.tmps)=true:=by
  simp only[Region.wanted,hg];unfold yielded;rw[fE hj];simp only[Option.bind_some,beq_iff_eq];rw[hgt]
 have hup:∀{β':Nat->Value},lN d β β'->∀g,(∀d,o.dst=some d->g % 1000000≠d)->β' g=β g:=fun hA g hg=>hA g (hg d hd)
 rcases h cx β n fr a w E (fun d b e=>by injection e with e;injection e with e1 e2;subst e1 e2;exact hgt) hI with⟨x,w',β',h1,h2,h3,h4⟩|⟨f,args,h1,h2⟩
 .refine .inl ⟨hw,.inl ⟨x,w',h1,β',hup h2,fun d' v' _ e=> ?_,h4⟩⟩;injection e with e
  subst e;exact bK.of h3
 .refine .inl ⟨hw,.inr (.inr ⟨f,args,h1,h2.mono fun e w' ⟨x,β',k1,k2,k3,k4⟩=>⟨x,k1,β',hup k2,fun d' v' _ e=> ?_,k4⟩⟩)⟩;injection e with e
  subst e;exact bK.of k3
theorem EC{ops:List Oper}{o:Oper}{j gd:Nat}{gb:Bool}(hg:o.guard=some (j,gb))(hj:bT ops j=some gd)(hc:dQ env 8 gd gb=some false):fZ P ops.toArray o env rs rs (some .un):=fun cx β n fr a w E hI=>by
 have hgt:a.tmps[gd]? ≠some (.bool gb):=fun hn=>by
  have:=dY E _ _ _ _ hc hn;cases this
 have hw:Region.wanted o (yielded ops.toArray a.tmps)=false:=by
  simp only[Region.wanted,hg];cases hq:(yielded ops.toArray a.tmps j==some gb)with
  |false=>rfl
  |true=>
   refine absurd ?_ hgt;unfold yielded at hq;rw[fE hj]at hq;simp only[Option.bind_some,beq_iff_eq]at hq;cases h0:a.tmps[gd]? with
   |none=>rw[h0]at hq;simp at hq
   |some y=>rw[h0]at hq;cases y<;>simp_all
 refine .inr ⟨hw,β,fun _ _=>rfl,fun d' v' _ e=> ?_,hI⟩;injection e with e
 subst e;exact bK.of (by unfold Den;rfl)
theorem EB{ops:List Oper}{o:Oper}{d j gd:Nat}{gb:Bool}(v:SV)(hd:o.dst=some d)(hg:o.guard=some (j,gb))(hj:bT ops j=some gd)(hne:gd≠d)(hc:dQ env 8 gd gb=some false):fZ P ops.toArray o env rs rs (some (.gd gd gb v)):=fun cx β n fr a w E hI=>by
 have hgt:a.tmps[gd]? ≠some (.bool gb):=fun hn=>by
  have:=dY E _ _ _ _ hc hn;cases this
 have hw:Region.wanted o (yielded ops.toArray a.tmps)=false:=by
  simp only[Region.wanted,hg];cases hq:(yielded ops.toArray a.tmps j==some gb)with
  |false=>rfl
  |true=>
   refine absurd ?_ hgt;unfold yielded at hq;rw[fE hj]at hq;simp only[Option.bind_some,beq_iff_eq]at hq;cases h0:a.tmps[gd]? with
   |none=>rw[h0]at hq;simp at hq
   |some y=>rw[h0]at hq;cases y<;>simp_all
 refine .inr ⟨hw,β,fun _ _=>rfl,fun d' v' e1 e=> ?_,hI⟩;rw[hd]at e1;injection e1 with e1
 injection e with e
 subst e1 e;show((a.put (some d) undef).tmps[gd]? =some (Value.bool gb)->Den cx β v undef)/\((a.put (some d) undef).tmps[gd]? ≠some (Value.bool gb)->undef=undef);rw[bZ a undef hne];exact⟨fun hn=>absurd hn hgt,fun _=>rfl⟩
theorem ED{opsA:Array Oper}{o:Oper}{rs':List Tok}(hd:o.dst=none)(hg:o.guard=none)(h:BL P env rs none o rs'):fZ P opsA o env rs rs' none:=fun cx β n fr a w E hI=>by
 have hw:Region.wanted o (yielded opsA a.tmps)=true:=by simp[Region.wanted,hg]
 obtain⟨nx,w',hnx,h1,h2⟩:=h cx β n fr a w E (fun d b e=>by cases e) hI;rcases hnx with rfl|⟨x,rfl⟩
 .exact .inl ⟨hw,.inr (.inl ⟨w',h1,β,fun _ _=>rfl,fun d v _ e=>(by cases e),h2⟩)⟩
 .exact .inl ⟨hw,.inl ⟨x,w',h1,β,fun _ _=>rfl,fun d v _ e=>(by cases e),h2⟩⟩
theorem mI:∀{l:List aJ} {K:List Tok->Prop},oD l K->K ((l.filter (fun x=>x.cons.isNone)).map (·.tok))
 |[],K,h=>h
 |x::l,K,h=>by
  unfold oD at h;split at h
  .rename_i hc;have:=mI (l:=l) (K:=fun r=>K (x.tok::r)) h;simpa[List.filter_cons,hc]using this
  .rename_i c hc;have:=mI (l:=l) h;simpa[List.filter_cons,hc]using this
def nG(dl:List (Nat×Nat))(i:Nat)(A:List Nat)(g:Nat):Prop:=∀q,lk dl (g % 1000000)=some q->q=i\/q∈A
theorem dL{dl:List (Nat×Nat)}{i:Nat}{A:aK}:∀{l:aK},aX dl i A l=true->∀g∈l,nG dl i A g
 |[],_,g,hg=>by simp at hg
 |x::l,h,g,hg=>by
  unfold aX at h;rw[qD]at h;rcases List.mem_cons.1 hg with rfl|hg
  .intro q hq;have:=h.1;rw[hq]at this;simp only[Bool.or_eq_true]at this;rcases this with h1|h1
   .exact .inl (ak h1)
   .exact .inr (mem_iff.1 h1)
  .exact dL h.2 g hg
theorem rO{dl:List (Nat×Nat)}:∀{l:aK},rM dl l=true->∀g∈l,lk dl (g % 1000000)=none
 |[],_,g,hg=>by simp at hg
 |x::l,h,g,hg=>by
  unfold rM at h;rw[qD]at h;rcases List.mem_cons.1 hg with rfl|hg
  .have:=h.1;cases hq:lk dl (g % 1000000)with
   |none=>rfl
   |some q=>rw[hq]at this;cases this
  .exact rO h.2 g hg
structure xI(P:Program)(ops:List Oper)(base:Ev)(olds:List dH)(dl:List (Nat×Nat))(ents:List dH)(labs:List aJ)(anc rds:List (List Nat))(k:Nat):Prop where
 ex:∃(o:Oper) (A rd:List Nat) (env:Ev) (rsR rsC rsP:List Tok) (idC idP:List Nat) (ent:Option SV),ops[k]? =some o/\anc[k]? =some A/\rds[k]? =some rd/\
  (rd.Nodup/\F2 (At labs) rd rsR)/\(idC.Nodup/\F2 (At labs) idC rsC/\∀(ℓ:Nat) (x:aJ),labs[ℓ]? =some x->(x.cons=some k↔ℓ∈idC))/\(idP.Nodup/\F2 (At labs) idP rsP/\∀(ℓ:Nat) (x:aJ),labs[ℓ]? =some x->(x.prod=some k↔ℓ∈idP))/\
  (∀t s,lk env t=some s->(∃x∈ents,x.i∈A/\x.d=t/\x.v=s)\/(∃x∈olds,(x.i=k\/∃A,anc[x.i]? =some A/\k∈A)/\x.d=t/\x.v=s)\/lk base t=some s)/\fZ P ops.toArray o env (rsR++rsC) (rsR++rsP) ent/\
  (∀x∈ents,x.i=k->o.dst=some x.d/\ent=some x.v/\(∀g∈SV.names x.v [],nG dl k A g)/\∀gd b y,x.v=.gd gd b y->(∃jg∈A,bT ops jg=some gd)/\o.guard≠none)/\(∀t∈rsP,∀g∈Tok.names t [],nG dl k A g)
theorem F2.mono{α γ:Type u}{R S:α->γ->Prop}{l:List α}{m:List γ}(h:F2 R l m)(k:∀a b,R a b->S a b):F2 S l m:=dx k h
theorem F2.sD{α γ:Type u}{R:α->γ->Prop}{x:α}:∀{l:List α} {m:List γ},F2 R l m->x∈l->∃b,R x b
 |_::_,_::_,.cons h1 h2,hm=>by
  rcases List.mem_cons.1 hm with rfl|hm
  .exact⟨_,h1⟩
  .exact h2.sD hm
theorem At.grow{i:Nat}{labs labs':List aJ}(h:Grow i labs labs'){ℓ:Nat}{t:Tok}(ha:At labs ℓ t):At labs' ℓ t:=by
 obtain⟨x,h1,h2⟩:=ha;obtain⟨x',h3,h4,_⟩:=h.old ℓ x h1;exact⟨x',h3,h4.trans h2⟩
def BJ(i:Nat)(labs:List aJ):Prop:=∀(ℓ:Nat) (x:aJ),labs[ℓ]? =some x->(∀p,x.prod=some p->p<i)/\(∀c,x.cons=some c->c<i)
structure ru(P:Program)(nt:Nat)(ops:List Oper)(base:Ev)(olds:List dH)(dl:List (Nat×Nat))(K:Ev->List Tok->Prop)(i m:Nat)(ents:List dH)(labs:List aJ)(anc rds:List (List Nat))(ents':List dH)(labs':List aJ)(rds':List (List Nat)):Prop where
 good:bM.good ⟨rds',labs'.map (fun x=>⟨x.prod,x.cons⟩),anc⟩ ops.toArray nt=true
 fin:∃env,K env ((labs'.filter (fun x=>x.cons.isNone)).map (·.tok))/\∀t s,lk env t=some s->(∃x∈ents',x.d=t/\x.v=s)\/lk base t=some s
 e1:∀x∈ents,x∈ents'
 e2:∀x∈ents',x∈ents\/(i<=x.i/\x.i<i+m)
 gr:Grow i labs labs'
 r1:∀(k:Nat) (A:List Nat),rds[k]? =some A->rds'[k]? =some A
 ops:∀j,j<m->xI P ops base olds dl ents' labs' anc rds' (i+j)
theorem zS(hti:bE P ti=true)(hn0:n<=10000){ops:List Oper}{dl:List (Nat×Nat)}{base:Ev}{olds:List dH}{anc:List (List Nat)}{K:Ev->List Tok->Prop}:∀(rest:List Oper) (i:Nat) {ents:List dH} {labs:List aJ} {rds:List (List Nat)},
  jL P ti n ops dl base olds anc i rest ents labs rds K->rds.length=i->(∀j,ops[i+j]? =rest[j]?)->BJ i labs->(∀x∈ents,x.i<i)->∃ents' labs' rds',ru P n ops base olds dl K i rest.length ents labs anc rds ents' labs' rds'
 |[],i,ents,labs,rds,h,hr,ho,hI,hE=>by
  rw[Bg]at h;obtain⟨env,h1,h2⟩:=vg h.2;exact⟨ents,labs,rds,h.1,⟨env,mI h1,h2⟩,fun x h=>h,fun x h=>.inl h,Grow.refl _ _,fun k A h=>h,fun j hj=>by simp at hj⟩
 |o::rest,i,ents,labs,rds,h,hr,ho,hI,hE=>by
  rw[zR]at h;split at h
  .exact h.elim
  rename_i A hA0;rw[jW]at hA0;obtain⟨base',h,hold⟩:=qb h;obtain⟨env,h,henv0⟩:=oP h
  have henv:∀t s,lk env t=some s->(∃x∈ents,x.i∈A/\x.d=t/\x.v=s)\/(∃x∈olds,(x.i=i\/∃A,anc[x.i]? =some A/\i∈A)/\x.d=t/\x.v=s)\/lk base t=some s:=fun t s hl=>by
   rcases henv0 t s hl with h1|h1
   .exact .inl h1
   .exact .inr (hold t s h1)
  have ho0:ops[i]? =some o:=by simpa using ho 0
  have hoS:∀j,ops[i+1+j]? =rest[j]? :=fun j=>by
   have:=ho (j+1);rw[show i+(j+1)=i+1+j by omega]at this;simpa using this
  have step:∀{ents2:List dH} {labs2:List aJ} {rd:List Nat} {rsR rsC rsP:List Tok} {idC idP:List Nat} {ent:Option SV},
    jL P ti n ops dl base olds anc (i+1) rest ents2 labs2 (rds++[rd]) K->BJ (i+1) labs2->Grow i labs labs2->(∀x∈ents,x∈ents2)->(∀x∈ents2,x∈ents\/(x.i=i/\o.dst=some x.d/\ent=some x.v/\(∀g∈SV.names x.v [],nG dl i A g)/\∀gd b y,x.v=.gd gd b y->(∃jg∈A,bT ops jg=some gd)/\o.guard≠none))->
    rd.Nodup->F2 (At labs2) rd rsR->idC.Nodup->F2 (At labs2) idC rsC->(∀(ℓ:Nat) (x:aJ),labs2[ℓ]? =some x->(x.cons=some i↔ℓ∈idC))->idP.Nodup->F2 (At labs2) idP rsP->(∀(ℓ:Nat) (x:aJ),labs2[ℓ]? =some x->(x.prod=some i↔ℓ∈idP))->
    fZ P ops.toArray o env (rsR++rsC) (rsR++rsP) ent->(∀t∈rsP,∀g∈Tok.names t [],nG dl i A g)->∃ents' labs' rds',ru P n ops base olds dl K i (o::rest).length ents labs anc rds ents' labs' rds':=by
   intro ents2 labs2 rd rsR rsC rsP idC idP ent h hI2 hG he1 he2 hrd hfR hC hfC hCi hP hfP hPi hsem hcls
   obtain⟨ents',labs',rds',hD⟩:=zS hti hn0 rest (i+1) h (by simp[hr]) hoS hI2 (fun x hx=>by
    rcases he2 x hx with h1|h1
    .have:=hE x h1;omega
    .omega)
   have hR':rds'[i]? =some rd:=hD.r1 i rd (by rw[qL (by omega)];simp[hr]);refine⟨ents',labs',rds',hD.good,hD.fin,fun x hx=>hD.e1 x (he1 x hx),fun x hx=> ?_,hG.trans hD.gr,fun k B hk=>hD.r1 k B ?_,fun j hj=> ?_⟩
   .rcases hD.e2 x hx with h1|h1
    .rcases he2 x h1 with h2|h2
     .exact .inl h2
     .exact .inr (by simp only[qI];omega)
    .exact .inr (by simp only[qI];omega)
   .rw[qM (qE.1 hk).1];exact hk
   .cases j with
    |succ j=>
     have:=hD.ops j (by simpa using hj)
     rwa[show i+1+j=i+(j+1) by omega]at this
    |zero=>
     rw[Nat.add_zero];refine⟨o,A,rd,env,rsR,rsC,rsP,idC,idP,ent,ho0,hA0,hR',⟨hrd,hfR.mono fun _ _=>At.grow hD.gr⟩,⟨hC,hfC.mono fun _ _=>At.grow hD.gr,fun ℓ x' hx'=> ?_⟩,⟨hP,hfP.mono fun _ _=>At.grow hD.gr,fun ℓ x' hx'=> ?_⟩,fun t s hl=> ?_,hsem,fun x hx hxi=> ?_,hcls⟩
     .rcases Nat.lt_or_ge ℓ labs2.length with h1|h1
      .have h2:=qB h1;obtain⟨y,k1,_,_,k4,k5⟩:=hD.gr.old ℓ _ h2;rw[hx']at k1;injection k1 with k1
       subst k1;rw[<-hCi ℓ _ h2];cases hc:labs2[ℓ].cons with
       |none=>
        rcases k5 hc with k6|⟨c,k6,k7⟩
        .rw[k6]
        .rw[k7];constructor
         .intro e;injection e with e;omega
         .intro e;cases e
       |some c=>rw[k4 c hc]
      .have h2:=hD.gr.new ℓ x' hx' h1;constructor
       .intro e;rcases h2.2 with h3|⟨c,h3,h4⟩
        .rw[h3]at e;cases e
        .rw[h4]at e;injection e with e;omega
       .intro hm;obtain⟨t,⟨y,hy,_⟩⟩:∃t,At labs2 ℓ t:=hfC.sD hm;have:=(qE.1 hy).1;omega
     .rcases Nat.lt_or_ge ℓ labs2.length with h1|h1
      .have h2:=qB h1;obtain⟨y,k1,_,k3,_⟩:=hD.gr.old ℓ _ h2;rw[hx']at k1;injection k1 with k1
       subst k1;rw[<-hPi ℓ _ h2,k3]
      .obtain⟨⟨p,h2,h3⟩,_⟩:=hD.gr.new ℓ x' hx' h1;constructor
       .intro e;rw[h3]at e;injection e with e;omega
       .intro hm;obtain⟨t,⟨y,hy,_⟩⟩:∃t,At labs2 ℓ t:=hfP.sD hm;have:=(qE.1 hy).1;omega
     .rcases henv t s hl with⟨x,h1,h2⟩|h1
      .exact .inl ⟨x,hD.e1 x (he1 x h1),h2⟩
      .exact .inr h1
     .rcases hD.e2 x hx with h1|h1
      .rcases he2 x h1 with h2|h2
       .have:=hE x h2;omega
       .exact h2.2
      .omega
  have noP:∀(ℓ:Nat) (x:aJ),labs[ℓ]? =some x->(x.prod=some i↔ℓ∈([]:List Nat)):=fun ℓ x hx=>⟨fun e=>by have:=(hI ℓ x hx).1 i e;omega,fun hm=>by simp at hm⟩
  have noC:∀(ℓ:Nat) (x:aJ),labs[ℓ]? =some x->(x.cons=some i↔ℓ∈([]:List Nat)):=fun ℓ x hx=>⟨fun e=>by have:=(hI ℓ x hx).2 i e;omega,fun hm=>by simp at hm⟩
  have hI1:BJ (i+1) labs:=fun ℓ x hx=>⟨fun p hp=>by have:=(hI ℓ x hx).1 p hp;omega,fun c hc=>by have:=(hI ℓ x hx).2 c hc;omega⟩
  have pureStep:∀{d:Nat} {v' v:SV} {rd:List Nat} {rs:List Tok},o.dst=some d->jL P ti n ops dl base olds anc (i+1) rest (⟨i,d,v'⟩::ents) labs (rds++[rd]) K->aX dl i A (v.names [])=true->(∀gd b y,v'=.gd gd b y->(∃jg∈A,bT ops jg=some gd)/\o.guard≠none)->(v'.names []=v.names [])->rd.Nodup->F2 (At labs) rd rs->fZ P ops.toArray o env rs rs (some v')->∃ents' labs' rds',ru P n ops base olds dl K i (o::rest).length ents labs anc rds ents' labs' rds':=by
   intro d v' v rd rs hd h hc hgd hnm hrd hf hsem;refine step (idC:=[]) (idP:=[]) (rsC:=[]) (rsP:=[]) (ent:=some v') h hI1 (Grow.refl _ _) (fun x hx=>by simp[hx]) (fun x hx=> ?_) hrd hf List.nodup_nil .nil noC List.nodup_nil .nil noP (by simpa using hsem) (fun t ht=>by simp at ht);rcases List.mem_cons.1 hx with rfl|hx
   .exact .inr ⟨rfl,hd,rfl,fun g hg=>dL hc g (by simpa[hnm]using hg),hgd⟩
   .exact .inl hx
  have takeStepR:∀{ns:List Nat} {rd:List Nat} {rsR:List Tok} {ent:Option SV} {ents2:List dH} {rs':List Tok} {l1:List aJ} {us:List Nat} {rs:List Tok},oL i labs l1 us rs->rd.Nodup->F2 (At labs) rd rsR->(∀x∈ents,x∈ents2)->(∀x∈ents2,x∈ents\/(x.i=i/\o.dst=some x.d/\ent=some x.v/\(∀g∈SV.names x.v [],nG dl i A g)/\∀gd b y,x.v=.gd gd b y->(∃jg∈A,bT ops jg=some gd)/\o.guard≠none))->(∀t∈rs',∀g∈Tok.names t [],nG dl i A g)->
    jL P ti n ops dl base olds anc (i+1) rest ents2 (l1++rs'.map fun t=>⟨t,some i,none⟩) (rds++[rd]) K->fZ P ops.toArray o env (rsR++rs) (rsR++rs') ent->∃ents' labs' rds',ru P n ops base olds dl K i (o::rest).length ents labs anc rds ents' labs' rds':=by
   intro ns rd rsR ent ents2 rs' l1 us rs hT hrdN hrdF he1 he2 hcl h hsem;have hlen:=hT.len
   have hat:∀(ℓ:Nat) (x:aJ),(l1++rs'.map fun t=>(⟨t,some i,none⟩:aJ))[ℓ]? =some x->(∃y,labs[ℓ]? =some y/\l1[ℓ]? =some x/\x.tok=y.tok/\x.prod=y.prod/\(∀c,y.cons=some c->x.cons=some c/\ℓ∉us)/\(y.cons=none->(ℓ∈us/\x.cons=some i)\/(ℓ∉us/\x.cons=none)))\/(labs.length<=ℓ/\x.prod=some i/\x.cons=none):=fun ℓ x hx=>by
    rcases Nat.lt_or_ge ℓ l1.length with h1|h1
    .rw[qM h1]at hx;have h2:=qB (show ℓ<labs.length by omega);obtain⟨x',k1,k2,k3,k4,k5⟩:=hT.old ℓ _ h2;rw[hx]at k1;injection k1 with k1
     subst k1;exact .inl ⟨_,h2,hx,k2,k3,k4,k5⟩
    .rw[qL h1,qY]at hx;cases hq:rs'[ℓ-l1.length]? with
     |none=>rw[hq]at hx;cases hx
     |some t=>rw[hq]at hx;injection hx with hx;subst hx;exact .inr ⟨by omega,rfl,rfl⟩
   have f2new:∀(ts:List Tok) (pre:List aJ),F2 (At (pre++ts.map fun t=>(⟨t,some i,none⟩:aJ))) ((List.range ts.length).map (pre.length+ ·)) ts:=by
    intro ts
    induction ts with
    |nil=>intro pre;exact .nil
    |cons t ts ih=>
     intro pre;rw[qI,List.range_succ_eq_map];show F2 _ ((pre.length+0)::List.map (fun x=>pre.length+x) (List.map Nat.succ (List.range ts.length))) (t::ts);rw[List.map_map];refine .cons ⟨⟨t,some i,none⟩,by rw[qL (by omega)];simp,rfl⟩ ?_;have:=ih (pre++[⟨t,some i,none⟩]);rw[qF]at this;simp only[qA,qJ]at this;have e:(List.range ts.length).map ((pre.length+ ·)∘Nat.succ)=(List.range ts.length).map (pre.length+1+ ·):=List.map_congr_left fun j _=>by simp only[Function.comp];omega
     rw[e];exact this
   refine step (idC:=us) (idP:=(List.range rs'.length).map (l1.length+ ·)) (rsR:=rsR) (rsC:=rs) (rsP:=rs') (ent:=ent) h (fun ℓ x hx=> ?_) ⟨fun ℓ y hy=> ?_,fun ℓ x hx hl=> ?_⟩ he1 he2 hrdN (hrdF.mono fun ℓ t ⟨x,q1,q2⟩=>by obtain⟨x',k1,k2,_⟩:=hT.old ℓ x q1;exact⟨x',by rw[qM (qE.1 k1).1];exact k1,k2.trans q2⟩) hT.nd (hT.f2.mono fun ℓ t ⟨x,q1,q2⟩=>⟨x,by rw[qM (qE.1 q1).1];exact q1,q2⟩) (fun ℓ x hx=> ?_) (List.Pairwise.map _ (fun a b (h:a≠b)=>by omega) List.nodup_range) (f2new rs' l1) (fun ℓ x hx=> ?_) (by simpa using hsem) hcl
   .rcases hat ℓ x hx with⟨y,q1,q2,q3,q4,q5,q6⟩|⟨q1,q2,q3⟩
    .refine⟨fun p hp=>by have:=(hI ℓ y q1).1 p (q4▸hp);omega,fun c hc=> ?_⟩;cases hyc:y.cons with
     |some c'=>
      rw[(q5 c' hyc).1]at hc;injection hc with hc
      have:=(hI ℓ y q1).2 c' hyc;omega
     |none=>
      rcases q6 hyc with⟨_,q7⟩|⟨_,q7⟩
      .rw[q7]at hc;injection hc with hc;omega
      .rw[q7]at hc;cases hc
    .exact⟨fun p hp=>by rw[q2]at hp;injection hp with hp;omega,fun c hc=>by rw[q3]at hc;cases hc⟩
   .obtain⟨x',k1,k2,k3,k4,k5⟩:=hT.old ℓ y hy;refine⟨x',by rw[qM (qE.1 k1).1];exact k1,k2,k3,fun c hc=>(k4 c hc).1,fun hc=> ?_⟩;rcases k5 hc with⟨_,k6⟩|⟨_,k6⟩
    .exact .inr ⟨i,Nat.le_refl _,k6⟩
    .exact .inl k6
   .rcases hat ℓ x hx with⟨y,q1,_⟩|⟨q1,q2,q3⟩
    .have:=(qE.1 q1).1;omega
    .exact⟨⟨i,Nat.le_refl _,q2⟩,.inl q3⟩
   .rcases hat ℓ x hx with⟨y,q1,q2,q3,q4,q5,q6⟩|⟨q1,q2,q3⟩
    .cases hyc:y.cons with
     |some c'=>
      obtain⟨q7,q8⟩:=q5 c' hyc;refine⟨fun e=> ?_,fun hm=>absurd hm q8⟩;rw[q7]at e;injection e with e
      have:=(hI ℓ y q1).2 c' hyc;omega
     |none=>
      rcases q6 hyc with⟨q7,q8⟩|⟨q7,q8⟩
      .exact⟨fun _=>q7,fun _=>q8⟩
      .exact⟨fun e=>(by rw[q8]at e;cases e),fun hm=>absurd hm q7⟩
    .refine⟨fun e=>(by rw[q3]at e;cases e),fun hm=> ?_⟩;obtain⟨t,y,hy,_⟩:∃t,∃y,l1[ℓ]? =some y/\y.tok=t:=hT.f2.sD hm;have:=(qE.1 hy).1;omega
   .have hr:ℓ∈(List.range rs'.length).map (l1.length+ ·)↔l1.length<=ℓ/\ℓ<l1.length+rs'.length:=by
     simp only[List.mem_map,List.mem_range];constructor
     .rintro⟨j,h1,rfl⟩;omega
     .rintro⟨h1,h2⟩;exact⟨ℓ-l1.length,by omega,by omega⟩
    rw[hr];have hlt:=(qE.1 hx).1;simp only[qA,qV]at hlt;rcases hat ℓ x hx with⟨y,q1,q2,q3,q4,q5,q6⟩|⟨q1,q2,q3⟩
    .refine⟨fun e=> ?_,fun hm=> ?_⟩
     .have:=(hI ℓ y q1).1 i (q4▸e);omega
     .have:=(qE.1 q1).1;omega
    .exact⟨fun _=>⟨by omega,by omega⟩,fun _=>q2⟩
  have takeStep:∀{ns:List Nat} {ent:Option SV} {ents2:List dH} {rs':List Tok} {l1:List aJ} {us:List Nat} {rs:List Tok},oL i labs l1 us rs->(∀x∈ents,x∈ents2)->(∀x∈ents2,x∈ents\/(x.i=i/\o.dst=some x.d/\ent=some x.v/\(∀g∈SV.names x.v [],nG dl i A g)/\∀gd b y,x.v=.gd gd b y->(∃jg∈A,bT ops jg=some gd)/\o.guard≠none))->(∀t∈rs',∀g∈Tok.names t [],nG dl i A g)->
    jL P ti n ops dl base olds anc (i+1) rest ents2 (l1++rs'.map fun t=>⟨t,some i,none⟩) (rds++[[]]) K->fZ P ops.toArray o env rs rs' ent->∃ents' labs' rds',ru P n ops base olds dl K i (o::rest).length ents labs anc rds ents' labs' rds':=fun {ns} {ent} {ents2} {rs'} {l1} {us} {rs} hT he1 he2 hcl h hsem=>takeStepR (ns:=ns) (rsR:=[]) hT List.nodup_nil .nil he1 he2 hcl h hsem
  have split_fresh:∀{d:Nat} {env:Ev} {rs:List Tok} {p:Prop},(bif au d env rs then p else False)->au d env rs=true/\p:=fun {d env rs p} h=>by
   cases hb:au d env rs with
   |true=>rw[hb]at h;exact⟨rfl,h⟩
   |false=>rw[hb]at h;exact h.elim
  have split_b:∀{b:Bool} {p:Prop},(bif b then p else False)->b=true/\p:=fun {b p} h=>by
   cases b with
   |true=>exact⟨rfl,h⟩
   |false=>exact h.elim
  have hfreeG:jQ ops env A o.guard=.free->o.guard=none:=fun hG=>by
   unfold jQ at hG;split at hG
   .assumption
   .rename_i j b hj;cases hm:mem j A with
    |true=>
     rw[hm]at hG;simp only[qG]at hG;unfold eB at hG;simp only at hG;split at hG
     .split at hG<;>cases hG
     .cases hG
    |false=>rw[hm]at hG;cases hG
  have hatG:∀{gd:Nat} {gb gc:Bool},jQ ops env A o.guard=.at gd gb gc->∃j,o.guard=some (j,gb)/\bT ops j=some gd/\dQ env 8 gd gb=some gc/\j∈A:=fun {gd gb gc} hG=>by
   unfold jQ at hG;split at hG
   .cases hG
   .rename_i j b hj;cases hm:mem j A with
    |true=>
     rw[hm]at hG;simp only[qG]at hG;unfold eB at hG;simp only at hG;split at hG
     .rename_i d' hd';split at hG
      .rename_i c hc;injection hG with e1 e2 e3
       subst e1 e2 e3;exact⟨j,hj,hd',hc,mem_iff.1 hm⟩
      .cases hG
     .cases hG
    |false=>rw[hm]at hG;cases hG
  have f2l:∀{rd:List Nat} {rs:List Tok},F2 (fun ℓ t=>∃x,labs[ℓ-0]? =some x/\x.tok=t) rd rs->F2 (At labs) rd rs:=fun h=>h.mono fun ℓ t ⟨x,q1,q2⟩=>⟨x,by simpa using q1,q2⟩
  have doSt:∀{ns:List Nat} {d:Nat},o.dst=some d->o.guard=none->d<1000000->(bQ i ns labs fun labs1 rs=>bif au d env rs then gG P ti env rs none d o.op fun v rs'=>(bif bO v&&aX dl i A (v.names (aF rs' []))then bY i labs1 rs' fun labs2=>aS rds [] fun rds'=>jL P ti n ops dl base olds anc (i+1) rest (⟨i,d,v⟩::ents) labs2 rds' K else False)else False)->∃ents' labs' rds',ru P n ops base olds dl K i (o::rest).length ents labs anc rds ents' labs' rds':=by
   intro ns d hd hg hdM h;obtain⟨l1,us,rs,h,hT⟩:=eF h;obtain⟨hf,h⟩:=split_fresh h;obtain⟨v,rs',h,hS⟩:=iW (dst:=o.dst) (ty:=o.type) (pos:=o.pos) (aft:=o.after) (gd:=o.guard) hti hdM hf h;obtain⟨hc,h⟩:=split_b h;rw[qD]at hc;obtain⟨hn,hc⟩:=hc;have h:=bB (fA h);have hcl:=dL hc;refine takeStep (ns:=ns) (ent:=some v) hT (fun x hx=>by simp[hx]) (fun x hx=> ?_) (fun t ht g hg=>hcl g (aQ.2 (.inr (bF.2 (.inl ⟨t,ht,hg⟩))))) h (zD hd hg hS);rcases List.mem_cons.1 hx with rfl|hx
   .exact .inr ⟨rfl,hd,rfl,fun g hg=>hcl g (aQ.2 (.inl hg)),fun gd b y e=>by subst e;simp[bO]at hn⟩
   .exact .inl hx
  have doStG:∀{ns:List Nat} {d j gd:Nat} {gb:Bool},o.dst=some d->o.guard=some (j,gb)->bT ops j=some gd->dQ env 8 gd gb=some true->d<1000000->(bQ i ns labs fun labs1 rs=>bif au d env rs then gG P ti env rs (some (gd,gb)) d o.op fun v rs'=>(bif bO v&&aX dl i A (v.names (aF rs' []))then bY i labs1 rs' fun labs2=>aS rds [] fun rds'=>jL P ti n ops dl base olds anc (i+1) rest (⟨i,d,v⟩::ents) labs2 rds' K else False)else False)->∃ents' labs' rds',ru P n ops base olds dl K i (o::rest).length ents labs anc rds ents' labs' rds':=by
   intro ns d j gd gb hd hg hj hc0 hdM h;obtain⟨l1,us,rs,h,hT⟩:=eF h;obtain⟨hf,h⟩:=split_fresh h;obtain⟨v,rs',h,hS⟩:=iW (dst:=o.dst) (ty:=o.type) (pos:=o.pos) (aft:=o.after) (gd:=o.guard) hti hdM hf h;obtain⟨hc,h⟩:=split_b h;rw[qD]at hc;obtain⟨hn,hc⟩:=hc;have h:=bB (fA h);have hcl:=dL hc;refine takeStep (ns:=ns) (ent:=some v) hT (fun x hx=>by simp[hx]) (fun x hx=> ?_) (fun t ht g hg=>hcl g (aQ.2 (.inr (bF.2 (.inl ⟨t,ht,hg⟩))))) h (D7 hd hg hj hc0 hS);rcases List.mem_cons.1 hx with rfl|hx
   .exact .inr ⟨rfl,hd,rfl,fun g hg=>hcl g (aQ.2 (.inl hg)),fun gd b y e=>by subst e;simp[bO]at hn⟩
   .exact .inl hx
  have doUn:∀{d j gd:Nat} {gb:Bool},o.dst=some d->o.guard=some (j,gb)->bT ops j=some gd->dQ env 8 gd gb=some false->(aS rds [] fun rds'=>jL P ti n ops dl base olds anc (i+1) rest (⟨i,d,.un⟩::ents) labs rds' K)->∃ents' labs' rds',ru P n ops base olds dl K i (o::rest).length ents labs anc rds ents' labs' rds':=by
   intro d j gd gb hd hg hj hc0 h;exact pureStep (v:=.un) hd (bB h) rfl (fun gd b y e=>by cases e) rfl List.nodup_nil .nil (EC hg hj hc0)
  split at h
  .exact h.elim
  .rename_i hG hd;obtain⟨l1,us,rs,h,hT⟩:=eF h;obtain⟨rs',h,hW⟩:=mY (P:=P) (dst:=o.dst) (ty:=o.type) (pos:=o.pos) (aft:=o.after) (gd:=o.guard) hti h;obtain⟨hc,h⟩:=split_b h;have h:=bB (fA h);exact takeStep (ns:=[]) (ent:=none) hT (fun x hx=>hx) (fun x hx=>.inl hx) (fun t ht g hg=>dL hc g (bF.2 (.inl ⟨t,ht,hg⟩))) h (ED hd (hfreeG hG) hW)
  .exact h.elim
  .rename_i d hG hd;have hgn:=hfreeG hG;cases hbl:Nat.blt d n with
   |false=>rw[hbl]at h;exact h.elim
   |true=>
   rw[hbl]at h;simp only[Bool.not_true,qH]at h;have hdM:d<1000000:=qW (show d<n by simpa using hbl) (Nat.le_trans hn0 (by decide));split at h
   .obtain⟨rd,rs,h,k1,_,k2⟩:=gU h;obtain⟨v,h,hO⟩:=mD hti h;obtain⟨hc,h⟩:=split_b h;rw[qD]at hc;exact pureStep hd (bB h) hc.2 (fun gd b y e=>by have:=hc.1;subst e;simp[bO]at this) rfl k1 (f2l k2) (D6 hd hgn (hO fun c e=>by cases e))
   .cases hcu:yM o.op with
    |false=>
     rw[hcu]at h;simp only[qH]at h;revert h;generalize yN _ o.op=bsx;intro h;cases bsx with
     |false=>exact doSt hd hgn hdM h
     |true=>
      rcases h with⟨tk,h⟩|h
      .obtain⟨l1,us,rs1,h,hT⟩:=eF h;obtain⟨rd,rs,h,k1,_,k2⟩:=gU h;obtain⟨hf,h⟩:=split_fresh h;obtain⟨v,rs',h,hS⟩:=iW (dst:=o.dst) (ty:=o.type) (pos:=o.pos) (aft:=o.after) (gd:=o.guard) hti hdM hf h;obtain⟨new,he,h⟩:=h;rw[he]at hS;have hS:=hS.perm List.perm_append_comm List.perm_append_comm;obtain⟨hc,h⟩:=split_b h;rw[qD]at hc;obtain⟨hn,hc⟩:=hc;have h:=bB (fA h);have hcl:=dL hc
       have k3:F2 (At labs) rd rs:=k2.mono fun ℓ t ⟨x,q1,q2⟩=>by
        rw[Nat.sub_zero]at q1;have hlt:ℓ<labs.length:=by rw[<-hT.len];exact(qE.1 q1).1
        obtain⟨x',w1,w2,_⟩:=hT.old ℓ _ (qB hlt);rw[q1]at w1;injection w1 with w1
        subst w1;exact⟨_,qB hlt,w2.symm.trans q2⟩
       refine takeStepR (ns:=[]) (ent:=some v) hT k1 k3 (fun x hx=>by simp[hx]) (fun x hx=> ?_) (fun t ht g hg=>hcl g (aQ.2 (.inr (bF.2 (.inl ⟨t,ht,hg⟩))))) h (zD hd hgn hS);rcases List.mem_cons.1 hx with rfl|hx
       .exact .inr ⟨rfl,hd,rfl,fun g hg=>hcl g (aQ.2 (.inl hg)),fun gd b y e=>by subst e;simp[bO]at hn⟩
       .exact .inl hx
      .exact doSt hd hgn hdM h
    |true=>
     rw[hcu]at h;rcases h with h|h
     .obtain⟨rd,rs,h,k1,_,k2⟩:=gU h;obtain⟨hf,h⟩:=split_fresh h;obtain⟨v,rs',h,hS⟩:=iW (dst:=o.dst) (ty:=o.type) (pos:=o.pos) (aft:=o.after) (gd:=o.guard) hti hdM hf h;obtain⟨he,h⟩:=h;rw[he]at hS;obtain⟨hc,h⟩:=split_b h;rw[qD]at hc;exact pureStep hd (bB h) hc.2 (fun gd b y e=>by have:=hc.1;subst e;simp[bO]at this) rfl k1 (f2l k2) (zD hd hgn hS)
     .exact doSt hd hgn hdM h
   .rcases h with h|h
    .obtain⟨ns0,h⟩:=eY h;cases ns0 with
     |nil=>
      obtain⟨v,h,hO⟩:=mD hti h;obtain⟨hc,h⟩:=split_b h;rw[qD]at hc;exact pureStep hd (bB h) hc.2 (fun gd b y e=>by have:=hc.1;subst e;simp[bO]at this) rfl List.nodup_nil .nil (D6 hd hgn (hO fun c e=>by cases e))
     |cons g0 l0=>
      obtain⟨ns1,h⟩:=iD h;rcases h with h|⟨tk,h⟩
      .obtain⟨rd,rs,h,k1,_,k2⟩:=gU h;obtain⟨hf,h⟩:=split_fresh h;obtain⟨v,rs',h,hS⟩:=iW (dst:=o.dst) (ty:=o.type) (pos:=o.pos) (aft:=o.after) (gd:=o.guard) hti hdM hf h;obtain⟨new,he,h⟩:=h;rw[he]at hS;obtain⟨hc,h⟩:=split_b h;rw[qD]at hc;obtain⟨hn,hc⟩:=hc;have h:=bB (fA h);have hcl:=dL hc;refine takeStepR (ns:=[]) (ent:=some v) (l1:=labs) (us:=[]) (rs:=[]) ⟨rfl,List.nodup_nil,.nil,fun ℓ x hx=>⟨x,hx,rfl,rfl,fun c hc=>⟨hc,by simp⟩,fun hc=>.inr ⟨by simp,hc⟩⟩⟩ k1 (f2l k2) (fun x hx=>by simp[hx]) (fun x hx=> ?_) (fun t ht g hg=>hcl g (aQ.2 (.inr (bF.2 (.inl ⟨t,ht,hg⟩))))) h (by rw[qS];exact zD hd hgn hS)
       rcases List.mem_cons.1 hx with rfl|hx
       .exact .inr ⟨rfl,hd,rfl,fun g hg=>hcl g (aQ.2 (.inl hg)),fun gd b y e=>by subst e;simp[bO]at hn⟩
       .exact .inl hx
      .obtain⟨l1,us,rs1,h,hT⟩:=eF h;obtain⟨rd,rs,h,k1,_,k2⟩:=gU h;obtain⟨hf,h⟩:=split_fresh h;obtain⟨v,rs',h,hS⟩:=iW (dst:=o.dst) (ty:=o.type) (pos:=o.pos) (aft:=o.after) (gd:=o.guard) hti hdM hf h;obtain⟨new,he,h⟩:=h;rw[he]at hS;obtain⟨hc,h⟩:=split_b h;rw[qD]at hc;obtain⟨hn,hc⟩:=hc;have h:=bB (fA h);have hcl:=dL hc
       have k3:F2 (At labs) rd rs:=k2.mono fun ℓ t ⟨x,q1,q2⟩=>by
        rw[Nat.sub_zero]at q1;have hlt:ℓ<labs.length:=by rw[<-hT.len];exact(qE.1 q1).1
        obtain⟨x',w1,w2,_⟩:=hT.old ℓ _ (qB hlt);rw[q1]at w1;injection w1 with w1
        subst w1;exact⟨_,qB hlt,w2.symm.trans q2⟩
       refine takeStepR (ns:=[]) (ent:=some v) hT k1 k3 (fun x hx=>by simp[hx]) (fun x hx=> ?_) (fun t ht g hg=>hcl g (aQ.2 (.inr (bF.2 (.inl ⟨t,ht,hg⟩))))) h (zD hd hgn hS);rcases List.mem_cons.1 hx with rfl|hx
       .exact .inr ⟨rfl,hd,rfl,fun g hg=>hcl g (aQ.2 (.inl hg)),fun gd b y e=>by subst e;simp[bO]at hn⟩
       .exact .inl hx
    .obtain⟨ns0,h⟩:=eY h;obtain⟨ns1,h⟩:=iD h;exact doSt hd hgn hdM h
  .rename_i gd gb gc d hG hd;obtain⟨j,hj1,hj2,hj3,hjA⟩:=hatG hG;cases hne:(Nat.beq gd d|| !Nat.blt d n)with
   |true=>rw[hne]at h;exact h.elim
   |false=>
    rw[hne]at h;rw[Bool.or_eq_false_iff]at hne;obtain⟨hne,hbl⟩:=hne;have hne':gd≠d:=fun e=>by subst e;simp at hne
    have hdM:d<1000000:=qW (show d<n by simpa using hbl) (Nat.le_trans hn0 (by decide));simp only[qH]at h;split at h
    .cases gc with
     |true=>exact doStG hd hj1 hj2 hj3 hdM (h.1 rfl)
     |false=>exact doUn hd hj1 hj2 hj3 (h.2 rfl)
    .obtain⟨rd,rs,h,k1,_,k2⟩:=gU h;obtain⟨v,h,hO⟩:=mD hti h;obtain⟨hc,h⟩:=split_b h;rw[qD]at hc;exact pureStep hd (bB h) hc.2 (fun gd' b y e=>by injection e with e1 e2;subst e1;exact⟨⟨j,hjA,hj2⟩,by rw[hj1];simp⟩) (by simp[SV.names]) k1 (f2l k2) (D5 hd hj1 hj2 hj3 hne' hO)
    .rcases h with h|h
     .obtain⟨v,h,hO⟩:=mD hti h;obtain⟨hc,h⟩:=split_b h;rw[qD]at hc;exact pureStep hd (bB h) hc.2 (fun gd' b y e=>by injection e with e1 e2;subst e1;exact⟨⟨j,hjA,hj2⟩,by rw[hj1];simp⟩) (by simp[SV.names]) List.nodup_nil .nil (D5 hd hj1 hj2 hj3 hne' hO)
     .cases gc with
      |true=>
       have h:=h.1 rfl;obtain⟨ns0,h⟩:=eY h;obtain⟨ns1,h⟩:=iD h;exact doStG hd hj1 hj2 hj3 hdM h
      |false=>
       obtain⟨v,h⟩:=h.2 rfl;obtain⟨hc,h⟩:=split_b h;rw[qD]at hc;exact pureStep hd (bB h) hc.2 (fun gd' b y e=>by injection e with e1 e2;subst e1;exact⟨⟨j,hjA,hj2⟩,by rw[hj1];simp⟩) (by simp[SV.names]) List.nodup_nil .nil (EB v hd hj1 hj2 hne' hj3)
 termination_by rest=>rest.length
theorem rC:∀{l:List Oper} {anc:List (List Nat)} {K:List (List Nat)->Prop},xO l anc K->∃anc',K anc'
 |[],anc,K,h=>⟨anc,h⟩
 |o::l,anc,K,h=>rC (bB (nY h))
theorem je{dl:List (Nat×Nat)}:∀{env:Ev} (seen:aK) {K:Ev->List dH->Prop},nU dl seen env K->∃base olds,K base olds/\(∀t s,lk base t=some s->lk env t=some s/\lk dl t=none)/\∀x∈olds,lk dl x.d=some x.i/\x.d∉seen/\lk env x.d=some x.v
 |[],seen,K,h=>⟨[],[],h,fun t s hl=>by simp[lk]at hl,fun x hx=>by simp at hx⟩
 |(k,v)::l,seen,K,h=>by
  unfold nU at h;split at h
  .rename_i q hq
   have base1:∀{base:Ev},(∀t s,lk base t=some s->lk l t=some s/\lk dl t=none)->∀t s,lk base t=some s->lk ((k,v)::l) t=some s/\lk dl t=none:=fun {base} h2 t s hl=>by
    obtain⟨h3,h4⟩:=h2 t s hl;have hne:t≠k:=fun e=>by subst e;rw[h4]at hq;cases hq
    exact⟨by rw[aA,if_neg hne];exact h3,h4⟩
   cases hm:mem k seen with
   |true=>
    rw[hm]at h;obtain⟨base,olds,h1,h2,h3⟩:=je (env:=l) seen h;refine⟨base,olds,h1,base1 h2,fun x hx=> ?_⟩;obtain⟨q1,q2,q3⟩:=h3 x hx;exact⟨q1,q2,by rw[aA,if_neg (fun e=>q2 (by rw[e];exact mem_iff.1 hm))];exact q3⟩
   |false=>
    rw[hm]at h;obtain⟨base,olds,h1,h2,h3⟩:=je (env:=l) (k::seen) (K:=fun l' o=>K l' (⟨q,k,v⟩::o)) h;refine⟨base,_,h1,base1 h2,fun x hx=> ?_⟩;rcases List.mem_cons.1 hx with rfl|hx
    .exact⟨hq,mh.1 hm,by rw[aA,if_pos rfl]⟩
    .obtain⟨q1,q2,q3⟩:=h3 x hx;simp only[List.mem_cons,not_or]at q2;exact⟨q1,q2.2,by rw[aA,if_neg q2.1];exact q3⟩
  .rename_i hq;obtain⟨base,olds,h1,h2,h3⟩:=je (env:=l) seen (K:=fun l' o=>K ((k,v)::l') o) h;refine⟨_,olds,h1,fun t s hl=> ?_,fun x hx=> ?_⟩
   .rw[aA]at hl;split at hl
    .rename_i e;subst e;injection hl with hl
     subst hl;exact⟨by rw[aA,if_pos rfl],hq⟩
    .rename_i e;obtain⟨h3,h4⟩:=h2 t s hl;exact⟨by rw[aA,if_neg e];exact h3,h4⟩
   .obtain⟨q1,q2,q3⟩:=h3 x hx;exact⟨q1,q2,by rw[aA,if_neg (fun e=>by rw[e,hq]at q1;cases q1)];exact q3⟩
theorem fK{g:Nat}:∀{l:List dH} {r:aK},g∈fD l r↔(∃x∈l,g∈x.v.names [])\/g∈r
 |[],r=>by simp[fD]
 |x::l,r=>by
  simp only[fD];rw[aQ,fK (l:=l)];simp only[List.mem_cons,exists_eq_or_imp];constructor
  .rintro(h|h|h)<;>simp[h]
  .rintro((h|h)|h)<;>simp[h]
theorem iw:∀{ops:List Oper} {k i d:Nat} {o:Oper},ops[i]? =some o->o.dst=some d->∃q,lk (iP ops k) d=some q
 |[],k,i,d,o,h,_=>by simp at h
 |o'::l,k,i,d,o,h,hd=>by
  unfold iP;cases i with
  |zero=>
   simp at h;subst h;rw[hd];exact⟨k,by rw[aA,if_pos rfl]⟩
  |succ i=>
   obtain⟨q,hq⟩:=iw (k:=k+1) (show l[i]? =some o by simpa using h) hd;cases o'.dst with
   |none=>exact⟨q,hq⟩
   |some d'=>
    by_cases e:d=d'
    .exact⟨k,by rw[aA,if_pos e]⟩
    .exact⟨q,by rw[aA,if_neg e];exact hq⟩
theorem lC:∀{ops:List Oper} {k d q:Nat},lk (iP ops k) d=some q->∃o,k<=q/\ops[q-k]? =some o/\o.dst=some d
 |[],k,d,q,h=>by simp[iP,lk]at h
 |o'::l,k,d,q,h=>by
  unfold iP at h
  have tl:lk (iP l (k+1)) d=some q->∃o,k<=q/\(o'::l)[q-k]? =some o/\o.dst=some d:=fun h=>by
   obtain⟨o,h1,h2,h3⟩:=lC h;exact⟨o,by omega,by rw[show q-k=(q-(k+1))+1 by omega];simpa using h2,h3⟩
  cases hd:o'.dst with
  |none=>rw[hd]at h;exact tl h
  |some d'=>
   rw[hd]at h;simp only at h;rw[aA]at h;split at h
   .rename_i e;injection h with h
    subst h e;exact⟨o',Nat.le_refl _,by simp,hd⟩
   .exact tl h
theorem jr{g:Nat}:∀{l:List aJ} {r:aK},g∈fB l r↔(∃x∈l,g∈x.tok.names [])\/g∈r
 |[],r=>by simp[fB]
 |x::l,r=>by
  simp only[fB];rw[jH,jr (l:=l)];simp only[List.mem_cons,exists_eq_or_imp];constructor
  .rintro(h|h|h)<;>simp[h]
  .rintro((h|h)|h)<;>simp[h]
theorem nA{o:Oper}{d:Nat}(hd:o.dst=some d):∀{l:List Oper},o∈l->d∈cO l []
 |[],h=>by simp at h
 |o'::l,h=>by
  unfold cO;rcases List.mem_cons.1 h with e|h
  .rw[<-e,hd];exact List.mem_cons_self
  .have:=nA hd h;cases o'.dst with
   |none=>exact this
   |some d'=>exact List.mem_cons_of_mem _ this
def nM(cx:Cx)(labs:List aJ)(ℓ:Nat)(β:Nat->Value):aM:=match labs[ℓ]? with|some x=>Tok.res cx β x.tok|none=>aM.emp
theorem jA{fl:bM}{labs:List aJ}(hl:fl.labs.length=labs.length){p:Nat->Bool}{ids:aK}{ts:List Tok}(hn:ids.Nodup)(hi:∀ℓ,(ℓ<labs.length/\p ℓ=true)↔ℓ∈ids)(hf:F2 (At labs) ids ts):(dO fl (nM cx labs) β p).Perm (ts.map (Tok.res cx β)):=by
 have h1:((List.range fl.labs.length).filter p).Perm ids:=by
  refine(List.perm_ext_iff_of_nodup (List.nodup_range.filter _) hn).2 fun ℓ=> ?_
  rw[List.mem_filter,List.mem_range,hl];exact hi ℓ
 refine(h1.map (fun ℓ=>nM cx labs ℓ β)).trans (List.Perm.of_eq ?_);clear h1 hi hn
 induction hf with
 |nil=>rfl
 | @cons ℓ t ids ts h _ ih=>
  obtain⟨x,h1,h2⟩:=h;rw[List.map_cons,List.map_cons,ih];unfold nM;rw[h1,<-h2]
theorem mQ{f:aJ->aM}{q:aJ->Bool}:∀(labs:List aJ),((List.range labs.length).filter (fun ℓ=>match labs[ℓ]? with|some x=>q x|none=>false)).map (fun ℓ=>match labs[ℓ]? with|some x=>f x|none=>aM.emp)=(labs.filter q).map f
 |[]=>rfl
 |x::labs=>by
  have ih:=mQ (f:=f) (q:=q) labs;rw[qI,List.range_succ_eq_map,List.filter_cons];simp only[List.getElem?_cons_zero]
  have e:((List.map Nat.succ (List.range labs.length)).filter (fun ℓ=>match(x::labs)[ℓ]? with|some x=>q x|none=>false)).map (fun ℓ=>match(x::labs)[ℓ]? with|some x=>f x|none=>aM.emp)=(labs.filter q).map f:=by
   rw[List.filter_map,List.map_map,<-ih];rfl
  by_cases hq:q x=true
  .rw[if_pos hq,List.filter_cons_of_pos hq,List.map_cons,List.map_cons,e];rfl
  .rw[if_neg hq,List.filter_cons_of_neg hq,e]
theorem Bj(hti:bE P ti=true)(hn0:n<=10000)(hm:P.follows .mixedOrders=true){ops:List Oper}{K:Ev->List Tok->Prop}{id:Nat}{Q:Exit->Act->World->Prop}(h:Bh P ti n ops env rs K)(hh:HH cx n fr β a w env rs)(hg:NG env [])
  (hQ:∀env' rs' β' a' w',K env' rs'->HH cx n fr β' a' w' env' rs'->(gK ops=false->NG env' [])->kC (cO ops []) β β'->nE (cO ops []) a a'->Q .normal a' w'):(Code.region id ops.toArray true).wp P Q a w:=by
 unfold Bh at h;obtain⟨base,olds,h,hbase,holds⟩:=je [] h;obtain⟨anc,h⟩:=rC h;have h:=oH h;cases hcn:rM (iP ops 0) (eu base (fD olds (fB (rs.map fun t=>(⟨t,none,none⟩:aJ)) [])))with
 |false=>rw[hcn]at h;exact h.elim
 |true=>
 rw[hcn]at h;simp only[qG]at h;have hcn:=rO hcn
 obtain⟨ents,labs,rds,hD⟩:=zS hti hn0 ops 0 h rfl (fun j=>by simp) (fun ℓ x hx=>by
  rw[qY]at hx;cases hq:rs[ℓ]? with
  |none=>rw[hq]at hx;cases hx
  |some t=>rw[hq]at hx;injection hx with hx;subst hx;exact⟨fun p hp=>(by cases hp),fun c hc=>(by cases hc)⟩) (fun x hx=>by simp at hx)
 have hgood:=hD.good;have hlen:(bM.mk rds (labs.map (fun x=>⟨x.prod,x.cons⟩)) anc).labs.length=labs.length:=by simp
 have hlab:∀(ℓ:Nat),(labs.map (fun x=>(⟨x.prod,x.cons⟩:Ad)))[ℓ]? =(labs[ℓ]?).map (fun x=>⟨x.prod,x.cons⟩):=fun ℓ=>by rw[qY]
 have hfact:∀k,k<ops.length->xI P ops base olds (iP ops 0) ents labs anc rds k:=fun k hk=>by
  have:=hD.ops k hk
  rwa[Nat.zero_add]at this
 have hdist:∀(i:Nat) (o:Oper) (d:Nat),ops[i]? =some o->o.dst=some d->d<n/\∀(j:Nat) (oj:Oper),ops[j]? =some oj->oj.dst=some d->j=i:=fun i o d ho hd=>by
  obtain⟨A,s,_,_,hgs⟩:=eD hgood (i:=i) (o:=o) (by simpa using ho);unfold dW at hgs;rw[hd]at hgs;simp only[qD,List.all_eq_true]at hgs;refine⟨by simpa using hgs.2.1,fun j oj hoj hdj=> ?_⟩;have hj:=(qE.1 hoj).1;have h3:=hgs.2.2 j (by simpa using hj);rw[Bool.or_eq_true,beq_iff_eq]at h3;rcases h3 with h3|h3
  .exact h3
  .simp[hoj,hdj]at h3
 have hcls:∀{i p:Nat} {o:Oper} {d:Nat} {A:List Nat} {g:Nat},ops[i]? =some o->o.dst=some d->nG (iP ops 0) p A g->g % 1000000=d->i=p\/i∈A:=fun {i p o d A g} ho hd hc hgd=>by
  obtain⟨q,hq⟩:=iw (k:=0) ho hd;obtain⟨o',_,h2,h3⟩:=lC hq;rw[Nat.sub_zero]at h2;have hqi:=(hdist i o d ho hd).2 q o' h2 h3;subst hqi;exact hc q (by rw[hgd];exact hq)
 have hno:∀{i:Nat} {o:Oper} {d g:Nat},ops[i]? =some o->o.dst=some d->lk (iP ops 0) (g % 1000000)=none->g % 1000000≠d:=fun {i o d g} ho hd hl e=>by
  obtain⟨q,hq⟩:=iw (k:=0) ho hd;rw[e,hq]at hl;cases hl
 refine zW (ρ:=Nat->Value) (fr:=fr) (n:=n) (w0:=fun _=>cx.w0) (F0:=fun _=>cx.F0) (K:=fun j β' a'=>∀x∈ents,x.i=j->∃y,a'.tmps[x.d]? =some y/\bK cx β' a' x.v y)
  (C:=fun j β' a'=>∀x∈olds,x.i=j->∃y,a'.tmps[x.d]? =some y/\Den cx β' x.v y) (B:=fun β' a'=>(∀t s,lk base t=some s->∃y,a'.tmps[t]? =some y/\Den cx β' s y)/\kC (cO ops []) β β'/\nE (cO ops []) a a') (R:=nM cx labs)
  (Up:=fun i β1 β2=>∀g,(∀(o:Oper) (d:Nat),ops[i]? =some o->o.dst=some d->g % 1000000≠d)->β2 g=β1 g) hm ⟨rds,labs.map (fun x=>⟨x.prod,x.cons⟩),anc⟩ (r0:=β) ⟨fun t s hl=> ?_,kC.refl _ _,nE.refl _ _⟩ (fun j hj x hx hxj=> ?_) hh.E.size hh.E.defers ?_ hgood ⟨?_,?_,?_⟩ ?_ ?_
 .have h1:=hbase t s hl;obtain⟨y,h2,h3⟩:=hh.E.get t s h1.1;refine⟨y,h2,?_⟩;cases s
  case gd d b z=>exact absurd (hg _ _ _ _ h1.1) (by simp)
  all_goals exact h3
 .obtain⟨q1,q2,q3⟩:=holds x hx;obtain⟨y,h2,h3⟩:=hh.E.get x.d x.v q3;refine⟨y,h2,?_⟩;cases hv:x.v with
  |gd d b z=>rw[hv]at q3;exact absurd (hg _ _ _ _ q3) (by simp)
  |_=>rw[hv]at h3;exact h3
 ·
  have hini:=jA (cx:=cx) (β:=β) hlen (p:=bM.vJ ⟨rds,labs.map (fun x=>⟨x.prod,x.cons⟩),anc⟩) (ids:=List.range rs.length) (ts:=rs) List.nodup_range (fun ℓ=> ?_) ?_
  .exact hh.H.perm (hini.symm.append_right fr)
  .rw[List.mem_range];unfold bM.vJ;simp only[hlab];constructor
   .rintro⟨h1,h2⟩;rcases Nat.lt_or_ge ℓ rs.length with h3|h3
    .exact h3
    .exfalso;obtain⟨⟨p,_,h4⟩,_⟩:=hD.gr.new ℓ _ (qB h1) (by simpa using h3);rw[qB h1]at h2;simp only[Option.map_some,h4]at h2;cases h2
   .intro h1;obtain⟨x',h2,h3,h4,_⟩:=hD.gr.old ℓ ⟨rs[ℓ],none,none⟩ (by rw[qY,qB h1];rfl);refine⟨(qE.1 h2).1,?_⟩;rw[h2];simp only[Option.map_some,h4];rfl
  .have key:∀(ts:List Tok) (k:Nat),(∀j t,ts[j]? =some t->At labs (k+j) t)->F2 (At labs) ((List.range ts.length).map (k+ ·)) ts:=by
    intro ts
    induction ts with
    |nil=>intro k _;exact .nil
    |cons t ts ih=>
     intro k hk;rw[qI,List.range_succ_eq_map];show F2 _ ((k+0)::List.map (fun x=>k+x) (List.map Nat.succ (List.range ts.length))) (t::ts);rw[List.map_map];refine .cons (hk 0 t rfl) ?_;have:=ih (k+1) (fun j t' ht=>by have:=hk (j+1) t' (by simpa using ht);rwa[show k+(j+1)=k+1+j by omega]at this);have e:(List.range ts.length).map ((k+ ·)∘Nat.succ)=(List.range ts.length).map (k+1+ ·):=List.map_congr_left fun j _=>by simp only[Function.comp];omega
     rw[e];exact this
   have:=key rs 0 fun j t ht=>by
    obtain⟨x',h2,h3,_⟩:=hD.gr.old j ⟨t,none,none⟩ (by rw[qY,ht];rfl);rw[Nat.zero_add];exact⟨x',h2,h3⟩
   simpa using this
 ·
  intro i j A o β1 β2 a1 v ho hA hij hiA hU hK x hx hxj;have ho':ops[i]? =some o:=by simpa using ho
  obtain⟨y,h1,h2⟩:=hK x hx hxj
  have hjl:j<ops.length:=by
   unfold bM.good at hgood;simp only[qD,beq_iff_eq]at hgood;have:=(qE.1 hA).1;have h3:=hgood.1.1.2;simp at h3;simp only at this;omega
  obtain⟨oj,A',rd,env',rsR,rsC,rsP,idC,idP,ent,f1,f2,f3,f4,f5,f6,f7,f8,f9,f10⟩:=(hfact j hjl).ex;rw[hA]at f2;injection f2 with f2
  subst f2;obtain⟨g1,g2,g3,g4⟩:=f9 x hx hxj
  have hput:∀{t:Nat} {q:Nat} {oq:Oper},ops[q]? =some oq->oq.dst=some t->q≠i->(a1.put o.dst v).tmps[t]? =a1.tmps[t]? :=fun {t q oq} hq hqt hqi=>by
   cases hd:o.dst with
   |none=>rfl
   |some d=>exact bZ a1 v fun e=>hqi ((hdist i o d ho' hd).2 q oq hq (e▸hqt))
  have hnm:∀g∈SV.names x.v [],β2 g=β1 g:=fun g hg=>hU g fun o2 d ho2 hd e=>by
   rw[ho']at ho2;injection ho2 with ho2
   subst ho2;rcases hcls ho' hd (g3 g hg) e with h3|h3
   .exact hij h3
   .exact hiA h3
  refine⟨y,by rw[hput f1 g1 (fun e=>hij e.symm)];exact h1,?_⟩;cases hv:x.v with
  |gd gd b z=>
   rw[hv]at h2 hnm;obtain⟨⟨jg,k1,k2⟩,_⟩:=g4 gd b z hv;unfold bT at k2;rw[jW]at k2;cases hog:ops[jg]? with
   |none=>rw[hog]at k2;cases k2
   |some og=>
    rw[hog]at k2;have hjgi:jg≠i:=fun e=>hiA (e▸k1)
    have e1:=hput hog k2 hjgi;have h3:(a1.tmps[gd]? =some (Value.bool b)->Den cx β1 z y)/\(a1.tmps[gd]? ≠some (Value.bool b)->y=undef):=h2;show((a1.put o.dst v).tmps[gd]? =some (Value.bool b)->Den cx β2 z y)/\((a1.put o.dst v).tmps[gd]? ≠some (Value.bool b)->y=undef);rw[e1];exact⟨fun hh=>(h3.1 hh).congr fun g hg=>hnm g (by simpa[SV.names]using hg),h3.2⟩
  |_=>
   rw[hv]at h2 hnm;exact bK.of (Den.congr (show Den cx β1 _ y from h2) hnm)
 ·
  intro i j o β1 β2 a1 v ho hjl hij hU hC x hx hxj;have ho':ops[i]? =some o:=by simpa using ho
  obtain⟨y,h1,h2⟩:=hC x hx hxj;obtain⟨q1,_,_⟩:=holds x hx;obtain⟨oj,_,k1,k2⟩:=lC q1;rw[Nat.sub_zero,hxj]at k1;refine⟨y,?_,h2.congr fun g hg=>hU g fun o2 d ho2 hd=>hno ho2 hd (hcn g (cB.2 (.inr (fK.2 (.inl ⟨x,hx,hg⟩)))))⟩;cases hd:o.dst with
  |none=>exact h1
  |some d=>
   rw[bZ a1 v (fun e=>hij ((hdist j oj x.d k1 k2).2 i o ho' (by rw[hd,e])))];exact h1
 ·
  intro i ℓ b β1 β2 hb hp hU w1 F hpF;rw[hlab]at hb;cases hx:labs[ℓ]? with
  |none=>rw[hx]at hb;cases hb
  |some x=>
   rw[hx]at hb;injection hb with hb
   subst hb;unfold nM at hpF |-;rw[hx]at hpF |-;refine oJ (fun g hg=>hU g fun o d ho hd e=> ?_) hpF;cases hpr:x.prod with
   |none=>
    have hlt:ℓ<rs.length:=by
     rcases Nat.lt_or_ge ℓ rs.length with h3|h3
     .exact h3
     .obtain⟨⟨p,_,h4⟩,_⟩:=hD.gr.new ℓ x hx (by simpa using h3);rw[hpr]at h4;cases h4
    obtain⟨x',k1,k2,_⟩:=hD.gr.old ℓ ⟨rs[ℓ],none,none⟩ (by rw[qY,qB hlt];rfl);rw[hx]at k1;injection k1 with k1
    subst k1;refine hno ho hd (hcn g (cB.2 (.inr (fK.2 (.inr (jr.2 (.inl ⟨⟨rs[ℓ],none,none⟩,?_,?_⟩))))))) e
    .exact List.mem_map.2 ⟨rs[ℓ],List.getElem_mem hlt,rfl⟩
    .rw[<-k2];exact hg
   |some p=>
    obtain⟨hpi,hpA⟩:=hp p hpr
    have hpl:p<ops.length:=by
     have:=fF hgood (ℓ:=ℓ) (b:=⟨x.prod,x.cons⟩) (by rw[hlab,hx];rfl);unfold dN at this;simp only[hpr,qD]at this;simpa using this.1
    obtain⟨op,A',rd,env',rsR,rsC,rsP,idC,idP,ent,f1,f2,f3,f4,f5,f6,f7,f8,f9,f10⟩:=(hfact p hpl).ex;obtain⟨t,y,q1,q2⟩:=f6.2.1.sD ((f6.2.2 ℓ x hx).1 hpr)
    have htP:x.tok∈rsP:=by
     have:∀{l:List Nat} {m:List Tok},F2 (At labs) l m->ℓ∈l->x.tok∈m:=by
      intro l m hf
      induction hf with
      |nil=>intro hm;simp at hm
      | @cons a1 b1 l1 m1 r1 r2 ih=>
       intro hm;rcases List.mem_cons.1 hm with rfl|hm
       .obtain⟨z,z1,z2⟩:=r1;rw[hx]at z1;injection z1 with z1
        subst z1;simp[z2]
       .exact List.mem_cons_of_mem _ (ih hm)
     exact this f6.2.1 ((f6.2.2 ℓ x hx).1 hpr)
    rcases hcls ho hd (f10 _ htP g hg) e with h3|h3
    .exact hpi h3.symm
    .exact hpA A' f2 h3
 ·
  intro i hi o A rd ho hA hrd β1 a1 w1 R' hB hsz hdf hK hC hI;obtain⟨o',A',rd',env',rsR,rsC,rsP,idC,idP,ent,f1,f2,f3,f4,f5,f6,f7,f8,f9,f10⟩:=(hfact i hi).ex;have ho':ops[i]? =some o:=by simpa using ho
  rw[ho']at f1;injection f1 with f1
  subst f1;rw[hA]at f2;injection f2 with f2
  subst f2;rw[hrd]at f3;injection f3 with f3
  subst f3
  have mR:∀β',(dO ⟨rds,labs.map (fun x=>⟨x.prod,x.cons⟩),anc⟩ (nM cx labs) β' (bM.dM rd)).Perm (rsR.map (Tok.res cx β')):=fun β'=>jA hlen f4.1 (fun ℓ=>⟨fun hq=>by simpa[bM.dM]using hq.2,fun hq=>⟨by
   obtain⟨t,y,q1,_⟩:=f4.2.sD hq;exact(qE.1 q1).1,by simpa[bM.dM]using hq⟩⟩) f4.2
  have mC:∀β',(dO ⟨rds,labs.map (fun x=>⟨x.prod,x.cons⟩),anc⟩ (nM cx labs) β' (bM.bG ⟨rds,labs.map (fun x=>⟨x.prod,x.cons⟩),anc⟩ i)).Perm (rsC.map (Tok.res cx β')):=fun β'=>jA hlen f5.1 (fun ℓ=>by
   unfold bM.bG;simp only[hlab];constructor
   .rintro⟨h1,h2⟩;rw[qB h1]at h2;exact(f5.2.2 ℓ _ (qB h1)).1 (by simpa using h2)
   .intro hq;obtain⟨t,y,q1,_⟩:=f5.2.1.sD hq;refine⟨(qE.1 q1).1,?_⟩;rw[q1];simpa using(f5.2.2 ℓ y q1).2 hq) f5.2.1
  have mP:∀β',(dO ⟨rds,labs.map (fun x=>⟨x.prod,x.cons⟩),anc⟩ (nM cx labs) β' (bM.cZ ⟨rds,labs.map (fun x=>⟨x.prod,x.cons⟩),anc⟩ i)).Perm (rsP.map (Tok.res cx β')):=fun β'=>jA hlen f6.1 (fun ℓ=>by
   unfold bM.cZ;simp only[hlab];constructor
   .rintro⟨h1,h2⟩;rw[qB h1]at h2;exact(f6.2.2 ℓ _ (qB h1)).1 (by simpa using h2)
   .intro hq;obtain⟨t,y,q1,_⟩:=f6.2.1.sD hq;refine⟨(qE.1 q1).1,?_⟩;rw[q1];simpa using(f6.2.2 ℓ y q1).2 hq) f6.2.1
  have hE:bW cx β1 n a1 env':=⟨hsz,hdf,fun t s hl=>by
   rcases f7 t s hl with⟨x,q1,q2,q3,q4⟩|⟨x,q1,q2,q3,q4⟩|q1
   .obtain⟨y,h1,h2⟩:=hK x.i q2 x q1 rfl;exact⟨y,by rw[<-q3];exact h1,by rw[<-q4];exact h2⟩
   .obtain⟨oj,_,k1,k2⟩:=lC (holds x q1).1;rw[Nat.sub_zero]at k1;obtain⟨y,h1,h2⟩:=hC x.i (by simpa using(qE.1 k1).1) q2 x q1 rfl;exact⟨y,by rw[<-q3];exact h1,by rw[<-q4];exact bK.of h2⟩
   .obtain⟨y,h1,h2⟩:=hB.1 t s q1;exact⟨y,h1,bK.of h2⟩⟩
  have hI2:Inv cx.w0 cx.F0 w1 ((rsR++rsC).map (Tok.res cx β1)++R'):=hI.perm (by
   rw[qZ,qF];exact(mR β1).append ((mC β1).append_right R'))
  have hres:=f8 cx β1 n R' a1 w1 hE hI2
  have post:∀{x:Value} {w':World},(∃β',(∀g,(∀d,o.dst=some d->g % 1000000≠d)->β' g=β1 g)/\(∀d v,o.dst=some d->ent=some v->bK cx β' (a1.put (some d) x) v x)/\Inv cx.w0 cx.F0 w' ((rsR++rsP).map (Tok.res cx β')++R'))->∃r':Nat->Value,(∀g,(∀(o:Oper) (d:Nat),ops[i]? =some o->o.dst=some d->g % 1000000≠d)->r' g=β1 g)/\(∀q∈ents,q.i=i->∃y,(a1.put o.dst x).tmps[q.d]? =some y/\bK cx r' (a1.put o.dst x) q.v y)/\
    ((∀t s,lk base t=some s->∃y,(a1.put o.dst x).tmps[t]? =some y/\Den cx r' s y)/\kC (cO ops []) β r'/\nE (cO ops []) a (a1.put o.dst x))/\
    Inv cx.w0 cx.F0 w' (dO ⟨rds,labs.map (fun x=>⟨x.prod,x.cons⟩),anc⟩ (nM cx labs) r' (bM.dM rd)++(dO ⟨rds,labs.map (fun x=>⟨x.prod,x.cons⟩),anc⟩ (nM cx labs) r' (bM.cZ ⟨rds,labs.map (fun x=>⟨x.prod,x.cons⟩),anc⟩ i)++R')):=fun {x w'} ⟨β',p1,p2,p3⟩=>by
   refine⟨β',fun g hg=>p1 g fun d hd=>hg o d ho' hd,fun q hq hqi=> ?_,⟨fun t s hl=> ?_,fun g hg hl=> ?_,fun t ht=> ?_⟩,p3.perm (by
    rw[qZ,qF];exact((mR β').append ((mP β').append_right R')).symm)⟩
   .obtain⟨g1,g2,_⟩:=f9 q hq hqi;have:=p2 q.d q.v g1 g2;rw[g1];exact⟨x,jd a1 x (by rw[hsz];exact(hdist i o q.d ho' g1).1),this⟩
   .obtain⟨y,h1,h2⟩:=hB.1 t s hl;have hb2:=hbase t s hl;refine⟨y,?_,h2.congr fun g hg=>p1 g fun d hd=>hno ho' hd (hcn g (cB.2 (.inl ⟨_,jT hl,hg⟩)))⟩;cases hd:o.dst with
    |none=>exact h1
    |some d=>
     rw[bZ a1 x (fun e=> ?_)]
     .exact h1
     .obtain⟨q,hq⟩:=iw (k:=0) ho' hd;rw[<-e,hb2.2]at hq;cases hq
   .rw[<-hB.2.1 g hg hl];exact p1 g fun d hd e=>hg (e▸nA hd (List.mem_of_getElem? ho'))
   .rw[<-hB.2.2 t ht];cases hd:o.dst with
    |none=>rfl
    |some d=>exact bZ a1 x fun e=>ht (e▸nA hd (List.mem_of_getElem? ho'))
  rcases hres with⟨hw,h1⟩|⟨hw,h1⟩
  .refine .inl ⟨hw,?_⟩;rcases h1 with⟨x,w',h2,h3⟩|⟨w',h2,h3⟩|⟨f,args,h2,h3⟩
   .exact .inl ⟨x,w',h2,post h3⟩
   .exact .inr (.inl ⟨w',h2,post h3⟩)
   .exact .inr (.inr ⟨f,args,h2,h3.mono fun e w' ⟨x,h4,h5⟩=>⟨x,h4,post h5⟩⟩)
  .exact .inr ⟨hw,post h1⟩
 ·
  intro β1 a1 w1 hB hsz hdf hK hI;obtain⟨env1,k1,k2⟩:=hD.fin
  have hl2:∀x∈ents,x.i<ops.length:=fun x hx=>by
   rcases hD.e2 x hx with h1|h1
   .simp at h1
   .omega
  refine hQ env1 _ β1 a1 w1 k1 ⟨⟨hsz,hdf,fun t s hl=> ?_⟩,hI.perm ?_⟩ (fun hany t d b y hl=> ?_) hB.2.1 hB.2.2
  .rcases k2 t s hl with⟨x,q1,q2,q3⟩|q1
   .obtain⟨y,h1,h2⟩:=hK x.i (hl2 x q1) x q1 rfl;exact⟨y,by rw[<-q2];exact h1,by rw[<-q3];exact h2⟩
   .obtain⟨y,h1,h2⟩:=hB.1 t s q1;exact⟨y,h1,bK.of h2⟩
  .refine List.Perm.append_right fr (List.Perm.of_eq ?_);have:=mQ (f:=fun x=>Tok.res cx β1 x.tok) (q:=fun x=>x.cons.isNone) labs;rw[List.map_map];refine Eq.trans ?_ this;unfold dO;simp only[qV]
   have e1:∀ℓ,bM.isFin ⟨rds,labs.map (fun x=>⟨x.prod,x.cons⟩),anc⟩ ℓ=(match labs[ℓ]? with|some x=>x.cons.isNone|none=>false):=fun ℓ=>by
    unfold bM.isFin;simp only[hlab];cases labs[ℓ]? <;>rfl
   rw[List.filter_congr fun ℓ _=>e1 ℓ];rfl
  .exfalso;rcases k2 t _ hl with⟨x,q1,q2,q3⟩|q1
   .obtain⟨o',A',rd',env',rsR,rsC,rsP,idC,idP,ent,f1,f2,f3,f4,f5,f6,f7,f8,f9,f10⟩:=(hfact x.i (hl2 x q1)).ex;have:=((f9 x q1 rfl).2.2.2 d b y q3).2
    have hno:∀{l:List Oper},gK l=false->∀o∈l,o.guard=none:=by
     intro l
     induction l with
     |nil=>intro _ o ho;simp at ho
     |cons z l ih=>
      intro hz o ho;unfold gK at hz;cases hzg:z.guard with
      |some p=>rw[hzg]at hz;cases hz
      |none=>
       rw[hzg]at hz;rcases List.mem_cons.1 ho with rfl|ho
       .exact hzg
       .exact ih hz o ho
    exact this (hno hany _ (List.mem_of_getElem? f1))
   .have:=hg t d b y (hbase t _ q1).1;simp at this
end
end Go.Tr
namespace Go.Tr
open Go Go.RowKit
universe u
section
variable {cx:Cx}{β β' β'':Nat->Value}{P:Program}{ti:TI}{n:Nat}{a a' a'':Act}{env env':Ev}{rs:List Tok}{fr:List aM}{w w':World}{g:Option (Nat×Bool)}{v:SV}
def GF(env:Ev):Prop:=NG env []
theorem gN:∀{env:Ev} (dl:aK) {K:Ev->Prop},jk dl env K->∃env',K env'/\∀t s,lk env' t=some s->t∉dl/\lk env t=some s/\∀d b x,s≠.gd d b x
 |[],dl,K,h=>⟨[],h,fun t s hl=>by simp[lk]at hl⟩
 |(t0,v)::l,dl,K,h=>by
  unfold jk at h;split at h
  .rename_i d b x;obtain⟨env',h1,h2⟩:=gN (t0::dl) h;refine⟨env',h1,fun t s hl=> ?_⟩;obtain⟨h3,h4,h5⟩:=h2 t s hl;simp only[List.mem_cons,not_or]at h3;exact⟨h3.2,by rw[aA,if_neg h3.1];exact h4,h5⟩
  .rename_i hne;cases hm:mem t0 dl with
   |true=>
    rw[hm]at h;obtain⟨env',h1,h2⟩:=gN dl h;refine⟨env',h1,fun t s hl=> ?_⟩;obtain⟨h3,h4,h5⟩:=h2 t s hl;have hne':t≠t0:=fun e=>h3 (by subst e;exact mem_iff.1 hm)
    exact⟨h3,by rw[aA,if_neg hne'];exact h4,h5⟩
   |false=>
    rw[hm]at h;obtain⟨env',h1,h2⟩:=gN dl (K:=fun l'=>K ((t0,v)::l')) h;refine⟨(t0,v)::env',h1,fun t s hl=> ?_⟩;rw[aA]at hl;split at hl
    .rename_i e;subst e;injection hl with hl
     subst hl;exact⟨mh.1 hm,by rw[aA,if_pos rfl],fun d b x e=>hne _ _ _ e⟩
    .rename_i e;obtain⟨h3,h4,h5⟩:=h2 t s hl;exact⟨h3,by rw[aA,if_neg e];exact h4,h5⟩
theorem oh{m:aK}:∀{l:aK},l9 l m=false->∀g∈l,g % 1000000∉m/\g % 1000000<20000
 |[],_,g,hg=>by simp at hg
 |t::l,h,g,hg=>by
  unfold l9 at h;cases hm:(mem (t % 1000000) m||Nat.ble 20000 (t % 1000000))with
  |true=>rw[hm]at h;cases h
  |false=>
   rw[hm]at h;rw[Bool.or_eq_false_iff]at hm;rcases List.mem_cons.1 hg with e|hg
   .subst e;refine⟨mh.1 hm.1,?_⟩;have:=hm.2;rcases Nat.lt_or_ge (g % 1000000) 20000 with h1|h1
    .exact h1
    .rw[Nat.ble_eq_true_of_le h1]at this;cases this
   .exact oh h g hg
theorem jq:∀{env:Ev} (wl:aK) {K:Ev->Prop},l5 wl env K->∃env',K env'/\∀t s,lk env' t=some s->t∉wl/\lk env t=some s/\∀g∈s.names [],g % 1000000∉wl/\g % 1000000<20000
 |[],wl,K,h=>⟨[],h,fun t s hl=>by simp[lk]at hl⟩
 |(t0,v)::l,wl,K,h=>by
  unfold l5 at h;cases hm:mem t0 wl with
  |true=>
   rw[hm]at h;obtain⟨env',h1,h2⟩:=jq wl h;refine⟨env',h1,fun t s hl=> ?_⟩;obtain⟨h3,h4,h5⟩:=h2 t s hl;have hne':t≠t0:=fun e=>h3 (by subst e;exact mem_iff.1 hm)
   exact⟨h3,by rw[aA,if_neg hne'];exact h4,h5⟩
  |false=>
   rw[hm]at h;simp only[qH]at h;cases ha:l9 (v.names []) wl with
   |true=>
    rw[ha]at h;obtain⟨env',h1,h2⟩:=jq (t0::wl) h;refine⟨env',h1,fun t s hl=> ?_⟩;obtain⟨h3,h4,h5⟩:=h2 t s hl;simp only[List.mem_cons,not_or]at h3;exact⟨h3.2,by rw[aA,if_neg h3.1];exact h4,fun g hg=>⟨fun hm=>(h5 g hg).1 (List.mem_cons_of_mem _ hm),(h5 g hg).2⟩⟩
   |false=>
    rw[ha]at h;obtain⟨env',h1,h2⟩:=jq wl (K:=fun l'=>K ((t0,v)::l')) h;refine⟨(t0,v)::env',h1,fun t s hl=> ?_⟩;rw[aA]at hl;split at hl
    .rename_i e;subst e;injection hl with hl
     subst hl;exact⟨mh.1 hm,by rw[aA,if_pos rfl],oh ha⟩
    .rename_i e;obtain⟨h3,h4,h5⟩:=h2 t s hl;exact⟨h3,by rw[aA,if_neg e];exact h4,h5⟩
theorem vk:∀{l e:Ev} {K:Ev->Prop},Ae l e K->K (l++e)
 |[],e,K,h=>h
 |(t,v)::l,e,K,h=>vk (l:=l) (K:=fun l'=>K ((t,v)::l')) h
theorem uw{α:Type u}:∀(l e:List (Nat×α)) (t:Nat),lk (l++e) t=match lk l t with|some v=>some v|none=>lk e t
 |[],e,t=>rfl
 |(k,v)::l,e,t=>by
  rw[List.cons_append,aA,aA]
  by_cases h:t=k
  .simp[h]
  .simp only[if_neg h];exact uw l e t
theorem fT{u v:SV}{x:Value}(h:uU u v)(hd:Den cx β u x):Den cx β v x:=by
 unfold uU at h;split at h
 .obtain⟨rfl,rfl⟩:=h;exact hd
 .subst h;exact hd
 .subst h;exact hd
theorem rX{env:Ev}:∀{l:Ev},rW env l->∀t v,lk l t=some v->∃u,lk env t=some u/\uU u v
 |[],_,t,v,hl=>by simp[lk]at hl
 |(k,x)::l,h,t,v,hl=>by
  unfold rW at h;split at h
  .rename_i u hu;rw[aA]at hl;split at hl
   .rename_i e;subst e;injection hl with hl
    subst hl;exact⟨u,hu,h.1⟩
   .exact rX h.2 t v hl
  .exact h.elim
theorem bW.DI(E:bW cx β n a env)(hg:GF env){t:Nat}{s:SV}(hl:lk env t=some s):∃x,a.tmps[t]? =some x/\Den cx β s x:=by
 obtain⟨x,h1,h2⟩:=E.get t s hl;refine⟨x,h1,?_⟩;cases s
 case gd d b y=>exact absurd (hg _ _ _ _ hl) (by simp)
 all_goals exact h2
theorem Inv.xZ{w0:World}{F0:aK}:∀{l:List aM},Inv w0 F0 w (l++fr)->Inv w0 F0 w fr
 |[],h=>h
 |_::l,h=>Inv.xZ (l:=l) h.tail
theorem tC:∀{l m:List SV} {us:aO},mZ l m->ah cx β l us->ah cx β m us
 |[],[],us,_,h=>h
 |a::l,b::m,us,h,hd=>by
  unfold mZ at h;unfold ah at hd |-;obtain⟨x,xs,e,h1,h2⟩:=hd;exact⟨x,xs,e,fT h.1 h1,tC h.2 h2⟩
 |[],_::_,_,h,_=>by unfold mZ at h;exact h.elim
 |_::_,[],_,h,_=>by unfold mZ at h;exact h.elim
theorem cK{w0:World}{F0:aK}:∀{ts:List Tok} {rs:List Tok} {R:List aM},bI rs ts->Inv w0 F0 w (rs.map (Tok.res cx β)++R)->Inv w0 F0 w (ts.map (Tok.res cx β)++R)
 |[],rs,R,_,hI=>Inv.xZ hI
 | .dn g t cs::ts,rs,R,h,hI=>by
  unfold bI at h;obtain⟨t',cs',rest,⟨h1,h2,h3⟩,hp⟩:=iX h
  have he:t'=t:=by
   cases hb:Nat.beq t' t with
   |true=>exact ak hb
   |false=>rw[hb]at h1;exact h1.elim
  subst he;have h4:=hI.aY hp;have h5:Inv w0 F0 w (Tok.res cx β (.dn g t' cs)::(rest.map (Tok.res cx β)++R)):=Inv.weak h4 fun F ⟨b,us,k1,k2,k3⟩=>⟨F,fun _ h=>h,b,us,k1,tC h2 k2,k3⟩
  have h6:=cK (R:=Tok.res cx β (.dn g t' cs)::R) h3 (h5.perm List.perm_middle.symm);exact h6.perm List.perm_middle
 | .row g t s u xs us::ts,rs,R,h,hI=>by
  unfold bI at h;obtain⟨t',s',u',xs',us',rest,h,hp⟩:=aH h;split at h
  .rename_i hb;split at h
   .rename_i hu;have hue:=aB hu;subst hue;obtain⟨⟨h1,h7⟩,h3⟩:=h;rw[qD]at hb;have e1:=ak hb.1;have e2:=ak hb.2;subst e1 e2;simp only[lq]at h1;subst h1;have h4:=hI.aY hp;have h5:Inv w0 F0 w (Tok.res cx β (.row g t' s' u' xs' us)::(rest.map (Tok.res cx β)++R)):=Inv.weak h4 fun F ⟨k1,bs,raw,k2,k3,k4⟩=>⟨F,fun _ h=>h,k1,bs,raw,k2,k3,h7.trans k4⟩
    have h6:=cK (R:=Tok.res cx β (.row g t' s' u' xs' us)::R) h3 (h5.perm List.perm_middle.symm);exact h6.perm List.perm_middle
   .exact h.elim
  .exact h.elim
 | .map g u kv::ts,rs,R,h,hI=>by
  unfold bI at h;obtain⟨u',kv',rest,h,hp⟩:=ng h;split at h
  .rename_i hu;have hue:=aB hu;subst hue;obtain⟨h1,h3⟩:=h;simp only[xV]at h1;subst h1;have h6:=cK (R:=Tok.res cx β (.map g u' kv')::R) h3 ((hI.aY hp).perm List.perm_middle.symm);exact h6.perm List.perm_middle
  .exact h.elim
 | .pmap g kv::ts,rs,R,h,hI=>by
  unfold bI at h;obtain⟨kv',rest,h,hp⟩:=kQ h;obtain⟨h1,h3⟩:=h;subst h1;have h6:=cK (R:=Tok.res cx β (.pmap g kv')::R) h3 ((hI.aY hp).perm List.perm_middle.symm);exact h6.perm List.perm_middle
 | .nest g u xs us::ts,rs,R,h,hI=>by
  unfold bI at h;obtain⟨u',xs',us',rest,h,hp⟩:=tJ h;split at h
  .rename_i hu;have hue:=aB hu;subst hue;obtain⟨⟨h1,h2⟩,h3⟩:=h;simp only[lq]at h1;subst h1 h2;have h6:=cK (R:=Tok.res cx β (.nest g u' xs' us')::R) h3 ((hI.aY hp).perm List.perm_middle.symm);exact h6.perm List.perm_middle
  .exact h.elim
 | .suf g t s u xs::ts,rs,R,h,hI=>by
  unfold bI at h;obtain⟨t',s',u',xs',rest,h,hp⟩:=nk h;split at h
  .rename_i hb;split at h
   .rename_i hu;have hue:=aB hu;subst hue;obtain⟨h1,h3⟩:=h;rw[qD]at hb;have e1:=ak hb.1;have e2:=ak hb.2;subst e1 e2;simp only[lq]at h1;subst h1;have h6:=cK (R:=Tok.res cx β (.suf g t' s' u' xs')::R) h3 ((wC hp hI).perm List.perm_middle.symm);exact h6.perm List.perm_middle
   .exact h.elim
  .exact h.elim
 | .dat g t s u xs::ts,rs,R,h,hI=>by
  unfold bI at h;obtain⟨t',s',u',xs',rest,h,hp⟩:=iY h;split at h
  .rename_i hb;split at h
   .rename_i hu;have hue:=aB hu;subst hue;obtain⟨h1,h3⟩:=h;rw[qD]at hb;have e1:=ak hb.1;have e2:=ak hb.2;subst e1 e2;simp only[lq]at h1;subst h1;have h6:=cK (R:=Tok.res cx β (.dat g t' s' u' xs')::R) h3 ((hI.aY hp).perm List.perm_middle.symm);exact h6.perm List.perm_middle
   .exact h.elim
  .exact h.elim
theorem vZ{st:Bool}{σ:List (Nat×Nat)}:∀{l:Ev} {K:Ev->Prop},w9 st σ l K->∃l',K l'/\∀t,(lk l t=none->lk l' t=none)/\∀v,lk l t=some v->∃v',lk l' t=some v'/\EK st σ v v'/\∀d b y,v≠.gd d b y
 |[],K,h=>by unfold w9 at h;exact⟨[],h,fun t=>⟨fun _=>rfl,fun v h=>by simp[lk]at h⟩⟩
 |(k,v)::l,K,h=>by
  unfold w9 at h
  have hng:∀d b y,v≠.gd d b y:=by
   rintro d b y rfl;exact False.elim h
  obtain⟨v',h1,h2⟩:=qh h;obtain⟨l',h3,h4⟩:=vZ h1;refine⟨_,h3,fun t=> ?_⟩;rw[aA,aA]
  by_cases e:t=k
  .rw[if_pos e,if_pos e];refine⟨fun h=>(by cases h),fun u hu=> ?_⟩;injection hu with hu
   subst hu;exact⟨v',rfl,h2,hng⟩
  .rw[if_neg e,if_neg e];exact h4 t
theorem rT:∀{σ:List (Nat×Nat)} {g h:Nat},rR σ=true->lk σ g=some h->20000<=g/\g<1000000
 |[],g,h,_,hl=>by simp[lk]at hl
 |(k,v)::l,g,h,hd,hl=>by
  unfold rR at hd;rw[qD,qD]at hd;rw[aA]at hl;split at hl
  .rename_i e;subst e;exact⟨by simpa using hd.1.1,by simpa using hd.1.2⟩
  .exact rT hd.2 hl
theorem ah.uD{g:Nat}(hb:β g=.slice none 0 0):∀{i:Nat} {cs cs':List SV} {us:aO},jw g i cs=some cs'->ah cx β cs us->ah cx β cs' us
 |0,[],cs',us,h,_=>by unfold jw at h;cases h
 |i+1,[],cs',us,h,_=>by unfold jw at h;cases h
 |0,c::l,cs',us,h,hd=>by
  unfold jw at h;split at h
  .rename_i _ he;injection he with he1 he2
   subst he1;subst he2;injection h with h
   subst h;unfold ah at hd |-;obtain⟨v,vs',rfl,h1,h2⟩:=hd;unfold Den at h1;exact⟨v,vs',rfl,by unfold Den;exact⟨h1.1.trans hb.symm,none,0,0,h1.1⟩,h2⟩
  .rename_i he _;cases he
  .cases h
 |i+1,c::l,cs',us,h,hd=>by
  unfold jw at h;cases hm:jw g i l with
  |none=>rw[hm]at h;cases h
  |some r=>
   rw[hm]at h;injection h with h
   subst h;unfold ah at hd |-;obtain⟨v,vs',rfl,h1,h2⟩:=hd;exact⟨v,vs',rfl,h1,ah.uD hb hm h2⟩
theorem HH.uD:∀{M:List tO} {env:Ev} {rs:List Tok} {β:Nat->Value} {K:Ev->List Tok->Prop},HH cx n fr β a w env rs->GF env->kJ M env rs K->∃env' rs' β',K env' rs'/\HH cx n fr β' a w env' rs'/\GF env'/\∀g,g % 1000000<20000->β' g=β g
 |[],env,rs,β,K,hh,hg,h=>⟨env,rs,β,h,hh,hg,fun g _=>rfl⟩
 |m::M,env,rs,β,K,hh,hg,h=>by
  unfold kJ at h;cases hb:((Nat.ble 20000 m.g&&Nat.blt m.g 1000000)&&au m.g env rs&&Nat.beq m.u.size m.s)with
  |false=>rw[hb]at h;exact h.elim
  |true=>
   rw[hb]at h;rw[qD,qD,qD]at hb;obtain⟨⟨⟨b0,b1⟩,b2⟩,b3⟩:=hb;have h20:20000<=m.g:=by simpa using b0
   have hlt:m.g<1000000:=by simpa using b1
   have hA:=fV (β:=β) hlt (.slice none 0 0);have hI:=hh.H.beta (β':=up β m.g (.slice none 0 0)) fun t ht g hg=>hA g (dK b2 t ht g hg)
   have hE:=hh.E.beta (β':=up β m.g (.slice none 0 0)) fun t s hl g hg=>hA g (jP b2 t s hl g hg)
   have hI2:Inv cx.w0 cx.F0 w ((kK m::rs).map (Tok.res cx (up β m.g (.slice none 0 0)))++fr):=by
    refine hI.new (ss:=[Tok.res cx (up β m.g (.slice none 0 0)) (kK m)]) ⟨iH.refl _ _,[],?_,by simp⟩;refine⟨[],[],rfl,?_,rfl,by simp⟩;unfold kK;cases Nat.ble 500000 m.g with
    |false=>
     refine⟨ak b3,[],[],?_,?_⟩
     .rw[aV];rfl
     .rw[aV];exact⟨GR.nil 0 w m.e m.s,nP⟩
    |true=>
     refine⟨ak b3,[],by unfold List.flatMap ah;rfl,rfl,[],[],?_,?_⟩
     .rw[aV];rfl
     .rw[aV];exact⟨GR.nil 0 w m.e m.s,nP⟩
   cases hk:Nat.blt m.t 1000000 with
   |true=>
    simp only[hk]at h;split at h
    .rename_i hl
     have hE2:bW cx (up β m.g (.slice none 0 0)) n a ((m.t,.sl m.g)::env):=⟨hE.size,hE.defers,fun t s hs=>by
      rw[aA]at hs;split at hs
      .rename_i e;subst e;injection hs with hs
       subst hs;obtain⟨x,k1,k2⟩:=hh.E.DI hg hl;unfold Den at k2;obtain⟨rfl,_⟩:=k2;exact⟨_,k1,bK.of (by unfold Den;exact⟨(aV _ _).symm,_,_,_,rfl⟩)⟩
      .exact hE.get t s hs⟩
     have hG2:GF ((m.t,.sl m.g)::env):=fun t d b x hs=>by
      rw[aA]at hs;split at hs
      .injection hs with hs;cases hs
      .exact hg _ _ _ _ hs
     obtain⟨env',rs',β',k1,k2,k3,k4⟩:=HH.uD (M:=M) ⟨hE2,hI2⟩ hG2 h;refine⟨env',rs',β',k1,k2,k3,fun g hg=>(k4 g hg).trans (hA g fun e=> ?_)⟩;omega
    .exact h.elim
   |false=>
    simp only[hk]at h;obtain⟨t,cs,rest,h,hp⟩:=iX h;cases hm:jw m.g (m.t/1000000-1) cs with
    |none=>simp only[hm]at h
    |some cs'=>
     simp only[hm]at h
     have hI3:Inv cx.w0 cx.F0 w (Tok.res cx (up β m.g (.slice none 0 0)) (.dn (m.t % 1000000) t cs)::((kK m::rest).map (Tok.res cx (up β m.g (.slice none 0 0)))++fr)):=
      hI2.perm (((((hp.map (Tok.res cx (up β m.g (.slice none 0 0)))).append_right fr).cons _).trans (List.Perm.swap _ _ _)))
     obtain⟨F,⟨b,us,q1,q2,q3,q4⟩,k2,_⟩:=Inv.take1 hI3
     have hI4:Inv cx.w0 cx.F0 w (Tok.res cx (up β m.g (.slice none 0 0)) (.dn (m.t % 1000000) t cs')::((kK m::rest).map (Tok.res cx (up β m.g (.slice none 0 0)))++fr)):=
      k2 _ F (fun _ h=>h) ⟨b,us,q1,ah.uD (aV _ _) hm q2,q3,q4⟩
     have hI5:Inv cx.w0 cx.F0 w ((kK m:: .dn (m.t % 1000000) t cs'::rest).map (Tok.res cx (up β m.g (.slice none 0 0)))++fr):=hI4.perm (List.Perm.swap _ _ _);obtain⟨env',rs',β',k1,k2,k3,k4⟩:=HH.uD (M:=M) ⟨hE,hI5⟩ hg h;refine⟨env',rs',β',k1,k2,k3,fun g hg=>(k4 g hg).trans (hA g fun e=> ?_)⟩;omega
theorem HH.head{kept:Ev}{wl:aK}{a0:Act}{β0:Nat->Value}{env0:Ev}{l:Ev}{T:List Tok}(hh:HH cx n fr β a w env rs)(hg:GF env)(hl:gQ env rs l T)(E0:bW cx β0 n a0 env0)(g0:GF env0)(hk:∀t s,lk kept t=some s->t∉wl/\lk env0 t=some s/\∀g∈s.names [],g % 1000000∉wl/\g % 1000000<20000)
  (ha:kC wl β0 β) (hf:nE wl a0 a):∃β',HH cx n fr β' a w (l++kept) T/\GF (l++kept)/\kC wl β β':=by
 obtain⟨σ,M,hσ,hM⟩:=hl;obtain⟨env1,rs1,β1,⟨h1,h2⟩,hh1,hg1,hβ1⟩:=hh.uD hg hM;have hA1:kC wl β β1:=fun g _ hlt=>hβ1 g hlt
 suffices hs:∃β',HH cx n fr β' a w (l++kept) T/\GF (l++kept)/\kC wl β1 β' by
  obtain⟨β',k1,k2,k3⟩:=hs;exact⟨β',k1,k2,hA1.trans k3⟩
 replace ha:=ha.trans hA1
 clear hA1 hβ1 hM hh hg;revert h1 h2 hh1 hg1 ha;generalize env1=env,rs1=rs,β1=β;intro h1 h2 hh hg ha
 let β':Nat->Value:=fun g=>match lk σ g with|some h=>β h|none=>β g
 have hRn:Bq false σ β' β:=fun g g' h=>by
  rcases h with h|⟨_,h,rfl⟩
  .show β g'=(match lk σ g with|some h=>β h|none=>β g);rw[h]
  .show β g'=(match lk σ g' with|some h=>β h|none=>β g');rw[h]
 have hlow:∀g,g % 1000000<20000->β' g=β g:=fun g hg=>by
  show(match lk σ g with|some h=>β h|none=>β g)=_;cases h:lk σ g with
  |none=>rfl
  |some x=>
   have:=rT hσ h;rw[Nat.mod_eq_of_lt this.2]at hg;omega
 obtain⟨l',k1,k2⟩:=vZ h1;obtain⟨T',k3,_,k4⟩:=gV h2;have hT:=cK k3 hh.H;refine⟨β',⟨⟨hh.E.size,hh.E.defers,fun t s hs=> ?_⟩,hT.pO (dx (fun _ _ h F=>(h F).2) (fJ (k4 cx β' β hRn w)))⟩,fun t d b x hs=> ?_,fun g hg hl=>hlow g hl⟩
 .rw[uw]at hs;cases h3:lk l t with
  |some v=>
   rw[h3]at hs;injection hs with hs
   subst hs;obtain⟨v',q1,q2,_⟩:=(k2 t).2 v h3;obtain⟨u,q3,q4⟩:=rX k1 t v' q1;obtain⟨x,q5,q6⟩:=hh.E.DI hg q3;exact⟨x,q5,bK.of ((q2 cx β' β hRn x).2 (fT q4 q6))⟩
  |none=>
   rw[h3]at hs;obtain⟨q1,q2,q3⟩:=hk t s hs;obtain⟨x,q5,q6⟩:=E0.DI g0 q2
   exact⟨x,by rw[hf t q1];exact q5,bK.of (q6.congr fun g hg'=>by
    rw[hlow g (q3 g hg').2];exact ha g (q3 g hg').1 (q3 g hg').2)⟩
 .rw[uw]at hs;cases h3:lk l t with
  |some v=>
   rw[h3]at hs;injection hs with hs
   obtain⟨v',q1,q2,q3⟩:=(k2 t).2 v h3;exact absurd hs (q3 d b x)
  |none=>
   rw[h3]at hs;obtain⟨q1,q2,q3⟩:=hk t _ hs;exact g0 _ _ _ _ q2
def CV:Exit->X->Prop
 | .normal,.n=>True
 | .ret,.r=>True
 | .exit id,.x id'=>id=id'
 |_,_=>False
def Post(cx:Cx)(n:Nat)(fr:List aM)(wl:List Nat)(β:Nat->Value)(a:Act)(K:X->Ev->List Tok->Prop)(e:Exit)(a':Act)(w':World):Prop:=
 ∃x env' rs' β',CV e x/\K x env' rs'/\HH cx n fr β' a' w' env' rs'/\GF env'/\kC wl β β'/\nE wl a a'
theorem BI(hti:bE P ti=true)(hn0:n<=10000)(hm:P.follows .mixedOrders=true):∀(c:Code) {env:Ev} {rs:List Tok} {K:X->Ev->List Tok->Prop} {β:Nat->Value} {a:Act} {w:World},vc P ti n c env rs K->HH cx n fr β a w env rs->GF env->c.wp P (Post cx n fr (wr c []) β a K) a w:=by
 intro c
 induction c with
 |skip=>intro env rs K β a w h hh hg;exact wp_skip ⟨.n,env,rs,β,trivial,h,hh,hg,kC.refl _ _,nE.refl _ _⟩
 |ret=>intro env rs K β a w h hh hg;exact wp_ret ⟨.r,env,rs,β,trivial,h,hh,hg,kC.refl _ _,nE.refl _ _⟩
 |exit id=>intro env rs K β a w h hh hg;exact wp_exit ⟨.x id,env,rs,β,rfl,h,hh,hg,kC.refl _ _,nE.refl _ _⟩
 |seq x y ihx ihy=>
  intro env rs K β a w h hh hg;rw[CS]at h;have hx:∀t∈wr x [],t∈wr (.seq x y) []:=fun t ht=>by unfold wr;rw[qy];exact .inl ht
  have hy:∀t∈wr y [],t∈wr (.seq x y) []:=fun t ht=>by unfold wr;rw[qy];exact .inr ht
  refine wp_seq (wp_mono (ihx h hh hg) ?_);rintro e a' w' ⟨q,env',rs',β',h1,h2,h3,h4,h5,h6⟩;cases e<;>cases q<;>simp only[CV]at h1
  .refine wp_mono (ihy h2 h3 h4) ?_;rintro e a'' w'' ⟨q,env'',rs'',β'',k1,k2,k3,k4,k5,k6⟩;exact⟨q,env'',rs'',β'',k1,k2,k3,k4,(h5.mono hx).trans (k5.mono hy),(h6.mono hx).trans (k6.mono hy)⟩
  .exact⟨.x _,env',rs',β',h1,h2,h3,h4,h5.mono hx,h6.mono hx⟩
  .exact⟨.r,env',rs',β',trivial,h2,h3,h4,h5.mono hx,h6.mono hx⟩
 |cond c x y ihx ihy=>
  intro env rs K β a w h hh hg;rw[Bl]at h;have hx:∀t∈wr x [],t∈wr (.cond c x y) []:=fun t ht=>by unfold wr;rw[qy];exact .inl ht
  have hy:∀t∈wr y [],t∈wr (.cond c x y) []:=fun t ht=>by unfold wr;rw[qy];exact .inr ht
  split at h
  .rename_i t ht;obtain⟨v,h1,h2⟩:=aj hh.E (g:=none) (fun d b e=>by cases e) ht;rw[bL h2]at h1;refine wp_cond_split h1 (fun e=> ?_) (fun e=> ?_)
   .refine wp_mono (ihx (h.1 e) hh hg) ?_;rintro e a' w' ⟨q,env',rs',β',h1,h2,h3,h4,h5,h6⟩;exact⟨q,env',rs',β',h1,h2,h3,h4,h5.mono hx,h6.mono hx⟩
   .refine wp_mono (ihy (h.2 e) hh hg) ?_;rintro e a' w' ⟨q,env',rs',β',h1,h2,h3,h4,h5,h6⟩;exact⟨q,env',rs',β',h1,h2,h3,h4,h5.mono hy,h6.mono hy⟩
  .exact h.elim
 |block id x ih=>
  intro env rs K β a w h hh hg;rw[zT]at h;refine wp_block (wp_mono (ih h hh hg) ?_);rintro e a' w' ⟨q,env',rs',β',h1,h2,h3,h4,h5,h6⟩;cases e<;>cases q<;>simp only[CV]at h1
  .exact⟨.n,env',rs',β',trivial,h2,h3,h4,h5,h6⟩
  .rename_i id1 id2;subst h1;simp only at h2;show if id1=id then Post cx n fr (wr (Code.block id x) []) β a K Exit.normal a' w' else Post cx n fr (wr (Code.block id x) []) β a K (Exit.exit id1) a' w'
   cases hb:Nat.beq id1 id with
   |true=>
    rw[hb]at h2;rw[if_pos (ak hb)];exact⟨.n,env',rs',β',trivial,h2,h3,h4,h5,h6⟩
   |false=>
    rw[hb]at h2;have hne:id1≠id:=fun e=>by subst e;simp at hb
    rw[if_neg hne];exact⟨.x id1,env',rs',β',rfl,h2,h3,h4,h5,h6⟩
  .exact⟨.r,env',rs',β',trivial,h2,h3,h4,h5,h6⟩
 |region id ops dr=>
  intro env rs K β a w h hh hg;cases dr with
  |true=>
   rw[Bn]at h
   have:=Bj (id:=id) (Q:=Post cx n fr (wr (.region id ops true) []) β a K) hti hn0 hm h hh hg fun env' rs' β' a' w' hK hh' hn hag hf=>by
    cases hb:gK ops.toList with
    |true=>
     rw[hb]at hK;obtain⟨env2,h1,h2⟩:=gN [] hK;exact⟨.n,env2,rs',β',trivial,h1,⟨hh'.E.sub fun t s hl=>(h2 t s hl).2.1,hh'.H⟩,fun t d b x hl=>absurd rfl ((h2 t _ hl).2.2 d b x),hag,hf⟩
    |false=>
     rw[hb]at hK;exact⟨.n,env',rs',β',trivial,hK,hh',hn hb,hag,hf⟩
   simpa using this
  |false=>
   rw[CQ]at h
   have key:wpList P ops.toList.toArray (Post cx n fr (wr (.region id ops false) []) β a K) ops.toList a w:=by
    refine ny hti hn0 ops.toList [] h hh hg fun env' rs' β' a' w' hK hh' hn hag hf=> ?_
    cases hb:gK ops.toList with
    |true=>
     rw[hb]at hK;obtain⟨env2,h1,h2⟩:=gN [] hK;exact⟨.n,env2,rs',β',trivial,h1,⟨hh'.E.sub fun t s hl=>(h2 t s hl).2.1,hh'.H⟩,fun t d b x hl=>absurd rfl ((h2 t _ hl).2.2 d b x),hag,hf⟩
    |false=>
     rw[hb]at hK;exact⟨.n,env',rs',β',trivial,hK,hh',hn hb hg,hag,hf⟩
   exact wp_region_list key
 |loop body ih=>
  intro env rs K β a w h hh hg;rw[Bo]at h;obtain⟨L,⟨hL0,hl⟩,h⟩:=h;have hw:wr (.loop body) []=wr body []:=rfl;refine wp_loop_ghost (fun m a' w'=>∃s β',L.I s/\m=L.μ s/\kC (wr body []) β β'/\nE (wr body []) a a'/\∃env' rs',gQ env' rs' (L.U s) (L.T s)/\GF env'/\HH cx n fr β' a' w' env' rs') (L.μ L.s0) ⟨L.s0,β,hL0,rfl,kC.refl _ _,nE.refl _ _,env,rs,hl,hg,hh⟩ ?_;rintro m a1 w1 ⟨s,β1,hLs,rfl,hA,hF,env1,rs1,hle,hg1,hh1⟩;obtain⟨kept,hk,hk2⟩:=jq _ (h s hLs);have hk:=vk hk;obtain⟨β2,hE,hG,hA2⟩:=hh1.head hg1 hle hh.E hg hk2 hA hF
  obtain⟨rsG,hk,hI⟩:=L.ok s _ cx β2 w1 fr hk hE.H;refine wp_mono (ih hk ⟨hE.E,hI⟩ hG) ?_;rintro e a' w' ⟨q,env',rs',β',h1,h2,h3,h4,h5,h6⟩;have hA3:=(hA.trans hA2).trans h5;cases e<;>cases q<;>simp only[CV]at h1
  .obtain⟨s',⟨k0,k1⟩,k3⟩:=h2;exact⟨L.μ s',k3,s',β',k0,rfl,hA3,hF.trans h6,env',rs',k1,h4,h3⟩
  .exact⟨.x _,env',rs',β',h1,h2,h3,h4,hA3,hF.trans h6⟩
  .exact⟨.r,env',rs',β',trivial,h2,h3,h4,hA3,hF.trans h6⟩
 |_=>intro env rs K β a w h hh hg;exact(show False from h).elim
end
end Go.Tr
namespace Go.Tr
open Go Go.RowKit
universe u
section
variable {cx:Cx}{β β':Nat->Value}{P:Program}{ti:TI}{n:Nat}{a:Act}{env:Ev}{rs:List Tok}{fr:List aM}{w:World}
theorem rG{s:SV}{t:Nat}:∀{l:List SV} {i:Nat} {e:Ev},lk (kE l i e) t=some s->(∃j,t=i+j/\l[j]? =some s)\/lk e t=some s
 |[],i,e,h=>.inr h
 |x::l,i,e,h=>by
  unfold kE at h;rcases rG h with⟨j,h1,h2⟩|h1
  .exact .inl ⟨j+1,by omega,by simpa using h2⟩
  .rw[aA]at h1;split at h1
   .injection h1 with h1
    subst h1;exact .inl ⟨0,by omega,rfl⟩
   .exact .inr h1
theorem tu{args:List SV}{vs:aO}(hd:ah cx β args vs)(ha:args.length<=n):bW cx β n { tmps:=vs.toArray++Array.replicate (n-vs.toArray.size) undef,defers:=[]} (kE args 0 [])/\GF (kE args 0 []):=by
 have hl:=hd.len
 have key:∀t s,lk (kE args 0 []) t=some s->∃v,vs[t]? =some v/\Den cx β s v:=fun t s h=>by
  rcases rG h with⟨j,h1,h2⟩|h1
  .have:j=t:=by omega
   subst this;exact hd.get (by rw[jW];exact h2)
  .simp[lk]at h1
 refine⟨⟨by simp;omega,rfl,fun t s h=> ?_⟩,fun t d b x h=> ?_⟩
 .obtain⟨v,h1,h2⟩:=key t s h;refine⟨v,?_,bK.of h2⟩;have:=(qE.1 h1).1;rw[Array.getElem?_append_left (by simpa using this)];simpa using h1
 .obtain⟨v,h1,h2⟩:=key t _ h;unfold Den at h2;exact h2.elim
theorem AB(E:bW cx β n a env)(hg:GF env){t:Nat}{s:SV}(h:lk env t=some s):∃v,(uG a.tmps (.tmp t)).run P w=.ok v w/\Den cx β s v:=by
 obtain⟨v,h1,h2⟩:=E.DI hg h;refine⟨v,?_,h2⟩;show(pure (a.tmps.getD t undef):Sem Value).run P w=_;rw[Array.getD_eq_getD_getElem?,h1];rfl
theorem vT(hti:bE P ti=true)(E:bW cx β n a env)(hg:GF env)(hH:Inv cx.w0 cx.F0 w (rs.map (Tok.res cx β)++fr)){t ty g:Nat}(hl:lk env t=some (.ptr g 0)){cs:List SV}(hc:bU rs g=some cs){z:gI}(hz:lk ti ty=some z):
  (∀m k u zs,z=.st m k u zs->cs.length=k->∃v,(uG a.tmps (.cell t ty)).run P w=.ok v w/\Den cx β (.agg cs) v)/\(∀s,cs=[s]->(∀m k u zs,z≠.st m k u zs)->∃v,(uG a.tmps (.cell t ty)).run P w=.ok v w/\Den cx β s v):=by
 obtain⟨x,h1,h2⟩:=E.DI hg hl;unfold Den at h2;obtain⟨b,hb,rfl⟩:=h2;obtain⟨b',us,t',e1,e2,e3,e4⟩:=oO hH hc;rw[hb]at e1;injection e1 with e1
 injection e1 with e1
 injection e1 with e1
 subst e1;have ht:a.tmps.getD t undef=.pointer (some ⟨b,0,none⟩):=by rw[Array.getD_eq_getD_getElem?,h1];rfl
 have hcs:Go.Tr.aT w b 0 us:=fun j u hu=>by
  have:=jE (i:=j) e4 (by simpa using hu);simpa using this
 refine⟨fun m k u zs hst hk=> ?_,fun s hs hns=> ?_⟩
 .subst hst;obtain⟨q1,q2,_⟩:=gF hti hz;refine⟨.agg us.toArray,?_,by unfold Den;exact⟨us,rfl,e2⟩⟩;have hlen:us.length=k:=e2.len.trans hk;have hl2:(loadCells ⟨b,0,none⟩ us.length).run P w=.ok us.toArray w:=run_loadCells_list (P:=P) w ⟨b,0,none⟩ us (fun j v hv=>by rw[Addr.add_mid];exact hcs j v hv);show(do loadVar ty (<-asAddr (a.tmps.getD t undef)):Sem Value).run P w=_;rw[ht];cases hq:P.info? ty with
  |none=>rw[hq]at q2;simp at q2
  |some i=>
   rw[hq]at q2;have hs':i.size=us.length:=by simp at q2;omega
   simp[asAddr,loadVar,fq q1,sizeOf,typeInfo,hq,hs',hl2]
 .subst hs;have q1:=nu hti hz hns;have hlen:=e2.len
  match us,e2,hlen,hcs with
  |[v],e2,_,hcs=>
   unfold ah at e2;obtain⟨v',vs',he,k1,_⟩:=e2;injection he with he
   subst he;refine⟨v,?_,k1⟩;have hc0:w.cell? ⟨b,0,none⟩=some v:=by simpa using hcs 0 v rfl
   show(do loadVar ty (<-asAddr (a.tmps.getD t undef)):Sem Value).run P w=_;rw[ht];simp[asAddr,loadVar,fq q1,load,Sem.run,hc0]
theorem vU(hti:bE P ti=true)(E:bW cx β n a env)(hg:GF env)(hH:Inv cx.w0 cx.F0 w (rs.map (Tok.res cx β)++fr)):∀{rv:List ResultVar} {l:List SV},mE ti env rs rv=some l->∃vs:aO,vs.length=rv.length/\(∀(i:Nat) (r:ResultVar),rv[i]? =some r->∃v,vs[i]? =some v/\(uG a.tmps r).run P w=.ok v w)/\ah cx β l vs
 |[],l,h=>by
  unfold mE at h;injection h with h
  subst h;exact⟨[],rfl,fun i r h=>by simp at h,by unfold ah;rfl⟩
 |r0::rv,l,h=>by
  have step:∀{s:SV} {r:List SV},(∃v,(uG a.tmps r0).run P w=.ok v w/\Den cx β s v)->mE ti env rs rv=some r->∃vs:List Value,vs.length=(r0::rv).length/\(∀(i:Nat) (q:ResultVar),(r0::rv)[i]? =some q->∃v,vs[i]? =some v/\(uG a.tmps q).run P w=.ok v w)/\ah cx β (s::r) vs:=fun {s r} ⟨v,h3,h4⟩ h2=>by
   obtain⟨vs,h5,h6,h7⟩:=vU hti E hg hH h2;refine⟨v::vs,by simp[h5],fun i q hi=> ?_,by unfold ah;exact⟨v,vs,rfl,h4,h7⟩⟩;cases i with
   |zero=>simp at hi;subst hi;exact⟨v,rfl,h3⟩
   |succ i=>simpa using h6 i q (by simpa using hi)
  cases r0 with
  |tmp t=>
   unfold mE at h;cases h1:lk env t with
   |none=>rw[h1]at h;simp at h
   |some s=>
    cases h2:mE ti env rs rv with
    |none=>rw[h1,h2]at h;simp at h
    |some r=>
     rw[h1,h2]at h;simp only[Option.some.injEq]at h;subst h;exact step (AB E hg h1) h2
  |cell t ty=>
   unfold mE at h;split at h
   .rename_i g hl;split at h
    .rename_i cs m k u zs hc hz;cases hb:Nat.beq cs.length k with
     |false=>rw[hb]at h;cases h
     |true=>
      rw[hb]at h;simp only[qG]at h;split at h
      .rename_i r hr;simp only[Option.some.injEq]at h;subst h;exact step ((vT hti E hg hH hl hc hz).1 _ _ _ _ rfl (ak hb)) hr
      .cases h
    .rename_i s z hns hc hz;split at h
     .rename_i r hr;simp only[Option.some.injEq]at h;subst h;exact step ((vT hti E hg hH hl hc hz).2 _ rfl (fun m k u zs e=>hns m k u zs e)) hr
     .cases h
    .cases h
   .cases h
theorem mJ(hti:bE P ti=true)(E:bW cx β n a env)(hg:GF env)(hH:Inv cx.w0 cx.F0 w (rs.map (Tok.res cx β)++fr)){fn:Func}{rv:List ResultVar}(hr:fn.results=rv.toArray)(h4:Nat.ble rv.length 4=true){r:SV}(h:sI ti env rs rv r):∃v,(results fn a.tmps).run P w=.ok v w/\Den cx β r v:=by
 unfold sI at h;cases ho:mE ti env rs rv with
 |none=>rw[ho]at h;exact h.elim
 |some l=>
  rw[ho]at h;obtain⟨vs,h1,h2,h3⟩:=vU (P:=P) (w:=w) hti E hg hH ho;have hlen:=h3.len;rw[uN,hr]
  match rv,vs,h1,h2,h4 with
  |[],[],_,_,_=>
   have:l=[]:=by simpa using hlen.symm
   subst this;exact⟨.tuple #[],by simp,fT h (by unfold Den;exact⟨[],rfl,h3⟩)⟩
  |[r1],[v1],_,h2,_=>
   obtain⟨q1,e1,k1⟩:=h2 0 r1 rfl;simp at e1;subst e1
   match l,hlen with
   |[s],_=>
    unfold ah at h3;obtain⟨v,vs',he,h5,h6⟩:=h3;injection he with he1 he2
    subst he1;exact⟨v1,by simp[k1],fT h h5⟩
  |[r1,r2],[v1,v2],_,h2,_=>
   obtain⟨q1,e1,k1⟩:=h2 0 r1 rfl;obtain⟨q2,e2,k2⟩:=h2 1 r2 rfl;simp at e1 e2;subst e1 e2
   match l,hlen with
   |[s1,s2],_=>exact⟨.tuple #[v1,v2],by simp[k1,k2],fT h (by unfold Den;exact⟨_,rfl,h3⟩)⟩
  |[r1,r2,r3],[v1,v2,v3],_,h2,_=>
   obtain⟨q1,e1,k1⟩:=h2 0 r1 rfl;obtain⟨q2,e2,k2⟩:=h2 1 r2 rfl;obtain⟨q3,e3,k3⟩:=h2 2 r3 rfl;simp at e1 e2 e3;subst e1 e2 e3
   match l,hlen with
   |[s1,s2,s3],_=>exact⟨.tuple #[v1,v2,v3],by simp[k1,k2,k3],fT h (by unfold Den;exact⟨_,rfl,h3⟩)⟩
  |[r1,r2,r3,r4],[v1,v2,v3,v4],_,h2,_=>
   obtain⟨q1,e1,k1⟩:=h2 0 r1 rfl;obtain⟨q2,e2,k2⟩:=h2 1 r2 rfl;obtain⟨q3,e3,k3⟩:=h2 2 r3 rfl;obtain⟨q4,e4,k4⟩:=h2 3 r4 rfl;simp at e1 e2 e3 e4;subst e1 e2 e3 e4
   match l,hlen with
   |[s1,s2,s3,s4],_=>exact⟨.tuple #[v1,v2,v3,v4],by simp[k1,k2,k3,k4],fT h (by unfold Den;exact⟨_,rfl,h3⟩)⟩
  |_::_::_::_::_::_,_,_,_,h4=>simp at h4
theorem aD.intro(hti:bE P ti=true)(hm:P.follows .mixedOrders=true){f nt:Nat}{fn:Func}{c:Code}{rv:List ResultVar}{args:List SV}{r:SV}(hok:dI P f=true)(hf:P.funcs[f]? =some fn)(hb:fn.body=some c)(hn:fn.ntmps=nt)(hr:fn.results=rv.toArray)
  (ha:(Nat.ble args.length nt&&(Nat.ble rv.length 4&&Nat.ble nt 10000))=true) (hnm:r.names []=[]) (h:vcF P ti nt c rv args r):aD P f args r:=by
 refine⟨hok,fun cx β w fr vs hI hd=> ?_⟩;rw[qD,qD]at ha;have hn0:nt<=10000:=by simpa using ha.2.2
 obtain⟨hE,hG⟩:=tu (n:=nt) hd (by simpa using ha.1);refine calls_of_wp hf hb ?_;rw[hn];refine wp_mono (BI (n:=nt) (fr:=fr) hti hn0 hm c h ⟨hE,hI⟩ hG) ?_;rintro e a' w' ⟨q,env',rs',β',h1,h2,h3,h4,h5,h6⟩
 have done:sI ti env' rs' rv r->∃v,(results fn a'.tmps).run P w'=.ok v w'/\∃x,Ending.returned v=.returned x/\Den cx β r x/\Inv cx.w0 cx.F0 w' fr:=fun ho=>by
  obtain⟨v,k1,k2⟩:=mJ (P:=P) (w:=w') hti h3.E h4 h3.H hr ha.2.1 ho;exact⟨v,k1,v,rfl,k2.congr (fun g hg=>by rw[hnm]at hg;simp at hg),Inv.xZ h3.H⟩
 cases e<;>cases q<;>simp only[CV]at h1
 .exact⟨h3.E.defers,done h2⟩
 .exact h2.elim
 .exact⟨h3.E.defers,done h2⟩
theorem yL{k:Nat}:∀{m i:Nat} {σ:List (Nat×Nat)},i<=k->k<i+m->lk (iM (uo m i) σ) k=some k
 |0,i,σ,h1,h2=>by omega
 |m+1,i,σ,h1,h2=>by
  unfold uo iM;rw[aA]
  by_cases e:k=i
  .subst e;rw[if_pos rfl]
  .rw[if_neg e];exact yL (by omega) (by omega)
theorem bD.intro(hti:bE P ti=true)(hm:P.follows .mixedOrders=true){f nt:Nat}{fn:Func}{c:Code}{rv:List ResultVar}{args:List SV}{ts ts':List Tok}{r:SV}(hok:dI P f=true)(hf:P.funcs[f]? =some fn)(hb:fn.body=some c)(hn:fn.ntmps=nt)(hr:fn.results=rv.toArray)
  (ha:(Nat.ble args.length nt&&(Nat.ble rv.length 4&&Nat.ble nt 10000))=true) (hw:(wr c []).all (fun t=>Nat.blt t 10000)=true) (ht:Nat.ble ts.length 1000=true) (h:EH P ti nt c rv args ts r ts'):bD P f args ts r ts':=by
 refine⟨hok,fun cx β w fr vs hI hd=> ?_⟩;rw[qD,qD]at ha;have hn0:nt<=10000:=by simpa using ha.2.2
 obtain⟨hE,hG⟩:=tu (n:=nt) hd (by simpa using ha.1);refine calls_of_wp hf hb ?_;rw[hn];refine wp_mono (BI (n:=nt) (fr:=fr) hti hn0 hm c h ⟨hE,hI⟩ hG) ?_;rintro e a' w' ⟨q,env',rs',β',h1,h2,h3,h4,h5,h6⟩
 have done:(∃(σ:List (Nat×Nat)) (M:List tO),kJ M env' rs' fun env' rs'=>BF true (iM (uo ts.length 10000) σ) r (fun r'=>sI ti env' rs' rv r')/\gu true (iM (uo ts.length 10000) σ) ts' fun ts''=>bI rs' ts'')->
   ∃v,(results fn a'.tmps).run P w'=.ok v w'/\∃x β2,Ending.returned v=.returned x/\(∀g,10000<=g->g<10000+ts.length->β2 g=β g)/\Den cx β2 r x/\Inv cx.w0 cx.F0 w' (ts'.map (Tok.res cx β2)++fr):=fun⟨σ,M,hM⟩=>by
  obtain⟨env1,rs1,β1,⟨k1,k2⟩,hh1,hg1,hβ1⟩:=h3.uD h4 hM
  replace h5:kC (wr c []) β β1:=h5.trans fun g _ hlt=>hβ1 g hlt
  replace h3:=hh1
  replace h4:=hg1
  clear hM hβ1 hh1 hg1 h2;revert k1 k2 h3 h4 h5;generalize env1=env',rs1=rs',β1=β';intro k1 k2 h5 h3 h4;obtain⟨r',j1,j2⟩:=qh k1;obtain⟨ts'',j3,_,j4⟩:=gV k2;obtain⟨v,q1,q2⟩:=mJ (P:=P) (w:=w') hti h3.E h4 h3.H hr ha.2.1 j1
  let β2:Nat->Value:=fun g=>match lk (iM (uo ts.length 10000) σ) g with|some h=>β' h|none=>β' g
  have hR:Bq true (iM (uo ts.length 10000) σ) β2 β':=fun g g' hl=>by
   rcases hl with hl|⟨hl,_⟩
   .show β' g'=(match lk (iM (uo ts.length 10000) σ) g with|some h=>β' h|none=>β' g);rw[hl]
   .cases hl
  refine⟨v,q1,v,β2,rfl,fun g hg1 hg2=> ?_,(j2 cx β2 β' hR v).2 q2,(cK j3 h3.H).pO (dx (fun _ _ h F=>(h F).2) (fJ (j4 cx β2 β' hR w')))⟩
  have e1:β2 g=β' g:=by
   show(match lk (iM (uo ts.length 10000) σ) g with|some h=>β' h|none=>β' g)=_;rw[yL hg1 hg2]
  rw[e1];have ht':ts.length<=1000:=by simpa using ht
  have hgm:g % 1000000=g:=Nat.mod_eq_of_lt (by omega);refine h5 g ?_ (by rw[hgm];omega);rw[hgm];intro hm;rw[List.all_eq_true]at hw;have:=hw g hm;have h7:g<10000:=by simpa using this
  omega
 cases e<;>cases q<;>simp only[CV]at h1
 .exact⟨h3.E.defers,done h2⟩
 .exact h2.elim
 .exact⟨h3.E.defers,done h2⟩
def Cm(σ:Type)(U:σ->Ev)(T:σ->List Tok)(μ:σ->Nat)(I:σ->Prop)(s0:σ):Lp:=⟨σ,U,T,μ,I,s0,fun s K=>K (T s),fun s K cx β w R h hI=>⟨_,h,hI⟩⟩
theorem lp{R:(L:Lp)->L.σ->Prop}{env:Ev}{rs:List Tok}(σ:Type)(U:σ->Ev)(T:σ->List Tok)(μ:σ->Nat)(I:σ->Prop)(s0:σ)(h0:I s0)(h1:gQ env rs (U s0) (T s0))(hr:∀s,I s->R (Cm σ U T μ I s0) s):
  ∃L:Lp,(L.I L.s0/\gQ env rs (L.U L.s0) (L.T L.s0))/\∀s,L.I s->R L s:=⟨Cm σ U T μ I s0,⟨h0,h1⟩,hr⟩
theorem jv{σ:Type}{U:σ->Ev}{T:σ->List Tok}{μ:σ->Nat}{I:σ->Prop}{s0 s:σ}{env:Ev}{rs:List Tok}(s':σ)(h1:I s')(h2:gQ env rs (U s') (T s'))(h3:μ s'<μ s):
  ∃s'',((Cm σ U T μ I s0).I s''/\gQ env rs ((Cm σ U T μ I s0).U s'') ((Cm σ U T μ I s0).T s''))/\(Cm σ U T μ I s0).μ s''<(Cm σ U T μ I s0).μ s:=⟨s',⟨h1,h2⟩,h3⟩
theorem hd{env:Ev}{rs:List Tok}{U:Ev}{T:List Tok}(σ:List (Nat×Nat))(h0:rR σ=true)(h1:w9 false σ U fun U'=>rW env U')(h2:gu false σ T fun T'=>bI rs T'):gQ env rs U T:=⟨σ,[],h0,h1,h2⟩
theorem fin{N:Nat}{ti:TI}{env:Ev}{rs:List Tok}{rv:List ResultVar}{ts':List Tok}{r:SV}(σ:List (Nat×Nat))(h1:BF true (iM (uo N 10000) σ) r (fun r'=>sI ti env rs rv r')/\gu true (iM (uo N 10000) σ) ts' fun ts''=>bI rs ts''):
  ∃(σ:List (Nat×Nat)) (M:List tO),kJ M env rs fun env rs=>BF true (iM (uo N 10000) σ) r (fun r'=>sI ti env rs rv r')/\gu true (iM (uo N 10000) σ) ts' fun ts''=>bI rs ts'':=⟨σ,[],h1⟩
end
end Go.Tr
namespace Go.Tr
open Go Go.RowKit
universe u
def pG(rs:List Tok):(u:U)->List SV->(El u->List SV->Prop)->Prop
 | .int k,c::l,K=>match c with| .int k' i=>bif k'==k then K i l else False|_=>False
 | .bool,c::l,K=>match c with| .bool b=>K b l|_=>False
 | .str,c::l,K=>match c with| .raw (.string x)=>K x l|_=>False
 | .any,c::l,K=>match c with| .raw x=>K x l| .mp _=>∀x:Value,K x l|_=>False
 | .pair a b,l,K=>pG rs a l fun x l'=>pG rs b l' fun y l''=>K (x,y) l''
 | .sl e,c::l,K=>match c with
  | .sl h=>match rowOf rs h with
   |some ⟨_,s,u,xs,_⟩=>if hu:gH u e=true then(bif Nat.beq s e.size then K (coe (aB hu) xs) l else False)else False
   |none=>False
  | .rsl u xs=>if hu:gH u e=true then K (coe (aB hu) xs) l else False
  | .raw (.slice none 0 0)=>K [] l
  |_=>False
 | .tree e,l,K=>pG rs e l fun x l'=>match l' with
  |c::l''=>(match c with
   | .sl h=>match bP rs h with
    |some ⟨_,_,u,xs⟩=>if hu:gH u (.tree e)=true then K (.node x (coe (aB hu) xs)) l'' else False
    |none=>False
   | .rsl u xs=>if hu:gH u (.tree e)=true then K (.node x (coe (aB hu) xs)) l'' else False
   | .raw (.slice none 0 0)=>K (.node x []) l''
   |_=>False)
  |[]=>False
 |_,[],_=>False
def EP:gI->Option U
 | .st _ _ u _=>some u
 | .sl _ _ u=>some (.sl u)
 | .sc (.int k _)=>some (.int k)
 | .sc (.raw (.string _))=>some .str
 | .bool=>some .bool
 |_=>none
def nK(ti:TI)(rs:List Tok)(t:Nat):SV->(SV->Prop)->Prop
 | .int k i,K=>K (.int k i)
 | .bool b,K=>K (.bool b)
 | .raw v,K=>match v with
  | .slice none 0 0=>match lk ti t with
   |some (.sl _ _ u)=>K (.rsl u [])
   |_=>K (.raw v)
  |v=>K (.raw v)
 | .rsl e xs,K=>K (.rsl e xs)
 | .rp u x,K=>K (.rp u x)
 | .sl h,K=>match rowOf rs h with
  |some ⟨_,s,u,xs,_⟩=>bif Nat.beq s u.size then K (.rsl u xs)else False
  |none=>False
 | .ep h s i o,K=>match rowOf rs h with
  |some ⟨_,s',u,xs,_⟩=>bif Nat.beq s s'&&Nat.beq s u.size&&Nat.beq o 0 then K (.rp u (elt (dflt u) xs i))else False
  |none=>False
 | .nh k o _ hdr,K=>∃q,match rowOf rs q with
  |some ⟨_,s,u,xs,us⟩=>match pV u (elt (dflt u) xs k) o with
   |some ⟨.sl e,ys⟩=>sG xs us k s o hdr/\K (.rsl e ys)
   |_=>False
  |none=>False
 | .ptr h o,K=>match lk ti t with
  |some (.ptr e)=>match lk ti e with
   |some z=>match EP z,bU rs h with
    |some u,some cs=>pG rs u (dG o cs) fun x _=>K (.rp u x)
    |_,_=>False
   |none=>False
  |_=>False
 |_,_=>False
def Aw(ti:TI)(rs:List Tok)(t:Nat):List SV->(List SV->Prop)->Prop
 |[],K=>K []
 |v::l,K=>nK ti rs t v fun v'=>Aw ti rs t l fun l'=>K (v'::l')
def kF:List Tok->Nat->Option Nat
 |[],_=>none
 | .dn g t _::l,k=>bif Nat.beq g k then some t else kF l k
 | .row _ _ _ _ _ _::l,k=>kF l k
 | .map _ _ _::l,k=>kF l k
 | .pmap _ _::l,k=>kF l k
 | .suf _ _ _ _ _::l,k=>kF l k
 | .nest _ _ _ _::l,k=>kF l k
 | .dat _ _ _ _ _::l,k=>kF l k
def yE(ti:TI)(rs:List Tok):List SV->(List SV->Prop)->Prop
 |[],K=>K []
 |v::l,K=>match v with
  | .ptr h o=>match kF rs h with
   |some t=>match lk ti t with
    |some z=>match EP z,bU rs h with
     |some u,some cs=>pG rs u (dG o cs) fun x _=>yE ti rs l fun l'=>K (.rp u x::l')
     |_,_=>False
    |none=>False
   |none=>False
  |v=>nK ti rs 1000000 v fun v'=>yE ti rs l fun l'=>K (v'::l')
def r9(ti:TI)(rs:List Tok):List SV->List Nat->(List SV->Prop)->Prop
 |[],_,K=>K []
 |v::l,t::ts,K=>match v with
  | .agg m=>Aw ti rs 0 m fun m'=>r9 ti rs l ts fun l'=>K (.agg m'::l')
  | .fn f m=>yE ti rs m fun m'=>r9 ti rs l ts fun l'=>K (.fn f m'::l')
  |v=>nK ti rs t v fun v'=>r9 ti rs l ts fun l'=>K (v'::l')
 |_,[],_=>False
def za:SV->Bool
 | .int _ _=>true
 | .bool _=>true
 | .raw _=>true
 |_=>false
def mG:List SV->Bool
 |[]=>true
 |v::l=>za v&&mG l
def ze:SV->Bool
 | .agg l=>mG l
 | .tup l=>mG l
 |v=>za v
mutual
def wR:SV->Bool
 | .rsl _ _=>false
 | .rp _ _=>false
 | .nn _ _=>false
 | .agg l=>om l
 | .tup l=>om l
 | .fn _ l=>om l
 | .gd _ _ _=>false
 |_=>true
def om:List SV->Bool
 |[]=>true
 |v::l=>wR v&&om l
end
section
variable {cx:Cx}{β β':Nat->Value}{P:Program}{ti:TI}{rs:List Tok}{fr:List aM}{w w':World}
abbrev Cx.now(w:World)[GT w []]:Cx:=⟨w,[]⟩
theorem wh(H:Inv cx.w0 cx.F0 w (rs.map (Tok.res cx β)++fr)){g:Nat}{t s:Nat}{u:U}{xs:List (El u)}{us0:aO}(h:rowOf rs g=some ⟨t,s,u,xs,us0⟩):dB w [] (.sl (List.length (α:=El u) xs) (List.flatMap (enc u) xs)) (β g):=by
 obtain⟨_,A,c,bs,_,h2,_⟩:=kN H h;exact dB.of h2
theorem wD:∀(u:U) (x:El u) {cx:Cx} {β:Nat->Value} {w:World} {R:List aM} {us:aO} {vs:List SV} {ds:List D},Inv cx.w0 cx.F0 w R->(∀us',ah cx β vs us'->∃bs,TN w ds bs us')->ah cx β (aW u x++vs) us->∃bs,TN w (enc u x++ds) bs us
 | .int k,x,cx,β,w,R,us,vs,ds,hI,h,hd=>by
  unfold aW ah at hd;obtain⟨v1,vs1,rfl,hd1,hd2⟩:=hd;unfold Den at hd1;subst hd1;obtain⟨bs,hb⟩:=h _ hd2;exact⟨_,TN.uY rfl hb⟩
 | .bool,x,cx,β,w,R,us,vs,ds,hI,h,hd=>by
  unfold aW ah at hd;obtain⟨v1,vs1,rfl,hd1,hd2⟩:=hd;unfold Den at hd1;subst hd1;obtain⟨bs,hb⟩:=h _ hd2;exact⟨_,TN.uY rfl hb⟩
 | .str,x,cx,β,w,R,us,vs,ds,hI,h,hd=>by
  unfold aW ah at hd;obtain⟨v1,vs1,rfl,hd1,hd2⟩:=hd;unfold Den at hd1;obtain⟨rfl,h1⟩:=hd1;obtain⟨bs,hb⟩:=h _ hd2;exact⟨_,TN.uY h1 hb⟩
 | .any,x,cx,β,w,R,us,vs,ds,hI,h,hd=>by
  unfold aW ah at hd;obtain⟨v1,vs1,rfl,hd1,hd2⟩:=hd;unfold Den at hd1;obtain⟨rfl,h1⟩:=hd1;obtain⟨bs,hb⟩:=h _ hd2;exact⟨_,TN.uY h1 hb⟩
 | .pair a b,x,cx,β,w,R,us,vs,ds,hI,h,hd=>by
  unfold aW at hd;rw[qF]at hd;unfold enc;rw[qF];exact wD a x.1 hI (fun us' hd'=>wD b x.2 hI h hd') hd
 | .sl e,x,cx,β,w,R,us,vs,ds,hI,h,hd=>by
  unfold aW ah at hd;obtain⟨v1,vs1,rfl,hd1,hd2⟩:=hd;unfold Den at hd1;obtain⟨bs1,ht⟩:=hd1.now hI;obtain⟨bs,hb⟩:=h _ hd2;exact⟨_,TN.zG ht hb⟩
 | .tree e,x,cx,β,w,R,us,vs,ds,hI,h,hd=>by
  unfold aW at hd;rw[qF]at hd;rw[bX,qF];refine wD e x.val hI (fun us' hd'=> ?_) hd
  change ah cx β (.rsl (.tree e) x.kids::vs) us' at hd'
  unfold ah at hd';obtain⟨v1,vs1,rfl,hd1,hd2⟩:=hd';unfold Den at hd1;obtain⟨bs1,ht⟩:=hd1.now hI;obtain⟨bs,hb⟩:=h _ hd2;exact⟨_,TN.zG ht hb⟩
theorem zN{u:U}{cx:Cx}{β:Nat->Value}{w:World}{R:List aM}(hI:Inv cx.w0 cx.F0 w R):∀(xs:List (El u)) {us:aO},ah cx β (List.flatMap (aW u) xs) us->∃bs,TN w (List.flatMap (enc u) xs) bs us
 |[],us,hd=>by unfold List.flatMap ah at hd;subst hd;exact⟨_,TN.done⟩
 |x::xs,us,hd=>by
  rw[qU]at hd |-;exact wD u x hI (fun us' h=>zN hI xs h) hd
theorem BH{w:World}:∀{us us':aO} {bs:aK},TN w (us.map D.v) bs us'->us'=us/\bs=[]
 |[],us',bs,h=>TN.nil.1 h
 |u::us,us',bs,h=>by
  rw[List.map_cons]at h;obtain⟨b1,b2,v,us2,rfl,rfl,h2,h3⟩:=TN.cons.1 h;obtain⟨rfl,rfl,_⟩:=T1.v.1 h2;obtain⟨rfl,rfl⟩:=BH h3;exact⟨rfl,rfl⟩
theorem CG{w:World}{lo:Nat}{t:TypeId}{s:Nat}{v:Value}{m:Nat}{us:aO}{ds:List D}{bs:aK}(h:w.ownsRow lo t s v m us)(ht:TN w ds bs us)(hl:ds.length=m*s):∃bs',T1 w (.sl m ds) bs' v/\∀b∈bs',b∈jD v++bs:=by
 rcases h.2 with⟨rfl,rfl⟩|⟨g,cap,cur,rfl,hb,hgg,hnc,hcm,hcs,htk⟩
 .have hd:ds=[]:=List.eq_nil_of_length_eq_zero (by simpa using hl);subst hd;exact⟨[],T1.empty none,by simp⟩
 .rcases Nat.eq_zero_or_pos m with rfl|hn
  .have hd:ds=[]:=List.eq_nil_of_length_eq_zero (by simpa using hl);subst hd;refine⟨[],?_,by simp⟩;unfold T1;exact⟨_,_,rfl,hnc,hcm,.inl ⟨rfl,rfl,rfl⟩⟩
  .refine⟨g::bs,?_,fun b hb'=>by simpa[jD,Value.ownBlock]using hb'⟩;unfold T1;refine⟨_,_,rfl,hnc,hcm,.inr ⟨hn,g,0,us,bs,rfl,rfl,dA hgg,fun j u hu=> ?_,ht⟩⟩;rw[Nat.zero_add,cell_of_row w g j cur t (0,0) hgg];rw[<-htk,List.getElem?_take]at hu;split at hu
   .simpa using hu
   .cases hu
theorem Aj{cx:Cx}{β:Nat->Value}{rs:List Tok}{fr:List aM}{w:World}(H:Inv cx.w0 cx.F0 w (rs.map (Tok.res cx β)++fr)){g:Nat}{t s:Nat}{u:U}{xs:List (El u)}(h:bP rs g=some ⟨t,s,u,xs⟩):∃bs,T1 w (.sl (List.length (α:=El u) xs) (List.flatMap (enc u) xs)) bs (β g):=by
 obtain⟨i,hi⟩:=jN h
 obtain⟨F,h1,us,h2,h3,h4⟩:=H.mem i (r:=Tok.res cx β (.dat g t s u xs)) (by
  rw[qM (by simpa using(qE.1 hi).1),qY,hi];rfl)
 obtain⟨bs,us',_,hg,_⟩:=h4;obtain⟨rfl,rfl⟩:=BH hg.tn;obtain⟨bs1,ht⟩:=zN H xs h2;obtain⟨bs',k1,_⟩:=CG hg.row ht (by rw[aC,h1]);exact⟨bs',k1⟩
theorem yC(H:Inv cx.w0 cx.F0 w (rs.map (Tok.res cx β)++fr)):∀(u:U) {l:List SV} {us:aO} {K:El u->List SV->Prop},pG rs u l K->ah cx β l us->∃x l' us1 us2,us=us1++us2/\K x l'/\(∃bs,TN w (enc u x) bs us1)/\ah cx β l' us2:=by
 intro u
 have one:∀{s:SV} {l:List SV} {us:List Value},ah cx β (s::l) us->∃v us2,us=[v]++us2/\Den cx β s v/\ah cx β l us2:=fun h=>by
  unfold ah at h;obtain⟨v,vs,e,h1,h2⟩:=h;exact⟨v,vs,e,h1,h2⟩
 have tn1:∀{d:D} {bs:List Nat} {v:Value},T1 w d bs v->∃bs,TN w [d] bs [v]:=fun {d bs v} h=>⟨bs++[],TN.cons.2 ⟨bs,[],v,[],rfl,rfl,h,TN.done⟩⟩
 induction u with
 |int k=>
  intro l us K h hd;cases l with
  |nil=>unfold pG at h;exact h.elim
  |cons c l=>
   obtain⟨v,us2,e,h1,h2⟩:=one hd;unfold pG at h;split at h
   .rename_i k' i;cases hk:k'==k with
    |false=>rw[hk]at h;exact h.elim
    |true=>
     rw[hk]at h;have:=eq_of_beq hk;subst this;unfold Den at h1;subst h1;exact⟨i,l,_,us2,e,h,tn1 (T1.v.2 ⟨rfl,rfl,rfl⟩),h2⟩
   .exact h.elim
 |bool=>
  intro l us K h hd;cases l with
  |nil=>unfold pG at h;exact h.elim
  |cons c l=>
   obtain⟨v,us2,e,h1,h2⟩:=one hd;unfold pG at h;split at h
   .unfold Den at h1;subst h1;exact⟨_,l,_,us2,e,h,tn1 (T1.v.2 ⟨rfl,rfl,rfl⟩),h2⟩
   .exact h.elim
 |str=>
  intro l us K h hd;cases l with
  |nil=>unfold pG at h;exact h.elim
  |cons c l=>
   obtain⟨v,us2,e,h1,h2⟩:=one hd;unfold pG at h;split at h
   .unfold Den at h1;exact⟨_,l,_,us2,e,h,tn1 (T1.v.2 ⟨h1.1,rfl,h1.2⟩),h2⟩
   .exact h.elim
 |any=>
  intro l us K h hd;cases l with
  |nil=>unfold pG at h;exact h.elim
  |cons c l=>
   obtain⟨v,us2,e,h1,h2⟩:=one hd;unfold pG at h;split at h
   .unfold Den at h1;exact⟨_,l,_,us2,e,h,tn1 (T1.v.2 ⟨h1.1,rfl,h1.2⟩),h2⟩
   .unfold Den at h1;obtain⟨_,r,rfl⟩:=h1;exact⟨_,l,_,us2,e,h _,tn1 (T1.v.2 ⟨rfl,rfl,rfl⟩),h2⟩
   .exact h.elim
 |pair a b iha ihb=>
  intro l us K h hd;unfold pG at h;obtain⟨x,l1,u1,u2,e,h1,⟨b1,h2⟩,h3⟩:=iha h hd;obtain⟨y,l2,u3,u4,e2,h4,⟨b2,h5⟩,h6⟩:=ihb h1 h3;subst e2;exact⟨(x,y),l2,u1++u3,u4,by rw[e,qF],h4,⟨b1++b2,TN.append.2 ⟨b1,b2,u1,u3,rfl,rfl,h2,h5⟩⟩,h6⟩
 |sl e0 ih=>
  intro l us K h hd;cases l with
  |nil=>unfold pG at h;exact h.elim
  |cons c l=>
   obtain⟨v,us2,e,h1,h2⟩:=one hd;unfold pG at h;split at h
   .rename_i g;split at h
    .rename_i t s u xs us0 hr;split at h
     .rename_i hu;have:=aB hu;subst this;cases hs:Nat.beq s u.size with
      |false=>rw[hs]at h;exact h.elim
      |true=>
       rw[hs]at h;unfold Den at h1;obtain⟨bs,h3,_⟩:=wh H hr;rw[<-h1.1]at h3;exact⟨_,l,_,us2,e,h,tn1 h3,h2⟩
     .exact h.elim
    .exact h.elim
   .rename_i u xs;split at h
    .rename_i hu;have:=aB hu;subst this;unfold Den at h1;obtain⟨bs,h3⟩:=h1.now H;exact⟨_,l,_,us2,e,h,tn1 h3,h2⟩
    .exact h.elim
   .unfold Den at h1;obtain⟨rfl,_⟩:=h1;exact⟨_,l,_,us2,e,h,tn1 (T1.empty none),h2⟩
   .exact h.elim
 |tree e ih=>
  intro l us K h hd;unfold pG at h;obtain⟨x,l1,u1,u2,e0,h1,⟨b1,h2⟩,h3⟩:=ih h hd;cases l1 with
  |nil=>exact h1.elim
  |cons c l2=>
   obtain⟨v,us2,e2,k1,k2⟩:=one h3
   have fin:∀{ys:List (Tree (El e))},(∃bs,T1 w (.sl ys.length (List.flatMap (enc (.tree e)) ys)) bs v)->∃bs,TN w (enc (.tree e) (.node x ys)) bs (u1++[v]):=fun {ys} ⟨b2,h5⟩=>by
    obtain⟨b3,h6⟩:=tn1 h5;refine⟨b1++b3,?_⟩;rw[bX];exact TN.append.2 ⟨b1,b3,u1,[v],rfl,rfl,h2,h6⟩
   have hus:us=(u1++[v])++us2:=by rw[e0,e2,qF]
   simp only at h1;split at h1
   .rename_i g;split at h1
    .rename_i t s u xs hr;split at h1
     .rename_i hu;have:=aB hu;subst this;unfold Den at k1;refine⟨_,l2,_,us2,hus,h1,fin ?_,k2⟩;obtain⟨bs,h4⟩:=Aj H hr;rw[<-k1.1]at h4;exact⟨bs,h4⟩
     .exact h1.elim
    .exact h1.elim
   .rename_i u xs;split at h1
    .rename_i hu;have:=aB hu;subst this;unfold Den at k1;obtain⟨bs,h4⟩:=k1.now H;exact⟨_,l2,_,us2,hus,h1,fin ⟨bs,h4⟩,k2⟩
    .exact h1.elim
   .unfold Den at k1;obtain⟨rfl,_⟩:=k1;exact⟨_,l2,_,us2,hus,h1,fin ⟨_,T1.empty none⟩,k2⟩
   .exact h1.elim
theorem Cg[GT w []](H:Inv cx.w0 cx.F0 w (rs.map (Tok.res cx β)++fr)){g o:Nat}{v:Value}{u:U}{cs:List SV}{K:El u->List SV->Prop}(hc:bU rs g=some cs)(h:pG rs u (dG o cs) K)(hd:Den cx β (.ptr g o) v):∃x l',K x l'/\Den (Cx.now w) β (.rp u x) v:=by
 obtain⟨b,us,t',e1,e2,e3,e4⟩:=oO H hc;unfold Den at hd;obtain⟨b',hb,rfl⟩:=hd;rw[e1]at hb;injection hb with hb
 injection hb with hb
 injection hb with hb
 subst hb;have hdr:ah cx β (dG o cs) (us.drop o):=by rw[d9];exact e2.drop o
 obtain⟨x,l',us1,us2,k1,k2,⟨bs,k3⟩,_⟩:=yC H u h hdr;refine⟨x,l',k2,?_⟩;unfold Den;refine⟨b,o,rfl,dA e4,by simp,us1,fun j y hy=> ?_,bs,k3,by simp⟩;refine jE e4 ?_
 have h5:(us.drop o)[j]? =some y:=by
  rw[k1,qM (qE.1 hy).1];exact hy
 rw[List.getElem?_drop]at h5;simpa using h5
theorem pI[GT w []](hti:bE P ti=true)(H:Inv cx.w0 cx.F0 w (rs.map (Tok.res cx β)++fr)){t:Nat}:∀{s:SV} {v:Value} {K:SV->Prop},nK ti rs t s K->Den cx β s v->∃s',K s'/\Den (Cx.now w) β s' v
 | .int k i,v,K,h,hd=>⟨_,h,by unfold Den at hd |-;exact hd⟩
 | .bool b,v,K,h,hd=>⟨_,h,by unfold Den at hd |-;exact hd⟩
 | .raw x,v,K,h,hd=>by
  simp only[nK]at h;unfold Den at hd;split at h
  .obtain⟨rfl,_⟩:=hd;split at h
   .rename_i u hl;refine⟨_,h,?_⟩;unfold Den;exact dB.of (T1.empty none)
   .exact⟨_,h,by unfold Den;exact⟨rfl,rfl⟩⟩
  .exact⟨_,h,by unfold Den;exact hd⟩
 | .rsl e xs,v,K,h,hd=>⟨_,h,by unfold Den at hd |-;exact hd.at_ H (by simp)⟩
 | .rp u x,v,K,h,hd=>by
  refine⟨_,h,?_⟩;unfold Den at hd |-;obtain⟨b,o,e,h1⟩:=hd;exact⟨b,o,e,h1.at_ H (by simp)⟩
 | .sl g,v,K,h,hd=>by
  simp only[nK]at h;split at h
  .rename_i t' s u xs us0 hr;cases hs:Nat.beq s u.size with
   |false=>rw[hs]at h;exact h.elim
   |true=>
    rw[hs]at h;refine⟨_,h,?_⟩;unfold Den at hd |-;rw[hd.1];exact wh H hr
  .exact h.elim
 | .ptr g o,v,K,h,hd=>by
  simp only[nK]at h;split at h
  .rename_i e hl;split at h
   .rename_i z hz;split at h
    .rename_i u cs hu hc;obtain⟨b,us,t',e1,e2,e3,e4⟩:=oO H hc;unfold Den at hd;obtain⟨b',hb,rfl⟩:=hd;rw[e1]at hb;injection hb with hb
     injection hb with hb
     injection hb with hb
     subst hb;have hdr:ah cx β (dG o cs) (us.drop o):=by rw[d9];exact e2.drop o
     obtain⟨x,l',us1,us2,k1,k2,⟨bs,k3⟩,_⟩:=yC H u h hdr;refine⟨_,k2,?_⟩;unfold Den;refine⟨b,o,rfl,dA e4,by simp,us1,fun j y hy=> ?_,bs,k3,by simp⟩;refine jE e4 ?_
     have h5:(us.drop o)[j]? =some y:=by
      rw[k1,qM (qE.1 hy).1];exact hy
     rw[List.getElem?_drop]at h5;simpa using h5
    .exact h.elim
   .exact h.elim
  .exact h.elim
 | .ep g s i o,v,K,h,hd=>by
  simp only[nK]at h;split at h
  .rename_i t' s' u xs us0 hr;cases hc:(Nat.beq s s'&&Nat.beq s u.size&&Nat.beq o 0)with
   |false=>rw[hc]at h;exact h.elim
   |true=>
    rw[hc]at h;simp only[qD]at hc;have c1:=ak hc.1.1;have c2:=ak hc.1.2;have c3:=ak hc.2;subst c1 c3;refine⟨_,h,?_⟩;unfold Den at hd |-;obtain⟨b,z,m,c,hb,him,rfl⟩:=hd;obtain⟨e1,A,c',bs,e2,e3,_⟩:=kN H hr;simp only at e1 e2 e3;rw[hb]at e2 e3;injection e2 with e4 e5 e6
    subst e4 e5 e6;obtain⟨_,b',off,b1,b2,b3,us,hA,hbs,hb',hc,ht⟩:=T1.at_ (aN u) e3 rfl him;injection hA with hA
    injection hA with hA1 hA2
    subst hA1 hA2;have hx':xs[i.toNat]'him=elt (dflt u) xs i:=by unfold elt;rw[qC,qB him];rfl
    rw[hx']at ht;refine⟨b,_,rfl,?_,by simp,us,?_,eO.of ht⟩
    .exact hb'
    .rw[<-c2]at hc;exact hc
  .exact h.elim
 | .nh k o n hdr,v,K,h,hd=>by
  simp only[nK]at h;obtain⟨q,h⟩:=h;split at h
  .rename_i t' s u xs us0 hr;split at h
   .rename_i e ys hne;obtain⟨hk,h⟩:=h;refine⟨_,h,?_⟩;unfold Den at hd |-;rw[hd.1];exact vN H hr hk hne
   .exact h.elim
  .exact h.elim
 | .np _ _ _ _ _ _ _,v,K,h,hd| .mp _,v,K,h,hd| .nn _ _,v,K,h,hd| .sx _ _ _ _,v,K,h,hd| .agg _,v,K,h,hd| .tup _,v,K,h,hd| .fn _ _,v,K,h,hd| .un,v,K,h,hd| .gd _ _ _,v,K,h,hd=>by simp only[nK]at h
theorem vI[GT w []](hti:bE P ti=true)(H:Inv cx.w0 cx.F0 w (rs.map (Tok.res cx β)++fr)){t:Nat}:∀{l:List SV} {vs:aO} {K:List SV->Prop},Aw ti rs t l K->ah cx β l vs->∃l',K l'/\ah (Cx.now w) β l' vs
 |[],vs,K,h,hd=>⟨[],h,by unfold ah at hd |-;exact hd⟩
 |s::l,vs,K,h,hd=>by
  unfold Aw at h;unfold ah at hd;obtain⟨v,vs',e,h1,h2⟩:=hd;obtain⟨s',h3,h4⟩:=pI hti H h h1;obtain⟨l',h5,h6⟩:=vI hti H h3 h2;exact⟨_,h5,by unfold ah;exact⟨v,vs',e,h4,h6⟩⟩
theorem pJ[GT w []](hti:bE P ti=true)(H:Inv cx.w0 cx.F0 w (rs.map (Tok.res cx β)++fr)):∀{l:List SV} {vs:aO} {K:List SV->Prop},yE ti rs l K->ah cx β l vs->∃l',K l'/\ah (Cx.now w) β l' vs
 |[],vs,K,h,hd=>⟨[],h,by unfold ah at hd |-;exact hd⟩
 |s::l,vs,K,h,hd=>by
  unfold yE at h;unfold ah at hd;obtain⟨v,vs',e,h1,h2⟩:=hd;split at h
  .split at h
   .split at h
    .split at h
     .rename_i hc;obtain⟨x,_,h3,h4⟩:=Cg H hc h h1;obtain⟨l',h5,h6⟩:=pJ hti H h3 h2;exact⟨_,h5,by unfold ah;exact⟨v,vs',e,h4,h6⟩⟩
     .exact h.elim
    .exact h.elim
   .exact h.elim
  .obtain⟨s',h3,h4⟩:=pI hti H h h1;obtain⟨l',h5,h6⟩:=pJ hti H h3 h2;exact⟨_,h5,by unfold ah;exact⟨v,vs',e,h4,h6⟩⟩
theorem lF[GT w []](hti:bE P ti=true)(H:Inv cx.w0 cx.F0 w (rs.map (Tok.res cx β)++fr)):∀{l:List SV} {ts:aK} {vs:aO} {K:List SV->Prop},r9 ti rs l ts K->ah cx β l vs->∃l',K l'/\ah (Cx.now w) β l' vs
 |[],ts,vs,K,h,hd=>⟨[],(by unfold r9 at h;exact h),by unfold ah at hd |-;exact hd⟩
 |s::l,[],vs,K,h,hd=>by unfold r9 at h;exact h.elim
 |s::l,t::ts,vs,K,h,hd=>by
  unfold r9 at h;unfold ah at hd;obtain⟨v,vs',e,h1,h2⟩:=hd;split at h
  .rename_i m;unfold Den at h1;obtain⟨us,rfl,h1⟩:=h1;obtain⟨m',h3,h4⟩:=vI hti H h h1;obtain⟨l',h5,h6⟩:=lF hti H h3 h2;exact⟨_,h5,by unfold ah;exact⟨_,vs',e,(by unfold Den;exact⟨us,rfl,h4⟩),h6⟩⟩
  .rename_i f m;unfold Den at h1;obtain⟨us,rfl,h1⟩:=h1;obtain⟨m',h3,h4⟩:=pJ hti H h h1;obtain⟨l',h5,h6⟩:=lF hti H h3 h2;exact⟨_,h5,by unfold ah;exact⟨_,vs',e,(by unfold Den;exact⟨us,rfl,h4⟩),h6⟩⟩
  .obtain⟨s',h3,h4⟩:=pI hti H h h1;obtain⟨l',h5,h6⟩:=lF hti H h3 h2;exact⟨_,h5,by unfold ah;exact⟨v,vs',e,h4,h6⟩⟩
theorem jX{cx':Cx}:∀{l:List SV} {us:aO},mG l=true->ah cx β l us->ah cx' β l us
 |[],us,_,h=>by unfold ah at h |-;exact h
 |s::l,us,hp,h=>by
  unfold ah at h |-;obtain⟨v,vs',h1,h2,h3⟩:=h;unfold mG at hp;rw[qD]at hp;refine⟨v,vs',h1,?_,jX hp.2 h3⟩;cases s<;>first|(unfold Den at h2 |-;exact h2)|cases hp.1
theorem wX{cx':Cx}{s:SV}{v:Value}(hp:ze s=true)(h:Den cx β s v):Den cx' β s v:=by
 cases s
 case agg l=>unfold Den at h |-;obtain⟨us,e,h1⟩:=h;exact⟨us,e,jX hp h1⟩
 case tup l=>unfold Den at h |-;obtain⟨us,e,h1⟩:=h;exact⟨us,e,jX hp h1⟩
 all_goals first|(unfold Den at h |-;exact h)|cases hp
theorem bD.Ey(hti:bE P ti=true){f:Nat}{args:List SV}{ts:List Tok}{r:SV}(tys:aK)(hok:dI P f=true)(h:r9 ti ts args tys fun args'=>aD P f args' r)(hp:ze r=true):bD P f args ts r ts:=by
 refine⟨hok,fun cx β w fr vs hI hd=> ?_⟩
 haveI:=cx.Eh hI
 obtain⟨l',h1,h2⟩:=lF hti hI h hd;refine(h1.2 (Cx.now w) β w [] vs (Inv.uS w) h2).mono ?_;rintro e w' ⟨v,rfl,h3,h4⟩;exact⟨v,β,rfl,fun _ _ _=>rfl,wX hp h3,hI.ext h4.zO⟩
mutual
theorem AA{cx':Cx}:∀{s:SV} {v:Value},wR s=true->Den cx β s v->Den cx' β s v
 | .rsl _ _,v,hp,h| .rp _ _,v,hp,h| .gd _ _ _,v,hp,h| .nn _ _,v,hp,h=>by simp[wR]at hp
 | .int _ _,v,hp,h| .bool _,v,hp,h| .raw _,v,hp,h| .ptr _ _,v,hp,h| .sl _,v,hp,h| .ep _ _ _ _,v,hp,h| .un,v,hp,h| .nh _ _ _ _,v,hp,h| .np _ _ _ _ _ _ _,v,hp,h| .mp _,v,hp,h| .sx _ _ _ _,v,hp,h=>by unfold Den at h |-;exact h
 | .agg l,v,hp,h=>by
  unfold wR at hp;unfold Den at h |-;obtain⟨us,e,h1⟩:=h;exact⟨us,e,jy hp h1⟩
 | .tup l,v,hp,h=>by
  unfold wR at hp;unfold Den at h |-;obtain⟨us,e,h1⟩:=h;exact⟨us,e,jy hp h1⟩
 | .fn f l,v,hp,h=>by
  unfold wR at hp;unfold Den at h |-;obtain⟨us,e,h1⟩:=h;exact⟨us,e,jy hp h1⟩
theorem jy{cx':Cx}:∀{l:List SV} {us:aO},om l=true->ah cx β l us->ah cx' β l us
 |[],us,_,h=>by unfold ah at h |-;exact h
 |s::l,us,hp,h=>by
  unfold ah at h |-;obtain⟨v,vs',h1,h2,h3⟩:=h;unfold om at hp;rw[qD]at hp;exact⟨v,vs',h1,AA hp.1 h2,jy hp.2 h3⟩
end
end
end Go.Tr
namespace Go.Tr
open Go Go.RowKit
universe u
section
variable {P:Program}{ti:TI}
end
end Go.Tr
namespace Go.Tr
open Go Go.RowKit
universe u
section
variable {P:Program}{ti:TI}
end
end Go.Tr
namespace Go.Tr
open Go Go.RowKit
universe u
section
variable {P:Program}
theorem Ca{cx:Cx}{β:Nat->Value}{b:Bool}{v':Value}(h:Den cx β (.bool b) v'):v'=.bool b:=by unfold Den at h;exact h
end
end Go.Tr
namespace Go.Tr
open Go Go.RowKit
end Go.Tr
