
/- Channels: the reference lets an event happen. -/
import Derived.Test.YtbakpddomlgjbaaCm
set_option linter.unusedSimpArgs false
set_option linter.unusedVariables false
namespace Go.Proofs.Ytbakpddomlgjbaa
open Go Go.RowKit Go.Proofs Go.Tr
section
variable {ms:List ByteArray}{s:eB}
set_option maxRecDepth 100000 in
set_option maxHeartbeats 4000000 in
theorem xB(h:aW ms s){ev:fE}(he:wH ms.length s ev):au Try.prog 45 [.ptr 10000 0,.agg [.int .i64 ev.1,.int .i64 ev.2]] (tS 10002 10003 10004 ms s) (.tup []) (tS 10005 10006 10007 ms (bJ s ev)):=by
 have h1:=h.be;have h2:=h.en;have h3:=h.nm;have h4:=h.nw;have h5:=h.m30;have h6:=h.w8;have h8:=h.fl60;have hfl:(s.fl.map (bC ms)).length=s.fl.length:=qV _;refine au.intro (nt:=100) aC mixed (by kernel_rfl) Try.func45 rfl rfl rfl rfl rfl rfl ?_;cases he with
 |send g1 g2 g3=>
  refine aI (fun _=> ?_) (fun q=>absurd (show((1:Int)==1)=false from q) (by decide));refine oY (PE s.n g1 (by omega)) ?_;refine fin [(10005,10002),(10006,10003),(10007,14)] (aI rfl ?_);exact⟨trivial,⟨⟨rfl,rfl⟩,rfl,⟨rfl,rfl⟩,⟨iM (k:=s.n) (by omega),rfl⟩,⟨rfl,rfl⟩,rfl,rfl,rfl,trivial⟩,⟨rfl,nP⟩,⟨rfl,nP⟩,⟨rfl,nP⟩,⟨rfl,nP⟩,trivial⟩
 |resend k g1 g3=>
  have e:bJ s (2,((k:Nat):Int))={ s with fl:=s.fl++[(false,s.b+k)]}:=by unfold bJ;simp
  rw[e];have hw:IntKind.i64.wrap (((s.b:Nat):Int)+((k:Nat):Int))=((s.b+k:Nat):Int):=by rw[oJ (by omega)];omega
  have hsend:au Try.prog 68 [.ptr 10000 0,.int .i64 (IntKind.i64.wrap (((s.b:Nat):Int)+((k:Nat):Int)))] (tS 10002 10003 10004 ms s) (.tup []) (tS 10002 10003 10005 ms { s with fl:=s.fl++[(false,s.b+k)]}):=by
   rw[hw];exact PE (s.b+k) (by omega) (by omega)
  refine aI (fun q=>absurd (show((2:Int)==1)=true from q) (by decide)) (fun _=> ?_);refine aI (fun _=> ?_) (fun q=>absurd (show((2:Int)==2)=false from q) (by decide));refine oY hsend ?_;refine aI (by kernel_rfl) ?_;refine fin [(10005,10002),(10006,10003),(10007,32)] (aI rfl ?_);exact⟨trivial,ah,⟨rfl,nP⟩,⟨rfl,nP⟩,⟨rfl,nP⟩,⟨rfl,nP⟩,trivial⟩
 |copy i g1 g3=>
  have e:bJ s (5,((i:Nat):Int))={ s with fl:=s.fl++[s.fl[i]]}:=by unfold bJ;simp[ng g1]
  rw[e];refine aI (fun q=>absurd (show((5:Int)==1)=true from q) (by decide)) (fun _=> ?_);refine aI (fun q=>absurd (show((5:Int)==2)=true from q) (by decide)) (fun _=> ?_);refine aI (fun _=> ?_) (fun q=>absurd (show((5:Int)==5)=false from q) (by decide));refine aI (by show(0:Int)<=((i:Nat):Int)/\((i:Nat):Int)<((s.fl.map (bC ms)).length:Nat);omega) ?_;refine aI (by show(s.fl.map (bC ms)).length+1<=1073741824;omega) ?_;refine aI (by kernel_rfl) ?_;refine fin [(10005,10002),(10006,10003),(10007,49)] (aI rfl ?_);refine⟨trivial,ah,⟨rfl,nP⟩,⟨rfl,nP⟩,⟨rfl,nP⟩,⟨?_,nP⟩,trivial⟩
  show s.fl.map (bC ms)++[((elt (dflt aK) (s.fl.map (bC ms)) ((i:Nat):Int)).1,(elt (dflt aK) (s.fl.map (bC ms)) ((i:Nat):Int)).2.1,(elt (dflt aK) (s.fl.map (bC ms)) ((i:Nat):Int)).2.2)]=(s.fl++[s.fl[i]]).map (bC ms);rw[qZ,uY g1];rfl
 |arrive i g1=>
  have e:bJ s (3,((i:Nat):Int))=arr { s with fl:=s.fl.take i++s.fl.drop (i+1)} s.fl[i]:=by unfold bJ;simp[ng g1]
  rw[e];have hcut:=h.cut g1;have hpk:=h.flk _ (List.getElem_mem g1);have hel:=uY (ms:=ms) g1;obtain⟨p,hp⟩:∃p,p=s.fl[i]:=⟨_,rfl⟩;rw[<-hp]at hpk hel |-;have hw:IntKind.i64.wrap (((i:Nat):Int)+1)=((i+1:Nat):Int):=iM (by omega);refine aI (fun q=>absurd (show((3:Int)==1)=true from q) (by decide)) (fun _=> ?_);refine aI (fun q=>absurd (show((3:Int)==2)=true from q) (by decide)) (fun _=> ?_);refine aI (fun q=>absurd (show((3:Int)==5)=true from q) (by decide)) (fun _=> ?_);refine aI (by show(0:Int)<=((i:Nat):Int)/\((i:Nat):Int)<((s.fl.map (bC ms)).length:Nat);omega) ?_
  refine aI (by kernel_rfl) ?_;refine Or.inl (Or.inr (aI ⟨by show(0:Int)<=((i:Nat):Int);omega,by show((i:Nat):Int)<=((s.fl.map (bC ms)).length:Nat);omega,by show 0<(s.fl.map (bC ms)).length;omega⟩ ?_));refine aI rfl ?_;refine Or.inl (eI [61] (aI ⟨by show 0+(((i:Nat):Int)).toNat<=(s.fl.map (bC ms)).length;omega,by show 0+(((i:Nat):Int)).toNat<=1073741824;omega⟩ (eI [_] (aI rfl ?_))));refine aI ⟨by show(0:Int)<=IntKind.i64.wrap (((i:Nat):Int)+1);omega,by show IntKind.i64.wrap (((i:Nat):Int)+1)<=((s.fl.map (bC ms)).length:Nat);omega,by show 0<(s.fl.map (bC ms)).length;omega⟩ ?_
  have hL:(([]:List fF)++((s.fl.map (bC ms)).drop 0).take (((i:Nat):Int)).toNat)++((s.fl.map (bC ms)).drop (IntKind.i64.wrap (((i:Nat):Int)+1)).toNat).take ((s.fl.map (bC ms)).length-(IntKind.i64.wrap (((i:Nat):Int)+1)).toNat)=(s.fl.take i++s.fl.drop (i+1)).map (bC ms):=by
   rw[hw,qK,qK,List.drop_zero,List.nil_append,qN (l:=(s.fl.map (bC ms)).drop (i+1)) (by rw[List.length_drop];exact Nat.le_refl _),tY]
  refine Or.inl (eI [69] (aI ⟨by show(IntKind.i64.wrap (((i:Nat):Int)+1)).toNat+((s.fl.map (bC ms)).length-(IntKind.i64.wrap (((i:Nat):Int)+1)).toNat)<=(s.fl.map (bC ms)).length;omega,by show(([]:List fF)++((s.fl.map (bC ms)).drop 0).take (((i:Nat):Int)).toNat).length+((s.fl.map (bC ms)).length-(IntKind.i64.wrap (((i:Nat):Int)+1)).toNat)<=1073741824;rw[List.nil_append,List.length_take,List.drop_zero];omega⟩ (eI [_] (aI rfl ?_))));refine aI (by kernel_rfl) ?_;refine aI (fun q=>absurd (show((3:Int)==4)=true from q) (by decide)) (fun _=> ?_)
  obtain⟨a,k⟩:=p;cases a with
  |true=>
   refine aI (fun q=> ?_) (fun _=> ?_)
   .exfalso;have q':(!(elt (dflt aK) (s.fl.map (bC ms)) ((i:Nat):Int)).1)=true:=q;rw[hel]at q';cases q'
   refine oZ (Sg _ _) ?_;refine aI (by kernel_rfl) ?_;refine fin [(10005,10002),(10006,10003),(10007,78)] (aI rfl ?_);refine⟨trivial,⟨⟨rfl,rfl⟩,rfl,⟨?_,rfl⟩,⟨rfl,rfl⟩,⟨rfl,rfl⟩,rfl,rfl,rfl,trivial⟩,⟨rfl,nP⟩,⟨rfl,nP⟩,⟨rfl,nP⟩,⟨hL,nP⟩,trivial⟩;show max ((s.b:Nat):Int) (elt (dflt aK) (s.fl.map (bC ms)) ((i:Nat):Int)).2.1=((max s.b k:Nat):Int);rw[hel];show max ((s.b:Nat):Int) ((k:Nat):Int)=((max s.b k:Nat):Int);omega
  |false=>
   have hkn:k<s.n:=hpk.2 rfl;refine aI (fun _=> ?_) (fun q=> ?_)
   rotate_left
   .exfalso;have q':(!(elt (dflt aK) (s.fl.map (bC ms)) ((i:Nat):Int)).1)=false:=q;rw[hel]at q';cases q'
   have hrcv:au Try.prog 69 [.ptr 10000 0,I8 (elt (dflt aK) (s.fl.map (bC ms)) ((i:Nat):Int))] [.bQ 10000 27 (oO 10001 10002 10003 10004 ms s),rT 10001 ms,rP 10002 (s.ks.map (bV ms)),rT 10003 (ms.take s.e),rP 10004 ((([]:List fF)++((s.fl.map (bC ms)).drop 0).take (((i:Nat):Int)).toNat)++((s.fl.map (bC ms)).drop (IntKind.i64.wrap (((i:Nat):Int)+1)).toNat).take ((s.fl.map (bC ms)).length-(IntKind.i64.wrap (((i:Nat):Int)+1)).toNat))] (.tup []) (tS 10005 10006 10007 ms (rcv { s with fl:=s.fl.take i++s.fl.drop (i+1)} k)):=by
    rw[hL,hel];exact SB hcut k hkn
   refine oY hrcv ?_;refine fin [(10005,89),(10006,1000089),(10007,2000089)] (aI rfl ?_);exact⟨trivial,ah,⟨rfl,nP⟩,⟨rfl,nP⟩,⟨rfl,nP⟩,⟨rfl,nP⟩,trivial⟩
 |lose i g1=>
  have e:bJ s (4,((i:Nat):Int))={ s with fl:=s.fl.take i++s.fl.drop (i+1)}:=by unfold bJ;simp
  rw[e];have hw:IntKind.i64.wrap (((i:Nat):Int)+1)=((i+1:Nat):Int):=iM (by omega);refine aI (fun q=>absurd (show((4:Int)==1)=true from q) (by decide)) (fun _=> ?_);refine aI (fun q=>absurd (show((4:Int)==2)=true from q) (by decide)) (fun _=> ?_);refine aI (fun q=>absurd (show((4:Int)==5)=true from q) (by decide)) (fun _=> ?_);refine aI (by show(0:Int)<=((i:Nat):Int)/\((i:Nat):Int)<((s.fl.map (bC ms)).length:Nat);omega) ?_;refine aI (by kernel_rfl) ?_;refine Or.inl (Or.inr (aI ⟨by show(0:Int)<=((i:Nat):Int);omega,by show((i:Nat):Int)<=((s.fl.map (bC ms)).length:Nat);omega,by show 0<(s.fl.map (bC ms)).length;omega⟩ ?_))
  refine aI rfl ?_;refine Or.inl (eI [61] (aI ⟨by show 0+(((i:Nat):Int)).toNat<=(s.fl.map (bC ms)).length;omega,by show 0+(((i:Nat):Int)).toNat<=1073741824;omega⟩ (eI [_] (aI rfl ?_))));refine aI ⟨by show(0:Int)<=IntKind.i64.wrap (((i:Nat):Int)+1);omega,by show IntKind.i64.wrap (((i:Nat):Int)+1)<=((s.fl.map (bC ms)).length:Nat);omega,by show 0<(s.fl.map (bC ms)).length;omega⟩ ?_
  have hL:(([]:List fF)++((s.fl.map (bC ms)).drop 0).take (((i:Nat):Int)).toNat)++((s.fl.map (bC ms)).drop (IntKind.i64.wrap (((i:Nat):Int)+1)).toNat).take ((s.fl.map (bC ms)).length-(IntKind.i64.wrap (((i:Nat):Int)+1)).toNat)=(s.fl.take i++s.fl.drop (i+1)).map (bC ms):=by
   rw[hw,qK,qK,List.drop_zero,List.nil_append,qN (l:=(s.fl.map (bC ms)).drop (i+1)) (by rw[List.length_drop];exact Nat.le_refl _),tY]
  refine Or.inl (eI [69] (aI ⟨by show(IntKind.i64.wrap (((i:Nat):Int)+1)).toNat+((s.fl.map (bC ms)).length-(IntKind.i64.wrap (((i:Nat):Int)+1)).toNat)<=(s.fl.map (bC ms)).length;omega,by show(([]:List fF)++((s.fl.map (bC ms)).drop 0).take (((i:Nat):Int)).toNat).length+((s.fl.map (bC ms)).length-(IntKind.i64.wrap (((i:Nat):Int)+1)).toNat)<=1073741824;rw[List.nil_append,List.length_take,List.drop_zero];omega⟩ (eI [_] (aI rfl ?_))));refine aI (by kernel_rfl) ?_;refine aI (fun _=> ?_) (fun q=>absurd (show((4:Int)==4)=false from q) (by decide))
  refine fin [(10005,10002),(10006,10003),(10007,78)] (aI rfl ?_);exact⟨trivial,ah,⟨rfl,nP⟩,⟨rfl,nP⟩,⟨rfl,nP⟩,⟨hL,nP⟩,trivial⟩
end
end Go.Proofs.Ytbakpddomlgjbaa
