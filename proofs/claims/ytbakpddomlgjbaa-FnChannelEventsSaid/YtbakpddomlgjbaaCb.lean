
/- Channels: whether a channel is valid; the program. -/
import Derived.Test.YtbakpddomlgjbaaCa
set_option linter.unusedSimpArgs false
set_option linter.unusedVariables false
namespace Go.Proofs.Ytbakpddomlgjbaa
open Go Go.RowKit Go.Proofs Go.Tr
theorem DL:aU Try.prog 32=true:=by kernel_rfl
theorem G8:aU Try.prog 64=true:=by kernel_rfl
theorem zn:aU Try.prog 35=true:=by kernel_rfl
theorem Tg(m:ByteArray)(h:m.size<=40):aB Try.prog 31 [.raw (.string m)] (.bool false):=by
 refine aB.intro (nt:=6) aC mixed (by kernel_rfl) Try.func31 rfl rfl rfl rfl rfl ?_;show decide ((40:Int)<(m.size:Nat))=false;exact decide_eq_false (by omega)
theorem R7(m:List ByteArray)(hl:m.length<=1000000)(f:Nat)(hf:∀i:Nat,i<m.length->aB Try.prog f [.raw (.string (elt (dflt .str) m ((i:Nat):Int)))] (.bool false)):aB Try.prog 63 [.rsl .str m,.fn f []] (.int .i64 (-1)):=by
 refine aB.intro (nt:=19) aC mixed (by kernel_rfl) Try.func63 rfl rfl rfl rfl rfl ?_;refine lp Nat (fun i=>[(8,.int .i64 (i:Nat))]) (fun _=>[]) (fun i=>m.length-i) (fun i=>i<=m.length) 0 (Nat.zero_le _) ?_ ?_
 .exact Go.Tr.hd [] rfl (aI (aI rfl rfl) trivial) trivial
 intro i hi;refine aI (fun q1=> ?_) (fun q1=> ?_)
 .have hlt:i<m.length:=sQ q1;have hi3:(0:Int)<=((i:Nat):Int)/\((i:Nat):Int)<(m.length:Nat):=⟨by omega,by omega⟩;refine aI hi3 ?_;refine oZ (hf i hlt) ?_;refine aI (fun q2=>by cases q2) (fun _=> ?_);refine aF (i+1) hlt ?_ (by show m.length-(i+1)<m.length-i;omega);exact Go.Tr.hd [] rfl (aI (aI (iM (by omega)) rfl) trivial) trivial
 .exact⟨rfl,rfl⟩
theorem Rz(m:List ByteArray)(hl:m.length<=1000000)(f:Nat)(hf:∀i:Nat,i<m.length->aB Try.prog f [.raw (.string (elt (dflt .str) m ((i:Nat):Int)))] (.bool false)):aB Try.prog 30 [.rsl .str m,.fn f []] (.bool false):=by
 refine aB.intro (nt:=9) aC mixed (by kernel_rfl) Try.func30 rfl rfl rfl rfl rfl ?_;refine oZ (R7 m hl f hf) ?_;exact rfl
theorem R6(m:List fF)(hl:m.length<=1000000)(f:Nat)(l:List SV)(c:w9)(hL:l=[.rp eZ c])(hf:∀i:Nat,i<m.length->aB Try.prog f [I8 (elt (dflt aK) m ((i:Nat):Int)),.rp eZ c] (.bool false)):aB Try.prog 64 [.rsl aK m,.fn f [.rp eZ c]] (.int .i64 (-1)):=by
 refine aB.intro (nt:=19) aC mixed G8 Try.func64 rfl rfl rfl rfl rfl ?_;refine lp Nat (fun i=>[(8,.int .i64 (i:Nat))]) (fun _=>[]) (fun i=>m.length-i) (fun i=>i<=m.length) 0 (Nat.zero_le _) ?_ ?_
 .exact Go.Tr.hd [] rfl (aI (aI rfl rfl) trivial) trivial
 intro i hi;refine aI (fun q1=> ?_) (fun q1=> ?_)
 .have hlt:i<m.length:=sQ q1;have hi3:(0:Int)<=((i:Nat):Int)/\((i:Nat):Int)<(m.length:Nat):=⟨by omega,by omega⟩;refine aI hi3 ?_;refine oZ (hf i hlt) ?_;refine aI (fun q2=>by cases q2) (fun _=> ?_);refine aF (i+1) hlt ?_ (by show m.length-(i+1)<m.length-i;omega);exact Go.Tr.hd [] rfl (aI (aI (iM (by omega)) rfl) trivial) trivial
 .exact⟨rfl,rfl⟩
theorem Ry(m:List fF)(hl:m.length<=1000000)(f:Nat)(c:w9)(hf:∀i:Nat,i<m.length->aB Try.prog f [I8 (elt (dflt aK) m ((i:Nat):Int)),.rp eZ c] (.bool false)):aB Try.prog 35 [.rsl aK m,.fn f [.rp eZ c]] (.bool false):=by
 refine aB.intro (nt:=9) aC mixed zn Try.func35 rfl rfl rfl rfl rfl ?_;refine oZ (R6 m hl f _ c rfl hf) ?_;exact rfl
set_option maxRecDepth 100000 in
theorem RJ(m:List ByteArray)(hl:m.length<=1000000):aB Try.prog 33 [.rsl .str m,.rsl .str m] (.bool true):=by
 refine aB.intro (nt:=26) aC mixed (by kernel_rfl) Try.func33 rfl rfl rfl rfl rfl ?_;refine aI (fun q=> ?_) (fun _=> ?_)
 .exfalso;have q2:(((m.length:Nat):Int) !=((m.length:Nat):Int))=true:=q;simp at q2
 refine lp Nat (fun i=>[(13,.int .i64 (i:Nat))]) (fun _=>[]) (fun i=>m.length-i) (fun i=>i<=m.length) 0 (Nat.zero_le _) ?_ ?_
 .exact Go.Tr.hd [] rfl (aI (aI rfl rfl) trivial) trivial
 intro i hi;refine aI (fun q1=> ?_) (fun q1=> ?_)
 .have hlt:i<m.length:=sQ q1;have hi3:(0:Int)<=((i:Nat):Int)/\((i:Nat):Int)<(m.length:Nat):=⟨by omega,by omega⟩;refine aI hi3 ?_;refine aI hi3 ?_;refine aI (by kernel_rfl) ?_;refine aI (fun q2=> ?_) (fun _=> ?_)
  .exfalso;have q3:(!decide (elt (dflt .str) m ((i:Nat):Int)=elt (dflt .str) m ((i:Nat):Int)))=true:=q2;simp at q3
  refine aF (i+1) hlt ?_ (by show m.length-(i+1)<m.length-i;omega);exact Go.Tr.hd [] rfl (aI (aI (iM (by omega)) rfl) trivial) trivial
 .exact rfl
section
variable {ms:List ByteArray}{s:eB}
theorem Ti(hm:s.n<=ms.length)(h30:ms.length<=30)(p:Bool×Nat)(hp:Bq s p):aB Try.prog 36 [I8 (bC ms p),.rp eZ (toN ms s)] (.bool false):=by
 refine aB.intro (nt:=7) aC mixed (by kernel_rfl) Try.func36 rfl rfl rfl rfl rfl ?_;refine oZ (Uv hm h30 p hp) ?_;exact rfl
theorem Oy(h:aW ms s):aB Try.prog 35 [.rsl aK (s.fl.map (bC ms)),.fn 36 [.rp eZ (toN ms s)]] (.bool false):=by
 refine Ry _ (by rw[qV];have:=h.fl60;omega) _ _ fun i hi=> ?_
 rw[qV]at hi
 have e:elt (dflt aK) (s.fl.map (bC ms)) ((i:Nat):Int)=bC ms s.fl[i]:=by
  unfold elt;rw[qC,qK,qY,qB hi];rfl
 rw[e];exact Ti h.nm h.m30 _ (h.flk _ (List.getElem_mem hi))
set_option maxRecDepth 100000 in
theorem MF(h:aW ms s):aB Try.prog 32 [.rp eZ (toN ms s)] (.bool true):=by
 have h1:=h.be;have h2:=h.en;have h3:=h.nm;have h4:=h.nw;have h5:=h.m30;have h6:=h.w8;refine aB.intro (nt:=58) aC mixed DL Try.func32 rfl rfl rfl rfl rfl ?_;refine aI (by kernel_rfl) ?_;show(bif (bif (bif (bif decide ((0:Int)<=(s.b:Nat))then decide (((s.b:Nat):Int)<=(s.e:Nat))else false)then decide (((s.e:Nat):Int)<=(s.n:Nat))else false)then decide (((s.n:Nat):Int)<=(ms.length:Nat))else false)then decide (IntKind.i64.wrap (((s.n:Nat):Int)-((s.b:Nat):Int))<=(s.w:Nat))else false)=true;rw[oJ (by omega),decide_eq_true (by omega),decide_eq_true (by omega),decide_eq_true (by omega),decide_eq_true (by omega),decide_eq_true (by omega)]
 rfl
end
end Go.Proofs.Ytbakpddomlgjbaa
