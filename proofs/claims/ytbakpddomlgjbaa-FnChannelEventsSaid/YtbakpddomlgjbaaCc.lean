
/- Channels: whether a channel is valid; the program's ValidChannel, the reference's. -/
import Derived.Test.YtbakpddomlgjbaaCb
set_option linter.unusedSimpArgs false
set_option linter.unusedVariables false
namespace Go.Proofs.Ytbakpddomlgjbaa
open Go Go.RowKit Go.Proofs Go.Tr
section
variable {ms:List ByteArray}{s:eB}
theorem jO{i:Nat}(hi:i<s.ks.length):elt (dflt aK) (s.ks.map (bV ms)) ((i:Nat):Int)=bV ms s.ks[i]:=by
 unfold elt;rw[qC,qK,qY,qB hi];rfl
theorem uY{i:Nat}(hi:i<s.fl.length):elt (dflt aK) (s.fl.map (bC ms)) ((i:Nat):Int)=bC ms s.fl[i]:=by
 unfold elt;rw[qC,qK,qY,qB hi];rfl
def nM(s:eB)(i:Nat):Nat:=match i with|0=>s.e|i+1=>s.ks.getD i 0
theorem Au(h:aW ms s){i:Nat}(hi:i<s.ks.length):nM s i<s.ks[i]:=by
 unfold nM;split
 .exact(h.ks2 _ (List.getElem_mem hi)).1
 .rename_i i;rw[qC,qB (by omega)];exact List.pairwise_iff_getElem.1 h.ks1 i (i+1) (by omega) hi (by omega)
theorem O9(h:aW ms s){i:Nat}(hi:i<s.ks.length):s.e+i<s.ks[i]:=by
 induction i with
 |zero=>exact(h.ks2 _ (List.getElem_mem hi)).1
 |succ i ih=>
  have h1:=ih (by omega);have h2:=List.pairwise_iff_getElem.1 h.ks1 i (i+1) (by omega) hi (by omega);omega
theorem jP(h:aW ms s):s.ks.length<=30:=by
 rcases Nat.eq_zero_or_pos s.ks.length with h0|h0
 .omega
 .have h1:=O9 h (i:=s.ks.length-1) (by omega);have h2:=(h.ks2 _ (List.getElem_mem (l:=s.ks) (n:=s.ks.length-1) (by omega))).2;have h3:=h.nm;have h4:=h.m30;omega
theorem ES(x:SV):wW x x:=by
 cases x<;>first|exact⟨rfl,rfl⟩|exact rfl
theorem ah:∀{l:List SV},tC l l
 |[]=>trivial
 |x::l=>aI (ES x) ah
abbrev Er(c:w9):List SV:=[.int .i64 c.1,.rsl .str c.2.1,.int .i64 c.2.2.1,.int .i64 c.2.2.2.1,.int .i64 c.2.2.2.2.1,.rsl aK c.2.2.2.2.2.1,.rsl .str c.2.2.2.2.2.2.1,.rsl aK c.2.2.2.2.2.2.2]
theorem vpE(h:aW ms s){i:Nat}(hi:i<s.ks.length):aB Try.prog 34 [.rp eZ (toN ms s),I8 (elt (dflt aK) (s.ks.map (bV ms)) ((i:Nat):Int))] (.bool true):=by
 rw[jO hi];exact Uv h.nm h.m30 (false,s.ks[i]) ⟨fun q=>(by cases q),fun _=>(h.ks2 _ (List.getElem_mem hi)).2⟩
set_option maxRecDepth 100000 in
theorem mG(h:aW ms s):aB Try.prog 11 [yt (toN ms s)] (.bool true):=by
 have h1:=h.be;have h2:=h.en;have h3:=h.nm;have h4:=h.nw;have h5:=h.m30;have h6:=h.w8;have h7:=h.w1;have h8:=h.fl60;refine aB.intro (nt:=74) aC mixed (by kernel_rfl) Try.func11 rfl rfl rfl rfl rfl ?_;refine oZ (fun _=>Rz ms (by omega) _ fun i hi=>Tg _ (h.m40 _ ?_)) ?_
 .unfold elt;rw[qC,qK,qB hi];exact List.getElem_mem hi
 refine aI (fun q=> ?_) (fun _=> ?_)
 .exfalso;have q2:(bif (bif (bif decide (((s.w:Nat):Int)<1)then true else decide ((8:Int)<(s.w:Nat)))then true else decide ((30:Int)<(ms.length:Nat)))then true else false)=true:=q;rw[decide_eq_false (by omega),decide_eq_false (by omega),decide_eq_false (by omega)]at q2;cases q2
 refine Or.inl (Or.inl (eI _ (eI _ (aI (au.mo aC [55] DL (MF h) rfl) (eI [] (aI rfl ?_))))));refine aI (fun _=> ?_) (fun q=>by cases q);refine aI ⟨Int.natCast_nonneg _,by show((s.e:Nat):Int)<=(ms.length:Nat);omega⟩ ?_;refine oZ (fun _=>RJ (ms.take s.e) (by rw[List.length_take];omega)) ?_;refine aI (by kernel_rfl) ?_;refine aI (fun q=> ?_) (fun _=> ?_)
 .exfalso;have q2:(bif (bif (!true)then true else !true)then true else decide ((60:Int)<((s.fl.map (bC ms)).length:Nat)))=true:=q;rw[qV,decide_eq_false (by omega)]at q2;cases q2
 have hkl:(s.ks.map (bV ms)).length=s.ks.length:=qV _;have hk30:s.ks.length<=30:=jP h;refine lp Nat (fun i=>[(49,.int .i64 (i:Nat)),(3,.int .i64 (nM s i:Nat))]) (fun _=>[.bQ 1 27 (Er (toN ms s))]) (fun i=>s.ks.length-i) (fun i=>i<=s.ks.length) 0 (Nat.zero_le _) ?_ ?_
 .exact Go.Tr.hd [] rfl (aI (aI rfl rfl) (aI (aI rfl rfl) trivial)) (aI trivial (aI ah trivial))
 intro i hi;refine aI (fun q1=> ?_) (fun q1=> ?_)
 .have hlt:i<s.ks.length:=by have:i<(s.ks.map (bV ms)).length:=sQ q1;omega
  have he:=jO (ms:=ms) hlt;have hl:=Au h hlt;have hi3:(0:Int)<=((i:Nat):Int)/\((i:Nat):Int)<((s.ks.map (bV ms)).length:Nat):=⟨by omega,by omega⟩;refine aI hi3 ?_;refine Or.inr (aI (fun _=>eI _ (eI _ (aI (au.mo aC [55,0] Pw (vpE h hlt) rfl) ?_))) (fun q=> ?_))
  .refine aI (fun q=> ?_) (fun _=> ?_)
   .exfalso;have q2:(bif (bif (elt (dflt aK) (s.ks.map (bV ms)) ((i:Nat):Int)).1 then true else decide ((elt (dflt aK) (s.ks.map (bV ms)) ((i:Nat):Int)).2.1<=((nM s i:Nat):Int)))then true else !true)=true:=q;rw[he]at q2;have q3:(bif decide (((s.ks[i]:Nat):Int)<=((nM s i:Nat):Int))then true else false)=true:=q2;rw[decide_eq_false (by omega)]at q3;cases q3
   refine aF (i+1) hlt ?_ (by show s.ks.length-(i+1)<s.ks.length-i;omega);refine Go.Tr.hd [] rfl (aI (aI (iM (by omega)) rfl) (aI (aI ?_ rfl) trivial)) (aI trivial (aI ah trivial));show(elt (dflt aK) (s.ks.map (bV ms)) ((i:Nat):Int)).2.1=((s.ks.getD i 0:Nat):Int);rw[he,qC,qB hlt];rfl
  .exfalso;have q2:(!(bif (elt (dflt aK) (s.ks.map (bV ms)) ((i:Nat):Int)).1 then true else decide ((elt (dflt aK) (s.ks.map (bV ms)) ((i:Nat):Int)).2.1<=((nM s i:Nat):Int))))=false:=q;rw[he]at q2;have q3:(!decide (((s.ks[i]:Nat):Int)<=((nM s i:Nat):Int)))=false:=q2;rw[decide_eq_false (by omega)]at q3;cases q3
 .refine oY (au.mo aC [25,0] zn (Oy h) rfl) ?_;exact rfl
end
end Go.Proofs.Ytbakpddomlgjbaa
