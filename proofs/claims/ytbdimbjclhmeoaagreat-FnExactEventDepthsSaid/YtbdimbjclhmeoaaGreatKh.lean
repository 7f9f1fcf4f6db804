
/- StandardTrace and EventDepths: the reference. -/
import Derived.Test.YtbdimbjclhmeoaaGreatKl
set_option maxRecDepth 100000
set_option linter.unusedSimpArgs false
set_option linter.unusedVariables false
namespace Go.Proofs.YtbdimbjclhmeoaaGreat
open Go Go.RowKit Go.Proofs Go.Tr
theorem Zbn:bH Tryz.prog 32=true:=by kernel_rfl
section
variable (bk:iQ)(xs:aS)(es:List aB)
theorem Zca{c:Int}(h:Ym bk xs es c):aA Tryz.prog 61 [.rsl aZ bk,.ptr 10000 0,.rsl aV es] [.dL 10000 37 [.rsl aD xs]] (.tup [.raw (.slice none 0 0),.raw (.slice none 0 0),.raw (.slice none 0 0),.int .i64 c]) [.dL 10000 37 [.rsl aD xs]]:=
 aA.Ey (ts2:=[]) aG [0,64,0] Zbx h rfl rfl rfl
theorem Zco{out:List aB}{fa fb:List Int}(h:ZaF bk xs es out fa fb):aA Tryz.prog 61 [.rsl aZ bk,.ptr 10000 0,.rsl aV es] [.dL 10000 37 [.rsl aD xs]] (.tup [.sl 10001,.sl 10002,.sl 10003,.int .i64 0])
  [.row 10001 67 5 aV out [],.row 10002 2 1 (.int .i64) fa [],.row 10003 2 1 (.int .i64) fb [],.dL 10000 37 [.rsl aD xs]]:=
 aA.Ey (ts2:=[.row 10001 67 5 aV out [],.row 10002 2 1 (.int .i64) fa [],.row 10003 2 1 (.int .i64) fb []]) aG [0,64,0] Zbx h rfl rfl rfl
abbrev IY:List SV:=[.rsl aZ bk,.agg [.rsl aD xs],.rsl aV es]
theorem Zci{c:Int}(hc:c≠0)(h:SBd bk xs es c):aA Tryz.prog 32 (IY bk xs es) [] (.tup [.raw (.slice none 0 0),.int .i64 c]) []:=by
 refine aA.intro (nt:=55) aG mixed Zbn Tryz.func32 rfl rfl rfl rfl rfl rfl ?_;refine oY (Zcg bk xs h) ?_;refine aI (fun q=> ?_) (fun q=> ?_)
 .exact fin [] (aI rfl trivial)
 .exfalso;have q2:(c !=0)=false:=q;simp at q2;exact hc q2
theorem Zcj{c:Int}(hc:c≠0){g:aS}(h0:SGd bk xs es g)(h:Ym bk xs es c):aA Tryz.prog 32 (IY bk xs es) [] (.tup [.raw (.slice none 0 0),.int .i64 c]) []:=by
 refine aA.intro (nt:=55) aG mixed Zbn Tryz.func32 rfl rfl rfl rfl rfl rfl ?_;refine oY (Zb5 bk xs h0) ?_;refine aI (fun q=>by cases q) (fun q=> ?_);refine oY (Zca bk xs es h) ?_;refine aI (fun q=> ?_) (fun q=> ?_)
 .exact fin [] (aI rfl trivial)
 .exfalso;have q2:(c !=0)=false:=q;simp at q2;exact hc q2
theorem ZbM(n:Nat)(l:List (Int×Int))(p:Int×Int):U6 n (l++[p])=(U6 n l).set p.1.toNat p.2:=by
 unfold U6;rw[List.foldl_append];rfl
theorem Zck{out:List aB}{fr:List (Int×Int)}{g:aS}(hl:es.length<=300)(hfl:fr.length<=1000)(hr:∀p∈fr,0<=p.1/\p.1<(es.length:Nat))(h0:SGd bk xs es g)(h:ZaF bk xs es out (fr.map fun p:Int×Int=>p.1) (fr.map fun p:Int×Int=>p.2)):aA Tryz.prog 32 (IY bk xs es) [] (.tup [.sl 10000,.int .i64 0]) [.row 10000 2 1 (.int .i64) (U6 es.length fr) []]:=by
 refine aA.intro (nt:=55) aG mixed Zbn Tryz.func32 rfl rfl rfl rfl rfl rfl ?_;refine oY (Zb5 bk xs h0) ?_;refine aI (fun q=>by cases q) (fun q=> ?_);refine oY (Zco bk xs es h) ?_;refine aI (fun q=>by cases q) (fun q=> ?_);refine aI (show 0<=((es.length:Nat):Int)/\((es.length:Nat):Int)<=((es.length:Nat):Int)/\((es.length:Nat):Int)<=2097152 by omega) ?_;refine lp Nat (fun i=>[(14,.int .i64 (i:Nat))]) (fun i=>[.row 1000027 2 1 (.int .i64) (fr.map fun p:Int×Int=>p.1) [],.row 2000027 2 1 (.int .i64) (fr.map fun p:Int×Int=>p.2) [],.row 37 2 1 (.int .i64) (U6 es.length (fr.take i)) []]) (fun i=>fr.length-i) (fun i=>i<=fr.length) 0 (Nat.zero_le _) ?_ ?_
 .exact hd [] rfl (aI (aI rfl rfl) trivial) ⟨⟨rfl,nP⟩,⟨rfl,nP⟩,⟨rfl,nP⟩,trivial⟩
 intro i hi;have hi':i<=fr.length:=hi;refine aI (fun q1=> ?_) (fun q1=> ?_)
 .have hlt:i<fr.length:=by
   have:=ltU q1
   rwa[qV]at this
  have b1:0<=((i:Nat):Int)/\((i:Nat):Int)<((fr.map fun p:Int×Int=>p.1).length:Nat):=by rw[qV];omega
  have b2:0<=((i:Nat):Int)/\((i:Nat):Int)<((fr.map fun p:Int×Int=>p.2).length:Nat):=by rw[qV];omega
  have e1:elt 0 (fr.map fun p:Int×Int=>p.1) ((i:Nat):Int)=fr[i].1:=by
   unfold elt;rw[qC,qK,qY,qB hlt];rfl
  have e2:elt 0 (fr.map fun p:Int×Int=>p.2) ((i:Nat):Int)=fr[i].2:=by
   unfold elt;rw[qC,qK,qY,qB hlt];rfl
  have hm:=hr _ (List.getElem_mem hlt);refine aI b1 ?_;refine aI b2 ?_;refine aI ?_ ?_
  .show 0<=elt 0 (fr.map fun p:Int×Int=>p.1) ((i:Nat):Int)/\elt 0 (fr.map fun p:Int×Int=>p.1) ((i:Nat):Int)<((U6 es.length (fr.take i)).length:Nat);rw[e1,U7];exact hm
  refine aI (by kernel_rfl) ?_;refine aY (i+1) hlt ?_ ?_
  .refine hd [] rfl (aI (aI (dG (by omega)) rfl) trivial) ⟨⟨rfl,nP⟩,⟨rfl,nP⟩,⟨?_,nP⟩,trivial⟩;show(U6 es.length (fr.take i)).set (elt 0 (fr.map fun p:Int×Int=>p.1) ((i:Nat):Int)).toNat (elt 0 (fr.map fun p:Int×Int=>p.2) ((i:Nat):Int))=U6 es.length (fr.take (i+1));rw[e1,e2,List.take_succ_eq_append_getElem hlt,ZbM]
  .show fr.length-(i+1)<fr.length-i;omega
 .have hie:i=fr.length:=by
   have:=geU q1;rw[qV]at this;omega
  subst hie;refine fin [(10000,37)] (aI rfl ⟨⟨?_,nP⟩,trivial⟩);show U6 es.length (fr.take fr.length)=_;rw[List.take_length]
end
end Go.Proofs.YtbdimbjclhmeoaaGreat
