
/- Lazy reductions: the program's loop. Printed by gen_hk.py. -/
import Derived.Test.YtjijpkphkicoeaaGreatShort
import Derived.Test.YtjijpkphkicoeaaGreatHj
import Derived.Test.YtjijpkphkicoeaaGreatYq
set_option linter.unusedSimpArgs false
set_option linter.unusedVariables false
namespace Go.Proofs.YtjijpkphkicoeaaGreat
open Go Go.RowKit Go.Proofs Go.Tr
theorem Ae{cx:Cx}{β:Nat→Value}{e:U}{b:List SV}:∀{a:List SV} {vs:List Value},aN cx β (a++.raw (.slice none 0 0)::b) vs→aN cx β (a++.rsl e []::b) vs
 |[],vs,hd=>by
  obtain⟨v,vs',rfl,h1,h2⟩:=hd;refine⟨v,vs',rfl,?_,h2⟩;unfold Den at h1 ⊢;rw[h1.1];exact⟨[],T1.empty none,by simp⟩
 |x::a,vs,hd=>by
  obtain⟨v,vs',rfl,h1,h2⟩:=hd;exact⟨v,vs',rfl,h1,Ae (a:=a) h2⟩
theorem aA.lC{P:Program}{f:Nat}{a b:List SV}{e:U}{ts ts':List Tok}{r:SV}(h:aA P f (a++.rsl e []::b) ts r ts'):aA P f (a++.raw (.slice none 0 0)::b) ts r ts':=
 ⟨h.1,fun cx β w fr vs hI hd=>h.2 cx β w fr vs hI (Ae hd)⟩
theorem Kk:bH Tryz.prog 67=true:=by kernel_rfl
section
variable (fl:Bool)(F:Nat)(bk:List (List aj))(xs:List aj)(st:Int)
abbrev Qb(s:kY):Prop:=aA Tryz.prog F [.ptr 10000 0] (tW s.xs [] bk s.kv) (.tup [vP (nJ fl s.xs).2,.bool (!(nJ fl s.xs).1)]) (tW s.xs [] bk s.kv)
def gLT(s:kY):List Tok:=[.bV 22 80 [.ptr 20000 0,.sl 4000022,.sl 20003,.sl 20004,.sl 20005],.bV 20000 87 [.sl 20001,.rsl aR bk,.mp 20002],.row 20001 131 5 aD s.xs [],.map 20002 .bool s.kv,.row 4000022 2 1 (.int .i64) s.cn [],.row 20003 2 1 (.int .i64) s.tr [],.row 20004 2 1 (.int .i64) s.cu [],.row 20005 2 1 (.int .i64) s.ex [],.bV 5 30 [.rsl aD xs]]
set_option maxRecDepth 100000 in
set_option maxHeartbeats 4000000 in
theorem Xi(hs:bE xs)(h:mg (ku bk xs) (bY []&&dX st 0 4000)=0)(hF:∀s:kY,vI bk s→Qb fl F bk s){c:Int}{t:kY}(R:Fj fl bk st (g0 xs) c t)(hc:c=0):aA Tryz.prog 67 [.rsl aR bk,.agg [.rsl aD xs],.int .i64 st,.fn F []] [] (.tup [.ptr 10000 0,.int .i64 0]) (tU t.xs [] bk t.kv t.cn t.tr t.cu t.ex):=by
 refine aA.intro (nt:=68) aH mixed Kk Tryz.func67 rfl rfl rfl rfl rfl rfl ?_;refine Or.inr (eI _ (eI _ (aI (aA.lC (a:=[.rsl aR bk,.agg [.rsl aD xs]]) (b:=[.int .i64 st]) (DL bk xs [] st hs h)) ?_)));refine aI (fun q=>by cases q) (fun _=> ?_);refine lp kY (fun _=>[]) (gLT bk xs) (fun s=>4001-s.tr.length) (fun s=>Fj fl bk st s c t) (g0 xs) R ?_ ?_
 ·exact Nt [⟨3000022,30000,2,1,(.int .i64)⟩,⟨5000022,30001,2,1,(.int .i64)⟩] [(20000,1000022),(20001,2000022),(20002,3000022),(20003,30000),(20004,5000022),(20005,30001)] rfl (aI trivial (by repeat' (first|exact trivial|exact rfl|exact nP|constructor)))
 intro s hR;have g:vI bk s:=hR.ok;refine Or.inr (eI _ (eI _ (aI (hF s g) ?_)));have lt:=g.tr;have lx:=g.lx;obtain⟨Y,f,TY,rf⟩:=g.rs.tx;refine aI (fun q1=> ?_) (fun q1=> ?_)
 ·have q2:(nJ fl s.xs).1=true:=by simpa using q1
  cases hR with
  |done=>exact fin [(10000,22),(10001,20000),(10002,20001),(10003,20002),(10004,4000022),(10005,20003),(10006,20004),(10007,20005)] (aI rfl (by repeat' (first|exact trivial|exact rfl|exact nP|constructor)))
  |stuck=>cases hc
  |full=>cases hc
  |bad _ _ _ _ _ _ _ _ _ _ hc2=>exact absurd hc hc2
  |next _ _ _ hX=>rw[q2]at hX;cases hX
 have q2:(nJ fl s.xs).1=false:=by simpa using q1
 cases hR with
 |done _ _ hX=>rw[q2]at hX;cases hX
 |stuck=>cases hc
 |full=>cases hc
 |bad _ _ _ _ _ _ _ _ _ _ hc2=>exact absurd hc hc2
 |next _ s2 _ hX hQ X Q nX nQ e l hI hS r=>
  refine Or.inl (eI _ (eI _ (aI (wY TY (by omega) [] bk (qg TY.wd fl) nX) (eI [_] (aI rfl ?_)))));refine aI (by kernel_rfl) ?_;refine aI (fun q3=>by cases q3) (fun _=> ?_);refine Or.inr (eI _ (eI _ (aI (Bj s.xs [] bk s.kv s.cn s.tr s.cu s.ex) ?_)));refine aI (fun q4=> ?_) (fun q4=> ?_)
  ·exfalso;have q5:(((s.tr.length:Nat):Int)==st)=true:=q4;have q6:((s.tr.length:Nat):Int)=st:=by simpa using q5
   omega
  refine Or.inr (eI _ (eI _ (aI hI ?_)));refine aI (fun q6=>by cases q6) (fun _=> ?_);refine aP s2 r ?_ ?_
  ·exact hd [(20000,64),(20001,1000064),(20002,2000064),(20003,3000064),(20004,4000064),(20005,5000064)] rfl trivial (by repeat' (first|exact trivial|exact rfl|exact nP|constructor))
  ·show 4001-s2.tr.length<4001-s.tr.length;omega
set_option maxRecDepth 100000 in
set_option maxHeartbeats 4000000 in
theorem UF(hs:bE xs)(h:mg (ku bk xs) (bY []&&dX st 0 4000)=0)(hF:∀s:kY,vI bk s→Qb fl F bk s){c:Int}{t:kY}(R:Fj fl bk st (g0 xs) c t)(hc:c≠0):aA Tryz.prog 67 [.rsl aR bk,.agg [.rsl aD xs],.int .i64 st,.fn F []] [] (.tup [.raw (.pointer none),.int .i64 c]) []:=by
 refine aA.intro (nt:=68) aH mixed Kk Tryz.func67 rfl rfl rfl rfl rfl rfl ?_;refine Or.inr (eI _ (eI _ (aI (aA.lC (a:=[.rsl aR bk,.agg [.rsl aD xs]]) (b:=[.int .i64 st]) (DL bk xs [] st hs h)) ?_)));refine aI (fun q=>by cases q) (fun _=> ?_);refine lp kY (fun _=>[]) (gLT bk xs) (fun s=>4001-s.tr.length) (fun s=>Fj fl bk st s c t) (g0 xs) R ?_ ?_
 ·exact Nt [⟨3000022,30000,2,1,(.int .i64)⟩,⟨5000022,30001,2,1,(.int .i64)⟩] [(20000,1000022),(20001,2000022),(20002,3000022),(20003,30000),(20004,5000022),(20005,30001)] rfl (aI trivial (by repeat' (first|exact trivial|exact rfl|exact nP|constructor)))
 intro s hR;have g:vI bk s:=hR.ok;refine Or.inr (eI _ (eI _ (aI (hF s g) ?_)));have lt:=g.tr;have lx:=g.lx;obtain⟨Y,f,TY,rf⟩:=g.rs.tx;refine aI (fun q1=> ?_) (fun q1=> ?_)
 ·have q2:(nJ fl s.xs).1=true:=by simpa using q1
  cases hR with
  |done=>exact absurd rfl hc
  |stuck _ _ hX=>rw[q2]at hX;cases hX
  |full _ _ hX=>rw[q2]at hX;cases hX
  |bad _ _ hX=>rw[q2]at hX;cases hX
  |next _ _ _ hX=>rw[q2]at hX;cases hX
 have q2:(nJ fl s.xs).1=false:=by simpa using q1
 cases hR with
 |done _ _ hX=>rw[q2]at hX;cases hX
 |stuck _ _ hX hQ nX nQ=>
  refine Or.inl (eI _ (eI _ (aI (Pn TY (by omega) [] bk (qg TY.wd fl) nX) (eI [] (aI rfl ?_)))));refine aI (by kernel_rfl) ?_;refine aI (fun _=> ?_) (fun q3=>by cases q3);exact fin [] (aI rfl trivial)
 |full _ _ hX hQ X Q nX nQ e=>
  refine Or.inl (eI _ (eI _ (aI (wY TY (by omega) [] bk (qg TY.wd fl) nX) (eI [_] (aI rfl ?_)))));refine aI (by kernel_rfl) ?_;refine aI (fun q3=>by cases q3) (fun _=> ?_);refine Or.inr (eI _ (eI _ (aI (Bj t.xs [] bk t.kv t.cn t.tr t.cu t.ex) ?_)));refine aI (fun _=> ?_) (fun q4=> ?_)
  ·exact fin [] (aI rfl trivial)
  ·exfalso;have q5:(((t.tr.length:Nat):Int)==st)=false:=q4;have q6:¬((t.tr.length:Nat):Int)=st:=by simpa using q5
   exact q6 e
 |bad _ _ hX hQ X Q nX nQ e _ hc2 hI hS=>
  refine Or.inl (eI _ (eI _ (aI (wY TY (by omega) [] bk (qg TY.wd fl) nX) (eI [_] (aI rfl ?_)))));refine aI (by kernel_rfl) ?_;refine aI (fun q3=>by cases q3) (fun _=> ?_);refine Or.inr (eI _ (eI _ (aI (Bj t.xs [] bk t.kv t.cn t.tr t.cu t.ex) ?_)));refine aI (fun q4=> ?_) (fun q4=> ?_)
  ·exfalso;have q5:(((t.tr.length:Nat):Int)==st)=true:=q4;have q6:((t.tr.length:Nat):Int)=st:=by simpa using q5
   omega
  refine Or.inr (eI _ (eI _ (aI hI ?_)));refine aI (fun q6=> ?_) (fun q6=> ?_)
  ·exact fin [] (aI rfl trivial)
  ·exfalso;have q7:(c !=0)=false:=q6;simp at q7;exact hc2 q7
 |next _ s2 _ hX hQ X Q nX nQ e l hI hS r=>
  refine Or.inl (eI _ (eI _ (aI (wY TY (by omega) [] bk (qg TY.wd fl) nX) (eI [_] (aI rfl ?_)))));refine aI (by kernel_rfl) ?_;refine aI (fun q3=>by cases q3) (fun _=> ?_);refine Or.inr (eI _ (eI _ (aI (Bj s.xs [] bk s.kv s.cn s.tr s.cu s.ex) ?_)));refine aI (fun q4=> ?_) (fun q4=> ?_)
  ·exfalso;have q5:(((s.tr.length:Nat):Int)==st)=true:=q4;have q6:((s.tr.length:Nat):Int)=st:=by simpa using q5
   omega
  refine Or.inr (eI _ (eI _ (aI hI ?_)));refine aI (fun q6=>by cases q6) (fun _=> ?_);refine aP s2 r ?_ ?_
  ·exact hd [(20000,64),(20001,1000064),(20002,2000064),(20003,3000064),(20004,4000064),(20005,5000064)] rfl trivial (by repeat' (first|exact trivial|exact rfl|exact nP|constructor))
  ·show 4001-s2.tr.length<4001-s.tr.length;omega
end
end Go.Proofs.YtjijpkphkicoeaaGreat
