
/- Deques. Printed by gx_dq.py. -/
import Derived.Test.YtjpaeopdljfjpaaShort
import Derived.Test.YtjpaeopdljfjpaaProg
import Derived.Test.YtjpaeopdljfjpaaSc
import Derived.Test.YtjpaeopdljfjpaaDDq
import Derived.Test.YtjpaeopdljfjpaaNet
import Derived.IntWalk
import Derived.Test.YtjpaeopdljfjpaaDq8
set_option maxHeartbeats 1000000
set_option linter.unusedSimpArgs false
set_option linter.unusedVariables false
namespace Go.Tr
theorem dz.none_{w0:World}{F0:List Nat}{n n' c:Nat}{ds:List D}(h:dz w0 F0 (.sl n ds) (.slice none n' c)):n'=0∧ds=[]:=by
 obtain⟨bs,h1,_⟩:=h;unfold T1 at h1;obtain⟨A',c',he,_,_,h1⟩:=h1;injection he with hA hn _
 rcases h1 with⟨h0,h2,_⟩|⟨_,b,off,us,bs',h2,_⟩
 ·exact⟨hn.trans h0,h2⟩
 ·rw[←hA]at h2;cases h2
end Go.Tr
namespace Go.Proofs.Ytjpaeopdljfjpaa
open Go Go.RowKit Go.Proofs Go.Tr
theorem FH:eU Try.prog 24 2 1:=eU.of Try.underlying24 (by kernel_rfl) (by omega)
theorem FJ:eU Try.prog 27 57 5:=eU.of Try.underlying27 (by kernel_rfl) (by omega)
theorem FK:eU Try.prog 28 36 2:=eU.of Try.underlying28 (by kernel_rfl) (by omega)
theorem Ho:zeroOf Try.prog 30=some [.int .i64 (0),.int .i64 (0),.slice none 0 0,.slice none 0 0,.slice none 0 0,.slice none 0 0]:=by kernel_rfl
theorem vV:bI Try.prog 30 2=some 2:=by kernel_rfl
theorem vo:eP Try.prog 24=some false:=by kernel_rfl
theorem wL:dA Try.prog 28=true:=by kernel_rfl
theorem kT:bI Try.prog 30 3=some 3:=by kernel_rfl
theorem rE:eP Try.prog 27=some false:=by kernel_rfl
theorem vX:bI Try.prog 30 4=some 4:=by kernel_rfl
theorem EU:eP Try.prog 28=some false:=by kernel_rfl
theorem vZ:bI Try.prog 30 5=some 5:=by kernel_rfl
theorem xg:(Try.prog.info? 24).map (·.size)=some 1:=by kernel_rfl
theorem GD:(Try.prog.info? 27).map (·.size)=some 1:=by kernel_rfl
theorem GH:(Try.prog.info? 28).map (·.size)=some 1:=by kernel_rfl
theorem vM:cO Try.prog 27=some (57,5):=by kernel_rfl
theorem wm:bI Try.prog 57 0=some 0:=by kernel_rfl
theorem zQ:eP Try.prog 30=some true:=by kernel_rfl
theorem xk:(Try.prog.info? 30).map (·.size)=some 6:=by kernel_rfl
theorem Fg(c:Nat)(w0:World):Calls Try.prog 28 #[.slice none 0 c] w0 fun e w'=>∃A' c',e=.returned (.slice A' 0 c')∧Tr.Inv w0 [] w' [Gr (.slice A' 0 c') 2 1 0 []]:=by
 refine bF (args:=[.slice none 0 c]) Try.func28 rfl Try.ntmps28 rfl iI (fun a w E H=> ?_)
 have E:Env 8 a [(0,.slice none 0 c)]:=E
 refine wp_seq (wp_region_lit ?_)
 refine wv E rfl (aK (aC _)) fun a E=> ?_
 refine wpList_nil (aj (wp_seq (wp_seq (wp_region_lit ?_))))
 refine vm E rfl rfl fun a E=>wv E rfl (zo (E.tmp rfl) (aC _) Try.underlying24) fun a E=> ?_
 refine wpList_nil (aj ?_)
 refine bH E rfl rfl ?_
 refine wp_seq (wp_region_lit ?_)
 refine wv E rfl (aK (aC _)) fun a E=> ?_
 refine wpList_nil (aj (wp_ret (bM ?_)))
 refine bB E rfl (aY E rfl) ?_
 have H:=H.gP 2 1
 exact⟨_,_,rfl,H⟩
theorem Fp(n c:Nat)(ad:Addr)(ds:List D)(w0:World)(hx:dz w0 [] (.sl n ds) (.slice (some ad) n c))(hl:ds.length=n*1)(hf:∀d∈ds,∃x,d=.v x)(hn:n≤1048576):Calls Try.prog 28 #[.slice (some ad) n c] w0 fun e w'=>∃A' c',e=.returned (.slice A' n c')∧Tr.Inv w0 [] w' [Gr (.slice A' n c') 2 1 n ds]:=by
 refine bF (args:=[.slice (some ad) n c]) Try.func28 rfl Try.ntmps28 rfl iI (fun a w E H=> ?_)
 have E:Env 8 a [(0,.slice (some ad) n c)]:=E
 refine wp_seq (wp_region_lit ?_)
 refine wv E rfl (aK (aC _)) fun a E=> ?_
 refine wpList_nil (aj (wp_seq (wp_seq (wp_region_lit ?_))))
 refine vm E rfl rfl fun a E=>wv E rfl (zq (E.tmp rfl) (aC _) Try.underlying24) fun a E=> ?_
 refine wpList_nil (aj ?_)
 refine bG E rfl rfl ?_
 refine wp_skip (aj (wp_seq (wp_region_lit ?_)))
 refine wv E rfl (jW (pv (Gm)) (by kernel_rfl:(Instr.buildSlice 24 0 (List.toArray [])).run Try.prog w=.ok (.slice (some ⟨w.heap.size,0,none⟩) 0 0) (w.alloc (.cells (List.toArray []) 2)))) (fun a E=> ?_)
 have H:=H.alloc [] 2
 obtain⟨g1,hgg1⟩:∃g,g=w.heap.size:=⟨_,rfl⟩
 rw[←hgg1]at E H
 clear hgg1
 generalize w.alloc _=w at H ⊢
 refine vm E rfl rfl fun a E=> ?_
 have H:=H.BR 1
 obtain⟨bsx2,hTx2⟩:=dz.now hx H
 obtain⟨usx2,btx2,hsx2,htx2, -⟩:=hTx2.src hl
 have H:=(H.yP htx2 hf).front 1 rfl
 refine DV E rfl (E.tmp rfl) (E.tmp rfl) FH H hsx2 (by omega) (fun a w Ax2 cx2 E H=> ?_)
 simp only[Nat.zero_add,List.nil_append]at E H
 refine va E rfl rfl fun a E=> ?_
 refine wpList_nil (aj (wp_ret ?_))
 refine bB E rfl (aY E rfl) ?_
 exact⟨_,_,rfl,H⟩
theorem yN(n c:Nat)(A:Option Addr)(ds:List D)(w0:World)(hx:dz w0 [] (.sl n ds) (.slice A n c))(hl:ds.length=n*1)(hf:∀d∈ds,∃x,d=.v x)(hn:n≤1048576):Calls Try.prog 28 #[.slice A n c] w0 fun e w'=>∃A' c',e=.returned (.slice A' n c')∧Tr.Inv w0 [] w' [Gr (.slice A' n c') 2 1 n ds]:=by
 cases A with
 |some ad=>exact Fp n c ad ds w0 hx hl hf hn
 |none=>
  obtain⟨rfl,rfl⟩:=dz.none_ hx
  exact Fg c w0
theorem Fb(c:Nat)(w0:World):Calls Try.prog 64 #[.slice none 0 c] w0 fun e w'=>∃A' c',e=.returned (.slice A' 0 c')∧Tr.Inv w0 [] w' [Gr (.slice A' 0 c') 57 5 0 []]:=by
 refine bF (args:=[.slice none 0 c]) Try.func64 rfl Try.ntmps64 rfl iI (fun a w E H=> ?_)
 have E:Env 8 a [(0,.slice none 0 c)]:=E
 refine wp_seq (wp_region_lit ?_)
 refine wv E rfl (aK (aC _)) fun a E=> ?_
 refine wpList_nil (aj (wp_seq (wp_seq (wp_region_lit ?_))))
 refine vm E rfl rfl fun a E=>wv E rfl (zo (E.tmp rfl) (aC _) Try.underlying27) fun a E=> ?_
 refine wpList_nil (aj ?_)
 refine bH E rfl rfl ?_
 refine wp_seq (wp_region_lit ?_)
 refine wv E rfl (aK (aC _)) fun a E=> ?_
 refine wpList_nil (aj (wp_ret (bM ?_)))
 refine bB E rfl (aY E rfl) ?_
 have H:=H.gP 57 5
 exact⟨_,_,rfl,H⟩
theorem Fh(n c:Nat)(ad:Addr)(ds:List D)(w0:World)(hx:dz w0 [] (.sl n ds) (.slice (some ad) n c))(hl:ds.length=n*5)(hf:∀d∈ds,∃x,d=.v x)(hn:n≤1048576):Calls Try.prog 64 #[.slice (some ad) n c] w0 fun e w'=>∃A' c',e=.returned (.slice A' n c')∧Tr.Inv w0 [] w' [Gr (.slice A' n c') 57 5 n ds]:=by
 refine bF (args:=[.slice (some ad) n c]) Try.func64 rfl Try.ntmps64 rfl iI (fun a w E H=> ?_)
 have E:Env 8 a [(0,.slice (some ad) n c)]:=E
 refine wp_seq (wp_region_lit ?_)
 refine wv E rfl (aK (aC _)) fun a E=> ?_
 refine wpList_nil (aj (wp_seq (wp_seq (wp_region_lit ?_))))
 refine vm E rfl rfl fun a E=>wv E rfl (zq (E.tmp rfl) (aC _) Try.underlying27) fun a E=> ?_
 refine wpList_nil (aj ?_)
 refine bG E rfl rfl ?_
 refine wp_skip (aj (wp_seq (wp_region_lit ?_)))
 refine wv E rfl (jW (pv (Gm)) (by kernel_rfl:(Instr.buildSlice 27 0 (List.toArray [])).run Try.prog w=.ok (.slice (some ⟨w.heap.size,0,none⟩) 0 0) (w.alloc (.cells (List.toArray []) 57)))) (fun a E=> ?_)
 have H:=H.alloc [] 57
 obtain⟨g1,hgg1⟩:∃g,g=w.heap.size:=⟨_,rfl⟩
 rw[←hgg1]at E H
 clear hgg1
 generalize w.alloc _=w at H ⊢
 refine vm E rfl rfl fun a E=> ?_
 have H:=H.BR 5
 obtain⟨bsx2,hTx2⟩:=dz.now hx H
 obtain⟨usx2,btx2,hsx2,htx2, -⟩:=hTx2.src hl
 have H:=(H.yP htx2 hf).front 1 rfl
 refine DV E rfl (E.tmp rfl) (E.tmp rfl) FJ H hsx2 (by omega) (fun a w Ax2 cx2 E H=> ?_)
 simp only[Nat.zero_add,List.nil_append]at E H
 refine va E rfl rfl fun a E=> ?_
 refine wpList_nil (aj (wp_ret ?_))
 refine bB E rfl (aY E rfl) ?_
 exact⟨_,_,rfl,H⟩
theorem Ic(n c:Nat)(A:Option Addr)(ds:List D)(w0:World)(hx:dz w0 [] (.sl n ds) (.slice A n c))(hl:ds.length=n*5)(hf:∀d∈ds,∃x,d=.v x)(hn:n≤1048576):Calls Try.prog 64 #[.slice A n c] w0 fun e w'=>∃A' c',e=.returned (.slice A' n c')∧Tr.Inv w0 [] w' [Gr (.slice A' n c') 57 5 n ds]:=by
 cases A with
 |some ad=>exact Fh n c ad ds w0 hx hl hf hn
 |none=>
  obtain⟨rfl,rfl⟩:=dz.none_ hx
  exact Fb c w0
theorem Fe(c:Nat)(w0:World):Calls Try.prog 65 #[.slice none 0 c] w0 fun e w'=>∃A' c',e=.returned (.slice A' 0 c')∧Tr.Inv w0 [] w' [Gr (.slice A' 0 c') 36 2 0 []]:=by
 refine bF (args:=[.slice none 0 c]) Try.func65 rfl Try.ntmps65 rfl iI (fun a w E H=> ?_)
 have E:Env 8 a [(0,.slice none 0 c)]:=E
 refine wp_seq (wp_region_lit ?_)
 refine wv E rfl (aK (aC _)) fun a E=> ?_
 refine wpList_nil (aj (wp_seq (wp_seq (wp_region_lit ?_))))
 refine vm E rfl rfl fun a E=>wv E rfl (zo (E.tmp rfl) (aC _) Try.underlying28) fun a E=> ?_
 refine wpList_nil (aj ?_)
 refine bH E rfl rfl ?_
 refine wp_seq (wp_region_lit ?_)
 refine wv E rfl (aK (aC _)) fun a E=> ?_
 refine wpList_nil (aj (wp_ret (bM ?_)))
 refine bB E rfl (aY E rfl) ?_
 have H:=H.gP 36 2
 exact⟨_,_,rfl,H⟩
theorem Fj(n c:Nat)(ad:Addr)(ds:List D)(w0:World)(hx:dz w0 [] (.sl n ds) (.slice (some ad) n c))(hl:ds.length=n*2)(hf:∀d∈ds,∃x,d=.v x)(hn:n≤1048576):Calls Try.prog 65 #[.slice (some ad) n c] w0 fun e w'=>∃A' c',e=.returned (.slice A' n c')∧Tr.Inv w0 [] w' [Gr (.slice A' n c') 36 2 n ds]:=by
 refine bF (args:=[.slice (some ad) n c]) Try.func65 rfl Try.ntmps65 rfl iI (fun a w E H=> ?_)
 have E:Env 8 a [(0,.slice (some ad) n c)]:=E
 refine wp_seq (wp_region_lit ?_)
 refine wv E rfl (aK (aC _)) fun a E=> ?_
 refine wpList_nil (aj (wp_seq (wp_seq (wp_region_lit ?_))))
 refine vm E rfl rfl fun a E=>wv E rfl (zq (E.tmp rfl) (aC _) Try.underlying28) fun a E=> ?_
 refine wpList_nil (aj ?_)
 refine bG E rfl rfl ?_
 refine wp_skip (aj (wp_seq (wp_region_lit ?_)))
 refine wv E rfl (jW (pv (Gm)) (by kernel_rfl:(Instr.buildSlice 28 0 (List.toArray [])).run Try.prog w=.ok (.slice (some ⟨w.heap.size,0,none⟩) 0 0) (w.alloc (.cells (List.toArray []) 36)))) (fun a E=> ?_)
 have H:=H.alloc [] 36
 obtain⟨g1,hgg1⟩:∃g,g=w.heap.size:=⟨_,rfl⟩
 rw[←hgg1]at E H
 clear hgg1
 generalize w.alloc _=w at H ⊢
 refine vm E rfl rfl fun a E=> ?_
 have H:=H.BR 2
 obtain⟨bsx2,hTx2⟩:=dz.now hx H
 obtain⟨usx2,btx2,hsx2,htx2, -⟩:=hTx2.src hl
 have H:=(H.yP htx2 hf).front 1 rfl
 refine DV E rfl (E.tmp rfl) (E.tmp rfl) FK H hsx2 (by omega) (fun a w Ax2 cx2 E H=> ?_)
 simp only[Nat.zero_add,List.nil_append]at E H
 refine va E rfl rfl fun a E=> ?_
 refine wpList_nil (aj (wp_ret ?_))
 refine bB E rfl (aY E rfl) ?_
 exact⟨_,_,rfl,H⟩
theorem Ie(n c:Nat)(A:Option Addr)(ds:List D)(w0:World)(hx:dz w0 [] (.sl n ds) (.slice A n c))(hl:ds.length=n*2)(hf:∀d∈ds,∃x,d=.v x)(hn:n≤1048576):Calls Try.prog 65 #[.slice A n c] w0 fun e w'=>∃A' c',e=.returned (.slice A' n c')∧Tr.Inv w0 [] w' [Gr (.slice A' n c') 36 2 n ds]:=by
 cases A with
 |some ad=>exact Fj n c ad ds w0 hx hl hf hn
 |none=>
  obtain⟨rfl,rfl⟩:=dz.none_ hx
  exact Fe c w0
theorem uE(x:aQ)(abufferA:Option Addr)(abufferc:Nat)(aactorsA:Option Addr)(aactorsc:Nat)(atakenA:Option Addr)(atakenc:Nat)(arefusedA:Option Addr)(arefusedc:Nat)(w0:World)(abufferH:dz w0 [] (.sl x.buffer.length (x.buffer.flatMap au)) (.slice abufferA x.buffer.length abufferc))(aactorsH:dz w0 [] (.sl x.actors.length (x.actors.flatMap ah.enc)) (.slice aactorsA x.actors.length aactorsc))(atakenH:dz w0 [] (.sl x.taken.length (x.taken.flatMap ak.enc)) (.slice atakenA x.taken.length atakenc))(arefusedH:dz w0 [] (.sl x.refused.length (x.refused.flatMap au)) (.slice arefusedA x.refused.length arefusedc))(hb:x.buffer.length≤1048576)(hr:x.refused.length≤1048576)(hn:x.actors.length≤1000)(hn0:0<x.actors.length)(hh:x.taken.length≤1048576)(htd:∀(k:Nat) (a:ah),x.actors[k]? =some a→a.todo.length≤1048576):Calls Try.prog 31 #[.agg #[.int .i64 (x.top),.int .i64 (x.bottom),.slice abufferA x.buffer.length abufferc,.slice aactorsA x.actors.length aactorsc,.slice atakenA x.taken.length atakenc,.slice arefusedA x.refused.length arefusedc]] w0 fun e w'=>∃AB cB AA cA AT cT AR cR,e=.returned (.agg #[.int .i64 x.top,.int .i64 x.bottom,.slice AB x.buffer.length cB,.slice AA x.actors.length cA,.slice AT x.taken.length cT,.slice AR x.refused.length cR])∧Tr.Inv w0 [] w' [Gr (.slice AB x.buffer.length cB) 2 1 x.buffer.length (x.buffer.flatMap au),Gr (.slice AA x.actors.length cA) 57 5 x.actors.length (x.actors.flatMap ah.enc),Gr (.slice AT x.taken.length cT) 36 2 x.taken.length (x.taken.flatMap ak.enc),Gr (.slice AR x.refused.length cR) 2 1 x.refused.length (x.refused.flatMap au)]:=by
 refine bF (args:=[.agg #[.int .i64 (x.top),.int .i64 (x.bottom),.slice abufferA x.buffer.length abufferc,.slice aactorsA x.actors.length aactorsc,.slice atakenA x.taken.length atakenc,.slice arefusedA x.refused.length arefusedc]]) Try.func31 rfl Try.ntmps31 rfl iI (fun a w E H=> ?_)
 have E:Env 40 a [(0,.agg #[.int .i64 (x.top),.int .i64 (x.bottom),.slice abufferA x.buffer.length abufferc,.slice aactorsA x.actors.length aactorsc,.slice atakenA x.taken.length atakenc,.slice arefusedA x.refused.length arefusedc])]:=E
 obtain⟨us,husl,husr,hus⟩:=aactorsH.raw (s:=5) (by rw[bQ ah.enc 5 ah.aV])
 have hul:us.length=x.actors.length*5:=by rwa[qV]at husl
 refine wp_seq (wp_region_lit ?_)
 refine xB (us:=[.int .i64 (x.top),.int .i64 (x.bottom),.slice abufferA x.buffer.length abufferc,.slice aactorsA x.actors.length aactorsc,.slice atakenA x.taken.length atakenc,.slice arefusedA x.refused.length arefusedc]) E rfl (E.tmp rfl) rfl H (fun a w g1 E H=> ?_)
 refine oQ E rfl Ho H (fun a w g2 E H=> ?_)
 refine wpList_nil (aj (wp_seq ?_))
 let fl1:Flow:=⟨[.c (.pointer (some ⟨g1,2,none⟩)),{ dep:=[],val:=fun _=>.slice abufferA x.buffer.length abufferc,rd:=[1]},{ dep:=[2],val:=fun|[x2]=>.slice (sA x2) x.buffer.length (sC x2)|_=>undef,rd:=[]},.c (.pointer (some ⟨g1,3,none⟩)),{ dep:=[],val:=fun _=>.slice aactorsA x.actors.length aactorsc,rd:=[1]},{ dep:=[5],val:=fun|[x5]=>.slice (sA x5) x.actors.length (sC x5)|_=>undef,rd:=[]},.c (.pointer (some ⟨g1,4,none⟩)),{ dep:=[],val:=fun _=>.slice atakenA x.taken.length atakenc,rd:=[1]},{ dep:=[8],val:=fun|[x8]=>.slice (sA x8) x.taken.length (sC x8)|_=>undef,rd:=[]},.c (.pointer (some ⟨g1,5,none⟩)),{ dep:=[],val:=fun _=>.slice arefusedA x.refused.length arefusedc,rd:=[1]},{ dep:=[11],val:=fun|[x11]=>.slice (sA x11) x.refused.length (sC x11)|_=>undef,rd:=[]},.c (.pointer (some ⟨g1,2,none⟩)),.c (undef),.c (.pointer (some ⟨g1,3,none⟩)),.c (undef),.c (.pointer (some ⟨g1,4,none⟩)),.c (undef),.c (.pointer (some ⟨g1,5,none⟩)),.c (undef)],[{ dep:=[],res:=fun _=>bC g2 [.int .i64 (0),.int .i64 (0),.slice none 0 0,.slice none 0 0,.slice none 0 0,.slice none 0 0] 30,prod:=none,cons:=none},{ dep:=[],res:=fun _=>bC g1 [.int .i64 (x.top),.int .i64 (x.bottom),.slice abufferA x.buffer.length abufferc,.slice aactorsA x.actors.length aactorsc,.slice atakenA x.taken.length atakenc,.slice arefusedA x.refused.length arefusedc] 30,prod:=none,cons:=some 13},{ dep:=[2],res:=fun|[x2]=>Gr (.slice (sA x2) x.buffer.length (sC x2)) 2 1 x.buffer.length (x.buffer.flatMap au)|_=>bV.emp,prod:=some 2,cons:=none},{ dep:=[5],res:=fun|[x5]=>Gr (.slice (sA x5) x.actors.length (sC x5)) 57 5 x.actors.length (us.map D.v)|_=>bV.emp,prod:=some 5,cons:=none},{ dep:=[8],res:=fun|[x8]=>Gr (.slice (sA x8) x.taken.length (sC x8)) 36 2 x.taken.length (x.taken.flatMap ak.enc)|_=>bV.emp,prod:=some 8,cons:=none},{ dep:=[11],res:=fun|[x11]=>Gr (.slice (sA x11) x.refused.length (sC x11)) 2 1 x.refused.length (x.refused.flatMap au)|_=>bV.emp,prod:=some 11,cons:=none},{ dep:=[2],res:=fun|[x2]=>bC g1 [.int .i64 (x.top),.int .i64 (x.bottom),.slice (sA x2) x.buffer.length (sC x2),.slice aactorsA x.actors.length aactorsc,.slice atakenA x.taken.length atakenc,.slice arefusedA x.refused.length arefusedc] 30|_=>bV.emp,prod:=some 13,cons:=some 15},{ dep:=[2,5],res:=fun|[x2,x5]=>bC g1 [.int .i64 (x.top),.int .i64 (x.bottom),.slice (sA x2) x.buffer.length (sC x2),.slice (sA x5) x.actors.length (sC x5),.slice atakenA x.taken.length atakenc,.slice arefusedA x.refused.length arefusedc] 30|_=>bV.emp,prod:=some 15,cons:=some 17},{ dep:=[2,5,8],res:=fun|[x2,x5,x8]=>bC g1 [.int .i64 (x.top),.int .i64 (x.bottom),.slice (sA x2) x.buffer.length (sC x2),.slice (sA x5) x.actors.length (sC x5),.slice (sA x8) x.taken.length (sC x8),.slice arefusedA x.refused.length arefusedc] 30|_=>bV.emp,prod:=some 17,cons:=some 19},{ dep:=[2,5,8,11],res:=fun|[x2,x5,x8,x11]=>bC g1 [.int .i64 (x.top),.int .i64 (x.bottom),.slice (sA x2) x.buffer.length (sC x2),.slice (sA x5) x.actors.length (sC x5),.slice (sA x8) x.taken.length (sC x8),.slice (sA x11) x.refused.length (sC x11)] 30|_=>bV.emp,prod:=some 19,cons:=none}],[[],[0],[0,1],[],[3],[0,1,2,3,4],[],[6],[0,1,2,3,4,5,6,7],[],[9],[0,1,2,3,4,5,6,7,8,9,10],[0,1,2,3,4,6,7,9,10],[0,1,2,3,4,5,6,7,8,9,10,11,12],[0,1,2,3,4,5,6,7,8,9,10,11,12,13],[0,1,2,3,4,5,6,7,8,9,10,11,12,13,14],[0,1,2,3,4,5,6,7,8,9,10,11,12,13,14,15],[0,1,2,3,4,5,6,7,8,9,10,11,12,13,14,15,16],[0,1,2,3,4,5,6,7,8,9,10,11,12,13,14,15,16,17],[0,1,2,3,4,5,6,7,8,9,10,11,12,13,14,15,16,17,18]]⟩
 have E:Env 40 a [(0,.agg #[.int .i64 (x.top),.int .i64 (x.bottom),.slice abufferA x.buffer.length abufferc,.slice aactorsA x.actors.length aactorsc,.slice atakenA x.taken.length atakenc,.slice arefusedA x.refused.length arefusedc]),(1,.pointer (some ⟨g1,0,none⟩)),(2,.pointer (some ⟨g2,0,none⟩))]:=(Env.pick E (Env.pick E (Env.pick E E.nil rfl) rfl) rfl)
 refine iK (rs:=[]) rfl fl1 E (by rw[qS];exact H) 20 rfl (by kernel_rfl) ?_ ?_
 ·
  refine aB.snoc (aB.snoc (aB.snoc (aB.snoc (aB.snoc (aB.snoc (aB.snoc (aB.snoc (aB.snoc (aB.snoc (aB.snoc (aB.snoc (aB.snoc (aB.snoc (aB.snoc (aB.snoc (aB.snoc (aB.snoc (aB.snoc (aB.snoc (aB.zero _) ?_) ?_) ?_) ?_) ?_) ?_) ?_) ?_) ?_) ?_) ?_) ?_) ?_) ?_) ?_) ?_) ?_) ?_) ?_) ?_
  ·
   refine⟨_,_,_,rfl,rfl,rfl,fun ν a w rs E hk ht H=> ?_⟩
   exact Gives.val rfl (aS (o':=2) (E.tmp rfl) vV rfl) ⟨trivial,rfl,H⟩
  ·
   refine⟨_,_,_,rfl,rfl,rfl,fun ν a w rs E hk ht H=> ?_⟩
   have E:=Env.add (v:=.pointer (some ⟨g1,2,none⟩)) E (ht 0 (by decide) _ _ 4 rfl rfl rfl)
   have H:Tr.Inv w0 [] w ([bC g1 [.int .i64 (x.top),.int .i64 (x.bottom),.slice abufferA x.buffer.length abufferc,.slice aactorsA x.actors.length aactorsc,.slice atakenA x.taken.length atakenc,.slice arefusedA x.refused.length arefusedc] 30]++([]++rs)):=H
   exact Gives.val rfl (aD (E.tmp rfl) vo (H.cell 0 rfl rfl)) ⟨trivial,rfl,H⟩
  ·
   refine⟨_,_,_,rfl,rfl,rfl,fun ν a w rs E hk ht H=> ?_⟩
   have E:=Env.add (v:=.slice abufferA x.buffer.length abufferc) E (ht 1 (by decide) _ _ 5 rfl rfl rfl)
   have H:Tr.Inv w0 [] w ([]++([]++rs)):=H
   exact Gives.call rfl (nY (aG (E.tmp rfl) (aX)) wL) (yN x.buffer.length abufferc abufferA (x.buffer.flatMap au) w (abufferH.at_ H (F:=[]) (by simp)) (by rw[bQ au 1 (fun _=>rfl)]) (kC tH _) (by omega)) fun e w2 ⟨A2,c2,he,hI⟩=>⟨_,he,trivial,rfl,H.rW hI⟩
  ·
   refine⟨_,_,_,rfl,rfl,rfl,fun ν a w rs E hk ht H=> ?_⟩
   exact Gives.val rfl (aS (o':=3) (E.tmp rfl) kT rfl) ⟨trivial,rfl,H⟩
  ·
   refine⟨_,_,_,rfl,rfl,rfl,fun ν a w rs E hk ht H=> ?_⟩
   have E:=Env.add (v:=.pointer (some ⟨g1,3,none⟩)) E (ht 3 (by decide) _ _ 7 rfl rfl rfl)
   have H:Tr.Inv w0 [] w ([bC g1 [.int .i64 (x.top),.int .i64 (x.bottom),.slice abufferA x.buffer.length abufferc,.slice aactorsA x.actors.length aactorsc,.slice atakenA x.taken.length atakenc,.slice arefusedA x.refused.length arefusedc] 30]++([]++rs)):=H
   exact Gives.val rfl (aD (E.tmp rfl) rE (H.cell 0 rfl rfl)) ⟨trivial,rfl,H⟩
  ·
   refine⟨_,_,_,rfl,rfl,rfl,fun ν a w rs E hk ht H=> ?_⟩
   have E:=Env.add (v:=.slice aactorsA x.actors.length aactorsc) E (ht 4 (by decide) _ _ 8 rfl rfl rfl)
   have H:Tr.Inv w0 [] w ([]++([]++rs)):=H
   exact Gives.call rfl (nY (aG (E.tmp rfl) (aX)) (by kernel_rfl)) (Ic x.actors.length aactorsc aactorsA (us.map D.v) w (husr.at_ H (F:=[]) (by simp)) husl (fun d hd=>by obtain⟨x,_,rfl⟩:=List.mem_map.1 hd;exact⟨x,rfl⟩) (by omega)) fun e w2 ⟨A2,c2,he,hI⟩=>⟨_,he,trivial,rfl,H.rW hI⟩
  ·
   refine⟨_,_,_,rfl,rfl,rfl,fun ν a w rs E hk ht H=> ?_⟩
   exact Gives.val rfl (aS (o':=4) (E.tmp rfl) vX rfl) ⟨trivial,rfl,H⟩
  ·
   refine⟨_,_,_,rfl,rfl,rfl,fun ν a w rs E hk ht H=> ?_⟩
   have E:=Env.add (v:=.pointer (some ⟨g1,4,none⟩)) E (ht 6 (by decide) _ _ 10 rfl rfl rfl)
   have H:Tr.Inv w0 [] w ([bC g1 [.int .i64 (x.top),.int .i64 (x.bottom),.slice abufferA x.buffer.length abufferc,.slice aactorsA x.actors.length aactorsc,.slice atakenA x.taken.length atakenc,.slice arefusedA x.refused.length arefusedc] 30]++([]++rs)):=H
   exact Gives.val rfl (aD (E.tmp rfl) EU (H.cell 0 rfl rfl)) ⟨trivial,rfl,H⟩
  ·
   refine⟨_,_,_,rfl,rfl,rfl,fun ν a w rs E hk ht H=> ?_⟩
   have E:=Env.add (v:=.slice atakenA x.taken.length atakenc) E (ht 7 (by decide) _ _ 11 rfl rfl rfl)
   have H:Tr.Inv w0 [] w ([]++([]++rs)):=H
   exact Gives.call rfl (nY (aG (E.tmp rfl) (aX)) (by kernel_rfl)) (Ie x.taken.length atakenc atakenA (x.taken.flatMap ak.enc) w (atakenH.at_ H (F:=[]) (by simp)) (by rw[bQ ak.enc 2 (fun _=>rfl)]) (kC ak.flat _) (by omega)) fun e w2 ⟨A2,c2,he,hI⟩=>⟨_,he,trivial,rfl,H.rW hI⟩
  ·
   refine⟨_,_,_,rfl,rfl,rfl,fun ν a w rs E hk ht H=> ?_⟩
   exact Gives.val rfl (aS (o':=5) (E.tmp rfl) vZ rfl) ⟨trivial,rfl,H⟩
  ·
   refine⟨_,_,_,rfl,rfl,rfl,fun ν a w rs E hk ht H=> ?_⟩
   have E:=Env.add (v:=.pointer (some ⟨g1,5,none⟩)) E (ht 9 (by decide) _ _ 13 rfl rfl rfl)
   have H:Tr.Inv w0 [] w ([bC g1 [.int .i64 (x.top),.int .i64 (x.bottom),.slice abufferA x.buffer.length abufferc,.slice aactorsA x.actors.length aactorsc,.slice atakenA x.taken.length atakenc,.slice arefusedA x.refused.length arefusedc] 30]++([]++rs)):=H
   exact Gives.val rfl (aD (E.tmp rfl) vo (H.cell 0 rfl rfl)) ⟨trivial,rfl,H⟩
  ·
   refine⟨_,_,_,rfl,rfl,rfl,fun ν a w rs E hk ht H=> ?_⟩
   have E:=Env.add (v:=.slice arefusedA x.refused.length arefusedc) E (ht 10 (by decide) _ _ 14 rfl rfl rfl)
   have H:Tr.Inv w0 [] w ([]++([]++rs)):=H
   exact Gives.call rfl (nY (aG (E.tmp rfl) (aX)) wL) (yN x.refused.length arefusedc arefusedA (x.refused.flatMap au) w (arefusedH.at_ H (F:=[]) (by simp)) (by rw[bQ au 1 (fun _=>rfl)]) (kC tH _) (by omega)) fun e w2 ⟨A2,c2,he,hI⟩=>⟨_,he,trivial,rfl,H.rW hI⟩
  ·
   refine⟨_,_,_,rfl,rfl,rfl,fun ν a w rs E hk ht H=> ?_⟩
   exact Gives.val rfl (aS (o':=2) (E.tmp rfl) vV rfl) ⟨trivial,rfl,H⟩
  ·
   refine⟨_,_,_,rfl,rfl,rfl,fun ν a w rs E hk ht H=> ?_⟩
   have E:=Env.add (v:=.slice (sA (ν 2)) x.buffer.length (sC (ν 2))) E (ht 2 (by decide) _ _ 6 rfl rfl rfl)
   have E:=Env.add (v:=.pointer (some ⟨g1,2,none⟩)) E (ht 12 (by decide) _ _ 16 rfl rfl rfl)
   have H:Tr.Inv w0 [] w ([]++([bC g1 [.int .i64 (x.top),.int .i64 (x.bottom),.slice abufferA x.buffer.length abufferc,.slice aactorsA x.actors.length aactorsc,.slice atakenA x.taken.length atakenc,.slice arefusedA x.refused.length arefusedc] 30]++rs)):=H
   exact Gives.Hu rfl (kF (E.tmp rfl) (E.tmp rfl) rfl rfl xg (H.gG 0 rfl) (by simp)) ⟨trivial,rfl,H.put (us:=[.slice (sA (ν 2)) x.buffer.length (sC (ν 2))]) 0 rfl rfl rfl⟩
  ·
   refine⟨_,_,_,rfl,rfl,rfl,fun ν a w rs E hk ht H=> ?_⟩
   exact Gives.val rfl (aS (o':=3) (E.tmp rfl) kT rfl) ⟨trivial,rfl,H⟩
  ·
   refine⟨_,_,_,rfl,rfl,rfl,fun ν a w rs E hk ht H=> ?_⟩
   have E:=Env.add (v:=.slice (sA (ν 5)) x.actors.length (sC (ν 5))) E (ht 5 (by decide) _ _ 9 rfl rfl rfl)
   have E:=Env.add (v:=.pointer (some ⟨g1,3,none⟩)) E (ht 14 (by decide) _ _ 17 rfl rfl rfl)
   have H:Tr.Inv w0 [] w ([]++([bC g1 [.int .i64 (x.top),.int .i64 (x.bottom),.slice (sA (ν 2)) x.buffer.length (sC (ν 2)),.slice aactorsA x.actors.length aactorsc,.slice atakenA x.taken.length atakenc,.slice arefusedA x.refused.length arefusedc] 30]++rs)):=H
   exact Gives.Hu rfl (kF (E.tmp rfl) (E.tmp rfl) rfl rfl GD (H.gG 0 rfl) (by simp)) ⟨trivial,rfl,H.put (us:=[.slice (sA (ν 5)) x.actors.length (sC (ν 5))]) 0 rfl rfl rfl⟩
  ·
   refine⟨_,_,_,rfl,rfl,rfl,fun ν a w rs E hk ht H=> ?_⟩
   exact Gives.val rfl (aS (o':=4) (E.tmp rfl) vX rfl) ⟨trivial,rfl,H⟩
  ·
   refine⟨_,_,_,rfl,rfl,rfl,fun ν a w rs E hk ht H=> ?_⟩
   have E:=Env.add (v:=.slice (sA (ν 8)) x.taken.length (sC (ν 8))) E (ht 8 (by decide) _ _ 12 rfl rfl rfl)
   have E:=Env.add (v:=.pointer (some ⟨g1,4,none⟩)) E (ht 16 (by decide) _ _ 18 rfl rfl rfl)
   have H:Tr.Inv w0 [] w ([]++([bC g1 [.int .i64 (x.top),.int .i64 (x.bottom),.slice (sA (ν 2)) x.buffer.length (sC (ν 2)),.slice (sA (ν 5)) x.actors.length (sC (ν 5)),.slice atakenA x.taken.length atakenc,.slice arefusedA x.refused.length arefusedc] 30]++rs)):=H
   exact Gives.Hu rfl (kF (E.tmp rfl) (E.tmp rfl) rfl rfl GH (H.gG 0 rfl) (by simp)) ⟨trivial,rfl,H.put (us:=[.slice (sA (ν 8)) x.taken.length (sC (ν 8))]) 0 rfl rfl rfl⟩
  ·
   refine⟨_,_,_,rfl,rfl,rfl,fun ν a w rs E hk ht H=> ?_⟩
   exact Gives.val rfl (aS (o':=5) (E.tmp rfl) vZ rfl) ⟨trivial,rfl,H⟩
  ·
   refine⟨_,_,_,rfl,rfl,rfl,fun ν a w rs E hk ht H=> ?_⟩
   have E:=Env.add (v:=.slice (sA (ν 11)) x.refused.length (sC (ν 11))) E (ht 11 (by decide) _ _ 15 rfl rfl rfl)
   have E:=Env.add (v:=.pointer (some ⟨g1,5,none⟩)) E (ht 18 (by decide) _ _ 19 rfl rfl rfl)
   have H:Tr.Inv w0 [] w ([]++([bC g1 [.int .i64 (x.top),.int .i64 (x.bottom),.slice (sA (ν 2)) x.buffer.length (sC (ν 2)),.slice (sA (ν 5)) x.actors.length (sC (ν 5)),.slice (sA (ν 8)) x.taken.length (sC (ν 8)),.slice arefusedA x.refused.length arefusedc] 30]++rs)):=H
   exact Gives.Hu rfl (kF (E.tmp rfl) (E.tmp rfl) rfl rfl xg (H.gG 0 rfl) (by simp)) ⟨trivial,rfl,H.put (us:=[.slice (sA (ν 11)) x.refused.length (sC (ν 11))]) 0 rfl rfl rfl⟩
 ·
  refine fun ν a w E hk ht H=> ?_
  have H:Tr.Inv w0 [] w [bC g2 [.int .i64 (0),.int .i64 (0),.slice none 0 0,.slice none 0 0,.slice none 0 0,.slice none 0 0] 30,Gr (.slice (sA (ν 2)) x.buffer.length (sC (ν 2))) 2 1 x.buffer.length (x.buffer.flatMap au),Gr (.slice (sA (ν 5)) x.actors.length (sC (ν 5))) 57 5 x.actors.length (us.map D.v),Gr (.slice (sA (ν 8)) x.taken.length (sC (ν 8))) 36 2 x.taken.length (x.taken.flatMap ak.enc),Gr (.slice (sA (ν 11)) x.refused.length (sC (ν 11))) 2 1 x.refused.length (x.refused.flatMap au),bC g1 [.int .i64 (x.top),.int .i64 (x.bottom),.slice (sA (ν 2)) x.buffer.length (sC (ν 2)),.slice (sA (ν 5)) x.actors.length (sC (ν 5)),.slice (sA (ν 8)) x.taken.length (sC (ν 8)),.slice (sA (ν 11)) x.refused.length (sC (ν 11))] 30]:=H
  have E:Env 40 a [(0,.agg #[.int .i64 (x.top),.int .i64 (x.bottom),.slice abufferA x.buffer.length abufferc,.slice aactorsA x.actors.length aactorsc,.slice atakenA x.taken.length atakenc,.slice arefusedA x.refused.length arefusedc]),(1,.pointer (some ⟨g1,0,none⟩)),(2,.pointer (some ⟨g2,0,none⟩))]:=(Env.pick E (Env.pick E (Env.pick E E.nil rfl) rfl) rfl)
  clear hk ht
  generalize (sA (ν 2))=A7 at E H
  generalize (sC (ν 2))=c8 at E H
  generalize (sA (ν 5))=A9 at E H
  generalize (sC (ν 5))=c10 at E H
  generalize (sA (ν 8))=A11 at E H
  generalize (sC (ν 8))=c12 at E H
  generalize (sA (ν 11))=A13 at E H
  generalize (sC (ν 11))=c14 at E H
  refine aj (wp_seq (wp_seq ?_))
  obtain⟨rb,p15c,p15h⟩:=H.BS 2 rfl hn0
  injection p15h with p15e p15f p15g
  revert E
  revert H
  subst p15e
  subst p15g
  intro H E
  have H:Tr.Inv w0 [] w [bC g2 [.int .i64 (0),.int .i64 (0),.slice none 0 0,.slice none 0 0,.slice none 0 0,.slice none 0 0] 30,Gr (.slice A7 x.buffer.length c8) 2 1 x.buffer.length (x.buffer.flatMap au),Gr (.slice (some ⟨rb,0,none⟩) x.actors.length c10) 57 5 x.actors.length (us.map D.v),Gr (.slice A11 x.taken.length c12) 36 2 x.taken.length (x.taken.flatMap ak.enc),Gr (.slice A13 x.refused.length c14) 2 1 x.refused.length (x.refused.flatMap au),bC g1 [.int .i64 (x.top),.int .i64 (x.bottom),.slice A7 x.buffer.length c8,.slice (some ⟨rb,0,none⟩) x.actors.length c10,.slice A11 x.taken.length c12,.slice A13 x.refused.length c14] 30]:=H
  refine wp_region_lit ?_
  refine wv E rfl (aS (o':=3) (E.tmp rfl) kT rfl) fun a E=>wv E rfl (aD (E.tmp rfl) rE (H.cell 5 rfl rfl)) fun a E=> ?_
  refine wv E rfl (dM (E.tmp rfl) vM) (fun a E=> ?_)
  refine wv E rfl (bN (aC _)) fun a E=> ?_
  refine wpList_nil (aj (wp_block ?_))
  have H:=H.front 2 rfl
  refine wp_loop_ghost (fun m a w=>∃(k:Nat),m=x.actors.length-k∧k≤x.actors.length∧Env 40 a [(1,.pointer (some ⟨g1,0,none⟩)),(2,.pointer (some ⟨g2,0,none⟩)),(22,.int .i64 (((x.actors.length:Nat):Int))),(23,.int .i64 (((k:Nat):Int)))]∧Tr.Inv w0 [] w [Gr (.slice (some ⟨rb,0,none⟩) x.actors.length c10) 57 5 x.actors.length ((x.actors.take k).flatMap ah.enc++(us.drop (k*5)).map D.v),bC g2 [.int .i64 (0),.int .i64 (0),.slice none 0 0,.slice none 0 0,.slice none 0 0,.slice none 0 0] 30,Gr (.slice A7 x.buffer.length c8) 2 1 x.buffer.length (x.buffer.flatMap au),Gr (.slice A11 x.taken.length c12) 36 2 x.taken.length (x.taken.flatMap ak.enc),Gr (.slice A13 x.refused.length c14) 2 1 x.refused.length (x.refused.flatMap au),bC g1 [.int .i64 (x.top),.int .i64 (x.bottom),.slice A7 x.buffer.length c8,.slice (some ⟨rb,0,none⟩) x.actors.length c10,.slice A11 x.taken.length c12,.slice A13 x.refused.length c14] 30]) _ ⟨0,rfl,Nat.zero_le _,(Env.pick E (Env.pick E (Env.pick E (Env.pick E E.nil rfl) rfl) rfl) rfl),H⟩ ?_
  rintro _ a w ⟨k,rfl,hk,E,H⟩
  by_cases hlt:k<x.actors.length
  ·
   skip
   obtain⟨y,hy⟩:∃y,x.actors[k]? =some y:=⟨_,qB hlt⟩
   have htl:y.todo.length≤1048576:=htd _ _ hy
   obtain⟨cs,hcs,hcd⟩:=jC.chunk ah.aV hus hy
   obtain⟨yA,yc,cs1,ec1,hyt,hyn,hcs1⟩:=jC.sl (show jC w0 [] (.sl y.todo.length (y.todo.flatMap au)::_) cs from hcs)
   obtain⟨cs2,ec2,hcs2⟩:=jC.vv hcs1
   obtain⟨cs3,ec3,hcs3⟩:=jC.vv hcs2
   obtain⟨cs4,ec4,hcs4⟩:=jC.vv hcs3
   obtain⟨cs5,ec5,hcs5⟩:=jC.vv hcs4
   have ec6:=jC.end_ hcs5
   rw[ec6]at ec5
   rw[ec5]at ec4
   rw[ec4]at ec3
   rw[ec3]at ec2
   rw[ec2]at ec1
   rw[ec1]at hcd
   rw[hcd,qZ]at H
   have H:=H.K3 (by omega)
   have H:Tr.Inv w0 [] w [cK rb c10 57 5 x.actors.length ((x.actors.take k).flatMap ah.enc) [.slice yA y.todo.length yc,.int .i64 (y.pc),.int .i64 (y.t),.int .i64 (y.b),.int .i64 (y.x)] ((us.drop ((k+1)*5)).map D.v),bC g2 [.int .i64 (0),.int .i64 (0),.slice none 0 0,.slice none 0 0,.slice none 0 0,.slice none 0 0] 30,Gr (.slice A7 x.buffer.length c8) 2 1 x.buffer.length (x.buffer.flatMap au),Gr (.slice A11 x.taken.length c12) 36 2 x.taken.length (x.taken.flatMap ak.enc),Gr (.slice A13 x.refused.length c14) 2 1 x.refused.length (x.refused.flatMap au),bC g1 [.int .i64 (x.top),.int .i64 (x.bottom),.slice A7 x.buffer.length c8,.slice (some ⟨rb,0,none⟩) x.actors.length c10,.slice A11 x.taken.length c12,.slice A13 x.refused.length c14] 30]:=H
   refine wp_seq (wp_region_lit ?_)
   refine wv E rfl (aN (E.tmp rfl) (E.tmp rfl) (iD (b:=true) (by simp;exact hlt))) fun a E=> ?_
   refine wpList_nil (aj (wp_seq ?_))
   refine bH E rfl rfl ?_
   refine wp_skip (aj (wp_seq (wp_block (wp_seq (wp_region_lit ?_)))))
   refine vm E rfl rfl fun a E=>va E rfl rfl fun a E=> ?_
   refine wpList_nil (aj ?_)
   let fl5:Flow:=⟨[.c (.pointer (some ⟨g1,3,none⟩)),{ dep:=[],val:=fun _=>.slice (some ⟨rb,0,none⟩) x.actors.length c10,rd:=[5]},.c (.int .i64 (((k:Nat):Int))),.c (.pointer (some ⟨g1,3,none⟩)),{ dep:=[],val:=fun _=>.slice (some ⟨rb,0,none⟩) x.actors.length c10,rd:=[5]},.c (.int .i64 (((k:Nat):Int))),.c (.pointer (some ⟨rb,k*5,none⟩)),.c (.pointer (some ⟨rb,k*5,none⟩)),{ dep:=[],val:=fun _=>.slice yA y.todo.length yc,rd:=[0]},{ dep:=[9],val:=fun|[x9]=>.slice (sA x9) y.todo.length (sC x9)|_=>undef,rd:=[]},.c (.pointer (some ⟨rb,k*5,none⟩)),.c (.pointer (some ⟨rb,k*5,none⟩)),.c (undef)],[{ dep:=[],res:=fun _=>cK rb c10 57 5 x.actors.length ((x.actors.take k).flatMap ah.enc) [.slice yA y.todo.length yc,.int .i64 (y.pc),.int .i64 (y.t),.int .i64 (y.b),.int .i64 (y.x)] ((us.drop ((k+1)*5)).map D.v),prod:=none,cons:=some 12},{ dep:=[],res:=fun _=>bC g2 [.int .i64 (0),.int .i64 (0),.slice none 0 0,.slice none 0 0,.slice none 0 0,.slice none 0 0] 30,prod:=none,cons:=none},{ dep:=[],res:=fun _=>Gr (.slice A7 x.buffer.length c8) 2 1 x.buffer.length (x.buffer.flatMap au),prod:=none,cons:=none},{ dep:=[],res:=fun _=>Gr (.slice A11 x.taken.length c12) 36 2 x.taken.length (x.taken.flatMap ak.enc),prod:=none,cons:=none},{ dep:=[],res:=fun _=>Gr (.slice A13 x.refused.length c14) 2 1 x.refused.length (x.refused.flatMap au),prod:=none,cons:=none},{ dep:=[],res:=fun _=>bC g1 [.int .i64 (x.top),.int .i64 (x.bottom),.slice A7 x.buffer.length c8,.slice (some ⟨rb,0,none⟩) x.actors.length c10,.slice A11 x.taken.length c12,.slice A13 x.refused.length c14] 30,prod:=none,cons:=none},{ dep:=[9],res:=fun|[x9]=>Gr (.slice (sA x9) y.todo.length (sC x9)) 2 1 y.todo.length (y.todo.flatMap au)|_=>bV.emp,prod:=some 9,cons:=none},{ dep:=[9],res:=fun|[x9]=>cK rb c10 57 5 x.actors.length ((x.actors.take k).flatMap ah.enc) [.slice (sA x9) y.todo.length (sC x9),.int .i64 (y.pc),.int .i64 (y.t),.int .i64 (y.b),.int .i64 (y.x)] ((us.drop ((k+1)*5)).map D.v)|_=>bV.emp,prod:=some 12,cons:=none}],[[],[0],[],[],[3],[],[3,4,5],[3,4,5,6],[3,4,5,6,7],[3,4,5,6,7,8],[0,1,2,3,4,5,6,7,8,9],[0,1,2,3,4,5,6,7,8,9,10],[0,1,2,3,4,5,6,7,8,9,10,11]]⟩
   have E:Env 40 a [(1,.pointer (some ⟨g1,0,none⟩)),(2,.pointer (some ⟨g2,0,none⟩)),(3,.int .i64 (((k:Nat):Int))),(22,.int .i64 (((x.actors.length:Nat):Int))),(23,.int .i64 (((k:Nat):Int))),(24,.bool (true)),(25,.int .i64 (((k:Nat):Int)))]:=(Env.pick E (Env.pick E (Env.pick E (Env.pick E (Env.pick E (Env.pick E (Env.pick E E.nil rfl) rfl) rfl) rfl) rfl) rfl) rfl)
   refine iK (rs:=[]) rfl fl5 E (by rw[qS];exact H) 13 rfl (by kernel_rfl) ?_ ?_
   ·
    refine aB.snoc (aB.snoc (aB.snoc (aB.snoc (aB.snoc (aB.snoc (aB.snoc (aB.snoc (aB.snoc (aB.snoc (aB.snoc (aB.snoc (aB.snoc (aB.zero _) ?_) ?_) ?_) ?_) ?_) ?_) ?_) ?_) ?_) ?_) ?_) ?_) ?_
    ·
     refine⟨_,_,_,rfl,rfl,rfl,fun ν a w rs E hk ht H=> ?_⟩
     exact Gives.val rfl (aS (o':=3) (E.tmp rfl) kT rfl) ⟨trivial,rfl,H⟩
    ·
     refine⟨_,_,_,rfl,rfl,rfl,fun ν a w rs E hk ht H=> ?_⟩
     have E:=Env.add (v:=.pointer (some ⟨g1,3,none⟩)) E (ht 0 (by decide) _ _ 26 rfl rfl rfl)
     have H:Tr.Inv w0 [] w ([bC g1 [.int .i64 (x.top),.int .i64 (x.bottom),.slice A7 x.buffer.length c8,.slice (some ⟨rb,0,none⟩) x.actors.length c10,.slice A11 x.taken.length c12,.slice A13 x.refused.length c14] 30]++([]++rs)):=H
     exact Gives.val rfl (aD (E.tmp rfl) rE (H.cell 0 rfl rfl)) ⟨trivial,rfl,H⟩
    ·
     refine⟨_,_,_,rfl,rfl,rfl,fun ν a w rs E hk ht H=> ?_⟩
     exact Gives.val rfl (bN (E.tmp rfl)) ⟨trivial,rfl,H⟩
    ·
     refine⟨_,_,_,rfl,rfl,rfl,fun ν a w rs E hk ht H=> ?_⟩
     exact Gives.val rfl (aS (o':=3) (E.tmp rfl) kT rfl) ⟨trivial,rfl,H⟩
    ·
     refine⟨_,_,_,rfl,rfl,rfl,fun ν a w rs E hk ht H=> ?_⟩
     have E:=Env.add (v:=.pointer (some ⟨g1,3,none⟩)) E (ht 3 (by decide) _ _ 29 rfl rfl rfl)
     have H:Tr.Inv w0 [] w ([bC g1 [.int .i64 (x.top),.int .i64 (x.bottom),.slice A7 x.buffer.length c8,.slice (some ⟨rb,0,none⟩) x.actors.length c10,.slice A11 x.taken.length c12,.slice A13 x.refused.length c14] 30]++([]++rs)):=H
     exact Gives.val rfl (aD (E.tmp rfl) rE (H.cell 0 rfl rfl)) ⟨trivial,rfl,H⟩
    ·
     refine⟨_,_,_,rfl,rfl,rfl,fun ν a w rs E hk ht H=> ?_⟩
     exact Gives.val rfl (bN (E.tmp rfl)) ⟨trivial,rfl,H⟩
    ·
     refine⟨_,_,_,rfl,rfl,rfl,fun ν a w rs E hk ht H=> ?_⟩
     have E:=Env.add (v:=.slice (some ⟨rb,0,none⟩) x.actors.length c10) E (ht 4 (by decide) _ _ 30 rfl rfl rfl)
     have E:=Env.add (v:=.int .i64 (((k:Nat):Int))) E (ht 5 (by decide) _ _ 31 rfl rfl rfl)
     exact Gives.val rfl (jX (k:=k) (o':=k*5) (E.tmp rfl) (E.tmp rfl) rfl vM (by omega) (Nat.zero_add _)) ⟨trivial,rfl,H⟩
    ·
     refine⟨_,_,_,rfl,rfl,rfl,fun ν a w rs E hk ht H=> ?_⟩
     have E:=Env.add (v:=.pointer (some ⟨rb,k*5,none⟩)) E (ht 6 (by decide) _ _ 32 rfl rfl rfl)
     exact Gives.val rfl (aS (o':=k*5) (E.tmp rfl) wm rfl) ⟨trivial,rfl,H⟩
    ·
     refine⟨_,_,_,rfl,rfl,rfl,fun ν a w rs E hk ht H=> ?_⟩
     have E:=Env.add (v:=.pointer (some ⟨rb,k*5,none⟩)) E (ht 7 (by decide) _ _ 33 rfl rfl rfl)
     have H:Tr.Inv w0 [] w ([cK rb c10 57 5 x.actors.length ((x.actors.take k).flatMap ah.enc) [.slice yA y.todo.length yc,.int .i64 (y.pc),.int .i64 (y.t),.int .i64 (y.b),.int .i64 (y.x)] ((us.drop ((k+1)*5)).map D.v)]++([]++rs)):=H
     exact Gives.val rfl (aD (E.tmp rfl) vo (H.bX 0 rfl (take_len ah.enc 5 ah.aV hlt) (j:=0) rfl)) ⟨trivial,rfl,H⟩
    ·
     refine⟨_,_,_,rfl,rfl,rfl,fun ν a w rs E hk ht H=> ?_⟩
     have E:=Env.add (v:=.slice yA y.todo.length yc) E (ht 8 (by decide) _ _ 34 rfl rfl rfl)
     have H:Tr.Inv w0 [] w ([]++([]++rs)):=H
     exact Gives.call rfl (nY (aG (E.tmp rfl) (aX)) wL) (yN y.todo.length yc yA (y.todo.flatMap au) w (hyt.at_ H (F:=[]) (by simp)) (by rw[bQ au 1 (fun _=>rfl)]) (kC tH _) (by omega)) fun e w2 ⟨A2,c2,he,hI⟩=>⟨_,he,trivial,rfl,H.rW hI⟩
    ·
     refine⟨_,_,_,rfl,rfl,rfl,fun ν a w rs E hk ht H=> ?_⟩
     have E:=Env.add (v:=.slice (some ⟨rb,0,none⟩) x.actors.length c10) E (ht 1 (by decide) _ _ 27 rfl rfl rfl)
     have E:=Env.add (v:=.int .i64 (((k:Nat):Int))) E (ht 2 (by decide) _ _ 28 rfl rfl rfl)
     exact Gives.val rfl (jX (k:=k) (o':=k*5) (E.tmp rfl) (E.tmp rfl) rfl vM (by omega) (Nat.zero_add _)) ⟨trivial,rfl,H⟩
    ·
     refine⟨_,_,_,rfl,rfl,rfl,fun ν a w rs E hk ht H=> ?_⟩
     have E:=Env.add (v:=.pointer (some ⟨rb,k*5,none⟩)) E (ht 10 (by decide) _ _ 36 rfl rfl rfl)
     exact Gives.val rfl (aS (o':=k*5) (E.tmp rfl) wm rfl) ⟨trivial,rfl,H⟩
    ·
     refine⟨_,_,_,rfl,rfl,rfl,fun ν a w rs E hk ht H=> ?_⟩
     have E:=Env.add (v:=.slice (sA (ν 9)) y.todo.length (sC (ν 9))) E (ht 9 (by decide) _ _ 35 rfl rfl rfl)
     have E:=Env.add (v:=.pointer (some ⟨rb,k*5,none⟩)) E (ht 11 (by decide) _ _ 37 rfl rfl rfl)
     have H:Tr.Inv w0 [] w ([]++([cK rb c10 57 5 x.actors.length ((x.actors.take k).flatMap ah.enc) [.slice yA y.todo.length yc,.int .i64 (y.pc),.int .i64 (y.t),.int .i64 (y.b),.int .i64 (y.x)] ((us.drop ((k+1)*5)).map D.v)]++rs)):=H
     exact Gives.Hu rfl (rZ (vs:=[.slice (sA (ν 9)) y.todo.length (sC (ν 9))]) (j:=0) (E.tmp rfl) (E.tmp rfl) rfl rfl xg H (i:=0) rfl (take_len ah.enc 5 ah.aV hlt) rfl rfl) ⟨trivial,rfl,H.oM 0 rfl (take_len ah.enc 5 ah.aV hlt) rfl rfl⟩
   ·
    refine fun ν a w E hk ht H=> ?_
    have E:=Env.add E (show a.tmps[26]? =some (.pointer (some ⟨g1,3,none⟩)) from ht 0 _ _ 26 rfl rfl rfl)
    have E:=Env.add E (show a.tmps[27]? =some (.slice (some ⟨rb,0,none⟩) x.actors.length c10) from ht 1 _ _ 27 rfl rfl rfl)
    have E:=Env.add E (show a.tmps[28]? =some (.int .i64 (((k:Nat):Int))) from ht 2 _ _ 28 rfl rfl rfl)
    have E:=Env.add E (show a.tmps[29]? =some (.pointer (some ⟨g1,3,none⟩)) from ht 3 _ _ 29 rfl rfl rfl)
    have E:=Env.add E (show a.tmps[30]? =some (.slice (some ⟨rb,0,none⟩) x.actors.length c10) from ht 4 _ _ 30 rfl rfl rfl)
    have E:=Env.add E (show a.tmps[31]? =some (.int .i64 (((k:Nat):Int))) from ht 5 _ _ 31 rfl rfl rfl)
    have E:=Env.add E (show a.tmps[32]? =some (.pointer (some ⟨rb,k*5,none⟩)) from ht 6 _ _ 32 rfl rfl rfl)
    have E:=Env.add E (show a.tmps[33]? =some (.pointer (some ⟨rb,k*5,none⟩)) from ht 7 _ _ 33 rfl rfl rfl)
    have E:=Env.add E (show a.tmps[34]? =some (.slice yA y.todo.length yc) from ht 8 _ _ 34 rfl rfl rfl)
    have E:=Env.add E (show a.tmps[35]? =some (.slice (sA (ν 9)) y.todo.length (sC (ν 9))) from ht 9 _ _ 35 rfl rfl rfl)
    have E:=Env.add E (show a.tmps[36]? =some (.pointer (some ⟨rb,k*5,none⟩)) from ht 10 _ _ 36 rfl rfl rfl)
    have E:=Env.add E (show a.tmps[37]? =some (.pointer (some ⟨rb,k*5,none⟩)) from ht 11 _ _ 37 rfl rfl rfl)
    have H:Tr.Inv w0 [] w [bC g2 [.int .i64 (0),.int .i64 (0),.slice none 0 0,.slice none 0 0,.slice none 0 0,.slice none 0 0] 30,Gr (.slice A7 x.buffer.length c8) 2 1 x.buffer.length (x.buffer.flatMap au),Gr (.slice A11 x.taken.length c12) 36 2 x.taken.length (x.taken.flatMap ak.enc),Gr (.slice A13 x.refused.length c14) 2 1 x.refused.length (x.refused.flatMap au),bC g1 [.int .i64 (x.top),.int .i64 (x.bottom),.slice A7 x.buffer.length c8,.slice (some ⟨rb,0,none⟩) x.actors.length c10,.slice A11 x.taken.length c12,.slice A13 x.refused.length c14] 30,Gr (.slice (sA (ν 9)) y.todo.length (sC (ν 9))) 2 1 y.todo.length (y.todo.flatMap au),cK rb c10 57 5 x.actors.length ((x.actors.take k).flatMap ah.enc) [.slice (sA (ν 9)) y.todo.length (sC (ν 9)),.int .i64 (y.pc),.int .i64 (y.t),.int .i64 (y.b),.int .i64 (y.x)] ((us.drop ((k+1)*5)).map D.v)]:=H
    have E:Env 40 a [(1,.pointer (some ⟨g1,0,none⟩)),(2,.pointer (some ⟨g2,0,none⟩)),(3,.int .i64 (((k:Nat):Int))),(22,.int .i64 (((x.actors.length:Nat):Int))),(23,.int .i64 (((k:Nat):Int))),(24,.bool (true)),(25,.int .i64 (((k:Nat):Int))),(26,.pointer (some ⟨g1,3,none⟩)),(27,.slice (some ⟨rb,0,none⟩) x.actors.length c10),(28,.int .i64 (((k:Nat):Int))),(29,.pointer (some ⟨g1,3,none⟩)),(30,.slice (some ⟨rb,0,none⟩) x.actors.length c10),(31,.int .i64 (((k:Nat):Int))),(32,.pointer (some ⟨rb,k*5,none⟩)),(33,.pointer (some ⟨rb,k*5,none⟩)),(34,.slice yA y.todo.length yc),(35,.slice (sA (ν 9)) y.todo.length (sC (ν 9))),(36,.pointer (some ⟨rb,k*5,none⟩)),(37,.pointer (some ⟨rb,k*5,none⟩))]:=(Env.pick E (Env.pick E (Env.pick E (Env.pick E (Env.pick E (Env.pick E (Env.pick E (Env.pick E (Env.pick E (Env.pick E (Env.pick E (Env.pick E (Env.pick E (Env.pick E (Env.pick E (Env.pick E (Env.pick E (Env.pick E (Env.pick E E.nil rfl) rfl) rfl) rfl) rfl) rfl) rfl) rfl) rfl) rfl) rfl) rfl) rfl) rfl) rfl) rfl) rfl) rfl) rfl)
    clear hk ht
    generalize (sA (ν 9))=A17 at E H
    generalize (sC (ν 9))=c18 at E H
    refine fO (aj (wp_region_lit ?_))
    refine wv E rfl (aN (E.tmp rfl) (aC _) (kP (fQ (by omega)))) fun a E=>vm E rfl rfl fun a E=> ?_
    refine wpList_nil ?_
    have H:=H.iF
    have H:=H.bU (x:=.int .i64 (y.x)) rfl
    have H:=H.bU (x:=.int .i64 (y.b)) rfl
    have H:=H.bU (x:=.int .i64 (y.t)) rfl
    have H:=H.bU (x:=.int .i64 (y.pc)) rfl
    have H:=H.front 6 rfl
    have H:=H.fE (by rw[bQ au 1 (fun _=>rfl)])
    have H:=H.gX
    have H:=H.front 6 rfl
    have H:=Tr.Inv.shut (d:=y.enc) H
    rw[←qF,show(x.actors.take k).flatMap ah.enc++y.enc=(x.actors.take (k+1)).flatMap ah.enc by rw[List.take_add_one,hy,List.flatMap_append];simp]at H
    have H:Tr.Inv w0 [] w [Gr (.slice (some ⟨rb,0,none⟩) x.actors.length c10) 57 5 x.actors.length ((x.actors.take (k+1)).flatMap ah.enc++(us.drop ((k+1)*5)).map D.v),bC g2 [.int .i64 (0),.int .i64 (0),.slice none 0 0,.slice none 0 0,.slice none 0 0,.slice none 0 0] 30,Gr (.slice A7 x.buffer.length c8) 2 1 x.buffer.length (x.buffer.flatMap au),Gr (.slice A11 x.taken.length c12) 36 2 x.taken.length (x.taken.flatMap ak.enc),Gr (.slice A13 x.refused.length c14) 2 1 x.refused.length (x.refused.flatMap au),bC g1 [.int .i64 (x.top),.int .i64 (x.bottom),.slice A7 x.buffer.length c8,.slice (some ⟨rb,0,none⟩) x.actors.length c10,.slice A11 x.taken.length c12,.slice A13 x.refused.length c14] 30]:=H
    have H:=H.front 5 rfl
    have H:=H.front 5 rfl
    have H:=H.front 5 rfl
    have H:=H.front 5 rfl
    have H:=H.front 5 rfl
    have H:=H.front 5 rfl
    exact aj ⟨_,by omega,k+1,rfl,by omega,(Env.pick E (Env.pick E (Env.pick E (Env.pick E E.nil rfl) rfl) rfl) rfl),H⟩
  ·
   skip
   have hkn:k=x.actors.length:=by omega
   rw[hkn,List.take_length,show us.drop (x.actors.length*5)=[] from List.drop_eq_nil_of_le (by omega),List.map_nil,qS]at H
   have H:Tr.Inv w0 [] w [Gr (.slice (some ⟨rb,0,none⟩) x.actors.length c10) 57 5 x.actors.length (x.actors.flatMap ah.enc),bC g2 [.int .i64 (0),.int .i64 (0),.slice none 0 0,.slice none 0 0,.slice none 0 0,.slice none 0 0] 30,Gr (.slice A7 x.buffer.length c8) 2 1 x.buffer.length (x.buffer.flatMap au),Gr (.slice A11 x.taken.length c12) 36 2 x.taken.length (x.taken.flatMap ak.enc),Gr (.slice A13 x.refused.length c14) 2 1 x.refused.length (x.refused.flatMap au),bC g1 [.int .i64 (x.top),.int .i64 (x.bottom),.slice A7 x.buffer.length c8,.slice (some ⟨rb,0,none⟩) x.actors.length c10,.slice A11 x.taken.length c12,.slice A13 x.refused.length c14] 30]:=H
   refine wp_seq (wp_region_lit ?_)
   refine wv E rfl (aN (E.tmp rfl) (E.tmp rfl) (iD (b:=false) (by simp;omega))) fun a E=> ?_
   refine wpList_nil (aj (wp_seq ?_))
   refine bG E rfl rfl ?_
   refine wp_exit (gQ (gQ (mO (aj (wp_seq (wp_region_lit ?_))))))
   refine wv E rfl (fJ (us:=[.int .i64 (x.top),.int .i64 (x.bottom),.slice A7 x.buffer.length c8,.slice (some ⟨rb,0,none⟩) x.actors.length c10,.slice A11 x.taken.length c12,.slice A13 x.refused.length c14]) (E.tmp rfl) zQ xk (H.bg 5 rfl)) fun a E=> ?_
   refine jA (us:=[.int .i64 (x.top),.int .i64 (x.bottom),.slice A7 x.buffer.length c8,.slice (some ⟨rb,0,none⟩) x.actors.length c10,.slice A11 x.taken.length c12,.slice A13 x.refused.length c14]) (cs':=[.int .i64 (x.top),.int .i64 (x.bottom),.slice A7 x.buffer.length c8,.slice (some ⟨rb,0,none⟩) x.actors.length c10,.slice A11 x.taken.length c12,.slice A13 x.refused.length c14]) (rs':=[_,bC _ [.int .i64 (x.top),.int .i64 (x.bottom),.slice A7 x.buffer.length c8,.slice (some ⟨rb,0,none⟩) x.actors.length c10,.slice A11 x.taken.length c12,.slice A13 x.refused.length c14] _,_,_,_,_]) E (E.tmp rfl) (E.tmp rfl) rfl xk H (i:=1) rfl rfl rfl rfl (fun a w E H=> ?_)
   refine wpList_nil (aj (wp_ret ?_))
   refine bB E rfl (AL (us:=[.int .i64 (x.top),.int .i64 (x.bottom),.slice A7 x.buffer.length c8,.slice (some ⟨rb,0,none⟩) x.actors.length c10,.slice A11 x.taken.length c12,.slice A13 x.refused.length c14]) E rfl zQ xk (H.bg 1 rfl)) ?_
   have H:=H.front 4 rfl
   have H:=H.front 4 rfl
   have H:=H.front 2 rfl
   have H:=H.front 4 rfl
   have H:=H.drop 4 rfl
   have H:=H.drop 4 rfl
   exact⟨_,_,_,_,_,_,_,_,rfl,H⟩
end Go.Proofs.Ytjpaeopdljfjpaa
