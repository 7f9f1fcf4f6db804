
/- A reduction on both sides: the loops walked. Printed by gen_yl.py. -/
import Derived.Test.YtemalpelcdmemaaGreatShort
import Derived.Test.YtemalpelcdmemaaGreatYl
import Derived.Test.YtemalpelcdmemaaGreatUg
set_option linter.unusedSimpArgs false
set_option linter.unusedVariables false
namespace Go.Proofs.YtemalpelcdmemaaGreat
open Go Go.RowKit Go.Proofs Go.Tr
theorem pairsB(ys:List NAgent)(us:List Value)(pk:Int)(tr:List Int)(hl:ys.length≤1000000)(h0:0<ys.length)(hp:∀i:Nat,i<ys.length→cB ys i=true→0<(ah ys (i:Nat)).2.2.2.2.length):
  FCall Tryz.prog 72 [.ptr 10000 0] (tB ys us pk tr) (.sl 10003) ([.row 10003 96 2 uPort (prsN ys) []]++tB ys us pk tr):=
 FCall.of_f (ts2:=[.row 10003 96 2 uPort (prsN ys) []]) ti_ok [71] UW (Zb ys hl h0 hp) rfl rfl rfl
abbrev tB0(s:GSt):List Tok:=[.cel 10000 124 [.sl 10001,.raw (.slice none 0 0),.int .i64 (pkOf s.cu)],.row 10001 150 5 uAgent s.P []]
abbrev tBr(t:GSt):List Tok:=[.cel 10000 124 [.sl 10002,.sl 10003,.int .i64 (pkOf t.cu)],.row 10002 150 5 uAgent (refP false t.P) [],.row 10003 2 1 (.int .i64) t.tr []]
def gBT(s:GSt):List Tok:=[.cel 10000 124 [.sl 20000,.sl 20001,.int .i64 (pkOf s.cu)],.row 20000 150 5 uAgent s.P [],.row 20001 2 1 (.int .i64) s.tr []]
section
variable (bk:List (List NAgent))(sch:List Int)(most:Int)
abbrev tU0(s:GSt):List Tok:=[.cel 10000 129 [.ptr 10001 0,.sl 10004,.raw (.slice none 0 0),.sl 10005,.raw (.slice none 0 0)],.cel 10001 109 [.sl 10002,.rsl uNet bk,.mp 10003],.row 10002 150 5 uAgent s.xs [],.map 10003 .bool s.kv,.row 10004 2 1 (.int .i64) s.cn [],.row 10005 2 1 (.int .i64) s.cu []]
abbrev tUr(t:GSt):List Tok:=[.cel 10000 129 [.ptr 10006 0,.sl 10004,.sl 10009,.sl 10010,.sl 10011],.cel 10006 109 [.sl 10007,.rsl uNet bk,.mp 10008],.row 10007 150 5 uAgent t.xs [],.map 10008 .bool t.kv,.row 10004 2 1 (.int .i64) t.cn [],.row 10009 2 1 (.int .i64) t.tr [],.row 10010 2 1 (.int .i64) t.cu [],.row 10011 2 1 (.int .i64) t.ex []]
def gUT(s:GSt):List Tok:=[.cel 10000 129 [.ptr 20000 0,.sl 10004,.sl 20003,.sl 20004,.sl 20005],.cel 20000 109 [.sl 20001,.rsl uNet bk,.mp 20002],.row 20001 150 5 uAgent s.xs [],.map 20002 .bool s.kv,.row 10004 2 1 (.int .i64) s.cn [],.row 20003 2 1 (.int .i64) s.tr [],.row 20004 2 1 (.int .i64) s.cu [],.row 20005 2 1 (.int .i64) s.ex []]
set_option maxRecDepth 100000 in
set_option maxHeartbeats 4000000 in
theorem YR{s0 t:GSt}{b:Bool}{c:Int}(hsch:∀z∈sch,0≤z)(h0:s0.tr=[])(R:GTo false bk sch most s0 b c t):FCall Tryz.prog 91 [.rsl uNet bk,.ptr 10000 0,.rsl (.int .i64) sch,.int .i64 most] (tB0 s0) (.tup [.bool b,.int .i64 c]) (tBr t):=by
 refine FCall.intro (nt:=63) ti_ok mixed (by kernel_rfl) Tryz.func91 rfl rfl rfl rfl rfl rfl ?_;refine lp GSt (fun _=>[]) gBT (fun s=>4001-s.tr.length) (fun s=>GTo false bk sch most s b c t) s0 R ?_ ?_
 ·exact hdm [⟨2010000,30000,2,1,(.int .i64)⟩] [(20000,10001),(20001,30000)] rfl (aI trivial ⟨trivial,⟨rfl,rfl,⟨rfl,rfl⟩,trivial⟩,⟨rfl,List.nil_prefix⟩,⟨h0.symm,List.nil_prefix⟩,trivial⟩)
 intro s hR;have g:GOk bk s:=GTo.ok hR;obtain⟨⟨N1,rs1⟩,lp1⟩:=g.ref false;have lt:=g.tr;have lP:=g.lp;refine aI (fun q1=> ?_) (fun q1=> ?_)
 ·have er:refP false s.P=packN s.P:=by unfold refP;rw[show decide (1200<(s.P.length:Int))=true from q1];rfl
  obtain⟨sm,al⟩:=g.rs.small (by omega);refine Or.inr (eI _ (eI _ (aI (packB s.P [] (pkOf s.cu) s.tr sm (by omega) al) ?_)));refine Or.inr (eI _ (eI _ (aI (pairsB (packN s.P) [] (pkOf s.cu) s.tr (by rw[←er];omega) (by rw[←er];exact rs1.pos) (by rw[←er];exact rs1.portsP)) ?_)));refine aI (fun q2=> ?_) (fun q2=> ?_)
  ·have q2':((((prsN (packN s.P)).length:Nat):Int)==0)=true:=q2;have hz:(prsN (packN s.P)).length=0:=by simpa using q2'
   cases hR with
   |done=>exact fin [(10002,24),(10003,20001)] (aI rfl ⟨trivial,⟨rfl,rfl,⟨rfl,rfl⟩,trivial⟩,⟨er.symm,List.nil_prefix⟩,⟨rfl,List.nil_prefix⟩,trivial⟩)
   |most _ _ h=>rw[er]at h;omega
   |bad _ _ h=>rw[er]at h;omega
   |next _ _ _ h=>rw[er]at h;omega
  have q2':((((prsN (packN s.P)).length:Nat):Int)==0)=false:=q2;have hz0:¬(((prsN (packN s.P)).length:Nat):Int)=0:=by simpa using q2'
  have hz:0<(prsN (packN s.P)).length:=by omega
  refine aI (fun q8=> ?_) (fun q8=> ?_)
  ·have q9:decide (most≤((s.tr.length:Nat):Int))=true:=q8;have q10:most≤((s.tr.length:Nat):Int):=by simpa using q9
   cases hR with
   |done _ _ h=>rw[er]at h;omega
   |most=>exact fin [(10002,24),(10003,20001)] (aI rfl ⟨trivial,⟨rfl,rfl,⟨rfl,rfl⟩,trivial⟩,⟨er.symm,List.nil_prefix⟩,⟨rfl,List.nil_prefix⟩,trivial⟩)
   |bad _ _ _ h=>omega
   |next _ _ _ _ h=>omega
  have q9:decide (most≤((s.tr.length:Nat):Int))=false:=q8;have q10:¬most≤((s.tr.length:Nat):Int):=by simpa using q9
  have hb:=selI_in hsch (n:=(((prsN (packN s.P)).length:Nat):Int)) (by omega) ((s.tr.length:Nat):Int);refine aI (fun q3=> ?_) (fun q3=> ?_)
  ·have q4:decide (0<((sch.length:Nat):Int))=true:=q3;have q5:0<((sch.length:Nat):Int):=by simpa using q4
   have e:=sel_t sch (prsN (packN s.P)) ((s.tr.length:Nat):Int) q4;have e0:elt 0 sch (((s.tr.length:Nat):Int).tmod ((sch.length:Nat):Int))=schS sch ((s.tr.length:Nat):Int):=by unfold schS;rw[q4];rfl
   have hb2:0≤(elt 0 sch (((s.tr.length:Nat):Int).tmod ((sch.length:Nat):Int))).tmod (((prsN (packN s.P)).length:Nat):Int)∧(elt 0 sch (((s.tr.length:Nat):Int).tmod ((sch.length:Nat):Int))).tmod (((prsN (packN s.P)).length:Nat):Int)<(((prsN (packN s.P)).length:Nat):Int):=by rw[e0];exact hb
   refine aI (show((sch.length:Nat):Int)≠0 by omega) ?_;refine aI (tmodU (by omega) q5) ?_;refine aI (show(((prsN (packN s.P)).length:Nat):Int)≠0 by omega) ?_;refine aI hb2 ?_;cases hR with
   |done _ _ h=>rw[er]at h;omega
   |most _ _ _ h=>omega
   |bad _ _ _ _ c2 hc2 hI hS=>
    unfold gQ at hS;rw[er,←e]at hS;refine Or.inr (eI _ (eI _ (aI hS ?_)));refine aI (fun q6=> ?_) (fun q6=> ?_)
    ·exact fin [(10002,24),(10003,20001)] (aI rfl ⟨trivial,⟨rfl,rfl,⟨rfl,rfl⟩,trivial⟩,⟨er.symm,List.nil_prefix⟩,⟨rfl,List.nil_prefix⟩,trivial⟩)
    ·exfalso;have q7:(c !=0)=false:=q6;simp at q7;exact hc2 q7
   |next _ s2 _ _ _ l hI hS r=>
    unfold gQ at hS;rw[er,←e]at hS;refine Or.inr (eI _ (eI _ (aI hS ?_)));refine aI (fun q6=>by cases q6) (fun q6=> ?_);refine lp_next s2 r ?_ ?_
    ·exact hd [(20000,59),(20001,1000059)] rfl trivial ⟨trivial,⟨rfl,rfl,⟨rfl,rfl⟩,trivial⟩,⟨rfl,List.nil_prefix⟩,⟨rfl,List.nil_prefix⟩,trivial⟩
    ·show 4001-s2.tr.length<4001-s.tr.length;omega
  ·have q4:decide (0<((sch.length:Nat):Int))=false:=q3;have e:=sel_f sch (prsN (packN s.P)) ((s.tr.length:Nat):Int) q4;have hb2:(0:Int)≤0∧(0:Int)<(((prsN (packN s.P)).length:Nat):Int):=by omega
   refine aI hb2 ?_;cases hR with
   |done _ _ h=>rw[er]at h;omega
   |most _ _ _ h=>omega
   |bad _ _ _ _ c2 hc2 hI hS=>
    unfold gQ at hS;rw[er,←e]at hS;refine Or.inr (eI _ (eI _ (aI hS ?_)));refine aI (fun q6=> ?_) (fun q6=> ?_)
    ·exact fin [(10002,24),(10003,20001)] (aI rfl ⟨trivial,⟨rfl,rfl,⟨rfl,rfl⟩,trivial⟩,⟨er.symm,List.nil_prefix⟩,⟨rfl,List.nil_prefix⟩,trivial⟩)
    ·exfalso;have q7:(c !=0)=false:=q6;simp at q7;exact hc2 q7
   |next _ s2 _ _ _ l hI hS r=>
    unfold gQ at hS;rw[er,←e]at hS;refine Or.inr (eI _ (eI _ (aI hS ?_)));refine aI (fun q6=>by cases q6) (fun q6=> ?_);refine lp_next s2 r ?_ ?_
    ·exact hd [(20000,59),(20001,1000059)] rfl trivial ⟨trivial,⟨rfl,rfl,⟨rfl,rfl⟩,trivial⟩,⟨rfl,List.nil_prefix⟩,⟨rfl,List.nil_prefix⟩,trivial⟩
    ·show 4001-s2.tr.length<4001-s.tr.length;omega
 ·have er:refP false s.P=s.P:=by unfold refP;rw[show decide (1200<(s.P.length:Int))=false from q1];rfl
  refine Or.inr (eI _ (eI _ (aI (pairsB s.P [] (pkOf s.cu) s.tr (by rw[←er];omega) (by rw[←er];exact rs1.pos) (by rw[←er];exact rs1.portsP)) ?_)));refine aI (fun q2=> ?_) (fun q2=> ?_)
  ·have q2':((((prsN s.P).length:Nat):Int)==0)=true:=q2;have hz:(prsN s.P).length=0:=by simpa using q2'
   cases hR with
   |done=>exact fin [(10002,20000),(10003,20001)] (aI rfl ⟨trivial,⟨rfl,rfl,⟨rfl,rfl⟩,trivial⟩,⟨er.symm,List.nil_prefix⟩,⟨rfl,List.nil_prefix⟩,trivial⟩)
   |most _ _ h=>rw[er]at h;omega
   |bad _ _ h=>rw[er]at h;omega
   |next _ _ _ h=>rw[er]at h;omega
  have q2':((((prsN s.P).length:Nat):Int)==0)=false:=q2;have hz0:¬(((prsN s.P).length:Nat):Int)=0:=by simpa using q2'
  have hz:0<(prsN s.P).length:=by omega
  refine aI (fun q8=> ?_) (fun q8=> ?_)
  ·have q9:decide (most≤((s.tr.length:Nat):Int))=true:=q8;have q10:most≤((s.tr.length:Nat):Int):=by simpa using q9
   cases hR with
   |done _ _ h=>rw[er]at h;omega
   |most=>exact fin [(10002,20000),(10003,20001)] (aI rfl ⟨trivial,⟨rfl,rfl,⟨rfl,rfl⟩,trivial⟩,⟨er.symm,List.nil_prefix⟩,⟨rfl,List.nil_prefix⟩,trivial⟩)
   |bad _ _ _ h=>omega
   |next _ _ _ _ h=>omega
  have q9:decide (most≤((s.tr.length:Nat):Int))=false:=q8;have q10:¬most≤((s.tr.length:Nat):Int):=by simpa using q9
  have hb:=selI_in hsch (n:=(((prsN s.P).length:Nat):Int)) (by omega) ((s.tr.length:Nat):Int);refine aI (fun q3=> ?_) (fun q3=> ?_)
  ·have q4:decide (0<((sch.length:Nat):Int))=true:=q3;have q5:0<((sch.length:Nat):Int):=by simpa using q4
   have e:=sel_t sch (prsN s.P) ((s.tr.length:Nat):Int) q4;have e0:elt 0 sch (((s.tr.length:Nat):Int).tmod ((sch.length:Nat):Int))=schS sch ((s.tr.length:Nat):Int):=by unfold schS;rw[q4];rfl
   have hb2:0≤(elt 0 sch (((s.tr.length:Nat):Int).tmod ((sch.length:Nat):Int))).tmod (((prsN s.P).length:Nat):Int)∧(elt 0 sch (((s.tr.length:Nat):Int).tmod ((sch.length:Nat):Int))).tmod (((prsN s.P).length:Nat):Int)<(((prsN s.P).length:Nat):Int):=by rw[e0];exact hb
   refine aI (show((sch.length:Nat):Int)≠0 by omega) ?_;refine aI (tmodU (by omega) q5) ?_;refine aI (show(((prsN s.P).length:Nat):Int)≠0 by omega) ?_;refine aI hb2 ?_;cases hR with
   |done _ _ h=>rw[er]at h;omega
   |most _ _ _ h=>omega
   |bad _ _ _ _ c2 hc2 hI hS=>
    unfold gQ at hS;rw[er,←e]at hS;refine Or.inr (eI _ (eI _ (aI hS ?_)));refine aI (fun q6=> ?_) (fun q6=> ?_)
    ·exact fin [(10002,20000),(10003,20001)] (aI rfl ⟨trivial,⟨rfl,rfl,⟨rfl,rfl⟩,trivial⟩,⟨er.symm,List.nil_prefix⟩,⟨rfl,List.nil_prefix⟩,trivial⟩)
    ·exfalso;have q7:(c !=0)=false:=q6;simp at q7;exact hc2 q7
   |next _ s2 _ _ _ l hI hS r=>
    unfold gQ at hS;rw[er,←e]at hS;refine Or.inr (eI _ (eI _ (aI hS ?_)));refine aI (fun q6=>by cases q6) (fun q6=> ?_);refine lp_next s2 r ?_ ?_
    ·exact hd [(20000,59),(20001,1000059)] rfl trivial ⟨trivial,⟨rfl,rfl,⟨rfl,rfl⟩,trivial⟩,⟨rfl,List.nil_prefix⟩,⟨rfl,List.nil_prefix⟩,trivial⟩
    ·show 4001-s2.tr.length<4001-s.tr.length;omega
  ·have q4:decide (0<((sch.length:Nat):Int))=false:=q3;have e:=sel_f sch (prsN s.P) ((s.tr.length:Nat):Int) q4;have hb2:(0:Int)≤0∧(0:Int)<(((prsN s.P).length:Nat):Int):=by omega
   refine aI hb2 ?_;cases hR with
   |done _ _ h=>rw[er]at h;omega
   |most _ _ _ h=>omega
   |bad _ _ _ _ c2 hc2 hI hS=>
    unfold gQ at hS;rw[er,←e]at hS;refine Or.inr (eI _ (eI _ (aI hS ?_)));refine aI (fun q6=> ?_) (fun q6=> ?_)
    ·exact fin [(10002,20000),(10003,20001)] (aI rfl ⟨trivial,⟨rfl,rfl,⟨rfl,rfl⟩,trivial⟩,⟨er.symm,List.nil_prefix⟩,⟨rfl,List.nil_prefix⟩,trivial⟩)
    ·exfalso;have q7:(c !=0)=false:=q6;simp at q7;exact hc2 q7
   |next _ s2 _ _ _ l hI hS r=>
    unfold gQ at hS;rw[er,←e]at hS;refine Or.inr (eI _ (eI _ (aI hS ?_)));refine aI (fun q6=>by cases q6) (fun q6=> ?_);refine lp_next s2 r ?_ ?_
    ·exact hd [(20000,59),(20001,1000059)] rfl trivial ⟨trivial,⟨rfl,rfl,⟨rfl,rfl⟩,trivial⟩,⟨rfl,List.nil_prefix⟩,⟨rfl,List.nil_prefix⟩,trivial⟩
    ·show 4001-s2.tr.length<4001-s.tr.length;omega
set_option maxRecDepth 100000 in
set_option maxHeartbeats 4000000 in
theorem Vm{al:Bool}{s0 t:GSt}{b:Bool}{c:Int}(hsch:∀z∈sch,0≤z)(h0:s0.tr=[])(h1:s0.ex=[])(R:GTo al bk sch most s0 b c t):FCall Tryz.prog 148 [.ptr 10000 0,.rsl (.int .i64) sch,.int .i64 most] (tU0 bk s0) (.tup [.bool b,.int .i64 c]) (tUr bk t):=by
 refine FCall.intro (nt:=29) ti_ok mixed (by kernel_rfl) Tryz.func148 rfl rfl rfl rfl rfl rfl ?_;refine lp GSt (fun _=>[]) (gUT bk) (fun s=>4001-s.tr.length) (fun s=>GTo al bk sch most s b c t) s0 R ?_ ?_
 ·exact hdm [⟨3010000,30000,2,1,(.int .i64)⟩,⟨5010000,30001,2,1,(.int .i64)⟩] [(20000,10001),(20001,10002),(20002,10003),(20003,30000),(20004,10005),(20005,30001)] rfl (aI trivial ⟨trivial,⟨rfl,rfl,rfl,rfl,rfl,trivial⟩,trivial,⟨rfl,rfl,rfl,trivial⟩,⟨rfl,List.nil_prefix⟩,rfl,⟨rfl,List.nil_prefix⟩,⟨h0.symm,List.nil_prefix⟩,⟨rfl,List.nil_prefix⟩,⟨h1.symm,List.nil_prefix⟩,trivial⟩)
 intro s hR;have g:GOk bk s:=GTo.ok hR;have lt:=g.tr;have lx:=g.lx;have pl:=g.Rz al;refine Or.inr (eI _ (eI _ (aI (actU s.xs [] bk s.kv s.cn s.tr s.cu s.ex (by omega) (RO g.rs.wx)) ?_)));refine aI (fun q2=> ?_) (fun q2=> ?_)
 ·have q2':((((zQ s.xs s.kv).length:Nat):Int)==0)=true:=q2;have hz:(zQ s.xs s.kv).length=0:=by simpa using q2'
  cases hR with
  |done=>exact fin [(10006,20000),(10007,20001),(10008,20002),(10009,20003),(10010,20004),(10011,20005)] (aI rfl ⟨trivial,⟨rfl,rfl,rfl,rfl,rfl,trivial⟩,trivial,⟨rfl,rfl,rfl,trivial⟩,⟨rfl,List.nil_prefix⟩,rfl,⟨rfl,List.nil_prefix⟩,⟨rfl,List.nil_prefix⟩,⟨rfl,List.nil_prefix⟩,⟨rfl,List.nil_prefix⟩,trivial⟩)
  |most _ _ h=>omega
  |bad _ _ h=>omega
  |next _ _ _ h=>omega
 have q2':((((zQ s.xs s.kv).length:Nat):Int)==0)=false:=q2;have hz0:¬(((zQ s.xs s.kv).length:Nat):Int)=0:=by simpa using q2'
 have hz:0<(zQ s.xs s.kv).length:=by omega
 refine Or.inr (eI _ (eI _ (aI (X0 s.xs [] bk s.kv s.cn s.tr s.cu s.ex) ?_)));refine aI (fun q3=> ?_) (fun q3=> ?_)
 ·have q4:(((s.tr.length:Nat):Int)==most)=true:=q3;have q5:((s.tr.length:Nat):Int)=most:=by simpa using q4
  cases hR with
  |done _ _ h=>omega
  |most=>exact fin [(10006,20000),(10007,20001),(10008,20002),(10009,20003),(10010,20004),(10011,20005)] (aI rfl ⟨trivial,⟨rfl,rfl,rfl,rfl,rfl,trivial⟩,trivial,⟨rfl,rfl,rfl,trivial⟩,⟨rfl,List.nil_prefix⟩,rfl,⟨rfl,List.nil_prefix⟩,⟨rfl,List.nil_prefix⟩,⟨rfl,List.nil_prefix⟩,⟨rfl,List.nil_prefix⟩,trivial⟩)
  |bad _ _ _ h=>omega
  |next _ _ _ _ h=>omega
 have q4:(((s.tr.length:Nat):Int)==most)=false:=q3;have q5:¬((s.tr.length:Nat):Int)=most:=by simpa using q4
 refine Or.inr (eI _ (eI _ (aI (X0 s.xs [] bk s.kv s.cn s.tr s.cu s.ex) ?_)));refine Or.inr (eI _ (eI _ (aI (selE sch (zQ s.xs s.kv) ((s.tr.length:Nat):Int) hsch (by omega) hz) ?_)));cases hR with
 |done _ _ h=>omega
 |most _ _ _ h=>omega
 |bad _ _ _ _ c2 hc2 hI hS=>
  refine Or.inr (eI _ (eI _ (aI hI ?_)));refine aI (fun q6=> ?_) (fun q6=> ?_)
  ·exact fin [(10006,20000),(10007,20001),(10008,20002),(10009,20003),(10010,20004),(10011,20005)] (aI rfl ⟨trivial,⟨rfl,rfl,rfl,rfl,rfl,trivial⟩,trivial,⟨rfl,rfl,rfl,trivial⟩,⟨rfl,List.nil_prefix⟩,rfl,⟨rfl,List.nil_prefix⟩,⟨rfl,List.nil_prefix⟩,⟨rfl,List.nil_prefix⟩,⟨rfl,List.nil_prefix⟩,trivial⟩)
  ·exfalso;have q7:(c !=0)=false:=q6;simp at q7;exact hc2 q7
 |next _ s2 _ _ _ l hI hS r=>
  refine Or.inr (eI _ (eI _ (aI hI ?_)));refine aI (fun q6=>by cases q6) (fun q6=> ?_);refine lp_next s2 r ?_ ?_
  ·exact hd [(20000,25),(20001,1000025),(20002,2000025),(20003,3000025),(20004,4000025),(20005,5000025)] rfl trivial ⟨trivial,⟨rfl,rfl,rfl,rfl,rfl,trivial⟩,trivial,⟨rfl,rfl,rfl,trivial⟩,⟨rfl,List.nil_prefix⟩,rfl,⟨rfl,List.nil_prefix⟩,⟨rfl,List.nil_prefix⟩,⟨rfl,List.nil_prefix⟩,⟨rfl,List.nil_prefix⟩,trivial⟩
  ·show 4001-s2.tr.length<4001-s.tr.length;omega
end
end Go.Proofs.YtemalpelcdmemaaGreat
