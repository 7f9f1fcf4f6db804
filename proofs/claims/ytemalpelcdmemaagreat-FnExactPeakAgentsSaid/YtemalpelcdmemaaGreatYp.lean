
/- Reductions to the end or by some steps: what the reference does. Printed by gen_yo.py. -/
import Derived.Test.YtemalpelcdmemaaGreatShort
import Derived.Test.YtemalpelcdmemaaGreatYn
set_option maxRecDepth 100000
set_option linter.unusedSimpArgs false
set_option linter.unusedVariables false
namespace Go.Proofs.YtemalpelcdmemaaGreat
open Go Go.RowKit Go.Proofs Go.Tr
theorem KI:callOk Tryz.prog 93=true:=by kernel_rfl
theorem UJ:callOk Tryz.prog 96=true:=by kernel_rfl
theorem SF(tr:List Int)(ht:tr.length≤100000)(hr:∀z∈tr,1≤z∧z≤7):FCall Tryz.prog 96 [.rsl (.int .i64) tr] [] (.sl 10000) [.row 10000 2 1 (.int .i64) (qp tr) []]:=by
 refine FCall.intro (nt:=23) ti_ok mixed UJ Tryz.func96 rfl rfl rfl rfl rfl rfl ?_;refine lp Nat (fun i=>[(4,.int .i64 (i:Nat)),(3,.sl 20000)]) (fun i=>[.row 20000 2 1 (.int .i64) (qp (tr.take i)) []]) (fun i=>tr.length-i) (fun i=>i≤tr.length) 0 (Nat.zero_le _) ?_ ?_
 ·exact hd [(20000,5)] rfl (aI (aI rfl rfl) (aI rfl trivial)) ⟨⟨rfl,List.nil_prefix⟩,trivial⟩
 intro i hi;refine aI (fun q1=> ?_) (fun q1=> ?_)
 ·have hlt:i<tr.length:=ltU q1;have hk:0≤((i:Nat):Int)∧((i:Nat):Int)<(tr.length:Nat):=by omega
  have hcn:=Fe (tr:=tr.take i) (by rw[List.length_take];omega)
  have ei:elt 0 tr ((i:Nat):Int)=tr[i]:=by
   unfold elt;rw[Int.toNat_natCast,List.getD_eq_getElem?_getD,List.getElem?_eq_getElem hlt];rfl
  have hz:=hr _ (List.getElem_mem hlt);rw[←ei]at hz;have hb:=NJ hcn hz;refine aI hk ?_;refine aI hb ?_;refine aI hb ?_;refine lp_next (i+1) hlt ?_ ?_
  ·refine hd [] rfl (aI (aI (wrapS (by omega)) rfl) (aI rfl trivial)) ⟨⟨?_,List.nil_prefix⟩,trivial⟩;have e:tr.take (i+1)=tr.take i++[elt 0 tr ((i:Nat):Int)]:=by rw[List.take_add_one,List.getElem?_eq_getElem hlt,ei];rfl
   rw[e,Cj];exact NK hcn hz
  ·show tr.length-(i+1)<tr.length-i;omega
 ·have hge:tr.length≤i:=geU q1;have hi':i≤tr.length:=hi;obtain rfl:i=tr.length:=by omega
  refine fin [(10000,20000)] (aI rfl ?_);refine⟨⟨?_,List.nil_prefix⟩,trivial⟩;show qp (tr.take tr.length)=qp tr;rw[List.take_length]
section
variable (bk:List (List NAgent))(xs:List NAgent)(sch:List Int)(st:Int)
theorem R8(hs:NetSmall xs)(hsch:∀z∈sch,0≤z){t:GSt}(R:GTo false bk sch st (g0 xs) false 0 t)(sm:NetSmall (refP false t.P))(al:bE (refP false t.P))(hl:(refP false t.P).length≤900000):FCall Tryz.prog 93 [.rsl uNet bk,.rp uNet xs,.rsl (.int .i64) sch,.int .i64 st] [] (.tup [.ptr 10000 0,.int .i64 12]) [.cel 10000 124 [.sl 10001,.sl 10002,.int .i64 (pkOf t.cu)],.row 10001 150 5 uAgent (packN (refP false t.P)) [],.row 10002 2 1 (.int .i64) t.tr []]:=by
 refine FCall.intro (nt:=35) ti_ok mixed KI Tryz.func93 rfl rfl rfl rfl rfl rfl ?_;refine Or.inr (eI _ (eI _ (aI (beginS xs hs) ?_)));refine Or.inr (eI _ (eI _ (aI (YR bk sch st hsch rfl R) ?_)));refine aI (fun _=> ?_) (fun q=>by cases q);refine Or.inr (eI _ (eI _ (aI (packB (refP false t.P) [] (pkOf t.cu) t.tr sm hl al) ?_)));refine fin [(10000,14),(10001,32),(10002,1000020)] (aI rfl ?_);exact⟨trivial,⟨rfl,rfl,⟨rfl,rfl⟩,trivial⟩,⟨rfl,List.nil_prefix⟩,⟨rfl,List.nil_prefix⟩,trivial⟩
theorem XL(hs:NetSmall xs)(hsch:∀z∈sch,0≤z){t:GSt}(R:GTo false bk sch st (g0 xs) true 0 t)(sm:NetSmall (refP false t.P))(al:bE (refP false t.P))(hl:(refP false t.P).length≤900000):FCall Tryz.prog 93 [.rsl uNet bk,.rp uNet xs,.rsl (.int .i64) sch,.int .i64 st] [] (.tup [.ptr 10000 0,.int .i64 0]) [.cel 10000 124 [.sl 10001,.sl 10002,.int .i64 (pkOf t.cu)],.row 10001 150 5 uAgent (packN (refP false t.P)) [],.row 10002 2 1 (.int .i64) t.tr []]:=by
 refine FCall.intro (nt:=35) ti_ok mixed KI Tryz.func93 rfl rfl rfl rfl rfl rfl ?_;refine Or.inr (eI _ (eI _ (aI (beginS xs hs) ?_)));refine Or.inr (eI _ (eI _ (aI (YR bk sch st hsch rfl R) ?_)));refine aI (fun q=>by cases q) (fun _=> ?_);refine Or.inr (eI _ (eI _ (aI (packB (refP false t.P) [] (pkOf t.cu) t.tr sm hl al) ?_)));refine fin [(10000,14),(10001,32),(10002,1000020)] (aI rfl ?_);exact⟨trivial,⟨rfl,rfl,⟨rfl,rfl⟩,trivial⟩,⟨rfl,List.nil_prefix⟩,⟨rfl,List.nil_prefix⟩,trivial⟩
theorem R7{b:Bool}{c:Int}(hc:c≠0)(hs:NetSmall xs)(hsch:∀z∈sch,0≤z){t:GSt}(R:GTo false bk sch st (g0 xs) b c t)(sm:NetSmall (refP false t.P))(al:bE (refP false t.P))(hl:(refP false t.P).length≤900000):FCall Tryz.prog 93 [.rsl uNet bk,.rp uNet xs,.rsl (.int .i64) sch,.int .i64 st] [] (.tup [.ptr 10000 0,.int .i64 c]) [.cel 10000 124 [.sl 10001,.sl 10002,.int .i64 (pkOf t.cu)],.row 10001 150 5 uAgent (packN (refP false t.P)) [],.row 10002 2 1 (.int .i64) t.tr []]:=by
 refine FCall.intro (nt:=35) ti_ok mixed KI Tryz.func93 rfl rfl rfl rfl rfl rfl ?_;refine Or.inr (eI _ (eI _ (aI (beginS xs hs) ?_)));refine Or.inr (eI _ (eI _ (aI (YR bk sch st hsch rfl R) ?_)));refine aI (fun q=> ?_) (fun _=> ?_)
 ·exfalso;have q2:(bif c==0 then !b else false)=true:=q;rw[show(c==0)=false by simpa using hc]at q2;cases q2
 refine Or.inr (eI _ (eI _ (aI (packB (refP false t.P) [] (pkOf t.cu) t.tr sm hl al) ?_)));refine fin [(10000,14),(10001,32),(10002,1000020)] (aI rfl ?_);exact⟨trivial,⟨rfl,rfl,⟨rfl,rfl⟩,trivial⟩,⟨rfl,List.nil_prefix⟩,⟨rfl,List.nil_prefix⟩,trivial⟩
theorem V8{c:Int}{P:List NAgent}{pk:Int}{tr:List Int}(h:FCall Tryz.prog 93 [.rsl uNet bk,.rp uNet xs,.rsl (.int .i64) sch,.int .i64 st] [] (.tup [.ptr 10000 0,.int .i64 c]) [.cel 10000 124 [.sl 10001,.sl 10002,.int .i64 pk],.row 10001 150 5 uAgent P [],.row 10002 2 1 (.int .i64) tr []]):FCall Tryz.prog 93 [.rsl uNet bk,.ptr 10000 0,.rsl (.int .i64) sch,.int .i64 st] [.cel 10000 36 [.rsl uAgent xs]] (.tup [.ptr 10001 0,.int .i64 c]) [.cel 10001 124 [.sl 10002,.sl 10003,.int .i64 pk],.row 10002 150 5 uAgent P [],.row 10003 2 1 (.int .i64) tr [],.cel 10000 36 [.rsl uAgent xs]]:=
 FCall.of_f (r2:=.tup [.ptr 10001 0,.int .i64 c]) (ts2:=[.cel 10001 124 [.sl 10002,.sl 10003,.int .i64 pk],.row 10002 150 5 uAgent P [],.row 10003 2 1 (.int .i64) tr []]) ti_ok [0,71,0,0] KI h rfl rfl rfl
theorem JU(hs:NetSmall xs):FCall Tryz.prog 90 [.ptr 10000 0] [.cel 10000 36 [.rsl uAgent xs]] (.ptr 10001 0) [.cel 10001 124 [.sl 10002,.raw (.slice none 0 0),.int .i64 (xs.length:Nat)],.row 10002 150 5 uAgent xs [],.cel 10000 36 [.rsl uAgent xs]]:=
 FCall.of_f (r2:=.ptr 10001 0) (ts2:=[.cel 10001 124 [.sl 10002,.raw (.slice none 0 0),.int .i64 (xs.length:Nat)],.row 10002 150 5 uAgent xs []]) ti_ok [71] UH (beginS xs hs) rfl rfl rfl
theorem LH(tr:List Int)(ht:tr.length≤100000)(hr:∀z∈tr,1≤z∧z≤7):FCall Tryz.prog 96 [.sl 10000] [.row 10000 2 1 (.int .i64) tr []] (.sl 10001) [.row 10001 2 1 (.int .i64) (qp tr) [],.row 10000 2 1 (.int .i64) tr []]:=
 FCall.of_f (r2:=.sl 10001) (ts2:=[.row 10001 2 1 (.int .i64) (qp tr) []]) ti_ok [50] UJ (SF tr ht hr) rfl rfl rfl
theorem CW:callOk Tryz.prog 49=true:=by kernel_rfl
theorem Nv{c:Int}(hc:c≠0)(h:askN (vldB bk xs) (schedB sch&&inB st 0 4000)=c):FCall Tryz.prog 49 [.rsl uNet bk,.agg [.rsl uAgent xs],.rsl (.int .i64) sch,.int .i64 st] [] (.tup [.agg [.raw (.slice none 0 0)],.raw (.slice none 0 0),.int .i64 c]) ([]):=by
 refine FCall.intro (nt:=41) ti_ok mixed CW Tryz.func49 rfl rfl rfl rfl rfl rfl ?_;have hA:=DT bk xs sch st;rw[h]at hA;refine Or.inr (eI _ (eI _ (aI (hA) ?_)));refine aI (fun q=> ?_) (fun q=> ?_)
 ·exact fin [] (aI rfl trivial)
 ·exfalso;have q2:(c !=0)=false:=q;simp at q2;exact hc q2
theorem Dv{c:Int}{P:List NAgent}{pk:Int}{tr:List Int}(hc:c≠0)(h:askN (vldB bk xs) (schedB sch&&inB st 0 4000)=0)(h2:FCall Tryz.prog 93 [.rsl uNet bk,.rp uNet xs,.rsl (.int .i64) sch,.int .i64 st] [] (.tup [.ptr 10000 0,.int .i64 c]) [.cel 10000 124 [.sl 10001,.sl 10002,.int .i64 pk],.row 10001 150 5 uAgent P [],.row 10002 2 1 (.int .i64) tr []]):FCall Tryz.prog 49 [.rsl uNet bk,.agg [.rsl uAgent xs],.rsl (.int .i64) sch,.int .i64 st] [] (.tup [.agg [.raw (.slice none 0 0)],.raw (.slice none 0 0),.int .i64 c]) ([]):=by
 refine FCall.intro (nt:=41) ti_ok mixed CW Tryz.func49 rfl rfl rfl rfl rfl rfl ?_;have hA:=DT bk xs sch st;rw[h]at hA;refine Or.inr (eI _ (eI _ (aI (hA) ?_)));refine aI (fun q=>by cases q) (fun _=> ?_);refine Or.inr (eI _ (eI _ (aI (V8 bk xs sch st h2) ?_)));refine aI (fun q=> ?_) (fun q=> ?_)
 ·exact fin [] (aI rfl trivial)
 ·exfalso;have q2:(c !=0)=false:=q;simp at q2;exact hc q2
theorem Rq{P:List NAgent}{pk:Int}{tr:List Int}(h:askN (vldB bk xs) (schedB sch&&inB st 0 4000)=0)(h2:FCall Tryz.prog 93 [.rsl uNet bk,.rp uNet xs,.rsl (.int .i64) sch,.int .i64 st] [] (.tup [.ptr 10000 0,.int .i64 0]) [.cel 10000 124 [.sl 10001,.sl 10002,.int .i64 pk],.row 10001 150 5 uAgent P [],.row 10002 2 1 (.int .i64) tr []])(ht:tr.length≤100000)(hr:∀z∈tr,1≤z∧z≤7):FCall Tryz.prog 49 [.rsl uNet bk,.agg [.rsl uAgent xs],.rsl (.int .i64) sch,.int .i64 st] [] (.tup [.agg [.sl 10000],.sl 10001,.int .i64 0]) ([.row 10000 150 5 uAgent P [],.row 10001 2 1 (.int .i64) (qp tr) []]):=by
 refine FCall.intro (nt:=41) ti_ok mixed CW Tryz.func49 rfl rfl rfl rfl rfl rfl ?_;have hA:=DT bk xs sch st;rw[h]at hA;refine Or.inr (eI _ (eI _ (aI (hA) ?_)));refine aI (fun q=>by cases q) (fun _=> ?_);refine Or.inr (eI _ (eI _ (aI (V8 bk xs sch st h2) ?_)));refine aI (fun q=>by cases q) (fun _=> ?_);refine Or.inr (eI _ (eI _ (aI (LH tr ht hr) ?_)));refine aI (by kernel_rfl) ?_;refine fin [(10000,1000025),(10001,40)] (aI rfl ?_);exact⟨⟨rfl,List.nil_prefix⟩,⟨rfl,List.nil_prefix⟩,trivial⟩
theorem sQ:callOk Tryz.prog 47=true:=by kernel_rfl
theorem DV{c:Int}(hc:c≠0)(h:askN (vldB bk xs) (schedB sch&&inB st 0 4000)=c):FCall Tryz.prog 47 [.rsl uNet bk,.agg [.rsl uAgent xs],.rsl (.int .i64) sch,.int .i64 st] [] (.tup [.agg [.raw (.slice none 0 0)],.raw (.slice none 0 0),.int .i64 c]) ([]):=by
 refine FCall.intro (nt:=47) ti_ok mixed sQ Tryz.func47 rfl rfl rfl rfl rfl rfl ?_;have hA:=DT bk xs sch st;rw[h]at hA;refine Or.inr (eI _ (eI _ (aI (hA) ?_)));refine aI (fun q=> ?_) (fun q=> ?_)
 ·exact fin [] (aI rfl trivial)
 ·exfalso;have q2:(c !=0)=false:=q;simp at q2;exact hc q2
theorem Cc{c:Int}(hc:c≠0)(hs:NetSmall xs)(hsch:∀z∈sch,0≤z){b:Bool}{t:GSt}(h:askN (vldB bk xs) (schedB sch&&inB st 0 4000)=0)(R:GTo false bk sch st (g0 xs) b c t):FCall Tryz.prog 47 [.rsl uNet bk,.agg [.rsl uAgent xs],.rsl (.int .i64) sch,.int .i64 st] [] (.tup [.agg [.raw (.slice none 0 0)],.raw (.slice none 0 0),.int .i64 c]) ([]):=by
 refine FCall.intro (nt:=47) ti_ok mixed sQ Tryz.func47 rfl rfl rfl rfl rfl rfl ?_;have hA:=DT bk xs sch st;rw[h]at hA;refine Or.inr (eI _ (eI _ (aI (hA) ?_)));refine aI (fun q=>by cases q) (fun _=> ?_);refine Or.inr (eI _ (eI _ (aI (JU xs hs) ?_)));refine Or.inr (eI _ (eI _ (aI (YR bk sch st hsch rfl R) ?_)));refine aI (fun q=> ?_) (fun q=> ?_)
 ·exact fin [] (aI rfl trivial)
 ·exfalso;have q2:(c !=0)=false:=q;simp at q2;exact hc q2
theorem F5(hs:NetSmall xs)(hsch:∀z∈sch,0≤z){b:Bool}{t:GSt}(h:askN (vldB bk xs) (schedB sch&&inB st 0 4000)=0)(R:GTo false bk sch st (g0 xs) b 0 t)(sm:NetSmall (refP false t.P))(al:bE (refP false t.P))(hl:(refP false t.P).length≤900000)(ht:t.tr.length≤100000)(hr:∀z∈t.tr,1≤z∧z≤7):FCall Tryz.prog 47 [.rsl uNet bk,.agg [.rsl uAgent xs],.rsl (.int .i64) sch,.int .i64 st] [] (.tup [.agg [.sl 10000],.sl 10001,.int .i64 0]) ([.row 10000 150 5 uAgent (packN (refP false t.P)) [],.row 10001 2 1 (.int .i64) (qp t.tr) []]):=by
 refine FCall.intro (nt:=47) ti_ok mixed sQ Tryz.func47 rfl rfl rfl rfl rfl rfl ?_;have hA:=DT bk xs sch st;rw[h]at hA;refine Or.inr (eI _ (eI _ (aI (hA) ?_)));refine aI (fun q=>by cases q) (fun _=> ?_);refine Or.inr (eI _ (eI _ (aI (JU xs hs) ?_)));refine Or.inr (eI _ (eI _ (aI (YR bk sch st hsch rfl R) ?_)));refine aI (fun q=>by cases q) (fun _=> ?_);refine Or.inr (eI _ (eI _ (aI (packB (refP false t.P) [] (pkOf t.cu) t.tr sm hl al) ?_)));refine Or.inr (eI _ (eI _ (aI (LH t.tr ht hr) ?_)));refine aI (by kernel_rfl) ?_;refine fin [(10000,37),(10001,46)] (aI rfl ?_)
 exact⟨⟨rfl,List.nil_prefix⟩,⟨rfl,List.nil_prefix⟩,trivial⟩
theorem uF:callOk Tryz.prog 42=true:=by kernel_rfl
theorem EW{c:Int}(hc:c≠0)(h:askN (vldB bk xs) (schedB sch&&inB st 0 4000)=c):FCall Tryz.prog 42 [.rsl uNet bk,.agg [.rsl uAgent xs],.rsl (.int .i64) sch,.int .i64 st] [] (.tup [.raw (.slice none 0 0),.int .i64 c]) ([]):=by
 refine FCall.intro (nt:=35) ti_ok mixed uF Tryz.func42 rfl rfl rfl rfl rfl rfl ?_;have hA:=DT bk xs sch st;rw[h]at hA;refine Or.inr (eI _ (eI _ (aI (hA) ?_)));refine aI (fun q=> ?_) (fun q=> ?_)
 ·exact fin [] (aI rfl trivial)
 ·exfalso;have q2:(c !=0)=false:=q;simp at q2;exact hc q2
theorem DU{c:Int}(hc:c≠0)(hs:NetSmall xs)(hsch:∀z∈sch,0≤z){b:Bool}{t:GSt}(h:askN (vldB bk xs) (schedB sch&&inB st 0 4000)=0)(R:GTo false bk sch st (g0 xs) b c t):FCall Tryz.prog 42 [.rsl uNet bk,.agg [.rsl uAgent xs],.rsl (.int .i64) sch,.int .i64 st] [] (.tup [.raw (.slice none 0 0),.int .i64 c]) ([]):=by
 refine FCall.intro (nt:=35) ti_ok mixed uF Tryz.func42 rfl rfl rfl rfl rfl rfl ?_;have hA:=DT bk xs sch st;rw[h]at hA;refine Or.inr (eI _ (eI _ (aI (hA) ?_)));refine aI (fun q=>by cases q) (fun _=> ?_);refine Or.inr (eI _ (eI _ (aI (JU xs hs) ?_)));refine Or.inr (eI _ (eI _ (aI (YR bk sch st hsch rfl R) ?_)));refine aI (fun q=> ?_) (fun q=> ?_)
 ·exact fin [] (aI rfl trivial)
 ·exfalso;have q2:(c !=0)=false:=q;simp at q2;exact hc q2
theorem Ib(hs:NetSmall xs)(hsch:∀z∈sch,0≤z){b:Bool}{t:GSt}(h:askN (vldB bk xs) (schedB sch&&inB st 0 4000)=0)(R:GTo false bk sch st (g0 xs) b 0 t):FCall Tryz.prog 42 [.rsl uNet bk,.agg [.rsl uAgent xs],.rsl (.int .i64) sch,.int .i64 st] [] (.tup [.sl 10000,.int .i64 0]) ([.row 10000 2 1 (.int .i64) t.tr []]):=by
 refine FCall.intro (nt:=35) ti_ok mixed uF Tryz.func42 rfl rfl rfl rfl rfl rfl ?_;have hA:=DT bk xs sch st;rw[h]at hA;refine Or.inr (eI _ (eI _ (aI (hA) ?_)));refine aI (fun q=>by cases q) (fun _=> ?_);refine Or.inr (eI _ (eI _ (aI (JU xs hs) ?_)));refine Or.inr (eI _ (eI _ (aI (YR bk sch st hsch rfl R) ?_)));refine aI (fun q=>by cases q) (fun _=> ?_);refine fin [(10000,1000025)] (aI rfl ?_);exact⟨⟨rfl,List.nil_prefix⟩,trivial⟩
theorem uG:callOk Tryz.prog 45=true:=by kernel_rfl
theorem EX{c:Int}(hc:c≠0)(h:askN (vldB bk xs) (schedB sch&&inB st 0 4000)=c):FCall Tryz.prog 45 [.rsl uNet bk,.agg [.rsl uAgent xs],.rsl (.int .i64) sch,.int .i64 st] [] (.tup [.int .i64 0,.int .i64 c]) ([]):=by
 refine FCall.intro (nt:=33) ti_ok mixed uG Tryz.func45 rfl rfl rfl rfl rfl rfl ?_;have hA:=DT bk xs sch st;rw[h]at hA;refine Or.inr (eI _ (eI _ (aI (hA) ?_)));refine aI (fun q=> ?_) (fun q=> ?_)
 ·exact fin [] (aI rfl trivial)
 ·exfalso;have q2:(c !=0)=false:=q;simp at q2;exact hc q2
theorem xq{c:Int}{P:List NAgent}{pk:Int}{tr:List Int}(hc:c≠0)(h:askN (vldB bk xs) (schedB sch&&inB st 0 4000)=0)(h2:FCall Tryz.prog 93 [.rsl uNet bk,.rp uNet xs,.rsl (.int .i64) sch,.int .i64 st] [] (.tup [.ptr 10000 0,.int .i64 c]) [.cel 10000 124 [.sl 10001,.sl 10002,.int .i64 pk],.row 10001 150 5 uAgent P [],.row 10002 2 1 (.int .i64) tr []]):FCall Tryz.prog 45 [.rsl uNet bk,.agg [.rsl uAgent xs],.rsl (.int .i64) sch,.int .i64 st] [] (.tup [.int .i64 0,.int .i64 c]) ([]):=by
 refine FCall.intro (nt:=33) ti_ok mixed uG Tryz.func45 rfl rfl rfl rfl rfl rfl ?_;have hA:=DT bk xs sch st;rw[h]at hA;refine Or.inr (eI _ (eI _ (aI (hA) ?_)));refine aI (fun q=>by cases q) (fun _=> ?_);refine Or.inr (eI _ (eI _ (aI (V8 bk xs sch st h2) ?_)));refine aI (fun q=> ?_) (fun q=> ?_)
 ·exact fin [] (aI rfl trivial)
 ·exfalso;have q2:(c !=0)=false:=q;simp at q2;exact hc q2
theorem Ig{P:List NAgent}{pk:Int}{tr:List Int}(h:askN (vldB bk xs) (schedB sch&&inB st 0 4000)=0)(h2:FCall Tryz.prog 93 [.rsl uNet bk,.rp uNet xs,.rsl (.int .i64) sch,.int .i64 st] [] (.tup [.ptr 10000 0,.int .i64 0]) [.cel 10000 124 [.sl 10001,.sl 10002,.int .i64 pk],.row 10001 150 5 uAgent P [],.row 10002 2 1 (.int .i64) tr []]):FCall Tryz.prog 45 [.rsl uNet bk,.agg [.rsl uAgent xs],.rsl (.int .i64) sch,.int .i64 st] [] (.tup [.int .i64 pk,.int .i64 0]) ([]):=by
 refine FCall.intro (nt:=33) ti_ok mixed uG Tryz.func45 rfl rfl rfl rfl rfl rfl ?_;have hA:=DT bk xs sch st;rw[h]at hA;refine Or.inr (eI _ (eI _ (aI (hA) ?_)));refine aI (fun q=>by cases q) (fun _=> ?_);refine Or.inr (eI _ (eI _ (aI (V8 bk xs sch st h2) ?_)));refine aI (fun q=>by cases q) (fun _=> ?_);exact fin [] (aI rfl trivial)
end
end Go.Proofs.YtemalpelcdmemaaGreat
