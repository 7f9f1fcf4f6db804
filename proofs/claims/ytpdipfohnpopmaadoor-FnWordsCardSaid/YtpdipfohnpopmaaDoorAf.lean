
/- The law of words: what it asks, walked. -/
import Derived.Test.YtpdipfohnpopmaaDoorAd
set_option linter.unusedSimpArgs false
set_option linter.unusedVariables false
namespace Go.Proofs.YtpdipfohnpopmaaDoor
open Go Go.RowKit Go.Proofs Go.Tr
abbrev Ea:List ByteArray:=[⟨#[]⟩,⟨#[108,101,116]⟩,⟨#[105,110]⟩,⟨#[49,97]⟩,⟨#[97,95,98]⟩,⟨#[97,98,99,100,101,102,103,104,105,106,107,108]⟩,⟨#[97,98,99,100,101,102,103,104,105,106,107,108,109]⟩,⟨#[90,57]⟩,⟨#[101,108,115,101]⟩,⟨#[101,108,115,101,115]⟩,⟨#[97,0]⟩,⟨#[195,164]⟩]
theorem xB:∀x∈Ea,x.size<=1000:=by
 intro x hx;simp only[Ea,List.mem_cons,List.not_mem_nil,or_false]at hx;rcases hx with rfl|rfl|rfl|rfl|rfl|rfl|rfl|rfl|rfl|rfl|rfl|rfl<;>decide
theorem vS:dI Tryd.prog 5=true:=by kernel_rfl
set_option maxRecDepth 100000 in
theorem wI(code:List Int)(hb:Bytes code):∃s:ByteArray,s.size<=1000/\aD Tryd.prog 5 [.rsl ig code] (.raw (.string s)):=by
 have k1:(pk code ⟨0,0⟩ 3).2.k<=2:=(wW code ⟨0,0⟩ 3).2;cases hq:((pk code ⟨0,0⟩ 3).1==0)with
 |true=>
  have h3:=sP hb (pk code ⟨0,0⟩ 3).2 (12:Nat);have h4:=kM hb (pk code ⟨0,0⟩ 3).2 (n:=(12:Nat)) (by decide);refine⟨elt (dflt .str) Ea (pk code (pk code ⟨0,0⟩ 3).2 (12:Nat)).1,?_,?_⟩
  .obtain⟨i,hi⟩:∃i:Nat,(pk code (pk code ⟨0,0⟩ 3).2 (12:Nat)).1=(i:Int):=⟨(pk code (pk code ⟨0,0⟩ 3).2 (12:Nat)).1.toNat,by omega⟩;rw[hi]at h4 |-;have hl:i<Ea.length:=by show i<12;omega
   rw[jl hl];exact xB _ (List.getElem_mem hl)
  refine aD.intro (nt:=13) aZ mixed vS Tryd.func5 rfl rfl rfl rfl rfl ?_;refine oY (yD code) ?_;refine oY (wT code ⟨0,0⟩ hb (by decide) 3) ?_;refine aI (fun _=> ?_) (fun q=>by rw[hq]at q;cases q);refine oY (D8 code (pk code ⟨0,0⟩ 3).2 hb (by omega) Ea (by decide) (by decide)) ?_;exact rfl
 |false=>
  have h3:=sP hb (pk code ⟨0,0⟩ 3).2 15;have h4:=kM hb (pk code ⟨0,0⟩ 3).2 (n:=15) (by decide);refine⟨strOfNums (zZ code (pk code (pk code ⟨0,0⟩ 3).2 15).1.toNat [] (pk code (pk code ⟨0,0⟩ 3).2 15).2).1,?_,?_⟩
  .rw[strOfNums_size,wF];simp only[qR];omega
  refine aD.intro (nt:=13) aZ mixed vS Tryd.func5 rfl rfl rfl rfl rfl ?_;refine oY (yD code) ?_;refine oY (wT code ⟨0,0⟩ hb (by decide) 3) ?_;refine aI (fun q=>by rw[hq]at q;cases q) (fun _=> ?_);refine oY (Ec code (pk code ⟨0,0⟩ 3).2 hb (by omega) 15 (by decide) (by decide)) ?_;exact rfl
def wr3(n:Int):Int:=IntKind.i64.wrap (IntKind.i32.wrap (IntKind.u32.wrap (IntKind.u64.wrap n)))
theorem CU(n:Int): -2147483648<=wr3 n/\wr3 n<=2147483647:=by
 unfold wr3;generalize IntKind.u32.wrap (IntKind.u64.wrap n)=z
 have h: -2147483648<=IntKind.i32.wrap z/\IntKind.i32.wrap z<=2147483647:=by
  rw[wrap_i32];unfold Go.Tr.w32;omega
 rw[qO _ (by omega)];exact h
theorem EJ(n:Int):aD Tryd.prog 11 [.int .i64 n] (.int .i64 (wr3 n)):=by
 refine aD.intro (nt:=8) aZ mixed (by kernel_rfl) Tryd.func11 rfl rfl rfl rfl rfl ?_;exact⟨rfl,rfl⟩
theorem zq(n:Int)(h0: -2147483648<=n)(h1:n<=2147483647):aD Tryd.prog 13 [.raw (.string (iN n))] (.tup [.int .i64 n,.bool true]):=by
 have h:=zu (iN n) n (by rw[jO];have:=lZ h0 h1;omega) (by rw[wH];exact uH h0 h1) h0 h1;rw[decide_eq_true rfl]at h;exact h
theorem zw(n:Int)(h0: -2147483648<=n)(h1:n<=2147483647):aD Tryd.prog 13 [.raw (.string (jJ n))] (.tup [.int .i64 0,.bool false]):=by
 have hs:(jJ n).size<=1000:=by rw[nC];have:=lZ h0 h1;omega
 rcases Int.lt_or_le n 0 with h|h
 .exact AZ (jJ n) hs (by rw[iZ];exact uI h)
 .have h2:=zu (jJ n) n hs (by rw[iZ];exact sM h h1) h0 h1;rw[decide_eq_false (Bp n)]at h2;exact h2
theorem Bz:dI Tryd.prog 3=true:=by kernel_rfl
theorem yO(code:List Int)(hr:∀x∈code,0<=x/\x<=255)(more:List Int)(hs:∀x∈more,0<=x/\x<=255):aD Tryd.prog 3 [.rsl ig code,.rsl ig more] (.bool true):=by
 cases hL:(bif decide ((3000:Int)<(code.length:Nat))then true else decide ((3000:Int)<(more.length:Nat)))with
 |true=>
  refine aD.intro (nt:=82) aZ mixed Bz Tryd.func3 rfl rfl rfl rfl rfl ?_;refine oZ (Bv code more) ?_;refine aI (fun _=>rfl) (fun q=>by rw[hL]at q;cases q)
 |false=>
  have hl1:code.length<=3000:=by
   cases h:decide ((3000:Int)<(code.length:Nat))with
   |true=>rw[h]at hL;cases hL
   |false=>have:=of_decide_eq_false h;omega
  have hl2:more.length<=3000:=by
   cases h:decide ((3000:Int)<(more.length:Nat))with
   |true=>rw[h]at hL;cases h2:decide ((3000:Int)<(code.length:Nat))<;>rw[h2]at hL<;>cases hL
   |false=>have:=of_decide_eq_false h;omega
  obtain⟨s,hsz,hS⟩:=wI code ⟨by omega,hr⟩;obtain⟨x,hx0,hx1,hX⟩:=xY more ⟨by omega,hs⟩;have hn:=CU x;generalize hm:wr3 x=n at hn;refine aD.intro (nt:=82) aZ mixed Bz Tryd.func3 rfl rfl rfl rfl rfl ?_;refine oZ (Bv code more) ?_;refine aI (fun q=>by rw[hL]at q;cases q) (fun _=> ?_);refine oZ hS ?_;refine oZ (Ew s (by omega)) ?_;refine oZ (EG s (by omega)) ?_;refine oZ (vM s (by omega)) ?_;refine oZ (fun _=>EN s) ?_;refine oZ (fun _=>vM s (by omega)) ?_;refine oZ (fun _=>Cn s (by omega)) ?_;refine aI (fun q=>absurd ((zV s).symm.trans q) (by decide)) (fun _=> ?_)
  refine oZ hX ?_;have hW:=EJ x;rw[hm]at hW;refine oZ hW ?_;refine oZ (BZ n (by omega) (by omega)) ?_;refine oZ (zq n hn.1 hn.2) ?_;refine oZ (BZ n (by omega) (by omega)) ?_;refine aI (show(⟨#[48]⟩:ByteArray).size+(iN n).size<=1099511627776 by rw[jO];have:=lZ hn.1 hn.2;show 1+_<=_;omega) ?_;refine oZ (zw n hn.1 hn.2) ?_
  conv=>whnf
  simp
end Go.Proofs.YtpdipfohnpopmaaDoor
