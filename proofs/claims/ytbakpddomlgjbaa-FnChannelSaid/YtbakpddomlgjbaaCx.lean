
/- Channels: the law of channels, walked. -/
import Derived.Test.YtbakpddomlgjbaaCw
set_option linter.unusedSimpArgs false
set_option linter.unusedVariables false
namespace Go.Proofs.Ytbakpddomlgjbaa
open Go Go.RowKit Go.Proofs Go.Tr
set_option maxHeartbeats 8000000 in
set_option maxRecDepth 100000 in
theorem LH(code more:List Int)(hr:∀x∈code,0<=x/\x<=255)(hs:∀x∈more,0<=x/\x<=255):bI Try.prog 4 [.rsl iK code,.rsl iK more] [] (.bool true) []:=by
 refine bI.intro (nt:=131) aC mixed (by kernel_rfl) Try.func4 rfl rfl rfl rfl rfl rfl ?_;refine oZ (Lv code) ?_;refine oZ (fun _=>Lv more) ?_;refine aI (fun _=> ?_) (fun q0=> ?_)
 .refine fin [] (aI rfl ?_);exact trivial
 have q0':(bif decide ((4096:Int)<(code.length:Nat))then true else decide ((4096:Int)<(more.length:Nat)))=false:=q0
 have hb1:code.length<=4096/\more.length<=4096:=by
  by_cases h1:(4096:Int)<(code.length:Nat)
  .rw[decide_eq_true h1]at q0';cases q0'
  .rw[decide_eq_false h1]at q0';have:=of_decide_eq_false q0';omega
 have hbc:Bytes code:=⟨by omega,hr⟩;have hbm:Bytes more:=⟨by omega,hs⟩;clear q0 q0';obtain⟨ms,s,h,hG⟩:=Gz hbc;obtain⟨S,hS,hGS⟩:=JF hbm;have p0:=pW hbm ⟨0,0⟩ 80;have p1:=jI hbm ⟨0,0⟩ (n:=80) (by decide);obtain⟨N,hN⟩:∃n:Nat,(pk more ⟨0,0⟩ 80).1=(n:Nat):=⟨(pk more ⟨0,0⟩ 80).1.toNat,by omega⟩;have hpick:=GA more hbm 80;rw[hN]at hpick;have h5:=h.m30;have k1:=uF hS N 0 h;have cI:=SF h hS N (by omega);have cS:=SG h hS N (by omega);obtain⟨x,hx⟩:∃x,x=iV ms.length S N 0 s:=⟨_,rfl⟩;rw[<-hx]at cI cS k1
 have g2:=k1.en;have g3:=k1.nm;have g8:=k1.fl60;obtain⟨T,t1,t2,t3,t4⟩:=Es k1;have dI:=L6 k1 T (by omega) t2 t3 t4;have dS:=L8 k1 T (by omega) t2 t3 t4;have k2:=t4 T (Nat.le_refl _);obtain⟨y,hy⟩:∃y,y=iy ms.length T x:=⟨_,rfl⟩;rw[<-hy]at dI dS k2 t2;have e1:=k2.be;have e2:=k2.en;have e3:=k2.nm;have hye:y.e=ms.length:=by omega
 have htk:ms.take y.e=ms:=qN (by omega);refine Or.inr (oY hG ?_);refine Or.inr (oY hGS ?_);refine oZ hpick ?_;refine Or.inr (oY (bI.fz (au.g cI) (r:=.tup [yt (toN ms x),.int .i64 0]) rfl) ?_);refine Or.inr (oY (bI.fz (au.g cS) (r:=.tup [yt (toN ms x),.int .i64 0]) rfl) ?_);refine oZ (fun _=>Uo k1) ?_;refine oZ (fun _=>RQ (ms.take x.e) ms (List.take_prefix _ _) (by omega)) ?_;refine oZ (fun _=>mG k1) ?_;refine aI (fun q=>absurd (show(bif (bif (bif (bif ((0:Int) !=0)then true else !true)then true else((0:Int) !=0))then true else !true)then true else !true)=true from q) (by decide)) (fun _=> ?_)
 refine Or.inr (oY (bI.fz (au.g dI) (r:=.tup [yt (toN ms y),.int .i64 (T:Nat),.int .i64 0]) rfl) ?_);refine Or.inr (oY (bI.fz (au.g dS) (r:=.tup [yt (toN ms y),.int .i64 (T:Nat),.int .i64 0]) rfl) ?_);refine oZ (fun _=>Uo k2) ?_;refine aI (fun q=> ?_) (fun _=> ?_)
 .exfalso;have q':(bif (bif ((0:Int) !=0)then true else(((T:Nat):Int) !=((T:Nat):Int)))then true else !true)=true:=q;simp at q'
 refine oZ (fun _=>RQ (ms.take y.e) ms (List.take_prefix _ _) (by omega)) ?_;refine oZ (fun _=>O8 k2 t2) ?_;refine fin [] (aI ?_ ?_)
 .show(bif (bif (bif (bif ((0:Int)==0)then((((ms.take y.e).length:Nat):Int)==((ms.length:Nat):Int))else false)then true else false)then decide (((T:Nat):Int)<=IntKind.i64.wrap (IntKind.i64.wrap (2*(((x.fl.map (bC ms)).length:Nat):Int))+IntKind.i64.wrap (3*((ms.length:Nat):Int))))else false)then true else false)=true;rw[htk,qV,oJ (x:=2*((x.fl.length:Nat):Int)) (by omega),oJ (x:=3*((ms.length:Nat):Int)) (by omega),oJ (by omega),decide_eq_true (show((T:Nat):Int)<=2*((x.fl.length:Nat):Int)+3*((ms.length:Nat):Int) by omega)]
  simp
 .exact trivial
theorem LJ(code:List Int)(hr:∀x∈code,0<=x/\x<=255)(more:List Int)(hs:∀x∈more,0<=x/\x<=255):aB Try.prog 4 [.rsl iK code,.rsl iK more] (.bool true):=(LH code more hr hs).q rfl
end Go.Proofs.Ytbakpddomlgjbaa
