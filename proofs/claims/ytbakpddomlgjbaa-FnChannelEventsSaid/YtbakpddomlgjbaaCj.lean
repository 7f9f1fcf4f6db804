
/- Channels: the search among what came early; sending, delivering; the program. -/
import Derived.Test.YtbakpddomlgjbaaCi
set_option linter.unusedSimpArgs false
set_option linter.unusedVariables false
namespace Go.Proofs.Ytbakpddomlgjbaa
open Go Go.RowKit Go.Proofs Go.Tr
def jm(ks:List Nat)(N:Nat):Nat:=(ks.takeWhile fun k=>decide (k<N)).length
theorem DV(N:Nat):∀(ks:aG) (i:Nat),i<=ks.length->(∀a (h:a<ks.length),a<i->ks[a]<N)->(∀a (h:a<ks.length),i<=a->N<=ks[a])->jm ks N=i
 |[],i,h,_,_=>by(have:i=0:=by simpa using h);subst this;rfl
 |k::l,0,_,_,h2=>by
  have:=h2 0 (by simp) (Nat.le_refl _);unfold jm;rw[List.takeWhile_cons_of_neg (by simpa using this)];rfl
 |k::l,i+1,h,h1,h2=>by
  have hk:=h1 0 (by simp) (by omega);have ih:=DV N l i (by simpa using h) (fun a ha hi=>by have:=h1 (a+1) (by simpa using ha) (by omega);simpa using this) (fun a ha hi=>by have:=h2 (a+1) (by simpa using ha) (by omega);simpa using this);unfold jm at ih |-;rw[List.takeWhile_cons_of_pos (by simpa using hk),qI,ih]
theorem Ov(p:fF)(n:Int):aB Try.prog 75 [I8 p,.int .i64 n] (.int .i64 (IntKind.i64.wrap (p.2.1-n))):=by
 refine aB.intro (nt:=9) aC mixed (by kernel_rfl) Try.func75 rfl rfl rfl rfl rfl ?_;exact⟨rfl,rfl⟩
abbrev vw(i j:Nat):Int:=IntKind.i64.wrap (Int.fdiv (IntKind.u64.wrap (IntKind.i64.wrap (((i:Nat):Int)+((j:Nat):Int)))) (2 ^ (min (1:Int).toNat IntKind.u64.bits)))
theorem JL{i j:Nat}(h:i<=1000)(h2:j<=1000):vw i j=(((i+j)/2:Nat):Int):=by
 unfold vw;have e0:IntKind.i64.wrap (((i:Nat):Int)+((j:Nat):Int))=((i:Nat):Int)+((j:Nat):Int):=oJ (by omega)
 have e1:IntKind.u64.wrap (((i:Nat):Int)+((j:Nat):Int))=((i:Nat):Int)+((j:Nat):Int):=by
  rw[IntKind.wrap_u64];omega
 have e2:((2:Int) ^ (min (1:Int).toNat IntKind.u64.bits))=2:=by decide
 rw[e0,e1,e2,Int.fdiv_eq_ediv_of_nonneg _ (by omega),oJ (by omega)];omega
theorem Pv:aU Try.prog 74=true:=by kernel_rfl
section
variable {ms:List ByteArray}{s:eB}
set_option maxRecDepth 100000 in
set_option maxHeartbeats 4000000 in
theorem bsQ(h:aW ms s)(N:Nat)(hN:N<=1000):aB Try.prog 74 [.rsl aK (s.ks.map (bV ms)),.int .i64 (N:Nat),.fn 75 []] (.tup [.int .i64 (jm s.ks N:Nat),.bool (decide (N∈s.ks))]):=by
 have hk30:=jP h;have hkl:(s.ks.map (bV ms)).length=s.ks.length:=qV _
 have hkb:∀a (ha:a<s.ks.length),s.ks[a]<=30:=fun a ha=>by
  have:=(h.ks2 _ (List.getElem_mem ha)).2;have:=h.nm;have:=h.m30;omega
 have hmono:∀a b (ha:a<s.ks.length) (hb:b<s.ks.length),a<b->s.ks[a]<s.ks[b]:=fun a b ha hb hab=>List.pairwise_iff_getElem.1 h.ks1 a b ha hb hab
 refine aB.intro (nt:=49) aC mixed Pv Try.func74 rfl rfl rfl rfl rfl ?_;refine lp (Nat×Nat) (fun p=>[(9,.int .i64 (p.1:Nat)),(10,.int .i64 (p.2:Nat))]) (fun _=>[]) (fun p=>p.2-p.1) (fun p=>p.1<=p.2/\p.2<=s.ks.length/\(∀a (ha:a<s.ks.length),a<p.1->s.ks[a]<N)/\(∀a (ha:a<s.ks.length),p.2<=a->N<=s.ks[a])) (0,s.ks.length) ⟨Nat.zero_le _,Nat.le_refl _,fun a _ h0=>absurd h0 (Nat.not_lt_zero _),fun a ha h0=>absurd ha (Nat.not_lt.2 h0)⟩ ?_ ?_
 .refine Go.Tr.hd [] rfl (aI (aI rfl rfl) (aI (aI ?_ rfl) trivial)) trivial;show(((s.ks.map (bV ms)).length:Nat):Int)=((s.ks.length:Nat):Int);rw[hkl]
 rintro⟨i,j⟩ ⟨hij,hjl,hlo,hhi⟩;have hij:i<=j:=hij;have hjl:j<=s.ks.length:=hjl;have hlo:∀a (ha:a<s.ks.length),a<i->s.ks[a]<N:=hlo;have hhi:∀a (ha:a<s.ks.length),j<=a->N<=s.ks[a]:=hhi;refine aI (fun q1=> ?_) (fun q1=> ?_)
 .have hlt:i<j:=sQ q1;have hr:=JL (i:=i) (j:=j) (by omega) (by omega);obtain⟨m,hm⟩:∃m,m=(i+j)/2:=⟨_,rfl⟩;rw[<-hm]at hr;have hm1:i<=m:=by omega
  have hm2:m<j:=by omega
  have hmk:m<s.ks.length:=by omega
  have he:elt (dflt aK) (s.ks.map (bV ms)) (vw i j)=bV ms s.ks[m]:=by rw[hr];exact jO hmk
  have hb:=hkb m hmk;refine aI (by decide) ?_;refine aI (by show 0<=vw i j/\vw i j<((s.ks.map (bV ms)).length:Nat);rw[hr,hkl];omega) ?_;refine oZ (Ov (elt (dflt aK) (s.ks.map (bV ms)) (vw i j)) ((N:Nat):Int)) ?_
  have hcv:IntKind.i64.wrap ((elt (dflt aK) (s.ks.map (bV ms)) (vw i j)).2.1-((N:Nat):Int))=((s.ks[m]:Nat):Int)-((N:Nat):Int):=by
   rw[he];show IntKind.i64.wrap (((s.ks[m]:Nat):Int)-((N:Nat):Int))=_;exact oJ (by omega)
  refine aI (fun q2=> ?_) (fun q2=> ?_)
  .have q2':decide (IntKind.i64.wrap ((elt (dflt aK) (s.ks.map (bV ms)) (vw i j)).2.1-((N:Nat):Int))<0)=true:=q2;rw[hcv]at q2';have q3:=of_decide_eq_true q2';refine aF (m+1,j) ⟨by show m+1<=j;omega,hjl,fun a ha h0=> ?_,hhi⟩ ?_ (by show j-(m+1)<j-i;omega)
   .have h0:a<m+1:=h0;rcases Nat.lt_or_ge a m with h1|h1
    .have:=hmono a m ha hmk h1;omega
    .have:a=m:=by omega
     subst this;omega
   .refine Go.Tr.hd [] rfl (aI (aI ?_ rfl) (aI (aI rfl rfl) trivial)) trivial;show IntKind.i64.wrap (vw i j+1)=((m+1:Nat):Int);rw[hr];exact iM (by omega)
  .have q2':decide (IntKind.i64.wrap ((elt (dflt aK) (s.ks.map (bV ms)) (vw i j)).2.1-((N:Nat):Int))<0)=false:=q2;rw[hcv]at q2';have q3:=of_decide_eq_false q2';refine aF (i,m) ⟨hm1,by show m<=s.ks.length;omega,hlo,fun a ha h0=> ?_⟩ ?_ (by show m-i<j-i;omega)
   .have h0:m<=a:=h0;rcases Nat.lt_or_ge m a with h1|h1
    .have:=hmono m a hmk ha h1;omega
    .have:a=m:=by omega
     subst this;omega
   .refine Go.Tr.hd [] rfl (aI (aI rfl rfl) (aI (aI ?_ rfl) trivial)) trivial;show vw i j=((m:Nat):Int);exact hr
 .have hge:j<=i:=Gf q1;have hji:j=i:=by omega
  subst hji;have hpos:jm s.ks N=j:=DV N s.ks j hjl hlo hhi;refine aI (fun q2=> ?_) ?_
  .have q2':decide (((j:Nat):Int)<((s.ks.map (bV ms)).length:Nat))=true:=q2;exact⟨by show(0:Int)<=((j:Nat):Int);omega,of_decide_eq_true q2'⟩
  refine oZ (fun _=>Ov (elt (dflt aK) (s.ks.map (bV ms)) ((j:Nat):Int)) ((N:Nat):Int)) ?_;rw[hpos];refine congrArg SV.tup (congrArg (fun x=>[SV.int .i64 ((j:Nat):Int),SV.bool x]) ?_);show(bif decide (((j:Nat):Int)<((s.ks.map (bV ms)).length:Nat))then(IntKind.i64.wrap ((elt (dflt aK) (s.ks.map (bV ms)) ((j:Nat):Int)).2.1-((N:Nat):Int))==0)else false)=decide (N∈s.ks);rw[hkl];rcases Nat.lt_or_ge j s.ks.length with hj|hj
  .have hb:=hkb j hj;rw[decide_eq_true (by omega),jO hj];show(IntKind.i64.wrap (((s.ks[j]:Nat):Int)-((N:Nat):Int))==0)=_;rw[oJ (by omega)];have hn:=hhi j hj (Nat.le_refl _)
   by_cases e:s.ks[j]=N
   .rw[decide_eq_true (e▸List.getElem_mem hj)];simp[e]
   .rw[decide_eq_false (fun hm=> ?_)]
    .simpa using(show ¬((s.ks[j]:Nat):Int)-((N:Nat):Int)=0 by omega)
    .obtain⟨a,ha,hae⟩:=List.getElem_of_mem hm;rcases Nat.lt_or_ge a j with h1|h1
     .have:=hlo a ha h1;omega
     .rcases Nat.lt_or_ge j a with h2|h2
      .have:=hmono j a hj ha h2;omega
      .have:a=j:=by omega
       subst this;exact e hae
  .rw[decide_eq_false (by omega),decide_eq_false (fun hm=> ?_)]
   .rfl
   .obtain⟨a,ha,hae⟩:=List.getElem_of_mem hm;have:=hlo a ha (by omega);omega
end
end Go.Proofs.Ytbakpddomlgjbaa
