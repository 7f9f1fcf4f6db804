
/- Channels: which messages are missing. -/
import Derived.Test.YtbakpddomlgjbaaCr
set_option linter.unusedSimpArgs false
set_option linter.unusedVariables false
namespace Go.Proofs.Ytbakpddomlgjbaa
open Go Go.RowKit Go.Proofs Go.Tr
theorem Pg(p:fF)(n:Int):aB Try.prog 37 [I8 p,.rp (.int .i64) n] (.bool (p.2.1==n)):=by
 refine aB.intro (nt:=8) aC mixed (by kernel_rfl) Try.func37 rfl rfl rfl rfl rfl ?_;exact rfl
theorem OW(m:List fF)(n:Int)(hl:m.length<=1000000)(b:Bool)(hb:b=true↔∃i:Nat,i<m.length/\(elt (dflt aK) m ((i:Nat):Int)).2.1=n):∃r:Int,(decide (0<=r)=b)/\aB Try.prog 64 [.rsl aK m,.fn 37 [.rp (.int .i64) n]] (.int .i64 r):=by
 have key:∃i0:Nat,i0<=m.length/\(∀j:Nat,j<i0->(elt (dflt aK) m ((j:Nat):Int)).2.1≠n)/\(i0<m.length->(elt (dflt aK) m ((i0:Nat):Int)).2.1=n):=by
  have:∀k:Nat,k<=m.length->(∀j:Nat,j<k->(elt (dflt aK) m ((j:Nat):Int)).2.1≠n)\/∃i0:Nat,i0<k/\(∀j:Nat,j<i0->(elt (dflt aK) m ((j:Nat):Int)).2.1≠n)/\(elt (dflt aK) m ((i0:Nat):Int)).2.1=n:=by
   intro k
   induction k with
   |zero=>exact fun _=>.inl fun j hj=>absurd hj (Nat.not_lt_zero _)
   |succ k ih=>
    intro hk;rcases ih (by omega)with h|⟨i0,h1,h2,h3⟩
    .by_cases hn:(elt (dflt aK) m ((k:Nat):Int)).2.1=n
     .exact .inr ⟨k,by omega,h,hn⟩
     .refine .inl fun j hj=> ?_
      rcases Nat.lt_or_ge j k with h4|h4
      .exact h j h4
      .have:j=k:=by omega
       subst this;exact hn
    .exact .inr ⟨i0,by omega,h2,h3⟩
  rcases this m.length (Nat.le_refl _)with h|⟨i0,h1,h2,h3⟩
  .exact⟨m.length,Nat.le_refl _,h,fun h=>absurd h (Nat.lt_irrefl _)⟩
  .exact⟨i0,by omega,h2,fun _=>h3⟩
 obtain⟨i0,h0,h1,h2⟩:=key;refine⟨bif decide (i0<m.length)then((i0:Nat):Int)else -1,?_,?_⟩
 .rcases Nat.lt_or_ge i0 m.length with h|h
  .rw[decide_eq_true h,qG,decide_eq_true (by omega)];exact(hb.2 ⟨i0,h,h2 h⟩).symm
  .rw[decide_eq_false (show ¬i0<m.length by omega)];show decide ((0:Int)<= -1)=b;rw[show decide ((0:Int)<= -1)=false from by decide];cases b with
   |false=>rfl
   |true=>
    obtain⟨i,hi,he⟩:=hb.1 rfl;exact absurd he (h1 i (by omega))
 refine aB.intro (nt:=19) aC mixed G8 Try.func64 rfl rfl rfl rfl rfl ?_;refine lp Nat (fun i=>[(8,.int .i64 (i:Nat))]) (fun _=>[]) (fun i=>m.length-i) (fun i=>i<=i0) 0 (Nat.zero_le _) ?_ ?_
 .exact Go.Tr.hd [] rfl (aI (aI rfl rfl) trivial) trivial
 intro i hi;have hi:i<=i0:=hi;refine aI (fun q1=> ?_) (fun q1=> ?_)
 .have hlt:i<m.length:=sQ q1;have hi3:(0:Int)<=((i:Nat):Int)/\((i:Nat):Int)<(m.length:Nat):=⟨by omega,by omega⟩;refine aI hi3 ?_;refine oZ (Pg _ _) ?_;refine aI (fun q2=> ?_) (fun q2=> ?_)
  .have q3:((elt (dflt aK) m ((i:Nat):Int)).2.1==n)=true:=q2
   have hii:i=i0:=by
    rcases Nat.lt_or_ge i i0 with h|h
    .exact absurd (eq_of_beq q3) (h1 i h)
    .omega
   subst hii;rw[decide_eq_true hlt];exact⟨rfl,rfl⟩
  .have q3:((elt (dflt aK) m ((i:Nat):Int)).2.1==n)=false:=q2
   have hii:i≠i0:=fun h=>by
    subst h;rw[h2 hlt]at q3;simp at q3
   refine aF (i+1) (by show i+1<=i0;omega) ?_ (by show m.length-(i+1)<m.length-i;omega);exact Go.Tr.hd [] rfl (aI (aI (iM (by omega)) rfl) trivial) trivial
 .have hge:m.length<=i:=Gf q1;rw[decide_eq_false (show ¬i0<m.length by omega)];exact⟨rfl,rfl⟩
section
variable {ms:List ByteArray}{s:eB}
theorem Oz(h:aW ms s)(n:Nat):aB Try.prog 35 [.rsl aK (s.ks.map (bV ms)),.fn 37 [.rp (.int .i64) ((n:Nat):Int)]] (.bool (decide (n∈s.ks))):=by
 have hkl:=jP h
 obtain⟨r,h1,h2⟩:=OW (s.ks.map (bV ms)) ((n:Nat):Int) (by rw[qV];omega) (decide (n∈s.ks)) (by
  rw[decide_eq_true_iff];constructor
  .intro hm;obtain⟨i,hi,he⟩:=List.getElem_of_mem hm;refine⟨i,by rw[qV];exact hi,?_⟩;rw[jO hi];show((s.ks[i]:Nat):Int)=_;rw[he]
  .rintro⟨i,hi,he⟩;rw[qV]at hi;rw[jO hi]at he;have he:((s.ks[i]:Nat):Int)=((n:Nat):Int):=he;have:s.ks[i]=n:=by omega
   rw[<-this];exact List.getElem_mem hi)
 refine aB.intro (nt:=9) aC mixed zn Try.func35 rfl rfl rfl rfl rfl ?_;refine oZ h2 ?_;exact h1
def kP(s:eB)(i:Nat):List Int:=((List.range i).filter fun k=> !decide (s.e+k∈s.ks)).map fun k=>((s.e+k:Nat):Int)
theorem xQ(s:eB)(i:Nat):kP s (i+1)=kP s i++bif decide (s.e+i∈s.ks)then[]else[((s.e+i:Nat):Int)]:=by
 unfold kP;rw[List.range_succ,List.filter_append,qZ];cases h:decide (s.e+i∈s.ks)<;>simp[List.filter,h]
theorem JM(s:eB)(i:Nat):(kP s i).length<=i:=by
 unfold kP;rw[qV];exact Nat.le_trans (List.length_filter_le _ _) (by simp)
theorem GL{x:Nat}(hx:x∈s.ks)(i:Nat):¬((x:Nat):Int)∈kP s i:=by
 intro hm;unfold kP at hm;obtain⟨k,hk,he⟩:=List.mem_map.1 hm;have:=(List.mem_filter.1 hk).2;have h2:s.e+k=x:=by omega
 rw[h2]at this;simp[hx]at this
theorem GK(h:aW ms s):(kP s (s.n-s.e)).length+s.ks.length=s.n-s.e:=by
 unfold kP;rw[qV]
 have h1:((List.range (s.n-s.e)).filter fun k=>decide (s.e+k∈s.ks)).length=s.ks.length:=by
  have hp:List.Perm (((List.range (s.n-s.e)).filter fun k=>decide (s.e+k∈s.ks)).map (fun k=>s.e+k)) s.ks:=by
   rw[List.perm_ext_iff_of_nodup]
   .intro a;rw[List.mem_map];constructor
    .rintro⟨k,hk,rfl⟩;simpa using(List.mem_filter.1 hk).2
    .intro ha;have h2:=h.ks2 a ha;refine⟨a-s.e,List.mem_filter.2 ⟨by simp;omega,?_⟩,by omega⟩;rw[show s.e+(a-s.e)=a by omega];simpa using ha
   .exact(List.pairwise_map.2 ((List.nodup_range.filter _).imp fun hab e=>hab (by omega)))
   .exact h.ks1.imp fun hab e=>by omega
  have:=hp.length_eq
  rwa[qV]at this
 have h2:∀(l:List Nat) (p:Nat->Bool),(l.filter fun k=> !p k).length+(l.filter p).length=l.length:=by
  intro l p
  induction l with
  |nil=>rfl
  |cons a l ih=>cases hp:p a<;>simp[List.filter,hp]<;>omega
 have h3:=h2 (List.range (s.n-s.e)) (fun k=>decide (s.e+k∈s.ks));rw[List.length_range,h1]at h3;exact h3
set_option maxRecDepth 100000 in
theorem Si(h:aW ms s):au Try.prog 13 [yt (toN ms s)] [] (.tup [.sl 10000,.int .i64 0]) [.row 10000 2 1 (.int .i64) (kP s (s.n-s.e)) []]:=by
 have h2:=h.en;have h3:=h.nm;have h5:=h.m30;refine au.intro (nt:=28) aC mixed (by kernel_rfl) Try.func13 rfl rfl rfl rfl rfl rfl ?_;refine oZ (mG h) ?_;refine aI (fun q=>by cases q) (fun _=> ?_);refine lp Nat (fun i=>[(5,.ptr 20000 0),(4,.sl 20001)]) (fun i=>[.bQ 20000 2 [.int .i64 ((s.e+i:Nat):Int)],.bQ 1 27 (Er (toN ms s)),.row 20001 2 1 (.int .i64) (kP s i) []]) (fun i=>s.n-s.e-i) (fun i=>i<=s.n-s.e) 0 (Nat.zero_le _) ?_ ?_
 .refine TU [⟨4,30000,2,1,.int .i64⟩] [(20000,5),(20001,30000)] rfl (aI (aI rfl (aI rfl trivial)) ?_);exact⟨trivial,⟨⟨rfl,rfl⟩,trivial⟩,trivial,ah,⟨rfl,nP⟩,trivial⟩
 intro i hi;have hi:i<=s.n-s.e:=hi;have hml:=JM s i;refine aI (fun q1=> ?_) (fun q1=> ?_)
 .have hlt:i<s.n-s.e:=by
   have q2:decide (((s.e+i:Nat):Int)<((s.n:Nat):Int))=true:=q1;have:=of_decide_eq_true q2;omega
  have hcon:au Try.prog 35 [.rsl aK (s.ks.map (bV ms)),.fn 37 [.ptr 10000 0]] [.bQ 10000 2 [.int .i64 ((s.e+i:Nat):Int)]] (.bool (decide (s.e+i∈s.ks))) [.bQ 10000 2 [.int .i64 ((s.e+i:Nat):Int)]]:=
   au.mo aC [0,0] zn (Oz h (s.e+i)) rfl
  refine oY hcon ?_;refine aI (fun q2=> ?_) (fun q2=> ?_)
  .have q3:(!decide (s.e+i∈s.ks))=true:=q2;have q4:decide (s.e+i∈s.ks)=false:=by simpa using q3
   refine aI (by show(kP s i).length+1<=1073741824;omega) ?_;refine aF (i+1) hlt ?_ (by show s.n-s.e-(i+1)<s.n-s.e-i;omega);refine Go.Tr.hd [(20000,5),(20001,25)] rfl (aI rfl (aI rfl trivial)) ?_;refine⟨trivial,⟨⟨?_,rfl⟩,trivial⟩,trivial,ah,⟨?_,nP⟩,trivial⟩
   .show IntKind.i64.wrap (((s.e+i:Nat):Int)+1)=((s.e+(i+1):Nat):Int);rw[oJ (by omega)];omega
   .show kP s i++[((s.e+i:Nat):Int)]=kP s (i+1);rw[xQ,q4];rfl
  .have q3:(!decide (s.e+i∈s.ks))=false:=q2;have q4:decide (s.e+i∈s.ks)=true:=by simpa using q3
   refine aF (i+1) hlt ?_ (by show s.n-s.e-(i+1)<s.n-s.e-i;omega);refine Go.Tr.hd [(20000,5),(20001,20001)] rfl (aI rfl (aI rfl trivial)) ?_;refine⟨trivial,⟨⟨?_,rfl⟩,trivial⟩,trivial,ah,⟨?_,nP⟩,trivial⟩
   .show IntKind.i64.wrap (((s.e+i:Nat):Int)+1)=((s.e+(i+1):Nat):Int);rw[oJ (by omega)];omega
   .show kP s i=kP s (i+1);rw[xQ,q4];simp
 .have hge:i=s.n-s.e:=by
   have q2:decide (((s.e+i:Nat):Int)<((s.n:Nat):Int))=false:=q1;have:=of_decide_eq_false q2;omega
  refine fin [(10000,20001)] (aI rfl ?_);refine⟨⟨?_,nP⟩,trivial⟩;show kP s i=kP s (s.n-s.e);rw[hge]
end
end Go.Proofs.Ytbakpddomlgjbaa
