
/- Channels: drawn channels. -/
import Derived.Test.YtbakpddomlgjbaaCn
import Derived.Test.YtbakpddomlgjbaaLc
set_option linter.unusedSimpArgs false
set_option linter.unusedVariables false
namespace Go.Proofs.Ytbakpddomlgjbaa
open Go Go.RowKit Go.Proofs Go.Tr
theorem zo:aU Try.prog 52=true:=by kernel_rfl
theorem G9:aU Try.prog 53=true:=by kernel_rfl
theorem DK:aU Try.prog 22=true:=by kernel_rfl
section
variable {code:List Int}{d:DS}
theorem Eb(hb:Bytes code)(hk:d.k<=99999999)(xs:List ByteArray)(h1:1<=xs.length)(h2:xs.length<=1000000):au Try.prog 71 [.ptr 10000 0,.sl 10001] (iX code d++[rT 10001 xs]) (.raw (.string (elt (dflt .str) xs (pk code d (xs.length:Nat)).1))) (iX code (pk code d (xs.length:Nat)).2++[rT 10001 xs]):=by
 refine au.intro (nt:=12) aC mixed (by kernel_rfl) Try.func71 rfl rfl rfl rfl rfl rfl ?_;refine oY (fB code d hb hk (xs.length:Nat)) ?_;have h3:=pW hb d (xs.length:Nat);have h4:=jI hb d (n:=(xs.length:Nat)) (by omega);refine aI (show 0<=(pk code d (xs.length:Nat)).1/\(pk code d (xs.length:Nat)).1<(xs.length:Nat) from⟨h3,h4⟩) ?_;refine fin [] (aI rfl ?_);exact⟨trivial,⟨rfl,⟨rfl,rfl⟩,⟨rfl,rfl⟩,trivial⟩,⟨rfl,nP⟩,trivial⟩
end
abbrev zS:List ByteArray:=[⟨#[97]⟩,⟨#[98]⟩,⟨#[]⟩,⟨#[99,101,108,108,32,55]⟩,⟨#[108,105,110,107]⟩]
def wB(code:List Int):Nat->List ByteArray×DS->List ByteArray×DS
 |0,x=>x
 |k+1,x=>wB code k (x.1++[elt (dflt .str) zS (pk code x.2 5).1],(pk code x.2 5).2)
theorem Lb(code:List Int):∀(k:Nat) (x:List ByteArray×DS),(wB code k x).1.length=x.1.length+k/\(wB code k x).2.k<=x.2.k+2*k
 |0,x=>⟨rfl,Nat.le_refl _⟩
 |k+1,x=>by
  unfold wB;have h1:=Lb code k (x.1++[elt (dflt .str) zS (pk code x.2 5).1],(pk code x.2 5).2);have h2:=kS code x.2 5;simp only[qA,qI,qR]at h1;exact⟨by omega,by omega⟩
def IW:Nat->ByteArray->ByteArray
 |0,x=>x
 |k+1,x=>IW k (x++⟨#[120]⟩)
theorem JJ{k:Nat}(h:decide ((0:Int)<((k:Nat):Int))=true):0<k:=by have:=of_decide_eq_true h;omega
theorem JA{k:Nat}(h:decide ((0:Int)<((k:Nat):Int))=false):k=0:=by have:=of_decide_eq_false h;omega
theorem rC{k:Nat}(h:k<1000000000000):IntKind.i64.wrap (((k+1:Nat):Int)-1)=((k:Nat):Int):=by rw[oJ (by omega)];omega
section
variable {code:List Int}{d:DS}
set_option maxHeartbeats 4000000 in
set_option maxRecDepth 100000 in
theorem Pk(hb:Bytes code)(hk:d.k<=9000000):∃(L:List ByteArray) (W:Int) (D:DS),L.length<=60/\D.k<=d.k+1000/\au Try.prog 52 [.ptr 10000 0] (iX code d) (.tup [.sl 10001,.int .i64 W]) (iX code D++[rT 10001 L]):=by
 have p1:=kS code d 10;have p2:=pW hb d 10;have p3:=jI hb d (n:=10) (by decide);obtain⟨K,hK⟩:∃n:Nat,(pk code d 10).1=(n:Nat):=⟨(pk code d 10).1.toNat,by omega⟩;obtain⟨d1,hd1⟩:∃e,e=(pk code d 10).2:=⟨_,rfl⟩;have ht:=Lb code K ([],d1);obtain⟨L,hL⟩:∃L,L=(wB code K ([],d1)).1:=⟨_,rfl⟩;obtain⟨D2,hD2⟩:∃D,D=(wB code K ([],d1)).2:=⟨_,rfl⟩;have hLl:L.length=K:=by rw[hL,ht.1];simp
 have hd1k:d1.k<=d.k+2:=by rw[hd1];exact p1.2
 have hDk:D2.k<=d.k+30:=by
  have e:(wB code K ([],d1)).2.k<=d1.k+2*K:=ht.2;rw[hD2];omega
 have w1:=kS code D2 5;have w2:=pW hb D2 5;have w3:=jI hb D2 (n:=5) (by decide);have v1:=kS code (pk code D2 5).2 24
 by_cases hp:(pk code (pk code D2 5).2 24).1=0
 .have a1:=kS code (pk code (pk code D2 5).2 24).2 5;refine⟨L,elt (0:Int) [-1,0,8,9, -9223372036854775808] (pk code (pk code (pk code D2 5).2 24).2 5).1,(pk code (pk code (pk code D2 5).2 24).2 5).2,by omega,by omega,?_⟩;refine au.intro (nt:=62) aC mixed zo Try.func52 rfl rfl rfl rfl rfl rfl ?_;refine oY (fB code d hb (by omega) 10) ?_;refine lp (Nat×List ByteArray×DS) (fun p=>[(5,.int .i64 (p.1:Nat)),(4,.sl 20000)]) (fun p=>iX code p.2.2++[rT 20000 p.2.1]) (fun p=>p.1) (fun p=>p.1+p.2.1.length=K/\p.2.2.k<=d1.k+2*p.2.1.length/\wB code p.1 (p.2.1,p.2.2)=wB code K ([],d1)) (K,[],d1) ⟨rfl,Nat.le_refl _,rfl⟩ ?_ ?_
  .refine Go.Tr.hd [(20000,10)] rfl (aI ⟨hK,rfl⟩ (aI rfl trivial)) ?_;rw[hd1];exact⟨trivial,⟨rfl,⟨rfl,rfl⟩,⟨rfl,rfl⟩,trivial⟩,⟨rfl,nP⟩,trivial⟩
  rintro⟨k,l,e⟩ ⟨hkl,hek,htx⟩;have hkl:k+l.length=K:=hkl;have hek:e.k<=d1.k+2*l.length:=hek;have htx:wB code k (l,e)=wB code K ([],d1):=htx;refine aI (fun q1=> ?_) (fun q1=> ?_)
  .obtain⟨k,rfl⟩:∃j,k=j+1:=⟨k-1,by have:=JJ q1;omega⟩;refine oY (Eb hb (by omega) zS (by decide) (by decide)) ?_;refine aI (by show l.length+1<=1073741824;omega) ?_;have h9:=kS code e 5;refine aF (k,l++[elt (dflt .str) zS (pk code e 5).1],(pk code e 5).2) ⟨by show k+(l++[elt (dflt .str) zS (pk code e 5).1]).length=K;rw[qA];simp only[qI,qR];omega,by show(pk code e 5).2.k<=d1.k+2*(l++[elt (dflt .str) zS (pk code e 5).1]).length;rw[qA];simp only[qI,qR];omega,htx⟩ ?_ (by show k<k+1;omega)
   refine Go.Tr.hd [(20000,22)] rfl (aI ⟨rC (by omega),rfl⟩ (aI rfl trivial)) ?_;exact⟨trivial,⟨rfl,⟨rfl,rfl⟩,⟨rfl,rfl⟩,trivial⟩,⟨rfl,nP⟩,trivial⟩
  have hk0:=JA q1;subst hk0;have hLe:L=l:=by rw[hL,<-htx];rfl
  have hDe:D2=e:=by rw[hD2,<-htx];rfl
  subst hLe hDe;refine oY (fB code D2 hb (by omega) 5) ?_;refine oY (fB code (pk code D2 5).2 hb (by omega) 24) ?_;refine aI (fun _=> ?_) (fun q=>absurd (show((pk code (pk code D2 5).2 24).1==0)=false from q) (by rw[hp];decide));refine oY (Lm code (pk code (pk code D2 5).2 24).2 hb (by omega) [-1,0,8,9, -9223372036854775808] (by decide) (by decide)) ?_;refine fin [(10001,20000)] (aI rfl ?_);exact⟨trivial,⟨rfl,⟨rfl,rfl⟩,⟨rfl,rfl⟩,trivial⟩,⟨rfl,nP⟩,trivial⟩
 have hp0:=hp;clear hp
 by_cases hp:(pk code (pk code D2 5).2 24).1=1
 .have a1:=kS code (pk code (pk code D2 5).2 24).2 3;have a2:=pW hb (pk code (pk code D2 5).2 24).2 3;have a3:=jI hb (pk code (pk code D2 5).2 24).2 (n:=3) (by decide);obtain⟨M,hM⟩:∃n:Nat,(pk code (pk code (pk code D2 5).2 24).2 3).1=(n:Nat):=⟨(pk code (pk code (pk code D2 5).2 24).2 3).1.toNat,by omega⟩;refine⟨L++List.replicate (21+M) ⟨#[109]⟩,IntKind.i64.wrap (1+(pk code D2 5).1),(pk code (pk code (pk code D2 5).2 24).2 3).2,by rw[qA,List.length_replicate];omega,by omega,?_⟩;refine au.intro (nt:=62) aC mixed zo Try.func52 rfl rfl rfl rfl rfl rfl ?_
  refine oY (fB code d hb (by omega) 10) ?_;refine lp (Nat×List ByteArray×DS) (fun p=>[(5,.int .i64 (p.1:Nat)),(4,.sl 20000)]) (fun p=>iX code p.2.2++[rT 20000 p.2.1]) (fun p=>p.1) (fun p=>p.1+p.2.1.length=K/\p.2.2.k<=d1.k+2*p.2.1.length/\wB code p.1 (p.2.1,p.2.2)=wB code K ([],d1)) (K,[],d1) ⟨rfl,Nat.le_refl _,rfl⟩ ?_ ?_
  .refine Go.Tr.hd [(20000,10)] rfl (aI ⟨hK,rfl⟩ (aI rfl trivial)) ?_;rw[hd1];exact⟨trivial,⟨rfl,⟨rfl,rfl⟩,⟨rfl,rfl⟩,trivial⟩,⟨rfl,nP⟩,trivial⟩
  rintro⟨k,l,e⟩ ⟨hkl,hek,htx⟩;have hkl:k+l.length=K:=hkl;have hek:e.k<=d1.k+2*l.length:=hek;have htx:wB code k (l,e)=wB code K ([],d1):=htx;refine aI (fun q1=> ?_) (fun q1=> ?_)
  .obtain⟨k,rfl⟩:∃j,k=j+1:=⟨k-1,by have:=JJ q1;omega⟩;refine oY (Eb hb (by omega) zS (by decide) (by decide)) ?_;refine aI (by show l.length+1<=1073741824;omega) ?_;have h9:=kS code e 5;refine aF (k,l++[elt (dflt .str) zS (pk code e 5).1],(pk code e 5).2) ⟨by show k+(l++[elt (dflt .str) zS (pk code e 5).1]).length=K;rw[qA];simp only[qI,qR];omega,by show(pk code e 5).2.k<=d1.k+2*(l++[elt (dflt .str) zS (pk code e 5).1]).length;rw[qA];simp only[qI,qR];omega,htx⟩ ?_ (by show k<k+1;omega)
   refine Go.Tr.hd [(20000,22)] rfl (aI ⟨rC (by omega),rfl⟩ (aI rfl trivial)) ?_;exact⟨trivial,⟨rfl,⟨rfl,rfl⟩,⟨rfl,rfl⟩,trivial⟩,⟨rfl,nP⟩,trivial⟩
  have hk0:=JA q1;subst hk0;have hLe:L=l:=by rw[hL,<-htx];rfl
  have hDe:D2=e:=by rw[hD2,<-htx];rfl
  subst hLe hDe;refine oY (fB code D2 hb (by omega) 5) ?_;refine oY (fB code (pk code D2 5).2 hb (by omega) 24) ?_;refine aI (fun q=>absurd (show((pk code (pk code D2 5).2 24).1==0)=true from q) (by rw[hp];decide)) (fun _=> ?_);refine aI (fun _=> ?_) (fun q=>absurd (show((pk code (pk code D2 5).2 24).1==1)=false from q) (by rw[hp];decide));refine oY (fB code (pk code (pk code D2 5).2 24).2 hb (by omega) 3) ?_;refine lp Nat (fun j=>[(7,.int .i64 (j:Nat)),(4,.sl 20000)]) (fun j=>iX code (pk code (pk code (pk code D2 5).2 24).2 3).2++[rT 20000 (L++List.replicate (21+M-j) ⟨#[109]⟩)]) (fun j=>j) (fun j=>j<=21+M) (21+M) (Nat.le_refl _) ?_ ?_
  .refine Go.Tr.hd [(20000,20000)] rfl (aI ⟨?_,rfl⟩ (aI rfl trivial)) ?_
   .show IntKind.i64.wrap (21+(pk code (pk code (pk code D2 5).2 24).2 3).1)=((21+M:Nat):Int);rw[hM,oJ (by omega)];omega
   .refine⟨trivial,⟨rfl,⟨rfl,rfl⟩,⟨rfl,rfl⟩,trivial⟩,⟨?_,nP⟩,trivial⟩;show L=L++List.replicate (21+M-(21+M)) ⟨#[109]⟩;simp
  intro j hj;have hj:j<=21+M:=hj;refine aI (fun q2=> ?_) (fun q2=> ?_)
  .obtain⟨j,rfl⟩:∃i,j=i+1:=⟨j-1,by have:=JJ q2;omega⟩;refine aI (by show(L++List.replicate (21+M-(j+1)) (⟨#[109]⟩:ByteArray)).length+1<=1073741824;rw[qA,List.length_replicate];omega) ?_;refine aF j (by show j<=21+M;omega) ?_ (by show j<j+1;omega);refine Go.Tr.hd [(20000,44)] rfl (aI ⟨rC (by omega),rfl⟩ (aI rfl trivial)) ?_;refine⟨trivial,⟨rfl,⟨rfl,rfl⟩,⟨rfl,rfl⟩,trivial⟩,⟨?_,nP⟩,trivial⟩;show L++List.replicate (21+M-(j+1)) (⟨#[109]⟩:ByteArray)++[⟨#[109]⟩]=L++List.replicate (21+M-j) ⟨#[109]⟩
   rw[qF,show 21+M-j=(21+M-(j+1))+1 by omega,List.replicate_succ']
  have hj0:=JA q2;subst hj0;refine fin [(10001,20000)] (aI rfl ?_);exact⟨trivial,⟨rfl,⟨rfl,rfl⟩,⟨rfl,rfl⟩,trivial⟩,⟨rfl,nP⟩,trivial⟩
 have hp1:=hp;clear hp
 by_cases hp:(pk code (pk code D2 5).2 24).1=2
 .have a1:=kS code (pk code (pk code D2 5).2 24).2 2;have a2:=pW hb (pk code (pk code D2 5).2 24).2 2;have a3:=jI hb (pk code (pk code D2 5).2 24).2 (n:=2) (by decide);obtain⟨M,hM⟩:∃n:Nat,(pk code (pk code (pk code D2 5).2 24).2 2).1=(n:Nat):=⟨(pk code (pk code (pk code D2 5).2 24).2 2).1.toNat,by omega⟩;obtain⟨X,hX⟩:∃X,X=IW (40+M) ⟨#[]⟩:=⟨_,rfl⟩;refine⟨L++[X],IntKind.i64.wrap (1+(pk code D2 5).1),(pk code (pk code (pk code D2 5).2 24).2 2).2,by rw[qA];simp only[qI,qR];omega,by omega,?_⟩
  refine au.intro (nt:=62) aC mixed zo Try.func52 rfl rfl rfl rfl rfl rfl ?_;refine oY (fB code d hb (by omega) 10) ?_;refine lp (Nat×List ByteArray×DS) (fun p=>[(5,.int .i64 (p.1:Nat)),(4,.sl 20000)]) (fun p=>iX code p.2.2++[rT 20000 p.2.1]) (fun p=>p.1) (fun p=>p.1+p.2.1.length=K/\p.2.2.k<=d1.k+2*p.2.1.length/\wB code p.1 (p.2.1,p.2.2)=wB code K ([],d1)) (K,[],d1) ⟨rfl,Nat.le_refl _,rfl⟩ ?_ ?_
  .refine Go.Tr.hd [(20000,10)] rfl (aI ⟨hK,rfl⟩ (aI rfl trivial)) ?_;rw[hd1];exact⟨trivial,⟨rfl,⟨rfl,rfl⟩,⟨rfl,rfl⟩,trivial⟩,⟨rfl,nP⟩,trivial⟩
  rintro⟨k,l,e⟩ ⟨hkl,hek,htx⟩;have hkl:k+l.length=K:=hkl;have hek:e.k<=d1.k+2*l.length:=hek;have htx:wB code k (l,e)=wB code K ([],d1):=htx;refine aI (fun q1=> ?_) (fun q1=> ?_)
  .obtain⟨k,rfl⟩:∃j,k=j+1:=⟨k-1,by have:=JJ q1;omega⟩;refine oY (Eb hb (by omega) zS (by decide) (by decide)) ?_;refine aI (by show l.length+1<=1073741824;omega) ?_;have h9:=kS code e 5;refine aF (k,l++[elt (dflt .str) zS (pk code e 5).1],(pk code e 5).2) ⟨by show k+(l++[elt (dflt .str) zS (pk code e 5).1]).length=K;rw[qA];simp only[qI,qR];omega,by show(pk code e 5).2.k<=d1.k+2*(l++[elt (dflt .str) zS (pk code e 5).1]).length;rw[qA];simp only[qI,qR];omega,htx⟩ ?_ (by show k<k+1;omega)
   refine Go.Tr.hd [(20000,22)] rfl (aI ⟨rC (by omega),rfl⟩ (aI rfl trivial)) ?_;exact⟨trivial,⟨rfl,⟨rfl,rfl⟩,⟨rfl,rfl⟩,trivial⟩,⟨rfl,nP⟩,trivial⟩
  have hk0:=JA q1;subst hk0;have hLe:L=l:=by rw[hL,<-htx];rfl
  have hDe:D2=e:=by rw[hD2,<-htx];rfl
  subst hLe hDe;refine oY (fB code D2 hb (by omega) 5) ?_;refine oY (fB code (pk code D2 5).2 hb (by omega) 24) ?_;refine aI (fun q=>absurd (show((pk code (pk code D2 5).2 24).1==0)=true from q) (by rw[hp];decide)) (fun _=> ?_);refine aI (fun q=>absurd (show((pk code (pk code D2 5).2 24).1==1)=true from q) (by rw[hp];decide)) (fun _=> ?_);refine aI (fun _=> ?_) (fun q=>absurd (show((pk code (pk code D2 5).2 24).1==2)=false from q) (by rw[hp];decide));refine oY (fB code (pk code (pk code D2 5).2 24).2 hb (by omega) 2) ?_;refine lp (Nat×ByteArray) (fun j=>[(9,.int .i64 (j.1:Nat)),(8,.raw (.string j.2)),(4,.sl 20001)]) (fun j=>iX code (pk code (pk code (pk code D2 5).2 24).2 2).2++[rT 20001 L]) (fun j=>j.1) (fun j=>j.1+j.2.size<=100/\IW j.1 j.2=X) (40+M,⟨#[]⟩) ⟨by show 40+M+0<=100;omega,hX.symm⟩ ?_ ?_
  .refine Go.Tr.hd [(20001,20000)] rfl (aI ⟨?_,rfl⟩ (aI rfl (aI rfl trivial))) ?_
   .show IntKind.i64.wrap (40+(pk code (pk code (pk code D2 5).2 24).2 2).1)=((40+M:Nat):Int);rw[hM,oJ (by omega)];omega
   .exact⟨trivial,⟨rfl,⟨rfl,rfl⟩,⟨rfl,rfl⟩,trivial⟩,⟨rfl,nP⟩,trivial⟩
  rintro⟨j,x⟩ ⟨hj,hx⟩;have hj:j+x.size<=100:=hj;have hx:IW j x=X:=hx;refine aI (fun q2=> ?_) (fun q2=> ?_)
  .obtain⟨j,rfl⟩:∃i,j=i+1:=⟨j-1,by have:=JJ q2;omega⟩;have hsz:(x++(⟨#[120]⟩:ByteArray)).size=x.size+1:=by rw[ByteArray.size_append];rfl
   refine aI (by show x.size+1<=1099511627776;omega) ?_;refine aF (j,x++⟨#[120]⟩) ⟨by show j+(x++(⟨#[120]⟩:ByteArray)).size<=100;omega,by unfold IW at hx;exact hx⟩ ?_ (by show j<j+1;omega);refine Go.Tr.hd [(20001,20001)] rfl (aI ⟨rC (by omega),rfl⟩ (aI rfl (aI rfl trivial))) ?_;exact⟨trivial,⟨rfl,⟨rfl,rfl⟩,⟨rfl,rfl⟩,trivial⟩,⟨rfl,nP⟩,trivial⟩
  have hj0:=JA q2;subst hj0;have hx':x=X:=hx;subst hx';refine aI (by show L.length+1<=1073741824;omega) ?_;refine fin [(10001,59)] (aI rfl ?_);exact⟨trivial,⟨rfl,⟨rfl,rfl⟩,⟨rfl,rfl⟩,trivial⟩,⟨rfl,nP⟩,trivial⟩
 .have hp2:=hp;refine⟨L,IntKind.i64.wrap (1+(pk code D2 5).1),(pk code (pk code D2 5).2 24).2,by omega,by omega,?_⟩;refine au.intro (nt:=62) aC mixed zo Try.func52 rfl rfl rfl rfl rfl rfl ?_;refine oY (fB code d hb (by omega) 10) ?_;refine lp (Nat×List ByteArray×DS) (fun p=>[(5,.int .i64 (p.1:Nat)),(4,.sl 20000)]) (fun p=>iX code p.2.2++[rT 20000 p.2.1]) (fun p=>p.1) (fun p=>p.1+p.2.1.length=K/\p.2.2.k<=d1.k+2*p.2.1.length/\wB code p.1 (p.2.1,p.2.2)=wB code K ([],d1)) (K,[],d1) ⟨rfl,Nat.le_refl _,rfl⟩ ?_ ?_
  .refine Go.Tr.hd [(20000,10)] rfl (aI ⟨hK,rfl⟩ (aI rfl trivial)) ?_;rw[hd1];exact⟨trivial,⟨rfl,⟨rfl,rfl⟩,⟨rfl,rfl⟩,trivial⟩,⟨rfl,nP⟩,trivial⟩
  rintro⟨k,l,e⟩ ⟨hkl,hek,htx⟩;have hkl:k+l.length=K:=hkl;have hek:e.k<=d1.k+2*l.length:=hek;have htx:wB code k (l,e)=wB code K ([],d1):=htx;refine aI (fun q1=> ?_) (fun q1=> ?_)
  .obtain⟨k,rfl⟩:∃j,k=j+1:=⟨k-1,by have:=JJ q1;omega⟩;refine oY (Eb hb (by omega) zS (by decide) (by decide)) ?_;refine aI (by show l.length+1<=1073741824;omega) ?_;have h9:=kS code e 5;refine aF (k,l++[elt (dflt .str) zS (pk code e 5).1],(pk code e 5).2) ⟨by show k+(l++[elt (dflt .str) zS (pk code e 5).1]).length=K;rw[qA];simp only[qI,qR];omega,by show(pk code e 5).2.k<=d1.k+2*(l++[elt (dflt .str) zS (pk code e 5).1]).length;rw[qA];simp only[qI,qR];omega,htx⟩ ?_ (by show k<k+1;omega)
   refine Go.Tr.hd [(20000,22)] rfl (aI ⟨rC (by omega),rfl⟩ (aI rfl trivial)) ?_;exact⟨trivial,⟨rfl,⟨rfl,rfl⟩,⟨rfl,rfl⟩,trivial⟩,⟨rfl,nP⟩,trivial⟩
  have hk0:=JA q1;subst hk0;have hLe:L=l:=by rw[hL,<-htx];rfl
  have hDe:D2=e:=by rw[hD2,<-htx];rfl
  subst hLe hDe;refine oY (fB code D2 hb (by omega) 5) ?_;refine oY (fB code (pk code D2 5).2 hb (by omega) 24) ?_;refine aI (fun q=>absurd (show((pk code (pk code D2 5).2 24).1==0)=true from q) (by simpa using hp0)) (fun _=> ?_);refine aI (fun q=>absurd (show((pk code (pk code D2 5).2 24).1==1)=true from q) (by simpa using hp1)) (fun _=> ?_);refine aI (fun q=>absurd (show((pk code (pk code D2 5).2 24).1==2)=true from q) (by simpa using hp2)) (fun _=> ?_);refine fin [(10001,20000)] (aI rfl ?_);exact⟨trivial,⟨rfl,⟨rfl,rfl⟩,⟨rfl,rfl⟩,trivial⟩,⟨rfl,nP⟩,trivial⟩
end
end Go.Proofs.Ytbakpddomlgjbaa
