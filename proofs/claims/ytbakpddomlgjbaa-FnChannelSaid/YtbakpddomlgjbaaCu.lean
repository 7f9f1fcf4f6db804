
/- Channels: without further losses all messages are delivered within a bound. -/
import Derived.Test.YtbakpddomlgjbaaCt
set_option linter.unusedSimpArgs false
set_option linter.unusedVariables false
namespace Go.Proofs.Ytbakpddomlgjbaa
open Go Go.RowKit Go.Proofs Go.Tr
def qx(m:Nat)(s:eB):fE:=if 0<s.fl.length then(3,0)else if iU m s=true then(1,0)else(2,0)
def Ar(m:Nat):Nat->eB->eB
 |0,s=>s
 |t+1,s=>Ar m t (bJ s (qx m s))
def oL(s:eB)(k:Nat):Bool:=decide (k<s.e)||decide (k∈s.ks)
def lM(s:eB)(k:Nat):Bool:=decide ((false,k)∈s.fl)
def Dl(s:eB):Bool:=decide (s.b=s.e)||s.fl.any fun p=> !p.1||p.2==s.e
def vN(m:Nat)(s:eB):Nat:=((List.range m).filter fun k=> !oL s k&& !lM s k).length
def wN(l:List (Bool×Nat)):Nat:=(l.map fun p=>bif p.1 then 1 else 2).sum
def Bp(m:Nat)(s:eB):Nat:=wN s.fl+3*vN m s+bif Dl s then 0 else 3
theorem yG{l:aG}{p q:Nat->Bool}(h:∀k∈l,q k=true->p k=true):(l.filter q).length<=(l.filter p).length:=by
 induction l with
 |nil=>simp
 |cons a l ih=>
  have ih:=ih fun k hk=>h k (by simp[hk])
  have ha:=h a (by simp);cases hq:q a with
  |false=>cases hp:p a<;>simp[List.filter,hq,hp]<;>omega
  |true=>
   have:=ha hq;simp[List.filter,hq,this];omega
theorem cnt_lt{l:aG}{p q:Nat->Bool}(h:∀k∈l,q k=true->p k=true){a:Nat}(ha:a∈l)(h1:p a=true)(h2:q a=false):(l.filter q).length+1<=(l.filter p).length:=by
 induction l with
 |nil=>cases ha
 |cons b l ih=>
  have hb:=h b (by simp);rcases List.mem_cons.1 ha with rfl|ha
  .have:=yG (l:=l) fun k hk=>h k (by simp[hk])
   simp[List.filter,h1,h2];omega
  .have ih:=ih (fun k hk=>h k (by simp[hk])) ha;cases hq:q b with
   |false=>cases hp:p b<;>simp[List.filter,hq,hp]<;>omega
   |true=>
    have:=hb hq;simp[List.filter,hq,this];omega
theorem CY(x:Nat):∀(l:aG) (e:Nat),(x<e\/x∈l)->(x<(lS e l).1\/x∈(lS e l).2)
 |[],e,h=>by simpa[lS]using h
 |k::l,e,h=>by
  unfold lS
  by_cases hk:k=e
  .rw[if_pos hk];refine CY x l (e+1) ?_;rcases h with h|h
   .exact .inl (by omega)
   .rcases List.mem_cons.1 h with rfl|h
    .exact .inl (by omega)
    .exact .inr h
  .rw[if_neg hk];exact h
theorem Dp{N x:Nat}{ks:aG}(h:x=N\/x∈ks):x∈ins ks N:=by
 unfold ins;rcases h with rfl|h
 .simp
 .rw[<-List.take_append_drop (jm ks N) ks]at h;rcases qT.1 h with h|h
  .simp[h]
  .simp[h]
theorem uD{s:eB}{k:Nat}:oL s k=true↔(k<s.e\/k∈s.ks):=by unfold oL;simp
theorem HV{s:eB}{k x:Nat}(h:x=k\/oL s x=true):oL (jD s k) x=true:=by
 rw[uD]at h |-;unfold jD
 by_cases he:k=s.e
 .rw[if_pos he];refine CY x s.ks (s.e+1) ?_;rcases h with h|h|h
  .exact .inl (by omega)
  .exact .inl (by omega)
  .exact .inr h
 .rw[if_neg he]
  by_cases hg:s.e<k
  .rw[if_pos hg]
   by_cases hm:k∈s.ks
   .rw[if_pos hm];rcases h with h|h
    .exact .inr (h▸hm)
    .exact h
   .rw[if_neg hm];rcases h with h|h|h
    .exact .inr (Dp (.inl h))
    .exact .inl h
    .exact .inr (Dp (.inr h))
  .rw[if_neg hg];rcases h with h|h
   .exact .inl (by omega)
   .exact h
section
variable {ms:List ByteArray}{s:eB}
theorem Nn(l l':List (Bool×Nat)):wN (l++l')=wN l+wN l':=by unfold wN;rw[qZ,List.sum_append]
theorem GZ(h:aW ms s)(hd:s.b≠ms.length):wH ms.length s (qx ms.length s):=by
 have h1:=h.be;have h2:=h.en;have h3:=h.nm;have h7:=h.w1;unfold qx
 by_cases hf:0<s.fl.length
 .rw[if_pos hf];exact .arrive 0 hf
 .rw[if_neg hf]
  by_cases hc:iU ms.length s=true
  .rw[if_pos hc];obtain⟨c1,c2,c3⟩:=uP hc;exact .send c1 c2 c3
  .rw[if_neg hc];refine .resend 0 ?_ (by omega);have:¬(s.n<ms.length/\s.n<s.b+s.w):=fun⟨a,b⟩=>hc (by unfold iU;rw[decide_eq_true a,decide_eq_true b,decide_eq_true (by omega)];rfl)
   omega
theorem rD:Dl s=true↔(s.b=s.e\/∃p∈s.fl,p.1=false\/p.2=s.e):=by
 unfold Dl;rw[Bool.or_eq_true,decide_eq_true_iff,List.any_eq_true];constructor
 .rintro(h|⟨p,hp,h⟩)
  .exact .inl h
  .exact .inr ⟨p,hp,by simpa using h⟩
 .rintro(h|⟨p,hp,h⟩)
  .exact .inl h
  .exact .inr ⟨p,hp,by simpa using h⟩
theorem iD{k:Nat}:lM s k=true↔(false,k)∈s.fl:=by unfold lM;simp
theorem JZ(h:aW ms s)(hd:s.b≠ms.length):Bp ms.length (bJ s (qx ms.length s))+1<=Bp ms.length s:=by
 have h1:=h.be;have h2:=h.en;have h3:=h.nm;unfold qx
 by_cases hf:0<s.fl.length
 .rw[if_pos hf]
  obtain⟨p,rest,hfl⟩:∃p rest,s.fl=p::rest:=by
   cases hh:s.fl with
   |nil=>rw[hh]at hf;simp at hf
   |cons p rest=>exact⟨p,rest,rfl⟩
  have e:bJ s (3,0)=arr { s with fl:=rest} p:=by unfold bJ;simp[hfl]
  have hpk:=h.flk p (by rw[hfl];simp);rw[e];obtain⟨a,k⟩:=p;cases a with
  |true=>
   have hk:k<=s.e:=hpk.1 rfl;show Bp ms.length { s with fl:=rest,b:=max s.b k}+1<=Bp ms.length s
   have v:vN ms.length { s with fl:=rest,b:=max s.b k}<=vN ms.length s:=by
    refine yG fun x _ hx=> ?_
    rw[qD]at hx |-;refine⟨hx.1,?_⟩;have hx2:lM { s with fl:=rest,b:=max s.b k} x=false:=by simpa using hx.2
    cases hi:lM s x with
    |false=>rfl
    |true=>
     rw[iD,hfl]at hi;have:(false,x)∈rest:=by simpa using hi
     have:lM { s with fl:=rest,b:=max s.b k} x=true:=iD.2 this;rw[hx2]at this;cases this
   have w:wN s.fl=wN rest+1:=by rw[hfl];unfold wN;simp;omega
   have f:(bif Dl { s with fl:=rest,b:=max s.b k}then 0 else 3)<=(bif Dl s then 0 else 3):=by
    cases hs:Dl s with
    |false=>cases Dl { s with fl:=rest,b:=max s.b k}<;>simp
    |true=>
     have:Dl { s with fl:=rest,b:=max s.b k}=true:=by
      rw[rD]at hs |-;rcases hs with hs|⟨p,hp,hs⟩
      .exact .inl (by show max s.b k=s.e;omega)
      .rw[hfl]at hp;rcases List.mem_cons.1 hp with rfl|hp
       .rcases hs with hs|hs
        .cases hs
        .have hs:k=s.e:=hs;exact .inl (by show max s.b k=s.e;omega)
       .exact .inr ⟨p,hp,hs⟩
     rw[this];exact Nat.le_refl _
   unfold Bp;show wN rest+3*_+_+1<=_;omega
  |false=>
   have hk:k<s.n:=hpk.2 rfl;show Bp ms.length (rcv { s with fl:=rest} k)+1<=Bp ms.length s;have hfl0:aW ms { s with fl:=rest}:=h.flight (by have:=h.fl60;rw[hfl]at this;simp at this;omega) fun p hp=>h.flk p (by rw[hfl];simp[hp])
   obtain⟨r1,r2,r3,r4,r5⟩:=DY hfl0 (k:=k) hk;have hnf:(rcv { s with fl:=rest} k).fl=rest++[(true,(jD { s with fl:=rest} k).e)]:=by unfold rcv;rw[r3]
   have v:vN ms.length (rcv { s with fl:=rest} k)<=vN ms.length s:=by
    refine yG fun x _ hx=> ?_
    rw[qD]at hx |-;have hx1:oL (rcv { s with fl:=rest} k) x=false:=by simpa using hx.1
    have hx2:lM (rcv { s with fl:=rest} k) x=false:=by simpa using hx.2
    have hr:∀(q:x=k\/oL s x=true),False:=fun q=>by
     have:oL (rcv { s with fl:=rest} k) x=true:=HV (s:={ s with fl:=rest}) q;rw[hx1]at this;cases this
    refine⟨?_,?_⟩
    .cases hq:oL s x with
     |false=>rfl
     |true=>exact absurd (.inr hq) hr
    .cases hi:lM s x with
     |false=>rfl
     |true=>
      rw[iD,hfl]at hi;rcases List.mem_cons.1 hi with hi|hi
      .exact absurd (.inl (by simpa using hi)) hr
      .have:lM (rcv { s with fl:=rest} k) x=true:=iD.2 (by rw[hnf];simp[hi]);rw[hx2]at this;cases this
   have w:wN s.fl=wN rest+2:=by rw[hfl];unfold wN;simp;omega
   have w2:wN (rcv { s with fl:=rest} k).fl=wN rest+1:=by rw[hnf,Nn];rfl
   have f:Dl (rcv { s with fl:=rest} k)=true:=rD.2 (.inr ⟨(true,(jD { s with fl:=rest} k).e),by rw[hnf];simp,.inr rfl⟩);unfold Bp;rw[f,w2,w];show wN rest+1+3*_+0+1<=_;omega
 .rw[if_neg hf];have hf0:s.fl=[]:=List.eq_nil_of_length_eq_zero (by omega)
  by_cases hc:iU ms.length s=true
  .rw[if_pos hc];obtain⟨c1,c2,c3⟩:=uP hc;have e:bJ s (1,0)={ s with n:=s.n+1,fl:=[(false,s.n)]}:=by unfold bJ;simp[hf0]
   rw[e]
   have hv:vN ms.length { s with n:=s.n+1,fl:=[(false,s.n)]}+1<=vN ms.length s:=by
    refine cnt_lt (a:=s.n) (fun x _ hx=> ?_) (by simpa using c1) ?_ ?_
    .rw[qD]at hx |-;refine⟨hx.1,?_⟩;cases hi:lM s x with
     |false=>rfl
     |true=>rw[iD,hf0]at hi;cases hi
    .rw[qD];refine⟨?_,?_⟩
     .cases hq:oL s s.n with
      |false=>rfl
      |true=>
       rcases uD.1 hq with hq|hq
       .omega
       .have:=(h.ks2 _ hq).2;omega
     .cases hi:lM s s.n with
      |false=>rfl
      |true=>rw[iD,hf0]at hi;cases hi
    .have:lM { s with n:=s.n+1,fl:=[(false,s.n)]} s.n=true:=iD.2 (by simp);rw[this];simp
   have f:Dl { s with n:=s.n+1,fl:=[(false,s.n)]}=true:=rD.2 (.inr ⟨(false,s.n),by simp,.inl rfl⟩);unfold Bp;rw[f,hf0];show wN [(false,s.n)]+3*_+0+1<=wN []+_+_;have w1:wN [(false,s.n)]=2:=rfl;have w0:wN []=0:=rfl;omega
  .rw[if_neg hc];have e:bJ s (2,0)={ s with fl:=[(false,s.b)]}:=by unfold bJ;simp[hf0]
   rw[e];have f:Dl { s with fl:=[(false,s.b)]}=true:=rD.2 (.inr ⟨(false,s.b),by simp,.inl rfl⟩);have w1:wN [(false,s.b)]=2:=rfl;have w0:wN []=0:=rfl
   have hsub:∀x,x∈List.range ms.length->(!oL { s with fl:=[(false,s.b)]} x&& !lM { s with fl:=[(false,s.b)]} x)=true->(!oL s x&& !lM s x)=true:=fun x _ hx=>by
    rw[qD]at hx |-;refine⟨hx.1,?_⟩;cases hi:lM s x with
    |false=>rfl
    |true=>rw[iD,hf0]at hi;cases hi
   by_cases hbe:s.b=s.e
   .have hv:vN ms.length { s with fl:=[(false,s.b)]}+1<=vN ms.length s:=by
     refine cnt_lt (a:=s.b) hsub (by simp;omega) ?_ ?_
     .rw[qD];refine⟨?_,?_⟩
      .cases hq:oL s s.b with
       |false=>rfl
       |true=>
        rcases uD.1 hq with hq|hq
        .omega
        .have:=(h.ks2 _ hq).1;omega
      .cases hi:lM s s.b with
       |false=>rfl
       |true=>rw[iD,hf0]at hi;cases hi
     .have:lM { s with fl:=[(false,s.b)]} s.b=true:=iD.2 (by simp);rw[this];simp
    unfold Bp;rw[f,hf0];show wN [(false,s.b)]+3*_+0+1<=wN []+_+_;omega
   .have hv:vN ms.length { s with fl:=[(false,s.b)]}<=vN ms.length s:=yG hsub
    have hn:Dl s=false:=by
     cases hq:Dl s with
     |false=>rfl
     |true=>
      rcases rD.1 hq with hq|⟨p,hp,_⟩
      .exact absurd hq hbe
      .rw[hf0]at hp;cases hp
    unfold Bp;rw[f,hn,hf0];show wN [(false,s.b)]+3*_+0+1<=wN []+_+3;omega
theorem Le:∀(l:List (Bool×Nat)),wN l<=2*l.length
 |[]=>Nat.le_refl _
 |p::l=>by
  have:=Le l;have e:wN (p::l)=(bif p.1 then 1 else 2)+wN l:=by unfold wN;simp
  rw[e,qI];cases p.1<;>simp<;>omega
theorem Pz(h:aW ms s):Bp ms.length s<=2*s.fl.length+3*ms.length:=by
 have h1:=h.be;have h2:=h.en;have h3:=h.nm;have w:=Le s.fl
 have v0:vN ms.length s<=ms.length:=by
  unfold vN;exact Nat.le_trans (List.length_filter_le _ _) (by simp)
 unfold Bp;cases hf:Dl s with
 |true=>simp only[qG];omega
 |false=>
  have hbe:s.b≠s.e:=fun e=>by
   rw[rD.2 (.inl e)]at hf;cases hf
  have v1:vN ms.length s+1<=ms.length:=by
   have:=cnt_lt (l:=List.range ms.length) (p:=fun _=>true) (q:=fun k=> !oL s k&& !lM s k) (fun _ _ _=>rfl) (a:=0) (by simp;omega) rfl (by rw[uD.2 (.inl (by omega))];rfl);have e:((List.range ms.length).filter fun _=>true).length=ms.length:=by rw[List.filter_eq_self.2 (fun _ _=>rfl),List.length_range]
   rw[e]at this;exact this
  simp only[qH];omega
theorem Gx(t:Nat):∀{s:eB},aW ms s->(∀i,i<t->(Ar ms.length i s).b≠ms.length)->aW ms (Ar ms.length t s)/\Bp ms.length (Ar ms.length t s)+t<=Bp ms.length s:=by
 induction t with
 |zero=>exact fun h _=>⟨h,Nat.le_refl _⟩
 |succ t ih=>
  intro s h hi;have hd:s.b≠ms.length:=hi 0 (by omega);have h1:=l8 h (GZ h hd);have h2:=JZ h hd;have h3:=ih h1.1 fun i hit=>hi (i+1) (by omega)
  exact⟨h3.1,by show Bp ms.length (Ar ms.length t (bJ s (qx ms.length s)))+(t+1)<=_;omega⟩
theorem Gy(m t:Nat)(s:eB):Ar m (t+1) s=bJ (Ar m t s) (qx m (Ar m t s)):=by
 induction t generalizing s with
 |zero=>rfl
 |succ t ih=>exact ih (bJ s (qx m s))
theorem FM(h:aW ms s):∃T,T<=2*s.fl.length+3*ms.length/\(Ar ms.length T s).b=ms.length/\(∀i,i<T->(Ar ms.length i s).b≠ms.length)/\∀i,i<=T->aW ms (Ar ms.length i s):=by
 have key:∀n,(∃T,T<=n/\(Ar ms.length T s).b=ms.length/\(∀i,i<T->(Ar ms.length i s).b≠ms.length))\/(∀i,i<=n->(Ar ms.length i s).b≠ms.length):=by
  intro n
  induction n with
  |zero=>
   by_cases hb:(Ar ms.length 0 s).b=ms.length
   .exact .inl ⟨0,Nat.le_refl _,hb,fun i hi=>absurd hi (Nat.not_lt_zero _)⟩
   .exact .inr fun i hi=>by rw[Nat.le_zero.1 hi];exact hb
  |succ n ih=>
   rcases ih with⟨T,h1,h2,h3⟩|ih
   .exact .inl ⟨T,by omega,h2,h3⟩
   .by_cases hb:(Ar ms.length (n+1) s).b=ms.length
    .exact .inl ⟨n+1,Nat.le_refl _,hb,fun i hi=>ih i (by omega)⟩
    .refine .inr fun i hi=> ?_
     rcases Nat.lt_or_ge i (n+1)with h4|h4
     .exact ih i (by omega)
     .rw[show i=n+1 by omega];exact hb
 have hp:=Pz h;rcases key (2*s.fl.length+3*ms.length)with⟨T,h1,h2,h3⟩|hn
 .exact⟨T,h1,h2,h3,fun i hi=>(Gx i h fun j hj=>h3 j (by omega)).1⟩
 .have:=Gx (2*s.fl.length+3*ms.length+1) h fun i hi=>hn i (by omega)
  omega
end
end Go.Proofs.Ytbakpddomlgjbaa
