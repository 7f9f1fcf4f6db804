
/- Channels: events that can happen, what they leave; the program's happen. -/
import Derived.Test.YtbakpddomlgjbaaCk
set_option linter.unusedSimpArgs false
set_option linter.unusedVariables false
namespace Go.Proofs.Ytbakpddomlgjbaa
open Go Go.RowKit Go.Proofs Go.Tr
def bJ(s:eB)(ev:fE):eB:=
 if ev.1=1 then { s with n:=s.n+1,fl:=s.fl++[(false,s.n)]}
 else if ev.1=2 then { s with fl:=s.fl++[(false,s.b+ev.2.toNat)]}
 else if ev.1=5 then { s with fl:=s.fl++[s.fl.getD ev.2.toNat (false,0)]}
 else if ev.1=3 then arr { s with fl:=s.fl.take ev.2.toNat++s.fl.drop (ev.2.toNat+1)} (s.fl.getD ev.2.toNat (false,0))
 else { s with fl:=s.fl.take ev.2.toNat++s.fl.drop (ev.2.toNat+1)}
inductive wH(m:Nat)(s:eB):fE->Prop where
 |send (h1:s.n<m) (h2:s.n<s.b+s.w) (h3:s.fl.length<60):wH m s (1,0)
 |resend (k:Nat) (h1:k<s.n-s.b) (h3:s.fl.length<60):wH m s (2,((k:Nat):Int))
 |arrive (i:Nat) (h1:i<s.fl.length):wH m s (3,((i:Nat):Int))
 |lose (i:Nat) (h1:i<s.fl.length):wH m s (4,((i:Nat):Int))
 |copy (i:Nat) (h1:i<s.fl.length) (h3:s.fl.length<60):wH m s (5,((i:Nat):Int))
theorem uP{m:Nat}{s:eB}(h:iU m s=true):s.n<m/\s.n<s.b+s.w/\s.fl.length<60:=by
 unfold iU at h
 by_cases h1:s.n<m
 .by_cases h2:s.n<s.b+s.w
  .rw[decide_eq_true h1,decide_eq_true h2]at h;exact⟨h1,h2,of_decide_eq_true h⟩
  .rw[decide_eq_false h2,decide_eq_true h1]at h;cases h
 .rw[decide_eq_false h1]at h;cases h
theorem ak{m:Nat}{s:eB}:∀ev∈evs m s,wH m s ev:=by
 intro ev h;unfold evs iY ku at h;rcases qT.1 h with h|h
 .rcases qT.1 h with h|h
  .cases hc:iU m s with
   |false=>rw[hc]at h;simp at h
   |true=>
    rw[hc]at h;have:ev=(1,0):=by simpa using h
    subst this;obtain⟨h1,h2,h3⟩:=uP hc;exact .send h1 h2 h3
  .cases hr:aJ s with
   |false=>rw[hr]at h;simp[l6]at h
   |true=>
    rw[hr]at h;obtain⟨k,hk,rfl⟩:=List.mem_map.1 h;exact .resend k (by simpa using hk) (of_decide_eq_true hr)
 .unfold jk at h;obtain⟨i,hi,hm⟩:=List.mem_flatMap.1 h;have hi':i<s.fl.length:=by simpa using hi
  rcases qT.1 hm with hm|hm
  .rcases List.mem_cons.1 hm with rfl|hm
   .exact .arrive i hi'
   .have:ev=(4,((i:Nat):Int)):=by simpa using hm
    subst this;exact .lose i hi'
  .cases hr:aJ s with
   |false=>rw[hr]at hm;simp at hm
   |true=>
    rw[hr]at hm;have:ev=(5,((i:Nat):Int)):=by simpa using hm
    subst this;exact .copy i hi' (of_decide_eq_true hr)
section
variable {ms:List ByteArray}{s:eB}
theorem ng{i:Nat}(hi:i<s.fl.length):s.fl[i]?.getD (false,0)=s.fl[i]:=by rw[qB hi];rfl
theorem JK{α:Type}{l:List α}{i:Nat}{x:α}(h:x∈l.take i++l.drop (i+1)):x∈l:=by
 rcases qT.1 h with h|h
 .exact List.mem_of_mem_take h
 .exact List.mem_of_mem_drop h
theorem aW.flight(h:aW ms s){fl:List (Bool×Nat)}(h1:fl.length<=60)(h2:∀p∈fl,Bq s p):aW ms { s with fl:=fl}:=
 ⟨h.w1,h.w8,h.m30,h.m40,h.be,h.en,h.nm,h.nw,h.ks1,h.ks2,h1,h2⟩
theorem aW.cut(h:aW ms s){i:Nat}(hi:i<s.fl.length):aW ms { s with fl:=s.fl.take i++s.fl.drop (i+1)}:=
 h.flight (by have:=h.fl60;simp;omega) fun p hp=>h.flk p (JK hp)
theorem qh(N:Nat):∀(ks:aG),∀x∈ks.take (jm ks N),x<N
 |[],x,h=>by simp at h
 |k::l,x,h=>by
  unfold jm at h
  by_cases hk:k<N
  .rw[List.takeWhile_cons_of_pos (by simpa using hk),qI,List.take_succ_cons]at h;rcases List.mem_cons.1 h with rfl|h
   .exact hk
   .exact qh N l x h
  .rw[List.takeWhile_cons_of_neg (by simpa using hk)]at h;simp at h
theorem yH(N:Nat):∀(ks:aG),List.Pairwise (· < ·) ks->∀x∈ks.drop (jm ks N),N<=x
 |[],_,x,h=>by simp at h
 |k::l,hp,x,h=>by
  have h1:=List.pairwise_cons.1 hp;unfold jm at h
  by_cases hk:k<N
  .rw[List.takeWhile_cons_of_pos (by simpa using hk),qI,List.drop_succ_cons]at h;exact yH N l h1.2 x h
  .rw[List.takeWhile_cons_of_neg (by simpa using hk)]at h;have h:x∈k::l:=h;rcases List.mem_cons.1 h with rfl|h
   .omega
   .have:=h1.1 x h;omega
theorem Ms{N:Nat}{ks:aG}(hp:List.Pairwise (· < ·) ks)(hn:¬N∈ks):List.Pairwise (· < ·) (ins ks N):=by
 unfold ins;rw[qF];refine List.pairwise_append.2 ⟨hp.sublist (List.take_sublist _ _),?_,fun a ha b hb=> ?_⟩
 .rw[List.singleton_append,List.pairwise_cons];refine⟨fun b hb=> ?_,hp.sublist (List.drop_sublist _ _)⟩;have h1:=yH N ks hp b hb;have h2:b≠N:=fun e=>hn (e▸List.mem_of_mem_drop hb)
  omega
 .have h1:=qh N ks a ha;rcases qT.1 hb with hb|hb
  .have:b=N:=by simpa using hb
   omega
  .have:=yH N ks hp b hb;omega
theorem JD{N x:Nat}{ks:aG}(h:x∈ins ks N):x=N\/x∈ks:=by
 unfold ins at h;rcases qT.1 h with h|h
 .rcases qT.1 h with h|h
  .exact .inr (List.mem_of_mem_take h)
  .exact .inl (by simpa using h)
 .exact .inr (List.mem_of_mem_drop h)
theorem DY(h:aW ms s){k:Nat}(hk:k<s.n):aW ms (jD s k)/\s.e<=(jD s k).e/\(jD s k).fl=s.fl/\(jD s k).b=s.b/\(jD s k).n=s.n:=by
 have h1:=h.be;have h2:=h.en;unfold jD
 by_cases he:k=s.e
 .rw[if_pos he];have hk0:uI s.n (s.e+1) s.ks:=⟨h.ks1,fun x hx=>⟨(h.ks2 x hx).1,(h.ks2 x hx).2⟩⟩;obtain⟨d1,d2,d3,d4,d5⟩:=FN hk0 (by omega);refine⟨⟨h.w1,h.w8,h.m30,h.m40,?_,d1,h.nm,h.nw,d3,d4,h.fl60,fun p hp=> ?_⟩,by show s.e<=(lS (s.e+1) s.ks).1;omega,rfl,rfl,rfl⟩
  .show s.b<=(lS (s.e+1) s.ks).1;omega
  .have:=h.flk p hp;exact⟨fun q=>by have:=this.1 q;show p.2<=(lS (s.e+1) s.ks).1;omega,this.2⟩
 .rw[if_neg he]
  by_cases hg:s.e<k
  .rw[if_pos hg]
   by_cases hm:k∈s.ks
   .rw[if_pos hm];exact⟨h,Nat.le_refl _,rfl,rfl,rfl⟩
   .rw[if_neg hm];refine⟨⟨h.w1,h.w8,h.m30,h.m40,h.be,h.en,h.nm,h.nw,Ms h.ks1 hm,fun x hx=> ?_,h.fl60,h.flk⟩,Nat.le_refl _,rfl,rfl,rfl⟩;rcases JD hx with rfl|hx
    .exact⟨hg,hk⟩
    .exact h.ks2 x hx
  .rw[if_neg hg];exact⟨h,Nat.le_refl _,rfl,rfl,rfl⟩
theorem Ls(h:aW ms s)(hf:s.fl.length<60){p:Bool×Nat}(hp:Bq s p):aW ms (arr s p)/\s.e<=(arr s p).e/\s.b<=(arr s p).b/\(arr s p).n=s.n:=by
 obtain⟨a,k⟩:=p;cases a with
 |true=>
  have hk:k<=s.e:=hp.1 rfl;have h1:=h.be;have h4:=h.nw;refine⟨⟨h.w1,h.w8,h.m30,h.m40,?_,h.en,h.nm,?_,h.ks1,h.ks2,h.fl60,h.flk⟩,Nat.le_refl _,Nat.le_max_left _ _,rfl⟩
  .show max s.b k<=s.e;omega
  .show s.n<=max s.b k+s.w;omega
 |false=>
  have hk:k<s.n:=hp.2 rfl;obtain⟨h1,h2,h3,h4,h5⟩:=DY h hk;refine⟨?_,h2,by show s.b<=(jD s k).b;omega,h5⟩;refine h1.flight (by rw[h3,qA];simp only[qI,qR];omega) fun p hp=> ?_
  rcases qT.1 hp with hp|hp
  .exact h1.flk p hp
  .have:p=(true,(jD s k).e):=by simpa using hp
   subst this;exact⟨fun _=>Nat.le_refl _,fun q=>by cases q⟩
theorem l8(h:aW ms s){ev:fE}(he:wH ms.length s ev):aW ms (bJ s ev)/\s.e<=(bJ s ev).e/\s.b<=(bJ s ev).b/\s.n<=(bJ s ev).n:=by
 have hen:=h.en;cases he with
 |send h1 h2 h3=>
  refine⟨⟨h.w1,h.w8,h.m30,h.m40,h.be,by show s.e<=s.n+1;omega,by show s.n+1<=ms.length;omega,by show s.n+1<=s.b+s.w;omega,h.ks1,fun x hx=>⟨(h.ks2 x hx).1,by have:=(h.ks2 x hx).2;show x<s.n+1;omega⟩,by show(s.fl++[(false,s.n)]).length<=60;simp;omega,fun p hp=> ?_⟩,Nat.le_refl _,Nat.le_refl _,Nat.le_succ _⟩;have hp:p∈s.fl++[(false,s.n)]:=hp;rcases qT.1 hp with hp|hp
  .have:=h.flk p hp;exact⟨this.1,fun q=>Nat.lt_succ_of_lt (this.2 q)⟩
  .have:p=(false,s.n):=by simpa using hp
   subst this;exact⟨fun q=>(by cases q),fun _=>Nat.lt_succ_self _⟩
 |resend k h1 h3=>
  have e:bJ s (2,((k:Nat):Int))={ s with fl:=s.fl++[(false,s.b+k)]}:=by unfold bJ;simp
  rw[e];refine⟨h.flight (by simp;omega) fun p hp=> ?_,Nat.le_refl _,Nat.le_refl _,Nat.le_refl _⟩;rcases qT.1 hp with hp|hp
  .exact h.flk p hp
  .have:p=(false,s.b+k):=by simpa using hp
   subst this;exact⟨fun q=>(by cases q),fun _=>by show s.b+k<s.n;omega⟩
 |arrive i h1=>
  have e:bJ s (3,((i:Nat):Int))=arr { s with fl:=s.fl.take i++s.fl.drop (i+1)} s.fl[i]:=by unfold bJ;simp[ng h1]
  rw[e];have hl:=h.fl60;exact Ls (h.cut h1) (by show(s.fl.take i++s.fl.drop (i+1)).length<60;simp;omega) (h.flk _ (List.getElem_mem h1)) |>.imp_right fun⟨a,b,c⟩=>⟨a,b,Nat.le_of_eq c.symm⟩
 |lose i h1=>
  have e:bJ s (4,((i:Nat):Int))={ s with fl:=s.fl.take i++s.fl.drop (i+1)}:=by unfold bJ;simp
  rw[e];exact⟨h.cut h1,Nat.le_refl _,Nat.le_refl _,Nat.le_refl _⟩
 |copy i h1 h3=>
  have e:bJ s (5,((i:Nat):Int))={ s with fl:=s.fl++[s.fl[i]]}:=by unfold bJ;simp[ng h1]
  rw[e];refine⟨h.flight (by simp;omega) fun p hp=> ?_,Nat.le_refl _,Nat.le_refl _,Nat.le_refl _⟩;rcases qT.1 hp with hp|hp
  .exact h.flk p hp
  .have:p=s.fl[i]:=by simpa using hp
   subst this;exact h.flk _ (List.getElem_mem h1)
theorem OD{xs:List fF}{us:aO}{i:Nat}{j:Int}(hi:i<xs.length)(hj:j=((i+1:Nat):Int)):au Try.prog 61 [.sl 10000,.int .i64 (i:Nat),.int .i64 j] [.row 10000 42 3 aK xs us] (.sl 10001) [.row 10001 42 3 aK (xs.take i++xs.drop (i+1)) []]:=by
 subst hj;exact RD hi
theorem tY{i:Nat}:(s.fl.map (bC ms)).take i++(s.fl.map (bC ms)).drop (i+1)=(s.fl.take i++s.fl.drop (i+1)).map (bC ms):=by rw[qZ,List.map_take,List.map_drop]
set_option maxRecDepth 100000 in
set_option maxHeartbeats 4000000 in
theorem Gm(h:aW ms s){ev:fE}(he:wH ms.length s ev):au Try.prog 29 [.ptr 10000 0,.agg [.int .i64 ev.1,.int .i64 ev.2]] (tI 10002 10003 10004 ms s) (.tup []) (tI 10005 10006 10007 ms (bJ s ev)):=by
 have h1:=h.be;have h2:=h.en;have h3:=h.nm;have h4:=h.nw;have h5:=h.m30;have h6:=h.w8;have h8:=h.fl60;have hfl:(s.fl.map (bC ms)).length=s.fl.length:=qV _;refine au.intro (nt:=79) aC mixed (by kernel_rfl) Try.func29 rfl rfl rfl rfl rfl rfl ?_;cases he with
 |send g1 g2 g3=>
  refine aI (fun _=> ?_) (fun q=>absurd (show((1:Int)==1)=false from q) (by decide));refine oY (K9 s.n g1 (by omega)) ?_;refine fin [(10005,10002),(10006,10003),(10007,41)] (aI rfl ?_);exact⟨trivial,⟨⟨rfl,rfl⟩,rfl,⟨rfl,rfl⟩,⟨iM (k:=s.n) (by omega),rfl⟩,⟨rfl,rfl⟩,rfl,rfl,rfl,trivial⟩,⟨rfl,nP⟩,rfl,⟨rfl,nP⟩,⟨rfl,nP⟩,trivial⟩
 |resend k g1 g3=>
  have e:bJ s (2,((k:Nat):Int))={ s with fl:=s.fl++[(false,s.b+k)]}:=by unfold bJ;simp
  rw[e];have hw:IntKind.i64.wrap (((s.b:Nat):Int)+((k:Nat):Int))=((s.b+k:Nat):Int):=by rw[oJ (by omega)];omega
  have hsend:au Try.prog 60 [.ptr 10000 0,.int .i64 (IntKind.i64.wrap (((s.b:Nat):Int)+((k:Nat):Int)))] (tI 10002 10003 10004 ms s) (.tup []) (tI 10002 10003 10005 ms { s with fl:=s.fl++[(false,s.b+k)]}):=by
   rw[hw];exact K9 (s.b+k) (by omega) (by omega)
  refine aI (fun q=>absurd (show((2:Int)==1)=true from q) (by decide)) (fun _=> ?_);refine aI (fun _=> ?_) (fun q=>absurd (show((2:Int)==2)=false from q) (by decide));refine oY hsend ?_;refine aI (by kernel_rfl) ?_;refine fin [(10005,10002),(10006,10003),(10007,59)] (aI rfl ?_);exact⟨trivial,ah,⟨rfl,nP⟩,rfl,⟨rfl,nP⟩,⟨rfl,nP⟩,trivial⟩
 |copy i g1 g3=>
  have e:bJ s (5,((i:Nat):Int))={ s with fl:=s.fl++[s.fl[i]]}:=by unfold bJ;simp[ng g1]
  rw[e];refine aI (fun q=>absurd (show((5:Int)==1)=true from q) (by decide)) (fun _=> ?_);refine aI (fun q=>absurd (show((5:Int)==2)=true from q) (by decide)) (fun _=> ?_);refine aI (fun _=> ?_) (fun q=>absurd (show((5:Int)==5)=false from q) (by decide));refine aI (by show(0:Int)<=((i:Nat):Int)/\((i:Nat):Int)<((s.fl.map (bC ms)).length:Nat);omega) ?_;refine aI (by show(s.fl.map (bC ms)).length+1<=1073741824;omega) ?_;refine aI (by kernel_rfl) ?_;refine fin [(10005,10002),(10006,10003),(10007,76)] (aI rfl ?_);refine⟨trivial,ah,⟨rfl,nP⟩,rfl,⟨rfl,nP⟩,⟨?_,nP⟩,trivial⟩
  show s.fl.map (bC ms)++[((elt (dflt aK) (s.fl.map (bC ms)) ((i:Nat):Int)).1,(elt (dflt aK) (s.fl.map (bC ms)) ((i:Nat):Int)).2.1,(elt (dflt aK) (s.fl.map (bC ms)) ((i:Nat):Int)).2.2)]=(s.fl++[s.fl[i]]).map (bC ms);rw[qZ,uY g1];rfl
 |arrive i g1=>
  have e:bJ s (3,((i:Nat):Int))=arr { s with fl:=s.fl.take i++s.fl.drop (i+1)} s.fl[i]:=by unfold bJ;simp[ng g1]
  rw[e];have harr:=Rv (h.cut g1) s.fl[i] (h.flk _ (List.getElem_mem g1));rw[<-uY (ms:=ms) g1]at harr;have hdel:=OD (us:=[]) (xs:=s.fl.map (bC ms)) (i:=i) (j:=IntKind.i64.wrap (((i:Nat):Int)+1)) (by omega) (iM (by omega));rw[tY]at hdel;refine aI (fun q=>absurd (show((3:Int)==1)=true from q) (by decide)) (fun _=> ?_);refine aI (fun q=>absurd (show((3:Int)==2)=true from q) (by decide)) (fun _=> ?_);refine aI (fun q=>absurd (show((3:Int)==5)=true from q) (by decide)) (fun _=> ?_);refine aI (by show(0:Int)<=((i:Nat):Int)/\((i:Nat):Int)<((s.fl.map (bC ms)).length:Nat);omega) ?_
  refine aI (by kernel_rfl) ?_;refine oY hdel ?_;refine aI (by kernel_rfl) ?_;refine aI (fun _=> ?_) (fun q=>absurd (show((3:Int)==3)=false from q) (by decide));refine oY harr ?_;refine fin [(10005,33),(10006,1000033),(10007,2000033)] (aI rfl ?_);exact⟨trivial,ah,⟨rfl,nP⟩,rfl,⟨rfl,nP⟩,⟨rfl,nP⟩,trivial⟩
 |lose i g1=>
  have e:bJ s (4,((i:Nat):Int))={ s with fl:=s.fl.take i++s.fl.drop (i+1)}:=by unfold bJ;simp
  rw[e];have hdel:=OD (us:=[]) (xs:=s.fl.map (bC ms)) (i:=i) (j:=IntKind.i64.wrap (((i:Nat):Int)+1)) (by omega) (iM (by omega));rw[tY]at hdel;refine aI (fun q=>absurd (show((4:Int)==1)=true from q) (by decide)) (fun _=> ?_);refine aI (fun q=>absurd (show((4:Int)==2)=true from q) (by decide)) (fun _=> ?_);refine aI (fun q=>absurd (show((4:Int)==5)=true from q) (by decide)) (fun _=> ?_);refine aI (by show(0:Int)<=((i:Nat):Int)/\((i:Nat):Int)<((s.fl.map (bC ms)).length:Nat);omega) ?_;refine aI (by kernel_rfl) ?_;refine oY hdel ?_
  refine aI (by kernel_rfl) ?_;refine aI (fun q=>absurd (show((4:Int)==3)=true from q) (by decide)) (fun _=> ?_);refine fin [(10005,10002),(10006,10003),(10007,25)] (aI rfl ?_);exact⟨trivial,ah,⟨rfl,nP⟩,rfl,⟨rfl,nP⟩,⟨rfl,nP⟩,trivial⟩
end
end Go.Proofs.Ytbakpddomlgjbaa
