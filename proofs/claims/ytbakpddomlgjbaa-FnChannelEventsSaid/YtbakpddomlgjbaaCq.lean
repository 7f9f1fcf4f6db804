
/- Channels: a law's channel, drawn. -/
import Derived.Test.YtbakpddomlgjbaaCp
set_option linter.unusedSimpArgs false
set_option linter.unusedVariables false
namespace Go.Proofs.Ytbakpddomlgjbaa
open Go Go.RowKit Go.Proofs Go.Tr
section
variable {code:List Int}{ms:List ByteArray}
abbrev tD(code:List Int)(ms:List ByteArray)(x:eB×DS):List Tok:=[.bQ 10000 79 [.rsl iK code,.int .i64 (x.2.k:Nat),.int .u64 x.2.s],.bQ 5 27 (oO 20000 20001 20002 20003 ms x.1),rT 20000 ms,rP 20001 (x.1.ks.map (bV ms)),rT 20002 (ms.take x.1.e),rP 20003 (x.1.fl.map (bC ms))]
set_option maxHeartbeats 8000000 in
set_option maxRecDepth 100000 in
theorem OI(hb:Bytes code)(d:DS)(hk:d.k<=9000000):∃(ms:List ByteArray) (s:eB) (d':DS),aW ms s/\d'.k<=d.k+5000/\au Try.prog 22 [.ptr 10000 0] (iX code d) (.agg (oO 10001 10002 10003 10004 ms s)) (iX code d'++[rT 10001 ms,rP 10002 (s.ks.map (bV ms)),rT 10003 (ms.take s.e),rP 10004 (s.fl.map (bC ms))]):=by
 obtain⟨L,W,D,hLl,hDk,hN⟩:=Pk (code:=code) hb hk;have v1:=kS code D 60;have v2:=pW hb D 60;have v3:=jI hb D (n:=60) (by decide);obtain⟨K,hK⟩:∃n:Nat,(pk code D 60).1=(n:Nat):=⟨(pk code D 60).1.toNat,by omega⟩
 by_cases h:pQ W L
 .obtain⟨ms,rfl⟩:∃ms,ms=L:=⟨_,rfl⟩;have hs0:aW ms (sNew W):=(Dz h).1;obtain⟨R,hR⟩:∃R,R=nH code ms.length K (sNew W,(pk code D 60).2):=⟨_,rfl⟩;have hro:=zI hb K (x:=(sNew W,(pk code D 60).2)) hs0;rw[<-hR]at hro;refine⟨ms,R.1,R.2,hro.1,by have:=hro.2;simp only at this;omega,?_⟩;refine au.intro (nt:=60) aC mixed DK Try.func22 rfl rfl rfl rfl rfl rfl ?_;refine oY hN ?_;refine oY (KP h) ?_;refine aI (fun q=>by cases q) (fun _=> ?_);refine oY (fB code D hb (by omega) 60) ?_;refine lp (Nat×eB×DS) (fun p=>[(7,.int .i64 (p.1:Nat))]) (fun p=>.bQ 2 27 Bt::tD code ms p.2) (fun p=>p.1) (fun p=>p.1<=60/\aW ms p.2.1/\p.2.2.k+4*p.1<=d.k+3000/\nH code ms.length p.1 p.2=R) (K,sNew W,(pk code D 60).2) ⟨by show K<=60;omega,hs0,by show(pk code D 60).2.k+4*K<=d.k+3000;omega,hR.symm⟩ ?_ ?_
  .refine Go.Tr.hd [(20000,18),(20001,1000018),(20002,2000018),(20003,3000018)] rfl (aI ⟨hK,rfl⟩ trivial) ?_;exact⟨trivial,ah,trivial,ah,trivial,ah,⟨rfl,nP⟩,⟨rfl,nP⟩,⟨rfl,nP⟩,⟨rfl,nP⟩,trivial⟩
  rintro⟨k,s,e⟩ ⟨hk60,hs,hek,hrun⟩;have hk60:k<=60:=hk60;have hs:aW ms s:=hs;have hek:e.k+4*k<=d.k+3000:=hek;have hrun:nH code ms.length k (s,e)=R:=hrun;refine aI (fun q1=> ?_) (fun q1=> ?_)
  .obtain⟨k,rfl⟩:∃j,k=j+1:=⟨k-1,by have:=JJ q1;omega⟩;refine oY (yL hs) ?_;refine aI (fun q2=> ?_) (fun q2=> ?_)
   .have q2':((((evs ms.length s).length:Nat):Int)==0)=true:=q2;have hl0:((evs ms.length s).length==0)=true:=by simpa using q2'
    have hRe:R=(s,e):=by rw[<-hrun];unfold nH;rw[hl0];rfl
    subst hRe;refine fin [(10001,20000),(10002,20001),(10003,20002),(10004,20003)] (aI rfl ?_);exact⟨trivial,⟨rfl,⟨rfl,rfl⟩,⟨rfl,rfl⟩,trivial⟩,⟨rfl,nP⟩,⟨rfl,nP⟩,⟨rfl,nP⟩,⟨rfl,nP⟩,trivial⟩
   have q2':((((evs ms.length s).length:Nat):Int)==0)=false:=q2;have hl0:((evs ms.length s).length==0)=false:=by simpa using q2'
   have hne:(evs ms.length s).length≠0:=by simpa using hl0
   have hRs:nH code ms.length k (tu code ms.length (s,e))=R:=by(rw[<-hrun];conv=>rhs;unfold nH);rw[hl0];rfl
   have hso:=vW hb (x:=(s,e)) hs hne;have p0:=pW hb e ((evs ms.length s).length:Nat);have p1:=jI hb e (n:=((evs ms.length s).length:Nat)) (by omega);have p2:=kS code e ((evs ms.length s).length:Nat);have hev:=ak _ (gq (dd:=dflt bM) p0 p1);have hev0:=ak _ (gq (dd:=dflt bM) (l:=evs ms.length s) (i:=0) (Int.le_refl _) (by omega));refine oY (fB code e hb (by omega) ((evs ms.length s).length:Nat)) ?_;refine aI ⟨p0,p1⟩ ?_;obtain⟨ev,hee⟩:∃ev,ev=elt (dflt bM) (evs ms.length s) (pk code e ((evs ms.length s).length:Nat)).1:=⟨_,rfl⟩
   rw[<-hee]at hev;obtain⟨d',hd'⟩:∃d',d'=(pk code e ((evs ms.length s).length:Nat)).2:=⟨_,rfl⟩;have hst:tu code ms.length (s,e)=(bif ev.1==5 then(bif (pk code d' 6).1==0 then(bJ s ev,(pk code d' 6).2)else(bJ s (elt (dflt bM) (evs ms.length s) 0),(pk code d' 6).2))else(bJ s ev,d')):=by rw[hee,hd'];rfl
   rw[hst]at hRs hso;have hdk:d'.k<=9999999:=by rw[hd'];omega
   clear hst;subst hee hd';refine Or.inr (aI (fun gg=>eI _ (eI _ (aI (JU code (pk code e ((evs ms.length s).length:Nat)).2 hb (by omega) 6) ?_))) (fun gg=>eI (.bool false) ?_))
   .have gg':((elt (dflt bM) (evs ms.length s) (pk code e ((evs ms.length s).length:Nat)).1).1==5)=true:=gg;rw[gg']at hRs hso;refine aI (fun q3=> ?_) (fun q3=> ?_)
    .have q3':(bif ((elt (dflt bM) (evs ms.length s) (pk code e ((evs ms.length s).length:Nat)).1).1==5)then !((pk code (pk code e ((evs ms.length s).length:Nat)).2 6).1==0)else false)=true:=q3;rw[gg']at q3';have q4:((pk code (pk code e ((evs ms.length s).length:Nat)).2 6).1==0)=false:=by simpa using q3'
     rw[q4]at hRs hso;refine aI ⟨Int.le_refl _,by show(0:Int)<((evs ms.length s).length:Nat);omega⟩ ?_;refine oY (xB hs hev0) ?_;refine aF (k,bJ s (elt (dflt bM) (evs ms.length s) 0),(pk code (pk code e ((evs ms.length s).length:Nat)).2 6).2) ⟨by show k<=60;omega,hso.1,by have:=hso.2;simp only[qG,qH]at this;show(pk code (pk code e ((evs ms.length s).length:Nat)).2 6).2.k+4*k<=d.k+3000;omega,hRs⟩ ?_ (by show k<k+1;omega);refine Go.Tr.hd [(20001,58),(20002,1000058),(20003,2000058)] rfl (aI ⟨rC (by omega),rfl⟩ trivial) ?_
     exact⟨trivial,ah,trivial,ah,trivial,ah,⟨rfl,nP⟩,⟨rfl,nP⟩,⟨rfl,nP⟩,⟨rfl,nP⟩,trivial⟩
    .have q3':(bif ((elt (dflt bM) (evs ms.length s) (pk code e ((evs ms.length s).length:Nat)).1).1==5)then !((pk code (pk code e ((evs ms.length s).length:Nat)).2 6).1==0)else false)=false:=q3;rw[gg']at q3';have q4:((pk code (pk code e ((evs ms.length s).length:Nat)).2 6).1==0)=true:=by simpa using q3'
     rw[q4]at hRs hso;refine oY (xB hs hev) ?_;refine aF (k,bJ s (elt (dflt bM) (evs ms.length s) (pk code e ((evs ms.length s).length:Nat)).1),(pk code (pk code e ((evs ms.length s).length:Nat)).2 6).2) ⟨by show k<=60;omega,hso.1,by have:=hso.2;simp only[qG]at this;show(pk code (pk code e ((evs ms.length s).length:Nat)).2 6).2.k+4*k<=d.k+3000;omega,hRs⟩ ?_ (by show k<k+1;omega);refine Go.Tr.hd [(20001,58),(20002,1000058),(20003,2000058)] rfl (aI ⟨rC (by omega),rfl⟩ trivial) ?_;exact⟨trivial,ah,trivial,ah,trivial,ah,⟨rfl,nP⟩,⟨rfl,nP⟩,⟨rfl,nP⟩,⟨rfl,nP⟩,trivial⟩
   .have gg':((elt (dflt bM) (evs ms.length s) (pk code e ((evs ms.length s).length:Nat)).1).1==5)=false:=gg;rw[gg']at hRs hso;refine aI (fun q3=> ?_) (fun q3=> ?_)
    .exfalso;have q3':(bif ((elt (dflt bM) (evs ms.length s) (pk code e ((evs ms.length s).length:Nat)).1).1==5)then !false else false)=true:=q3;rw[gg']at q3';cases q3'
    refine oY (xB hs hev) ?_;refine aF (k,bJ s (elt (dflt bM) (evs ms.length s) (pk code e ((evs ms.length s).length:Nat)).1),(pk code e ((evs ms.length s).length:Nat)).2) ⟨by show k<=60;omega,hso.1,by have:=hso.2;simp only[qH]at this;show(pk code e ((evs ms.length s).length:Nat)).2.k+4*k<=d.k+3000;omega,hRs⟩ ?_ (by show k<k+1;omega);refine Go.Tr.hd [(20001,58),(20002,1000058),(20003,2000058)] rfl (aI ⟨rC (by omega),rfl⟩ trivial) ?_;exact⟨trivial,ah,trivial,ah,trivial,ah,⟨rfl,nP⟩,⟨rfl,nP⟩,⟨rfl,nP⟩,⟨rfl,nP⟩,trivial⟩
  .have hk0:=JA q1;subst hk0;have hRe:(s,e)=R:=hrun;subst hRe;refine fin [(10001,20000),(10002,20001),(10003,20002),(10004,20003)] (aI rfl ?_);exact⟨trivial,⟨rfl,⟨rfl,rfl⟩,⟨rfl,rfl⟩,trivial⟩,⟨rfl,nP⟩,⟨rfl,nP⟩,⟨rfl,nP⟩,⟨rfl,nP⟩,trivial⟩
 .obtain⟨ms,hms⟩:∃ms,ms=abc:=⟨_,rfl⟩;have hok:pQ 2 ms:=by rw[hms];exact Fp
  have hs0:aW ms (sNew 2):=(Dz hok).1;obtain⟨R,hR⟩:∃R,R=nH code ms.length K (sNew 2,(pk code D 60).2):=⟨_,rfl⟩;have hro:=zI hb K (x:=(sNew 2,(pk code D 60).2)) hs0;rw[<-hR]at hro
  have hcg:au Try.prog 53 [.sl 10000,.int .i64 2] [rT 10000 abc] (.tup [.agg (oO 10001 10002 10003 10004 ms (sNew 2)),.int .i64 0]) [rT 10001 ms,rP 10002 [],rT 10003 [],rP 10004 []]:=by
   rw[hms];exact KP Fp
  refine⟨ms,R.1,R.2,hro.1,by have:=hro.2;simp only at this;omega,?_⟩;refine au.intro (nt:=60) aC mixed DK Try.func22 rfl rfl rfl rfl rfl rfl ?_;refine oY hN ?_;refine oY (Pj (by omega) h) ?_;refine aI (fun _=> ?_) (fun q=>by cases q);refine oY hcg ?_;refine oY (fB code D hb (by omega) 60) ?_;refine lp (Nat×eB×DS) (fun p=>[(7,.int .i64 (p.1:Nat))]) (fun p=>.bQ 2 27 Bt::tD code ms p.2) (fun p=>p.1) (fun p=>p.1<=60/\aW ms p.2.1/\p.2.2.k+4*p.1<=d.k+3000/\nH code ms.length p.1 p.2=R) (K,sNew 2,(pk code D 60).2) ⟨by show K<=60;omega,hs0,by show(pk code D 60).2.k+4*K<=d.k+3000;omega,hR.symm⟩ ?_ ?_
  .refine Go.Tr.hd [(20000,25),(20001,1000025),(20002,2000025),(20003,3000025)] rfl (aI ⟨hK,rfl⟩ trivial) ?_;exact⟨trivial,ah,trivial,ah,trivial,ah,⟨rfl,nP⟩,⟨rfl,nP⟩,⟨rfl,nP⟩,⟨rfl,nP⟩,trivial⟩
  rintro⟨k,s,e⟩ ⟨hk60,hs,hek,hrun⟩;have hk60:k<=60:=hk60;have hs:aW ms s:=hs;have hek:e.k+4*k<=d.k+3000:=hek;have hrun:nH code ms.length k (s,e)=R:=hrun;refine aI (fun q1=> ?_) (fun q1=> ?_)
  .obtain⟨k,rfl⟩:∃j,k=j+1:=⟨k-1,by have:=JJ q1;omega⟩;refine oY (yL hs) ?_;refine aI (fun q2=> ?_) (fun q2=> ?_)
   .have q2':((((evs ms.length s).length:Nat):Int)==0)=true:=q2;have hl0:((evs ms.length s).length==0)=true:=by simpa using q2'
    have hRe:R=(s,e):=by rw[<-hrun];unfold nH;rw[hl0];rfl
    subst hRe;refine fin [(10001,20000),(10002,20001),(10003,20002),(10004,20003)] (aI rfl ?_);exact⟨trivial,⟨rfl,⟨rfl,rfl⟩,⟨rfl,rfl⟩,trivial⟩,⟨rfl,nP⟩,⟨rfl,nP⟩,⟨rfl,nP⟩,⟨rfl,nP⟩,trivial⟩
   have q2':((((evs ms.length s).length:Nat):Int)==0)=false:=q2;have hl0:((evs ms.length s).length==0)=false:=by simpa using q2'
   have hne:(evs ms.length s).length≠0:=by simpa using hl0
   have hRs:nH code ms.length k (tu code ms.length (s,e))=R:=by(rw[<-hrun];conv=>rhs;unfold nH);rw[hl0];rfl
   have hso:=vW hb (x:=(s,e)) hs hne;have p0:=pW hb e ((evs ms.length s).length:Nat);have p1:=jI hb e (n:=((evs ms.length s).length:Nat)) (by omega);have p2:=kS code e ((evs ms.length s).length:Nat);have hev:=ak _ (gq (dd:=dflt bM) p0 p1);have hev0:=ak _ (gq (dd:=dflt bM) (l:=evs ms.length s) (i:=0) (Int.le_refl _) (by omega));refine oY (fB code e hb (by omega) ((evs ms.length s).length:Nat)) ?_;refine aI ⟨p0,p1⟩ ?_;obtain⟨ev,hee⟩:∃ev,ev=elt (dflt bM) (evs ms.length s) (pk code e ((evs ms.length s).length:Nat)).1:=⟨_,rfl⟩
   rw[<-hee]at hev;obtain⟨d',hd'⟩:∃d',d'=(pk code e ((evs ms.length s).length:Nat)).2:=⟨_,rfl⟩;have hst:tu code ms.length (s,e)=(bif ev.1==5 then(bif (pk code d' 6).1==0 then(bJ s ev,(pk code d' 6).2)else(bJ s (elt (dflt bM) (evs ms.length s) 0),(pk code d' 6).2))else(bJ s ev,d')):=by rw[hee,hd'];rfl
   rw[hst]at hRs hso;have hdk:d'.k<=9999999:=by rw[hd'];omega
   clear hst;subst hee hd';refine Or.inr (aI (fun gg=>eI _ (eI _ (aI (JU code (pk code e ((evs ms.length s).length:Nat)).2 hb (by omega) 6) ?_))) (fun gg=>eI (.bool false) ?_))
   .have gg':((elt (dflt bM) (evs ms.length s) (pk code e ((evs ms.length s).length:Nat)).1).1==5)=true:=gg;rw[gg']at hRs hso;refine aI (fun q3=> ?_) (fun q3=> ?_)
    .have q3':(bif ((elt (dflt bM) (evs ms.length s) (pk code e ((evs ms.length s).length:Nat)).1).1==5)then !((pk code (pk code e ((evs ms.length s).length:Nat)).2 6).1==0)else false)=true:=q3;rw[gg']at q3';have q4:((pk code (pk code e ((evs ms.length s).length:Nat)).2 6).1==0)=false:=by simpa using q3'
     rw[q4]at hRs hso;refine aI ⟨Int.le_refl _,by show(0:Int)<((evs ms.length s).length:Nat);omega⟩ ?_;refine oY (xB hs hev0) ?_;refine aF (k,bJ s (elt (dflt bM) (evs ms.length s) 0),(pk code (pk code e ((evs ms.length s).length:Nat)).2 6).2) ⟨by show k<=60;omega,hso.1,by have:=hso.2;simp only[qG,qH]at this;show(pk code (pk code e ((evs ms.length s).length:Nat)).2 6).2.k+4*k<=d.k+3000;omega,hRs⟩ ?_ (by show k<k+1;omega);refine Go.Tr.hd [(20001,58),(20002,1000058),(20003,2000058)] rfl (aI ⟨rC (by omega),rfl⟩ trivial) ?_
     exact⟨trivial,ah,trivial,ah,trivial,ah,⟨rfl,nP⟩,⟨rfl,nP⟩,⟨rfl,nP⟩,⟨rfl,nP⟩,trivial⟩
    .have q3':(bif ((elt (dflt bM) (evs ms.length s) (pk code e ((evs ms.length s).length:Nat)).1).1==5)then !((pk code (pk code e ((evs ms.length s).length:Nat)).2 6).1==0)else false)=false:=q3;rw[gg']at q3';have q4:((pk code (pk code e ((evs ms.length s).length:Nat)).2 6).1==0)=true:=by simpa using q3'
     rw[q4]at hRs hso;refine oY (xB hs hev) ?_;refine aF (k,bJ s (elt (dflt bM) (evs ms.length s) (pk code e ((evs ms.length s).length:Nat)).1),(pk code (pk code e ((evs ms.length s).length:Nat)).2 6).2) ⟨by show k<=60;omega,hso.1,by have:=hso.2;simp only[qG]at this;show(pk code (pk code e ((evs ms.length s).length:Nat)).2 6).2.k+4*k<=d.k+3000;omega,hRs⟩ ?_ (by show k<k+1;omega);refine Go.Tr.hd [(20001,58),(20002,1000058),(20003,2000058)] rfl (aI ⟨rC (by omega),rfl⟩ trivial) ?_;exact⟨trivial,ah,trivial,ah,trivial,ah,⟨rfl,nP⟩,⟨rfl,nP⟩,⟨rfl,nP⟩,⟨rfl,nP⟩,trivial⟩
   .have gg':((elt (dflt bM) (evs ms.length s) (pk code e ((evs ms.length s).length:Nat)).1).1==5)=false:=gg;rw[gg']at hRs hso;refine aI (fun q3=> ?_) (fun q3=> ?_)
    .exfalso;have q3':(bif ((elt (dflt bM) (evs ms.length s) (pk code e ((evs ms.length s).length:Nat)).1).1==5)then !false else false)=true:=q3;rw[gg']at q3';cases q3'
    refine oY (xB hs hev) ?_;refine aF (k,bJ s (elt (dflt bM) (evs ms.length s) (pk code e ((evs ms.length s).length:Nat)).1),(pk code e ((evs ms.length s).length:Nat)).2) ⟨by show k<=60;omega,hso.1,by have:=hso.2;simp only[qH]at this;show(pk code e ((evs ms.length s).length:Nat)).2.k+4*k<=d.k+3000;omega,hRs⟩ ?_ (by show k<k+1;omega);refine Go.Tr.hd [(20001,58),(20002,1000058),(20003,2000058)] rfl (aI ⟨rC (by omega),rfl⟩ trivial) ?_;exact⟨trivial,ah,trivial,ah,trivial,ah,⟨rfl,nP⟩,⟨rfl,nP⟩,⟨rfl,nP⟩,⟨rfl,nP⟩,trivial⟩
  .have hk0:=JA q1;subst hk0;have hRe:(s,e)=R:=hrun;subst hRe;refine fin [(10001,20000),(10002,20001),(10003,20002),(10004,20003)] (aI rfl ?_);exact⟨trivial,⟨rfl,⟨rfl,rfl⟩,⟨rfl,rfl⟩,trivial⟩,⟨rfl,nP⟩,⟨rfl,nP⟩,⟨rfl,nP⟩,⟨rfl,nP⟩,trivial⟩
theorem Mw(hb:Bytes code):∃(ms:List ByteArray) (s:eB),aW ms s/\au Try.prog 6 [.rsl iK code] [] (.agg (oO 10000 10001 10002 10003 ms s)) [rT 10000 ms,rP 10001 (s.ks.map (bV ms)),rT 10002 (ms.take s.e),rP 10003 (s.fl.map (bC ms))]:=by
 obtain⟨ms,s,d',h1,_,h3⟩:=OI hb ⟨0,0⟩ (by decide);refine⟨ms,s,h1,?_⟩;refine au.intro (nt:=6) aC mixed (by kernel_rfl) Try.func6 rfl rfl rfl rfl rfl rfl ?_;refine oY (Ga code) ?_;refine oY h3 ?_;refine fin [(10000,5),(10001,1000005),(10002,2000005),(10003,3000005)] (aI rfl ?_);exact⟨⟨rfl,nP⟩,⟨rfl,nP⟩,⟨rfl,nP⟩,⟨rfl,nP⟩,trivial⟩
theorem Gz(hb:Bytes code):∃(ms:List ByteArray) (s:eB),aW ms s/\bI Try.prog 6 [.rsl iK code] [] (yt (toN ms s)) []:=by
 obtain⟨ms,s,h1,h2⟩:=Mw hb;exact⟨ms,s,h1,bI.fz (au.g h2) rfl⟩
end
end Go.Proofs.Ytbakpddomlgjbaa
