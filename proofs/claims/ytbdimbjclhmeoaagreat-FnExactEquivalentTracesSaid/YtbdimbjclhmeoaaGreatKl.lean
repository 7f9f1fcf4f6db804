
/- Rounds: what both sides do, event by event. -/
import Derived.Test.YtbdimbjclhmeoaaGreatKe
import Derived.Test.YtbdimbjclhmeoaaGreatUe
set_option maxHeartbeats 4000000
set_option maxRecDepth 100000
set_option linter.unusedSimpArgs false
set_option linter.unusedVariables false
namespace Go.Proofs.YtbdimbjclhmeoaaGreat
open Go Go.RowKit Go.Proofs Go.Tr
inductive Turns(bk:List (List ak))(y0:List ak)(T:List aB)(sT:List oU)(d:Int):RS->List iD->Int->RS->Prop
 |done {r:RS} {R:List aB} (g:Tr.Good bk y0 T sT R r):Turns bk y0 T sT d r [] 0 r
 |bad {r:RS} {R:List aB} {t:iD} {ts:List iD} (g:Tr.Good bk y0 T sT R r) (e:aB) (hm:T[t.1.toNat]? =some e) (h0:0<=t.1) (ht:jw r.s e t.2.1 t.2.2) (code:Int) (hc:code≠0)
  (hI:∀us,aA Tryz.prog 131 [.ptr 10000 0,vP t.2] (tR r.xs us bk r.kv r.ev) (.int .i64 code) (tR r.xs us bk r.kv r.ev))
  (hS:∀us,aA Tryz.prog 95 [.rsl aZ bk,.ptr 10000 0,.int .i64 t.2.1,.int .i64 t.2.2] (tA r.s.ys us) (.tup [yI (0,0,0,0,0),.int .i64 code]) (tA r.s.ys us)):Turns bk y0 T sT d r (t::ts) code r
 |next {r:RS} {R:List aB} {t:iD} {ts:List iD} (g:Tr.Good bk y0 T sT R r) (e:aB) (hm:T[t.1.toNat]? =some e) (h0:0<=t.1) (ht:jw r.s e t.2.1 t.2.2) (kv':List (Int×Bool)) (xs':List ak)
  (hI:∀us,aA Tryz.prog 131 [.ptr 10000 0,vP t.2] (tR r.xs us bk r.kv r.ev) (.int .i64 0) (RX 10005 10006 xs' us bk kv' (r.ev++[KN bk r.s.ys t.2.1 t.2.2])))
  (hS:∀us,aA Tryz.prog 95 [.rsl aZ bk,.ptr 10000 0,.int .i64 t.2.1,.int .i64 t.2.2] (tA r.s.ys us) (.tup [yI (KN bk r.s.ys t.2.1 t.2.2),.int .i64 0]) (Ir 10002 (aX bk r.s.ys t.2.1 t.2.2) []))
  {code:Int} {rf:RS} (g':Tr.Good bk y0 T sT (R++[e]) (rO bk T d r t kv' xs')) (rest:Turns bk y0 T sT d (rO bk T d r t kv' xs') ts code rf):Turns bk y0 T sT d r (t::ts) code rf
section
variable {bk:iQ}{y0:aS}{T:List aB}{sT:List oU}
theorem Iw(C:TC bk y0 T sT)(d:Int):∀(ts:List iD) (r:RS) (R:List aB),Tr.Good bk y0 T sT R r->(∀t∈ts,∃e,T[t.1.toNat]? =some e/\0<=t.1/\jw r.s e t.2.1 t.2.2)->(ts.Pairwise fun x y=>x.2.1<y.2.1)->
  ∃code rf,Turns bk y0 T sT d r ts code rf/\(code=0->∃R',Tr.Good bk y0 T sT R' rf/\R'.length=R.length+ts.length)
 |[],r,R,g,_,_=>⟨0,r,.done g,fun _=>⟨R,g,rfl⟩⟩
 |t::ts,r,R,g,h,hp=>by
  obtain⟨e,hm,h0,ht⟩:=h t (List.mem_cons_self ..);have he:e∈T:=List.mem_of_getElem? hm;obtain⟨kp,ra,rb⟩:=g.ri.tw.yL ht.ta ht.tb ht.ac;have hlen:=g.ri.tw.len;have hsm:=g.ri.small C;have hev:=g.ev;have hle:=g.le;have lT:=C.lT;have ia:0<=t.2.1/\t.2.1<(r.xs.length:Nat):=⟨kp.px.1,kp.px.2.1⟩;have ib:0<=t.2.2/\t.2.2<(r.xs.length:Nat):=⟨kp.py.1,kp.py.2.1⟩;have iay:0<=t.2.1/\t.2.1<(r.s.ys.length:Nat):=by rw[<-hlen];exact ia
  have iby:0<=t.2.2/\t.2.2<(r.s.ys.length:Nat):=by rw[<-hlen];exact ib
  cases Ec g.ri.tw kp ra rb C.hb (by omega)with
  |bad code hc hI hA ho=>
   exact⟨code,r,.bad g e hm h0 ht code hc (fun us=>EO r.xs us bk r.kv r.ev t.2 ia ib hc (hI us)) (fun us=>Yu bk r.s.ys us t.2.1 t.2.2 iay iby hc (hA us)),fun q=>absurd q hc⟩
  |ok x' y' kv' hI hA tw l0 l1 sg cl wl ho hy=>
   subst hy;obtain⟨g',hs'⟩:=g.next (d:=d) C hm h0 ht tw sg;have hlen':=tw.len;have hsm':=g'.ri.small C;have hsm2:(aX bk r.s.ys t.2.1 t.2.2).length<=3000:=hsm'
   have hcl:(bn (ah r.xs t.2.1) (ah r.xs t.2.2)).1=aR (ah r.s.ys t.2.1) (ah r.s.ys t.2.2):=by
    rw[g.ri.tw.at_ ia.1 ia.2 kp.lx,g.ri.tw.at_ ib.1 ib.2 kp.ly,(wG (g.ri.tw.wf t.2.1 ia.1 ia.2 kp.lx) (g.ri.tw.wf t.2.2 ib.1 ib.2 kp.ly) ra rb).1,fq]
   have hP:=fun us=>H8 r.xs us bk r.kv r.ev t.2 ia ib (by omega) l0 (by omega) (hI us)
   have hE:=fun us=>Tf bk r.s.ys us t.2.1 t.2.2 iay iby (by omega) (by omega) (hA us)
   rw[hcl,hlen,hlen']at hP;rw[show decide ((3000:Int)<((aX bk r.s.ys t.2.1 t.2.2).length:Int))=false from decide_eq_false (by omega)]at hE
   have tl:∀t'∈ts,∃e',T[t'.1.toNat]? =some e'/\0<=t'.1/\jw (rO bk T d r t kv' x').s e' t'.2.1 t'.2.2:=fun t' h'=>by
    obtain⟨e',hm',h0',ht'⟩:=h t' (List.mem_cons_of_mem _ h');refine⟨e',hm',h0',?_⟩;rw[hs'];exact ht.later ht' C g.ri he (List.mem_of_getElem? hm') (by have:=(List.pairwise_cons.1 hp).1 t' h';omega)
   obtain⟨code,rf,k1,k2⟩:=Iw C d ts (rO bk T d r t kv' x') (R++[e]) g' tl (List.pairwise_cons.1 hp).2;refine⟨code,rf,.next g e hm h0 ht kv' x' hP hE g' k1,fun q=> ?_⟩;obtain⟨R',q1,q2⟩:=k2 q;refine⟨R',q1,?_⟩;rw[q2,qA,qJ,qI];omega
end
abbrev yF(T:List aB)(r:RS):List iD:=xq T r.s.old (uG r.s.ys)
inductive yA(bk:List (List ak))(y0:List ak)(T:List aB)(sT:List oU):Int->RS->Int->RS->Prop
 |stop {d:Int} {r:RS} {R:List aB} (g:Tr.Good bk y0 T sT R r) (hd:1<=d/\d<=(R.length:Nat)+1) (h:R.length=T.length):yA bk y0 T sT d r 0 r
 |bad {d:Int} {r:RS} {R:List aB} (g:Tr.Good bk y0 T sT R r) (hd:1<=d/\d<=(R.length:Nat)+1) (h:R.length<T.length) {code:Int} {rf:RS} (hc:code≠0) (t:Turns bk y0 T sT d r (yF T r) code rf):yA bk y0 T sT d r code rf
 |next {d:Int} {r:RS} {R:List aB} (g:Tr.Good bk y0 T sT R r) (hd:1<=d/\d<=(R.length:Nat)+1) (h:R.length<T.length) {r':RS} {R':List aB} (g':Tr.Good bk y0 T sT R' r') (hl:R'.length=R.length+(yF T r).length) (hne:0<(yF T r).length)
  (t:Turns bk y0 T sT d r (yF T r) 0 r') {code:Int} {rf:RS} (k:yA bk y0 T sT (d+1) r' code rf):yA bk y0 T sT d r code rf
section
variable {bk:iQ}{y0:aS}{T:List aB}{sT:List oU}
theorem LK(C:TC bk y0 T sT):∀(n:Nat) (r:RS) (R:List aB) (d:Int),Tr.Good bk y0 T sT R r->T.length-R.length<=n->1<=d/\d<=(R.length:Nat)+1->∃code rf,yA bk y0 T sT d r code rf
 |n,r,R,d,g,hn,hd=>by
  have hle:=g.le
  by_cases h:R.length=T.length
  .exact⟨0,r,.stop g hd h⟩
  have h':R.length<T.length:=by omega
  have hne:0<(yF T r).length:=List.length_pos_iff.2 (g.ri.some C h')
  have tl:∀t∈yF T r,∃e,T[t.1.toNat]? =some e/\0<=t.1/\jw r.s e t.2.1 t.2.2:=fun t ht=>by
   obtain⟨q1,q2,q3⟩:=JO.1 ht;obtain⟨m,e,h1,h2,h3⟩:=g.ri.Cq C q1 q2;exact⟨e,by rw[q3,h1,qK];exact h2,by omega,h3⟩
  obtain⟨code,rf,k1,k2⟩:=Iw C d (yF T r) r R g tl (Vu (Vf r.s.ys))
  by_cases hc:code=0
  .subst hc;obtain⟨R',g',hl⟩:=k2 rfl
   match n with
   |0=>omega
   |n+1=>
    obtain⟨c2,rf2,k3⟩:=LK C n rf R' (d+1) g' (by omega) (by omega);exact⟨c2,rf2,.next g hd h' g' hl hne k1 k3⟩
  .exact⟨code,rf,.bad g hd h' hc k1⟩
end
end Go.Proofs.YtbdimbjclhmeoaaGreat
namespace Go.Proofs.YtbdimbjclhmeoaaGreat
open Go Go.RowKit Go.Proofs Go.Tr
abbrev Zr(r:RS):List Int:=r.fr.map fun p=>p.1
abbrev Zt(r:RS):List Int:=r.fr.map fun p=>p.2
theorem pElt{d:Int×Int}{l:List (Int×Int)}{i:Nat}(h:i<l.length):l.drop i=elt d l ((i:Nat):Int)::l.drop (i+1):=by
 rw[List.drop_eq_getElem_cons h];unfold elt;rw[qC,qK,qB h];rfl
theorem Nk(f:Int)(j:Nat):dN f ((j:Nat):Int)++[f+(j:Int)]=dN f ((j+1:Nat):Int):=by
 unfold dN;rw[qK,qK,List.range_succ,qZ];rfl
section
variable {bk:iQ}{y0:aS}{T:List aB}{sT:List oU}
theorem yA.good{d:Int}{r rf:RS}{c:Int}(h:yA bk y0 T sT d r c rf):∃R,Tr.Good bk y0 T sT R r/\1<=d/\d<=(R.length:Nat)+1:=by
 cases h with
 |stop g hd=>exact⟨_,g,hd⟩
 |bad g hd=>exact⟨_,g,hd⟩
 |next g hd=>exact⟨_,g,hd⟩
theorem Qa(C:TC bk y0 T sT)(hs:dK y0){code:Int}{rf:RS}{dp:List Int}{ft:List Int}(H:yA bk y0 T sT 1 ⟨⟨y0,sI y0.length⟩,[],y0,[],ft,dp,[]⟩ code rf)(rr:SV)(tt:List Tok)
  (hbad:code≠0->rr=.tup [.raw (.slice none 0 0),.raw (.slice none 0 0),.raw (.slice none 0 0),.int .i64 code]/\tt=[])
  (hok:code=0->rr=.tup [.sl 10000,.sl 10001,.sl 10002,.int .i64 0]/\tt=[.row 10000 67 5 aV rf.ev [],.row 10001 2 1 (.int .i64) (Zr rf) [],.row 10002 2 1 (.int .i64) (Zt rf) []]):
  aA Tryz.prog 61 [.rsl aZ bk,.rp aZ y0,.rsl aV T] [] rr tt:=by
 have lT:=C.lT;refine aA.intro (nt:=125) aG mixed (by kernel_rfl) Tryz.func61 rfl rfl rfl rfl rfl rfl ?_;refine oY (JI y0 hs) ?_;refine lp Nat (fun i=>[(12,.int .i64 (i:Nat)),(11,.sl 20000)]) (fun i=>[.dL 10 37 [.sl 24],.row 24 117 5 aD y0 [],.row 20000 2 1 (.int .i64) (sI i) []]) (fun i=>y0.length-i) (fun i=>i<=y0.length) 0 (Nat.zero_le _) ?_ ?_
 .exact hd [(20000,25)] rfl (aI (aI rfl rfl) (aI rfl trivial)) ⟨trivial,⟨rfl,trivial⟩,⟨rfl,nP⟩,⟨rfl,nP⟩,trivial⟩
 intro i hi;have hi':i<=y0.length:=hi
 have hy0:y0.length<=3000:=by
  have:=C.run.pre.length_le;have:=C.lS;rw[qV]at*;omega
 refine aI (fun q1=> ?_) (fun q1=> ?_)
 .have hlt:i<y0.length:=ltU q1;refine aI (show(sI i).length+1<=1073741824 by rw[vk];omega) ?_;refine aY (i+1) hlt ?_ ?_
  .refine hd [(20000,38)] rfl (aI (aI (dG (by omega)) rfl) (aI rfl trivial)) ⟨trivial,⟨rfl,trivial⟩,⟨rfl,nP⟩,⟨?_,nP⟩,trivial⟩;show sI i++[(i:Int)]=sI (i+1);unfold sI;rw[List.range_succ,qZ];rfl
  .show y0.length-(i+1)<y0.length-i;omega
 have hie:i=y0.length:=by have:=geU q1;omega
 subst hie
 refine lp (RS×Int) (fun s=>[(16,.int .i64 s.2),(11,.sl 21000),(13,.sl 21002),(14,.sl 21003),(15,.sl 21004)])
  (fun s=>[.dL 10 37 [.sl 21001],.row 21000 2 1 (.int .i64) s.1.s.old [],.row 21001 117 5 aD s.1.s.ys [],.row 21002 67 5 aV s.1.ev [],.row 21003 2 1 (.int .i64) (Zr s.1) [],.row 21004 2 1 (.int .i64) (Zt s.1) []])
  (fun s=>T.length-s.1.ev.length) (fun s=>yA bk y0 T sT s.2 s.1 code rf) (⟨⟨y0,sI y0.length⟩,[],y0,[],ft,dp,[]⟩,1) H ?_ ?_
 .exact hd [(21000,20000),(21001,24),(21002,39),(21003,40),(21004,41)] rfl (aI (aI rfl rfl) (aI rfl (aI rfl (aI rfl (aI rfl trivial))))) ⟨trivial,⟨rfl,trivial⟩,⟨rfl,nP⟩,⟨rfl,nP⟩,⟨rfl,nP⟩,⟨rfl,nP⟩,⟨rfl,nP⟩,trivial⟩
 rintro⟨r,d⟩ hR;have hR':yA bk y0 T sT d r code rf:=hR;obtain⟨R0,g0,hd0⟩:=hR'.good;have hev0:=g0.ev;have hle0:=g0.le;refine aI (fun q2=> ?_) (fun q2=> ?_)
 .have hlt:r.ev.length<T.length:=ltU q2;have hsm0:=g0.ri.small C;refine oY (ZM r.s.ys [] (by omega) g0.ri.tw.pos g0.ri.tw.ZR) ?_
  have key:∃(c:Int) (rm:RS),Turns bk y0 T sT d r (yF T r) c rm/\(c≠0->c=code)/\(c=0->yA bk y0 T sT (d+1) rm code rf/\r.ev.length<rm.ev.length):=by
   cases hR' with
   |stop g hd h=>have:=g.ev;omega
   |bad g hd h hc t=>exact⟨code,rf,t,fun _=>rfl,fun e=>absurd e hc⟩
   |next g hd h g' hl hne t k=>exact⟨0,_,t,fun e=>absurd rfl e,fun _=>⟨k,by have:=g.ev;have:=g'.ev;omega⟩⟩
  obtain⟨c,rm,hT,hc1,hc2⟩:=key;generalize hps:uG r.s.ys=ps at*;have hpl:ps.length<=r.s.ys.length:=by rw[<-hps];exact XJ _
  have hpin:∀p∈ps,(0<=p.1/\p.1<(r.s.ys.length:Nat))/\0<=p.2/\p.2<(r.s.ys.length:Nat):=fun p hp=>by
   rw[<-hps]at hp;obtain⟨t1,t2,_⟩:=g0.ri.tw.Dj.1 hp;exact⟨⟨t1.1,t1.2.1⟩,t2.1,t2.2.1⟩
  have hol0:=g0.ri.fit.len
  refine lp (RS×Nat) (fun s=>[(18,.int .i64 (s.2:Nat)),(11,.sl 22000),(13,.sl 22002),(14,.sl 22003),(15,.sl 22004)])
   (fun s=>[.dL 10 37 [.sl 22001],.row 49 145 2 aK ps [],.row 22000 2 1 (.int .i64) s.1.s.old [],.row 22001 117 5 aD s.1.s.ys [],.row 22002 67 5 aV s.1.ev [],.row 22003 2 1 (.int .i64) (Zr s.1) [],.row 22004 2 1 (.int .i64) (Zt s.1) []])
   (fun s=>ps.length-s.2) (fun s=>s.2<=ps.length/\Turns bk y0 T sT d s.1 (xq T r.s.old (ps.drop s.2)) c rm/\∃q,s.1.s.old=r.s.old++q) (r,0) ⟨Nat.zero_le _,by rw[List.drop_zero];unfold yF at hT;rw[hps]at hT;exact hT,[],by simp⟩ ?_ ?_
  .exact hd [(22000,21000),(22001,21001),(22002,21002),(22003,21003),(22004,21004)] rfl (aI (aI rfl rfl) (aI rfl (aI rfl (aI rfl (aI rfl trivial))))) ⟨trivial,⟨rfl,trivial⟩,⟨rfl,nP⟩,⟨rfl,nP⟩,⟨rfl,nP⟩,⟨rfl,nP⟩,⟨rfl,nP⟩,⟨rfl,nP⟩,trivial⟩
  rintro⟨r1,k⟩ ⟨hk,hT1,hq⟩;have hk':k<=ps.length:=hk;have hT1':Turns bk y0 T sT d r1 (xq T r.s.old (ps.drop k)) c rm:=hT1;obtain⟨qq,hq⟩:=hq;have hq':r1.s.old=r.s.old++qq:=hq;refine aI (fun q3=> ?_) (fun q3=> ?_)
  .have hkl:k<ps.length:=ltU q3;have hbd:0<=((k:Nat):Int)/\((k:Nat):Int)<(ps.length:Nat):=by omega
   have hdrop:=pElt (d:=dflt aK) hkl
   have hpm:elt (dflt aK) ps ((k:Nat):Int)∈ps:=by
    have:elt (dflt aK) ps ((k:Nat):Int)∈ps.drop k:=by rw[hdrop];exact List.mem_cons_self ..
    exact List.mem_of_mem_drop this
   have hpi:=hpin _ hpm;have holl:r.s.old.length<=r1.s.old.length:=by rw[hq',qA];omega
   refine aI hbd ?_;refine aI (aI hpi.1.1 (Int.lt_of_lt_of_le hpi.1.2 (Int.ofNat_le.2 (show r.s.ys.length<=r1.s.old.length by omega)))) ?_;refine aI hbd ?_;refine aI (aI hpi.2.1 (Int.lt_of_lt_of_le hpi.2.2 (Int.ofNat_le.2 (show r.s.ys.length<=r1.s.old.length by omega)))) ?_;refine oZ (Za9 T _ _ (by omega)) ?_;refine aI (by kernel_rfl) ?_
   have hsame:∀z:Int,0<=z->z<(r.s.old.length:Nat)->elt 0 r1.s.old z=elt 0 r.s.old z:=fun z z0 z1=>by
    rw[hq'];unfold elt;rw[qC,qC,qM (by omega)]
   have hfe:j6 (wP (elt 0 r1.s.old (elt (dflt aK) ps ((k:Nat):Int)).1) (elt 0 r1.s.old (elt (dflt aK) ps ((k:Nat):Int)).2)) T 0=Cq T r.s.old (elt (dflt aK) ps ((k:Nat):Int)):=by
    unfold Cq;rw[hsame _ hpi.1.1 (by omega),hsame _ hpi.2.1 (by omega)]
   have hT2:=hT1';rw[hdrop]at hT2;refine aI (fun q4=> ?_) (fun q4=> ?_)
   .have q5:decide (Cq T r.s.old (elt (dflt aK) ps ((k:Nat):Int))<0)=true:=by rw[<-hfe];exact q4
    have hno:NQ T r.s.old (elt (dflt aK) ps ((k:Nat):Int))=none:=by unfold NQ;rw[q5];rfl
    have hT3:Turns bk y0 T sT d r1 (xq T r.s.old (ps.drop (k+1))) c rm:=by
     unfold xq at hT2 |-;rw[List.filterMap_cons_none hno]at hT2;exact hT2
    refine aY (r1,k+1) ⟨hkl,hT3,qq,hq'⟩ ?_ ?_
    .exact hd [] rfl (aI (aI (dG (by omega)) rfl) (aI rfl (aI rfl (aI rfl (aI rfl trivial))))) ⟨trivial,⟨rfl,trivial⟩,⟨rfl,nP⟩,⟨rfl,nP⟩,⟨rfl,nP⟩,⟨rfl,nP⟩,⟨rfl,nP⟩,⟨rfl,nP⟩,trivial⟩
    .show ps.length-(k+1)<ps.length-k;omega
   have q5:decide (Cq T r.s.old (elt (dflt aK) ps ((k:Nat):Int))<0)=false:=by rw[<-hfe];exact q4
   have hso:NQ T r.s.old (elt (dflt aK) ps ((k:Nat):Int))=some (Cq T r.s.old (elt (dflt aK) ps ((k:Nat):Int)),(elt (dflt aK) ps ((k:Nat):Int))):=by unfold NQ;rw[q5];rfl
   have hT3:Turns bk y0 T sT d r1 ((Cq T r.s.old (elt (dflt aK) ps ((k:Nat):Int)),(elt (dflt aK) ps ((k:Nat):Int)))::xq T r.s.old (ps.drop (k+1))) c rm:=by
    unfold xq at hT2 |-;rw[List.filterMap_cons_some hso]at hT2;exact hT2
   refine aI hbd ?_;refine aI hbd ?_;generalize hat:Cq T r.s.old (elt (dflt aK) ps ((k:Nat):Int))=at_ at*
   cases hT3 with
   |bad g e hm h0 ht c hc hI hS=>
    refine oY (hS []) ?_;refine aI (by kernel_rfl) ?_;refine aI (fun q6=> ?_) (fun q6=> ?_)
    .obtain⟨rfl,rfl⟩:=hbad (by rw[<-hc1 hc];exact hc);rw[<-hc1 hc];exact fin [] (aI rfl trivial)
    .exfalso;have q7:(c !=0)=false:=q6;simp at q7;exact hc q7
   |next g e hm h0 ht kv' xs' hI hS g' rest=>
    refine oY (hS []) ?_;refine aI (by kernel_rfl) ?_;refine aI (fun q6=>by cases q6) (fun q6=> ?_);have he:e∈T:=List.mem_of_getElem? hm;have E:=C.ev he;have u:=ht.turn C g.ri he;have hm2:=(qE.1 hm).1;have hsm:=g.ri.small C;have hsm':=g'.ri.small C;have hol:=g.ri.fit.len;have hgv:=g.ev;have hgf:=g.fr;have hgl:=g.le;have hlen:(aX bk r1.s.ys (elt (dflt aK) ps ((k:Nat):Int)).1 (elt (dflt aK) ps ((k:Nat):Int)).2).length=r1.s.ys.length+(nD e).toNat:=u.len;have hsm2:(aX bk r1.s.ys (elt (dflt aK) ps ((k:Nat):Int)).1 (elt (dflt aK) ps ((k:Nat):Int)).2).length<=3000:=hsm'
    have hcn:=E.cnt;have hrg:=E.rng;have hlS:=C.lS;have h0':0<=at_:=h0
    have hm2':at_.toNat<T.length:=hm2
    have eva:elt (dflt aV) T at_=e:=by
     have:=xQ hm;have e2:(((at_,(elt (dflt aK) ps ((k:Nat):Int))):iD).1.toNat:Int)=at_:=by show(at_.toNat:Int)=at_;omega
     rw[e2]at this;exact this
    have hbd2:0<=j6 (wP (elt 0 r1.s.old (elt (dflt aK) ps ((k:Nat):Int)).1) (elt 0 r1.s.old (elt (dflt aK) ps ((k:Nat):Int)).2)) T 0/\j6 (wP (elt 0 r1.s.old (elt (dflt aK) ps ((k:Nat):Int)).1) (elt 0 r1.s.old (elt (dflt aK) ps ((k:Nat):Int)).2)) T 0<(T.length:Nat):=by rw[hfe];omega
    have hEc:(KN bk r1.s.ys (elt (dflt aK) ps ((k:Nat):Int)).1 (elt (dflt aK) ps ((k:Nat):Int)).2).2.2.2.2=nD e:=by
     show(((aX bk r1.s.ys (elt (dflt aK) ps ((k:Nat):Int)).1 (elt (dflt aK) ps ((k:Nat):Int)).2).length:Nat):Int)-((r1.s.ys.length:Nat):Int)=nD e;omega
    refine lp Nat (fun j=>[(22,.int .i64 (j:Nat)),(11,.sl 23000),(13,.sl 23002),(14,.sl 23003),(15,.sl 23004)])
     (fun j=>[.dL 10 37 [.sl 88],.row 88 117 5 aD (aX bk r1.s.ys (elt (dflt aK) ps ((k:Nat):Int)).1 (elt (dflt aK) ps ((k:Nat):Int)).2) [],.row 49 145 2 aK ps [],.row 23002 67 5 aV r1.ev [],.row 23003 2 1 (.int .i64) (Zr r1) [],.row 23004 2 1 (.int .i64) (Zt r1) [],.dL 20 67 [.int .i64 (KN bk r1.s.ys (elt (dflt aK) ps ((k:Nat):Int)).1 (elt (dflt aK) ps ((k:Nat):Int)).2).1,.int .i64 (KN bk r1.s.ys (elt (dflt aK) ps ((k:Nat):Int)).1 (elt (dflt aK) ps ((k:Nat):Int)).2).2.1,.int .i64 (KN bk r1.s.ys (elt (dflt aK) ps ((k:Nat):Int)).1 (elt (dflt aK) ps ((k:Nat):Int)).2).2.2.1,.int .i64 (KN bk r1.s.ys (elt (dflt aK) ps ((k:Nat):Int)).1 (elt (dflt aK) ps ((k:Nat):Int)).2).2.2.2.1,.int .i64 (KN bk r1.s.ys (elt (dflt aK) ps ((k:Nat):Int)).1 (elt (dflt aK) ps ((k:Nat):Int)).2).2.2.2.2],.row 23000 2 1 (.int .i64) (r1.s.old++dN (fH e) ((j:Nat):Int)) []])
     (fun j=>(nD e).toNat-j) (fun j=>j<=(nD e).toNat) 0 (Nat.zero_le _) ?_ ?_
    .refine hd [(23000,22000),(23002,22002),(23003,22003),(23004,22004)] rfl (aI (aI rfl rfl) (aI rfl (aI rfl (aI rfl (aI rfl trivial))))) ⟨trivial,⟨rfl,trivial⟩,⟨rfl,nP⟩,⟨rfl,nP⟩,⟨rfl,nP⟩,⟨rfl,nP⟩,⟨rfl,nP⟩,trivial,⟨⟨rfl,rfl⟩,⟨rfl,rfl⟩,⟨rfl,rfl⟩,⟨rfl,rfl⟩,⟨rfl,rfl⟩,trivial⟩,⟨?_,nP⟩,trivial⟩;show r1.s.old=r1.s.old++dN (fH e) ((0:Nat):Int);exact(qS _).symm
    intro j hj;have hj':j<=(nD e).toNat:=hj;refine aI (fun q7=> ?_) (fun q7=> ?_)
    .have hjl:((j:Nat):Int)<nD e:=by
      have q8:decide (((j:Nat):Int)<(KN bk r1.s.ys (elt (dflt aK) ps ((k:Nat):Int)).1 (elt (dflt aK) ps ((k:Nat):Int)).2).2.2.2.2)=true:=q7;rw[hEc]at q8;exact of_decide_eq_true q8
     refine aI hbd2 ?_;refine aI (show(r1.s.old++dN (fH e) ((j:Nat):Int)).length+1<=1073741824 by rw[qA,um];omega) ?_;refine aY (j+1) (by omega) ?_ ?_
     .refine hd [(23000,109)] rfl (aI (aI (dG (by omega)) rfl) (aI rfl (aI rfl (aI rfl (aI rfl trivial))))) ⟨trivial,⟨rfl,trivial⟩,⟨rfl,nP⟩,⟨rfl,nP⟩,⟨rfl,nP⟩,⟨rfl,nP⟩,⟨rfl,nP⟩,trivial,⟨⟨rfl,rfl⟩,⟨rfl,rfl⟩,⟨rfl,rfl⟩,⟨rfl,rfl⟩,⟨rfl,rfl⟩,trivial⟩,⟨?_,nP⟩,trivial⟩;show(r1.s.old++dN (fH e) ((j:Nat):Int))++[IntKind.i64.wrap (fH (elt (dflt aV) T (j6 (wP (elt 0 r1.s.old (elt (dflt aK) ps ((k:Nat):Int)).1) (elt 0 r1.s.old (elt (dflt aK) ps ((k:Nat):Int)).2)) T 0))+((j:Nat):Int))]=r1.s.old++dN (fH e) ((j+1:Nat):Int);rw[hfe,eva,qO _ (by omega),qF,Nk]
     .show(nD e).toNat-(j+1)<(nD e).toNat-j;omega
    have hje:((j:Nat):Int)=nD e:=by
     have q8:decide (((j:Nat):Int)<(KN bk r1.s.ys (elt (dflt aK) ps ((k:Nat):Int)).1 (elt (dflt aK) ps ((k:Nat):Int)).2).2.2.2.2)=false:=q7;rw[hEc]at q8;have:=of_decide_eq_false q8;omega
    refine aI (show r1.ev.length+1<=1073741824 by omega) ?_;refine aI (show(Zr r1).length+1<=1073741824 by rw[qV];omega) ?_;refine aI (show(Zt r1).length+1<=1073741824 by rw[qV];omega) ?_
    have hnx:rO bk T d r1 (at_,(elt (dflt aK) ps ((k:Nat):Int))) kv' xs'=⟨⟨aX bk r1.s.ys (elt (dflt aK) ps ((k:Nat):Int)).1 (elt (dflt aK) ps ((k:Nat):Int)).2,r1.s.old++dN (fH e) (nD e)⟩,kv',xs',r1.ev++[KN bk r1.s.ys (elt (dflt aK) ps ((k:Nat):Int)).1 (elt (dflt aK) ps ((k:Nat):Int)).2],r1.fst.set at_.toNat (r1.s.ys.length:Int),r1.dep.set at_.toNat d,r1.fr++[(at_,d)]⟩:=by
     unfold rO;simp only;rw[show pK T at_=e from eva,hlen]
     congr 4
     omega
    refine aY (rO bk T d r1 (at_,(elt (dflt aK) ps ((k:Nat):Int))) kv' xs',k+1) ⟨hkl,rest,?_⟩ ?_ ?_
    .rw[hnx];exact⟨qq++dN (fH e) (nD e),by show r1.s.old++dN (fH e) (nD e)=_;rw[hq',qF]⟩
    .rw[hnx];refine hd [(22000,23000),(22001,88),(22002,113),(22003,117),(22004,121)] rfl (aI (aI (dG (by omega)) rfl) (aI rfl (aI rfl (aI rfl (aI rfl trivial))))) ⟨trivial,⟨rfl,trivial⟩,⟨rfl,nP⟩,⟨?_,nP⟩,⟨rfl,nP⟩,⟨?_,nP⟩,⟨?_,nP⟩,⟨?_,nP⟩,trivial⟩
     .show r1.s.old++dN (fH e) ((j:Nat):Int)=r1.s.old++dN (fH e) (nD e);rw[hje]
     .rfl
     .show Zr r1++[j6 (wP (elt 0 r1.s.old (elt (dflt aK) ps ((k:Nat):Int)).1) (elt 0 r1.s.old (elt (dflt aK) ps ((k:Nat):Int)).2)) T 0]=(r1.fr++[(at_,d)]).map fun p=>p.1
      rw[hfe,qZ];rfl
     .show Zt r1++[d]=(r1.fr++[(at_,d)]).map fun p=>p.2
      rw[qZ];rfl
    .show ps.length-(k+1)<ps.length-k;omega
  .have hke:k=ps.length:=by have:=geU q3;omega
   subst hke;rw[List.drop_length]at hT1';have hT4:Turns bk y0 T sT d r1 [] c rm:=hT1';cases hT4 with
   |done g=>
    obtain⟨k1,k2⟩:=hc2 rfl;refine aY (rm,d+1) k1 ?_ ?_
    .refine hd [(21000,22000),(21001,22001),(21002,22002),(21003,22003),(21004,22004)] rfl (aI (aI (qO _ (by omega)) rfl) (aI rfl (aI rfl (aI rfl (aI rfl trivial))))) ⟨trivial,⟨rfl,trivial⟩,⟨rfl,nP⟩,⟨rfl,nP⟩,⟨rfl,nP⟩,⟨rfl,nP⟩,⟨rfl,nP⟩,trivial⟩
    .show T.length-rm.ev.length<T.length-r.ev.length;omega
 .have hge:T.length<=r.ev.length:=geU q2;cases hR' with
  |stop g hd h=>
   obtain⟨rfl,rfl⟩:=hok rfl;exact fin [(10000,21002),(10001,21003),(10002,21004)] (aI rfl ⟨⟨rfl,nP⟩,⟨rfl,nP⟩,⟨rfl,nP⟩,trivial⟩)
  |bad g hd h=>have:=g.ev;omega
  |next g hd h=>have:=g.ev;omega
end
section
variable (bk:iQ)(xs:aS)(es:List aB)
abbrev SBd(c:Int):Prop:=aA Tryz.prog 37 [.rsl aZ bk,.rp aZ xs,.rsl aV es] [] (.tup [.agg [.raw (.slice none 0 0)],.int .i64 c]) []
abbrev SGd(g:List ak):Prop:=aA Tryz.prog 37 [.rsl aZ bk,.rp aZ xs,.rsl aV es] [] (.tup [.agg [.sl 10000],.int .i64 0]) [.row 10000 117 5 aD g []]
abbrev Ym(code:Int):Prop:=aA Tryz.prog 61 [.rsl aZ bk,.rp aZ xs,.rsl aV es] [] (.tup [.raw (.slice none 0 0),.raw (.slice none 0 0),.raw (.slice none 0 0),.int .i64 code]) []
abbrev ZaF(out:List aB)(fa fb:List Int):Prop:=aA Tryz.prog 61 [.rsl aZ bk,.rp aZ xs,.rsl aV es] [] (.tup [.sl 10000,.sl 10001,.sl 10002,.int .i64 0]) [.row 10000 67 5 aV out [],.row 10001 2 1 (.int .i64) fa [],.row 10002 2 1 (.int .i64) fb []]
end
end Go.Proofs.YtbdimbjclhmeoaaGreat
namespace Go.Proofs.YtbdimbjclhmeoaaGreat
open Go Go.RowKit Go.Proofs Go.Tr
abbrev tX(T:List aB)(xs:List ak)(us:List Value)(bk:List (List ak))(kv:List (Int×Bool))(ev:List aB)(fst dep:List Int):List Tok:=[.dL 10000 104 [.ptr 10001 0,.rsl aV T,.sl 10006,.sl 10007],.dL 10001 106 [.ptr 10002 0,.sl 10005],.dL 10002 130 [.sl 10003,.rsl aZ bk,.mp 10004],.row 10003 117 5 aD xs us,.map 10004 .bool kv,.row 10005 67 5 aV ev [],.row 10006 2 1 (.int .i64) fst [],.row 10007 2 1 (.int .i64) dep []]
def zw(T:List aB)(fst:List Int)(xs:List ak)(kv:List (Int×Bool))(k:Int):Int×Bool:=
 bif decide ((nC T 0 k).1<0)then((nC T 0 k).2,fK xs kv (nC T 0 k).2)else bif decide (elt 0 fst (nC T 0 k).1<0)then(0,false)
 else(elt 0 fst (nC T 0 k).1+(nC T 0 k).2,fK xs kv (elt 0 fst (nC T 0 k).1+(nC T 0 k).2))
section
variable (T:List aB)(xs:aS)(us:bW)(bk:iQ)(kv:kT)(ev:List aB)(fst dep:List Int)
theorem R6(k:Int)(hl:T.length<=300)(hb:EvB T)(hk: -1000000<=k/\k<=1000000)(hf:fst.length=T.length)(hw:∀z∈fst, -1000000<=z/\z<=1000000):
  aA Tryz.prog 164 [.ptr 10000 0,.int .i64 k] (tX T xs us bk kv ev fst dep) (.tup [.int .i64 (zw T fst xs kv k).1,.bool (zw T fst xs kv k).2]) (tX T xs us bk kv ev fst dep):=by
 refine aA.intro (nt:=53) aG mixed (by kernel_rfl) Tryz.func164 rfl rfl rfl rfl rfl rfl ?_;refine oZ (Zb T k (by omega) hb hk) ?_;have hb2:=Si T 0 k
 have hb3:(nC T 0 k).2=k\/(0<=(nC T 0 k).2/\(nC T 0 k).2<=1000000):=by
  rcases AY T 0 k with⟨h1,_⟩|⟨m,e,h1,h2,h3,h4⟩
  .left;rw[h1]
  .right;have:=hb e (List.mem_of_getElem? h1);rw[h2];simp only;omega
 refine aI (fun q=> ?_) (fun q=> ?_)
 .have hA:zw T fst xs kv k=((nC T 0 k).2,fK xs kv (nC T 0 k).2):=by
   have q2:decide ((nC T 0 k).1<0)=true:=q;unfold zw;rw[q2];rfl
  rw[hA];refine Or.inl (Or.inl (eI _ (eI _ (aI (oQ xs us bk kv ev (nC T 0 k).2) (eI [] (aI rfl ?_))))));refine aI (by kernel_rfl) ?_;refine fin [] (aI rfl ?_);exact⟨trivial,⟨rfl,rfl,rfl,rfl,trivial⟩,trivial,⟨rfl,rfl,trivial⟩,trivial,⟨rfl,rfl,rfl,trivial⟩,⟨rfl,pR _⟩,rfl,⟨rfl,nP⟩,⟨rfl,nP⟩,⟨rfl,nP⟩,trivial⟩
 .have q2:decide ((nC T 0 k).1<0)=false:=q;have h0:=of_decide_eq_false q2;have hbd:0<=(nC T 0 k).1/\(nC T 0 k).1<(fst.length:Nat):=by omega
  have hm:elt 0 fst (nC T 0 k).1∈fst:=by
   unfold elt;rw[qC,qB (by omega)];exact List.getElem_mem _
  have hz:=hw _ hm;refine aI hbd ?_;refine aI (by kernel_rfl) ?_;refine aI (fun q3=> ?_) (fun q3=> ?_)
  .have hA:zw T fst xs kv k=(0,false):=by
    have q4:decide (elt 0 fst (nC T 0 k).1<0)=true:=q3;unfold zw;rw[q2,q4];rfl
   rw[hA];refine fin [] (aI rfl ?_);exact⟨trivial,⟨rfl,rfl,rfl,rfl,trivial⟩,trivial,⟨rfl,rfl,trivial⟩,trivial,⟨rfl,rfl,rfl,trivial⟩,⟨rfl,pR _⟩,rfl,⟨rfl,nP⟩,⟨rfl,nP⟩,⟨rfl,nP⟩,trivial⟩
  .have hA:zw T fst xs kv k=(elt 0 fst (nC T 0 k).1+(nC T 0 k).2,fK xs kv (elt 0 fst (nC T 0 k).1+(nC T 0 k).2)):=by
    have q4:decide (elt 0 fst (nC T 0 k).1<0)=false:=q3;unfold zw;rw[q2,q4];rfl
   have hww:IntKind.i64.wrap (elt 0 fst (nC T 0 k).1+(nC T 0 k).2)=elt 0 fst (nC T 0 k).1+(nC T 0 k).2:=qO _ (by omega);rw[hA,<-hww];refine aI hbd ?_;refine aI (by kernel_rfl) ?_;refine oY (oQ xs us bk kv ev _) ?_;refine fin [] (aI rfl ?_);exact⟨trivial,⟨rfl,rfl,rfl,rfl,trivial⟩,trivial,⟨rfl,rfl,trivial⟩,trivial,⟨rfl,rfl,rfl,trivial⟩,⟨rfl,pR _⟩,rfl,⟨rfl,nP⟩,⟨rfl,nP⟩,⟨rfl,nP⟩,trivial⟩
def Wm(T:List aB)(fst:List Int)(xs:List ak)(kv:List (Int×Bool))(e:aB):Int×Int:=(min (zw T fst xs kv e.1).1 (zw T fst xs kv e.2.1).1,max (zw T fst xs kv e.1).1 (zw T fst xs kv e.2.1).1)
def Vs(T:List aB)(fst:List Int)(xs:List ak)(kv:List (Int×Bool))(e:aB):Bool:=
 bif (bif (zw T fst xs kv e.1).2 then(zw T fst xs kv e.2.1).2 else false)then nU xs (Wm T fst xs kv e).1 (Wm T fst xs kv e).2 else false
theorem Z7(e:aB)(hl:T.length<=300)(hb:EvB T)(hk: -1000000<=e.1/\e.1<=1000000)(hk2: -1000000<=e.2.1/\e.2.1<=1000000)(hf:fst.length=T.length)(hw:∀z∈fst, -1000000<=z/\z<=1000000)
  (hx:(zw T fst xs kv e.1).2=true->(zw T fst xs kv e.2.1).2=true->(0<=(Wm T fst xs kv e).1/\(Wm T fst xs kv e).1<(xs.length:Nat))/\(0<=(Wm T fst xs kv e).2/\(Wm T fst xs kv e).2<(xs.length:Nat))/\0<(ah xs (Wm T fst xs kv e).1).2.2.2.2.length):
  aA Tryz.prog 127 [.ptr 10000 0,yI e] (tX T xs us bk kv ev fst dep) (.tup [vP (Wm T fst xs kv e),.bool (Vs T fst xs kv e)]) (tX T xs us bk kv ev fst dep):=by
 refine aA.intro (nt:=48) aG mixed (by kernel_rfl) Tryz.func127 rfl rfl rfl rfl rfl rfl ?_;refine oY (R6 T xs us bk kv ev fst dep e.1 hl hb hk hf hw) ?_;refine oY (R6 T xs us bk kv ev fst dep e.2.1 hl hb hk2 hf hw) ?_;cases hg:(bif (zw T fst xs kv e.1).2 then(zw T fst xs kv e.2.1).2 else false)with
 |false=>
  have hr:Vs T fst xs kv e=bif (bif (zw T fst xs kv e.1).2 then(zw T fst xs kv e.2.1).2 else false)then false else false:=by unfold Vs;rw[hg];rfl
  rw[hr];refine Or.inr (aI (fun gg=> ?_) (fun gg=>eI (.bool false) ?_))
  .exfalso;have g2:(bif (zw T fst xs kv e.1).2 then(zw T fst xs kv e.2.1).2 else false)=true:=gg;rw[hg]at g2;cases g2
  refine aI (by kernel_rfl) ?_;refine fin [] (aI rfl ?_);exact⟨trivial,⟨rfl,rfl,rfl,rfl,trivial⟩,trivial,⟨rfl,rfl,trivial⟩,trivial,⟨rfl,rfl,rfl,trivial⟩,⟨rfl,pR _⟩,rfl,⟨rfl,nP⟩,⟨rfl,nP⟩,⟨rfl,nP⟩,trivial⟩
 |true=>
  have hh:(zw T fst xs kv e.1).2=true/\(zw T fst xs kv e.2.1).2=true:=by
   revert hg;cases (zw T fst xs kv e.1).2<;>cases (zw T fst xs kv e.2.1).2<;>simp
  obtain⟨x1,x2,x3⟩:=hx hh.1 hh.2;refine Or.inr (aI (fun gg=> ?_) (fun gg=> ?_))
  .refine eI _ (eI _ (aI (zy xs us bk kv ev _ _ x1 x2 x3) ?_));refine aI (by kernel_rfl) ?_;refine fin [] (aI rfl ?_);exact⟨trivial,⟨rfl,rfl,rfl,rfl,trivial⟩,trivial,⟨rfl,rfl,trivial⟩,trivial,⟨rfl,rfl,rfl,trivial⟩,⟨rfl,pR _⟩,rfl,⟨rfl,nP⟩,⟨rfl,nP⟩,⟨rfl,nP⟩,trivial⟩
  .exfalso;have g2:(bif (zw T fst xs kv e.1).2 then(zw T fst xs kv e.2.1).2 else false)=false:=gg;rw[hg]at g2;cases g2
end
end Go.Proofs.YtbdimbjclhmeoaaGreat
namespace Go.Proofs.YtbdimbjclhmeoaaGreat
open Go Go.RowKit Go.Proofs Go.Tr
section
variable {bk:iQ}{kv:kT}{xs ys y0:aS}{T R:List aB}{sT:List oU}{fst:List Int}{r:RS}
theorem Ay(W:Tr.Twin kv xs ys)(z:Int):fK xs kv z=YQ ys z:=by
 rw[<-FP W z];unfold YQ;cases h:kH ys z with
 |true=>exact(decide_eq_true (mI.1 h)).symm
 |false=>exact(decide_eq_false fun q=>by rw[mI.2 q]at h;cases h).symm
theorem zD(W:Tr.Twin kv xs ys)(k:Int):zw T fst xs kv k=uS T fst ys k:=by
 unfold zw uS;rw[Ay W,Ay W]
theorem JN(W:Tr.Twin kv xs ys)(e:aB):Wm T fst xs kv e=BN T fst ys e:=by
 unfold Wm BN;rw[zD W,zD W]
theorem LH(W:Tr.Twin kv xs ys)(e:aB)(h1:(uS T fst ys e.1).2=true)(h2:(uS T fst ys e.2.1).2=true)(hg:∀k,(uS T fst ys k).2=true->dx ys (uS T fst ys k).1):dx ys (BN T fst ys e).1/\dx ys (BN T fst ys e).2:=by
 have t1:=hg _ h1;have t2:=hg _ h2;unfold BN;simp only;rcases Int.le_total (uS T fst ys e.1).1 (uS T fst ys e.2.1).1 with c|c
 .rw[Int.min_eq_left c,Int.max_eq_right c];exact⟨t1,t2⟩
 .rw[Int.min_eq_right c,Int.max_eq_left c];exact⟨t2,t1⟩
theorem Gt(ys:aS)(k:Int)(h:(uS T fst ys k).2=true):dx ys (uS T fst ys k).1:=by
 unfold uS at h |-;cases c1:decide ((nC T 0 k).1<0)with
 |true=>rw[c1]at h;exact of_decide_eq_true h
 |false=>
  cases c2:decide (elt 0 fst (nC T 0 k).1<0)with
  |true=>rw[c1,c2]at h;cases h
  |false=>rw[c1,c2]at h;exact of_decide_eq_true h
theorem Rx(W:Tr.Twin kv xs ys)(e:aB):Vs T fst xs kv e=xk T fst ys e:=by
 unfold Vs xk;rw[JN W,zD W,zD W];cases h1:(uS T fst ys e.1).2 with
 |false=>rfl
 |true=>
  cases h2:(uS T fst ys e.2.1).2 with
  |false=>rfl
  |true=>
   obtain⟨t1,t2⟩:=LH W e h1 h2 (Gt ys);have a1:fK xs kv (BN T fst ys e).1=true:=by rw[Ay W];exact decide_eq_true t1
   have a2:fK xs kv (BN T fst ys e).2=true:=by rw[Ay W];exact decide_eq_true t2
   have:=Gs W a1 a2;simp only[qG];rw[<-this];cases h:nV ys (BN T fst ys e).1 (BN T fst ys e).2 with
   |true=>exact(decide_eq_true (uP.1 h)).symm
   |false=>exact(decide_eq_false fun q=>by rw[uP.2 q]at h;cases h).symm
theorem Zm(C:TC bk y0 T sT):EvB T:=fun e he=>by
 have E:=C.ev he;have:=E.rng;have:=E.cnt;have:=C.lS;omega
theorem Z6(g:Tr.Good bk y0 T sT R r)(C:TC bk y0 T sT)(e:aB)(he:e∈T)(us:bW)(dep:List Int):
  aA Tryz.prog 127 [.ptr 10000 0,yI e] (tX T r.xs us bk r.kv r.ev r.fst dep) (.tup [vP (BN T r.fst r.s.ys e),.bool (xk T r.fst r.s.ys e)]) (tX T r.xs us bk r.kv r.ev r.fst dep):=by
 have E:=C.ev he;have W:=g.ri.tw;have hl:=W.len;have lS:=C.lS;have ab:=E.ab;rw[<-JN (T:=T) (fst:=r.fst) W,<-Rx (T:=T) (fst:=r.fst) W];refine Z7 T r.xs us bk r.kv r.ev r.fst dep e C.lT (Zm C) (by omega) (by omega) g.fi.len (fun z hz=>by have:=g.fb z hz;omega) fun h1 h2=> ?_
 rw[zD W]at h1 h2;rw[JN W];obtain⟨t1,t2⟩:=LH W e h1 h2 (Gt r.s.ys);have a1:fK r.xs r.kv (BN T r.fst r.s.ys e).1=true:=by rw[Ay W];exact decide_eq_true t1
 have la:=mg a1;exact⟨la.1,⟨t2.1,by rw[hl];exact t2.2.1⟩,(gY (W.wf _ la.1.1 la.1.2 la.2)).1⟩
end
end Go.Proofs.YtbdimbjclhmeoaaGreat
namespace Go.Proofs.YtbdimbjclhmeoaaGreat
open Go Go.RowKit Go.Proofs Go.Tr
abbrev nJ:U:=.pair (.int .i64) (.pair (.int .i64) (.int .i64))
abbrev tXn(g1 g2:Nat)(T:List aB)(xs:List ak)(us:List Value)(bk:List (List ak))(kv:List (Int×Bool))(ev:List aB)(fst dep:List Int):List Tok:=[.dL 10000 104 [.ptr 10001 0,.rsl aV T,.sl 10006,.sl 10007],.dL 10001 106 [.ptr 10002 0,.sl g2],.dL 10002 130 [.sl g1,.rsl aZ bk,.mp 10004],.row g1 117 5 aD xs us,.map 10004 .bool kv,.row g2 67 5 aV ev [],.row 10006 2 1 (.int .i64) fst [],.row 10007 2 1 (.int .i64) dep []]
def R5:Prop:=∀l:List iD,l.length<=1000->∃d:List iD,d.Perm l/\(d.Pairwise fun x y=>x.2.1<=y.2.1)/\
 aA Tryz.prog 128 [.sl 10000,.fn 129 []] [.row 10000 182 3 nJ l []] (.tup []) [.row 10000 182 3 nJ d []]
theorem P8(T:List aB)(fst:List Int)(ys:aS):∀n:Nat,(kF T fst ys n).length<=n
 |0=>Nat.le_refl 0
 |n+1=>by
  have ih:=P8 T fst ys n;unfold kF;cases decide (0<=elt 0 fst (n:Nat))<;>cases xk T fst ys (pK T (n:Nat))<;>simp only[qG,qH,qA,qJ]<;>omega
section
variable {bk:iQ}{y0:aS}{T:List aB}{sT:List oU}
theorem Vz(hSort:R5)(C:TC bk y0 T sT){R:List aB}{r rf:RS}{d c:Int}(g:Tr.Good bk y0 T sT R r)(H:Turns bk y0 T sT d r (yF T r) c rf)(rr:SV)(tt:List Tok)
  (hbad:c≠0->rr=.tup [.int .i64 0,.int .i64 c]/\tt=[])
  (hok:c=0->rr=.tup [.int .i64 (((yF T r).length:Nat):Int),.int .i64 0]/\tt=tXn 10008 10009 T rf.xs [] bk rf.kv rf.ev rf.fst rf.dep):
  aA Tryz.prog 97 [.ptr 10000 0,.int .i64 d] (tX T r.xs [] bk r.kv r.ev r.fst r.dep) rr tt:=by
 have lT:=C.lT;have fl:=g.fi.len;refine aA.intro (nt:=96) aG mixed (by kernel_rfl) Tryz.func97 rfl rfl rfl rfl rfl rfl ?_;refine lp Nat (fun i=>[(20,.int .i64 (i:Nat)),(6,.sl 20000)]) (fun i=>tX T r.xs [] bk r.kv r.ev r.fst r.dep++[.row 20000 182 3 nJ (kF T r.fst r.s.ys i) []]) (fun i=>T.length-i) (fun i=>i<=T.length) 0 (Nat.zero_le _) ?_ ?_
 .exact Yz [⟨6,30000,182,3,nJ⟩] [(20000,30000)] rfl (aI (aI (aI rfl rfl) (aI rfl trivial)) ⟨trivial,⟨rfl,rfl,rfl,rfl,trivial⟩,trivial,⟨rfl,rfl,trivial⟩,trivial,⟨rfl,rfl,rfl,trivial⟩,⟨rfl,nP⟩,rfl,⟨rfl,nP⟩,⟨rfl,nP⟩,⟨rfl,nP⟩,⟨rfl,nP⟩,trivial⟩)
 intro i hi;have hi':i<=T.length:=hi;have rl:=P8 T r.fst r.s.ys i;refine aI (fun q1=> ?_) (fun q1=> ?_)
 .have hlt:i<T.length:=ltU q1;have hbd:0<=((i:Nat):Int)/\((i:Nat):Int)<(T.length:Nat):=by omega
  have hbf:0<=((i:Nat):Int)/\((i:Nat):Int)<(r.fst.length:Nat):=by omega
  have heT:pK T ((i:Nat):Int)∈T:=Za7 hlt;refine aI hbd ?_;refine aI hbf ?_;refine aI (fun q2=> ?_) (fun q2=> ?_)
  .have q3:decide (0<=elt 0 r.fst ((i:Nat):Int))=true:=q2;refine aY (i+1) hlt ?_ ?_
   .refine hd [] rfl (aI (aI (dG (by omega)) rfl) (aI rfl trivial)) ⟨trivial,⟨rfl,rfl,rfl,rfl,trivial⟩,trivial,⟨rfl,rfl,trivial⟩,trivial,⟨rfl,rfl,rfl,trivial⟩,⟨rfl,nP⟩,rfl,⟨rfl,nP⟩,⟨rfl,nP⟩,⟨rfl,nP⟩,⟨?_,nP⟩,trivial⟩;show kF T r.fst r.s.ys i=kF T r.fst r.s.ys (i+1)
    conv=>rhs;unfold kF
    rw[q3];rfl
   .show T.length-(i+1)<T.length-i;omega
  .have q3:decide (0<=elt 0 r.fst ((i:Nat):Int))=false:=q2;refine oY (Z6 g C (pK T ((i:Nat):Int)) heT [] r.dep) ?_;refine aI (fun q4=> ?_) (fun q4=> ?_)
   .refine aI (show(kF T r.fst r.s.ys i).length+1<=1073741824 by omega) ?_;refine aY (i+1) hlt ?_ ?_
    .refine hd [(20000,45)] rfl (aI (aI (dG (by omega)) rfl) (aI rfl trivial)) ⟨trivial,⟨rfl,rfl,rfl,rfl,trivial⟩,trivial,⟨rfl,rfl,trivial⟩,trivial,⟨rfl,rfl,rfl,trivial⟩,⟨rfl,nP⟩,rfl,⟨rfl,nP⟩,⟨rfl,nP⟩,⟨rfl,nP⟩,⟨?_,nP⟩,trivial⟩;show kF T r.fst r.s.ys i++[(((i:Nat):Int),BN T r.fst r.s.ys (pK T ((i:Nat):Int)))]=kF T r.fst r.s.ys (i+1);have q5:xk T r.fst r.s.ys (pK T ((i:Nat):Int))=true:=q4
     conv=>rhs;unfold kF
     rw[q3,q5];rfl
    .show T.length-(i+1)<T.length-i;omega
   .refine aY (i+1) hlt ?_ ?_
    .refine hd [] rfl (aI (aI (dG (by omega)) rfl) (aI rfl trivial)) ⟨trivial,⟨rfl,rfl,rfl,rfl,trivial⟩,trivial,⟨rfl,rfl,trivial⟩,trivial,⟨rfl,rfl,rfl,trivial⟩,⟨rfl,nP⟩,rfl,⟨rfl,nP⟩,⟨rfl,nP⟩,⟨rfl,nP⟩,⟨?_,nP⟩,trivial⟩;show kF T r.fst r.s.ys i=kF T r.fst r.s.ys (i+1);have q5:xk T r.fst r.s.ys (pK T ((i:Nat):Int))=false:=q4
     conv=>rhs;unfold kF
     rw[q3,q5];rfl
    .show T.length-(i+1)<T.length-i;omega
 have hie:i=T.length:=by have:=geU q1;omega
 subst hie;obtain⟨dd,hp,hs,hF⟩:=hSort (kF T r.fst r.s.ys T.length) (by omega);have hdd:dd=yF T r:=g.fi.turns C g.ri hp hs;rw[hdd]at hF;refine oY hF ?_
 have hrl:(yF T r).length<=300:=by
  rw[<-hdd,hp.length_eq];omega
 generalize hLL:yF T r=L at*
 refine lp (RS×Nat) (fun s=>[(51,.int .i64 (s.2:Nat)),(49,.sl 21000),(6,.sl 21000)])
  (fun s=>[.dL 10000 104 [.ptr 10001 0,.rsl aV T,.sl 10006,.sl 10007],.dL 10001 106 [.ptr 10002 0,.sl 21002],.dL 10002 130 [.sl 21001,.rsl aZ bk,.mp 10004],.row 21001 117 5 aD s.1.xs [],.map 10004 .bool s.1.kv,.row 21002 67 5 aV s.1.ev [],.row 10006 2 1 (.int .i64) s.1.fst [],.row 10007 2 1 (.int .i64) s.1.dep [],.row 21000 182 3 nJ L []])
  (fun s=>L.length-s.2) (fun s=>s.2<=L.length/\Turns bk y0 T sT d s.1 (L.drop s.2) c rf) (r,0) ⟨Nat.zero_le _,by rw[List.drop_zero];exact H⟩ ?_ ?_
 .exact hd [(21000,20000),(21001,10003),(21002,10005)] rfl (aI (aI rfl rfl) (aI rfl (aI rfl trivial))) ⟨trivial,⟨rfl,rfl,rfl,rfl,trivial⟩,trivial,⟨rfl,rfl,trivial⟩,trivial,⟨rfl,rfl,rfl,trivial⟩,⟨rfl,nP⟩,rfl,⟨rfl,nP⟩,⟨rfl,nP⟩,⟨rfl,nP⟩,⟨rfl,nP⟩,trivial⟩
 rintro⟨r1,k⟩ ⟨hk,hT1⟩;have hk':k<=L.length:=hk;have hT1':Turns bk y0 T sT d r1 (L.drop k) c rf:=hT1;refine aI (fun q1=> ?_) (fun q1=> ?_)
 .have hkl:k<L.length:=ltU q1;have hbd:0<=((k:Nat):Int)/\((k:Nat):Int)<(L.length:Nat):=by omega
  have hdrop:L.drop k=elt (dflt nJ) L ((k:Nat):Int)::L.drop (k+1):=by
   rw[List.drop_eq_getElem_cons hkl];unfold elt;rw[qC,qK,qB hkl];rfl
  rw[hdrop]at hT1';refine aI hbd ?_;cases hT1' with
  |bad g1 e hm h0 ht c hc hI hS=>
   refine oY (hI []) ?_;refine aI (by kernel_rfl) ?_;refine aI (fun q2=> ?_) (fun q2=> ?_)
   .obtain⟨rfl,rfl⟩:=hbad hc;exact fin [] (aI rfl trivial)
   .exfalso;have q3:(c !=0)=false:=q2;simp at q3;exact hc q3
  |next g1 e hm h0 ht kv' xs' hI hS g' rest=>
   refine oY (hI []) ?_;refine aI (by kernel_rfl) ?_;refine aI (fun q2=>by cases q2) (fun q2=> ?_);have hm2:=(qE.1 hm).1;have f1:=g1.fi.len;have d1:r1.dep.length=T.length:=by rw[g1.dep,U7]
   have hx:=g1.ri.tw.len;refine aI (show 0<=(elt (dflt nJ) L ((k:Nat):Int)).1/\(elt (dflt nJ) L ((k:Nat):Int)).1<(r1.fst.length:Nat) from⟨h0,by rw[f1];exact(Int.toNat_lt h0).1 hm2⟩) ?_;refine aI (show 0<=(elt (dflt nJ) L ((k:Nat):Int)).1/\(elt (dflt nJ) L ((k:Nat):Int)).1<(r1.dep.length:Nat) from⟨h0,by rw[d1];exact(Int.toNat_lt h0).1 hm2⟩) ?_;refine aI (by kernel_rfl) ?_;refine aY (rO bk T d r1 (elt (dflt nJ) L ((k:Nat):Int)) kv' xs',k+1) ⟨hkl,rest⟩ ?_ ?_
   .refine hd [(21001,73),(21002,1000073)] rfl (aI (aI (dG (by omega)) rfl) (aI rfl (aI rfl trivial))) ⟨trivial,⟨rfl,rfl,rfl,rfl,trivial⟩,trivial,⟨rfl,rfl,trivial⟩,trivial,⟨rfl,rfl,rfl,trivial⟩,⟨rfl,nP⟩,rfl,⟨rfl,nP⟩,⟨?_,nP⟩,⟨rfl,nP⟩,⟨rfl,nP⟩,trivial⟩;show r1.fst.set (elt (dflt nJ) L ((k:Nat):Int)).1.toNat ((r1.xs.length:Nat):Int)=r1.fst.set (elt (dflt nJ) L ((k:Nat):Int)).1.toNat ((r1.s.ys.length:Nat):Int);rw[hx]
   .show L.length-(k+1)<L.length-k;omega
 .have hke:k=L.length:=by have:=geU q1;omega
  subst hke;rw[List.drop_length]at hT1';cases hT1' with
  |done g1=>
   obtain⟨rfl,rfl⟩:=hok rfl;exact fin [(10008,21001),(10009,21002)] (aI rfl ⟨trivial,⟨rfl,rfl,rfl,rfl,trivial⟩,trivial,⟨rfl,rfl,trivial⟩,trivial,⟨rfl,rfl,rfl,trivial⟩,⟨rfl,nP⟩,rfl,⟨rfl,nP⟩,⟨rfl,nP⟩,⟨rfl,nP⟩,trivial⟩)
end
end Go.Proofs.YtbdimbjclhmeoaaGreat
namespace Go.Proofs.YtbdimbjclhmeoaaGreat
open Go Go.RowKit Go.Proofs Go.Tr
theorem YE:bH Tryz.prog 62=true:=by kernel_rfl
theorem YI:bH Tryz.prog 96=true:=by kernel_rfl
def ZaG:Prop:=∀n:Nat,n<=300->aA Tryz.prog 96 [.sl 10000,.int .i64 (n:Nat)] [.row 10000 2 1 (.int .i64) [-1] []] (.sl 10001) [.row 10001 2 1 (.int .i64) (List.replicate n (-1)) [],.row 10000 2 1 (.int .i64) [-1] []]
section
variable (bk:iQ)(y0:aS)(T:List aB)
abbrev IBd(c:Int):Prop:=aA Tryz.prog 44 [.rsl aZ bk,.agg [.rsl aD y0],.rsl aV T] [] (.tup [.raw (.pointer none),.int .i64 c]) []
abbrev IGd(k:List (Int×Bool))(f:List ak):Prop:=aA Tryz.prog 44 [.rsl aZ bk,.agg [.rsl aD y0],.rsl aV T] [] (.tup [.ptr 10000 0,.int .i64 0]) (tR f [] bk k T)
abbrev RY(c:Int):Prop:=aA Tryz.prog 62 [.rsl aZ bk,.agg [.rsl aD y0],.rsl aV T] [] (.tup [.raw (.pointer none),.int .i64 c]) []
abbrev ZaB(r:RS):Prop:=aA Tryz.prog 62 [.rsl aZ bk,.agg [.rsl aD y0],.rsl aV T] [] (.tup [.ptr 10000 0,.int .i64 0]) (tX T r.xs [] bk r.kv r.ev r.fst r.dep)
theorem Y6{c:Int}(hc:c≠0)(h:IBd bk y0 T c):RY bk y0 T c:=by
 refine aA.intro (nt:=59) aG mixed YE Tryz.func62 rfl rfl rfl rfl rfl rfl ?_;refine oY h ?_;refine aI (fun q=> ?_) (fun q=> ?_)
 .exact fin [] (aI rfl trivial)
 .exfalso;have q2:(c !=0)=false:=q;simp at q2;exact hc q2
variable {bk y0 T}{sT:List oU}
theorem ZaI(hSort:R5)(hRep:ZaG)(C:TC bk y0 T sT)(hs:dK y0){k:kT}{f:aS}(h:IGd bk y0 T k f){code:Int}{rf:RS}
  (H:yA bk y0 T sT 1 ⟨⟨y0,sI y0.length⟩,[],y0,[],List.replicate T.length (-1),List.replicate T.length 0,[]⟩ code rf) (rr:SV) (tt:List Tok)
  (hbad:code≠0->rr=.tup [.raw (.pointer none),.int .i64 code]/\tt=[])
  (hok:code=0->rr=.tup [.ptr 10000 0,.int .i64 0]/\tt=tX T rf.xs [] bk rf.kv rf.ev rf.fst rf.dep):
  aA Tryz.prog 62 [.rsl aZ bk,.agg [.rsl aD y0],.rsl aV T] [] rr tt:=by
 have lT:=C.lT;refine aA.intro (nt:=59) aG mixed YE Tryz.func62 rfl rfl rfl rfl rfl rfl ?_;refine oY h ?_;refine aI (fun q=>by cases q) (fun _=> ?_);refine oY (JD y0 bk hs) ?_;refine oY (hRep T.length lT) ?_;refine aI (show 0<=((T.length:Nat):Int)/\((T.length:Nat):Int)<=((T.length:Nat):Int)/\((T.length:Nat):Int)<=2097152 by omega) ?_;refine aI (by kernel_rfl) ?_
 refine lp (RS×Int) (fun s=>[(12,.int .i64 s.2),(11,.int .i64 ((T.length:Int)-(s.1.ev.length:Nat)))])
  (fun s=>[.dL 37 104 [.ptr 27 0,.rsl aV T,.sl 20003,.sl 20004],.dL 27 106 [.ptr 1000027 0,.sl 20002],.dL 1000027 130 [.sl 20001,.rsl aZ bk,.mp 3000027],.row 20001 117 5 aD s.1.xs [],.map 3000027 .bool s.1.kv,.row 20002 67 5 aV s.1.ev [],.row 20003 2 1 (.int .i64) s.1.fst [],.row 20004 2 1 (.int .i64) s.1.dep []])
  (fun s=>T.length-s.1.ev.length) (fun s=>yA bk y0 T sT s.2 s.1 code rf) (⟨⟨y0,sI y0.length⟩,[],y0,[],List.replicate T.length (-1),List.replicate T.length 0,[]⟩,1) H ?_ ?_
 .refine Yz [⟨2000027,30000,67,5,aV⟩] [(20001,2000027),(20002,30000),(20003,32),(20004,35)] rfl (aI (aI (aI rfl rfl) (aI (aI ?_ rfl) trivial)) ⟨trivial,⟨rfl,rfl,rfl,rfl,trivial⟩,trivial,⟨rfl,rfl,trivial⟩,trivial,⟨rfl,rfl,rfl,trivial⟩,⟨rfl,nP⟩,rfl,⟨rfl,nP⟩,⟨rfl,nP⟩,⟨?_,nP⟩,trivial⟩)
  .show((T.length:Nat):Int)=(T.length:Int)-(([]:List aB).length:Nat);simp
  .show List.replicate ((T.length:Nat):Int).toNat (0:Int)=List.replicate T.length 0;rw[qK]
 rintro⟨r,d⟩ hR;have hR':yA bk y0 T sT d r code rf:=hR;refine aI (fun q1=> ?_) (fun q1=> ?_)
 .have hlt:r.ev.length<T.length:=by
   have q2:decide ((0:Int)<(T.length:Int)-(r.ev.length:Nat))=true:=q1;simp only[qQ]at q2;omega
  cases hR' with
  |stop g hd0 h=>have:=g.ev;omega
  |bad g hd0 h hc t=>
   refine oY (Vz hSort C g t _ _ (fun _=>⟨rfl,rfl⟩) (fun e=>absurd e hc)) ?_;refine aI (fun q2=> ?_) (fun q2=> ?_)
   .obtain⟨rfl,rfl⟩:=hbad hc;exact fin [] (aI rfl trivial)
   .exfalso;have q3:(code !=0)=false:=q2;simp at q3;exact hc q3
  | @next _ _ R g hd0 h rm R' g' hl hne t _ _ k2=>
   have he:=g.ev;have he':=g'.ev;have hle':=g'.le;refine oY (Vz hSort C g t _ _ (fun e=>absurd rfl e) (fun _=>⟨rfl,rfl⟩)) ?_;refine aI (fun q2=>by cases q2) (fun _=> ?_);refine aI (fun q2=> ?_) (fun _=> ?_)
   .exfalso;have q3:((((yF T r).length:Nat):Int)==0)=true:=q2;simp at q3;rw[q3]at hne;exact absurd hne (by simp)
   refine aY (rm,d+1) k2 ?_ ?_
   .refine hd [(20001,47),(20002,1000047),(20003,20003),(20004,20004)] rfl (aI (aI (qO _ (by omega)) rfl) (aI (aI ?_ rfl) trivial)) ⟨trivial,⟨rfl,rfl,rfl,rfl,trivial⟩,trivial,⟨rfl,rfl,trivial⟩,trivial,⟨rfl,rfl,rfl,trivial⟩,⟨rfl,nP⟩,rfl,⟨rfl,nP⟩,⟨rfl,nP⟩,⟨rfl,nP⟩,trivial⟩;show IntKind.i64.wrap ((T.length:Int)-(r.ev.length:Nat)-(((yF T r).length:Nat):Int))=(T.length:Int)-(rm.ev.length:Nat);rw[qO _ (by omega)];omega
   .show T.length-rm.ev.length<T.length-r.ev.length;omega
 .have hge:T.length<=r.ev.length:=by
   have q2:decide ((0:Int)<(T.length:Int)-(r.ev.length:Nat))=false:=q1;simp only[qP]at q2;omega
  cases hR' with
  |stop g hd0 h=>
   obtain⟨rfl,rfl⟩:=hok rfl;exact fin [(10000,37),(10001,27),(10002,1000027),(10003,20001),(10004,3000027),(10005,20002),(10006,20003),(10007,20004)] (aI rfl ⟨trivial,⟨rfl,rfl,rfl,rfl,trivial⟩,trivial,⟨rfl,rfl,trivial⟩,trivial,⟨rfl,rfl,rfl,trivial⟩,⟨rfl,nP⟩,rfl,⟨rfl,nP⟩,⟨rfl,nP⟩,⟨rfl,nP⟩,trivial⟩)
  |bad g hd0 h=>have:=g.ev;omega
  |next g hd0 h=>have:=g.ev;omega
end
end Go.Proofs.YtbdimbjclhmeoaaGreat
