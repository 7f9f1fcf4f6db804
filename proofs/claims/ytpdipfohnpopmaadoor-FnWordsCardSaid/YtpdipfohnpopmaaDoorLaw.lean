
/- From the readings of a law's arguments to trees in memory, and from 'nothing old has changed' to the law's post. -/
import Derived.Test.YtpdipfohnpopmaaDoorSc
import Derived.ProofKit
import Derived.OpenShut
import Derived.Deep.Slices
import Derived.ChangeSame
import Derived.Carry
import Derived.WideKeyArgs
import Derived.Deep.Fields
set_option linter.unusedSimpArgs false
set_option linter.unusedVariables false
namespace Go.Tr
open Go Go.RowKit Go.ChangeShapes Go.WideShapes Go.Deep
section
variable {H:Type}{enc:TypeId×Value->H}{P:Program}
theorem nO{f:Func}{s:ChangeSpec}{apart fresh handsOn again:Bool}{W W':World}{args:Array Value}{v:Value}{ds gs:List (DataW H)}{before pa pv:List MemPlace}
  (hW:DataW.Whole enc P f.params.toList s.vars apart W args.toList ds gs before)
  (hres:∀(b:Nat) (sp:Nat->Bool) (hd:Bool),DataW.TrodAll enc P W' b sp hd f.resultTypes.toList (v.resultList f.resultTypes.size) (s.fn H (ds++gs)).results [])
  (hargs:∀sp:Nat->Bool,(∀p∈before,sp p.block=true)->DataW.TrodAll enc P W' 0 sp true f.params.toList args.toList (s.fn H (ds++gs)).args pa)
  (hvars:∀sp:Nat->Bool,(∀p∈before,sp p.block=true)->DataW.TrodVars enc P W' sp s.vars (s.fn H (ds++gs)).vars pv)
  (hps:before=pa++pv) (hb:Below W.heap.size W W')
  (hok:∀(j:Nat) (t:TypeId) (r:Value),f.resultTypes[j]? =some t->(v.resultList f.resultTypes.size)[j]? =some r->Value.okWide P W' .any 0 t r):
  s.post enc P f apart fresh handsOn again W args v W':=by
 have hlt:∀p∈before,p.block<W.heap.size:=fun p hp=>hW.lt p hp
 have hold:∀p∈before,(fun b=>decide (b<W.heap.size)) p.block=true:=fun p hp=>by simpa using hlt p hp
 refine⟨ds,gs,before,[],pa,pv,hW,hres _ _ _,hargs _ hold,hvars _ hold,World.keptBut_mono (fun p hp=>⟨hp,?_⟩) (hb.frame (· ∈before)),fun _=> ?_⟩
 .rw[hps,qT]at hp;exact Or.inr hp
 .obtain⟨_,_,_,_,_,hz,hn⟩:=hW;refine⟨hok,_,_,([]++pa)++pv,⟨[]++pa,pv,trodAll_append (hargs _ (fun _ _=>rfl)) (hres _ _ _),hvars _ (fun _ _=>rfl),rfl,?_,?_⟩,?_⟩
  .intro b off hp;have hin:MemPlace.cell b off∈before:=by rw[hps];simpa using hp
   rw[hb.frozen (hlt _ hin)];exact hz b off hin
  .intro ha;have:=hn ha;rw[hps]at this;simpa using this
  .intro p hp _;rw[hps];simpa using hp
theorem iK(hl:laidOutB P=true){W W':World}{sp:Nat->Bool}(hb:Below W.heap.size W W'):∀(ts:List TypeId) (vs:aO) (ds:List (DataW H)) (ps:List MemPlace),
  ts.all (fun t=>P.readableRec t&&decide (t<P.types.size))=true->DataW.TrodAll enc P W 0 (fun _=>true) true ts vs ds ps->(∀x∈ps,x.block<W.heap.size)->(∀x∈ps,sp x.block=true)->
  DataW.TrodAll enc P W' 0 sp true ts vs ds ps
 |[],vs,ds,ps,_,h,_,_=>by
  obtain⟨rfl,rfl,rfl⟩:=trodAll_nil h;rfl
 |t::ts,vs,ds,ps,hr,h,hlt,hsp=>by
  simp only[List.all_cons,qD,qQ]at hr;obtain⟨v,vs',d,ds',p,q,rfl,rfl,rfl,h1,h2⟩:=trodAll_cons h
  exact trodAll_cons_mk (WideElems.Trod_stays hl hr.1.1 hr.1.2 h1 (fun x hx=>hb.same (hlt x (by simp[hx]))) (fun x hx=>hsp x (by simp[hx])))
   (iK hl hb ts vs' ds' q hr.2 h2 (fun x hx=>hlt x (by simp[hx])) (fun x hx=>hsp x (by simp[hx])))
theorem yP{f:Func}{s:ChangeSpec}{W W':World}{args:Array Value}{ds gs:List (DataW H)}{before:List MemPlace}{tb:TypeId}(hl:laidOutB P=true)
  (hr:f.params.toList.all (fun t=>P.readableRec t&&decide (t<P.types.size))=true) (hW:DataW.Whole enc P f.params.toList s.vars false W args.toList ds gs before)
  (hs:s.fn H (ds++gs)={ results:=[.lit (.bool true)],args:=ds}) (hv:s.vars=[]) (hres:f.resultTypes= #[tb]) (hbool:P.underlying tb=some .bool) (hb:Below W.heap.size W W'):
  s.post enc P f false true false false W args (.bool true) W':=by
 have hW':=hW;obtain⟨p,q,hA,hV,rfl,hfz,hnd⟩:=hW;rw[hv]at hV;obtain⟨rfl,rfl⟩:=trodVars_none hV;refine nO (pa:=p) (pv:=[]) hW' (fun b sp hd=> ?_) (fun sp hsp=> ?_) (fun sp _=> ?_) rfl hb ?_
 .rw[hs,hres];have hb1:DataW.Trod enc P W' b sp hd tb (.bool true) (.lit (.bool true)) []:=⟨1,by simp[DataW.trod,Value.cells,hbool]⟩;exact trodAll_cons_mk hb1 trodAll_mk0
 .rw[hs];exact iK hl hb _ _ _ _ hr hA (fun x hx=>hW'.lt x (by simp[hx])) (fun x hx=>hsp x (by simp[hx]))
 .rw[hs,hv];rfl
 .exact ok_one hres (by simp[Value.resultList]) (by simp[Value.okWide,hbool,Cell.okWide,Cell.ok])
end
section
variable {H:Type}{enc:TypeId×Value->H}{P:Program}{w:World}{spare:Nat->Bool}{held:Bool}
theorem jf{base:Nat}{b off n:Nat}{cs:aO}(h:w.cells? base ⟨b,off,none⟩ n=some cs):aT w b off cs:=by
 obtain⟨_,hl,hc⟩:=World.cells?_some h;intro j u hu;have hj:j<n:=by have:=(qE.1 hu).1;omega
 have:=hc j hj;rw[hu]at this
 rwa[show(⟨b,off,none⟩:Addr).add j=⟨b,off+j,none⟩ by unfold Addr.add;split<;>simp_all]at this
theorem aT.append{b off:Nat}{us vs:aO}(h1:aT w b off us)(h2:aT w b (off+us.length) vs):aT w b off (us++vs):=by
 intro j u hu;rcases Nat.lt_or_ge j us.length with h|h
 .rw[qM h]at hu;exact h1 j u hu
 .rw[qL h]at hu;have:=h2 _ u hu
  rwa[show off+us.length+(j-us.length)=off+j by omega]at this
theorem xk{α:Type}(f:α->List D)(s:Nat)(h0:0<s){t e:TypeId}(ht:P.underlying t=some (.slice e))(he:P.cellsOf e=s)
  (hT:∀fuel cs x,DataW.trod enc P w 0 spare held fuel e cs=some x->∃(a:α) (bs:List Nat),TN w (f a) bs cs) {fuel:Nat} {cs:List Value} {x:DataW H×List MemPlace}
  (h:DataW.trod enc P w 0 spare held fuel t cs=some x):∃(A:Option Addr) (n c:Nat) (xs:List α) (bs:List Nat),cs=[.slice A n c]/\Hid (xs.length=n)/\n<=c/\c<=maxLen/\T1 w (.sl n (xs.flatMap f)) bs (.slice A n c):=by
 rcases open_slice ht h with⟨rfl,_⟩|⟨a,len,cap,m,n,D',Pl,rfl,hb,hl,hm,hmm,rfl,hx⟩
 .exact⟨none,0,0,[],[],rfl,rfl,Nat.le_refl _,Nat.zero_le _,T1.empty _⟩
 have hlm:len<=m:=by rw[hmm];split<;>omega
 rcases Nat.eq_zero_or_pos len with rfl|hlen
 .refine⟨some a,0,cap,[],[],rfl,rfl,Nat.zero_le _,hm,?_⟩;unfold T1;exact⟨_,_,rfl,Nat.zero_le _,hm,.inl ⟨rfl,rfl,rfl⟩⟩
 have hspot:a.spot=none:=by
  obtain⟨cs',h1,_⟩:=hx 0 (by omega);obtain⟨_,hl',hc'⟩:=World.cells?_some h1;have h2:=hc' 0 (by omega);rw[Nat.zero_mul]at h2;have h3:(a.add 0).add 0=a:=by simp[Addr.add]
  rw[h3]at h2;unfold World.cell? at h2;cases hs':a.spot with
  |none=>rfl
  |some z=>
   rw[qB (by omega)]at h2;split at h2<;>simp_all
 obtain⟨b,off,spot⟩:=a;simp only at hspot;subst hspot;have hadd:∀i,(⟨b,off,none⟩:Addr).add i=⟨b,off+i,none⟩:=fun i=>by unfold Addr.add;split<;>simp_all
 have key:∀j,j<=len->∃(xs:List α) (bs:List Nat) (us:List Value),xs.length=j/\us.length=j*s/\aT w b off us/\TN w (xs.flatMap f) bs us:=by
  intro j
  induction j with
  |zero=>intro _;exact⟨[],[],[],rfl,by simp,fun _ _ h=>by simp at h,TN.nil.2 ⟨rfl,rfl⟩⟩
  |succ j ih=>
   intro hj;obtain⟨xs,bs,us,h1,h2,h3,h4⟩:=ih (by omega);obtain⟨cs',hc,htr⟩:=hx j (by omega);obtain⟨y,bs',hy⟩:=hT _ _ _ htr;rw[he,hadd]at hc;have hcl:=(World.cells?_some hc).2.1;refine⟨xs++[y],bs++bs',us++cs',by simp[h1],by simp[h2,hcl,Nat.add_mul],h3.append (by rw[h2];exact jf hc),?_⟩;rw[List.flatMap_append];exact TN.append.2 ⟨bs,bs',us,cs',rfl,rfl,h4,by simpa using hy⟩
 obtain⟨xs,bs,us,h1,h2,h3,h4⟩:=key len (Nat.le_refl _);refine⟨_,_,_,xs,b::bs,rfl,h1,hl,hm,?_⟩;unfold T1;refine⟨_,_,rfl,hl,hm,.inr ⟨hlen,b,off,us,bs,rfl,rfl,?_,h3,h4⟩⟩;have hu:us[0]? =some (us[0]'(by rw[h2];exact Nat.mul_pos hlen h0)):=qB _;exact World.block_lt_of_cell? w _ (h3 0 _ hu)
theorem one_cell{base:Nat}{v:Value}{t e:TypeId}(ht:P.underlying t=some (.slice e))(h:Value.okWide P w .any base t v):v.cells.toList=[v]:=by
 cases v with
 |agg cs=>simp[Value.okWide,ht,Cell.okWide,Cell.ok]at h
 |_=>rfl
end
end Go.Tr
