
/- Data trees in memory: what a slice of structs, with slices in it, reads as; kept where its blocks are kept. -/
import Derived.Test.YtbdimbjclhmeoaaGreatShort
import Derived.WalkKit
import Derived.Lib.Hide
import Derived.Deep.QuietTactic
import Derived.BigQuiet
import Derived.KernelRfl
import Derived.Laws.AppendOwn
import Derived.OrdersHeld
import Derived.Maps.AppendAt
import Derived.Deep.LoopGhost
import Derived.Deep.MidRow
import Derived.Lib.SliceRun
set_option linter.unusedSimpArgs false
set_option linter.unusedVariables false
namespace Go.Tr
open Go Go.RowKit
inductive D where
 |v (x:Value)
 |sl (n:Nat) (ds:List D)
def dV(w:World)(b off:Nat)(us:List Value):Prop:=∀j u,us[j]? =some u->w.cell? ⟨b,off+j,none⟩=some u
mutual
def T1(w:World):D->List Nat->Value->Prop
 | .v x,bs,u=>u=x/\bs=[]/\x.oneCell'=true
 | .sl n ds,bs,u=>∃A c,u=.slice A n c/\n<=c/\c<=maxLen/\((n=0/\ds=[]/\bs=[])\/(0<n/\∃b off us bs',A=some ⟨b,off,none⟩/\bs=b::bs'/\b<w.heap.size/\dV w b off us/\TN w ds bs' us))
def TN(w:World):List D->List Nat->List Value->Prop
 |[],bs,us=>us=[]/\bs=[]
 |d::ds,bs,us=>∃b1 b2 u us',us=u::us'/\bs=b1++b2/\T1 w d b1 u/\TN w ds b2 us'
end
def Keeps(w w':World)(bs:List Nat):Prop:=w.heap.size<=w'.heap.size/\∀b∈bs,w'.heap[b]? =w.heap[b]?
theorem Keeps.sub{w w':World}{bs cs:dF}(h:Keeps w w' bs)(hs:∀b∈cs,b∈bs):Keeps w w' cs:=⟨h.1,fun b hb=>h.2 b (hs b hb)⟩
theorem dV.keep{w w':World}{b off:Nat}{us:bW}(h:dV w b off us)(hk:w'.heap[b]? =w.heap[b]?):dV w' b off us:=
 fun j u hu=>(World.cell?_of_block hk).trans (h j u hu)
mutual
theorem T1.keep{w w':World}:∀{d:D} {bs:dF} {u:Value},T1 w d bs u->Keeps w w' bs->T1 w' d bs u
 | .v x,bs,u,h,_=>by unfold T1 at*;exact h
 | .sl n ds,bs,u,h,hk=>by
  unfold T1 at h |-;obtain⟨A,c,rfl,hn,hc,h⟩:=h;refine⟨A,c,rfl,hn,hc,?_⟩;rcases h with h|⟨h0,b,off,us,bs',rfl,rfl,hb,hca,ht⟩
  .exact .inl h
  .exact .inr ⟨h0,b,off,us,bs',rfl,rfl,qW hb hk.1,hca.keep (hk.2 b (by simp)),TN.keep ht (hk.sub fun b' hb'=>by simp[hb'])⟩
theorem TN.keep{w w':World}:∀{ds:List D} {bs:dF} {us:bW},TN w ds bs us->Keeps w w' bs->TN w' ds bs us
 |[],bs,us,h,_=>by unfold TN at*;exact h
 |d::ds,bs,us,h,hk=>by
  unfold TN at h |-;obtain⟨b1,b2,u,us',rfl,rfl,h1,h2⟩:=h;exact⟨b1,b2,u,us',rfl,rfl,T1.keep h1 (hk.sub fun b hb=>by simp[hb]),TN.keep h2 (hk.sub fun b hb=>by simp[hb])⟩
end
mutual
theorem T1.lt{w:World}:∀{d:D} {bs:dF} {u:Value},T1 w d bs u->∀b∈bs,b<w.heap.size
 | .v x,bs,u,h=>by unfold T1 at h;obtain⟨_,rfl,_⟩:=h;simp
 | .sl n ds,bs,u,h=>by
  unfold T1 at h;obtain⟨A,c,rfl,hn,hc,h⟩:=h;rcases h with⟨_,_,rfl⟩|⟨h0,b,off,us,bs',rfl,rfl,hb,hca,ht⟩
  .simp
  .intro b' hb';rcases List.mem_cons.1 hb' with rfl|hb'
   .exact hb
   .exact TN.lt ht b' hb'
theorem TN.lt{w:World}:∀{ds:List D} {bs:dF} {us:bW},TN w ds bs us->∀b∈bs,b<w.heap.size
 |[],bs,us,h=>by unfold TN at h;obtain⟨_,rfl⟩:=h;simp
 |d::ds,bs,us,h=>by
  unfold TN at h;obtain⟨b1,b2,u,us',rfl,rfl,h1,h2⟩:=h;intro b hb;rcases List.mem_append.1 hb with hb|hb
  .exact T1.lt h1 b hb
  .exact TN.lt h2 b hb
end
theorem Keeps.of_below{w w':World}{B:Nat}{bs:dF}(h:Below B w w')(hl:∀b∈bs,b<B):Keeps w w' bs:=⟨h.size,fun b hb=>h.block b (hl b hb)⟩
theorem TN.below{w w':World}{ds bs us}(h:TN w ds bs us)(hb:Below w.heap.size w w'):TN w' ds bs us:=h.keep (.of_below hb h.lt)
theorem T1.below{w w':World}{d bs u}(h:T1 w d bs u)(hb:Below w.heap.size w w'):T1 w' d bs u:=h.keep (.of_below hb h.lt)
theorem TN.length{w:World}:∀{ds:List D} {bs us},TN w ds bs us->us.length=ds.length
 |[],bs,us,h=>by unfold TN at h;simp[h.1]
 |d::ds,bs,us,h=>by
  unfold TN at h;obtain⟨b1,b2,u,us',rfl,rfl,h1,h2⟩:=h;simp[h2.length]
theorem TN.nil{w:World}{bs us}:TN w [] bs us↔us=[]/\bs=[]:=by unfold TN;rfl
theorem TN.cons{w:World}{d ds bs us}:TN w (d::ds) bs us↔∃b1 b2 u us',us=u::us'/\bs=b1++b2/\T1 w d b1 u/\TN w ds b2 us':=by rw[TN]
theorem T1.v{w:World}{x bs u}:T1 w (.v x) bs u↔u=x/\bs=[]/\x.oneCell'=true:=by rw[T1]
theorem TN.append{w:World}:∀{ds es:List D} {bs us},TN w (ds++es) bs us↔∃b1 b2 u1 u2,us=u1++u2/\bs=b1++b2/\TN w ds b1 u1/\TN w es b2 u2
 |[],es,bs,us=>by
  constructor
  .intro h;exact⟨[],bs,[],us,rfl,rfl,TN.nil.2 ⟨rfl,rfl⟩,h⟩
  .rintro⟨b1,b2,u1,u2,rfl,rfl,h1,h2⟩;obtain⟨rfl,rfl⟩:=TN.nil.1 h1;exact h2
 |d::ds,es,bs,us=>by
  rw[List.cons_append,TN.cons];constructor
  .rintro⟨b1,b2,u,us',rfl,rfl,h1,h2⟩;obtain⟨c1,c2,u1,u2,rfl,rfl,h3,h4⟩:=TN.append.1 h2;exact⟨b1++c1,c2,u::u1,u2,rfl,by simp,TN.cons.2 ⟨b1,c1,u,u1,rfl,rfl,h1,h3⟩,h4⟩
  .rintro⟨b1,b2,u1,u2,rfl,rfl,h1,h2⟩;obtain⟨c1,c2,u,us',rfl,rfl,h3,h4⟩:=TN.cons.1 h1;exact⟨c1,c2++b2,u,us'++u2,rfl,by simp,h3,TN.append.2 ⟨c2,b2,us',u2,rfl,rfl,h4,h2⟩⟩
theorem TN.scalars{w:World}:∀{us:bW},us.all (·.oneCell')=true->TN w (us.map D.v) [] us
 |[],_=>TN.nil.2 ⟨rfl,rfl⟩
 |u::us,h=>by
  simp only[List.all_cons,qD]at h;exact TN.cons.2 ⟨[],[],u,us,rfl,rfl,T1.v.2 ⟨rfl,rfl,h.1⟩,TN.scalars h.2⟩
theorem TN.EB{w:World}:∀{us:bW} {bs vs},TN w (us.map D.v) bs vs->bs=[]/\vs=us
 |[],bs,vs,h=>by obtain⟨rfl,rfl⟩:=TN.nil.1 h;exact⟨rfl,rfl⟩
 |u::us,bs,vs,h=>by
  obtain⟨b1,b2,x,us',rfl,rfl,h1,h2⟩:=TN.cons.1 h;obtain⟨rfl,rfl,_⟩:=T1.v.1 h1;obtain⟨rfl,rfl⟩:=TN.EB h2;exact⟨rfl,rfl⟩
theorem p9{α β:Type}(f:α->List β){xs:List α}{k:Nat}{x:α}(h:Hid (xs[k]? =some x)):(xs.take (k+1)).flatMap f=(xs.take k).flatMap f++f x:=by
 rw[List.take_add_one,h.out];simp
theorem jA{α β:Type}(f:α->List β)(s:Nat)(hs:∀x,(f x).length=s)(xs:List α):(xs.flatMap f).length=xs.length*s:=by
 induction xs with
 |nil=>simp
 |cons x xs ih=>simp[ih,hs,Nat.add_mul,Nat.add_comm]
theorem flat_get{α:Type}(f:α->List D)(s:Nat)(hs:∀x,(f x).length=s):∀(xs:List α) (k:Nat) (hk:k<xs.length),∃l r,xs.flatMap f=l++f xs[k]++r/\l=(xs.take k).flatMap f/\r=(xs.drop (k+1)).flatMap f/\l.length=k*s
 |x::xs,0,_=>⟨[],xs.flatMap f,by simp,by simp,by simp,by simp⟩
 |x::xs,k+1,hk=>by
  obtain⟨l,r,h,h1,h2,h3⟩:=flat_get f s hs xs k (by simpa using hk);refine⟨f x++l,r,by simp[h],by simp[h1],by simp[h2],by simp[h3,hs,Nat.add_mul,Nat.add_comm]⟩
theorem T1.at_{α:Type}{f:α->List D}{s:Nat}(hs:∀x,(f x).length=s){w:World}{xs:List α}{bs:dF}{A:Option Addr}{n c m:Nat}(h:T1 w (.sl m (xs.flatMap f)) bs (.slice A n c))(hm:xs.length=m){k:Nat}(hk:k<m):
  n=m/\∃b off b1 b2 b3 us,A=some ⟨b,off,none⟩/\bs=b::(b1++b2++b3)/\b<w.heap.size/\dV w b (off+k*s) us/\TN w (f (xs[k]'(hm▸hk))) b2 us:=by
 unfold T1 at h;obtain⟨A',c',he,hn,hc,h⟩:=h;injection he with hA hn' hc'
 subst hA hn' hc';refine⟨rfl,?_⟩;rcases h with⟨rfl,_,_⟩|⟨h0,b,off,us,bs',rfl,rfl,hb,hca,ht⟩
 .omega
 .obtain⟨l,r,he,_,_,hl⟩:=flat_get f s hs xs k (hm▸hk);rw[he]at ht;obtain⟨b1,b3,u1,u3,rfl,rfl,h1,h3⟩:=TN.append.1 ht;obtain⟨b1,b2,u1,u2,rfl,rfl,h1,h2⟩:=TN.append.1 h1;refine⟨b,off,b1,b2,b3,u2,rfl,rfl,hb,?_,h2⟩;intro j u hu;have hl1:=h1.length
  have:=hca (k*s+j) u (by
   rw[qF,qL (by omega),qM (by
    have:=(qE.1 hu).1;omega)]
   rw[hl1,hl,Nat.add_sub_cancel_left];exact hu)
  rwa[<-Nat.add_assoc]at this
structure bL(w:World) where
 to:World
 h:Below w.heap.size w to
instance (w:World):Inhabited (bL w):=⟨⟨w,Below.refl _ _⟩⟩
theorem bL.cell{w:World}:∀(e:bL w) (b o:Nat),b<w.heap.size->e.to.cell? ⟨b,o,none⟩=w.cell? ⟨b,o,none⟩:=fun e _ _ hb=>World.cell?_of_block (e.h.block _ hb)
theorem eF{P:Program}{id:Nat}{Q:Exit->Act->World->Prop}{a:Act}{w:World}{l:List Oper}(hm:P.follows .mixedOrders=true)(hB:Region.lexB .any l.toArray=true)
  (h:wpQuiet P l.toArray (fun w'=>∃e:bL w,w'=e.to) (fun a'=>∀w',(∃e:bL w,w'=e.to)->Q .normal a' w') l a):(Code.region id l.toArray true).wp P Q a w:=
 wp_region_quiet (C:=fun w'=>∃e:bL w,w'=e.to) hm hB ⟨⟨w.drew,(Below.refl _ _).drew⟩,rfl⟩ (by simpa using h)
theorem Calls.mH{P:Program}{f:FuncId}{args:Array Value}{w:World}{e:bL w}{v:Value}
  (h:Calls P f args e.to fun x w'=>x=.returned v/\Below e.to.heap.size e.to w'):Calls P f args e.to fun x w''=>x=.returned v/\∃e:bL w,w''=e.to:=
 h.mono fun _ w' ⟨he,hm⟩=>⟨he,⟨w',e.h.trans (hm.mono e.h.size)⟩,rfl⟩
theorem nk{α:Type}{xs ys:List α}{k:Nat}{x y:α}(h:Hid (xs.take k=ys.take k))(hx:Hid (xs[k]? =some x))(hy:Hid (ys[k]? =some y))(e:x=y):Hid (xs.take (k+1)=ys.take (k+1)):=by
 show _=_;rw[List.take_add_one,List.take_add_one,h.out,hx.out,hy.out,e]
theorem take_eq_all{α:Type}{xs ys:List α}{n:Nat}(h:Hid (xs.take n=ys.take n))(hx:Hid (xs.length=n))(hy:Hid (ys.length=n)):xs=ys:=by
 have h1:=h.out
 rwa[qN (by rw[hx.out];exact Nat.le_refl _),qN (by rw[hy.out];exact Nat.le_refl _)]at h1
theorem La{α:Type}{xs ys:List α}{k:Nat}{x y:α}(hx:Hid (xs[k]? =some x))(hy:Hid (ys[k]? =some y))(e:x≠y):xs≠ys:=by
 rintro rfl;exact e (Option.some.inj (hx.out.symm.trans hy.out))
theorem Es{α:Type}{xs ys:List α}{n m:Nat}(hx:Hid (xs.length=n))(hy:Hid (ys.length=m))(e:n≠m):xs≠ys:=by
 rintro rfl;exact e (hx.out.symm.trans hy.out)
def iE(w:World)(g:Nat)(t:TypeId)(n sz:Nat)(vs:List Value):Prop:=
 ∃cur,w.heap[g]? =some (.cells cur t (0,0))/\cur.size=n*sz/\cur.toList.take vs.length=vs
theorem iE.new(w:World)(cur:Array Value)(t:TypeId)(n sz:Nat)(h:cur.size=n*sz):iE (w.alloc (.cells cur t)) w.heap.size t n sz []:=
 ⟨cur,heap_alloc_new w _,h,by simp⟩
theorem iE.lt{w:World}{g t n sz vs}(h:iE w g t n sz vs):g<w.heap.size:=by
 obtain⟨cur,h,_⟩:=h;exact(Array.getElem?_eq_some_iff.1 h).1
theorem iE.keep{w w':World}{g t n sz vs}(h:iE w g t n sz vs)(hk:w'.heap[g]? =w.heap[g]?):iE w' g t n sz vs:=by
 obtain⟨cur,h,r⟩:=h;exact⟨cur,hk.trans h,r⟩
theorem iE.below{w w':World}{g t n sz vs}(h:iE w g t n sz vs)(hb:Below w.heap.size w w'):iE w' g t n sz vs:=h.keep (hb.block g h.lt)
theorem iE.cells{w:World}{g t n sz vs}(h:iE w g t n sz vs):dV w g 0 vs:=by
 obtain⟨cur,h,_,ht⟩:=h;intro j u hu;rw[Nat.zero_add];have:w.cell? ⟨g,j,none⟩=cur[j]? :=cell_of_row w g j cur t (0,0) h;rw[this];rw[<-ht,List.getElem?_take]at hu;split at hu
 .simpa using hu
 .cases hu
theorem T1.Ez{w:World}{g t n sz vs ds bs}(h:iE w g t n sz vs)(hn:0<n)(hm:n<=maxLen)(ht:TN w ds bs vs):T1 w (.sl n ds) (g::bs) (.slice (some ⟨g,0,none⟩) n n):=by
 unfold T1;exact⟨_,_,rfl,Nat.le_refl _,hm,.inr ⟨hn,g,0,vs,bs,rfl,rfl,h.lt,h.cells,ht⟩⟩
theorem T1.empty{w:World}(A:Option Addr):T1 w (.sl 0 []) [] (.slice A 0 0):=by
 unfold T1;exact⟨_,_,rfl,Nat.le_refl _,Nat.zero_le _,.inl ⟨rfl,rfl,rfl⟩⟩
theorem Fq{P:Program}{w:World}{g t n sz:Nat}{vs:bW}{ty:TypeId}{k:Nat}{v:Value}(h:iE w g t n sz vs)(hk:vs.length=k*sz)(hkn:k<n)
  (hi:(P.info? ty).map (·.size)=some sz) (hv:v.cells.size=sz) (h1:∀u∈v.cells.toList,u.oneCell'=true):
  ∃w',(Instr.storeAt ty (.pointer (some ⟨g,k*sz,none⟩)) v).run P w=.ok () w'/\iE w' g t n sz (vs++v.cells.toList)/\Below g w w'/\w'.heap.size=w.heap.size/\(∀b,b≠g->w'.heap[b]? =w.heap[b]?):=by
 obtain⟨cur,hg,hs,ht⟩:=h
 have hfit:k*sz+v.cells.toList.length<=cur.size:=by
  have:=Nat.mul_le_mul_right sz (show k+1<=n by omega);rw[Nat.add_mul]at this;simp[hv,hs];omega
 have hst:=run_storeCells_at P g (k*sz) t v.cells.toList 0 cur w hg (by simpa using hfit) h1;simp only[Nat.add_zero]at hst
 have hrun:(Instr.storeAt ty (.pointer (some ⟨g,k*sz,none⟩)) v).run P w=.ok () (w.setRow g (cur.toList.take (k*sz)++v.cells.toList++cur.toList.drop (k*sz+v.cells.toList.length)).toArray):=by
  cases hq:P.info? ty with
  |none=>simp[hq]at hi
  |some i=>
   have hsz:v.cells.size=i.size:=by simp[hq]at hi;omega
   simp only[Instr.storeAt,Instr.sureAddr,Sem.run_bind,Sem.run_pure,Result.andThen_ok];simp[storeVar,sizeOf,typeInfo,hq,hsz,hst]
 have htk:(cur.toList.take (k*sz))=vs:=by rw[<-hk];exact ht
 refine⟨_,hrun,⟨_,setRow_heap w g cur _ t _ hg,?_,?_⟩,⟨rfl,rfl,rfl,by simp,fun b hb=>setRow_other w g b _ (by omega)⟩,by simp,fun b hb=>setRow_other w g b _ hb⟩
 .simp only[List.size_toArray,qA,List.length_take,List.length_drop,Array.length_toList]at hfit |-;omega
 .simp only[];rw[htk,List.take_left'];rfl
theorem iJ{P:Program}{ops:Array Oper}{rest:List Oper}{op:Oper}{a:Act}{w:World}{Q:Exit->Act->World->Prop}(hgd:op.guard=none)(ty:TypeId)(x y:Operand)(ho:op.op=.store ty x y)
  (g t n sz k:Nat) (vs:List Value) (v:Value) (hx:a.eval x=.pointer (some ⟨g,k*sz,none⟩)) (hy:a.eval y=v) (h:iE w g t n sz vs) (hk:vs.length=k*sz) (hkn:k<n)
  (hi:(P.info? ty).map (·.size)=some sz) (hv:v.cells.size=sz) (h1:v.cells.toList.all (·.oneCell')=true)
  (hc:∀w',iE w' g t n sz (vs++v.cells.toList)->Below g w w'->w'.heap.size=w.heap.size->(∀b,b≠g->w'.heap[b]? =w.heap[b]?)->wpList P ops Q rest (a.put op.dst undef) w'):wpList P ops Q (op::rest) a w:=
 wpList_plain hgd fun _ hK=>by
  obtain⟨w',hr,h2,h3,h4,h5⟩:=Fq (P:=P) h hk hkn hi hv (List.all_eq_true.1 h1);unfold Oper.wp execOp;simp only[ho,hx,hy,Sem.run_bind,hr,Result.andThen_ok,Sem.run_pure];exact hK _ _ (hc w' h2 h3 h4 h5)
theorem _root_.Go.RowKit.Below.drewN{B:Nat}{a w:World}(h:Below B a w)(n:Nat):Below B a (w.drewN n):=⟨h.os,h.tape,h.output,h.size,h.block⟩
def bT:List Int->List Int->Bool
 |x::xs,y::ys=>x==y&&bT xs ys
 |_,_=>true
theorem vX{P:Program}(w:World)(d:Nat):∀(fs:List Field) (pre:Nat) (l:List (String×TypeId×Nat)) (xs ys:List Int) (px py:bW),
  fs.map (fun f => (f.name, f.type, f.offset)) = l -> (∀ t ∈ l.map (·.2.1), P.underlying t = some (.int .i64)) -> l.map (·.2.2) = List.range' pre l.length -> (l.all fun x => x.1 != "_") = true -> xs.length = l.length -> ys.length = l.length -> px.length = pre -> py.length = pre ->
  (Op.eqFields (d+1) (px++xs.map (Value.int .i64)).toArray (py++ys.map (Value.int .i64)).toArray fs).run P w=.ok (bT xs ys) w
 |[],pre,l,xs,ys,px,py,hl,_,_,_,hx,hy,_,_=>by
  simp at hl;subst hl;obtain rfl:xs=[]:=List.eq_nil_of_length_eq_zero (by simpa using hx);obtain rfl:ys=[]:=List.eq_nil_of_length_eq_zero (by simpa using hy);simp[Op.eqFields,bT]
 |f::fs,pre,l,xs,ys,px,py,hl,hu,ho,hnm,hx,hy,hpx,hpy=>by
  subst hl
  match xs,ys,hx,hy with
  |x::xs,y::ys,hx,hy=>
   simp only[List.map_cons,qI,List.range'_succ,List.cons.injEq,List.all_cons,qD,bne_iff_ne,ne_eq]at ho hnm;have hut:P.underlying f.type=some (.int .i64):=hu _ (by simp)
   have hp:∀(pz:List Value) (z:Int) (zs:List Int),pz.length=pre->(part f.type (pz++(z::zs).map (Value.int .i64)).toArray f.offset).run P w=.ok (.int .i64 z) w:=by
    intro pz z zs hz
    have hg:(pz++(z::zs).map (Value.int .i64)).toArray[f.offset]? =some (.int .i64 z):=by
     rw[ho.1];simp[<-hz]
    simp only[part,isAgg,Sem.run_bind,run_underlying hut,Result.andThen_ok,hg];simp
   have ih:=vX (P:=P) w d fs (pre+1) _ xs ys (px++[.int .i64 x]) (py++[.int .i64 y]) rfl (fun t ht=>hu t (by simp at ht |-;exact .inr ht)) (by simpa using ho.2) hnm.2 (by simpa using hx) (by simpa using hy) (by simp[hpx]) (by simp[hpy]);simp only[qF,List.singleton_append]at ih;simp only[Op.eqFields,ne_eq,hnm.1,not_false_eq_true,if_true,Sem.run_bind,hp px x xs hpx,hp py y ys hpy,Result.andThen_ok,run_equalIn_int w d f.type .i64 .i64 x y hut]
   by_cases hxy:x=y
   .subst hxy;simp only[beq_self_eq_true,Bool.not_true,Bool.false_eq_true,if_false,bT,Bool.true_and];exact ih
   .have:(x==y)=false:=by simpa using hxy
    simp[this,bT]
theorem sP{P:Program}(w:World)(d:Nat)(t:TypeId)(l:List (String×TypeId×Nat))(ht:P.underlying t=some (.struct (P.fieldsOf t)))(hp:P.stoodInHeld t=false)
  (hl:(P.fieldsOf t).toList.map (fun f=>(f.name,f.type,f.offset))=l) (hu:∀t∈l.map (·.2.1),P.underlying t=some (.int .i64)) (xs ys:List Int)
  (ho : (l.map (·.2.2) == List.range' 0 l.length && l.all fun x => x.1 != "_") = true) (hxy : (xs.length == l.length && ys.length == l.length) = true) :
  (Op.equalIn (d+2) t (.agg (xs.map (Value.int .i64)).toArray) (.agg (ys.map (Value.int .i64)).toArray)).run P w=.ok (bT xs ys) w:=by
 simp only[qD,beq_iff_eq]at ho hxy;rw[run_equalIn_struct w (d+1) t _ _ ht hp];exact vX (P:=P) w d _ 0 l xs ys [] [] hl hu ho.1 ho.2 hxy.1 hxy.2 rfl rfl
noncomputable def yE{α:Type}(x y:α):Bool:= @decide (x=y) (Classical.propDecidable _)
theorem Cn{α:Type}{x y:α}(h:yE x y=true):x=y:=by simpa[yE]using h
theorem jY{α:Type}{x y:α}(h:x≠y):yE x y=false:=by simpa[yE]using h
theorem DT{α:Type}{x y:α}(h:yE x y=false):x≠y:=by simpa[yE]using h
theorem ow{α:Type}(x:α):yE x x=true:=by simp[yE]
theorem uZ{α:Type}{x y:α}(h:x=y):yE x y=true:=by subst h;exact ow x
theorem T1.slice{w:World}{n ds bs u}(h:T1 w (.sl n ds) bs u):∃A c,u=.slice A n c/\n<=c/\c<=maxLen:=by
 unfold T1 at h;obtain⟨A,c,h1,h2,h3,_⟩:=h;exact⟨A,c,h1,h2,h3⟩
theorem TN.nu{w:World}{x ds bs us}(h:TN w (.v x::ds) bs us):∃us',us=x::us'/\TN w ds bs us':=by
 obtain⟨b1,b2,u,us',rfl,rfl,h1,h2⟩:=TN.cons.1 h;obtain⟨rfl,rfl,_⟩:=T1.v.1 h1;exact⟨us',rfl,h2⟩
theorem TN.vR{w:World}{x ds bs us}(h1:x.oneCell'=true)(h:TN w ds bs us):TN w (.v x::ds) bs (x::us):=TN.cons.2 ⟨[],bs,x,us,rfl,rfl,T1.v.2 ⟨rfl,rfl,h1⟩,h⟩
theorem TN.Dl{w:World}{n es ds bs us}(h:TN w (.sl n es::ds) bs us):∃A c b1 b2 us',us=.slice A n c::us'/\bs=b1++b2/\T1 w (.sl n es) b1 (.slice A n c)/\n<=c/\c<=maxLen/\TN w ds b2 us':=by
 obtain⟨b1,b2,u,us',rfl,rfl,h1,h2⟩:=TN.cons.1 h;obtain⟨A,c,rfl,h3,h4⟩:=h1.slice;exact⟨A,c,b1,b2,us',rfl,rfl,h1,h3,h4,h2⟩
theorem TN.FC{w:World}{d ds b1 b2 u us}(h:T1 w d b1 u)(h2:TN w ds b2 us):TN w (d::ds) (b1++b2) (u::us):=TN.cons.2 ⟨b1,b2,u,us,rfl,rfl,h,h2⟩
theorem TN.end_{w:World}{bs us}(h:TN w [] bs us):us=[]/\bs=[]:=TN.nil.1 h
theorem TN.done{w:World}:TN w [] [] []:=TN.nil.2 ⟨rfl,rfl⟩
theorem T1.EF{w:World}:∀{d:D} {bs:dF} {u:Value},T1 w d bs u->u.oneCell'=true
 | .v x,bs,u,h=>by obtain⟨rfl,_,h⟩:=T1.v.1 h;exact h
 | .sl n ds,bs,u,h=>by obtain⟨A,c,rfl,_,_⟩:=h.slice;rfl
theorem TN.EF{w:World}:∀{ds:List D} {bs us},TN w ds bs us->us.all (·.oneCell')=true
 |[],bs,us,h=>by obtain⟨rfl,_⟩:=TN.nil.1 h;rfl
 |d::ds,bs,us,h=>by
  obtain⟨b1,b2,u,us',rfl,rfl,h1,h2⟩:=TN.cons.1 h;simp[h1.EF,List.all_eq_true.1 h2.EF];exact fun x hx=>List.all_eq_true.1 h2.EF x hx
structure But(g:Nat)(w w':World):Prop where
 os:w'.os=w.os
 tape:w'.tape=w.tape
 output:w'.output=w.output
 size:w.heap.size<=w'.heap.size
 block:∀k,k<w.heap.size->k≠g->w'.heap[k]? =w.heap[k]?
theorem TN.but{w w':World}{g ds bs us}(h:TN w ds bs us)(hb:But g w w')(hg:g∉bs):TN w' ds bs us:=h.keep ⟨hb.size,fun b hb'=>hb.block b (h.lt b hb') (fun e=>hg (e▸hb'))⟩
def Own(lo:Nat)(w:World)(bs:List Nat):Prop:=bs.Nodup/\∀b∈bs,lo<=b/\∃cur t,w.heap[b]? =some (.cells cur t (0,0))
theorem Own.nil(lo:Nat)(w:World):Own lo w []:=⟨List.nodup_nil,by simp⟩
theorem Own.lt{lo w bs}(h:Own lo w bs):∀b∈bs,b<w.heap.size:=fun b hb=>by
 obtain⟨_,cur,t,h⟩:=h.2 b hb;exact(Array.getElem?_eq_some_iff.1 h).1
theorem Own.but{lo g:Nat}{w w':World}{bs}(h:Own lo w bs)(hb:But g w w')(hg:g∉bs):Own lo w' bs:=
 ⟨h.1,fun b hb'=>⟨(h.2 b hb').1,by
  obtain⟨_,cur,t,h2⟩:=h.2 b hb';exact⟨cur,t,(hb.block b (h.lt b hb') (fun e=>hg (e▸hb'))).trans h2⟩⟩⟩
theorem Own.below{lo:Nat}{w w':World}{bs}(h:Own lo w bs)(hb:Below w.heap.size w w'):Own lo w' bs:=
 ⟨h.1,fun b hb'=>⟨(h.2 b hb').1,by
  obtain⟨_,cur,t,h2⟩:=h.2 b hb';exact⟨cur,t,(hb.block b (h.lt b hb')).trans h2⟩⟩⟩
theorem Own.mono{lo lo':Nat}{w:World}{bs}(h:Own lo w bs)(hl:lo'<=lo):Own lo' w bs:=⟨h.1,fun b hb=>⟨Nat.le_trans hl (h.2 b hb).1,(h.2 b hb).2⟩⟩
theorem Own.wX{lo:Nat}{w:World}{bs}(h:Own lo w bs){g:Nat}(hg:g<lo):g∉bs:=fun hb=>by have:=(h.2 g hb).1;omega
theorem Own.append{lo hi:Nat}{w:World}{b1 b2}(h1:Own lo w b1)(hl:∀b∈b1,b<hi)(h2:Own hi w b2)(hlo:lo<=hi):Own lo w (b1++b2):=
 ⟨List.nodup_append.2 ⟨h1.1,h2.1,fun a ha b hb e=>by
  subst e;have:=hl a ha;have:=(h2.2 a hb).1;omega⟩,fun b hb=>by
  rcases List.mem_append.1 hb with h|h
  .exact h1.2 b h
  .exact⟨Nat.le_trans hlo (h2.2 b h).1,(h2.2 b h).2⟩⟩
theorem Own.cons{lo g:Nat}{w:World}{bs}{cur t}(hg:w.heap[g]? =some (.cells cur t (0,0)))(hlo:lo<=g)(h:Own (g+1) w bs):Own lo w (g::bs):=
 ⟨List.nodup_cons.2 ⟨h.wX (by omega),h.1⟩,fun b hb=>by
  rcases List.mem_cons.1 hb with rfl|hb
  .exact⟨hlo,cur,t,hg⟩
  .have:=(h.2 b hb).1;exact⟨by omega,(h.2 b hb).2⟩⟩
theorem Sj{W w1:World}(hb:Below W.heap.size W w1):(∀b o,b<W.heap.size->w1.cell? ⟨b,o,none⟩=W.cell? ⟨b,o,none⟩)/\(∀b o,b<W.heap.size->w1.frozen? ⟨b,o,none⟩=W.frozen? ⟨b,o,none⟩):=
 ⟨fun b o h=>hb.cell (p:=⟨b,o,none⟩) h,fun b o h=>hb.frozen (p:=⟨b,o,none⟩) h⟩
def dJ(x:Int):List D:=[.v (.int .i64 x)]
theorem Pm{w:World}{x bs us}(h:TN w (dJ x) bs us):us=[.int .i64 x]/\bs=[]:=by
 obtain⟨us',rfl,h2⟩:=TN.nu h;obtain⟨rfl,rfl⟩:=h2.end_;exact⟨rfl,rfl⟩
theorem Jv{w:World}{xs:List Int}{bs:dF}{A:Option Addr}{n c:Nat}(h:T1 w (.sl n (xs.flatMap dJ)) bs (.slice A n c))(hm:xs.length=n){k:Nat}(hk:k<n):
  ∃b off x,A=some ⟨b,off,none⟩/\b∈bs/\b<w.heap.size/\Hid (xs[k]? =some x)/\w.cell? ⟨b,off+k,none⟩=some (.int .i64 x):=by
 obtain⟨_,b,off,b1,b2,b3,us,hA,rfl,hb,hc,ht⟩:=T1.at_ (s:=1) (fun _=>rfl) h hm hk;obtain⟨rfl,rfl⟩:=Pm ht;have:=hc 0 _ rfl;exact⟨b,off,xs[k],hA,by simp,hb,qB (hm▸hk),by simpa using this⟩
def slE{α:Type}(f:α->List D)(xs:List α):List D:=[.sl xs.length (xs.flatMap f)]
def Cz(lo:Nat)(w w':World):Prop:=w.heap.size<=w'.heap.size/\∀k,lo<=k->k<w.heap.size->w'.heap[k]? =w.heap[k]?
theorem Cz.refl(lo:Nat)(w:World):Cz lo w w:=⟨Nat.le_refl _,fun _ _ _=>rfl⟩
theorem Cz.trans{lo:Nat}{a b c:World}(h:Cz lo a b)(k:Cz lo b c):Cz lo a c:=⟨Nat.le_trans h.1 k.1,fun i hl hi=>(k.2 i hl (qW hi h.1)).trans (h.2 i hl hi)⟩
theorem Cz.of_below{lo:Nat}{w w':World}(h:Below w.heap.size w w'):Cz lo w w':=⟨h.size,fun k _ hk=>h.block k hk⟩
theorem Cz.below{lo:Nat}{a w w':World}(h:Cz lo a w)(h2:Below w.heap.size w w'):Cz lo a w':=h.trans (.of_below h2)
theorem Cz.setCell{lo:Nat}{a w:World}(h:Cz lo a w){p:Addr}(hp:p.block<lo)(v:Value):Cz lo a (w.setCell p v):=
 h.trans ⟨by simp[World.setCell],fun k hl _=>Below.heap_setCell _ _ _ _ (by omega)⟩
theorem T1.YZ{lo:Nat}{w w':World}{d bs u}(h:T1 w d bs u)(hb:Cz lo w w')(hl:∀b∈bs,lo<=b):T1 w' d bs u:=h.keep ⟨hb.1,fun b hb'=>hb.2 b (hl b hb') (h.lt b hb')⟩
theorem Own.YZ{lo l:Nat}{w w':World}{bs}(h:Own lo w bs)(hb:Cz l w w')(hl:l<=lo):Own lo w' bs:=
 ⟨h.1,fun b hb'=>⟨(h.2 b hb').1,by
  obtain⟨hlo,cur,t,h2⟩:=h.2 b hb';exact⟨cur,t,(hb.2 b (Nat.le_trans hl hlo) (h.lt b hb')).trans h2⟩⟩⟩
theorem Own.ge{lo:Nat}{w:World}{bs}(h:Own lo w bs):∀b∈bs,lo<=b:=fun b hb=>(h.2 b hb).1
theorem iE.own{w:World}{g t n sz vs}(h:iE w g t n sz vs):∃cur t',w.heap[g]? =some (.cells cur t' (0,0)):=by
 obtain⟨cur,h,_⟩:=h;exact⟨cur,t,h⟩
theorem info_parts'{P:Program}{t:TypeId}{s:Nat}(h:(P.info? t).map (fun i=>(i.zero.isSome,i.size,decide (i.bytes<=100000000)))=some (true,s,true)):
  ∃i z,P.info? t=some i/\i.zero=some z/\i.size=s/\i.bytes<=100000000:=by
 obtain⟨i,hi,hzz⟩:=Option.map_eq_some_iff.1 h;simp only[Prod.mk.injEq,qQ]at hzz;obtain⟨z,hz⟩:=Option.isSome_iff_exists.1 hzz.1;exact⟨i,z,hi,hz,hzz.2.1,hzz.2.2⟩
theorem Qx{b n:Nat}(hb:b<=100000000)(hn:n<=1048576):(b:Int)*(n:Int)<=281474976710656:=by
 have h:=Nat.mul_le_mul hb hn;rw[<-Int.natCast_mul];omega
structure SzOf(P:Program)(e:TypeId)(s:Nat):Prop where
 h:(P.info? e).map (·.size)=some s
theorem rE{P:Program}{t e:TypeId}{s n:Nat}(h:(P.info? e).map (fun i=>(i.zero.isSome,i.size,decide (i.bytes<=100000000)))=some (true,s,true))(hu:P.underlying t=some (.slice e))(hn:n<=1048576):
  ∃M:Array Value,M.size=n*s/\(∀W:World,(Instr.makeSlice t (.int .i64 n) (.int .i64 n)).run P W=.ok (.slice (some ⟨W.heap.size,0,none⟩) n n) (W.alloc (.cells M e)))/\SzOf P e s:=by
 obtain⟨i0,z0,hi0,hz0,hz1,hz2⟩:=info_parts' h;refine⟨madeCells z0.cells (n*i0.size),by rw[size_madeCells,hz1],fun W=> ?_,⟨by rw[hi0,<-hz1];rfl⟩⟩;have:=run_make (P:=P) (w:=W) t e i0 z0 hu hi0 hz0 .i64 .i64 n n (by omega) (by omega) (Qx hz2 hn) (by omega);simpa using this
theorem Ih(w:World)(a b c:Obj):(((w.alloc a).alloc b).alloc c).heap[w.heap.size]? =some a/\(((w.alloc a).alloc b).alloc c).heap[w.heap.size+1]? =some b/\(((w.alloc a).alloc b).alloc c).heap[w.heap.size+1+1]? =some c:=by
 have s1:(w.alloc a).heap.size=w.heap.size+1:=by simp
 have s2:((w.alloc a).alloc b).heap.size=w.heap.size+1+1:=by simp
 have n1:=heap_alloc_new w a;have n2:=heap_alloc_new (w.alloc a) b;have n3:=heap_alloc_new ((w.alloc a).alloc b) c;rw[s1]at n2;rw[s2]at n3;exact⟨(Below.heap_alloc _ _ _ (by omega)).trans ((Below.heap_alloc _ _ _ (by omega)).trans n1),(Below.heap_alloc _ _ _ (by omega)).trans n2,n3⟩
theorem gT{w:World}{g:Nat}{cs:Array Value}{t:TypeId}(h:w.heap[g]? =some (.cells cs t (0,0)))(o:Nat):w.frozen? ⟨g,o,none⟩=false:=by
 simp[World.frozen?,h]
theorem Rows.sU{w:World}{b i:Nat}{cs:Array Value}{T:TypeId}{fr:Nat×Nat}{v:Value}(hb:w.heap[b]? =some (.cells cs T fr)):
  (w.setCell ⟨b,i,none⟩ v).heap[b]? =some (.cells (cs.setIfInBounds i v) T fr):=by
 simp[World.setCell,Array.getElem?_modify,hb]
def Ka{α:Type}(f:α->Nat)(xs:List α):Nat:=xs.length+(xs.map f).sum
theorem FY{α:Type}(xs:List α):Ka (fun _=>0) xs=xs.length:=by
 unfold Ka
 induction xs with
 |nil=>rfl
 |cons x xs ih=>
  simp only[List.map_cons,List.sum_cons,qI];omega
theorem Qs{α:Type}{f:α->Nat}{xs:List α}{k:Nat}{x:α}(h:xs[k]? =some x):((xs.take (k+1)).map f).sum=((xs.take k).map f).sum+f x:=by
 rw[List.take_add_one,h];simp
def yS(L:Int)(P:Prop)(W:Nat)(w:World)(e:Ending)(w':World):Prop:=
 Below w.heap.size w w'/\∃r:Int,e=.returned (.int .i64 r)/\(r= -1\/(0<=r/\r=L-W/\P))
theorem yN{α:Type}{xs:List α}{k:Nat}{x:α}{P:α->Prop}(h:∀y∈xs.take k,P y)(hx:xs[k]? =some x)(hp:P x):∀y∈xs.take (k+1),P y:=by
 intro y hy;rw[List.take_add_one,hx]at hy;rcases List.mem_append.1 hy with hy|hy
 .exact h y hy
 .simp at hy;exact hy▸hp
abbrev Ext(w w1:World):Prop:=Below w.heap.size w w1
theorem Ext.trans{a b c:World}(h:Ext a b)(k:Ext b c):Ext a c:=Below.trans h (Below.mono k h.size)
def QC(P:Program)(w:World)(f:FuncId)(args:Array Value)(v:Value):Prop:=
 ∀W,Ext w W->Calls P f args W fun x w'=>x=.returned v/\Ext W w'
section
variable {P:Program}{w:World}{f:FuncId}{args:Array Value}{v:Value}
theorem QC.at_(h:QC P w f args v)(e:bL w):Calls P f args e.to fun x w'=>x=.returned v/\∃e':bL w,w'=e'.to:=
 (h e.to e.h).mono fun _ w' ⟨hx,hb⟩=>⟨hx,⟨w',Ext.trans e.h hb⟩,rfl⟩
theorem fD(h:∀e:bL w,Calls P f args e.to fun x w'=>x=.returned v/\∃e':bL w,w'=e'.to):Calls P f args w fun x w'=>x=.returned v/\Ext w w':=
 (h ⟨w,Below.refl _ _⟩).mono fun _ _ ⟨a,e',b⟩=>⟨a,b▸e'.h⟩
end
theorem bM{P:Program}{id:Nat}{Q:Exit->Act->World->Prop}{a:Act}{w:World}(e0:bL w){l:List Oper}(hm:P.follows .mixedOrders=true)(hB:Region.lexB .any l.toArray=true)
  (h:wpQuiet P l.toArray (fun w'=>∃e:bL w,w'=e.to) (fun a'=>∀e:bL w,Q .normal a' e.to) l a):(Code.region id l.toArray true).wp P Q a e0.to:=
 wp_region_quiet (C:=fun w'=>∃e:bL w,w'=e.to) hm hB ⟨⟨e0.to.drew,e0.h.drew⟩,rfl⟩ (by
  have e:(fun a'=>∀e:bL w,Q .normal a' e.to)=(fun a'=>∀w',(∃e:bL w,w'=e.to)->Q .normal a' w'):=by
   funext a'
   exact propext ⟨fun h w' ⟨e,he⟩=>he▸h e,fun h e=>h _ ⟨e,rfl⟩⟩
  rw[e]at h;simpa using h)
abbrev Kn(w:World)(b o:Nat)(v:Value):Prop:=∀e:bL w,e.to.cell? ⟨b,o,none⟩=some v
theorem Kn.ext{w w1:World}{b o:Nat}{v:Value}(h:Kn w b o v)(h1:Ext w w1):Kn w1 b o v:=fun e=>h ⟨e.to,h1.trans e.h⟩
structure ZaE(w:World)(b o:Nat)(ds:List D)(bs:List Nat):Prop where
 lt:b<w.heap.size
 ex:∃us,dV w b o us/\TN w ds bs us
theorem dV.always{w:World}{b o:Nat}{us:bW}(hlt:b<w.heap.size)(hc:dV w b o us)(j:Nat)(u:Value)(hu:us[j]? =some u):Kn w b (o+j) u:=
 fun e=>(e.cell b (o+j) hlt).trans (hc j u hu)
theorem T1.elem{α:Type}{f:α->List D}{s:Nat}(hs:∀x,(f x).length=s){w:World}{xs:List α}{bs:dF}{A:Option Addr}{n n' c:Nat}(h:T1 w (.sl n (xs.flatMap f)) bs (.slice A n' c))(hm:Hid (xs.length=n)){k:Nat}(hk:k<n):
  ∃b off x bs',A=some ⟨b,off,none⟩/\Hid (xs[k]? =some x)/\ZaE w b (off+k*s) (f x) bs':=by
 obtain⟨_,b,off,p1,p2,p3,us,hA,_,hb,hc,ht⟩:=T1.at_ hs h hm.out hk;exact⟨b,off,_,p2,hA,qB (hm.out▸hk),hb,us,hc,ht⟩
theorem T1.JE{w:World}{n n' c:Nat}{ds bs A}(h:T1 w (.sl n ds) bs (.slice A n' c)):n<=9223372036854775807:=by
 obtain⟨A',c',he,h1,h2⟩:=h.slice;have:maxLen=9223372036854775807:=rfl;omega
theorem E9{P:Program}{c:Code}{Q:Exit->Act->World->Prop}{a:Act}{w:World}(e:bL w){g:Nat}(hg:e.to.heap.size=g){cs:Array Value}{t:TypeId}
  (h:∀(w1:World) (e1:bL w1),Ext w w1->w.heap.size<=g->g<w1.heap.size->dV w1 g 0 cs.toList->c.wp P Q a e1.to):c.wp P Q a (e.to.alloc (.cells cs t)):=by
 subst hg;have h1:Ext w (e.to.alloc (.cells cs t)):=e.h.alloc e.h.size _;refine h (e.to.alloc (.cells cs t)) ⟨_,Below.refl _ _⟩ h1 e.h.size (by simp) (fun j u hu=> ?_);rw[Nat.zero_add,cell_of_row _ _ j cs t (0,0) (heap_alloc_new e.to _)];simpa using hu
theorem Ap{w:World}{g i:Nat}{cs:Array Value}{t:TypeId}{v:Value}(h:w.heap[g]? =some (.cells cs t (0,0)))(hi:cs[i]? =some v):w.cell? ⟨g,i,none⟩=some v:=(cell_of_row w g i cs t (0,0) h).trans hi
theorem bL.old{w w1:World}(h:Ext w w1)(e:bL w1):∃e':bL w,e.to=e'.to:=⟨⟨e.to,h.trans e.h⟩,rfl⟩
theorem Ot{α:Type}{a:α}:Hid (a=a):=rfl
theorem Xk{w:World}{x:Int}{b o bs}(h:ZaE w b o (dJ x) bs):Kn w b o (.int .i64 x):=by
 obtain⟨hlt,us,hc,ht⟩:=h;obtain⟨rfl,rfl⟩:=Pm ht;exact hc.always hlt 0 _ rfl
def eD(n:Nat)(f:Nat->Bool):Bool:=(List.range n).all f
theorem MC{n:Nat}{f:Nat->Bool}(h:Hid (eD n f=true))(hn:f n=true):Hid (eD (n+1) f=true):=by
 show _=_;have h:=h.out;unfold eD at*;rw[List.range_succ,List.all_append,h];simp[hn]
theorem Oy{n k:Nat}{f:Nat->Bool}(hk:k<n)(h:f k=false):eD n f=false:=by
 unfold eD;rw[Bool.eq_false_iff];intro ha;rw[List.all_eq_true]at ha;rw[ha k (by simpa using hk)]at h;cases h
theorem Wx(f:Nat->Bool):eD 0 f=true:=rfl
theorem qo{n:Nat}{f:Nat->Bool}(h:eD n f=true){k:Nat}(hk:k<n):f k=true:=by
 unfold eD at h;rw[List.all_eq_true]at h;exact h k (by simpa using hk)
def idxOf(n:Nat)(f:Nat->Bool):Int:=match(List.range n).find? f with|some k=>k|none=> -1
def Oz(n:Nat)(f:Nat->Bool):Bool:= !eD n (fun k=> !f k)
theorem TU{n k:Nat}{f:Nat->Bool}(h:Hid (eD k (fun k=> !f k)=true))(hk:k<n)(hf:f k=true):idxOf n f=k:=by
 have h1:(List.range n).find? f=some k:=by
  rw[List.find?_range_eq_some];exact⟨hf,by simpa using hk,fun j hj=>qo h.out hj⟩
 unfold idxOf;rw[h1]
theorem D9{n:Nat}{f:Nat->Bool}(h:Hid (eD n (fun k=> !f k)=true)):idxOf n f= -1:=by
 have h1:(List.range n).find? f=none:=by
  rw[List.find?_eq_none];intro x hx;have:=qo h.out (by simpa using hx);simpa using this
 unfold idxOf;rw[h1]
theorem TV(n:Nat)(f:Nat->Bool):decide (0<=idxOf n f)=Oz n f:=by
 unfold Oz;cases h:eD n (fun k=> !f k)with
 |true=>rw[D9 h];rfl
 |false=>
  unfold idxOf;cases hf:(List.range n).find? f with
  |some k=>simp
  |none=>
   exfalso;rw[List.find?_eq_none]at hf;unfold eD at h;rw[Bool.eq_false_iff]at h;apply h;rw[List.all_eq_true];intro x hx;have:=hf x hx;simpa using this
end Go.Tr
namespace Go.Tr
open Go Go.RowKit
structure uO(P:Program)(t e:TypeId)(s:Nat):Prop where
 u:P.underlying t=some (.slice e)
 i:∃i z,P.info? e=some i/\i.zero=some z/\i.size=s/\z.cells.size=s/\i.bytes<=1000
 p:0<s
theorem uO.of{P:Program}{t e:TypeId}{s:Nat}(hu:P.underlying t=some (.slice e))(h:(P.info? e).map (fun i=>(i.zero.map (·.cells.size),i.size,decide (i.bytes<=1000)))=some (some s,s,true))(hp:0<s):uO P t e s:=by
 refine⟨hu,?_,hp⟩;cases hi:P.info? e with
 |none=>simp[hi]at h
 |some i=>
  rw[hi]at h;simp only[Option.map_some,Option.some.injEq,Prod.mk.injEq,qQ]at h;obtain⟨h1,h2,h3⟩:=h;cases hz:i.zero with
  |none=>rw[hz]at h1;simp at h1
  |some z=>rw[hz]at h1;exact⟨i,z,rfl,hz,h2,by simpa using h1,h3⟩
section
variable {P:Program}{w:World}
end
end Go.Tr
namespace Go.Tr
open Go Go.RowKit
theorem kL(w:World)(b o o':Nat)(v:Value)(h:o'≠o):(w.setCell ⟨b,o,none⟩ v).cell? ⟨b,o',none⟩=w.cell? ⟨b,o',none⟩:=by
 simp only[World.cell?,World.setCell,Array.getElem?_modify];cases hb:w.heap[b]? with
 |none=>simp
 |some ob=>cases ob<;>simp[Ne.symm h]
theorem T1.focus{α:Type}{f:α->List D}{s:Nat}(hs:∀x,(f x).length=s){w:World}{xs:List α}{bs:dF}{A:Option Addr}{n c:Nat}(h:T1 w (.sl n (xs.flatMap f)) bs (.slice A n c))(hm:xs.length=n){k:Nat}(hk:k<n):
  ∃b off b1 b2 b3 us,A=some ⟨b,off,none⟩/\bs=b::(b1++b2++b3)/\b<w.heap.size/\dV w b (off+k*s) us/\TN w (f (xs[k]'(hm▸hk))) b2 us/\
   ∀w' x' us',w.heap.size<=w'.heap.size->(∀j,(j<off+k*s\/off+k*s+s<=j)->w'.cell? ⟨b,j,none⟩=w.cell? ⟨b,j,none⟩)->(∀b'∈b1++b3,w'.heap[b']? =w.heap[b']?)->
    dV w' b (off+k*s) us'->TN w' (f x') b2 us'->T1 w' (.sl n ((xs.set k x').flatMap f)) bs (.slice A n c):=by
 have hk':k<xs.length:=hm▸hk;unfold T1 at h;obtain⟨A',c',he,hn,hc,h⟩:=h;injection he with hA hn' hc'
 subst hA hc';rcases h with⟨rfl,_,_⟩|⟨h0,b,off,us,bs',rfl,rfl,hb,hca,ht⟩
 .omega
 have hx:xs.flatMap f=(xs.take k).flatMap f++(f xs[k]++(xs.drop (k+1)).flatMap f):=by
  conv=>lhs;rw[<-List.take_append_drop k xs,List.drop_eq_getElem_cons hk',List.flatMap_append,qU]
 have hl:((xs.take k).flatMap f).length=k*s:=by rw[jA f s hs,List.length_take,Nat.min_eq_left (Nat.le_of_lt hk')]
 rw[hx]at ht;obtain⟨b1,b',u1,u',rfl,rfl,t1,ht⟩:=TN.append.1 ht;obtain⟨b2,b3,u2,u3,rfl,rfl,t2,t3⟩:=TN.append.1 ht;have l1:=t1.length;have l2:=t2.length;rw[hl]at l1;rw[hs]at l2;refine⟨b,off,b1,b2,b3,u2,rfl,by simp,hb,fun j u hu=> ?_,t2,fun w' x' us' hsz hcell hkeep hca' ht'=> ?_⟩
 .have hj:=(qE.1 hu).1
  have:=hca (k*s+j) u (by
   rw[qL (by omega),l1,Nat.add_sub_cancel_left,qM hj];exact hu)
  rwa[<-Nat.add_assoc]at this
 .have l2':=ht'.length;rw[hs]at l2';unfold T1;refine⟨_,_,rfl,hn,hc,.inr ⟨h0,b,off,u1++(us'++u3),b1++(b2++b3),rfl,rfl,qW hb hsz,fun j u hu=> ?_,?_⟩⟩
  .by_cases hj1:j<k*s
   .rw[qM (by omega)]at hu;rw[hcell _ (by omega)];exact hca j u (by rw[qM (by omega)];exact hu)
   .rw[qL (by omega),l1]at hu
    by_cases hj2:j-k*s<s
    .rw[qM (by omega)]at hu;have:=hca' (j-k*s) u hu
     rwa[show off+k*s+(j-k*s)=off+j by omega]at this
    .rw[qL (by omega),l2']at hu;rw[hcell _ (by omega)];exact hca j u (by rw[qL (by omega),l1,qL (by omega),l2];exact hu)
  .have e:(xs.set k x').flatMap f=(xs.take k).flatMap f++(f x'++(xs.drop (k+1)).flatMap f):=by
    rw[List.set_eq_take_append_cons_drop,if_pos hk',List.flatMap_append,qU]
   rw[e]
   exact TN.append.2 ⟨b1,_,u1,_,rfl,rfl,t1.keep ⟨hsz,fun b' hb'=>hkeep b' (by simp[hb'])⟩,
    TN.append.2 ⟨b2,b3,us',u3,rfl,rfl,ht',t3.keep ⟨hsz,fun b' hb'=>hkeep b' (by simp[hb'])⟩⟩⟩
def Zbj(k:Int):List UInt8:=if k<=0 then[109,48]else 109::(Nat.toDigits 10 k.toNat).map (fun c=>c.toNat.toUInt8)
def mkV(x:Value)(k:Int):Value:=match x with
 | .int .i64 _=>.int .i64 k
 | .bool _=>.bool (k % 3==0)
 | .string _=>.string ⟨(Zbj k).toArray⟩
 |x=>x
mutual
def mkD:D->Int->D
 | .v x,k=>.v (mkV x k)
 | .sl n ds,k=>.sl n (jQ ds k)
def jQ:List D->Int->List D
 |[],_=>[]
 |d::ds,k=>mkD d k::jQ ds (k+(cD d:Nat))
def cD:D->Nat
 | .v _=>1
 | .sl _ ds=>cN ds
def cN:List D->Nat
 |[]=>0
 |d::ds=>cD d+cN ds
end
theorem gJ:cN []=0:=by unfold cN;rfl
theorem iY(d:D)(ds:List D):cN (d::ds)=cD d+cN ds:=by rw[cN]
theorem tN(x:Value):cD (.v x)=1:=by unfold cD;rfl
theorem nG(n:Nat)(ds:List D):cD (.sl n ds)=cN ds:=by rw[cD]
theorem jS(k:Int):jQ [] k=[]:=by unfold jQ;rfl
theorem lG(d:D)(ds:List D)(k:Int):jQ (d::ds) k=mkD d k::jQ ds (k+(cD d:Nat)):=by rw[jQ]
theorem y7(n:Nat)(ds:List D)(k:Int):mkD (.sl n ds) k=.sl n (jQ ds k):=by rw[mkD]
theorem vw(x k:Int):mkD (.v (.int .i64 x)) k=.v (.int .i64 k):=by rw[mkD];rfl
theorem dh:∀a b:List D,cN (a++b)=cN a+cN b
 |[],b=>by rw[gJ];simp
 |d::a,b=>by rw[List.cons_append,iY,iY,dh a b];omega
theorem iN:∀(a b:List D) (k:Int),jQ (a++b) k=jQ a k++jQ b (k+(cN a:Nat))
 |[],b,k=>by rw[jS,gJ];simp
 |d::a,b,k=>by
  rw[List.cons_append,lG,lG,iN a b,List.cons_append,iY]
  congr 3
  omega
theorem sJ:∀(a:List D) (k:Int),(jQ a k).length=a.length
 |[],k=>by rw[jS]
 |d::a,k=>by rw[lG,qI,qI,sJ a]
structure oK(bs:List Nat)(w w':World):Prop where
 os:w'.os=w.os
 tape:w'.tape=w.tape
 output:w'.output=w.output
 size:w.heap.size<=w'.heap.size
 other:∀b,b<w.heap.size->b∉bs->w'.heap[b]? =w.heap[b]?
 row:∀(b:Nat) cs t,w.heap[b]? =some (.cells cs t (0,0))->∃cs',w'.heap[b]? =some (.cells cs' t (0,0))
theorem kR{w:World}{b:Nat}{o:Obj}(h:w.heap[b]? =some o):b<w.heap.size:=(Array.getElem?_eq_some_iff.1 h).1
theorem oK.refl(bs:dF)(w:World):oK bs w w:=⟨rfl,rfl,rfl,Nat.le_refl _,fun _ _ _=>rfl,fun _ cs _ h=>⟨cs,h⟩⟩
theorem oK.trans{bs:dF}{a b c:World}(h:oK bs a b)(k:oK bs b c):oK bs a c:=
 ⟨k.os.trans h.os,k.tape.trans h.tape,k.output.trans h.output,Nat.le_trans h.size k.size,fun i hs hi=>(k.other i (qW hs h.size) hi).trans (h.other i hs hi),
  fun b cs t hb=>by obtain⟨cs',h'⟩:=h.row b cs t hb;exact k.row b cs' t h'⟩
theorem oK.sub{bs cs:dF}{w w':World}(h:oK bs w w')(hs:∀b∈bs,b∈cs):oK cs w w':=⟨h.os,h.tape,h.output,h.size,fun b hl hb=>h.other b hl (fun hc=>hb (hs b hc)),h.row⟩
theorem oK.BH{bs:dF}{w w':World}(h:Below w.heap.size w w'):oK bs w w':=⟨h.os,h.tape,h.output,h.size,fun b hl _=>h.block b hl,fun b cs t hb=>⟨cs,(h.block b (kR hb)).trans hb⟩⟩
theorem oK.below{B:Nat}{bs:dF}{w w':World}(h:oK bs w w')(hB:B<=w.heap.size)(hb:∀b∈bs,B<=b):Below B w w':=
 ⟨h.os,h.tape,h.output,h.size,fun k hk=>h.other k (by omega) (fun hc=>by have:=hb k hc;omega)⟩
theorem oK.setCell{bs:dF}{w w':World}(h:oK bs w w'){b:Nat}(hb:b∈bs)(o:Nat)(v:Value):oK bs w (w'.setCell ⟨b,o,none⟩ v):=
 h.trans ⟨rfl,rfl,rfl,by simp[World.setCell],fun b' _ hb'=>Below.heap_setCell _ _ _ _ (fun e=>hb' (by simp at e;exact e▸hb)),fun b' cs t hr=>by
  by_cases e:b'=b
  .subst e;exact⟨_,Rows.sU hr⟩
  .exact⟨cs,(Below.heap_setCell _ _ _ _ e).trans hr⟩⟩
theorem T1.tC{bs:dF}{w w':World}{d cs u}(h:T1 w d cs u)(ho:oK bs w w')(hd:∀b∈cs,b∉bs):T1 w' d cs u:=
 h.keep ⟨ho.size,fun b hb=>ho.other b (h.lt b hb) (hd b hb)⟩
theorem TN.tC{bs:dF}{w w':World}{d cs u}(h:TN w d cs u)(ho:oK bs w w')(hd:∀b∈cs,b∉bs):TN w' d cs u:=
 h.keep ⟨ho.size,fun b hb=>ho.other b (h.lt b hb) (hd b hb)⟩
theorem Own.tC{lo:Nat}{bs cs:dF}{w w':World}(h:Own lo w bs)(ho:oK cs w w'):Own lo w' bs:=
 ⟨h.1,fun b hb=>⟨(h.2 b hb).1,by obtain⟨_,cur,t,h2⟩:=h.2 b hb;obtain⟨cs',h3⟩:=ho.row b cur t h2;exact⟨cs',t,h3⟩⟩⟩
theorem Own.join{lo:Nat}{w:World}{a b:dF}(h1:Own lo w a)(h2:Own lo w b)(h:∀y∈a,y∉b):Own lo w (a++b):=
 ⟨List.nodup_append.2 ⟨h1.1,h2.1,fun y hy z hz e=>h y hy (e▸hz)⟩,fun y hy=>(List.mem_append.1 hy).elim (h1.2 y) (h2.2 y)⟩
theorem Own.parts{lo:Nat}{w:World}{a b:dF}(h:Own lo w (a++b)):Own lo w a/\Own lo w b/\∀y∈a,y∉b:=by
 obtain⟨h1,h2,h3⟩:=List.nodup_append.1 h.1;exact⟨⟨h1,fun y hy=>h.2 y (by simp[hy])⟩,⟨h2,fun y hy=>h.2 y (by simp[hy])⟩,fun y hy hb=>h3 y hy y hb rfl⟩
theorem T1.pos{w:World}{n n':Nat}{l r:List D}{d:D}{bs:dF}{A:Option Addr}{c:Nat}(h:T1 w (.sl n (l++d::r)) bs (.slice A n' c)):
  n'=n/\∃b off u b1 b2 b3,A=some ⟨b,off,none⟩/\bs=b::(b1++(b2++b3))/\b<w.heap.size/\w.cell? ⟨b,off+l.length,none⟩=some u/\T1 w d b2 u/\
   ∀(w':World) (d':D) (u':Value),w.heap.size<=w'.heap.size->(∀j,j≠off+l.length->w'.cell? ⟨b,j,none⟩=w.cell? ⟨b,j,none⟩)->(∀b'∈b1++b3,w'.heap[b']? =w.heap[b']?)->
    w'.cell? ⟨b,off+l.length,none⟩=some u'->T1 w' d' b2 u'->T1 w' (.sl n (l++d'::r)) bs (.slice A n' c):=by
 unfold T1 at h;obtain⟨A',c',he,hn,hc,h⟩:=h;injection he with hA hn' hc'
 subst hA hc' hn';refine⟨rfl,?_⟩;rcases h with⟨_,h,_⟩|⟨h0,b,off,us,bs',rfl,rfl,hb,hca,ht⟩
 .exact absurd h (by simp)
 obtain⟨b1,b',u1,u',rfl,rfl,t1,ht⟩:=TN.append.1 ht;obtain⟨b2,b3,u,u3,rfl,rfl,t2,t3⟩:=TN.cons.1 ht;have l1:=t1.length;refine⟨b,off,u,b1,b2,b3,rfl,rfl,hb,hca l.length u (by rw[qL (by omega),l1];simp),t2,fun w' d' u2 hsz hcell hkeep hc' ht'=> ?_⟩;unfold T1;refine⟨_,_,rfl,hn,hc,.inr ⟨h0,b,off,u1++(u2::u3),b1++(b2++b3),rfl,rfl,qW hb hsz,fun j v hv=> ?_,?_⟩⟩
 .by_cases hj:j=l.length
  .subst hj;rw[qL (by omega),l1]at hv;simp at hv;rw[hc',hv]
  .rw[hcell _ (by omega)];refine hca j v ?_
   by_cases hj1:j<l.length
   .rw[qM (by omega)]at hv |-;exact hv
   .rw[qL (by omega)]at hv |-;obtain⟨i,hi⟩:∃i,j-u1.length=i+1:=⟨j-u1.length-1,by omega⟩;rw[hi]at hv |-;simpa using hv
 .exact TN.append.2 ⟨b1,_,u1,_,rfl,rfl,t1.keep ⟨hsz,fun b' hb'=>hkeep b' (by simp[hb'])⟩,TN.cons.2 ⟨b2,b3,u2,u3,rfl,rfl,ht',t3.keep ⟨hsz,fun b' hb'=>hkeep b' (by simp[hb'])⟩⟩⟩
theorem T1.leaf{w:World}{n n':Nat}{l r:List D}{x:Value}{bs:dF}{A:Option Addr}{c lo o:Nat}(h:T1 w (.sl n (l++.v x::r)) bs (.slice A n' c))(ho:Own lo w bs){b off:Nat}(hA:A=some ⟨b,off,none⟩)(hl:off+l.length=o):
  w.cell? ⟨b,o,none⟩=some x/\∀y,y.oneCell'=true->T1 (w.setCell ⟨b,o,none⟩ y) (.sl n (l++.v y::r)) bs (.slice A n' c)/\oK bs w (w.setCell ⟨b,o,none⟩ y)/\Own lo (w.setCell ⟨b,o,none⟩ y) bs:=by
 subst hl;obtain⟨rfl,b',off',u,b1,b2,b3,hA',rfl,hb,hc,ht,hback⟩:=h.pos;obtain⟨rfl,rfl⟩:b'=b/\off'=off:=by rw[hA]at hA';simpa[eq_comm]using hA'
 obtain⟨rfl,rfl,_⟩:=T1.v.1 ht;refine⟨hc,fun y hy=> ?_⟩;have hon:oK (b'::(b1++([]++b3))) w (w.setCell ⟨b',off'+l.length,none⟩ y):=(oK.refl _ _).setCell (by simp) _ _;refine⟨hback _ _ y (by simp[World.setCell]) (fun j hj=>kL _ _ _ _ _ hj) (fun b2 hb2=>Below.heap_setCell _ _ _ _ (fun e=> ?_)) (World.cell?_setCell_same' _ _ _ (by rw[hc];rfl)) (T1.v.2 ⟨rfl,rfl,hy⟩),hon,ho.tC hon⟩;have hnd:=(List.nodup_cons.1 ho.1).1;simp only[List.nil_append]at hnd;exact hnd (by simp at e;rw[<-e];exact hb2)
theorem T1.row{w:World}{n n':Nat}{l r:List D}{d:D}{bs:dF}{A:Option Addr}{c lo:Nat}(h:T1 w (.sl n (l++d::r)) bs (.slice A n' c))(ho:Own lo w bs):
  ∃b off,A=some ⟨b,off,none⟩/\n'=n/\b∈bs/\b<w.heap.size/\lo<=b/\∀o,w.frozen? ⟨b,o,none⟩=false:=by
 obtain⟨rfl,b,off,u,b1,b2,b3,rfl,rfl,hb,hc,ht,hback⟩:=h.pos;obtain⟨hlo,cur,t,hrow⟩:=ho.2 b (by simp);exact⟨b,off,rfl,rfl,by simp,hb,hlo,fun o=>by simp[World.frozen?,hrow]⟩
theorem T1.sub{w:World}{n n' m:Nat}{l r es:List D}{bs:dF}{A:Option Addr}{c lo o:Nat}(h:T1 w (.sl n (l++.sl m es::r)) bs (.slice A n' c))(ho:Own lo w bs){b off:Nat}(hA:A=some ⟨b,off,none⟩)(hl:off+l.length=o):
  ∃A2 c2 b2,w.cell? ⟨b,o,none⟩=some (.slice A2 m c2)/\T1 w (.sl m es) b2 (.slice A2 m c2)/\m<=maxLen/\Own lo w b2/\b∉b2/\
   ∀w' es',oK b2 w w'->T1 w' (.sl m es') b2 (.slice A2 m c2)->T1 w' (.sl n (l++.sl m es'::r)) bs (.slice A n' c)/\oK bs w w'/\Own lo w' bs:=by
 subst hl;obtain⟨rfl,b',off',u,b1,b2,b3,hA',rfl,hb,hc,ht,hback⟩:=h.pos;obtain⟨rfl,rfl⟩:b'=b/\off'=off:=by rw[hA]at hA';simpa[eq_comm]using hA'
 obtain⟨A2,c2,rfl,hm1,hm2⟩:=ht.slice;have hnd:=ho.1;have hlt:∀y∈b1++b3,y<w.heap.size:=fun y hy=>ho.lt y (by rcases List.mem_append.1 hy with h|h<;>simp[h])
 rw[List.nodup_cons,List.nodup_append,List.nodup_append]at hnd;obtain⟨hb',n1,⟨n2,n3,n23⟩,n123⟩:=hnd;refine⟨A2,c2,b2,hc,ht,Nat.le_trans hm1 hm2,⟨n2,fun y hy=>ho.2 y (by simp[hy])⟩,fun hx=>hb' (by simp[hx]),fun w' es' hon ht'=> ?_⟩;have hon':oK (b'::(b1++(b2++b3))) w w':=hon.sub (fun y hy=>by simp[hy]);have hk:w'.heap[b']? =w.heap[b']? :=hon.other b' hb (fun hx=>hb' (by simp[hx]));refine⟨hback w' _ _ hon.size (fun j _=>World.cell?_of_block hk) (fun y hy=>hon.other y (hlt y hy) (fun hx=> ?_)) ((World.cell?_of_block hk).trans hc) ht',hon',ho.tC hon'⟩
 rcases List.mem_append.1 hy with hy|hy
 .exact n123 y hy y (by simp[hx]) rfl
 .exact n23 y hx y hy rfl
theorem lW{α:Type}(f:α->List D)(s:Nat)(hs:∀x,(f x).length=s){xs:List α}{n k:Nat}(hn:Hid (xs.length=n))(hk:k<n):
  ∃x,Hid (xs[k]? =some x)/\Hid (xs.flatMap f=(xs.take k).flatMap f++(f x++(xs.drop (k+1)).flatMap f))/\((xs.take k).flatMap f).length=k*s/\Hid ((xs.take (k+1)).flatMap f=(xs.take k).flatMap f++f x)/\Hid (xs.drop k=x::xs.drop (k+1)):=by
 have hk':k<xs.length:=hn.out▸hk;refine⟨xs[k],qB hk',?_,?_,p9 f (qB hk'),List.drop_eq_getElem_cons hk'⟩
 .show _=_
  conv=>lhs;rw[<-List.take_append_drop k xs,List.drop_eq_getElem_cons hk',List.flatMap_append,qU]
 .rw[jA f s hs,List.length_take,Nat.min_eq_left (Nat.le_of_lt hk')]
theorem gu{a b:D}{l m:List D}(h:a=b)(k:l=m):a::l=b::m:=by rw[h,k]
theorem oJ{a b:Int}(h:a=b):D.v (.int .i64 a)=D.v (.int .i64 b):=by rw[h]
theorem N7{n:Nat}{ds:List D}{a b:Int}(h:a=b):D.sl n (jQ ds a)=D.sl n (jQ ds b):=by rw[h]
theorem T1.G8{w:World}{n n':Nat}{l r:List D}{x:Value}{bs:dF}{A:Option Addr}{c o:Nat}(h:T1 w (.sl n (l++.v x::r)) bs (.slice A n' c)){b off:Nat}(hA:A=some ⟨b,off,none⟩)(hl:off+l.length=o):Kn w b o x:=by
 subst hl;obtain⟨rfl,b',off',u,b1,b2,b3,hA',rfl,hb,hc,ht,hback⟩:=h.pos;obtain⟨rfl,rfl⟩:b'=b/\off'=off:=by rw[hA]at hA';simpa[eq_comm]using hA'
 obtain⟨rfl,rfl,_⟩:=T1.v.1 ht;exact fun e=>(e.cell b' _ hb).trans hc
theorem T1.Zbg{w:World}{n n':Nat}{l r:List D}{d:D}{bs:dF}{A:Option Addr}{c:Nat}(h:T1 w (.sl n (l++d::r)) bs (.slice A n' c)):∃b off,A=some ⟨b,off,none⟩:=by
 obtain⟨_,b,off,u,b1,b2,b3,hA,_⟩:=h.pos;exact⟨b,off,hA⟩
theorem Kn.tC{w w':World}{b o:Nat}{v:Value}(h:Kn w b o v)(e:bL w){bs:dF}(hf:oK bs e.to w')(hb:b<w.heap.size)(hn:b∉bs):Kn w' b o v:=fun e'=>by
 have h1:=h e;rw[<-h1,bL.cell e' b o (qW (qW hb e.h.size) hf.size)];exact World.cell?_of_block (hf.other b (qW hb e.h.size) hn)
theorem Xj(x:Int):cN (dJ x)<=32*(1+(fun _=>0) x):=by unfold dJ;rw[iY,gJ,tN];omega
theorem lU{α:Type}{f:α->List D}{g:α->Nat}(h:∀x,cN (f x)<=32*(1+g x)):∀xs:List α,cN (xs.flatMap f)<=32*Ka g xs
 |[]=>by rw[List.flatMap_nil,gJ];omega
 |x::xs=>by
  rw[qU,dh];have h1:=h x;have h2:=lU h xs;have h3:Ka g (x::xs)=1+g x+Ka g xs:=by unfold Ka;simp;omega
  omega
theorem Zb6(xs:List Int):cN (xs.flatMap dJ)=xs.length:=by
 induction xs with
 |nil=>rw[List.flatMap_nil,gJ];rfl
 |cons x xs ih=>rw[qU,dh,ih];unfold dJ;rw[iY,gJ,tN,qI];omega
def vOp:Op->Bool
 | .move _| .assign _| .pick .. | .load .. | .binOp .. | .unOp .. | .convert .. | .fieldAddr .. | .field .. | .indexAddr .. | .index .. | .extract .. | .slice .. | .lookup .. | .build .. | .makeInterface .. | .makeFunc .. =>true
 | .nilCheck _=>true
 | .call { callee:=.builtin .len, .. }| .call { callee:=.builtin .cap, .. }=>true
 |_=>false
theorem YM{P:Program}{s:Sem Value}{w w':World}{n:Next}(h:(do pure (Next.value (<-s)):Sem Next).run P w=.ok n w'):∃u,n=.value u:=by
 rw[Sem.run_bind]at h;cases hs:s.run P w with
 |ok x w''=>rw[hs]at h;simp only[Result.andThen,Sem.run_pure]at h;injection h with h1 h2;exact⟨x,h1.symm⟩
 |halt x w''=>rw[hs]at h;simp[Result.andThen]at h
theorem RN{P:Program}{o:Oper}{ρ:Operand->Value}{w w':World}{n:Next}(hv:vOp o.op=true)(h:(execOp ρ o).run P w=.ok n w'):∃u,n=.value u:=by
 unfold execOp at h;cases hop:o.op with
 |move x=>rw[hop]at h;dsimp only at h;rw[Sem.run_pure]at h;injection h with h1 h2;exact⟨_,h1.symm⟩
 |assign x=>rw[hop]at h;dsimp only at h;rw[Sem.run_pure]at h;injection h with h1 h2;exact⟨_,h1.symm⟩
 |pick c a b=>
  rw[hop]at h;dsimp only at h;rw[Sem.run_bind]at h;cases hs:(asBool (ρ c)).run P w with
  |ok x w''=>rw[hs]at h;simp only[Result.andThen,Sem.run_pure]at h;injection h with h1 h2;exact⟨_,h1.symm⟩
  |halt x w''=>rw[hs]at h;simp[Result.andThen]at h
 |nilCheck x=>
  rw[hop]at h;dsimp only at h;split at h
  all_goals first
   |(simp[runtimePanic,goPanic,go_sem]at h;done)
   |(rw[Sem.run_pure]at h;injection h with h1 h2;exact⟨_,h1.symm⟩)
   |skip
  split at h
  .simp[runtimePanic,goPanic,go_sem]at h
  .rw[Sem.run_bind]at h;revert h;generalize (program).run P w=r;intro h;cases r with
   |halt x w''=>simp[Result.andThen]at h
   |ok p w''=>
    simp only[Result.andThen]at h;rw[Sem.run_bind]at h;revert h;generalize Sem.run P (nilAhead _ _ _ _) w''=r2;intro h;cases r2 with
    |halt x w3=>simp[Result.andThen]at h
    |ok q w3=>
     simp only[Result.andThen]at h;split at h
     .simp[unsupported,go_sem]at h
     .rw[Sem.run_pure]at h;injection h with h1 h2;exact⟨_,h1.symm⟩
  .rw[Sem.run_pure]at h;injection h with h1 h2;exact⟨_,h1.symm⟩
 |call c=>
  obtain⟨callee,args,argTypes⟩:=c;rw[hop]at h hv;cases callee with
  |builtin b=>
   cases b<;>simp only[vOp,Bool.false_eq_true]at hv
   all_goals
    dsimp only at h;rw[Sem.run_bind]at h;simp only[resolve,Sem.run_pure,Result.andThen,invoke,builtin]at h;exact YM h
  |_=>simp[vOp]at hv
 |_=>
  rw[hop]at h hv
  first
   |(simp only[vOp,Bool.false_eq_true]at hv;done)
   |(dsimp only at h;exact YM h)
theorem Gm{P:Program}{o:Oper}{a:Act}{C:World->Prop}{w:World}{v:Value}(hv:vOp o.op=true)(h:o.quietAt P a C w v):(execOp a.eval o).run P w=.ok (.value v) w:=by
 unfold Oper.quietAt at h;generalize hr:(execOp a.eval o).run P w=r at h;cases r with
 |halt x w'=>simp only[Oper.quietUpon]at h
 |ok n w'=>
  obtain⟨u,rfl⟩:=RN hv hr;simp only[Oper.quietUpon]at h;rw[h.1,h.2]
section
variable {P:Program}{ops:Array Oper}{md:Region.Mode}
theorem Oper.Mr{o:Oper}{a:Act}{w:World}{K:Act->World->Prop}{Q Q':Exit->Act->World->Prop}(h:∀e a w,e≠.normal->Q e a w->Q' e a w)(hh:o.wp P a w K Q):o.wp P a w K Q':=by
 unfold Oper.wp at*;generalize (execOp a.eval o).run P w=r at*;cases r with
 |ok n w'=>
  cases n<;>simp only[Oper.upon]at hh |- <;>
   first
    |exact hh
    |exact Calls.mono hh (fun e w'' he=>by cases e<;>first|exact he|exact h _ _ _ (by simp) he|exact he.imp fun _ he=>he.imp fun _ he=>h _ _ _ (by simp) he)
    |exact Rows.mono hh (fun _ _ he=>he)
 |halt x w'=>cases x<;>simp only[Oper.upon]at hh |- <;>first|exact hh|exact h _ _ _ (by simp) hh
theorem Oo{i:Nat}{a:Act}{w:World}{K:Act->World->Prop}{Q Q':Exit->Act->World->Prop}(h:∀e a w,Q e a w->Q' e a w)(hh:wpOp P ops Q i K a w):wpOp P ops Q' i K a w:=by
 unfold wpOp at*;split
 .simpa[*]using hh
 .rename_i o ho;simp only[ho]at hh;split
  .rename_i hw;simp only[hw,if_true]at hh;exact hh.imp (Oper.Mr fun e a w _=>h e a w) (fun⟨x,a,w,q⟩=>⟨x,a,w,h _ _ _ q⟩)
  .rename_i hw;simpa only[hw,Bool.false_eq_true,if_false]using hh
theorem Cy{Q Q':Exit->Act->World->Prop}(h:∀e a w,Q e a w->Q' e a w):∀(fuel:Nat) (listed:Array Bool) (a:Act) (w:World),wpAny P md ops Q fuel listed a w->wpAny P md ops Q' fuel listed a w
 |0,_,_,_,hh=>⟨hh.1,h _ _ _ hh.2⟩
 |fuel+1,_,_,_,hh=>⟨fun h0=>h _ _ _ (hh.1 h0),fun i hi=>wpOp_mono (fun a' w'=>Cy h fuel _ a' w') (Oo h (hh.2 i hi))⟩
theorem AL{Q:Exit->Act->World->Prop}{S S':World->Prop}(h:∀w,S w->S' w):∀(fuel:Nat) (listed:Array Bool) (a:Act) (w:World),wpAnyH P md ops Q S fuel listed a w->wpAnyH P md ops Q S' fuel listed a w
 |0,_,_,_,hh=>hh
 |fuel+1,_,_,_,hh=>⟨hh.1,fun i hi=>wpOp_mono (fun a' w' hk=>⟨h _ hk.1,AL h fuel _ a' w' hk.2⟩) (hh.2 i hi)⟩
def vF(Q:Exit->Act->World->Prop):Exit->Act->World->Prop
 | .normal,a,w=>Q .normal a w
 |_,_,_=>False
def xG(P:Program)(ops:Array Oper)(Q:Exit->Act->World->Prop)(fuel:Nat)(listed:Array Bool)(a:Act)(w:World):Prop:=
 ∀S:World->Prop,(∀e:bL w,S e.to)->∀e:bL w,wpAnyH P .any ops (vF Q) S fuel listed a e.to
theorem rW{id:Nat}{Q:Exit->Act->World->Prop}{a:Act}{w:World}(e0:bL w){l:List Oper}(hm:P.follows .mixedOrders=true)(n:Nat)(hn:(l.length==n)=true)
  (h:xG P l.toArray Q n (List.replicate n false).toArray a w):(Code.region id l.toArray true).wp P Q a e0.to:=by
 refine wp_region_any hm ?_;have h1:=h (fun _=>True) (fun _=>trivial) ⟨e0.to.drew,e0.h.drew⟩;rw[beq_iff_eq]at hn;have:l.toArray.size=n:=by simpa using hn
 rw[this];have hr:Array.replicate n false=(List.replicate n false).toArray:=by simp
 rw[hr];exact Cy (fun e a w hq=>by cases e<;>first|exact hq|exact hq.elim) _ _ _ _ (wpAny_of_held _ _ _ _ h1)
theorem eu{Q:Exit->Act->World->Prop}{l:List Oper}{fuel:Nat}{listed:Array Bool}{a:Act}{w:World}(i:Nat){o:Oper}(hi:l[i]? =some o)
  (hc:(vOp o.op&&Region.noSelect l.toArray&&Region.free .any l.toArray listed i&&(Region.ready .any l.toArray listed).contains i)=true)
  (h:wpQuiet P l.toArray (fun w'=>∃e:bL w,w'=e.to) (fun a'=>xG P l.toArray Q fuel (listed.setIfInBounds i true) a' w) [o] a):xG P l.toArray Q (fuel+1) listed a w:=by
 simp only[qD]at hc;obtain⟨⟨⟨hv,hs⟩,hf⟩,hr⟩:=hc;have hio:l.toArray[i]? =some o:=by simpa using hi
 intro S hS e
 have key:∃v,YieldsIf P l.toArray (fun w'=>∃e:bL w,w'=e.to) o v a/\xG P l.toArray Q fuel (listed.setIfInBounds i true) (a.put o.dst v) w:=by
  unfold wpQuiet at h;split at h
  .rename_i hw;obtain⟨v,h1,h2⟩:=h;exact⟨v,.inl ⟨hw,fun w' hw'=>Gm hv (h1 w' hw')⟩,h2⟩
  .rename_i hw;exact⟨undef,.inr ⟨by simpa using hw,rfl⟩,h⟩
 obtain⟨v,hy,hg⟩:=key;refine AL (S:=fun w'=>∃e:bL w,w'=e.to) (fun w' ⟨e',he⟩=>he▸hS e') _ _ _ _ ?_;exact wpAnyH_take hio hs hf hr (fun _ _ _ h=>h) hy ⟨e,rfl⟩ (hg _ (fun e'=>⟨e',rfl⟩) e)
theorem jE{Q:Exit->Act->World->Prop}{l:List Oper}{fuel:Nat}{listed:Array Bool}{a:Act}{w:World}(i:Nat){o:Oper}(hi:l[i]? =some o)
  (hc:(Region.ready .any l.toArray listed==[i])=true)
  (h:∀e:bL w,wpList P l.toArray (vF fun _ a' w'=>Ext e.to w'/\xG P l.toArray Q fuel (listed.setIfInBounds i true) a' w') [o] a e.to):xG P l.toArray Q (fuel+1) listed a w:=by
 rw[beq_iff_eq]at hc;have hio:l.toArray[i]? =some o:=by simpa using hi
 intro S hS e;refine wpAnyH_all hc (by simp) (fun j hj=> ?_);obtain rfl:j=i:=by simpa using hj
 have h1:=h e
 have fin:∀a' w',(Ext e.to w'/\xG P l.toArray Q fuel (listed.setIfInBounds j true) a' w')->S w'/\wpAnyH P .any l.toArray (vF Q) S fuel (listed.setIfInBounds j true) a' w':=fun a' w' ⟨hx,hg⟩=>
  ⟨hS ⟨w',Ext.trans e.h hx⟩,hg S (fun e'=>hS ⟨e'.to,Ext.trans (Ext.trans e.h hx) e'.h⟩) ⟨w',Below.refl _ _⟩⟩
 unfold wpOp;simp only[hio];unfold wpList at h1;split
 .rename_i hw;simp only[hw,if_true]at h1;rcases h1 with h1|⟨_,⟨_,_,hb⟩⟩
  .exact .inl (Oper.Mr (fun x _ _ hn hx=>by cases x<;>first|exact hx.elim|exact absurd rfl hn) (Oper.wp_mono (fun a' w' hk=>fin a' w' hk) h1))
  .exact hb.elim
 .rename_i hw;simp only[hw]at h1;exact fin _ _ h1
theorem Bj{Q:Exit->Act->World->Prop}{l:List Oper}{fuel:Nat}{listed:Array Bool}{a:Act}{w:World}(hr:(Region.ready .any l.toArray listed==[])=true)
  (h:∀e:bL w,Q .normal a e.to):xG P l.toArray Q fuel listed a w:=fun _ _ e=>
 wpAnyH_done (by simpa using hr) (show vF Q .normal a e.to from h e) fuel
end
end Go.Tr
namespace Go.Tr
open Go Go.RowKit
section
variable {P:Program}{ops:Array Oper}{md:Region.Mode}
def Closed(md:Region.Mode)(ops:Array Oper)(L:Array Bool):Prop:=∀x o,ops[x]? =some o->L.getD x false=true->∀e∈o.after,Region.binds md e=true->L.getD e.on false=true
theorem Closed.set{L:Array Bool}{j:Nat}(h:Closed md ops L)(hj:j∈Region.ready md ops L):Closed md ops (L.setIfInBounds j true):=fun x o ho hx e he hb=>by
 have key:L.getD e.on false=true:=by
  by_cases hxj:x=j
  .subst hxj;obtain⟨_,o',ho',hall⟩:=mem_ready.1 hj;rw[ho]at ho';injection ho' with ho'
   subst ho';exact hall e he hb
  .refine h x o ho ?_ e he hb
   rwa[getD_set_ne false (fun e=>hxj e.symm)]at hx
 by_cases hej:e.on=j
 .rw[hej]at key |-;rcases Nat.lt_or_ge j L.size with h'|h'
  .simp[h']
  .simp[Array.getElem?_eq_none h']at key
 .rw[getD_set_ne false (fun e'=>hej e'.symm)];exact key
theorem Jo{listed:Array Bool}{i:Nat}(h:listed.getD i true=false):listed.getD i false=false:=by
 rcases Nat.lt_or_ge i listed.size with h'|h'
 .simpa[h']using h
 .simp[Array.getElem?_eq_none h']
theorem KS{L:Array Bool}{i t:Nat}(h:(L.setIfInBounds i true).getD t false=true)(ht:t≠i):L.getD t false=true:=by
 rwa[getD_set_ne false (fun e=>ht e.symm)]at h
structure Wk(N:Nat)(pv:List Nat)(w w':World):Prop where
 size:w.heap.size<=w'.heap.size
 block:∀b,b<N->b∉pv->w'.heap[b]? =w.heap[b]?
theorem Wk.refl(N:Nat)(pv:dF)(w:World):Wk N pv w w:=⟨Nat.le_refl _,fun _ _ _=>rfl⟩
structure ZaC(N:Nat)(w:World) where
 to:World
 h:Below N w to
structure WkOf(N:Nat)(pv:List Nat)(w:World) where
 to:World
 h:Wk N pv w to
instance (N:Nat)(w:World):Inhabited (ZaC N w):=⟨⟨w,Below.refl _ _⟩⟩
instance (N:Nat)(pv:List Nat)(w:World):Inhabited (WkOf N pv w):=⟨⟨w,Wk.refl _ _ _⟩⟩
end
end Go.Tr
namespace Go.Tr
open Go Go.RowKit
section
variable {P:Program}{w:World}
structure Src(w:World)(s:Nat)(A:Option Addr)(m:Nat)(us:List Value):Prop where
 len:us.length=m*s
 at_:0<m->∃ad,A=some ad/\∀j u,us[j]? =some u->w.cell? (ad.add j)=some u
 one:us.all (·.oneCell')=true
theorem T1.src{m m' c s:Nat}{ds:List D}{bs:dF}{A:Option Addr}(h:T1 w (.sl m ds) bs (.slice A m' c))(hl:ds.length=m*s):∃us bs',Src w s A m us/\TN w ds bs' us/\∀b∈bs',b∈bs:=by
 unfold T1 at h;obtain⟨A',c',he,hn,hc,h⟩:=h;injection he with hA hn' hc'
 subst hA;rcases h with⟨rfl,rfl,rfl⟩|⟨h0,b,off,us,bs',rfl,rfl,hb,hca,ht⟩
 .exact⟨[],[],⟨by simp,by omega,rfl⟩,TN.done,by simp⟩
 .refine⟨us,bs',⟨by rw[ht.length,hl],fun _=>⟨_,rfl,fun j u hu=> ?_⟩,ht.EF⟩,ht,fun b hb=>by simp[hb]⟩;have hadd:(⟨b,off,none⟩:Addr).add j=⟨b,off+j,none⟩:=by unfold Addr.add;split<;>simp_all
  rw[hadd];exact hca j u hu
theorem LP(base:Nat)(t ty e:TypeId)(i:TypeInfo)(s:Nat)(ht:P.underlying t=some (.slice e))(hi:P.info? e=some i)
  (v:Value) (n:Nat) (xs:List Value) (hown:w.ownsRow base e s v n xs) (c:Nat):(Builtin.append_ #[t,t] ty #[v,.slice none 0 c]).run P w=.ok v w:=by
 rcases hown.2 with⟨rfl,rfl⟩|⟨g,cap,cur,rfl,_,_,hnc,_⟩
 .simp[Builtin.append_,run_underlying ht,sizeOf,typeInfo,hi,Builtin.lenOf,Builtin.firstCells]
 .simp[Builtin.append_,run_underlying ht,sizeOf,typeInfo,hi,Builtin.lenOf,Builtin.firstCells,hnc,storeCells]
theorem grownBy_refl(w:World)(row:Option Nat):w.grownBy w row:=⟨rfl,rfl,rfl,Nat.le_refl _,fun _ _ _=>rfl⟩
theorem LQ{t ty e:TypeId}{s:Nat}(hE:uO P t e s)(base:Nat)(v:Value)(n:Nat)(xs:bW)(hown:w.ownsRow base e s v n xs)(A:Option Addr)(m c:Nat)(us:bW)(hs:Src w s A m us)
  (hb:n+m<=1073741824) (hbase:base<=w.heap.size):
  ∃v' w',(Builtin.append_ #[t,t] ty #[v,.slice A m c]).run P w=.ok v' w'/\w'.ownsRow base e s v' (n+m) (xs++us)/\w.grownBy w' v.ownBlock/\(v'.ownBlock=v.ownBlock\/v'.ownBlock=some w.heap.size)/\(v'=.slice none 0 0->us=[]):=by
 obtain⟨i,z,hi,hz,hsz,hzs,hby⟩:=hE.i;rcases Nat.eq_zero_or_pos m with h0|h0
 .subst h0;have hn:us=[]:=List.eq_nil_of_length_eq_zero (by simpa using hs.len);subst hn;rcases A with _|ad
  .exact⟨v,w,LP base t ty e i s hE.u hi v n xs hown c,by simpa using hown,grownBy_refl w _,.inl rfl,fun _=>rfl⟩
  .obtain⟨v',w',hrun,h2,h3,_,h5⟩:=run_append_own_at (P:=P) w base t ty e i z s i.bytes hE.u hi hz hsz rfl hzs hE.p v n xs hown ad 0 c [] (by simp) (by simp) (by simp) (by unfold maxLen;omega) (by
    have:=Nat.mul_le_mul hb hby;have h2:(1073741824:Nat)*1000<=140737488355328:=by omega
    exact Nat.le_trans this h2) hbase
   exact⟨v',w',hrun,h2,h3,h5,fun _=>rfl⟩
 .obtain⟨ad,rfl,hc⟩:=hs.at_ h0
  obtain⟨v',w',hrun,h2,h3,h4,h5⟩:=run_append_own_at (P:=P) w base t ty e i z s i.bytes hE.u hi hz hsz rfl hzs hE.p v n xs hown ad m c us hs.len hc (List.all_eq_true.1 hs.one) (by unfold maxLen;omega) (by
    have:=Nat.mul_le_mul hb hby;have h2:(1073741824:Nat)*1000<=140737488355328:=by omega
    exact Nat.le_trans this h2) hbase
  exact⟨v',w',hrun,h2,h3,h5,fun h=>by have:=(h4.1 h).2;omega⟩
structure GR(lo:Nat)(w:World)(t:TypeId)(s:Nat)(v:Value)(n:Nat)(ds:List D)(bs:List Nat)(us:List Value):Prop where
 row:w.ownsRow lo t s v n us
 tn:TN w ds bs us
 own:Own lo w bs
 out:∀k,v.ownBlock=some k->k∉bs
theorem GR.nil(lo:Nat)(w:World)(t:TypeId)(s:Nat):GR lo w t s (.slice none 0 0) 0 [] [] []:=⟨World.ownsRow_nil _ _ _ _,TN.done,Own.nil _ _,by simp⟩
theorem Rk{base:Nat}{e:TypeId}{s:Nat}{v:Value}{n:Nat}{xs:bW}{w:World}(h:w.ownsRow base e s v n xs):∃A c,v=.slice A n c:=by
 rcases h.2 with⟨rfl,rfl⟩|⟨g,cap,cur,rfl,_⟩
 .exact⟨_,_,rfl⟩
 .exact⟨_,_,rfl⟩
theorem vG{base:Nat}{e:TypeId}{s:Nat}{v:Value}{n:Nat}{xs:bW}(h:w.ownsRow base e s v n xs){w1:World}(h1:∀k,v.ownBlock=some k->w1.heap[k]? =w.heap[k]?):w1.ownsRow base e s v n xs:=by
 refine⟨h.1,?_⟩;rcases h.2 with hn|⟨g,cap,cur,rfl,hb,hgg,rest⟩
 .exact .inl hn
 .exact .inr ⟨g,cap,cur,rfl,hb,(h1 g rfl).trans hgg,rest⟩
theorem GR.app{lo t s v n ds bs us}(h:GR lo w t s v n ds bs us){m:Nat}{es:List D}{cs:dF}{vs:bW}(hes:TN w es cs vs)(hcs:Own lo w cs)(hd:∀y∈bs,y∉cs)(hr:∀k,v.ownBlock=some k->k∉cs)
  {v':Value} {w':World} (h1:w'.ownsRow lo t s v' (n+m) (us++vs)) (h2:w.grownBy w' v.ownBlock) (h3:v'.ownBlock=v.ownBlock\/v'.ownBlock=some w.heap.size):GR lo w' t s v' (n+m) (ds++es) (bs++cs) (us++vs):=by
 have kb:∀b,b<w.heap.size->(∀k,v.ownBlock=some k->k≠b)->w'.heap[b]? =w.heap[b]? :=fun b hb hn=>h2.block b hb (fun e=>hn b e.symm rfl)
 have k1:Keeps w w' bs:=⟨h2.size,fun b hb=>kb b (h.tn.lt b hb) (fun k hk e=>h.out k hk (e▸hb))⟩;have k2:Keeps w w' cs:=⟨h2.size,fun b hb=>kb b (hes.lt b hb) (fun k hk e=>hr k hk (e▸hb))⟩;have o1:Own lo w' bs:=⟨h.own.1,fun b hb=>⟨(h.own.2 b hb).1,by obtain⟨_,cur,t',hh⟩:=h.own.2 b hb;exact⟨cur,t',(k1.2 b hb).trans hh⟩⟩⟩;have o2:Own lo w' cs:=⟨hcs.1,fun b hb=>⟨(hcs.2 b hb).1,by obtain⟨_,cur,t',hh⟩:=hcs.2 b hb;exact⟨cur,t',(k2.2 b hb).trans hh⟩⟩⟩;refine⟨h1,TN.append.2 ⟨bs,cs,us,vs,rfl,rfl,h.tn.keep k1,hes.keep k2⟩,Own.join o1 o2 hd,fun k hk=> ?_⟩
 rw[List.mem_append];rcases h3 with e|e
 .rw[e]at hk;exact fun hm=>hm.elim (h.out k hk) (hr k hk)
 .rw[e]at hk;injection hk with hk
  subst hk
  exact fun hm=>by
   rcases hm with hm|hm
   .have:=h.tn.lt _ hm;omega
   .have:=hes.lt _ hm;omega
theorem GR.res{lo t s v n ds bs us}(h:GR lo w t s v n ds bs us)(hl:ds.length=n*s):∃A c bs',v=.slice A n c/\T1 w (.sl n ds) bs' (.slice A n c)/\Own lo w bs':=by
 rcases h.row.2 with⟨rfl,rfl⟩|⟨g,cap,cur,rfl,hb,hgg,hnc,hcm,hcs,htk⟩
 .have hd:ds=[]:=List.eq_nil_of_length_eq_zero (by simpa using hl);subst hd;exact⟨none,0,[],rfl,T1.empty none,Own.nil _ _⟩
 .rcases Nat.eq_zero_or_pos n with rfl|hn
  .have hd:ds=[]:=List.eq_nil_of_length_eq_zero (by simpa using hl);subst hd;refine⟨some ⟨g,0,none⟩,cap,[],rfl,?_,Own.nil _ _⟩;unfold T1;exact⟨_,_,rfl,hnc,hcm,.inl ⟨rfl,rfl,rfl⟩⟩
  .have hgb:g∉bs:=h.out g rfl;refine⟨some ⟨g,0,none⟩,cap,g::bs,rfl,?_,⟨List.nodup_cons.2 ⟨hgb,h.own.1⟩,fun b hb'=> ?_⟩⟩
   .unfold T1;refine⟨_,_,rfl,hnc,hcm,.inr ⟨hn,g,0,us,bs,rfl,rfl,kR hgg,fun j u hu=> ?_,h.tn⟩⟩;rw[Nat.zero_add,cell_of_row w g j cur t (0,0) hgg];rw[<-htk,List.getElem?_take]at hu;split at hu
    .simpa using hu
    .cases hu
   .rcases List.mem_cons.1 hb' with rfl|hb'
    .exact⟨hb,cur,t,hgg⟩
    .exact h.own.2 b hb'
theorem GR.lt{lo t s v n ds bs us}(h:GR lo w t s v n ds bs us):∀k,v.ownBlock=some k->lo<=k/\k<w.heap.size:=fun k hk=>h.row.lt k hk
def yG(v:Value):List Nat:=match v.ownBlock with|some k=>[k]|none=>[]
theorem kC{v:Value}{k:Nat}:k∈yG v↔v.ownBlock=some k:=by
 unfold yG;cases v.ownBlock<;>simp[eq_comm]
structure yP(cs:List Nat)(w w':World):Prop where
 os:w'.os=w.os
 tape:w'.tape=w.tape
 output:w'.output=w.output
 size:w.heap.size<=w'.heap.size
 other:∀b,b<w.heap.size->b∉cs->w'.heap[b]? =w.heap[b]?
theorem oK.wF{cs:dF}{w w':World}(h:oK cs w w'):yP cs w w':=⟨h.os,h.tape,h.output,h.size,h.other⟩
theorem yP.refl(cs:dF)(w:World):yP cs w w:=⟨rfl,rfl,rfl,Nat.le_refl _,fun _ _ _=>rfl⟩
theorem yP.BH{cs:dF}{w w':World}(h:Ext w w'):yP cs w w':=⟨h.os,h.tape,h.output,h.size,fun b hl _=>h.block b hl⟩
theorem yP.trans{cs:dF}{a b c:World}(h:yP cs a b)(k:yP cs b c):yP cs a c:=
 ⟨k.os.trans h.os,k.tape.trans h.tape,k.output.trans h.output,Nat.le_trans h.size k.size,fun i hs hi=>(k.other i (qW hs h.size) hi).trans (h.other i hs hi)⟩
theorem yP.below{B:Nat}{cs:dF}{w w':World}(h:yP cs w w')(hB:B<=w.heap.size)(hb:∀b∈cs,B<=b):Below B w w':=
 ⟨h.os,h.tape,h.output,h.size,fun k hk=>h.other k (by omega) (fun hc=>by have:=hb k hc;omega)⟩
theorem T1.wF{bs:dF}{w w':World}{d cs u}(h:T1 w d cs u)(ho:yP bs w w')(hd:∀b∈cs,b∉bs):T1 w' d cs u:=h.keep ⟨ho.size,fun b hb=>ho.other b (h.lt b hb) (hd b hb)⟩
theorem TN.wF{bs:dF}{w w':World}{d cs u}(h:TN w d cs u)(ho:yP bs w w')(hd:∀b∈cs,b∉bs):TN w' d cs u:=h.keep ⟨ho.size,fun b hb=>ho.other b (h.lt b hb) (hd b hb)⟩
theorem T1.none_{n n' c:Nat}{ds:List D}{bs:dF}(h:T1 w (.sl n ds) bs (.slice none n' c)):n=0/\ds=[]:=by
 unfold T1 at h;obtain⟨A',c',he,hn,hc,h⟩:=h;injection he with hA
 subst hA;rcases h with⟨h1,h2,_⟩|⟨_,b,off,us,bs',h1,_⟩
 .exact⟨h1,h2⟩
 .cases h1
theorem TN.flat{ds:List D}{bs:dF}{us:bW}(h:TN w ds bs us)(hf:∀d∈ds,∃x,d=.v x):bs=[]/\∀w',TN w' ds [] us:=by
 induction ds generalizing bs us with
 |nil=>obtain⟨rfl,rfl⟩:=TN.nil.1 h;exact⟨rfl,fun _=>TN.done⟩
 |cons d ds ih=>
  obtain⟨b1,b2,u,us',rfl,rfl,h1,h2⟩:=TN.cons.1 h;obtain⟨x,rfl⟩:=hf d (by simp);obtain⟨rfl,rfl,h3⟩:=T1.v.1 h1;obtain⟨rfl,h4⟩:=ih h2 (fun d hd=>hf d (by simp[hd]));exact⟨rfl,fun w'=>TN.vR h3 (h4 w')⟩
end
end Go.Tr
namespace Go.Tr
open Go Go.RowKit
section
variable {n:Nat}{a:Act}{l l':List (Nat×Value)}{t:Nat}{v:Value}
end
structure eH where
 p:World->List Nat->Prop
 keep:∀{w w':World} {F:List Nat},p w F->Keeps w w' F->p w' F
 lt:∀{w:World} {F:List Nat},p w F->∀b∈F,b<w.heap.size
def Sep(w:World):List eH->List Nat->Prop
 |[],G=>G=[]
 |r::rs,G=>∃F G',G=F++G'/\r.p w F/\Sep w rs G'/\∀b∈F,b∉G'
theorem Sep.lt{w:World}:∀{rs:List eH} {G:dF},Sep w rs G->∀b∈G,b<w.heap.size
 |[],G,h=>by cases h;simp
 |r::rs,G,⟨F,G',e,h1,h2,_⟩=>by
  subst e;intro b hb;rcases List.mem_append.1 hb with hb|hb
  .exact r.lt h1 b hb
  .exact h2.lt b hb
theorem Sep.keep{w w':World}:∀{rs:List eH} {G:dF},Sep w rs G->Keeps w w' G->Sep w' rs G
 |[],G,h,_=>h
 |r::rs,G,⟨F,G',e,h1,h2,h3⟩,k=>by
  subst e;exact⟨F,G',rfl,r.keep h1 (k.sub fun b hb=>by simp[hb]),h2.keep (k.sub fun b hb=>by simp[hb]),h3⟩
theorem Sep.append{w:World}:∀{rs ss:List eH} {G:dF},Sep w (rs++ss) G↔∃F G',G=F++G'/\Sep w rs F/\Sep w ss G'/\∀b∈F,b∉G'
 |[],ss,G=>⟨fun h=>⟨[],G,rfl,rfl,h,by simp⟩,fun⟨F,G',e,h1,h2,_⟩=>by cases h1;subst e;exact h2⟩
 |r::rs,ss,G=>by
  constructor
  .rintro⟨F,G',rfl,h1,h2,h3⟩;obtain⟨F2,G2,rfl,h4,h5,h6⟩:=Sep.append.1 h2;refine⟨F++F2,G2,by simp,⟨F,F2,rfl,h1,h4,fun b hb hm=>h3 b hb (by simp[hm])⟩,h5,fun b hb=> ?_⟩;rcases List.mem_append.1 hb with hb|hb
   .exact fun hm=>h3 b hb (by simp[hm])
   .exact h6 b hb
  .rintro⟨F,G',rfl,⟨F1,F2,rfl,h1,h2,h3⟩,h4,h5⟩;refine⟨F1,F2++G',by simp,h1,Sep.append.2 ⟨F2,G',rfl,h2,h4,fun b hb=>h5 b (by simp[hb])⟩,fun b hb hm=> ?_⟩;rcases List.mem_append.1 hm with hm|hm
   .exact h3 b hb hm
   .exact h5 b (by simp[hb]) hm
theorem Sep.perm{w:World}{rs ss:List eH}(hp:rs.Perm ss):∀{G:dF},Sep w rs G->∃G',Sep w ss G'/\∀b,b∈G'↔b∈G:=by
 induction hp with
 |nil=>exact fun h=>⟨_,h,fun _=>Iff.rfl⟩
 |cons r _ ih=>
  rintro G ⟨F,G',rfl,h1,h2,h3⟩;obtain⟨G2,h4,h5⟩:=ih h2;exact⟨F++G2,⟨F,G2,rfl,h1,h4,fun b hb hm=>h3 b hb ((h5 b).1 hm)⟩,fun b=>by simp[h5]⟩
 |swap r s l=>
  rintro G ⟨F,G',rfl,h1,⟨F2,G2,rfl,h2,h3,h4⟩,h5⟩;refine⟨F2++(F++G2),⟨F2,F++G2,rfl,h2,⟨F,G2,rfl,h1,h3,fun b hb hm=>h5 b hb (by simp[hm])⟩,fun b hb hm=> ?_⟩,fun b=>by simp;constructor<;>(rintro(h|h|h)<;>simp[h])⟩;rcases List.mem_append.1 hm with hm|hm
  .exact h5 b hm (by simp[hb])
  .exact h4 b hb hm
 |trans _ _ ih1 ih2=>
  intro G h;obtain⟨G1,h1,e1⟩:=ih1 h;obtain⟨G2,h2,e2⟩:=ih2 h1;exact⟨G2,h2,fun b=>(e2 b).trans (e1 b)⟩
theorem DW{α:Type}:∀(l:List α) (i:Nat) (r:α),l[i]? =some r->l.Perm (r::l.eraseIdx i)
 |[],i,r,h=>by simp at h
 |x::l,0,r,h=>by simp at h;subst h;exact List.Perm.refl _
 |x::l,i+1,r,h=>by
  have:=DW l i r (by simpa using h);exact(this.cons x).trans (List.Perm.swap r x _)
theorem set_perm{α:Type}:∀(l:List α) (i:Nat) (r s:α),l[i]? =some r->(s::l.eraseIdx i).Perm (l.set i s)
 |[],i,r,s,h=>by simp at h
 |x::l,0,r,s,h=>by simp
 |x::l,i+1,r,s,h=>by
  have:=set_perm l i r s (by simpa using h);exact(List.Perm.swap x s _).trans (this.cons x)
structure Inv(w0:World)(F0:List Nat)(w:World)(rs:List eH):Prop where
 wF:yP F0 w0 w
 sep:∃G,Sep w rs G/\∀b∈G,b∈F0\/w0.heap.size<=b
section
variable {w0 w w':World}{F0:dF}{rs ss:List eH}{r:eH}
theorem Inv.start{F:dF}(h:Sep w rs F):Inv w F w rs:=⟨yP.refl _ _,F,h,fun _ hb=>.inl hb⟩
theorem Inv.FH(w:World):Inv w [] w []:=Inv.start (rs:=[]) rfl
theorem Inv.perm(h:Inv w0 F0 w rs)(hp:rs.Perm ss):Inv w0 F0 w ss:=by
 obtain⟨G,h1,h2⟩:=h.sep;obtain⟨G',h3,h4⟩:=h1.perm hp;exact⟨h.wF,G',h3,fun b hb=>h2 b ((h4 b).1 hb)⟩
theorem Inv.front(h:Inv w0 F0 w rs)(i:Nat)(hr:rs[i]? =some r):Inv w0 F0 w (r::rs.eraseIdx i):=by
 exact h.perm (DW rs i r hr)
theorem Inv.back{s:eH}(i:Nat)(hr:rs[i]? =some r)(h:Inv w0 F0 w (s::rs.eraseIdx i)):Inv w0 F0 w (rs.set i s):=h.perm (set_perm rs i r s hr)
theorem Inv.tail(h:Inv w0 F0 w (r::rs)):Inv w0 F0 w rs:=by
 obtain⟨G,⟨F,G',rfl,_,h2,_⟩,h3⟩:=h.sep;exact⟨h.wF,G',h2,fun b hb=>h3 b (by simp[hb])⟩
theorem Inv.drop(h:Inv w0 F0 w rs)(i:Nat)(hi:Nat.blt i rs.length=true):Inv w0 F0 w (rs.eraseIdx i):=by
 have hi':i<rs.length:=by simpa using hi
 exact(h.front i (qB hi')).tail
theorem Inv.mem(h:Inv w0 F0 w rs)(i:Nat)(hr:rs[i]? =some r):∃F,r.p w F:=by
 obtain⟨G,⟨F,G',rfl,h1,h2,_⟩,h3⟩:=(h.front i hr).sep;exact⟨F,h1⟩
theorem Inv.frame{pre rest:List eH}(h:Inv w0 F0 w (pre++rest)):∃F,Sep w pre F/\(∀b∈F,b∈F0\/w0.heap.size<=b)/\∀w' post,Inv w F w' post->Inv w0 F0 w' (post++rest):=by
 obtain⟨G,h1,h2⟩:=h.sep;obtain⟨F,G2,rfl,h3,h4,h5⟩:=Sep.append.1 h1;refine⟨F,h3,fun b hb=>h2 b (by simp[hb]),fun w' post hi=> ?_⟩;obtain⟨G',h6,h7⟩:=hi.sep;have hsz:=h.wF.size;refine⟨⟨hi.wF.os.trans h.wF.os,hi.wF.tape.trans h.wF.tape,hi.wF.output.trans h.wF.output,Nat.le_trans hsz hi.wF.size,fun b hb hn=>(hi.wF.other b (by omega) (fun hm=>by rcases h2 b (by simp[hm])with h8|h8;exact hn h8;omega)).trans (h.wF.other b hb hn)⟩,G'++G2,Sep.append.2 ⟨G',G2,rfl,h6,h4.keep ⟨hi.wF.size,fun b hb=>hi.wF.other b (h4.lt b hb) (fun hm=>h5 b hm hb)⟩,fun b hb hm=> ?_⟩,fun b hb=> ?_⟩
 .rcases h7 b hb with h8|h8
  .exact h5 b h8 hm
  .have:=h4.lt b hm;omega
 .rcases List.mem_append.1 hb with hb|hb
  .rcases h7 b hb with h8|h8
   .exact h2 b (by simp[h8])
   .exact .inr (by omega)
  .exact h2 b (by simp[hb])
theorem Inv.ext(h:Inv w0 F0 w rs)(h1:Ext w w'):Inv w0 F0 w' rs:=by
 obtain⟨F,h2,_,h4⟩:=Inv.frame (pre:=[]) (rest:=rs) h;cases h2;simpa using h4 w' [] ⟨yP.BH h1,[],rfl,by simp⟩
theorem Inv.Oi(h:Inv w0 [] w rs):Ext w0 w:=yP.below h.wF (Nat.le_refl _) (by simp)
theorem Inv.new(h:Inv w0 F0 w rs)(hi:Inv w [] w' ss):Inv w0 F0 w' (ss++rs):=by
 obtain⟨F,h2,_,h4⟩:=Inv.frame (pre:=[]) (rest:=rs) h;cases h2;exact h4 w' ss hi
end
def Oq(b:Nat)(cs:List Value)(t:TypeId):eH where
 p w F:=F=[b]/\w.heap[b]? =some (.cells cs.toArray t (0,0))
 keep:=fun⟨e,h⟩ k=>⟨e,by subst e;exact(k.2 b (by simp)).trans h⟩
 lt:=fun⟨e,h⟩ b' hb=>by subst e;simp at hb;subst hb;exact kR h
def Dat(v:Value)(n:Nat)(ds:List D):eH where
 p w F:=T1 w (.sl n ds) F v/\Own 0 w F
 keep:=fun⟨h,o⟩ k=>⟨h.keep k,o.1,fun b hb=>by obtain⟨h0,cur,t,h1⟩:=o.2 b hb;exact⟨h0,cur,t,(k.2 b hb).trans h1⟩⟩
 lt:=fun⟨h,_⟩=>h.lt
def dU(us:List Value)(ds:List D):eH where
 p w F:=TN w ds F us/\Own 0 w F
 keep:=fun⟨h,o⟩ k=>⟨h.keep k,o.1,fun b hb=>by obtain⟨h0,cur,t,h1⟩:=o.2 b hb;exact⟨h0,cur,t,(k.2 b hb).trans h1⟩⟩
 lt:=fun⟨h,_⟩=>h.lt
def Gr(v:Value)(t:TypeId)(s n:Nat)(ds:List D):eH where
 p w F:=∃bs us,F=yG v++bs/\GR 0 w t s v n ds bs us
 keep:=fun⟨bs,us,e,h⟩ k=>⟨bs,us,e,by
  subst e;have kb:Keeps _ _ bs:=k.sub fun b hb=>by simp[hb]
  exact⟨vG h.row fun g hg=>k.2 g (by simp[kC,hg]),h.tn.keep kb,⟨h.own.1,fun b hb=>by obtain⟨h0,cur,t,h1⟩:=h.own.2 b hb;exact⟨h0,cur,t,(kb.2 b hb).trans h1⟩⟩,h.out⟩⟩
 lt:=fun⟨bs,us,e,h⟩ b hb=>by
  subst e;rcases List.mem_append.1 hb with hb|hb
  .exact(h.lt b (kC.1 hb)).2
  .exact h.tn.lt b hb
section
variable {w0 w w':World}{F0:dF}{rs ss:List eH}
theorem Inv.dL(h:Inv w0 F0 w rs)(i:Nat){b:Nat}{cs:bW}{t:TypeId}(hr:rs[i]? =some (Oq b cs t)):w.heap[b]? =some (.cells cs.toArray t (0,0)):=by
 obtain⟨F,_,h1⟩:=h.mem i hr;exact h1
theorem Inv.alloc(h:Inv w0 F0 w rs)(cs:bW)(t:TypeId):Inv w0 F0 (w.alloc (.cells cs.toArray t)) (Oq w.heap.size cs t::rs):=
 Inv.new (ss:=[Oq w.heap.size cs t]) h ⟨yP.BH ((Below.refl _ _).alloc (Nat.le_refl _) _),[w.heap.size],⟨[w.heap.size],[],rfl,⟨rfl,heap_alloc_new w _⟩,rfl,by simp⟩,fun b hb=>.inr (by simp at hb;omega)⟩
theorem Inv.set{b:Nat}{cs ds:bW}{t:TypeId}(h:Inv w0 F0 w (Oq b cs t::rs))(hrow:∃cs':bW,w'.heap[b]? =some (.cells cs'.toArray t (0,0))/\cs'=ds)(hc:yP [b] w w'):Inv w0 F0 w' (Oq b ds t::rs):=by
 obtain⟨F,h2,_,h4⟩:=Inv.frame (pre:=[Oq b cs t]) (rest:=rs) h;obtain⟨F1,G1,rfl,⟨rfl,_⟩,rfl,_⟩:=h2;obtain⟨cs',h5,rfl⟩:=hrow;exact h4 w' [Oq b cs' t] ⟨hc,[b],⟨[b],[],rfl,⟨rfl,h5⟩,rfl,by simp⟩,fun b hb=>.inl (by simpa using hb)⟩
end
def vS(w0:World)(F0:List Nat)(d:D)(v:Value):Prop:=∃bs,T1 w0 d bs v/\∀b∈bs,b∉F0
def rY(w0:World)(F0:List Nat)(ds:List D)(us:List Value):Prop:=∃bs,TN w0 ds bs us/\∀b∈bs,b∉F0
def R4(w0:World)(F0:List Nat)(b o:Nat)(ds:List D):Prop:=b<w0.heap.size/\b∉F0/\∃us,dV w0 b o us/\rY w0 F0 ds us
section
variable {w0 w w':World}{F0 F:dF}{rs ss:List eH}{b o n:Nat}{v x:Value}{d:D}{ds es:List D}{us:bW}{bs:dF}
theorem vS.of(h:T1 w0 d bs v):vS w0 [] d v:=⟨bs,h,by simp⟩
theorem rY.of(h:TN w0 ds bs us):rY w0 [] ds us:=⟨bs,h,by simp⟩
theorem vS.at_(h:vS w0 F0 d v)(hi:Inv w0 F0 w rs)(hF:∀b∈F,b∈F0\/w0.heap.size<=b):vS w F d v:=by
 obtain⟨bs,h1,h2⟩:=h;exact⟨bs,h1.wF hi.wF h2,fun b hb hm=>by rcases hF b hm with h3|h3;exact h2 b hb h3;have:=h1.lt b hb;omega⟩
theorem rY.at_(h:rY w0 F0 ds us)(hi:Inv w0 F0 w rs)(hF:∀b∈F,b∈F0\/w0.heap.size<=b):rY w F ds us:=by
 obtain⟨bs,h1,h2⟩:=h;exact⟨bs,h1.wF hi.wF h2,fun b hb hm=>by rcases hF b hm with h3|h3;exact h2 b hb h3;have:=h1.lt b hb;omega⟩
theorem R4.at_(h:R4 w0 F0 b o ds)(hi:Inv w0 F0 w rs)(hF:∀b∈F,b∈F0\/w0.heap.size<=b):R4 w F b o ds:=by
 obtain⟨h1,h2,us,h3,h4⟩:=h;exact⟨qW h1 hi.wF.size,fun hm=>by rcases hF b hm with h5|h5;exact h2 h5;omega,us,h3.keep (hi.wF.other b h1 h2),h4.at_ hi hF⟩
theorem vS.now(h:vS w0 F0 d v)(hi:Inv w0 F0 w rs):∃bs,T1 w d bs v:=by
 obtain⟨bs,h1,_⟩:=h.at_ hi (F:=[]) (by simp);exact⟨bs,h1⟩
theorem R4.append{d1 d2:List D}(h:R4 w0 F0 b o (d1++d2)):R4 w0 F0 b o d1/\R4 w0 F0 b (o+d1.length) d2:=by
 obtain⟨h1,h2,us,h3,bs,h4,h5⟩:=h;obtain⟨b1,b2,u1,u2,rfl,rfl,h6,h7⟩:=TN.append.1 h4;refine⟨⟨h1,h2,u1,fun j u hu=>h3 j u (by rw[qM (qE.1 hu).1];exact hu),b1,h6,fun y hy=>h5 y (by simp[hy])⟩,h1,h2,u2,fun j u hu=> ?_,b2,h7,fun y hy=>h5 y (by simp[hy])⟩;have:=h3 (u1.length+j) u (by rw[qL (by omega),Nat.add_sub_cancel_left];exact hu)
 rwa[<-Nat.add_assoc,h6.length]at this
theorem rY.sl(h:rY w0 F0 (.sl n es::ds) us):∃A c us',us=.slice A n c::us'/\vS w0 F0 (.sl n es) (.slice A n c)/\n<=9223372036854775807/\rY w0 F0 ds us':=by
 obtain⟨bs,h4,h5⟩:=h;obtain⟨A,c,b1,b2,us',rfl,rfl,h6,h7,h8,h9⟩:=TN.Dl h4;exact⟨A,c,us',rfl,⟨b1,h6,fun y hy=>h5 y (by simp[hy])⟩,h6.JE,b2,h9,fun y hy=>h5 y (by simp[hy])⟩
theorem rY.end_(h:rY w0 F0 [] us):us=[]:=by
 obtain⟨bs,h4,_⟩:=h;exact h4.end_.1
theorem vS.elem{α:Type}{f:α->List D}{s:Nat}(hs:∀x,(f x).length=s){xs:List α}{A:Option Addr}{n n' c:Nat}(h:vS w0 F0 (.sl n (xs.flatMap f)) (.slice A n' c))(hm:xs.length=n){k:Nat}(hk:k<n):
  ∃b off x,A=some ⟨b,off,none⟩/\xs[k]? =some x/\R4 w0 F0 b (off+k*s) (f x):=by
 obtain⟨bs,h1,h2⟩:=h;obtain⟨_,b,off,p1,p2,p3,us,hA,rfl,hb,hc,ht⟩:=T1.at_ hs h1 hm hk;exact⟨b,off,_,hA,qB (hm▸hk),hb,h2 b (by simp),us,hc,p2,ht,fun y hy=>h2 y (by simp[hy])⟩
end
end Go.Tr
namespace Go.Tr
open Go Go.RowKit
section
variable {P:Program}{ops:Array Oper}{Q:Exit->Act->World->Prop}{a:Act}{w w':World}{rest:List Oper}{n:Nat}{l:List (Nat×Value)}{v:Value}{d:Nat}{dst:Option Nat}{op:Op}{ty:TypeId}{pos:String}{aft:Array Edge}{g:Option (Nat×Bool)}
def yB(P:Program)(t:TypeId):Option Bool:=(P.underlying t).map fun| .struct _| .array _ _=>true|_=>false
def Jg(P:Program)(s i:Nat):Option Nat:=match P.underlying s with
 |some (.struct fs)=>(fs[i]?).bind fun f=>(P.info? f.type).bind fun t=>if t.size=0 then none else some f.offset
 |_=>none
def fO(P:Program)(t:TypeId):Option (TypeId×Nat):=match P.underlying t with
 |some (.slice e)=>(P.info? e).map fun i=>(e,i.size)
 |_=>none
def zeroOf(P:Program)(t:TypeId):Option (List Value):=(P.info? t).bind fun i=>i.zero.map fun z=>z.cells.toList
def bH(P:Program)(f:FuncId):Bool:=match P.funcs[f]? with
 | some fn => !(fn.name == "runtime.NumGoroutine") && fn.body.isSome
 |none=>false
theorem wB{t:TypeId}{b:Bool}(h:yB P t=some b)(w:World):(isAgg t).run P w=.ok b w:=by
 unfold yB at h;cases hu:P.underlying t with
 |none=>rw[hu]at h;simp at h
 |some d=>
  rw[hu]at h;unfold isAgg;rw[Sem.run_bind,run_underlying hu w];cases d<;>simp_all
theorem ZY{x:Operand}(hx:a.eval x=v):(execOp a.eval ⟨dst,.move x,ty,pos,aft,g⟩).run P w=.ok (.value v) w:=by simp[execOp,hx]
theorem Vj{x:Operand}(hx:a.eval x=v):(execOp a.eval ⟨dst,.assign x,ty,pos,aft,g⟩).run P w=.ok (.value v) w:=by simp[execOp,hx]
theorem P6{x:Operand}{p:Addr}(hx:a.eval x=.pointer (some p)):(execOp a.eval ⟨dst,.nilCheck x,ty,pos,aft,g⟩).run P w=.ok (.value (.pointer (some p))) w:=by simp[execOp,hx]
theorem XP{x:Operand}{s i b o k o':Nat}(hx:a.eval x=.pointer (some ⟨b,o,none⟩))(hf:Jg P s i=some k)(ho:o+k=o'):
  (execOp a.eval ⟨dst,.fieldAddr s x i,ty,pos,aft,g⟩).run P w=.ok (.value (.pointer (some ⟨b,o',none⟩))) w:=by
 subst ho;unfold Jg at hf;split at hf
 .rename_i fs hu;cases hfi:fs[i]? with
  |none=>rw[hfi]at hf;simp at hf
  |some f=>
   rw[hfi]at hf;simp only[Option.bind_some]at hf;cases hi:P.info? f.type with
   |none=>rw[hi]at hf;simp at hf
   |some t=>
    rw[hi]at hf;simp only[Option.bind_some]at hf;split at hf
    .cases hf
    .rename_i hz;simp at hf;simp[execOp,Instr.fieldAt,run_underlying hu,hx,hfi,Instr.sureAddr,fieldPlace,sizeOf,typeInfo,hi,hz,Addr.add_mid,hf]
 .cases hf
theorem E8{x:Operand}{t b o:Nat}(hx:a.eval x=.pointer (some ⟨b,o,none⟩))(ht:yB P t=some false)(hc:w.cell? ⟨b,o,none⟩=some v):(execOp a.eval ⟨dst,.load t x,ty,pos,aft,g⟩).run P w=.ok (.value v) w:=by
 simp[execOp,hx,Instr.loadAt,Instr.sureAddr,loadVar,wB ht,load,Sem.run,hc]
theorem Am{x:Operand}{t b o:Nat}{us:bW}(hx:a.eval x=.pointer (some ⟨b,o,none⟩))(ht:yB P t=some true)(hs:(P.info? t).map (·.size)=some us.length)(hc:dV w b o us):
  (execOp a.eval ⟨dst,.load t x,ty,pos,aft,g⟩).run P w=.ok (.value (.agg us.toArray)) w:=by
 have hl:(loadCells ⟨b,o,none⟩ us.length).run P w=.ok us.toArray w:=run_loadCells_list (P:=P) w ⟨b,o,none⟩ us (fun j v hv=>by rw[Addr.add_mid];exact hc j v hv);cases hq:P.info? t with
 |none=>simp[hq]at hs
 |some i=>
  have hs':i.size=us.length:=by simpa[hq]using hs
  simp[execOp,hx,Instr.loadAt,Instr.sureAddr,loadVar,wB ht,sizeOf,typeInfo,hq,hs',hl]
theorem P7{x y:Operand}{t b o:Nat}{cs:Array Value}{T:TypeId}(hx:a.eval x=.pointer (some ⟨b,o,none⟩))(hy:a.eval y=v)(hv:v.cells= #[v])(h1:v.oneCell'=true)(hs:(P.info? t).map (·.size)=some 1)(hr:w.heap[b]? =some (.cells cs T (0,0)))(ho:o<cs.size):
  (execOp a.eval ⟨dst,.store t x y,ty,pos,aft,g⟩).run P w=.ok .skip (w.setCells b o [v]):=by
 have:=run_storeCells_cells (P:=P) b o [v] 0 w (fun j hj=>by
  have hj0:j=0:=by simpa using hj
  subst hj0;rw[cell_of_row w b _ cs T (0,0) hr];simp[ho]) (fun j hj=>gT hr _) (fun u hu=>by simp at hu;subst hu;exact h1)
 cases hq:P.info? t with
 |none=>simp[hq]at hs
 |some i=>
  have hs':i.size=1:=by simpa[hq]using hs
  simp only[Nat.add_zero]at this;simp[execOp,hx,hy,Instr.storeAt,Instr.sureAddr,storeVar,hv,sizeOf,typeInfo,hq,hs',this]
theorem LG{x y:Operand}{t b o:Nat}{us:bW}{cs:Array Value}{T:TypeId}(hx:a.eval x=.pointer (some ⟨b,o,none⟩))(hy:a.eval y=.agg us.toArray)(h1:us.all (·.oneCell')=true)(hs:(P.info? t).map (·.size)=some us.length)(hr:w.heap[b]? =some (.cells cs T (0,0)))(ho:o+us.length<=cs.size):
  (execOp a.eval ⟨dst,.store t x y,ty,pos,aft,g⟩).run P w=.ok .skip (w.setCells b o us):=by
 have:=run_storeVar_mid (P:=P) w b o t us.toArray (fun j hj=>⟨by
  rw[cell_of_row w b _ cs T (0,0) hr];simp at hj;simp;omega,gT hr _⟩) (by simpa using hs) (by simpa using h1)
 simp[execOp,hx,hy,Instr.storeAt,Instr.sureAddr,this]
theorem vM{b o:Nat}{cs us:bW}{T:TypeId}(hr:w.heap[b]? =some (.cells cs.toArray T (0,0)))(ho:o+us.length<=cs.length):
  (w.setCells b o us).heap[b]? =some (.cells (cs.take o++us++cs.drop (o+us.length)).toArray T (0,0))/\yP [b] w (w.setCells b o us):=by
 induction us generalizing w o cs with
 |nil=>exact⟨by simpa[World.setCells]using hr,yP.refl _ _⟩
 |cons u us ih=>
  have h1:(w.setCell ⟨b,o,none⟩ u).heap[b]? =some (.cells (cs.set o u).toArray T (0,0)):=by
   have:=Rows.sU (i:=o) (v:=u) hr;simpa using this
  obtain⟨h2,h3⟩:=ih (o:=o+1) h1 (by simp at ho |-;omega);rw[World.setCells];refine⟨?_,((oK.refl [b] w).setCell (by simp) o u).wF.trans h3⟩;rw[h2];simp at ho
  congr 2
  apply congrArg;apply List.ext_getElem?;intro j;simp only[List.getElem?_append,List.getElem?_take,qA,List.length_take,List.length_set,qI,List.getElem?_set,List.getElem?_drop]
  grind
theorem Zbz{x y:Operand}{o:BinOp}{t u:TypeId}{k:IntKind}{i j:Int}(hx:a.eval x=.int k i)(hy:a.eval y=.int k j)(hr:(binOp o t (.int k i) (.int k j)).run P w=.ok v w):
  (execOp a.eval ⟨dst,.binOp o t x y u,ty,pos,aft,g⟩).run P w=.ok (.value v) w:=by
 have he:(eqGuard o t x y (.int k i) (.int k j)).run P w=.ok () w:=by
  unfold eqGuard;split<;>rfl
 simp[execOp,hx,hy,he,hr]
theorem ZaJ{t:TypeId}{i j z:Int}(h:IntKind.i64.wrap (i+j)=z):(binOp .add t (.int .i64 i) (.int .i64 j)).run P w=.ok (.int .i64 z) w:=by subst h;rfl
theorem ZaT{t:TypeId}{i j z:Int}(h:IntKind.i64.wrap (i-j)=z):(binOp .sub t (.int .i64 i) (.int .i64 j)).run P w=.ok (.int .i64 z) w:=by subst h;rfl
theorem ZaP{t:TypeId}{i j z:Int}(h:IntKind.i64.wrap (i*j)=z):(binOp .mul t (.int .i64 i) (.int .i64 j)).run P w=.ok (.int .i64 z) w:=by subst h;rfl
theorem ZaR{t:TypeId}{i j z:Int}(hj:j≠0)(h:IntKind.i64.wrap (i.tdiv j)=z):(binOp .quo t (.int .i64 i) (.int .i64 j)).run P w=.ok (.int .i64 z) w:=by
 subst h;simp[binOp,Op.intDiv,hj]
theorem ZaS{t:TypeId}{i j z:Int}(hj:j≠0)(h:i.tmod j=z):(binOp .rem t (.int .i64 i) (.int .i64 j)).run P w=.ok (.int .i64 z) w:=by
 subst h;simp[binOp,Op.intDiv,hj]
theorem ZaK{t:TypeId}{k:IntKind}{i j:Int}{b:Bool}(h:(i==j)=b):(binOp .eql t (.int k i) (.int k j)).run P w=.ok (.bool b) w:=by subst h;simp[binOp,Op.intCmp]
theorem ZaQ{t:TypeId}{k:IntKind}{i j:Int}{b:Bool}(h:(i !=j)=b):(binOp .neq t (.int k i) (.int k j)).run P w=.ok (.bool b) w:=by subst h;simp[binOp,Op.intCmp]
theorem ZaO{t:TypeId}{k:IntKind}{i j:Int}{b:Bool}(h:decide (i<j)=b):(binOp .lss t (.int k i) (.int k j)).run P w=.ok (.bool b) w:=by subst h;simp[binOp,Op.intCmp]
theorem ZaN{t:TypeId}{k:IntKind}{i j:Int}{b:Bool}(h:decide (i<=j)=b):(binOp .leq t (.int k i) (.int k j)).run P w=.ok (.bool b) w:=by subst h;simp[binOp,Op.intCmp]
theorem ZaM{t:TypeId}{k:IntKind}{i j:Int}{b:Bool}(h:decide (j<i)=b):(binOp .gtr t (.int k i) (.int k j)).run P w=.ok (.bool b) w:=by subst h;simp[binOp,Op.intCmp]
theorem ZaL{t:TypeId}{k:IntKind}{i j:Int}{b:Bool}(h:decide (j<=i)=b):(binOp .geq t (.int k i) (.int k j)).run P w=.ok (.bool b) w:=by subst h;simp[binOp,Op.intCmp]
theorem ZbH{x:Operand}{t:TypeId}{b c:Bool}(hx:a.eval x=.bool b)(h:(!b)=c):(execOp a.eval ⟨dst,.unOp .not t x,ty,pos,aft,g⟩).run P w=.ok (.value (.bool c)) w:=by
 subst h;simp[execOp,hx,Op.unary]
theorem ZbG{x:Operand}{t:TypeId}{i z:Int}(hx:a.eval x=.int .i64 i)(h:IntKind.i64.wrap (0-i)=z):(execOp a.eval ⟨dst,.unOp .neg t x,ty,pos,aft,g⟩).run P w=.ok (.value (.int .i64 z)) w:=by
 subst h;simp[execOp,hx,Op.unary,Op.intArith]
theorem Ib{x:Operand}{t e s:Nat}{A:Option Addr}{m c:Nat}(hx:a.eval x=.slice A m c)(ht:fO P t=some (e,s)):(execOp a.eval ⟨dst,.call { callee:=.builtin .len,args:= #[x],argTypes:= #[t]},ty,pos,aft,g⟩).run P w=.ok (.value (.int .i64 m)) w:=by
 unfold fO at ht;split at ht
 .rename_i e' hu;simp[execOp,resolve,invoke,builtin,hx,Builtin.len_,run_underlying hu,goInt]
 .cases ht
theorem Vl{x y:Operand}{t e s b o m c k o':Nat}{i:Int}(hx:a.eval x=.slice (some ⟨b,o,none⟩) m c)(hy:a.eval y=.int .i64 i)(hi:i=(k:Int))(ht:fO P t=some (e,s))(hk:k<m)(ho:o+k*s=o'):
  (execOp a.eval ⟨dst,.indexAddr t x y,ty,pos,aft,g⟩).run P w=.ok (.value (.pointer (some ⟨b,o',none⟩))) w:=by
 subst ho hi;unfold fO at ht;split at ht
 .rename_i e' hu;cases hie:P.info? e' with
  |none=>rw[hie]at ht;simp at ht
  |some i=>
   rw[hie]at ht;simp at ht;obtain⟨rfl,rfl⟩:=ht;simp[execOp,hx,hy,Instr.indexAt,run_underlying hu,asIntOf,hk,sizeOf,typeInfo,hie,Addr.add_mid]
 .cases ht
theorem XM{t:TypeId}{zs:bW}(hz:zeroOf P t=some zs):(execOp a.eval ⟨dst,.alloc t,ty,pos,aft,g⟩).run P w=.ok (.value (.pointer (some ⟨w.heap.size,0,none⟩))) (w.alloc (.cells zs.toArray t)):=by
 unfold zeroOf at hz;cases hi:P.info? t with
 |none=>rw[hi]at hz;simp at hz
 |some i=>
  rw[hi]at hz;simp only[Option.bind_some]at hz;cases hzz:i.zero with
  |none=>rw[hzz]at hz;simp at hz
  |some z=>
   rw[hzz]at hz;simp at hz;subst hz;simp[execOp,Instr.alloc,zeroValue,typeInfo,hi,hzz,newVar,newRow]
theorem ZbA{t:TypeId}{x:Operand}{us:bW}(hx:a.eval x=v)(hv:v.cells=us.toArray):(execOp a.eval ⟨dst,.box t x,ty,pos,aft,g⟩).run P w=.ok (.value (.pointer (some ⟨w.heap.size,0,none⟩))) (w.alloc (.cells us.toArray t)):=by
 simp[execOp,Instr.box,hx,hv,newVar,newRow]
theorem XO{t:TypeId}{ps:Array (Nat×Operand)}{qs:Array (Nat×Value)}(hp:(ps.map fun(i,x)=>(i,a.eval x))=qs)(hr:(Instr.build t qs).run P w=.ok v w):(execOp a.eval ⟨dst,.build t ps,ty,pos,aft,g⟩).run P w=.ok (.value v) w:=by
 subst hp;simp only[execOp,Sem.run_bind,hr,Result.andThen_ok,Sem.run_pure]
theorem Vk{t m:Nat}{ps:Array (Nat×Operand)}{qs:Array (Nat×Value)}(hp:(ps.map fun(i,x)=>(i,a.eval x))=qs)(hr:(Instr.buildSlice t m qs).run P w=.ok v w'):(execOp a.eval ⟨dst,.buildSlice t m ps,ty,pos,aft,g⟩).run P w=.ok (.value v) w':=by
 subst hp;simp only[execOp,Sem.run_bind,hr,Result.andThen_ok,Sem.run_pure]
theorem XU{x:Operand}{t e s b o m c:Nat}{lo:Operand}{i:Nat}(hx:a.eval x=.slice (some ⟨b,o,none⟩) m c)(hlo:a.eval lo=.int .i64 i)(ht:fO P t=some (e,s))(hi:i<=m)(hc:i<c):
  (execOp a.eval ⟨dst,.slice t x (some lo) none none,ty,pos,aft,g⟩).run P w=.ok (.value (.slice (some ⟨b,o+i*s,none⟩) (m-i) (c-i))) w:=by
 unfold fO at ht;split at ht
 .rename_i e' hu;cases hie:P.info? e' with
  |none=>rw[hie]at ht;simp at ht
  |some t=>
   rw[hie]at ht;simp at ht;obtain⟨rfl,rfl⟩:=ht;have hne:c≠i:=by omega
   simp[execOp,hx,hlo,Instr.sliceAt,run_underlying hu,Instr.slice,Instr.sliceBounds,Instr.sliceBound,asIntOf,hi,sizeOf,typeInfo,hie,Addr.add_mid,hne]
 .cases ht
theorem Ru{x:Operand}{t e s b o m c:Nat}{lo:Operand}{i:Nat}(hx:a.eval x=.slice (some ⟨b,o,none⟩) m c)(hlo:a.eval lo=.int .i64 i)(ht:fO P t=some (e,s))(hi:i<=m)(hc:m<=c):
  (execOp a.eval ⟨dst,.slice t x (some lo) none none,ty,pos,aft,g⟩).run P w=.ok (.value (.slice (some ⟨b,if c=i then o else o+i*s,none⟩) (m-i) (c-i))) w:=by
 unfold fO at ht;split at ht
 .rename_i e' hu;cases hie:P.info? e' with
  |none=>rw[hie]at ht;simp at ht
  |some t=>
   rw[hie]at ht;simp at ht;obtain⟨rfl,rfl⟩:=ht
   by_cases hne:c=i<;>simp[execOp,hx,hlo,Instr.sliceAt,run_underlying hu,Instr.slice,Instr.sliceBounds,Instr.sliceBound,asIntOf,hi,sizeOf,typeInfo,hie,Addr.add_mid,hne]
 .cases ht
theorem Ie{x:Operand}{t e s b o m c:Nat}{lo:Operand}{i:Nat}(hx:a.eval x=.slice (some ⟨b,o,none⟩) m c)(hlo:a.eval lo=.int .i64 i)(ht:fO P t=some (e,s))(hc:i<=c):
  (execOp a.eval ⟨dst,.slice t x none (some lo) none,ty,pos,aft,g⟩).run P w=.ok (.value (.slice (some ⟨b,o,none⟩) i c)) w:=by
 unfold fO at ht;split at ht
 .rename_i e' hu;cases hie:P.info? e' with
  |none=>rw[hie]at ht;simp at ht
  |some t=>
   rw[hie]at ht;simp at ht;obtain⟨rfl,rfl⟩:=ht;simp[execOp,hx,hlo,Instr.sliceAt,run_underlying hu,Instr.slice,Instr.sliceBounds,Instr.sliceBound,asIntOf,hc,sizeOf,typeInfo,hie,Addr.add_mid]
 .cases ht
theorem Vq{x:Operand}{t e s m c:Nat}{A:Option Addr}{lo hi:Operand}{i j:Nat}(hx:a.eval x=.slice A m c)(hlo:a.eval lo=.int .i64 i)(hhi:a.eval hi=.int .i64 j)(ht:fO P t=some (e,s))(hi':i<=j)(hc:j<=c):
  (execOp a.eval ⟨dst,.slice t x (some lo) (some hi) none,ty,pos,aft,g⟩).run P w=.ok (.value (.slice (if c=i then A else A.map (·.add (i*s))) (j-i) (c-i))) w:=by
 unfold fO at ht;split at ht
 .rename_i e' hu;cases hie:P.info? e' with
  |none=>rw[hie]at ht;simp at ht
  |some t=>
   rw[hie]at ht;simp at ht;obtain⟨rfl,rfl⟩:=ht
   by_cases hne:c=i
   .have hj:j=i:=by omega
    subst hne;subst hj;simp[execOp,hx,hlo,hhi,Instr.sliceAt,run_underlying hu,Instr.slice,Instr.sliceBounds,Instr.sliceBound,asIntOf,sizeOf,typeInfo,hie]
   .simp[execOp,hx,hlo,hhi,Instr.sliceAt,run_underlying hu,Instr.slice,Instr.sliceBounds,Instr.sliceBound,asIntOf,hi',hc,sizeOf,typeInfo,hie,hne]
 .cases ht
theorem Rw{x:Operand}{t e s m c:Nat}{A:Option Addr}{lo:Operand}{i:Nat}(hx:a.eval x=.slice A m c)(hlo:a.eval lo=.int .i64 i)(ht:fO P t=some (e,s))(hi':i<=m):
  (execOp a.eval ⟨dst,.slice t x (some lo) none none,ty,pos,aft,g⟩).run P w=.ok (.value (.slice (if c=i then A else A.map (·.add (i*s))) (m-i) (c-i))) w:=by
 unfold fO at ht;split at ht
 .rename_i e' hu;cases hie:P.info? e' with
  |none=>rw[hie]at ht;simp at ht
  |some t=>
   rw[hie]at ht;simp at ht;obtain⟨rfl,rfl⟩:=ht
   by_cases hne:c=i<;>simp[execOp,hx,hlo,Instr.sliceAt,run_underlying hu,Instr.slice,Instr.sliceBounds,Instr.sliceBound,asIntOf,hi',sizeOf,typeInfo,hie,hne]
 .cases ht
theorem Rv{x:Operand}{t e s m c:Nat}{A:Option Addr}{hi:Operand}{j:Nat}(hx:a.eval x=.slice A m c)(hhi:a.eval hi=.int .i64 j)(ht:fO P t=some (e,s))(hc:j<=c):
  (execOp a.eval ⟨dst,.slice t x none (some hi) none,ty,pos,aft,g⟩).run P w=.ok (.value (.slice (if c=0 then A else A.map (·.add (0*s))) j c)) w:=by
 unfold fO at ht;split at ht
 .rename_i e' hu;cases hie:P.info? e' with
  |none=>rw[hie]at ht;simp at ht
  |some t=>
   rw[hie]at ht;simp at ht;obtain⟨rfl,rfl⟩:=ht
   by_cases hne:c=0
   .have hj:j=0:=by omega
    subst hne;subst hj;simp[execOp,hx,hhi,Instr.sliceAt,run_underlying hu,Instr.slice,Instr.sliceBounds,Instr.sliceBound,asIntOf,sizeOf,typeInfo,hie]
   .simp[execOp,hx,hhi,Instr.sliceAt,run_underlying hu,Instr.slice,Instr.sliceBounds,Instr.sliceBound,asIntOf,hc,sizeOf,typeInfo,hie,hne]
 .cases ht
end
end Go.Tr
namespace Go.Tr
open Go Go.RowKit
def eH.emp:eH where
 p _ F:=F=[]
 keep:=fun h _=>h
 lt:=fun h b hb=>by cases h;simp at hb
instance:Inhabited eH:=⟨eH.emp⟩
structure Step where
 dep:List Nat:=[]
 val:List Value->Value
 ok:List Value->Prop:=fun _=>True
 rd:List Nat:=[]
structure Lab where
 dep:List Nat:=[]
 res:List Value->eH
 prod:Option Nat:=none
 cons:Option Nat:=none
structure Flow where
 steps:List Step
 labs:List Lab
 anc:List (List Nat)
def TQ(x:Option (List Nat))(j:Nat):Bool:=match x with|some l=>l.contains j|none=>false
section
variable {P:Program}{ops:Array Oper}{fl:Flow}{l0:List (Nat×Value)}{n:Nat}{w0:World}{F0:dF}
def Gives(P:Program)(ops:Array Oper)(o:Oper)(a:Act)(w:World)(K:Value->World->Prop):Prop:=
 (Region.wanted o (yielded ops a.tmps)=true/\((∃v w',(execOp a.eval o).run P w=.ok (.value v) w'/\K v w')\/(∃w',(execOp a.eval o).run P w=.ok .skip w'/\K undef w')\/
  ∃f args,(execOp a.eval o).run P w=.ok (.enter f args) w/\Calls P f args w fun e w'=>∃v,e=.returned v/\K v w'))\/
 (Region.wanted o (yielded ops a.tmps)=false/\K undef w)
theorem Gives.wpOp{Q:Exit->Act->World->Prop}{o:Oper}{a:Act}{w:World}{K:Value->World->Prop}{K':Act->World->Prop}{i:Nat}(h:Gives P ops o a w K)(hi:ops[i]? =some o)(hk:∀v w',K v w'->K' (a.put o.dst v) w'):wpOp P ops Q i K' a w:=by
 unfold Go.wpOp;simp only[hi];rcases h with⟨hw,h⟩|⟨hw,h⟩
 .rw[if_pos hw];refine .inl ?_;unfold Oper.wp;rcases h with⟨v,w',hr,h⟩|⟨w',hr,h⟩|⟨f,args,hr,h⟩
  .rw[hr];exact hk _ _ h
  .rw[hr];exact hk _ _ h
  .rw[hr];refine h.mono fun e w' h=> ?_
   obtain⟨v,rfl,h⟩:=h;exact hk _ _ h
 .rw[if_neg (by simp[hw])];exact hk _ _ h
theorem Jc{α:Type}(p p1 p2 p3:α->Bool):∀(l:List α),(∀x∈l,(p x=(p1 x||p2 x||p3 x))/\(p1 x&&p2 x)=false/\(p1 x&&p3 x)=false/\(p2 x&&p3 x)=false)->(l.filter p).Perm (l.filter p1++(l.filter p2++l.filter p3))
 |[],_=>by simp
 |x::l,h=>by
  have ih:=Jc p p1 p2 p3 l (fun y hy=>h y (by simp[hy]));obtain⟨h0,h12,h13,h23⟩:=h x (by simp);cases e1:p1 x<;>cases e2:p2 x<;>cases e3:p3 x<;>simp[e1,e2,e3]at h0 h12 h13 h23
  .simpa[List.filter_cons,e1,e2,e3,h0]using ih
  .simp only[List.filter_cons,e1,e2,e3,h0,if_true,Bool.false_eq_true,if_false];refine(ih.cons x).trans ?_;rw[<-qF,<-qF];exact List.perm_middle.symm
  .simp only[List.filter_cons,e1,e2,e3,h0,if_true,Bool.false_eq_true,if_false,List.cons_append];exact(ih.cons x).trans List.perm_middle.symm
  .simp only[List.filter_cons,e1,e2,e3,h0,if_true,Bool.false_eq_true,if_false,List.cons_append];exact ih.cons x
theorem qb{x:Option (List Nat)}{j:Nat}(h:TQ x j=true):∃l,x=some l/\j∈l:=by
 unfold TQ at h;cases x with
 |none=>simp at h
 |some l=>exact⟨l,rfl,by simpa using h⟩
end
end Go.Tr
namespace Go.Tr
open Go Go.RowKit
section
variable {P:Program}{ops:Array Oper}{Q Q':Exit->Act->World->Prop}{a:Act}{w w':World}{rest:List Oper}{n:Nat}{l:List (Nat×Value)}{v:Value}{d:Nat}{op:Op}{ty:TypeId}{pos:String}{aft:Array Edge}{next:Act->World->Prop}{id id':Nat}
def Nr(tmps:Array Value):ResultVar->Sem Value
 | .tmp t=>pure (tmps.getD t undef)
 | .cell a t=>do loadVar t (<-asAddr (tmps.getD a undef))
theorem NS(fn:Func)(tmps:Array Value):results fn tmps=(do let vs <-fn.results.mapM (Nr tmps);pure (if h:vs.size=1 then vs[0]else .tuple vs)):=by
 unfold results;rfl
variable {w0:World}{F0:dF}{rs rs' ss:List eH}{r r':eH}
theorem Inv.weak(h:Inv w0 F0 w (r::rs))(k:∀F,r.p w F->∃F',(∀b∈F',b∈F)/\r'.p w F'):Inv w0 F0 w (r'::rs):=by
 obtain⟨G,⟨F,G',rfl,h1,h2,h3⟩,h4⟩:=h.sep;obtain⟨F',h5,h6⟩:=k F h1
 exact⟨h.wF,F'++G',⟨F',G',rfl,h6,h2,fun b hb=>h3 b (h5 b hb)⟩,fun b hb=>by
  rcases List.mem_append.1 hb with hb|hb
  .exact h4 b (by simp[h5 b hb])
  .exact h4 b (by simp[hb])⟩
theorem Inv.part{s:eH}(h:Inv w0 F0 w (r::rs))(k:∀F,r.p w F->∃F1 F2,(∀b∈F1,b∈F)/\(∀b∈F2,b∈F)/\(∀b∈F1,b∉F2)/\r'.p w F1/\s.p w F2):Inv w0 F0 w (r'::s::rs):=by
 obtain⟨G,⟨F,G',rfl,h1,h2,h3⟩,h4⟩:=h.sep;obtain⟨F1,F2,k1,k2,k3,k4,k5⟩:=k F h1;refine⟨h.wF,F1++(F2++G'),⟨F1,F2++G',rfl,k4,⟨F2,G',rfl,k5,h2,fun b hb=>h3 b (k2 b hb)⟩,fun b hb hm=> ?_⟩,fun b hb=> ?_⟩
 .rcases List.mem_append.1 hm with hm|hm
  .exact k3 b hb hm
  .exact h3 b (k1 b hb) hm
 .simp only[List.mem_append]at hb;rcases hb with hb|hb|hb
  .exact h4 b (by simp[k1 b hb])
  .exact h4 b (by simp[k2 b hb])
  .exact h4 b (by simp[hb])
theorem Inv.join{s:eH}(h:Inv w0 F0 w (r::s::rs))(k:∀F1 F2,r.p w F1->s.p w F2->(∀b∈F1,b∉F2)->∃F,(∀b∈F,b∈F1\/b∈F2)/\r'.p w F):Inv w0 F0 w (r'::rs):=by
 obtain⟨G,⟨F1,G',rfl,h1,⟨F2,G2,rfl,h2,h3,h4⟩,h5⟩,h6⟩:=h.sep;obtain⟨F,k1,k2⟩:=k F1 F2 h1 h2 (fun b hb hm=>h5 b hb (by simp[hm]));refine⟨h.wF,F++G2,⟨F,G2,rfl,k2,h3,fun b hb hm=> ?_⟩,fun b hb=> ?_⟩
 .rcases k1 b hb with hb|hb
  .exact h5 b hb (by simp[hm])
  .exact h4 b hb hm
 .rcases List.mem_append.1 hb with hb|hb
  .rcases k1 b hb with hb|hb
   .exact h6 b (by simp[hb])
   .exact h6 b (by simp[hb])
  .exact h6 b (by simp[hb])
theorem Inv.put(h:Inv w0 F0 w rs)(i:Nat){b o:Nat}{cs us cs':bW}{t:TypeId}(hr:rs[i]? =some (Oq b cs t))(ho:Nat.ble (o+us.length) cs.length=true)(hcs:cs.take o++us++cs.drop (o+us.length)=cs'):
  Inv w0 F0 (w.setCells b o us) (rs.set i (Oq b cs' t)):=by
 subst hcs;obtain⟨h1,h2⟩:=vM (us:=us) (h.dL i hr) (by simpa using ho);exact(Inv.set (h.front i hr) ⟨_,h1,rfl⟩ h2).back i hr
theorem P5{f:FuncId}{t:Operand}{xs:List Operand}{ts:Array TypeId}{vs cs:bW}{dst:Option Nat}{g:Option (Nat×Bool)}(hc:a.eval t=.func (.func f) #[] cs.toArray)(hx:xs.map a.eval=vs)(hf:bH P f=true):(execOp a.eval ⟨dst,.call { callee:=.value t,args:=xs.toArray,argTypes:=ts},ty,pos,aft,g⟩).run P w=.ok (.enter f (vs++cs).toArray) w:=by
 subst hx;unfold bH at hf;cases hq:P.funcs[f]? with
 |none=>rw[hq]at hf;simp at hf
 |some fn=>
  rw[hq]at hf;simp only[qD,Bool.not_eq_true',beq_eq_false_iff_ne,ne_eq]at hf;have hb:¬fn.body=none:=by cases h:fn.body<;>simp_all
  simp[execOp,resolve,Deferred.ofValue,hc,invoke,callFunc,hq,hf.1,hb]
theorem Inv.take1(h:Inv w0 F0 w (r::rs)):∃F,r.p w F/\(∀r' F1,(∀b∈F1,b∈F)->eH.p r' w F1->Inv w0 F0 w (r'::rs))/\
  ∀r' s F1 F2,(∀b∈F1,b∈F)->(∀b∈F2,b∈F)->(∀b∈F1,b∉F2)->eH.p r' w F1->eH.p s w F2->Inv w0 F0 w (r'::s::rs):=by
 obtain⟨G,⟨F,G',rfl,h1,h2,h3⟩,h4⟩:=h.sep;refine⟨F,h1,fun r' F1 k1 k2=> ?_,fun r' s F1 F2 k1 k2 k3 k4 k5=> ?_⟩
 .exact⟨h.wF,F1++G',⟨F1,G',rfl,k2,h2,fun b hb=>h3 b (k1 b hb)⟩,fun b hb=>by
   rcases List.mem_append.1 hb with hb|hb
   .exact h4 b (by simp[k1 b hb])
   .exact h4 b (by simp[hb])⟩
 .refine⟨h.wF,F1++(F2++G'),⟨F1,F2++G',rfl,k4,⟨F2,G',rfl,k5,h2,fun b hb=>h3 b (k2 b hb)⟩,fun b hb hm=> ?_⟩,fun b hb=> ?_⟩
  .rcases List.mem_append.1 hm with hm|hm
   .exact k3 b hb hm
   .exact h3 b (k1 b hb) hm
  .simp only[List.mem_append]at hb;rcases hb with hb|hb|hb
   .exact h4 b (by simp[k1 b hb])
   .exact h4 b (by simp[k2 b hb])
   .exact h4 b (by simp[hb])
theorem Inv.zA(h:Inv w0 F0 w rs)(hp:r.p w []):Inv w0 F0 w (r::rs):=by
 obtain⟨G,h1,h2⟩:=h.sep;exact⟨h.wF,G,⟨[],G,rfl,hp,h1,by simp⟩,h2⟩
section
variable {us:bW}{ds es:List D}{x u:Value}{m:Nat}
theorem Inv.y8(h:Inv w0 F0 w rs):Inv w0 F0 w (dU [] []::rs):=h.zA ⟨TN.done,Own.nil _ _⟩
theorem Inv.Nj(h:Inv w0 F0 w (dU us ds::rs))(hx:x.oneCell'=true):Inv w0 F0 w (dU (x::us) (.v x::ds)::rs):=by
 obtain⟨F,⟨h1,h2⟩,h3,_⟩:=h.take1;exact h3 _ F (fun _ h=>h) ⟨TN.vR hx h1,h2⟩
theorem Inv.take2{s:eH}(h:Inv w0 F0 w (r::s::rs)):∃F1 F2,r.p w F1/\s.p w F2/\(∀b∈F1,b∉F2)/\∀r' F,(∀b∈F,b∈F1\/b∈F2)->eH.p r' w F->Inv w0 F0 w (r'::rs):=by
 obtain⟨G,⟨F1,G',rfl,h1,⟨F2,G2,rfl,h2,h3,h4⟩,h5⟩,h6⟩:=h.sep;refine⟨F1,F2,h1,h2,fun b hb hm=>h5 b hb (by simp[hm]),fun r' F k1 k2=>⟨h.wF,F++G2,⟨F,G2,rfl,k2,h3,fun b hb hm=> ?_⟩,fun b hb=> ?_⟩⟩
 .rcases k1 b hb with hb|hb
  .exact h5 b hb (by simp[hm])
  .exact h4 b hb hm
 .rcases List.mem_append.1 hb with hb|hb
  .rcases k1 b hb with hb|hb
   .exact h6 b (by simp[hb])
   .exact h6 b (by simp[hb])
  .exact h6 b (by simp[hb])
theorem Inv.Q7(h:Inv w0 F0 w (Dat u m es::dU us ds::rs)):Inv w0 F0 w (dU (u::us) (.sl m es::ds)::rs):=by
 obtain⟨F1,F2,⟨h1,h2⟩,⟨h3,h4⟩,h5,h6⟩:=h.take2;exact h6 _ (F1++F2) (fun b hb=>List.mem_append.1 hb) ⟨TN.FC h1 h3,Own.join h2 h4 h5⟩
theorem Inv.CW(h:Inv w0 F0 w rs):Inv w0 F0 w (Dat (.slice none 0 0) 0 []::rs):=h.zA ⟨T1.empty none,Own.nil _ _⟩
end
def Mw(b c:Nat)(t:TypeId)(s n:Nat)(ds1:List D)(us:List Value)(ds2:List D):eH where
 p w F:=∃cur u1 u2 b1 b2,F=b::(b1++b2)/\w.heap[b]? =some (.cells cur t (0,0))/\n<=c/\c<=maxLen/\cur.size=c*s/\cur.toList.take (n*s)=u1++(us++u2)/\(u1++(us++u2)).length=n*s/\TN w ds1 b1 u1/\TN w ds2 b2 u2/\Own 0 w (b1++b2)/\b∉b1++b2
 keep:=fun⟨cur,u1,u2,b1,b2,e,h1,h2,h3,h4,h5,h6,h7,h8,h9,h10⟩ k=>by
  subst e;refine⟨cur,u1,u2,b1,b2,rfl,(k.2 b (by simp)).trans h1,h2,h3,h4,h5,h6,h7.keep (k.sub fun y hy=>by simp[hy]),h8.keep (k.sub fun y hy=>by simp[hy]),⟨h9.1,fun y hy=> ?_⟩,h10⟩;obtain⟨h0,cur,t,h11⟩:=h9.2 y hy;exact⟨h0,cur,t,(k.2 y (by simp at hy |-;exact .inr hy)).trans h11⟩
 lt:=fun⟨cur,u1,u2,b1,b2,e,h1,h2,h3,h4,h5,h6,h7,h8,h9,h10⟩ y hy=>by
  subst e;rcases List.mem_cons.1 hy with rfl|hy
  .exact kR h1
  .exact h9.lt y hy
section
variable {t:TypeId}{m:Nat}
theorem Inv.open_{α:Type}{f:α->List D}{s:Nat}(hs:∀x,(f x).length=s){xs:List α}(h:Inv w0 F0 w (Gr v t s m (xs.flatMap f)::rs))(hm:xs.length=m){k:Nat}(hk:k<m):
  ∃b c x us,v=.slice (some ⟨b,0,none⟩) m c/\m<=9223372036854775807/\xs[k]? =some x/\Inv w0 F0 w (Mw b c t s m ((xs.take k).flatMap f) us ((xs.drop (k+1)).flatMap f)::dU us (f x)::rs):=by
 obtain⟨F,⟨bs,us,rfl,hg⟩,_,h3⟩:=h.take1;have hk':k<xs.length:=hm▸hk
 have hx:xs.flatMap f=(xs.take k).flatMap f++(f xs[k]++(xs.drop (k+1)).flatMap f):=by
  conv=>lhs;rw[<-List.take_append_drop k xs,List.drop_eq_getElem_cons hk',List.flatMap_append,qU]
 obtain⟨⟨hl0,hrow⟩,htn,hown,hout⟩:=hg;rcases hrow with⟨_,hn⟩|⟨g,cap,cur,hv,hlo,hgg,hnc,hcm,hcs,htk⟩
 .omega
 subst hv;rw[hx]at htn;obtain⟨b1,b',u1,u',rfl,rfl,t1,htn⟩:=TN.append.1 htn;obtain⟨b2,b3,u2,u3,rfl,rfl,t2,t3⟩:=TN.append.1 htn;have hgb:g∉b1++(b2++b3):=hout g rfl;have hnd:=List.nodup_append.1 hown.1;have hnd2:=List.nodup_append.1 hnd.2.1;have hrl:yG (.slice (some ⟨g,0,none⟩) m cap)=[g]:=rfl;refine⟨g,cap,xs[k],u2,rfl,by unfold maxLen at hcm;omega,qB hk',h3 _ _ (g::(b1++b3)) b2 (fun y hy=> ?_) (fun y hy=>by rw[hrl];simp[hy]) (fun y hy hm2=> ?_) ⟨cur,u1,u3,b1,b3,rfl,hgg,hnc,hcm,hcs,htk,hl0,t1,t3,⟨List.nodup_append.2 ⟨hnd.1,hnd2.2.1,fun y hy z hz e=>hnd.2.2 y hy z (by simp[hz]) e⟩,fun y hy=>hown.2 y (by simp at hy |-;rcases hy with h|h<;>simp[h])⟩,fun hm2=>hgb (by simp at hm2 |-;rcases hm2 with h|h<;>simp[h])⟩ ⟨t2,hnd2.1,fun y hy=>hown.2 y (by simp[hy])⟩⟩
 .rw[hrl];simp at hy |-;rcases hy with h|h|h<;>simp[h]
 .rcases List.mem_cons.1 hy with rfl|hy
  .exact hgb (by simp[hm2])
  .rcases List.mem_append.1 hy with hy|hy
   .exact hnd.2.2 y hy y (by simp[hm2]) rfl
   .exact hnd2.2.2 y hm2 y hy rfl
theorem Inv.shut{b c s:Nat}{ds1 ds2 d:List D}{us:bW}(h:Inv w0 F0 w (Mw b c t s m ds1 us ds2::dU us d::rs)):Inv w0 F0 w (Gr (.slice (some ⟨b,0,none⟩) m c) t s m (ds1++(d++ds2))::rs):=by
 obtain⟨F1,F2,⟨cur,u1,u2,b1,b2,rfl,h1,h2,h3,h4,h5,h6,h7,h8,h9,h10⟩,⟨k1,k2⟩,hd,hf⟩:=h.take2;have hnd:=List.nodup_append.1 h9.1;refine hf _ (b::(b1++(F2++b2))) (fun y hy=> ?_) ⟨b1++(F2++b2),u1++(us++u2),rfl,⟨⟨h6,.inr ⟨b,c,cur,rfl,Nat.zero_le _,h1,h2,h3,h4,h5⟩⟩,TN.append.2 ⟨b1,_,u1,_,rfl,rfl,h7,TN.append.2 ⟨F2,b2,us,u2,rfl,rfl,k1,h8⟩⟩,⟨?_,fun y hy=> ?_⟩,fun g hg hm=> ?_⟩⟩
 .simp at hy |-;rcases hy with h|h|h|h<;>simp[h]
 .refine List.nodup_append.2 ⟨hnd.1,List.nodup_append.2 ⟨k2.1,hnd.2.1,fun y hy z hz e=> ?_⟩,fun y hy z hz e=> ?_⟩
  .subst e;exact hd y (by simp[hz]) hy
  .subst e;rcases List.mem_append.1 hz with hz|hz
   .exact hd y (by simp[hy]) hz
   .exact hnd.2.2 y hy y hz rfl
 .simp only[List.mem_append]at hy;rcases hy with h|h|h
  .exact h9.2 y (by simp[h])
  .exact k2.2 y h
  .exact h9.2 y (by simp[h])
 .simp only[Value.ownBlock,Option.some.injEq]at hg;subst hg;simp only[List.mem_append]at hm;rcases hm with h|h|h
  .exact h10 (by simp[h])
  .exact hd b (by simp) h
  .exact h10 (by simp[h])
theorem LV{α:Type}{f:α->List D}{xs:List α}{k:Nat}{y:α}(hk:k<xs.length):(xs.take k).flatMap f++(f y++(xs.drop (k+1)).flatMap f)=(xs.set k y).flatMap f:=by
 rw[List.set_eq_take_append_cons_drop,if_pos hk,List.flatMap_append,qU]
theorem Inv.U5{b c s:Nat}{ds1 ds2:List D}{us:bW}(h:Inv w0 F0 w rs)(i:Nat)(hr:rs[i]? =some (Mw b c t s m ds1 us ds2)){k:Nat}(hl:ds1.length=k){j:Nat}{u:Value}(hu:us[j]? =some u):w.cell? ⟨b,k+j,none⟩=some u:=by
 obtain⟨F,cur,u1,u2,b1,b2,rfl,h1,h2,h3,h4,h5,h6,h7,h8,h9,h10⟩:=h.mem i hr;rw[cell_of_row w b _ cur t (0,0) h1,<-Array.getElem?_toList];have hj:=(qE.1 hu).1;have l1:=h7.length
 have:(cur.toList.take (m*s))[k+j]? =some u:=by
  rw[h5,qL (by omega),l1,hl,Nat.add_sub_cancel_left,qM hj];exact hu
 rw[List.getElem?_take]at this;split at this
 .exact this
 .cases this
theorem Inv.Di{b c s:Nat}{ds1 ds2:List D}{us:bW}(h:Inv w0 F0 w rs)(i:Nat)(hr:rs[i]? =some (Mw b c t s m ds1 us ds2)){k:Nat}(hl:ds1.length=k):∃cur,w.heap[b]? =some (.cells cur t (0,0))/\k+us.length<=cur.size:=by
 obtain⟨F,cur,u1,u2,b1,b2,rfl,h1,h2,h3,h4,h5,h6,h7,h8,h9,h10⟩:=h.mem i hr;have h11:=congrArg List.length h5;have l1:=h7.length;simp only[List.length_take,qA,Array.length_toList]at h11;exact⟨cur,h1,by omega⟩
theorem Inv.Dh{b c s:Nat}{ds1 ds2:List D}{us vs us':bW}(h:Inv w0 F0 w rs)(i:Nat)(hr:rs[i]? =some (Mw b c t s m ds1 us ds2)){k:Nat}(hl:ds1.length=k){j:Nat}(hj:Nat.ble (j+vs.length) us.length=true)(hu:us.take j++vs++us.drop (j+vs.length)=us'):
  Inv w0 F0 (w.setCells b (k+j) vs) (rs.set i (Mw b c t s m ds1 us' ds2)):=by
 subst hu;have hj':j+vs.length<=us.length:=by simpa using hj
 obtain⟨F,h2,_,h4⟩:=Inv.frame (pre:=[Mw b c t s m ds1 us ds2]) (rest:=rs.eraseIdx i) (h.front i hr);obtain⟨F1,G1,rfl,⟨cur,u1,u2,b1,b2,rfl,k1,k2,k3,k4,k5,k6,k7,k8,k9,k10⟩,rfl,_⟩:=h2;have l1:=k7.length;have hsz:(cur.toList.take (m*s)).length=m*s:=by rw[k5];exact k6
 have hle:m*s<=cur.size:=by simp only[List.length_take,Array.length_toList]at hsz;omega
 have hk6:=k6;simp only[qA]at hk6;obtain⟨h5,h6⟩:=vM (us:=vs) (cs:=cur.toList) (o:=k+j) (w:=w) (b:=b) (T:=t) (by simpa using k1) (by simp only[Array.length_toList];omega);have hkp:Keeps w (w.setCells b (k+j) vs) (b1++b2):=⟨h6.size,fun y hy=>h6.other y (k9.lt y hy) (fun hm=>by simp at hm;subst hm;exact k10 hy)⟩;refine Inv.back i hr (h4 _ [_] ⟨⟨h6.os,h6.tape,h6.output,h6.size,fun y hy hn=>h6.other y hy (fun hm=>hn (by simp at hm;simp[hm]))⟩,_,⟨_,[],rfl,⟨(cur.toList.take (k+j)++vs++cur.toList.drop (k+j+vs.length)).toArray,u1,u2,b1,b2,rfl,h5,k2,k3,?_,?_,?_,k7.keep (hkp.sub fun y hy=>by simp[hy]),k8.keep (hkp.sub fun y hy=>by simp[hy]),⟨k9.1,fun y hy=> ?_⟩,k10⟩,rfl,by simp⟩,fun y hy=>.inl (by simpa using hy)⟩)
 .simp only[List.size_toArray,qA,List.length_take,List.length_drop,Array.length_toList];omega
 .simp only[]
  have e1:cur.toList.take (k+j)=u1++us.take j:=by
   have:=congrArg (List.take (k+j)) k5;rw[List.take_take,Nat.min_eq_left (by omega)]at this;rw[this,List.take_append,qN (by omega),l1,hl,Nat.add_sub_cancel_left,List.take_append_of_le_length (by omega)]
  apply List.ext_getElem?;intro q
  by_cases hq:q<m*s
  .rw[List.getElem?_take,if_pos hq,e1];have hcq:cur.toList[q]? =(u1++(us++u2))[q]? :=by rw[<-k5,List.getElem?_take,if_pos hq]
   simp only[List.getElem?_append,qA,List.length_take,List.getElem?_drop,List.getElem?_take]at hcq |-
   grind
  .rw[List.getElem?_eq_none (by simp;omega),List.getElem?_eq_none (by simp;omega)]
 .simp only[qA,List.length_take,List.length_drop]at hk6 |-;omega
 .obtain⟨h0,cur2,t2,h11⟩:=k9.2 y hy;exact⟨h0,cur2,t2,(hkp.2 y hy).trans h11⟩
theorem pv{l:List (Nat×Operand)}{l':List (Nat×Value)}(h:l.map (fun x=>(x.1,a.eval x.2))=l'):(l.toArray.map fun(i,x)=>(i,a.eval x))=l'.toArray:=by subst h;simp
theorem RQ{k:Nat}(h:k+1<=9223372036854775807):IntKind.i64.wrap ((k:Int)+1)=((k+1:Nat):Int):=by rw[qO _ (by omega)];rfl
theorem ZbC{x:Operand}{i:Nat}{vs:bW}{dst:Option Nat}{g:Option (Nat×Bool)}(hx:a.eval x=.tuple vs.toArray)(hi:vs[i]? =some v):(execOp a.eval ⟨dst,.extract x i,ty,pos,aft,g⟩).run P w=.ok (.value v) w:=by
 simp[execOp,hx,Instr.extract,hi]
theorem XQ{x:Operand}{t i:Nat}{u:Value}{dst:Option Nat}{g:Option (Nat×Bool)}(hx:a.eval x=u)(hr:(Instr.field t u i).run P w=.ok v w):(execOp a.eval ⟨dst,.field t x i,ty,pos,aft,g⟩).run P w=.ok (.value v) w:=by
 simp[execOp,hx,hr]
theorem ZbF{f:FuncId}{xs:List Operand}{vs:bW}{dst:Option Nat}{g:Option (Nat×Bool)}(hx:xs.map a.eval=vs):(execOp a.eval ⟨dst,.makeFunc (.func f) #[] xs.toArray,ty,pos,aft,g⟩).run P w=.ok (.value (.func (.func f) #[] vs.toArray)) w:=by
 subst hx;simp[execOp,Instr.makeFunc]
theorem Vp{c x y:Operand}{dst:Option Nat}{g:Option (Nat×Bool)}(hc:a.eval c=.bool true)(hx:a.eval x=v):(execOp a.eval ⟨dst,.pick c x y,ty,pos,aft,g⟩).run P w=.ok (.value v) w:=by simp[execOp,hc,hx,asBool]
theorem Vo{c x y:Operand}{dst:Option Nat}{g:Option (Nat×Bool)}(hc:a.eval c=.bool false)(hx:a.eval y=v):(execOp a.eval ⟨dst,.pick c x y,ty,pos,aft,g⟩).run P w=.ok (.value v) w:=by simp[execOp,hc,hx,asBool]
section
variable {o:Oper}{K:Value->World->Prop}
end
theorem YK{x y:Operand}{t:TypeId}{u v':Value}{dst:Option Nat}{g:Option (Nat×Bool)}(hx:a.eval x=v)(hy:a.eval y=u)(hr:(Builtin.append_ #[t,t] ty #[v,u]).run P w=.ok v' w'):
  (execOp a.eval ⟨dst,.call { callee:=.builtin .append,args:= #[x,y],argTypes:= #[t,t]},ty,pos,aft,g⟩).run P w=.ok (.value v') w':=by
 simp[execOp,resolve,invoke,builtin,hx,hy,hr]
theorem Inv.M8(h:Inv w0 F0 w rs)(t:TypeId)(s:Nat):Inv w0 F0 w (Gr (.slice none 0 0) t s 0 []::rs):=h.zA ⟨[],[],rfl,GR.nil _ _ _ _⟩
theorem Inv.Yx{s:Nat}{ds:List D}(h:Inv w0 F0 w rs)(i:Nat)(hr:rs[i]? =some (Gr v t s m ds))(hl:ds.length=m*s):∃A c bs,v=.slice A m c/\T1 w (.sl m ds) bs (.slice A m c):=by
 obtain⟨F,bs,us,_,hg⟩:=h.mem i hr;obtain⟨A,c,bs',rfl,h1,_⟩:=hg.res hl;exact⟨A,c,bs',rfl,h1⟩
theorem GR.ZbL{lo:Nat}{us:bW}{s:Nat}{ds:List D}{bs:dF}(h:GR lo w t s v m ds bs us)(hl:ds.length=m*s):∃A c bs',v=.slice A m c/\T1 w (.sl m ds) bs' (.slice A m c)/\Own lo w bs'/\∀b∈bs',b∈yG v++bs:=by
 rcases h.row.2 with⟨rfl,rfl⟩|⟨g,cap,cur,rfl,hb,hgg,hnc,hcm,hcs,htk⟩
 .have hd:ds=[]:=List.eq_nil_of_length_eq_zero (by simpa using hl);subst hd;exact⟨none,0,[],rfl,T1.empty none,Own.nil _ _,by simp⟩
 .rcases Nat.eq_zero_or_pos m with rfl|hn
  .have hd:ds=[]:=List.eq_nil_of_length_eq_zero (by simpa using hl);subst hd;refine⟨some ⟨g,0,none⟩,cap,[],rfl,?_,Own.nil _ _,by simp⟩;unfold T1;exact⟨_,_,rfl,hnc,hcm,.inl ⟨rfl,rfl,rfl⟩⟩
  .have hgb:g∉bs:=h.out g rfl;refine⟨some ⟨g,0,none⟩,cap,g::bs,rfl,?_,⟨List.nodup_cons.2 ⟨hgb,h.own.1⟩,fun b hb'=> ?_⟩,fun b hb'=>by simpa[yG,Value.ownBlock]using hb'⟩
   .unfold T1;refine⟨_,_,rfl,hnc,hcm,.inr ⟨hn,g,0,us,bs,rfl,rfl,kR hgg,fun j u hu=> ?_,h.tn⟩⟩;rw[Nat.zero_add,cell_of_row w g j cur t (0,0) hgg];rw[<-htk,List.getElem?_take]at hu;split at hu
    .simpa using hu
    .cases hu
   .rcases List.mem_cons.1 hb' with rfl|hb'
    .exact⟨hb,cur,t,hgg⟩
    .exact h.own.2 b hb'
theorem Inv.Zx{s:Nat}{ds:List D}(h:Inv w0 F0 w (Gr v t s m ds::rs))(hl:ds.length=m*s):∃A c,v=.slice A m c/\Inv w0 F0 w (Dat (.slice A m c) m ds::rs):=by
 obtain⟨F,⟨bs,us,rfl,hg⟩,h3,_⟩:=h.take1;obtain⟨A,c,bs',rfl,h1,h2,h5⟩:=hg.ZbL hl;exact⟨A,c,rfl,h3 _ bs' h5 ⟨h1,h2⟩⟩
theorem Inv.flat{us:bW}(h:Inv w0 F0 w rs)(h1:us.all (·.oneCell')=true):Inv w0 F0 w (dU us (us.map D.v)::rs):=h.zA ⟨TN.scalars h1,Own.nil _ _⟩
theorem Inv.Xb{us:bW}{ds:List D}{bs:dF}(h:Inv w0 F0 w rs)(ht:TN w ds bs us)(hf:∀d∈ds,∃x,d=.v x):Inv w0 F0 w (dU us ds::rs):=h.zA ⟨(ht.flat hf).2 w,Own.nil _ _⟩
theorem take_len{α:Type}(f:α->List D)(s:Nat)(hs:∀x,(f x).length=s){xs:List α}{k:Nat}(hk:k<xs.length):((xs.take k).flatMap f).length=k*s:=by
 rw[jA f s hs,List.length_take,Nat.min_eq_left (Nat.le_of_lt hk)]
theorem Inv.YN{α:Type}{f:α->List D}{b c s:Nat}{xs:List α}{us:bW}{k:Nat}{y:α}(h:Inv w0 F0 w (Mw b c t s m ((xs.take k).flatMap f) us ((xs.drop (k+1)).flatMap f)::dU us (f y)::rs))(hk:k<xs.length):Inv w0 F0 w (Gr (.slice (some ⟨b,0,none⟩) m c) t s m ((xs.set k y).flatMap f)::rs):=by
 rw[<-LV hk];exact h.shut
theorem Inv.TB{s:Nat}{ds:List D}(h:Inv w0 F0 w rs)(i:Nat)(hr:rs[i]? =some (Gr v t s m ds))(hm:0<m):∃b c,v=.slice (some ⟨b,0,none⟩) m c:=by
 obtain⟨F,bs,us,_,hg⟩:=h.mem i hr;rcases hg.row.2 with⟨_,h0⟩|⟨g,cap,cur,rfl,_⟩
 .omega
 .exact⟨g,cap,rfl⟩
theorem Inv.YJ{b c s:Nat}{d1 d d2:List D}(h:Inv w0 F0 w (Gr (.slice (some ⟨b,0,none⟩) m c) t s m (d1++(d++d2))::rs))(hm:0<m):
  ∃us,Inv w0 F0 w (Mw b c t s m d1 us d2::dU us d::rs):=by
 obtain⟨F,⟨bs,us,rfl,hg⟩,_,h3⟩:=h.take1;obtain⟨⟨hl0,hrow⟩,htn,hown,hout⟩:=hg;rcases hrow with⟨_,hn⟩|⟨g,cap,cur,hv,hlo,hgg,hnc,hcm,hcs,htk⟩
 .omega
 injection hv with hA _ hc
 injection hA with hA
 injection hA with hb _
 subst hb hc;obtain⟨b1,b',u1,u',rfl,rfl,t1,htn⟩:=TN.append.1 htn;obtain⟨b2,b3,u2,u3,rfl,rfl,t2,t3⟩:=TN.append.1 htn;have hgb:b∉b1++(b2++b3):=hout b rfl;have hnd:=List.nodup_append.1 hown.1;have hnd2:=List.nodup_append.1 hnd.2.1;have hrl:yG (.slice (some ⟨b,0,none⟩) m c)=[b]:=rfl;refine⟨u2,h3 _ _ (b::(b1++b3)) b2 (fun y hy=> ?_) (fun y hy=>by rw[hrl];simp[hy]) (fun y hy hm2=> ?_) ⟨cur,u1,u3,b1,b3,rfl,hgg,hnc,hcm,hcs,htk,hl0,t1,t3,⟨List.nodup_append.2 ⟨hnd.1,hnd2.2.1,fun y hy z hz e=>hnd.2.2 y hy z (by simp[hz]) e⟩,fun y hy=>hown.2 y (by simp at hy |-;rcases hy with h|h<;>simp[h])⟩,fun hm2=>hgb (by simp at hm2 |-;rcases hm2 with h|h<;>simp[h])⟩ ⟨t2,hnd2.1,fun y hy=>hown.2 y (by simp[hy])⟩⟩
 .rw[hrl];simp at hy |-;rcases hy with h|h|h<;>simp[h]
 .rcases List.mem_cons.1 hy with rfl|hy
  .exact hgb (by simp[hm2])
  .rcases List.mem_append.1 hy with hy|hy
   .exact hnd.2.2 y hy y (by simp[hm2]) rfl
   .exact hnd2.2.2 y hm2 y hy rfl
theorem Inv.Zbp{b c s:Nat}{d1 d2:List D}{us:bW}(h:Inv w0 F0 w (Gr (.slice (some ⟨b,0,none⟩) m c) t s m (d1++(us.map D.v++d2))::rs))(hm:0<m):Inv w0 F0 w (Mw b c t s m d1 us d2::rs):=by
 obtain⟨us',H⟩:=h.YJ hm;obtain⟨F,hp,_⟩:=H.mem 1 rfl;obtain⟨_,rfl⟩:=TN.EB hp;exact H.drop 1 rfl
theorem Z4{x y:Operand}{tt e u:TypeId}{ad:Addr}{n' c:Nat}{dst:Option Nat}{g:Option (Nat×Bool)}(hx:a.eval x=.slice (some ad) n' c)(hy:a.eval y=.slice none 0 0)(ht:P.underlying tt=some (.slice e)):(execOp a.eval ⟨dst,.binOp .eql tt x y u,ty,pos,aft,g⟩).run P w=.ok (.value (.bool false)) w:=by
 have he:(eqGuard .eql tt x y (.slice (some ad) n' c) (.slice none 0 0)).run P w=.ok () w:=by
  unfold eqGuard;split<;>rfl
 simp[execOp,hx,hy,he,Go.Lib.run_eql_slice_nil w tt e (some ad) n' c 0 0 ht]
theorem Z0{x y:Operand}{tt e u:TypeId}{n' c:Nat}{dst:Option Nat}{g:Option (Nat×Bool)}(hx:a.eval x=.slice none n' c)(hy:a.eval y=.slice none 0 0)(ht:P.underlying tt=some (.slice e)):(execOp a.eval ⟨dst,.binOp .eql tt x y u,ty,pos,aft,g⟩).run P w=.ok (.value (.bool true)) w:=by
 have he:(eqGuard .eql tt x y (.slice none n' c) (.slice none 0 0)).run P w=.ok () w:=by
  unfold eqGuard;split<;>rfl
 simp[execOp,hx,hy,he,Go.Lib.run_eql_slice_nil w tt e none n' c 0 0 ht]
end
end
end Go.Tr
